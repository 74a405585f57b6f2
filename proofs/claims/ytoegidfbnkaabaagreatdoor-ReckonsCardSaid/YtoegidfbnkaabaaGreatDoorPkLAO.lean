/- A part of one proof (PureRp, PureGk, PureGp, PureLn, PureGw, PureTl, PureA, PureC). -/
import Derived.Test.YtoegidfbnkaabaaGreatDoorPkLAN
set_option linter.all false
set_option maxRecDepth 100000
set_option maxHeartbeats 8000000
open Option renaming some → O, none → V
open Bool renaming true → A, false → G
open Nat renaming le_refl → a1s, le_trans → a1t, zero_le → a1H, le_succ_of_le → a30
open List renaming length_append → a1v, length_cons → a1x, mem_cons → a1z, mem_cons_self → a1A, mem_append → a1F, mem_singleton → a1K, mem_cons_of_mem → a2k, mem_or_eq_of_mem_set → a2I, modify_succ_cons → a2L, mem_of_getLast? → a2P, mem_of_mem_tail → a4R
namespace Go.Proofs.YtoegidfbnkaabaaGreatDoor
variable{M N j k n nv pb told:Nat}
namespace P
theorem CP{w:Bs}{s:Nat}(h:ji w n=O s):s<n:=by
 grind [ji]
def adK{n:Nat}:∀ {ws:List Bs} {l:List Nat},x7 n ws=O l->l.length=ws.length/\∀ k∈l,k<n
 | [],l,h=>by
  unfold x7 at h;injection h with h;subst h;exact⟨J,fun _ h=>by cases h⟩
 | w::r,l,h=>by
  unfold x7 at h;split at h
  .rename_i s l' b a;injection h with h;subst h;obtain⟨g1,g2⟩:=adK a;grind [CP]
  grind
theorem TE{w t:Bs}(h:pG w=O t):t=w/\w.length<=10/\w≠[]:=by
 unfold pG at h;grind
def XN{w:Bs}{z:Int}(a:D8 w=O z):gX z=w/\-9223372036854775808<=z/\z<=9223372036854775807:=by
 unfold D8 at a;grind
def aIm{w:Bs}{t:Tm}(h:BG w=O t):eA t/\Tz t=true:=by
 unfold BG at h;split at h
 .rename_i z b;injection h with h;subst h;have c:=(XN b).2;exact⟨by simp_all [eA],J⟩
 .cases a:pG w with
  | none=>grind
  | some x=>
   rw[a] at h;injection h with h;subst h;obtain⟨rfl,c,d⟩:=TE a;exact⟨by grind [eA],J⟩
def P4{w sh:Bs}(h:kS w=O sh) :
  ((w=rS\/w=tj\/w=pF\/w=kE)/\sh=[115])\/((w=Ft\/w=D6)/\sh=[115,99])\/(w=Fu/\sh=[115,115])\/((w=IV\/w=IW)/\sh=[115,110,42])\/((w=mr\/w=xf)/\sh=[110,42])\/((w=jR\/w=jm)/\sh=[112])\/((w=NA\/w=NB)/\sh=[]):=by
 unfold kS at h;split at h
 .grind
 split at h
 .rename_i a;injection h with h;exact .inr (.inl ⟨a,h.symm⟩)
 split at h
 .rename_i a;injection h with h;exact .inr (.inr (.inl ⟨a,h.symm⟩))
 split at h
 .rename_i a;injection h with h;exact .inr (.inr (.inr (.inl ⟨a,h.symm⟩)))
 split at h
 .grind
 split at h
 .grind
 split at h
 .rename_i a;injection h with h;exact .inr (.inr (.inr (.inr (.inr (.inr ⟨a,h.symm⟩)))))
 grind
theorem uH.of{w nm:Bs}{con:Option Tm}{s:List Nat}(h:w∈[rS,Ft,D6,Fu,IV,IW,mr,tj,pF,kE,jR,jm,xf,NA,NB] /\
  (w≠jR->w≠jm->∀ k∈s,k<n)/\(w=rS\/w=Ft\/w=D6\/w=tj\/w=pF\/w=kE\/w=jR\/w=jm->s.length=1)/\(w=Fu->s.length=2)/\(w=IV\/w=IW->2<=s.length) /\
  (w=mr->jw nm=s.length)/\(w=Ft\/w=D6->∃ t,con=O t/\eA t/\Tz t=A)/\nm.length<=20/\s.length<=60/\(∀ k∈s,k<100000)):uH n ⟨w,nm,con,s⟩:=
 ⟨h.1,h.2.1,h.2.2.1,h.2.2.2.1,h.2.2.2.2.1,h.2.2.2.2.2.1,h.2.2.2.2.2.2.1,h.2.2.2.2.2.2.2.1,h.2.2.2.2.2.2.2.2.1,h.2.2.2.2.2.2.2.2.2⟩
def ank{ws:List Bs}{i:In}(x:n<=64)(y:ws.length<=60)(h:rm n ws=O i):uH n i:=by
 unfold rm at h;cases ws with
 | nil=>grind
 | cons w ws=>
  simp only at h;cases o:kS w with
  | none=>grind
  | some sh=>
   rw[o] at h;simp only at h;have r:ws.length<=59:=zg;split at h
   .rename_i z c;split at h
    .grind
    .rename_i p;injection h with h;subst h;simp only[not_or,not_and,Nat.not_lt,ne_eq,Decidable.not_not] at p;obtain⟨j,m⟩:=p;rcases P4 o with⟨hw,rfl⟩| ⟨hw,rfl⟩| ⟨hw,rfl⟩| ⟨hw,rfl⟩| ⟨hw,rfl⟩| ⟨hw,rfl⟩| ⟨hw,rfl⟩
     .cases ws with
      | nil=>grind [lY]
      | cons a ws=>
       simp [lY] at c;cases d:ji a n with
       | none=>grind
       | some s=>
        rw[d] at c;simp at c;obtain⟨rfl,rfl⟩:=c;have:=CP d;rcases hw with rfl | rfl | rfl | rfl<;>exact uH.of ⟨zd,fun _ _ k hk=>by simp at hk;omega,fun _=>rfl,fun h=>absurd h zd,fun h=>absurd h zd,fun h=>absurd h zd,fun h=>absurd h zd,zs,zs,fun k hk=>by simp at hk;omega⟩
     .cases ws with
      | nil=>grind [lY]
      | cons a ws=>
       simp [lY] at c;cases d:ji a n with
       | none=>grind
       | some s=>
        rw[d] at c;simp at c;cases ws with
        | nil=>grind
        | cons b ws=>
         simp at c;cases e:BG b with
         | none=>grind
         | some t=>
          rw[e] at c;simp at c;obtain⟨rfl,rfl⟩:=c;have:=CP d;obtain⟨u,c2⟩:=aIm e;rcases hw with rfl | rfl<;>exact uH.of ⟨zd,fun _ _ k hk=>by simp at hk;omega,fun _=>rfl,fun h=>absurd h zd,fun h=>absurd h zd,fun h=>absurd h zd,fun _=>⟨t,J,u,c2⟩,zs,zs,fun k hk=>by simp at hk;omega⟩
     .cases ws with
      | nil=>grind [lY]
      | cons a ws=>
       simp [lY] at c;cases d:ji a n with
       | none=>grind
       | some s=>
        rw[d] at c;simp at c;cases ws with
        | nil=>grind
        | cons b ws=>
         simp at c;cases e:ji b n with
         | none=>grind
         | some t=>
          rw[e] at c;simp at c;obtain⟨rfl,rfl⟩:=c;have:=CP d;have:=CP e;subst hw;exact uH.of ⟨zg,fun _ _ k hk=>zg,fun h=>absurd h zd,fun _=>rfl,fun h=>absurd h zd,fun h=>absurd h zd,fun h=>absurd h zd,zs,zs,fun k hk=>zg⟩
     .cases ws with
      | nil=>grind [lY]
      | cons a ws=>
       simp [lY] at c;cases d:ji a n with
       | none=>grind
       | some s=>
        rw[d] at c;simp at c;cases ws with
        | nil=>grind
        | cons b ws=>
         simp at c;cases e:pG b with
         | none=>grind
         | some t=>
          rw[e] at c;simp at c;cases f:x7 n ws with
          | none=>grind
          | some l=>
           rw[f] at c;simp at c;subst c;have:=CP d;obtain⟨rfl,nl,-⟩:=TE e;obtain⟨g1,g2⟩:=adK f;have g:(s::l).length<=60:=zg;have q:∀ k∈s::l,k<n:=fun k hk=>by
            grind
           rcases hw with rfl | rfl<;>exact uH.of ⟨zd,fun _ _=>q,fun h=>absurd h zd,fun h=>absurd h zd,fun _=>j zd,fun h=>absurd h zd,fun h=>absurd h zd,zo,g,fun k hk=>by have:=q k hk;omega⟩
     .cases ws with
      | nil=>grind [lY]
      | cons b ws=>
       simp [lY] at c;cases e:pG b with
       | none=>grind
       | some t=>
        rw[e] at c;simp at c;cases f:x7 n ws with
        | none=>grind
        | some l=>
         rw[f] at c;simp at c;subst c;obtain⟨rfl,nl,-⟩:=TE e;obtain⟨g1,g2⟩:=adK f;have g:l.length<=60:=zg;rcases hw with rfl | rfl
         .exact uH.of ⟨by simp_all,fun _ _=>g2,fun h=>absurd h zd,fun h=>absurd h zd,fun h=>absurd h zd,fun _=>m J,fun h=>absurd h zd,zo,g,fun k hk=>zg⟩
         .exact uH.of ⟨by simp_all,fun _ _=>g2,fun h=>absurd h zd,fun h=>absurd h zd,fun h=>absurd h zd,fun h=>absurd h zd,fun h=>absurd h zd,zo,g,fun k hk=>zg⟩
     .cases ws with
      | nil=>grind [lY]
      | cons a ws=>
       simp [lY] at c;cases d:ji a 10000 with
       | none=>grind
       | some s=>
        rw[d] at c;simp at c;obtain⟨rfl,rfl⟩:=c;have:=CP d;rcases hw with rfl | rfl
        .exact uH.of ⟨by simp_all,fun h=>absurd J h,fun _=>rfl,fun h=>absurd h zd,fun h=>absurd h zd,fun h=>absurd h zd,fun h=>absurd h zd,zs,zs,fun k hk=>zg⟩
        .exact uH.of ⟨by simp_all,fun _ h=>absurd J h,fun _=>rfl,fun h=>absurd h zd,fun h=>absurd h zd,fun h=>absurd h zd,fun h=>absurd h zd,zs,zs,fun k hk=>zg⟩
     .simp [lY] at c;obtain⟨rfl,rfl⟩:=c;rcases hw with rfl | rfl<;>exact uH.of ⟨zd,fun _ _ k hk=>by simp at hk,fun h=>absurd h zd,fun h=>absurd h zd,fun h=>absurd h zd,fun h=>absurd h zd,fun h=>absurd h zd,zs,zs,fun k hk=>by simp at hk⟩
   grind
def KP(N:Nat)(c:Co):Prop:=(∀ i∈c.ins,uH c.slots i)/\c.slots<=64/\c.ins.length<=N
structure KQ(N:Nat)(p:Pv):Prop where
 pd:∀ q∈p.dG,q.clauses.length<=N/\∀ c∈q.clauses,KP N c
 ask:∀ c n,p.ask=O (c,n)->KP N c/\n<=c.slots
theorem KP.up{c:Co}(h:KP N c):KP (N+1) c:=⟨h.1,h.2.1,a30 h.2.2⟩
def anl{l:List Co}{f:Co->Co}{c:Co}(h:c∈Fv l f):c∈l\/∃ x,l.getLast?=O x/\c=f x:=by
 unfold Fv at h;split at h
 .grind
 .rename_i x r hr;have a:l=(x::r).reverse:=zg;grind
def anm(l:List Co)(f:Co->Co):(Fv l f).length=l.length:=by
 unfold Fv;split<;>simp_all
def adM{l:List Pd}{f:Pd->Pd}{c:Pd}(h:c∈GX l f):c∈l\/∃ x,l.getLast?=O x/\c=f x:=by
 unfold GX at h;split at h
 .grind
 .rename_i x r hr;have a:l=(x::r).reverse:=zg;grind
theorem KP.put{c:Co}{i:In}(h:KP N c)(hi:uH c.slots i):KP (N+1) { c with ins:=c.ins++[i] }:=
 ⟨fun x hx=>by
  rcases a1F.1 hx with hx | hx
  .exact h.1 x hx
  grind,h.2.1,by simp;exact h.2.2⟩
theorem KQ.up{N:Nat}{p:Pv}(h:KQ N p):KQ (N+1) p:=
 ⟨fun q b=>⟨a30 (h.pd q b).1,fun c a=>((h.pd q b).2 c a).up⟩,fun c n a=>⟨(h.ask c n a).1.up,(h.ask c n a).2⟩⟩
theorem aIp{ws:List Bs}{p r:Pv}(h:KQ N p)(s:ws.length<=60)(hr:mv ws p=O r):KQ (N+1) r:=by
 unfold mv at hr;split at hr
 .split at hr
  .rename_i a b t j u;split at hr
   .grind
   .injection hr with hr;subst hr;refine⟨fun q e=>?_,fun c n d=>zg⟩;rcases a1F.1 e with e | e
    .exact h.up.pd q e
    grind
  grind
 .split at hr
  .rename_i a t j;split at hr
   .grind
   .injection hr with hr;subst hr;refine⟨fun q e=>?_,fun c n d=>zg⟩;rcases adM e with e | ⟨x,hx,rfl⟩
    .exact h.up.pd q e
    .have f:=a2P hx;refine⟨by simp;exact(h.pd x f).1,fun c d=>?_⟩;rcases a1F.1 d with d | d
     .exact((h.pd x f).2 c d).up
     .rw[a1K] at d;subst d;exact⟨fun i hi=>(by cases hi),by have:=CP j;grind,a1H _⟩
  grind
 .split at hr
  .rename_i a t j;split at hr
   .rename_i b u;injection hr with hr;subst hr;refine⟨fun q e=>h.up.pd q e,fun c n d=>?_⟩;have d:O ((⟨a,[]⟩:Co),b)=O (c,n):=d;injection d with d;injection d with l m;subst l m;have:=CP j;have:=CP u;exact⟨⟨fun i hi=>(by cases hi),zg,a1H _⟩,zg⟩
   grind
  grind
 .split at hr
  .grind
  .split at hr
   .rename_i c n w;split at hr
    .rename_i i hi;injection hr with hr;subst hr;obtain⟨g1,g2⟩:=h.ask c n w;refine⟨fun q e=>h.up.pd q e,fun B C d=>?_⟩;have d:O ({ c with ins:=c.ins++[i] },n)=O (B,C):=d;injection d with d;injection d with l m;subst l m;exact⟨g1.put (ank g1.2.1 s hi),g2⟩
    grind
   .rename_i w;split at hr
    .split at hr
     .rename_i c d;split at hr
      .rename_i i hi;injection hr with hr;subst hr;refine⟨fun q e=>?_,fun c n d=>zg⟩;rcases adM e with e | ⟨x,hx,rfl⟩
       .exact h.up.pd q e
       .have f:=a2P hx;unfold mv.KO at d;rw[hx] at d;refine⟨by show(Fv x.clauses _).length<=_;rw[anm];exact a30 (h.pd x f).1,fun y o=>?_⟩;rcases anl o with o | ⟨z,k,rfl⟩
        .exact((h.pd x f).2 y o).up
        .have d:x.clauses.getLast?=O c:=d;rw[d] at k;injection k with k;subst k;have g:=(h.pd x f).2 c (a2P d);exact g.put (ank g.2.1 s hi)
      grind
     grind
    grind
theorem TF(c:UInt8):∀ (s:Bs),(fK c s).length<=s.length+1/\fK c s≠[]
 | []=>(by simp_all [fK])
 | x::r=>by
  obtain⟨a,b⟩:=TF c r;grind [fK,a1x]
def ano:∀ (ls:List Bs) (k N:Nat) (p a:Pv),KQ N p->(∀ l∈ls,l.length<60)->kT ls k p = .ok a->KQ (N+ls.length) a
 | [],k,N,p,a,h,b,hr=>by
  simp_all [kT]
 | [r],k,N,p,a,h,b,hr=>by
  unfold kT at hr;split at hr
  .simp_all [KQ.up]
  grind
 | r::c::rs,k,N,p,a,h,b,hr=>by
  unfold kT at hr
  .split at hr
   .grind
   .rename_i q e;have hlen:=(TF 32 r).1;have d:=b r a1A;have:=ano (c::rs) (k+1) (N+1) q a (by grind [aIp]) zg hr;grind
def anp{s:Bs}{dG:List Pd}{ask:Co}(h:rp s = .ok (dG,ask,told))(e:∀ l∈fK 10 s,l.length<60):(∀ p∈dG,am2 p)/\zc ask/\told<=ask.slots:=by
 unfold rp at h;split at h
 .grind
 .rename_i m;have hlen:=(TF 10 s).1;split at h
  .grind
  .rename_i p f;have a:=ano _ _ 0 _ _ ⟨zg,zg⟩ e f;rw[Nat.zero_add] at a;split at h
   .rename_i c n g;injection h with h;injection h with i h;injection h with j k;subst i j k;obtain⟨g1,g2⟩:=a.ask c n g;exact⟨fun q b=>⟨fun c d=>⟨((a.pd q b).2 c d).1,((a.pd q b).2 c d).2.1,by have:=((a.pd q b).2 c d).2.2;omega⟩,by have:=(a.pd q b).1;omega⟩,⟨g1.1,g1.2.1,by have:=g1.2.2;omega⟩,g2⟩
   grind
structure D9(i:In):Prop where
 word:i.word.length<=5
 name:i.name.length<=9
 con:(AH i.const).length<=10
 qL:i.s.length<=5
 small:∀ k∈i.s,k<100000
structure GK(N:Nat)(k:Mk):Prop where
 len:k.ins.length<=N
 ins:∀ i∈k.ins,D9 i
 slots:k.slots<=64
 vars:∀ v∈k.vars,∀ t,v=O t->t<64
theorem GK.up{k:Mk}(h:GK N k)(a:N<=pb):GK pb k:=⟨a1t h.len a,h.ins,h.slots,h.vars⟩
theorem GK.put{N:Nat}{k:Mk}(h:GK N k){w nm:Bs}{con:Option Tm}{s:List Nat}(hi:D9 ⟨w,nm,con,s⟩):GK (N+1) (k.put w nm con s):=
 ⟨by simp_all [Mk.put,len],(by grind [Mk.put,a1K,ins]),h.slots,h.vars⟩
theorem GK.slot{N:Nat}{k k':Mk}{s:Nat}(h:GK N k)(a:k.slot=O (s,k')):GK N k'/\s<64/\k'.vars=k.vars/\k'.ins=k.ins/\k'.slots=k.slots+1/\s=k.slots:=by
 unfold Mk.slot at a;split at a
 .grind
 .injection a with a;injection a with b c;subst b c;exact⟨⟨h.len,h.ins,zg,h.vars⟩,zo,J,J,J,J⟩
theorem GK.tg{N:Nat}:∀ {n:Nat} {k k':Mk} {l:List Nat},GK N k->k.tg n=O (l,k')->GK N k'/\l.length=n/\(∀ s∈l,s<64)/\k'.vars=k.vars
 | 0,k,k',l,h,a=>by
  unfold Mk.tg at a;injection a with a;injection a with b c;subst b c;exact⟨h,J,(fun _ hm=>absurd hm zs),J⟩
 | n+1,k,k',l,h,a=>by
  unfold Mk.tg at a;split at a
  .grind
  .rename_i s m b;split at a
   .grind
   .rename_i l' m' c;injection a with a;injection a with d e;subst d e;obtain⟨g1,g2,g3,-⟩:=h.slot b;obtain⟨q1,q2,q3,q4⟩:=g1.tg c;grind
def anq{name:Bs}{n:Int}{args:List Ex}(h:ie nv (.mk pb name n k args)):(AH (O (CO pb name n))).length<=10:=by
 unfold ie at h;obtain⟨a,b,-⟩:=h;unfold CO;split
 .show(gX n).length<=10;unfold gX;have:(dL n.natAbs).length<=9:=Nq n.natAbs 8 zo _ zo;grind
 .show name.length<=10;omega
mutual
theorem adN {nv:Nat}:∀ (x:Ex) (s N:Nat) (k k':Mk),za x s k=O k'->GK N k->s<64->ie nv x->GK (N+iD x) k'/\k'.vars.length=k.vars.length
 | .mk kind name n v args,s,N,k,k',h,hk,d,hx=>by
  have e:=hx;unfold ie at hx;obtain⟨f,j,o,p,q,u,z,g⟩:=hx;unfold za at h;split at h
  .split at h
   .injection h with h;subst h;refine⟨(⟨hk.len,hk.ins,hk.slots,fun y b t ht=>?_⟩:GK N { k with vars:=k.vars.set v (O s) }).up (Nat.le_add_right _ _),zs⟩;rcases a2I b with b | b
    .exact hk.vars y b t ht
    grind
   .rename_i t ht;injection h with h;subst h;have B:t<64:=by
     have:O t∈k.vars:=by
      grind
     exact hk.vars _ this t J
    exact⟨(hk.put ⟨zs,zs,by simp [AH],zs,fun x hx=>zg⟩).up (by simp [iD]),J⟩
  .split at h
   .split at h
    .grind
    .rename_i l m c;obtain⟨g1,g2,g3,g4⟩:=hk.tg c;have i:=g1.put (w:=[115,112,108,105,116]) (nm:=name) (con:=V) (s:=s::l) ⟨zs,f,by simp [AH],zg,fun x hx=>by
      grind⟩
     obtain⟨q1,q2⟩:=adO args l (N+1) _ k' h i g3 g;exact⟨q1.up (by grind [iD]),q2.trans (congrArg List.length g4)⟩
   .injection h with h;subst h;exact⟨(hk.put ⟨zs,zs,anq e,zs,fun x hx=>zg⟩).up (by simp [iD]),J⟩
 termination_by structural x=>x
theorem adO {nv:Nat}:∀ (xs:List Ex) (l:List Nat) (N:Nat) (k k':Mk),th xs l k=O k'->GK N k->(∀ s∈l,s<64)->fi nv xs->GK (N+fG xs) k'/\k'.vars.length=k.vars.length
 | [],l,N,k,k',h,hk,c,hx=>by
  unfold th at h;injection h with h;subst h;exact⟨hk,J⟩
 | x::xs,l,N,k,k',h,hk,c,hx=>by
  unfold fi at hx;unfold th at h;split at h
  .grind
  .rename_i m hm;have d:l.headD 0<64:=by
    cases l with
    | nil=>simp
    | cons a r=>simp_all
   obtain⟨g1,g2⟩:=adN x _ N k m hm hk d hx.1;obtain⟨q1,q2⟩:=adO xs _ _ m k' h g1 (by simp_all [a4R]) hx.2;grind [fG]
 termination_by structural x=>x
end
mutual
theorem adP {nv:Nat}:∀ (x:Ex) (N s:Nat) (k k':Mk),AG x k=O (s,k')->GK N k->ie nv x->GK (N+iD x) k'/\k'.vars=k.vars/\s<64
 | .mk kind name n v args,N,s,k,k',h,hk,hx=>by
  have d:=hx;unfold ie at hx;obtain⟨e,g,i,j,o,p,q,f⟩:=hx;unfold AG at h;split at h
  .injection h with h;injection h with a b;subst a b;refine⟨hk.up zo,J,?_⟩;cases hv:k.vars.getD v V with
   | none=>simp
   | some t=>
    have:O t∈k.vars:=by
     grind
    exact hk.vars _ this t J
  .split at h
   .split at h
    .grind
    .rename_i s' m hm;injection h with h;injection h with a b;subst a b;obtain⟨g1,g2,g3,-⟩:=hk.slot hm;exact⟨(g1.put ⟨zs,zs,anq d,zs,fun x hx=>zg⟩).up (by simp [iD]),g3,g2⟩
   .split at h
    .grind
    .rename_i l m hm;split at h
     .grind
     .rename_i s' m' c;injection h with h;injection h with a b;subst a b;obtain⟨q1,q2,q3,q4⟩:=adQ args N l k m hm hk f;obtain⟨g1,g2,g3,-⟩:=q1.slot c;refine⟨(g1.put ⟨zs,e,by simp [AH],zg,fun x hx=>?_⟩).up (by grind [iD]),g3.trans q2,g2⟩;grind
 termination_by structural x=>x
theorem adQ {nv:Nat}:∀ (xs:List Ex) (N:Nat) (l:List Nat) (k k':Mk),ti xs k=O (l,k')->GK N k->fi nv xs->GK (N+fG xs) k'/\k'.vars=k.vars/\l.length=xs.length/\∀ s∈l,s<64
 | [],N,l,k,k',h,hk,hx=>by
  unfold ti at h;injection h with h;injection h with a b;subst a b;exact⟨hk,J,J,zg⟩
 | x::xs,N,l,k,k',h,hk,hx=>by
  unfold fi at hx;unfold ti at h;split at h
  .grind
  .rename_i s m hm;split at h
   .grind
   .rename_i l' m' c;injection h with h;injection h with a b;subst a b;obtain⟨g1,g2,g3⟩:=adP x N s k m hm hk hx.1;obtain⟨q1,q2,q3,q4⟩:=adQ xs _ l' m m' c g1 hx.2;grind [fG]
 termination_by structural x=>x
end
def anr{α:Type}{f:α->α}:∀ {l:List α} {n:Nat} {x:α},x∈l.modify n f->x∈l\/∃ y∈l,x=f y
 | [],n,x,h=>zg
 | a::l,0,x,h=>by
  grind
 | a::l,n+1,x,h=>by
  rw[a2L] at h;rcases a1z.1 h with rfl | h
  .grind
  .rcases anr h with h | ⟨y,b,e⟩<;>grind
theorem GK.land{N:Nat}{k:Mk}(h:GK N k)(b:N<100000)(j:Nat):GK N (k.land j):=
 ⟨by simp_all [Mk.land,len],fun i hi=>by
  unfold Mk.land at hi;rcases anr hi with hi | ⟨y,a,rfl⟩
  .grind [ins]
  .have:=h.ins y a;exact⟨this.word,this.name,this.con,zs,fun x hx=>by simp at hx;have:=h.len;omega⟩,h.slots,h.vars⟩
theorem XO{w nm:Bs}{s:List Nat}(hw:w.length<=5)(a:nm.length<=9)(b:s.length<=5)(hk:∀ k∈s,k<100000):D9 ⟨w,nm,V,s⟩:=⟨hw,a,by simp [AH],b,hk⟩
theorem rv{w nm:Bs}{s:Nat}(hw:w.length<=5)(a:nm.length<=9)(b:s<100000):D9 ⟨w,nm,V,[s]⟩:=(by simp_all [XO])
mutual
theorem Ea {nv M:Nat}:∀ (x:Bd) (cut N:Nat) (k k':Mk),lC x cut k=O k'->GK N k->eX nv M x->cut<64->N+4*iR x<100000->GK (N+4*iR x) k'/\k'.vars=k.vars
 | .mk kind name args parts,cut,N,k,k',h,hk,hx,a,b=>by
  unfold eX at hx;obtain⟨f,i,n,o,g,p,q,d⟩:=hx;simp only[iR] at b ⊢;unfold lC at h;split at h
  .injection h with h;subst h;exact⟨(hk.put (rv zd zs zo)).up zo,J⟩
  split at h
  .obtain⟨g1,g2⟩:=XP parts cut N k k' h hk d a zo;grind [GK.up]
  split at h
  .obtain⟨g1,g2⟩:=aIq parts cut N k k' h hk d a zo;grind [GK.up]
  split at h
  .split at h
   .grind
   .rename_i s m hm;obtain⟨q1,q2,q3,-⟩:=hk.slot hm;obtain⟨g1,g2⟩:=aIr parts s cut _ _ k' h (q1.put (rv zd zs zo)) d a q2 zo;exact⟨g1.up zo,g2.trans q3⟩
  split at h
  .split at h
   .grind
   .rename_i s m hm;obtain⟨q1,q2,q3,-⟩:=hk.slot hm;obtain⟨g1,g2⟩:=aIs parts s _ _ k' h (q1.put (rv zd zs zo)) d q2 zo;exact⟨g1.up zo,g2.trans q3⟩
  .split at h
   .grind
   .rename_i l m hm;injection h with h;subst h;obtain⟨q1,q2,q3,q4⟩:=adQ args N l k m hm hk g;exact⟨(q1.put (XO (by split<;>decide) f zo fun x hx=>zg)).up zo,q2⟩
 termination_by structural x=>x
theorem XP {nv M:Nat}:∀ (xs:List Bd) (cut N:Nat) (k k':Mk),tl xs cut k=O k'->GK N k->eY nv M xs->cut<64->N+4*ju xs<100000->GK (N+4*ju xs) k'/\k'.vars=k.vars
 | [],cut,N,k,k',h,hk,hx,a,b=>by
  unfold tl at h;injection h with h;subst h;exact⟨hk,J⟩
 | x::xs,cut,N,k,k',h,hk,hx,a,b=>by
  unfold eY at hx;simp only[ju] at b ⊢;unfold tl at h;split at h
  .grind
  .rename_i m hm;obtain⟨g1,g2⟩:=Ea x cut N k m hm hk hx.1 a zo;obtain⟨q1,q2⟩:=XP xs cut _ m k' h g1 hx.2 a zo;grind
 termination_by structural x=>x
theorem aIq {nv M:Nat}:∀ (xs:List Bd) (cut N:Nat) (k k':Mk),D3 xs cut k=O k'->GK N k->eY nv M xs->cut<64->N+4*ju xs+2<100000->GK (N+4*ju xs+2) k'/\k'.vars=k.vars
 | [],cut,N,k,k',h,hk,hx,a,b=>by simp_all [D3]
 | x::xs,cut,N,k,k',h,hk,hx,a,b=>by
  unfold eY at hx;simp only[ju] at b ⊢;unfold D3 at h;split at h
  .grind
  .rename_i m1 hm;split at h
   .grind
   .rename_i m2 e;injection h with h;subst h;obtain⟨g1,g2⟩:=Ea x cut (N+1) _ m1 hm (hk.put (rv zd zs zo)) hx.1 a zo;obtain⟨q1,q2⟩:=XP xs cut _ _ m2 e ((g1.put (rv (w:=jm) (nm:=[]) (s:=0) zd zs zo)).land zo _) hx.2 a zo;exact⟨(by grind [GK.up,GK.land]),q2.trans g2⟩
 termination_by structural x=>x
theorem aIr {nv M:Nat}:∀ (xs:List Bd) (s cut N:Nat) (k k':Mk),D4 xs s cut k=O k'->GK N k->eY nv M xs->cut<64->s<64->N+4*ju xs+3<100000->GK (N+4*ju xs+3) k'/\k'.vars=k.vars
 | [],s,cut,N,k,k',h,hk,hx,a,c,b=>by grind [D4]
 | x::xs,s,cut,N,k,k',h,hk,hx,a,c,b=>by
  unfold eY at hx;simp only[ju] at b ⊢;unfold D4 at h;split at h
  .grind
  .rename_i m1 hm;obtain⟨g1,g2⟩:=Ea x s (N+1) _ m1 hm (hk.put (rv zd zs zo)) hx.1 c zo;obtain⟨q1,q2⟩:=aIt xs cut _ _ _ k' h (g1.put (rv zd zs zo)) hx.2 a zo;exact⟨q1.up zo,q2.trans g2⟩
 termination_by structural x=>x
theorem aIt {nv M:Nat}:∀ (xs:List Bd) (cut j N:Nat) (k k':Mk),Fs xs cut j k=O k'->GK N k->eY nv M xs->cut<64->N+4*ju xs+1<100000->GK (N+4*ju xs+1) k'/\k'.vars=k.vars
 | [],cut,j,N,k,k',h,hk,hx,a,b=>by simp_all [Fs]
 | x::xs,cut,j,N,k,k',h,hk,hx,a,b=>by
  unfold eY at hx;simp only[ju] at b ⊢;unfold Fs at h;split at h
  .grind
  .rename_i m1 hm;split at h
   .grind
   .rename_i m2 e;injection h with h;subst h;obtain⟨g1,g2⟩:=Ea x cut N _ m1 hm hk hx.1 a zo;obtain⟨q1,q2⟩:=XP xs cut _ _ m2 e ((g1.put (rv (w:=jm) (nm:=[]) (s:=0) zd zs zo)).land zo _) hx.2 a zo;exact⟨(by grind [GK.up,GK.land]),q2.trans g2⟩
 termination_by structural x=>x
theorem aIs {nv M:Nat}:∀ (xs:List Bd) (s N:Nat) (k k':Mk),D5 xs s k=O k'->GK N k->eY nv M xs->s<64->N+4*ju xs+3<100000->GK (N+4*ju xs+3) k'/\k'.vars=k.vars
 | [],s,N,k,k',h,hk,hx,c,b=>by simp_all [D5]
 | x::xs,s,N,k,k',h,hk,hx,c,b=>by
  unfold eY at hx;simp only[ju] at b ⊢;unfold D5 at h;split at h
  .grind
  .rename_i m1 hm;injection h with h;subst h;obtain⟨g1,g2⟩:=Ea x s (N+1) _ m1 hm (hk.put (rv zd zs zo)) hx.1 c zo;exact⟨(by grind [rv,kE,XO,mr,GK.up,GK.land,GK.put]),g2⟩
 termination_by structural x=>x
end
def ant:∀ (n j N:Nat) (k k':Mk),k.news j n=O k'->GK N k->GK (N+n) k'/\k'.vars.length=k.vars.length
 | 0,j,N,k,k',h,hk=>by
  unfold Mk.news at h;injection h with h;subst h;exact⟨hk,J⟩
 | n+1,j,N,k,k',h,hk=>by
  unfold Mk.news at h;split at h
  .grind
  .rename_i s m hm;obtain⟨g1,g2,g3,-⟩:=hk.slot hm;have hv:GK N { m with vars:=m.vars.set j (O s) }:=⟨g1.len,g1.ins,g1.slots,fun y a t ht=>by
    rcases a2I a with a | a
    .exact g1.vars y a t ht
    grind⟩
   obtain⟨q1,q2⟩:=ant n (j+1) (N+1) _ k' h (hv.put (rv zd zs zo));exact⟨zg,q2.trans (by show(m.vars.set j (O s)).length=_;grind)⟩
def adR:∀ (n j N:Nat) (k k':Mk),k.rest j n=O k'->GK N k->GK (N+n) k'/\k'.vars.length=k.vars.length
 | 0,j,N,k,k',h,hk=>by
  unfold Mk.rest at h;injection h with h;subst h;exact⟨hk,J⟩
 | n+1,j,N,k,k',h,hk=>by
  unfold Mk.rest at h;split at h
  .obtain⟨q1,q2⟩:=adR n (j+1) N k k' h hk;grind [GK.up]
  .split at h
   .grind
   .rename_i s m hm;obtain⟨g1,g2,g3,-⟩:=hk.slot hm;have hv:GK N { m with vars:=m.vars.set j (O s) }:=⟨g1.len,g1.ins,g1.slots,fun y a t ht=>by
     rcases a2I a with a | a
     .exact g1.vars y a t ht
     grind⟩
    obtain⟨q1,q2⟩:=adR n (j+1) (N+1) _ k' h (hv.put (rv zd zs zo));exact⟨zg,q2.trans (by show(m.vars.set j (O s)).length=_;grind)⟩
structure AN(c:Co):Prop where
 ins:∀ i∈c.ins,D9 i
 slots:c.slots<=64
 len:c.ins.length<=30000
theorem XQ{args:List Ex}{body:Bd}{q:Bool}{c:Co}(h:zb args body nv q=O c)(hx:fi nv args)(z:fG args<=2900)(e:eX nv M body)(B:iR body<=5800)(hv:nv<=12):AN c:=by
 unfold zb at h;split at h
 .grind
 .rename_i a m f;have g:GK 0 (⟨0,[],List.replicate nv V⟩:Mk):=⟨a1s _,fun i hi=>absurd hi zs,zs,fun v hv t ht=>zg⟩;obtain⟨g1,g2,g3,g4⟩:=g.tg f;split at h
  .grind
  .rename_i m2 d;have j:GK 12 m2:=by
    split at d
    .exact(ant nv 0 0 m m2 d g1).1.up zo
    grind [GK.up]
   split at h
   .grind
   .rename_i cut m3 k;obtain⟨l,n,-,-⟩:=j.slot k;split at h
    .grind
    .rename_i m4 o;obtain⟨p,-⟩:=adO args a 13 _ m4 o (l.put (rv zd zs zo)) g3 hx;split at h
     .grind
     .rename_i m5 r;obtain⟨u,-⟩:=adR nv 0 _ m4 m5 r p;split at h
      .grind
      .rename_i m6 x;obtain⟨y,-⟩:=Ea body cut _ m5 m6 x u e n zo;injection h with h;subst h;have b:=y.put (w:=if q=A then [100,111,110,101] else [114,101,116]) (nm:=[]) (con:=V) (s:=[]) (XO zg zs zs zs);exact⟨b.ins,b.slots,a1t b.len zo⟩
def iM(k k':Mk):Prop:=∃ r,k'.ins=k.ins++r
theorem iM.refl(k:Mk):iM k k:=⟨[],zs⟩
theorem iM.trans{a b c:Mk}(h:iM a b)(g:iM b c):iM a c:=by
 obtain⟨r,h⟩:=h;obtain⟨q,g⟩:=g;exact⟨r++q,zg⟩
theorem iM.put(k:Mk)(w n:Bs)(c:Option Tm)(s:List Nat):iM k (k.put w n c s):=⟨[⟨w,n,c,s⟩],J⟩
theorem iM.same{k k':Mk}(h:k'.ins=k.ins):iM k k':=⟨[],zg⟩
def XR{α:Type}(f:α->α):∀ (a b:List α) (q:Nat),(a++b).modify (a.length+q) f=a++b.modify q f
 | [],b,q=>zs
 | x::a,b,q=>by
  have:=XR f a b q;grind
theorem iM.land{k k':Mk}{j:Nat}(h:iM k k')(a:k.ins.length<=j):iM k (k'.land j):=by
 obtain⟨r,h⟩:=h;refine⟨r.modify (j-k.ins.length) fun i=>{ i with s:=[k'.ins.length] },?_⟩;unfold Mk.land;simp only;rw[<- XR,<- h];grind
theorem Eb{k a:Mk}{s:Nat}(h:k.slot=O (s,a)):a.ins=k.ins:=by
 grind [Mk.slot]
theorem adS:∀ {n:Nat} {k k':Mk} {l:List Nat},k.tg n=O (l,k')->k'.ins=k.ins
 | 0,k,k',l,h=>by
  simp_all [Mk.tg]
 | n+1,k,k',l,h=>by
  unfold Mk.tg at h;split at h
  .grind
  .rename_i s m a;split at h
   .grind
   .rename_i l' m' b;injection h with h;injection h with d c;rw[<- c,adS b,Eb a]
mutual
theorem aIu:∀ (x:Ex) (s:Nat) (k k':Mk),AG x k=O (s,k')->iM k k'
 | .mk kind name n v args,s,k,k',h=>by
  unfold AG at h;split at h
  .simp_all [iM.refl]
  .split at h
   .split at h
    .grind
    .rename_i s' m hm;injection h with h;injection h with c a;subst a;exact(iM.same (Eb hm)).trans (iM.put _ _ _ _ _)
   .split at h
    .grind
    .rename_i l m hm;split at h
     .grind
     .rename_i s' m' b;injection h with h;injection h with c a;subst a;exact((adT args l k m hm).trans (iM.same (Eb b))).trans (iM.put _ _ _ _ _)
 termination_by structural x=>x
theorem adT:∀ (xs:List Ex) (l:List Nat) (k k':Mk),ti xs k=O (l,k')->iM k k'
 | [],l,k,k',h=>by simp_all [ti,iM.refl]
 | x::xs,l,k,k',h=>by
  unfold ti at h;split at h
  .grind
  .rename_i s m hm;split at h
   .grind
   .rename_i l' m' b;injection h with h;injection h with c a;subst a;exact(aIu x s k m hm).trans (adT xs l' m m' b)
 termination_by structural x=>x
end
def iM.len{k a:Mk}(h:iM k a):k.ins.length<=a.ins.length:=by obtain⟨r,h⟩:=h;grind
mutual
theorem AO:∀ (x:Bd) (cut:Nat) (k k':Mk),lC x cut k=O k'->iM k k'
 | .mk kind name args parts,cut,k,k',h=>by
  unfold lC at h;split at h
  .grind [iM.put]
  split at h
  .exact P5 parts cut k k' h
  split at h
  .exact aIv parts cut k k' h
  split at h
  .split at h
   .grind
   .rename_i s m hm;exact((iM.same (Eb hm)).trans (iM.put _ _ _ _ _)).trans (aIw parts s cut _ k' h)
  split at h
  .split at h
   .grind
   .rename_i s m hm;exact((iM.same (Eb hm)).trans (iM.put _ _ _ _ _)).trans (aIx parts s _ k' h)
  .split at h
   .grind
   .rename_i l m hm;injection h with h;subst h;exact(adT args l k m hm).trans (iM.put _ _ _ _ _)
 termination_by structural x=>x
theorem P5:∀ (xs:List Bd) (cut:Nat) (k k':Mk),tl xs cut k=O k'->iM k k'
 | [],cut,k,k',h=>by simp_all [tl,iM.refl]
 | x::xs,cut,k,k',h=>by
  unfold tl at h;split at h
  .grind
  .rename_i m hm;exact(AO x cut k m hm).trans (P5 xs cut m k' h)
 termination_by structural x=>x
theorem aIv:∀ (xs:List Bd) (cut:Nat) (k k':Mk),D3 xs cut k=O k'->iM k k'
 | [],cut,k,k',h=>by simp_all [D3]
 | x::xs,cut,k,k',h=>by
  unfold D3 at h;split at h
  .grind
  .rename_i m1 hm;split at h
   .grind
   .rename_i m2 c;injection h with h;subst h;have a:=(iM.put k jR [] V [0]).trans (AO x cut _ m1 hm);have d:=(a.trans (iM.put m1 jm [] V [0])).land (j:=k.ins.length) (a1s _);exact(d.trans (P5 xs cut _ m2 c)).land a.len
 termination_by structural x=>x
theorem aIw:∀ (xs:List Bd) (s cut:Nat) (k k':Mk),D4 xs s cut k=O k'->iM k k'
 | [],s,cut,k,k',h=>by simp_all [D4]
 | x::xs,s,cut,k,k',h=>by
  unfold D4 at h;split at h
  .grind
  .rename_i m1 hm;have a:=((iM.put k jR [] V [0]).trans (AO x s _ m1 hm)).trans (iM.put m1 kE [] V [s]);exact aIy xs cut _ _ k' k h a (a1s _)
 termination_by structural x=>x
theorem aIy:∀ (xs:List Bd) (cut j:Nat) (k k' b:Mk),Fs xs cut j k=O k'->iM b k->b.ins.length<=j->iM b k'
 | [],cut,j,k,k',b,h,e,f=>by simp_all [Fs]
 | x::xs,cut,j,k,k',b,h,e,f=>by
  unfold Fs at h;split at h
  .grind
  .rename_i m1 hm;split at h
   .grind
   .rename_i m2 c;injection h with h;subst h;have a:=e.trans (AO x cut _ m1 hm);have d:=(a.trans (iM.put m1 jm [] V [0])).land f;exact(d.trans (P5 xs cut _ m2 c)).land a.len
 termination_by structural x=>x
theorem aIx:∀ (xs:List Bd) (s:Nat) (k k':Mk),D5 xs s k=O k'->iM k k'
 | [],s,k,k',h=>by simp_all [D5]
 | x::xs,s,k,k',h=>by
  unfold D5 at h;split at h
  .grind
  .rename_i m1 hm;injection h with h;subst h;exact((((iM.put k jR [] V [0]).trans (AO x s _ m1 hm)).trans (iM.put m1 kE [] V [s])).trans (iM.put _ mr [102,97,105,108] V [])).land (a1s _)
 termination_by structural x=>x
end
theorem adU(c x:UInt8)(r:Bs):fK c (x::r)=if x=c then []::fK c r else match fK c r with
 | []=>[[x]]
 | l::ls=>(x::l)::ls:=rfl
theorem TG(c:UInt8)(r:Bs):∀ (a:Bs),fK c (a++c::r)=fK c a++fK c r
 | []=>by simp [fK]
 | x::a=>by
  have ih:=TG c r a;grind [fK,adU,TF,absurd]
def anu(c:UInt8):∀ (a:Bs),∀ l∈fK c a,l.length<=a.length
 | [],l,b=>by
  simp_all [fK]
 | x::a,l,b=>by
  have ih:=anu c a;unfold fK at b;grind
def TH(s:Bs):Prop:=∀ l∈fK 10 s,l.length<60
def tF(s:Bs):Prop:=∀ r,TH r->TH (s++r)
theorem tF.nil:tF []:=fun r h=>h
def tF.append{a b:Bs}(c:tF a)(d:tF b):tF (a++b):=fun r h=>by rw[List.append_assoc];exact c _ (d _ h)
theorem tF.flat{l:List Bs}(h:∀ x∈l,tF x):tF l.flatten:=by
 induction l with
 | nil=>exact .nil
 | cons a r ih=>simp_all [a1A,append,a2k]
def wl(l:List Bs):Nat:=(l.map fun w=>w.length+1).sum
def aIz(a b:List Bs):wl (a++b)=wl a+wl b:=by simp [wl]
theorem CS(a:Bs)(b:List Bs):wl (a::b)=a.length+1+wl b:=by simp [wl]
theorem XS:∀ (l:List Bs),((l.map fun w=>(32:UInt8)::w).flatten).length=wl l
 | []=>rfl
 | a::r=>by rw[CS,<- XS r];grind
def tF.words{first:Bs}{l:List Bs}(h:first.length+wl l<60):tF (kM first l):=fun r hr=>by
 unfold kM;rw[List.append_assoc,List.singleton_append];unfold TH;rw[TG];intro x hx;rcases a1F.1 hx with hx | hx
 .have:=anu _ _ x hx;grind [a1v,XS]
 .exact hr x hx
theorem Fx(h:n<100000):(dL n).length<=5:=Nq n 4 zo _ zo
theorem adV:∀ (s:List Nat),(∀ k∈s,k<100000)->wl (s.map dL)<=6*s.length
 | [],_=>by simp [wl]
 | a::r,h=>by
  have:=adV r zg;grind [Fx,a1A,CS,a1x]
def aIA{s:List Nat}(h:∀ k∈s,k<100000):s.headD 0<100000:=by
 cases s with
 | nil=>simp
 | cons a r=>simp_all
def anv{i:In}(h:D9 i):i.word.length+wl (qd i ((kS i.word).getD []) i.s)<60:=by
 have ht:∀ k∈i.s.tail,k<100000:=fun k hk=>h.small k (a4R hk);have d:=Fx (aIA h.small);have e:=adV _ h.small;have a:∀ j:Nat,(dL (i.s[j]?.getD 0)).length<=5:=(by grind [Fx,D9.small]);have b:wl (i.s.map dL).tail<=6*i.s.tail.length:=by rw[<- List.map_tail];grind [adV,a4R]
 have f:=a 1;have g:(dL (i.s.head?.getD 0)).length<=5:=zg;have l:i.s.tail.length<=5:=by have:=h.qL;simp;omega
 have:=h.word;have:=h.name;have:=h.con;have:=h.qL;have w0:wl []=0:=rfl;cases c:kS i.word with
 | none=>grind [qd]
 | some sh=>
  rw[Option.getD_some];rcases P4 c with⟨-,rfl⟩| ⟨-,rfl⟩| ⟨-,rfl⟩| ⟨-,rfl⟩| ⟨-,rfl⟩| ⟨-,rfl⟩| ⟨-,rfl⟩<;>simp [qd,CS,aIz,w0]<;>omega
theorem aIB{i:In}(h:D9 i):tF (AI i):=by
 simp_all [AI,tF.words,anv]
theorem adW{i:In}(h:D9 i):(AI i).length<=60:=by
 have:=anv h;grind [AI,kM,a1v,XS,a1x,List.length_nil]
def anw{c:Co}(h:AN c):tF (tn c):=tF.flat (by grind [aIB,AN.ins])
structure Ec(p:Pd):Prop where
 name:p.name.length<=9
 ar:p.arity<=4
 cls:∀ c∈p.clauses,AN c
 qL:p.clauses.length<=100
theorem aIC{p:Pd}(h:Ec p):tF (rU p):=by
 have w0:wl []=0:=rfl;unfold rU;refine(tF.words ?_).append (tF.flat fun x hx=>?_)
 .have:=h.name;have:=Fx (show p.arity<100000 by have:=h.ar;omega);rw[CS,CS,w0];simp;omega
 .obtain⟨c,a,rfl⟩:=List.mem_map.1 hx;refine(tF.words ?_).append (anw (h.cls c a));have:=Fx (show c.slots<100000 by have:=(h.cls c a).slots;omega);rw[CS,w0];simp;omega
def aID{l:List Pd}{ask:Co}(b:∀ p∈l,Ec p)(a:AN ask)(ht:told<=1000):TH (oW l ask told):=by
 have w0:wl []=0:=rfl;have h:tF (oW l ask told):=by
  unfold oW;refine((tF.flat fun x hx=>?_).append (tF.words ?_)).append (anw a)
  .obtain⟨c,d,rfl⟩:=List.mem_map.1 hx;grind [aIC]
  .have:=Fx (show ask.slots<100000 by have:=a.slots;omega);have:=Fx (show told<100000 by omega);rw[CS,CS,w0];simp;omega
 have:=h [] (fun x hx=>by simp_all [fK]);grind
def anx{name:Bs}{n:Nat}{c:Co}(d:name.length<=9)(e:n<=4)(f:AN c):∀ {l:List Pd} {N:Nat},N<100->(∀ p∈l,Ec p/\p.clauses.length<=N)->∀ p∈rT name n c l,Ec p/\p.clauses.length<=N+1
 | [],N,g,_,p,a=>by
  unfold rT at a;rw[a1K] at a;subst a;exact⟨⟨d,e,zg,zs⟩,zs⟩
 | q::r,N,g,h,p,a=>by
  unfold rT at a;obtain⟨b,i⟩:=h q a1A;split at a
  .rcases a1z.1 a with rfl | a
   .refine⟨⟨b.name,b.ar,fun x hx=>?_,zg⟩,zg⟩;rcases a1F.1 hx with hx | hx
    .exact b.cls x hx
    .rw[a1K] at hx;subst hx;exact f
   grind
  .rcases a1z.1 a with rfl | a
   .grind
   .exact anx d e f g zg p a
def aIE{c:Cl}(h:qM c){x:Co}(hx:zb c.args c.body c.vars.length G=O x):AN x:=
 XQ hx h.cl.args h.cl.sz h.cl.body h.bsz h.vs.1
def anz:∀ (cs:List Cl) (l l':List Pd) (N:Nat),(∀ c∈cs,qM c)->N+cs.length<=100->(∀ p∈l,Ec p/\p.clauses.length<=N)->xg cs l=O l'->∀ p∈l',Ec p
 | [],l,l',N,_,_,b,h=>by
  simp_all [xg]
 | c::r,l,l',N,d,e,b,h=>by
  unfold xg at h;split at h
  .grind
  .rename_i x hx;simp only[a1x] at e;have a:=d c a1A;exact anz r _ l' (N+1) zg zo (anx a.name a.cl.qL (aIE a hx) zo b) h
def vD:Bs->Nat
 | []=>0
 | c::r=>(if c=115\/c=112 then 1 else 0)+vD r
structure G0(i:In):Prop where
 wf:vD ((kS i.word).getD [])<=i.s.length
 cn:99∈(kS i.word).getD []->∃ t,i.const=O t/\eA t/\Tz t=A
def WK(k:Mk):Prop:=∀ i∈k.ins,G0 i
theorem WK.same{k k':Mk}(h:WK k)(he:k'.ins=k.ins):WK k':=fun i hi=>h i zg
theorem WK.put{k:Mk}(h:WK k){w nm:Bs}{con:Option Tm}{s:List Nat}(hi:G0 ⟨w,nm,con,s⟩):WK (k.put w nm con s):=fun i hm=>by
 unfold Mk.put at hm;rcases a1F.1 hm with hm | hm
 .exact h i hm
 grind
def XT{α:Type}{f:α->α}:∀ {l:List α} {n:Nat} {x:α},x∈l.modify n f->x∈l\/∃ y,l[n]?=O y/\x=f y
 | [],n,x,h=>zg
 | a::l,0,x,h=>by
  grind
 | a::l,n+1,x,h=>by
  rw[a2L] at h;rcases a1z.1 h with rfl | h
  .grind
  .rcases XT h with h | ⟨y,b,e⟩<;>grind
theorem WK.land{k:Mk}(h:WK k){j:Nat}(b:∀ i,k.ins[j]?=O i->i.word=jR\/i.word=jm):WK (k.land j):=fun i hi=>by
 unfold Mk.land at hi;rcases XT hi with hi | ⟨y,c,rfl⟩
 .exact h i hi
 .have hw:=b y c;refine⟨?_,fun a=>?_⟩
  .show vD ((kS y.word).getD [])<=1;rcases hw with e | e<;>rw[e]<;>decide
  .have a:99∈(kS y.word).getD []:=a;exfalso;rcases hw with e | e<;>rw[e] at a<;>revert a<;>decide
theorem iM.at{m a:Mk}{w nm:Bs}{con:Option Tm}{s:List Nat}(h:iM (m.put w nm con s) a):a.ins[m.ins.length]?=O ⟨w,nm,con,s⟩:=by
 obtain⟨r,h⟩:=h;rw[h];show((m.ins++[_])++r)[m.ins.length]?=_;grind
def iM.at2{m a:Mk}{w nm:Bs}{con:Option Tm}{s:List Nat}(b:j<m.ins.length)(h:iM ((m.put w nm con s).land j) a):a.ins[m.ins.length]?=O ⟨w,nm,con,s⟩:=by
 obtain⟨r,h⟩:=h;grind [land,Mk.land,Mk.put,List.getElem?_append_left]
theorem KS{w nm:Bs}{con:Option Tm}{s:List Nat}(h:vD ((kS w).getD [])<=s.length)(a:99 ∉ (kS w).getD []):G0 ⟨w,nm,con,s⟩:=⟨h,zg⟩
def wfC{name:Bs}{n:Int}{args:List Ex}{w:Bs}{s:Nat}(hx:ie nv (.mk pb name n k args))(b:pb≠118)(c:pb≠99)(h:vD ((kS w).getD [])<=1):G0 ⟨w,[],O (CO pb name n),[s]⟩:=⟨h,fun _=>by
 unfold ie at hx;obtain⟨o1,o2,d,o4,o5,e,-⟩:=hx;refine⟨_,J,?_⟩;unfold CO;split
 .exact⟨by grind [eA],J⟩
 .have a:pb=97:=zo;exact⟨by grind [eA],J⟩⟩
mutual
theorem aIF {nv:Nat}:∀ (x:Ex) (s:Nat) (k k':Mk),za x s k=O k'->WK k->ie nv x->WK k'
 | .mk kind name n v args,s,k,k',h,hk,hx=>by
  have a:=hx;unfold ie at hx;obtain⟨e,f,g,i,j,o,p,b⟩:=hx;unfold za at h;split at h
  .split at h
   .grind [WK.same]
   .injection h with h;subst h;exact hk.put (KS (by simp;decide) zd)
  .rename_i c;split at h
   .split at h
    .grind
    .rename_i l m q;exact adY args l _ k' h (by grind [adS,KS,a1t,vD,kS,WK.put,WK.same]) b
   .rename_i d;injection h with h;subst h;exact hk.put (wfC a c d zd)
 termination_by structural x=>x
theorem adY {nv:Nat}:∀ (xs:List Ex) (l:List Nat) (k k':Mk),th xs l k=O k'->WK k->fi nv xs->WK k'
 | [],l,k,k',h,hk,hx=>by simp_all [th]
 | x::xs,l,k,k',h,hk,hx=>by
  unfold fi at hx;unfold th at h;split at h
  .grind
  .rename_i m hm;exact adY xs _ m k' h (aIF x _ k m hm hk hx.1) hx.2
 termination_by structural x=>x
end
mutual
theorem aIG {nv:Nat}:∀ (x:Ex) (s:Nat) (k k':Mk),AG x k=O (s,k')->WK k->ie nv x->WK k'
 | .mk kind name n v args,s,k,k',h,hk,hx=>by
  have d:=hx;unfold ie at hx;obtain⟨i,j,o,p,q,r,t,e⟩:=hx;unfold AG at h;split at h
  .grind
  .rename_i f;split at h
   .rename_i g;split at h
    .grind
    .rename_i s' m hm;injection h with h;injection h with c a;subst a;exact(hk.same (Eb hm)).put (wfC d f g zd)
   .split at h
    .grind
    .rename_i l m hm;split at h
     .grind
     .rename_i s' m' b;injection h with h;injection h with c a;subst a;exact((adZ args l k m hm hk e).same (Eb b)).put (by grind [KS,a1t,vD,kS])
 termination_by structural x=>x
theorem adZ {nv:Nat}:∀ (xs:List Ex) (l:List Nat) (k k':Mk),ti xs k=O (l,k')->WK k->fi nv xs->WK k'
 | [],l,k,k',h,hk,hx=>by simp_all [ti]
 | x::xs,l,k,k',h,hk,hx=>by
  unfold fi at hx;unfold ti at h;split at h
  .grind
  .rename_i s m hm;split at h
   .grind
   .rename_i l' m' b;injection h with h;injection h with c a;subst a;exact adZ xs l' m m' b (aIG x s k m hm hk hx.1) hx.2
 termination_by structural x=>x
end
theorem WK.p1{k:Mk}(h:WK k){w nm:Bs}{s:Nat}(hw:w∈[kE,jR,jm,pF,rS,tj]):WK (k.put w nm V [s]):=h.put (by
 simp only[a1z,List.not_mem_nil,or_false] at hw;rcases hw with rfl | rfl | rfl | rfl | rfl | rfl<;>exact KS (by simp;decide) zd)
mutual
theorem P6 {nv M:Nat}:∀ (x:Bd) (cut:Nat) (k k':Mk),lC x cut k=O k'->WK k->eX nv M x->WK k'
 | .mk kind name args parts,cut,k,k',h,hk,hx=>by
  unfold eX at hx;obtain⟨e,f,g,n,d,o,p,b⟩:=hx;unfold lC at h;split at h
  .grind [WK.p1]
  split at h
  .exact XU parts cut k k' h hk b
  split at h
  .exact aIH parts cut k k' h hk b
  split at h
  .split at h
   .grind
   .rename_i s m hm;exact aII parts s cut _ k' h ((hk.same (Eb hm)).p1 zs) b
  split at h
  .split at h
   .grind
   .rename_i s m hm;exact aIJ parts s _ k' h ((hk.same (Eb hm)).p1 zs) b
  .split at h
   .grind
   .rename_i l m hm;injection h with h;subst h;refine(adZ args l k m hm hk d).put ?_;split
    .exact KS (a1t (show vD ((kS mr).getD [])<=0 by decide) (a1H _)) zd
    .exact KS (a1t (show vD ((kS xf).getD [])<=0 by decide) (a1H _)) zd
 termination_by structural x=>x
theorem XU {nv M:Nat}:∀ (xs:List Bd) (cut:Nat) (k k':Mk),tl xs cut k=O k'->WK k->eY nv M xs->WK k'
 | [],cut,k,k',h,hk,hx=>by simp_all [tl]
 | x::xs,cut,k,k',h,hk,hx=>by
  unfold eY at hx;unfold tl at h;split at h
  .grind
  .rename_i m hm;exact XU xs cut m k' h (P6 x cut k m hm hk hx.1) hx.2
 termination_by structural x=>x
theorem aIH {nv M:Nat}:∀ (xs:List Bd) (cut:Nat) (k k':Mk),D3 xs cut k=O k'->WK k->eY nv M xs->WK k'
 | [],cut,k,k',h,hk,hx=>by unfold D3 at h;cases h
 | x::xs,cut,k,k',h,hk,hx=>by
  unfold eY at hx;unfold D3 at h;split at h
  .grind
  .rename_i m1 hm;split at h
   .grind
   .rename_i m2 a;injection h with h;subst h;have p1:=AO x cut _ m1 hm;have w1:=P6 x cut _ m1 hm (hk.p1 zs) hx.1;have hlt:k.ins.length<m1.ins.length:=by have:=p1.len;grind [Mk.put]
    have w2:WK ((m1.put jm [] V [0]).land k.ins.length):=(w1.p1 zs).land fun i hi=>by
     rw[(p1.trans (iM.put m1 jm [] V [0])).at] at hi;grind
    have p2:=P5 xs cut _ m2 a;exact(XU xs cut _ m2 a w2 hx.2).land fun i hi=>by
     rw[p2.at2 hlt] at hi;grind
 termination_by structural x=>x
theorem aII {nv M:Nat}:∀ (xs:List Bd) (s cut:Nat) (k k':Mk),D4 xs s cut k=O k'->WK k->eY nv M xs->WK k'
 | [],s,cut,k,k',h,hk,hx=>by simp_all [D4]
 | x::xs,s,cut,k,k',h,hk,hx=>by
  unfold eY at hx;unfold D4 at h;split at h
  .grind
  .rename_i m1 hm;have p1:=(AO x s _ m1 hm).trans (iM.put m1 kE [] V [s]);exact aIK xs cut _ _ k' h ((P6 x s _ m1 hm (hk.p1 zs) hx.1).p1 zs) hx.2 (Nat.lt_of_lt_of_le (by grind [Mk.put]) p1.len) p1.at
 termination_by structural x=>x
theorem aIK {nv M:Nat}:∀ (xs:List Bd) (cut j:Nat) (k k':Mk),Fs xs cut j k=O k'->WK k->eY nv M xs->j<k.ins.length->k.ins[j]?=O ⟨jR,[],V,[0]⟩->WK k'
 | [],cut,j,k,k',h,hk,hx,c,ht=>by unfold Fs at h;cases h
 | x::xs,cut,j,k,k',h,hk,hx,c,ht=>by
  unfold eY at hx;unfold Fs at h;split at h
  .grind
  .rename_i m1 hm;split at h
   .grind
   .rename_i m2 a;injection h with h;subst h;have p1:=AO x cut _ m1 hm;have w1:=P6 x cut _ m1 hm hk hx.1;have hlt:j<m1.ins.length:=Nat.lt_of_lt_of_le c p1.len;have q:(m1.put jm [] V [0]).ins[j]?=O ⟨jR,[],V,[0]⟩:=by
     obtain⟨r,hr⟩:=p1.trans (iM.put m1 jm [] V [0]);grind
    have w2:WK ((m1.put jm [] V [0]).land j):=(w1.p1 zs).land fun i hi=>by
     grind
    have p2:=P5 xs cut _ m2 a;exact(XU xs cut _ m2 a w2 hx.2).land fun i hi=>by
     rw[p2.at2 hlt] at hi;grind
 termination_by structural x=>x
theorem aIJ {nv M:Nat}:∀ (xs:List Bd) (s:Nat) (k k':Mk),D5 xs s k=O k'->WK k->eY nv M xs->WK k'
 | [],s,k,k',h,hk,hx=>by unfold D5 at h;cases h
 | x::xs,s,k,k',h,hk,hx=>by
  unfold eY at hx;unfold D5 at h;split at h
  .grind
  .rename_i m1 hm;injection h with h;subst h;have p1:=((AO x s _ m1 hm).trans (iM.put m1 kE [] V [s])).trans (iM.put _ mr [102,97,105,108] V []);exact(((P6 x s _ m1 hm (hk.p1 zs) hx.1).p1 (s:=s) (w:=kE) (nm:=[]) zs).put (KS (w:=mr) (nm:=[102,97,105,108]) (con:=V) (s:=[]) zd zd)).land fun i hi=>by
    rw[p1.at] at hi;grind
 termination_by structural x=>x
end
theorem anB:∀ (n j:Nat) (k k':Mk),k.news j n=O k'->WK k->WK k'
 | 0,j,k,k',h,hk=>by simp_all [Mk.news]
 | n+1,j,k,k',h,hk=>by
  unfold Mk.news at h;split at h
  .grind
  .rename_i s m hm;have a:WK { m with vars:=m.vars.set j (O s) }  :=(by grind [WK.same,Eb]);exact anB n (j+1) _ k' h (a.p1 zs)
def ad0:∀ (n j:Nat) (k k':Mk),k.rest j n=O k'->WK k->WK k'
 | 0,j,k,k',h,hk=>by simp_all [Mk.rest]
 | n+1,j,k,k',h,hk=>by
  unfold Mk.rest at h;split at h
  .exact ad0 n (j+1) k k' h hk
  .split at h
   .grind
   .rename_i s m hm;have a:WK { m with vars:=m.vars.set j (O s) }  :=(by grind [WK.same,Eb]);exact ad0 n (j+1) _ k' h (a.p1 zs)
def anC{args:List Ex}{body:Bd}{q:Bool}{c:Co}(h:zb args body nv q=O c)(hx:fi nv args)(b:eX nv M body):∀ i∈c.ins,G0 i:=by
 unfold zb at h;split at h
 .grind
 .rename_i a m d;have e:WK (⟨0,[],List.replicate nv V⟩:Mk):=fun i hi=>absurd hi zs;have g1:WK m:=e.same (adS d);split at h
  .grind
  .rename_i m2 r;have f:WK m2:=by
    grind [anB]
   split at h
   .grind
   .rename_i cut m3 g;split at h
    .grind
    .rename_i m4 j;have k:=adY args a _ m4 j ((f.same (Eb g)).p1 zs) hx;split at h
     .grind
     .rename_i m5 l;have n:=ad0 nv 0 m4 m5 l k;split at h
      .grind
      .rename_i m6 o;have p:=P6 body cut m5 m6 o n b;injection h with h;subst h;refine p.put (KS ?_ ?_)
       .split<;>exact Nat.le_of_eq zd
       .split<;>decide
theorem anD{name:Bs}{n:Nat}{c:Co}:∀ {l:List Pd} {p:Pd},p∈rT name n c l->∀ x∈p.clauses,x=c\/∃ q∈l,x∈q.clauses
 | [],p,a,x,hx=>by
  simp_all [rT,a1K]
 | q::r,p,a,x,hx=>by
  unfold rT at a;split at a
  .grind
  .rcases a1z.1 a with rfl | a
   .grind
   .rcases anD a x hx with h | ⟨y,b,d⟩<;>grind
def anE{Q:Co->Prop}:∀ {cs:List Cl} {l l':List Pd},(∀ c∈cs,∀ x,zb c.args c.body c.vars.length G=O x->Q x)->(∀ p∈l,∀ x∈p.clauses,Q x)->xg cs l=O l'->∀ p∈l',∀ x∈p.clauses,Q x
 | [],l,l',_,a,h=>by
  grind [xg]
 | c::r,l,l',b,a,h=>by
  unfold xg at h;split at h
  .grind
  .rename_i y d;refine anE zg (fun p e x hx=>?_) h;grind [anD]
def Ed:List Pd->Nat
 | []=>0
 | p::r=>p.clauses.length+Ed r
theorem anF{name:Bs}{n:Nat}{c:Co}:∀ (l:List Pd),Ed (rT name n c l)=Ed l+1/\(rT name n c l).length<=l.length+1
 | []=>⟨J,by simp [rT]⟩
 | q::r=>by
  unfold rT;split
  .grind [Ed,a1v,List.length_singleton]
  .obtain⟨a,b⟩:=anF (name:=name) (n:=n) (c:=c) r;grind [Ed,a1x]
def anG:∀ {cs:List Cl} {l l':List Pd},xg cs l=O l'->Ed l'=Ed l+cs.length/\l'.length<=l.length+cs.length
 | [],l,l',h=>by
  unfold xg at h;injection h with h;subst h;exact⟨J,zs⟩
 | c::r,l,l',h=>by
  unfold xg at h;split at h
  .grind
  .obtain⟨a,b⟩:=anG h;grind [anF,a1x]
def ad4{first:Bs}{l:List Bs}(h:first.length+wl l<60):(kM first l).length<=60:=by
 grind [kM,a1v,XS,a1x,List.length_nil]
def anH{c:Co}(h:AN c):(tn c).length<=1800000:=by
 have key:∀ l:List In,(∀ i∈l,D9 i)->((l.map AI).flatten).length<=60*l.length:=by
  intro l;induction l with
  | nil=>grind
  | cons a r ih=>
   grind [adW,a1A,a2k,List.flatten_cons,a1v,a1x]
 have:=key c.ins h.ins;have:=h.len;unfold tn;omega
theorem aIM{p:Pd}(h:Ec p):(rU p).length<=60+1800060*p.clauses.length:=by
 have w0:wl []=0:=rfl;have b:(kM [112,114,101,100] [p.name,dL p.arity]).length<=60:=ad4 (by
  have:=h.name;have:=Fx (show p.arity<100000 by have:=h.ar;omega);rw[CS,CS,w0];simp;omega)
 have key:∀ l:List Co,(∀ c∈l,AN c)->((l.map fun c=>kM [99,108,97,117,115,101] [dL c.slots]++tn c).flatten).length<=1800060*l.length:=by
  intro l;induction l with
  | nil=>grind
  | cons a r ih=>
   intro h;have b:=anH (h a a1A);have d:(kM [99,108,97,117,115,101] [dL a.slots]).length<=60:=ad4 (by
    have:=Fx (show a.slots<100000 by have:=(h a a1A).slots;omega);rw[CS,w0];simp;omega)
   grind
 grind [rU,a1v,Ec.cls]
def aIN{l:List Pd}{ask:Co}(c:∀ p∈l,Ec p)(b:AN ask)(ht:told<=1000):(oW l ask told).length<=60*l.length+1800060*Ed l+1800060:=by
 have w0:wl []=0:=rfl;have key:∀ l:List Pd,(∀ p∈l,Ec p)->((l.map rU).flatten).length<=60*l.length+1800060*Ed l:=by
  intro l;induction l with
  | nil=>grind
  | cons a r ih=>
   grind [aIM,a1A,a2k,List.flatten_cons,a1v,a1x,Ed]
 have d:=key l c;have e:=anH b;have f:(kM [113,117,101,114,121] [dL ask.slots,dL told]).length<=60:=ad4 (by
  have:=Fx (show ask.slots<100000 by have:=b.slots;omega);have:=Fx (show told<100000 by omega);rw[CS,CS,w0];simp;omega)
 unfold oW;rw[a1v,a1v];omega
def anI{cs:List Cl}{l:List Pd}(a:∀ c∈cs,qM c)(f:cs.length<=40)(h:xg cs []=O l):(∀ p∈l,Ec p)/\(∀ p∈l,∀ c∈p.clauses,AN c/\∀ i∈c.ins,G0 i)/\l.length<=40/\Ed l<=40:=by
 have b:=anz cs [] l 0 a zo zg h;obtain⟨g,j⟩:=anG h;refine⟨b,fun p d c e=>⟨(by grind [Ec.cls]),?_⟩,zg,by simp_all [Ed]⟩;exact anE (Q:=fun c=>∀ i∈c.ins,G0 i) (fun c hm x hx=>anC hx (a c hm).cl.args (a c hm).cl.body) zg h p d c e
mutual
def G1:Tm->Nat
 | .atom _=>1
 | .int _=>1
 | .var _=>1
 | .comp _ args=>KT args+1
 termination_by structural t=>t
def KT:List Tm->Nat
 | []=>0
 | t::ts=>G1 t+KT ts
 termination_by structural t=>t
end
structure aV3(f:Nat):Prop where
 tm:∀ t least s,4*G1 t<=f->G1 t<=s.fuel->∃ r,lB [] f t least s=O (O r)/\s.fuel<=r.fuel+G1 t/\r.fuel<=s.fuel
 comp:∀ name args least s,4*KT args+3<=f->KT args<=s.fuel->∃ r,yZ [] f name args least s=O (O r)/\s.fuel<=r.fuel+KT args/\r.fuel<=s.fuel
 args:∀ c l s,4*KT l+1<=f->KT l<=s.fuel->∃ r,sZ [] f c l s=O (O r)/\s.fuel<=r.fuel+KT l/\r.fuel<=s.fuel
 list:∀ c a b s,4*(G1 a+G1 b)+1<=f->G1 a+G1 b<=s.fuel->∃ r,vw [] f c a b s=O (O r)/\s.fuel<=r.fuel+(G1 a+G1 b)/\r.fuel<=s.fuel
structure NeW(tr:Tr)(f:Nat):Prop where
 tm:∀ t least s r,eA t->lB tr f t least s=O (O r)->s.out.length<r.out.length
 comp:∀ name args least s r,jt args->yZ tr f name args least s=O (O r)->s.out.length<r.out.length
 args:∀ c l s r,jt l->sZ tr f c l s=O (O r)->s.out.length<=r.out.length
 list:∀ c a b s r,eA a->eA b->vw tr f c a b s=O (O r)->s.out.length<r.out.length
theorem anJ(n:Nat):0<(dL n).length:=by
 grind [dL,sY]
def aIO(n:Int):0<(gX n).length:=by
 grind [gX,anJ]
inductive Item where
 | wd (s:Bs)
 | sg (s:Bs)
 | md
def Item.text:Item->Bs
 | .wd s=>s
 | .sg s=>s
 | .md=>[32,109,111,100,32]
def aIP(l:List Item):Bs:=(l.map Item.text).flatten
def Item.tok:Item->Nat->Tok
 | .wd s,p=>⟨lK s,s,p⟩
 | .sg s,p=>⟨4,s,p⟩
 | .md,p=>⟨1,[109,111,100],p+1⟩
def NG:List Bs:=[[40],[41],[91],[93],[44],[124],[43],[45],[42],[47,47]]
def G2(s:Bs):Prop:=lK s≠0/\∀ c∈s,cls c≠0
def Item.ok:Item->Prop
 | .wd s=>G2 s
 | .sg s=>s∈NG
 | .md=>True
def Item.isW:Item->Bool
 | .wd _=>A
 | _=>G
def sep:Bool->List Item->Prop
 | _,[]=>True
 | p,i::r=>¬ (p=A/\i.isW=A)/\sep i.isW r
def aIQ{s rest:Bs}(a:s∈NG)(hr:rest.head?≠O 62):nH.find? (fun x=>x.isPrefixOf (s++rest))=O s:=by
 simp only[NG,a1z,List.not_mem_nil,or_false] at a;rcases a with rfl | rfl | rfl | rfl | rfl | rfl | rfl | rfl | rfl | rfl<;>cases rest with
  | nil=>decide
  | cons d r=>
   have:¬ d=62:=zg;have:¬ 62=d:=zg;have b:(62 == d)=false:=by simpa using this
   simp [nH,List.find?,List.isPrefixOf,b]
def At(T:List Tok):Nat->List Item->Prop
 | _,[]=>True
 | k,i::r=>((tk T k).kind=(i.tok 0).kind/\(tk T k).text=(i.tok 0).text)/\At T (k+1) r
end P
