/- A part of one proof (PureRp, PureGk, PureGp, PureLn, PureGw, PureTl). -/
import Derived.Test.YtoegidfbnkaabaaGreatDoorPkIAN
set_option linter.all false
set_option maxRecDepth 100000
set_option maxHeartbeats 8000000
open Option renaming some → O, none → V
open Bool renaming true → A, false → G
open Nat renaming le_refl → a1c, le_trans → a1d, zero_le → a1q, le_succ_of_le → a3K
open List renaming length_append → a1f, mem_cons → a1g, length_cons → a1i, mem_cons_self → a1j, mem_append → a1o, mem_singleton → a1x, mem_cons_of_mem → a1U, mem_or_eq_of_mem_set → a2p, modify_succ_cons → a2s, mem_of_getLast? → a2v, mem_of_mem_tail → a4E
namespace Go.Proofs.YtoegidfbnkaabaaGreatDoor
variable{M N j k n nv pb told:Nat}
namespace P
theorem CZ{w:Bs}{s:Nat}(h:kz w n=O s):s<n:=by
 grind [kz]
def adS{n:Nat}:∀ {ws:List Bs} {l:List Nat},yp n ws=O l->l.length=ws.length/\∀ k∈l,k<n
 | [],l,h=>by
  unfold yp at h;injection h with h;subst h;exact⟨J,fun _ h=>by cases h⟩
 | w::r,l,h=>by
  unfold yp at h;split at h
  .rename_i s l' b a;injection h with h;subst h;obtain⟨g1,g2⟩:=adS a;grind [CZ]
  grind
theorem TK{w t:Bs}(h:ql w=O t):t=w/\w.length<=10/\w≠[]:=by
 unfold ql at h;grind
def XR{w:Bs}{z:Int}(a:Er w=O z):kN z=w/\-9223372036854775808<=z/\z<=9223372036854775807:=by
 unfold Er at a;grind
def aIu{w:Bs}{t:Tm}(h:Es w=O t):eu t/\TE t=true:=by
 unfold Es at h;split at h
 .rename_i z b;injection h with h;subst h;have c:=(XR b).2;exact⟨by simp_all [eu],J⟩
 .cases a:ql w with
  | none=>grind
  | some x=>
   rw[a] at h;injection h with h;subst h;obtain⟨rfl,c,d⟩:=TK a;exact⟨by grind [eu],J⟩
def Qk{w sh:Bs}(h:ni w=O sh) :
  ((w=uK\/w=vJ\/w=rC\/w=lx)/\sh=[115])\/((w=FJ\/w=Eo)/\sh=[115,99])\/(w=FK/\sh=[115,115])\/((w=Ji\/w=Jj)/\sh=[115,110,42])\/((w=nM\/w=AS)/\sh=[110,42])\/((w=kH\/w=j5)/\sh=[112])\/((w=N7\/w=N8)/\sh=[]):=by
 unfold ni at h;split at h
 .grind
 split at h
 .rename_i a;injection h with h;exact .inr (.inl ⟨a,h.symm⟩)
 split at h
 .rename_i a;injection h with h;exact .inr (.inr (.inl ⟨a,h.symm⟩))
 split at h
 .rename_i a;injection h with h;exact .inr (.inr (.inr (.inl ⟨a,h.symm⟩)))
 split at h
 .grind
 split at h
 .grind
 split at h
 .rename_i a;injection h with h;exact .inr (.inr (.inr (.inr (.inr (.inr ⟨a,h.symm⟩)))))
 grind
theorem uN.of{w nm:Bs}{con:Option Tm}{s:List Nat}(h:w∈[uK,FJ,Eo,FK,Ji,Jj,nM,vJ,rC,lx,kH,j5,AS,N7,N8] /\
  (w≠kH->w≠j5->∀ k∈s,k<n)/\(w=uK\/w=FJ\/w=Eo\/w=vJ\/w=rC\/w=lx\/w=kH\/w=j5->s.length=1)/\(w=FK->s.length=2)/\(w=Ji\/w=Jj->2<=s.length) /\
  (w=nM->jW nm=s.length)/\(w=FJ\/w=Eo->∃ t,con=O t/\eu t/\TE t=A)/\nm.length<=20/\s.length<=60/\(∀ k∈s,k<100000)):uN n ⟨w,nm,con,s⟩:=
 ⟨h.1,h.2.1,h.2.2.1,h.2.2.2.1,h.2.2.2.2.1,h.2.2.2.2.2.1,h.2.2.2.2.2.2.1,h.2.2.2.2.2.2.2.1,h.2.2.2.2.2.2.2.2.1,h.2.2.2.2.2.2.2.2.2⟩
def anu{ws:List Bs}{i:In}(x:n<=64)(y:ws.length<=60)(h:vN n ws=O i):uN n i:=by
 unfold vN at h;cases ws with
 | nil=>grind
 | cons w ws=>
  simp only at h;cases o:ni w with
  | none=>grind
  | some sh=>
   rw[o] at h;simp only at h;have r:ws.length<=59:=zg;split at h
   .rename_i z c;split at h
    .grind
    .rename_i p;injection h with h;subst h;simp only[not_or,not_and,Nat.not_lt,ne_eq,Decidable.not_not] at p;obtain⟨j,m⟩:=p;rcases Qk o with⟨hw,rfl⟩| ⟨hw,rfl⟩| ⟨hw,rfl⟩| ⟨hw,rfl⟩| ⟨hw,rfl⟩| ⟨hw,rfl⟩| ⟨hw,rfl⟩
     .cases ws with
      | nil=>grind [nj]
      | cons a ws=>
       simp [nj] at c;cases d:kz a n with
       | none=>grind
       | some s=>
        rw[d] at c;simp at c;obtain⟨rfl,rfl⟩:=c;have:=CZ d;rcases hw with rfl | rfl | rfl | rfl<;>exact uN.of ⟨zd,fun _ _ k hk=>by simp at hk;omega,fun _=>rfl,fun h=>absurd h zd,fun h=>absurd h zd,fun h=>absurd h zd,fun h=>absurd h zd,zs,zs,fun k hk=>by simp at hk;omega⟩
     .cases ws with
      | nil=>grind [nj]
      | cons a ws=>
       simp [nj] at c;cases d:kz a n with
       | none=>grind
       | some s=>
        rw[d] at c;simp at c;cases ws with
        | nil=>grind
        | cons b ws=>
         simp at c;cases e:Es b with
         | none=>grind
         | some t=>
          rw[e] at c;simp at c;obtain⟨rfl,rfl⟩:=c;have:=CZ d;obtain⟨u,c2⟩:=aIu e;rcases hw with rfl | rfl<;>exact uN.of ⟨zd,fun _ _ k hk=>by simp at hk;omega,fun _=>rfl,fun h=>absurd h zd,fun h=>absurd h zd,fun h=>absurd h zd,fun _=>⟨t,J,u,c2⟩,zs,zs,fun k hk=>by simp at hk;omega⟩
     .cases ws with
      | nil=>grind [nj]
      | cons a ws=>
       simp [nj] at c;cases d:kz a n with
       | none=>grind
       | some s=>
        rw[d] at c;simp at c;cases ws with
        | nil=>grind
        | cons b ws=>
         simp at c;cases e:kz b n with
         | none=>grind
         | some t=>
          rw[e] at c;simp at c;obtain⟨rfl,rfl⟩:=c;have:=CZ d;have:=CZ e;subst hw;exact uN.of ⟨zg,fun _ _ k hk=>zg,fun h=>absurd h zd,fun _=>rfl,fun h=>absurd h zd,fun h=>absurd h zd,fun h=>absurd h zd,zs,zs,fun k hk=>zg⟩
     .cases ws with
      | nil=>grind [nj]
      | cons a ws=>
       simp [nj] at c;cases d:kz a n with
       | none=>grind
       | some s=>
        rw[d] at c;simp at c;cases ws with
        | nil=>grind
        | cons b ws=>
         simp at c;cases e:ql b with
         | none=>grind
         | some t=>
          rw[e] at c;simp at c;cases f:yp n ws with
          | none=>grind
          | some l=>
           rw[f] at c;simp at c;subst c;have:=CZ d;obtain⟨rfl,nl,-⟩:=TK e;obtain⟨g1,g2⟩:=adS f;have g:(s::l).length<=60:=zg;have q:∀ k∈s::l,k<n:=fun k hk=>by
            grind
           rcases hw with rfl | rfl<;>exact uN.of ⟨zd,fun _ _=>q,fun h=>absurd h zd,fun h=>absurd h zd,fun _=>j zd,fun h=>absurd h zd,fun h=>absurd h zd,zo,g,fun k hk=>by have:=q k hk;omega⟩
     .cases ws with
      | nil=>grind [nj]
      | cons b ws=>
       simp [nj] at c;cases e:ql b with
       | none=>grind
       | some t=>
        rw[e] at c;simp at c;cases f:yp n ws with
        | none=>grind
        | some l=>
         rw[f] at c;simp at c;subst c;obtain⟨rfl,nl,-⟩:=TK e;obtain⟨g1,g2⟩:=adS f;have g:l.length<=60:=zg;rcases hw with rfl | rfl
         .exact uN.of ⟨by simp_all,fun _ _=>g2,fun h=>absurd h zd,fun h=>absurd h zd,fun h=>absurd h zd,fun _=>m J,fun h=>absurd h zd,zo,g,fun k hk=>zg⟩
         .exact uN.of ⟨by simp_all,fun _ _=>g2,fun h=>absurd h zd,fun h=>absurd h zd,fun h=>absurd h zd,fun h=>absurd h zd,fun h=>absurd h zd,zo,g,fun k hk=>zg⟩
     .cases ws with
      | nil=>grind [nj]
      | cons a ws=>
       simp [nj] at c;cases d:kz a 10000 with
       | none=>grind
       | some s=>
        rw[d] at c;simp at c;obtain⟨rfl,rfl⟩:=c;have:=CZ d;rcases hw with rfl | rfl
        .exact uN.of ⟨by simp_all,fun h=>absurd J h,fun _=>rfl,fun h=>absurd h zd,fun h=>absurd h zd,fun h=>absurd h zd,fun h=>absurd h zd,zs,zs,fun k hk=>zg⟩
        .exact uN.of ⟨by simp_all,fun _ h=>absurd J h,fun _=>rfl,fun h=>absurd h zd,fun h=>absurd h zd,fun h=>absurd h zd,fun h=>absurd h zd,zs,zs,fun k hk=>zg⟩
     .simp [nj] at c;obtain⟨rfl,rfl⟩:=c;rcases hw with rfl | rfl<;>exact uN.of ⟨zd,fun _ _ k hk=>by simp at hk,fun h=>absurd h zd,fun h=>absurd h zd,fun h=>absurd h zd,fun h=>absurd h zd,fun h=>absurd h zd,zs,zs,fun k hk=>by simp at hk⟩
   grind
def Li(N:Nat)(c:Co):Prop:=(∀ i∈c.ins,uN c.slots i)/\c.slots<=64/\c.ins.length<=N
structure Lj(N:Nat)(p:Pv):Prop where
 pd:∀ q∈p.dO,q.clauses.length<=N/\∀ c∈q.clauses,Li N c
 ask:∀ c n,p.ask=O (c,n)->Li N c/\n<=c.slots
theorem Li.up{c:Co}(h:Li N c):Li (N+1) c:=⟨h.1,h.2.1,a3K h.2.2⟩
def anv{l:List Co}{f:Co->Co}{c:Co}(h:c∈Hi l f):c∈l\/∃ x,l.getLast?=O x/\c=f x:=by
 unfold Hi at h;split at h
 .grind
 .rename_i x r hr;have a:l=(x::r).reverse:=zg;grind
def anw(l:List Co)(f:Co->Co):(Hi l f).length=l.length:=by
 unfold Hi;split<;>simp_all
def adU{l:List Pd}{f:Pd->Pd}{c:Pd}(h:c∈Lh l f):c∈l\/∃ x,l.getLast?=O x/\c=f x:=by
 unfold Lh at h;split at h
 .grind
 .rename_i x r hr;have a:l=(x::r).reverse:=zg;grind
theorem Li.put{c:Co}{i:In}(h:Li N c)(a:uN c.slots i):Li (N+1) { c with ins:=c.ins++[i] }:=
 ⟨fun x hx=>by
  rcases a1o.1 hx with hx | hx
  .exact h.1 x hx
  grind,h.2.1,by simp;exact h.2.2⟩
theorem Lj.up{N:Nat}{p:Pv}(h:Lj N p):Lj (N+1) p:=
 ⟨fun q b=>⟨a3K (h.pd q b).1,fun c a=>((h.pd q b).2 c a).up⟩,fun c n a=>⟨(h.ask c n a).1.up,(h.ask c n a).2⟩⟩
theorem aIx{ws:List Bs}{p s:Pv}(h:Lj N p)(t:ws.length<=60)(hr:pf ws p=O s):Lj (N+1) s:=by
 unfold pf at hr;split at hr
 .split at hr
  .rename_i a b u k w;split at hr
   .grind
   .injection hr with hr;subst hr;refine⟨fun q e=>?_,fun c n d=>zg⟩;rcases a1o.1 e with e | e
    .exact h.up.pd q e
    grind
  grind
 .split at hr
  .rename_i a u k;split at hr
   .grind
   .injection hr with hr;subst hr;refine⟨fun q e=>?_,fun c n d=>zg⟩;rcases adU e with e | ⟨x,hx,rfl⟩
    .exact h.up.pd q e
    .have g:=a2v hx;refine⟨by simp;exact(h.pd x g).1,fun c d=>?_⟩;rcases a1o.1 d with d | d
     .exact((h.pd x g).2 c d).up
     .rw[a1x] at d;subst d;exact⟨fun i f=>(by cases f),by have:=CZ k;grind,a1q _⟩
  grind
 .split at hr
  .rename_i a u k;split at hr
   .rename_i b w;injection hr with hr;subst hr;refine⟨fun q e=>h.up.pd q e,fun c n d=>?_⟩;have d:O ((⟨a,[]⟩:Co),b)=O (c,n):=d;injection d with d;injection d with m o;subst m o;have:=CZ k;have:=CZ w;exact⟨⟨fun i f=>(by cases f),zg,a1q _⟩,zg⟩
   grind
  grind
 .split at hr
  .grind
  .split at hr
   .rename_i c n B;split at hr
    .rename_i i f;injection hr with hr;subst hr;obtain⟨g1,g2⟩:=h.ask c n B;refine⟨fun q e=>h.up.pd q e,fun C D d=>?_⟩;have d:O ({ c with ins:=c.ins++[i] },n)=O (C,D):=d;injection d with d;injection d with m o;subst m o;exact⟨g1.put (anu g1.2.1 t f),g2⟩
    grind
   .rename_i B;split at hr
    .split at hr
     .rename_i c d;split at hr
      .rename_i i f;injection hr with hr;subst hr;refine⟨fun q e=>?_,fun c n d=>zg⟩;rcases adU e with e | ⟨x,hx,rfl⟩
       .exact h.up.pd q e
       .have g:=a2v hx;unfold pf.Qj at d;rw[hx] at d;refine⟨by show(Hi x.clauses _).length<=_;rw[anw];exact a3K (h.pd x g).1,fun y r=>?_⟩;rcases anv r with r | ⟨z,l,rfl⟩
        .exact((h.pd x g).2 y r).up
        .have d:x.clauses.getLast?=O c:=d;rw[d] at l;injection l with l;subst l;have j:=(h.pd x g).2 c (a2v d);exact j.put (anu j.2.1 t f)
      grind
     grind
    grind
theorem TL(c:UInt8):∀ (s:Bs),(gU c s).length<=s.length+1/\gU c s≠[]
 | []=>(by simp_all [gU])
 | x::r=>by
  obtain⟨a,b⟩:=TL c r;grind [gU,a1i]
def anz:∀ (ls:List Bs) (k N:Nat) (p a:Pv),Lj N p->(∀ l∈ls,l.length<60)->pP ls k p = .ok a->Lj (N+ls.length) a
 | [],k,N,p,a,h,b,hr=>by
  simp_all [pP]
 | [r],k,N,p,a,h,b,hr=>by
  unfold pP at hr;split at hr
  .simp_all [Lj.up]
  grind
 | r::c::rs,k,N,p,a,h,b,hr=>by
  unfold pP at hr
  .split at hr
   .grind
   .rename_i q e;have hlen:=(TL 32 r).1;have d:=b r a1j;have:=anz (c::rs) (k+1) (N+1) q a (by grind [aIx]) zg hr;grind
def anA{s:Bs}{dO:List Pd}{ask:Co}(h:tF s = .ok (dO,ask,told))(e:∀ l∈gU 10 s,l.length<60):(∀ p∈dO,anb p)/\zG ask/\told<=ask.slots:=by
 unfold tF at h;split at h
 .grind
 .rename_i m;have hlen:=(TL 10 s).1;split at h
  .grind
  .rename_i p f;have a:=anz _ _ 0 _ _ ⟨zg,zg⟩ e f;rw[Nat.zero_add] at a;split at h
   .rename_i c n g;injection h with h;injection h with i h;injection h with j k;subst i j k;obtain⟨g1,g2⟩:=a.ask c n g;exact⟨fun q b=>⟨fun c d=>⟨((a.pd q b).2 c d).1,((a.pd q b).2 c d).2.1,by have:=((a.pd q b).2 c d).2.2;omega⟩,by have:=(a.pd q b).1;omega⟩,⟨g1.1,g1.2.1,by have:=g1.2.2;omega⟩,g2⟩
   grind
structure Et(i:In):Prop where
 word:i.word.length<=5
 name:i.name.length<=9
 con:(CY i.const).length<=10
 qT:i.s.length<=5
 small:∀ k∈i.s,k<100000
structure GK(N:Nat)(k:Mk):Prop where
 len:k.ins.length<=N
 ins:∀ i∈k.ins,Et i
 slots:k.slots<=64
 vars:∀ v∈k.vars,∀ t,v=O t->t<64
theorem GK.up{k:Mk}(h:GK N k)(a:N<=pb):GK pb k:=⟨a1d h.len a,h.ins,h.slots,h.vars⟩
theorem GK.put{N:Nat}{k:Mk}(h:GK N k){w nm:Bs}{con:Option Tm}{s:List Nat}(a:Et ⟨w,nm,con,s⟩):GK (N+1) (k.put w nm con s):=
 ⟨by simp_all [Mk.put,len],(by grind [Mk.put,a1x,ins]),h.slots,h.vars⟩
theorem GK.slot{N:Nat}{k k':Mk}{s:Nat}(h:GK N k)(a:k.slot=O (s,k')):GK N k'/\s<64/\k'.vars=k.vars/\k'.ins=k.ins/\k'.slots=k.slots+1/\s=k.slots:=by
 unfold Mk.slot at a;split at a
 .grind
 .injection a with a;injection a with b c;subst b c;exact⟨⟨h.len,h.ins,zg,h.vars⟩,zo,J,J,J,J⟩
theorem GK.tj{N:Nat}:∀ {n:Nat} {k k':Mk} {l:List Nat},GK N k->k.tj n=O (l,k')->GK N k'/\l.length=n/\(∀ s∈l,s<64)/\k'.vars=k.vars
 | 0,k,k',l,h,a=>by
  unfold Mk.tj at a;injection a with a;injection a with b c;subst b c;exact⟨h,J,(fun _ hm=>absurd hm zs),J⟩
 | n+1,k,k',l,h,a=>by
  unfold Mk.tj at a;split at a
  .grind
  .rename_i s m b;split at a
   .grind
   .rename_i l' m' c;injection a with a;injection a with d e;subst d e;obtain⟨g1,g2,g3,-⟩:=h.slot b;obtain⟨q1,q2,q3,q4⟩:=g1.tj c;grind
def anB{name:Bs}{n:Int}{args:List Ex}(h:gR nv (.mk pb name n k args)):(CY (O (CX pb name n))).length<=10:=by
 unfold gR at h;obtain⟨a,b,-⟩:=h;unfold CX;split
 .show(kN n).length<=10;unfold kN;have:(fc n.natAbs).length<=9:=Ty n.natAbs 8 zo _ zo;grind
 .show name.length<=10;omega
mutual
theorem adV {nv:Nat}:∀ (x:Ex) (s N:Nat) (k k':Mk),zC x s k=O k'->GK N k->s<64->gR nv x->GK (N+gy x) k'/\k'.vars.length=k.vars.length
 | .mk kind name n v args,s,N,k,k',h,hk,d,hx=>by
  have e:=hx;unfold gR at hx;obtain⟨f,j,o,p,q,u,z,g⟩:=hx;unfold zC at h;split at h
  .split at h
   .injection h with h;subst h;refine⟨(⟨hk.len,hk.ins,hk.slots,fun y b t ht=>?_⟩:GK N { k with vars:=k.vars.set v (O s) }).up (Nat.le_add_right _ _),zs⟩;rcases a2p b with b | b
    .exact hk.vars y b t ht
    grind
   .rename_i t ht;injection h with h;subst h;have B:t<64:=by
     have:O t∈k.vars:=by
      grind
     exact hk.vars _ this t J
    exact⟨(hk.put ⟨zs,zs,by simp [CY],zs,fun x hx=>zg⟩).up (by simp [gy]),J⟩
  .split at h
   .split at h
    .grind
    .rename_i l m c;obtain⟨g1,g2,g3,g4⟩:=hk.tj c;have i:=g1.put (w:=[115,112,108,105,116]) (nm:=name) (con:=V) (s:=s::l) ⟨zs,f,by simp [CY],zg,fun x hx=>by
      grind⟩
     obtain⟨q1,q2⟩:=adW args l (N+1) _ k' h i g3 g;exact⟨q1.up (by grind [gy]),q2.trans (congrArg List.length g4)⟩
   .injection h with h;subst h;exact⟨(hk.put ⟨zs,zs,anB e,zs,fun x hx=>zg⟩).up (by simp [gy]),J⟩
 termination_by structural x=>x
theorem adW {nv:Nat}:∀ (xs:List Ex) (l:List Nat) (N:Nat) (k k':Mk),tl xs l k=O k'->GK N k->(∀ s∈l,s<64)->fi nv xs->GK (N+fB xs) k'/\k'.vars.length=k.vars.length
 | [],l,N,k,k',h,hk,c,hx=>by
  unfold tl at h;injection h with h;subst h;exact⟨hk,J⟩
 | x::xs,l,N,k,k',h,hk,c,hx=>by
  unfold fi at hx;unfold tl at h;split at h
  .grind
  .rename_i m hm;have d:l.headD 0<64:=by
    cases l with
    | nil=>simp
    | cons a r=>simp_all
   obtain⟨g1,g2⟩:=adV x _ N k m hm hk d hx.1;obtain⟨q1,q2⟩:=adW xs _ _ m k' h g1 (by simp_all [a4E]) hx.2;grind [fB]
 termination_by structural x=>x
end
mutual
theorem adX {nv:Nat}:∀ (x:Ex) (N s:Nat) (k k':Mk),AR x k=O (s,k')->GK N k->gR nv x->GK (N+gy x) k'/\k'.vars=k.vars/\s<64
 | .mk kind name n v args,N,s,k,k',h,hk,hx=>by
  have d:=hx;unfold gR at hx;obtain⟨e,g,i,j,o,p,q,f⟩:=hx;unfold AR at h;split at h
  .injection h with h;injection h with a b;subst a b;refine⟨hk.up zo,J,?_⟩;cases hv:k.vars.getD v V with
   | none=>simp
   | some t=>
    have:O t∈k.vars:=by
     grind
    exact hk.vars _ this t J
  .split at h
   .split at h
    .grind
    .rename_i s' m hm;injection h with h;injection h with a b;subst a b;obtain⟨g1,g2,g3,-⟩:=hk.slot hm;exact⟨(g1.put ⟨zs,zs,anB d,zs,fun x hx=>zg⟩).up (by simp [gy]),g3,g2⟩
   .split at h
    .grind
    .rename_i l m hm;split at h
     .grind
     .rename_i s' m' c;injection h with h;injection h with a b;subst a b;obtain⟨q1,q2,q3,q4⟩:=adY args N l k m hm hk f;obtain⟨g1,g2,g3,-⟩:=q1.slot c;refine⟨(g1.put ⟨zs,e,by simp [CY],zg,fun x hx=>?_⟩).up (by grind [gy]),g3.trans q2,g2⟩;grind
 termination_by structural x=>x
theorem adY {nv:Nat}:∀ (xs:List Ex) (N:Nat) (l:List Nat) (k k':Mk),tn xs k=O (l,k')->GK N k->fi nv xs->GK (N+fB xs) k'/\k'.vars=k.vars/\l.length=xs.length/\∀ s∈l,s<64
 | [],N,l,k,k',h,hk,hx=>by
  unfold tn at h;injection h with h;injection h with a b;subst a b;exact⟨hk,J,J,zg⟩
 | x::xs,N,l,k,k',h,hk,hx=>by
  unfold fi at hx;unfold tn at h;split at h
  .grind
  .rename_i s m hm;split at h
   .grind
   .rename_i l' m' c;injection h with h;injection h with a b;subst a b;obtain⟨g1,g2,g3⟩:=adX x N s k m hm hk hx.1;obtain⟨q1,q2,q3,q4⟩:=adY xs _ l' m m' c g1 hx.2;grind [fB]
 termination_by structural x=>x
end
def anC{α:Type}{f:α->α}:∀ {l:List α} {n:Nat} {x:α},x∈l.modify n f->x∈l\/∃ y∈l,x=f y
 | [],n,x,h=>zg
 | a::l,0,x,h=>by
  grind
 | a::l,n+1,x,h=>by
  rw[a2s] at h;rcases a1g.1 h with rfl | h
  .grind
  .rcases anC h with h | ⟨y,b,e⟩<;>grind
theorem GK.land{N:Nat}{k:Mk}(h:GK N k)(c:N<100000)(j:Nat):GK N (k.land j):=
 ⟨by simp_all [Mk.land,len],fun i a=>by
  unfold Mk.land at a;rcases anC a with a | ⟨y,b,rfl⟩
  .grind [ins]
  .have:=h.ins y b;exact⟨this.word,this.name,this.con,zs,fun x hx=>by simp at hx;have:=h.len;omega⟩,h.slots,h.vars⟩
theorem XS{w nm:Bs}{s:List Nat}(hw:w.length<=5)(a:nm.length<=9)(b:s.length<=5)(hk:∀ k∈s,k<100000):Et ⟨w,nm,V,s⟩:=⟨hw,a,by simp [CY],b,hk⟩
theorem rF{w nm:Bs}{s:Nat}(hw:w.length<=5)(a:nm.length<=9)(b:s<100000):Et ⟨w,nm,V,[s]⟩:=(by simp_all [XS])
mutual
theorem Eu {nv M:Nat}:∀ (x:Bd) (cut N:Nat) (k k':Mk),ly x cut k=O k'->GK N k->fe nv M x->cut<64->N+4*je x<100000->GK (N+4*je x) k'/\k'.vars=k.vars
 | .mk kind name args parts,cut,N,k,k',h,hk,hx,a,b=>by
  unfold fe at hx;obtain⟨f,i,n,o,g,p,q,d⟩:=hx;simp only[je] at b ⊢;unfold ly at h;split at h
  .injection h with h;subst h;exact⟨(hk.put (rF zd zs zo)).up zo,J⟩
  split at h
  .obtain⟨g1,g2⟩:=XT parts cut N k k' h hk d a zo;grind [GK.up]
  split at h
  .obtain⟨g1,g2⟩:=aIy parts cut N k k' h hk d a zo;grind [GK.up]
  split at h
  .split at h
   .grind
   .rename_i s m hm;obtain⟨q1,q2,q3,-⟩:=hk.slot hm;obtain⟨g1,g2⟩:=aIz parts s cut _ _ k' h (q1.put (rF zd zs zo)) d a q2 zo;exact⟨g1.up zo,g2.trans q3⟩
  split at h
  .split at h
   .grind
   .rename_i s m hm;obtain⟨q1,q2,q3,-⟩:=hk.slot hm;obtain⟨g1,g2⟩:=aIA parts s _ _ k' h (q1.put (rF zd zs zo)) d q2 zo;exact⟨g1.up zo,g2.trans q3⟩
  .split at h
   .grind
   .rename_i l m hm;injection h with h;subst h;obtain⟨q1,q2,q3,q4⟩:=adY args N l k m hm hk g;exact⟨(q1.put (XS (by split<;>decide) f zo fun x hx=>zg)).up zo,q2⟩
 termination_by structural x=>x
theorem XT {nv M:Nat}:∀ (xs:List Bd) (cut N:Nat) (k k':Mk),tz xs cut k=O k'->GK N k->ff nv M xs->cut<64->N+4*jG xs<100000->GK (N+4*jG xs) k'/\k'.vars=k.vars
 | [],cut,N,k,k',h,hk,hx,a,b=>by
  unfold tz at h;injection h with h;subst h;exact⟨hk,J⟩
 | x::xs,cut,N,k,k',h,hk,hx,a,b=>by
  unfold ff at hx;simp only[jG] at b ⊢;unfold tz at h;split at h
  .grind
  .rename_i m hm;obtain⟨g1,g2⟩:=Eu x cut N k m hm hk hx.1 a zo;obtain⟨q1,q2⟩:=XT xs cut _ m k' h g1 hx.2 a zo;grind
 termination_by structural x=>x
theorem aIy {nv M:Nat}:∀ (xs:List Bd) (cut N:Nat) (k k':Mk),Ek xs cut k=O k'->GK N k->ff nv M xs->cut<64->N+4*jG xs+2<100000->GK (N+4*jG xs+2) k'/\k'.vars=k.vars
 | [],cut,N,k,k',h,hk,hx,a,b=>by simp_all [Ek]
 | x::xs,cut,N,k,k',h,hk,hx,a,b=>by
  unfold ff at hx;simp only[jG] at b ⊢;unfold Ek at h;split at h
  .grind
  .rename_i m1 hm;split at h
   .grind
   .rename_i m2 e;injection h with h;subst h;obtain⟨g1,g2⟩:=Eu x cut (N+1) _ m1 hm (hk.put (rF zd zs zo)) hx.1 a zo;obtain⟨q1,q2⟩:=XT xs cut _ _ m2 e ((g1.put (rF (w:=j5) (nm:=[]) (s:=0) zd zs zo)).land zo _) hx.2 a zo;exact⟨(by grind [GK.up,GK.land]),q2.trans g2⟩
 termination_by structural x=>x
theorem aIz {nv M:Nat}:∀ (xs:List Bd) (s cut N:Nat) (k k':Mk),El xs s cut k=O k'->GK N k->ff nv M xs->cut<64->s<64->N+4*jG xs+3<100000->GK (N+4*jG xs+3) k'/\k'.vars=k.vars
 | [],s,cut,N,k,k',h,hk,hx,a,c,b=>by grind [El]
 | x::xs,s,cut,N,k,k',h,hk,hx,a,c,b=>by
  unfold ff at hx;simp only[jG] at b ⊢;unfold El at h;split at h
  .grind
  .rename_i m1 hm;obtain⟨g1,g2⟩:=Eu x s (N+1) _ m1 hm (hk.put (rF zd zs zo)) hx.1 c zo;obtain⟨q1,q2⟩:=aIB xs cut _ _ _ k' h (g1.put (rF zd zs zo)) hx.2 a zo;exact⟨q1.up zo,q2.trans g2⟩
 termination_by structural x=>x
theorem aIB {nv M:Nat}:∀ (xs:List Bd) (cut j N:Nat) (k k':Mk),FI xs cut j k=O k'->GK N k->ff nv M xs->cut<64->N+4*jG xs+1<100000->GK (N+4*jG xs+1) k'/\k'.vars=k.vars
 | [],cut,j,N,k,k',h,hk,hx,a,b=>by simp_all [FI]
 | x::xs,cut,j,N,k,k',h,hk,hx,a,b=>by
  unfold ff at hx;simp only[jG] at b ⊢;unfold FI at h;split at h
  .grind
  .rename_i m1 hm;split at h
   .grind
   .rename_i m2 e;injection h with h;subst h;obtain⟨g1,g2⟩:=Eu x cut N _ m1 hm hk hx.1 a zo;obtain⟨q1,q2⟩:=XT xs cut _ _ m2 e ((g1.put (rF (w:=j5) (nm:=[]) (s:=0) zd zs zo)).land zo _) hx.2 a zo;exact⟨(by grind [GK.up,GK.land]),q2.trans g2⟩
 termination_by structural x=>x
theorem aIA {nv M:Nat}:∀ (xs:List Bd) (s N:Nat) (k k':Mk),Em xs s k=O k'->GK N k->ff nv M xs->s<64->N+4*jG xs+3<100000->GK (N+4*jG xs+3) k'/\k'.vars=k.vars
 | [],s,N,k,k',h,hk,hx,c,b=>by simp_all [Em]
 | x::xs,s,N,k,k',h,hk,hx,c,b=>by
  unfold ff at hx;simp only[jG] at b ⊢;unfold Em at h;split at h
  .grind
  .rename_i m1 hm;injection h with h;subst h;obtain⟨g1,g2⟩:=Eu x s (N+1) _ m1 hm (hk.put (rF zd zs zo)) hx.1 c zo;exact⟨(by grind [rF,lx,XS,nM,GK.up,GK.land,GK.put]),g2⟩
 termination_by structural x=>x
end
def anD:∀ (n j N:Nat) (k k':Mk),k.news j n=O k'->GK N k->GK (N+n) k'/\k'.vars.length=k.vars.length
 | 0,j,N,k,k',h,hk=>by
  unfold Mk.news at h;injection h with h;subst h;exact⟨hk,J⟩
 | n+1,j,N,k,k',h,hk=>by
  unfold Mk.news at h;split at h
  .grind
  .rename_i s m hm;obtain⟨g1,g2,g3,-⟩:=hk.slot hm;have hv:GK N { m with vars:=m.vars.set j (O s) }:=⟨g1.len,g1.ins,g1.slots,fun y a t ht=>by
    rcases a2p a with a | a
    .exact g1.vars y a t ht
    grind⟩
   obtain⟨q1,q2⟩:=anD n (j+1) (N+1) _ k' h (hv.put (rF zd zs zo));exact⟨zg,q2.trans (by show(m.vars.set j (O s)).length=_;grind)⟩
def adZ:∀ (n j N:Nat) (k k':Mk),k.rest j n=O k'->GK N k->GK (N+n) k'/\k'.vars.length=k.vars.length
 | 0,j,N,k,k',h,hk=>by
  unfold Mk.rest at h;injection h with h;subst h;exact⟨hk,J⟩
 | n+1,j,N,k,k',h,hk=>by
  unfold Mk.rest at h;split at h
  .obtain⟨q1,q2⟩:=adZ n (j+1) N k k' h hk;grind [GK.up]
  .split at h
   .grind
   .rename_i s m hm;obtain⟨g1,g2,g3,-⟩:=hk.slot hm;have hv:GK N { m with vars:=m.vars.set j (O s) }:=⟨g1.len,g1.ins,g1.slots,fun y a t ht=>by
     rcases a2p a with a | a
     .exact g1.vars y a t ht
     grind⟩
    obtain⟨q1,q2⟩:=adZ n (j+1) (N+1) _ k' h (hv.put (rF zd zs zo));exact⟨zg,q2.trans (by show(m.vars.set j (O s)).length=_;grind)⟩
structure AW(c:Co):Prop where
 ins:∀ i∈c.ins,Et i
 slots:c.slots<=64
 len:c.ins.length<=30000
theorem XU{args:List Ex}{body:Bd}{q:Bool}{c:Co}(h:BR args body nv q=O c)(hx:fi nv args)(B:fB args<=2900)(e:fe nv M body)(C:je body<=5800)(hv:nv<=12):AW c:=by
 unfold BR at h;split at h
 .grind
 .rename_i a m f;have g:GK 0 (⟨0,[],List.replicate nv V⟩:Mk):=⟨a1c _,fun i j=>absurd j zs,zs,fun v hv t ht=>zg⟩;obtain⟨g1,g2,g3,g4⟩:=g.tj f;split at h
  .grind
  .rename_i m2 d;have k:GK 12 m2:=by
    split at d
    .exact(anD nv 0 0 m m2 d g1).1.up zo
    grind [GK.up]
   split at h
   .grind
   .rename_i cut m3 l;obtain⟨n,o,-,-⟩:=k.slot l;split at h
    .grind
    .rename_i m4 p;obtain⟨r,-⟩:=adW args a 13 _ m4 p (n.put (rF zd zs zo)) g3 hx;split at h
     .grind
     .rename_i m5 u;obtain⟨x,-⟩:=adZ nv 0 _ m4 m5 u r;split at h
      .grind
      .rename_i m6 y;obtain⟨z,-⟩:=Eu body cut _ m5 m6 y x e o zo;injection h with h;subst h;have b:=z.put (w:=if q=A then [100,111,110,101] else [114,101,116]) (nm:=[]) (con:=V) (s:=[]) (XS zg zs zs zs);exact⟨b.ins,b.slots,a1d b.len zo⟩
def iZ(k k':Mk):Prop:=∃ r,k'.ins=k.ins++r
theorem iZ.refl(k:Mk):iZ k k:=⟨[],zs⟩
theorem iZ.trans{a b c:Mk}(h:iZ a b)(g:iZ b c):iZ a c:=by
 obtain⟨r,h⟩:=h;obtain⟨q,g⟩:=g;exact⟨r++q,zg⟩
theorem iZ.put(k:Mk)(w n:Bs)(c:Option Tm)(s:List Nat):iZ k (k.put w n c s):=⟨[⟨w,n,c,s⟩],J⟩
theorem iZ.same{k k':Mk}(h:k'.ins=k.ins):iZ k k':=⟨[],zg⟩
def XV{α:Type}(f:α->α):∀ (a b:List α) (q:Nat),(a++b).modify (a.length+q) f=a++b.modify q f
 | [],b,q=>zs
 | x::a,b,q=>by
  have:=XV f a b q;grind
theorem iZ.land{k k':Mk}{j:Nat}(h:iZ k k')(a:k.ins.length<=j):iZ k (k'.land j):=by
 obtain⟨r,h⟩:=h;refine⟨r.modify (j-k.ins.length) fun i=>{ i with s:=[k'.ins.length] },?_⟩;unfold Mk.land;simp only;rw[<- XV,<- h];grind
theorem Ev{k a:Mk}{s:Nat}(h:k.slot=O (s,a)):a.ins=k.ins:=by
 grind [Mk.slot]
theorem ad0:∀ {n:Nat} {k k':Mk} {l:List Nat},k.tj n=O (l,k')->k'.ins=k.ins
 | 0,k,k',l,h=>by
  simp_all [Mk.tj]
 | n+1,k,k',l,h=>by
  unfold Mk.tj at h;split at h
  .grind
  .rename_i s m a;split at h
   .grind
   .rename_i l' m' b;injection h with h;injection h with d c;rw[<- c,ad0 b,Ev a]
mutual
theorem aIC:∀ (x:Ex) (s:Nat) (k k':Mk),AR x k=O (s,k')->iZ k k'
 | .mk kind name n v args,s,k,k',h=>by
  unfold AR at h;split at h
  .simp_all [iZ.refl]
  .split at h
   .split at h
    .grind
    .rename_i s' m hm;injection h with h;injection h with c a;subst a;exact(iZ.same (Ev hm)).trans (iZ.put _ _ _ _ _)
   .split at h
    .grind
    .rename_i l m hm;split at h
     .grind
     .rename_i s' m' b;injection h with h;injection h with c a;subst a;exact((ad4 args l k m hm).trans (iZ.same (Ev b))).trans (iZ.put _ _ _ _ _)
 termination_by structural x=>x
theorem ad4:∀ (xs:List Ex) (l:List Nat) (k k':Mk),tn xs k=O (l,k')->iZ k k'
 | [],l,k,k',h=>by simp_all [tn,iZ.refl]
 | x::xs,l,k,k',h=>by
  unfold tn at h;split at h
  .grind
  .rename_i s m hm;split at h
   .grind
   .rename_i l' m' b;injection h with h;injection h with c a;subst a;exact(aIC x s k m hm).trans (ad4 xs l' m m' b)
 termination_by structural x=>x
end
def iZ.len{k a:Mk}(h:iZ k a):k.ins.length<=a.ins.length:=by obtain⟨r,h⟩:=h;grind
mutual
theorem AX:∀ (x:Bd) (cut:Nat) (k k':Mk),ly x cut k=O k'->iZ k k'
 | .mk kind name args parts,cut,k,k',h=>by
  unfold ly at h;split at h
  .grind [iZ.put]
  split at h
  .exact Ql parts cut k k' h
  split at h
  .exact aID parts cut k k' h
  split at h
  .split at h
   .grind
   .rename_i s m hm;exact((iZ.same (Ev hm)).trans (iZ.put _ _ _ _ _)).trans (aIE parts s cut _ k' h)
  split at h
  .split at h
   .grind
   .rename_i s m hm;exact((iZ.same (Ev hm)).trans (iZ.put _ _ _ _ _)).trans (aIF parts s _ k' h)
  .split at h
   .grind
   .rename_i l m hm;injection h with h;subst h;exact(ad4 args l k m hm).trans (iZ.put _ _ _ _ _)
 termination_by structural x=>x
theorem Ql:∀ (xs:List Bd) (cut:Nat) (k k':Mk),tz xs cut k=O k'->iZ k k'
 | [],cut,k,k',h=>by simp_all [tz,iZ.refl]
 | x::xs,cut,k,k',h=>by
  unfold tz at h;split at h
  .grind
  .rename_i m hm;exact(AX x cut k m hm).trans (Ql xs cut m k' h)
 termination_by structural x=>x
theorem aID:∀ (xs:List Bd) (cut:Nat) (k k':Mk),Ek xs cut k=O k'->iZ k k'
 | [],cut,k,k',h=>by simp_all [Ek]
 | x::xs,cut,k,k',h=>by
  unfold Ek at h;split at h
  .grind
  .rename_i m1 hm;split at h
   .grind
   .rename_i m2 c;injection h with h;subst h;have a:=(iZ.put k kH [] V [0]).trans (AX x cut _ m1 hm);have d:=(a.trans (iZ.put m1 j5 [] V [0])).land (j:=k.ins.length) (a1c _);exact(d.trans (Ql xs cut _ m2 c)).land a.len
 termination_by structural x=>x
theorem aIE:∀ (xs:List Bd) (s cut:Nat) (k k':Mk),El xs s cut k=O k'->iZ k k'
 | [],s,cut,k,k',h=>by simp_all [El]
 | x::xs,s,cut,k,k',h=>by
  unfold El at h;split at h
  .grind
  .rename_i m1 hm;have a:=((iZ.put k kH [] V [0]).trans (AX x s _ m1 hm)).trans (iZ.put m1 lx [] V [s]);exact aIG xs cut _ _ k' k h a (a1c _)
 termination_by structural x=>x
theorem aIG:∀ (xs:List Bd) (cut j:Nat) (k k' b:Mk),FI xs cut j k=O k'->iZ b k->b.ins.length<=j->iZ b k'
 | [],cut,j,k,k',b,h,e,f=>by simp_all [FI]
 | x::xs,cut,j,k,k',b,h,e,f=>by
  unfold FI at h;split at h
  .grind
  .rename_i m1 hm;split at h
   .grind
   .rename_i m2 c;injection h with h;subst h;have a:=e.trans (AX x cut _ m1 hm);have d:=(a.trans (iZ.put m1 j5 [] V [0])).land f;exact(d.trans (Ql xs cut _ m2 c)).land a.len
 termination_by structural x=>x
theorem aIF:∀ (xs:List Bd) (s:Nat) (k k':Mk),Em xs s k=O k'->iZ k k'
 | [],s,k,k',h=>by simp_all [Em]
 | x::xs,s,k,k',h=>by
  unfold Em at h;split at h
  .grind
  .rename_i m1 hm;injection h with h;subst h;exact((((iZ.put k kH [] V [0]).trans (AX x s _ m1 hm)).trans (iZ.put m1 lx [] V [s])).trans (iZ.put _ nM [102,97,105,108] V [])).land (a1c _)
 termination_by structural x=>x
end
theorem ad6(c x:UInt8)(r:Bs):gU c (x::r)=if x=c then []::gU c r else match gU c r with
 | []=>[[x]]
 | l::ls=>(x::l)::ls:=rfl
theorem TM(c:UInt8)(r:Bs):∀ (a:Bs),gU c (a++c::r)=gU c a++gU c r
 | []=>by simp [gU]
 | x::a=>by
  have ih:=TM c r a;grind [gU,ad6,TL,absurd]
def anE(c:UInt8):∀ (a:Bs),∀ l∈gU c a,l.length<=a.length
 | [],l,b=>by
  simp_all [gU]
 | x::a,l,b=>by
  have ih:=anE c a;unfold gU at b;grind
def TN(s:Bs):Prop:=∀ l∈gU 10 s,l.length<60
def tH(s:Bs):Prop:=∀ r,TN r->TN (s++r)
theorem tH.nil:tH []:=fun r h=>h
def tH.append{a b:Bs}(c:tH a)(d:tH b):tH (a++b):=fun r h=>by rw[List.append_assoc];exact c _ (d _ h)
theorem tH.flat{l:List Bs}(h:∀ x∈l,tH x):tH l.flatten:=by
 induction l with
 | nil=>exact .nil
 | cons a r ih=>simp_all [a1j,append,a1U]
def wl(l:List Bs):Nat:=(l.map fun w=>w.length+1).sum
def aIH(a b:List Bs):wl (a++b)=wl a+wl b:=by simp [wl]
theorem C3(a:Bs)(b:List Bs):wl (a::b)=a.length+1+wl b:=by simp [wl]
theorem XW:∀ (l:List Bs),((l.map fun w=>(32:UInt8)::w).flatten).length=wl l
 | []=>rfl
 | a::r=>by rw[C3,<- XW r];grind
def tH.words{first:Bs}{l:List Bs}(h:first.length+wl l<60):tH (nh first l):=fun r hr=>by
 unfold nh;rw[List.append_assoc,List.singleton_append];unfold TN;rw[TM];intro x hx;rcases a1o.1 hx with hx | hx
 .have:=anE _ _ x hx;grind [a1f,XW]
 .exact hr x hx
theorem FM(h:n<100000):(fc n).length<=5:=Ty n 4 zo _ zo
theorem ad7:∀ (s:List Nat),(∀ k∈s,k<100000)->wl (s.map fc)<=6*s.length
 | [],_=>by simp [wl]
 | a::r,h=>by
  have:=ad7 r zg;grind [FM,a1j,C3,a1i]
def aII{s:List Nat}(h:∀ k∈s,k<100000):s.headD 0<100000:=by
 cases s with
 | nil=>simp
 | cons a r=>simp_all
def anF{i:In}(h:Et i):i.word.length+wl (uL i ((ni i.word).getD []) i.s)<60:=by
 have ht:∀ k∈i.s.tail,k<100000:=fun k hk=>h.small k (a4E hk);have d:=FM (aII h.small);have e:=ad7 _ h.small;have a:∀ j:Nat,(fc (i.s[j]?.getD 0)).length<=5:=(by grind [FM,Et.small]);have b:wl (i.s.map fc).tail<=6*i.s.tail.length:=by rw[<- List.map_tail];grind [ad7,a4E]
 have f:=a 1;have g:(fc (i.s.head?.getD 0)).length<=5:=zg;have l:i.s.tail.length<=5:=by have:=h.qT;simp;omega
 have:=h.word;have:=h.name;have:=h.con;have:=h.qT;have w0:wl []=0:=rfl;cases c:ni i.word with
 | none=>grind [uL]
 | some sh=>
  rw[Option.getD_some];rcases Qk c with⟨-,rfl⟩| ⟨-,rfl⟩| ⟨-,rfl⟩| ⟨-,rfl⟩| ⟨-,rfl⟩| ⟨-,rfl⟩| ⟨-,rfl⟩<;>simp [uL,C3,aIH,w0]<;>omega
theorem aIJ{i:In}(h:Et i):tH (Hh i):=by
 simp_all [Hh,tH.words,anF]
theorem ad9{i:In}(h:Et i):(Hh i).length<=60:=by
 have:=anF h;grind [Hh,nh,a1f,XW,a1i,List.length_nil]
def anG{c:Co}(h:AW c):tH (AT c):=tH.flat (by grind [aIJ,AW.ins])
structure Ew(p:Pd):Prop where
 name:p.name.length<=9
 ar:p.arity<=4
 cls:∀ c∈p.clauses,AW c
 qT:p.clauses.length<=100
theorem aIK{p:Pd}(h:Ew p):tH (xw p):=by
 have w0:wl []=0:=rfl;unfold xw;refine(tH.words ?_).append (tH.flat fun x hx=>?_)
 .have:=h.name;have:=FM (show p.arity<100000 by have:=h.ar;omega);rw[C3,C3,w0];simp;omega
 .obtain⟨c,a,rfl⟩:=List.mem_map.1 hx;refine(tH.words ?_).append (anG (h.cls c a));have:=FM (show c.slots<100000 by have:=(h.cls c a).slots;omega);rw[C3,w0];simp;omega
def aIL{l:List Pd}{ask:Co}(b:∀ p∈l,Ew p)(a:AW ask)(ht:told<=1000):TN (zD l ask told):=by
 have w0:wl []=0:=rfl;have h:tH (zD l ask told):=by
  unfold zD;refine((tH.flat fun x hx=>?_).append (tH.words ?_)).append (anG a)
  .obtain⟨c,d,rfl⟩:=List.mem_map.1 hx;grind [aIK]
  .have:=FM (show ask.slots<100000 by have:=a.slots;omega);have:=FM (show told<100000 by omega);rw[C3,C3,w0];simp;omega
 have:=h [] (fun x hx=>by simp_all [gU]);grind
def anH{name:Bs}{n:Nat}{c:Co}(d:name.length<=9)(e:n<=4)(f:AW c):∀ {l:List Pd} {N:Nat},N<100->(∀ p∈l,Ew p/\p.clauses.length<=N)->∀ p∈se name n c l,Ew p/\p.clauses.length<=N+1
 | [],N,g,_,p,a=>by
  unfold se at a;rw[a1x] at a;subst a;exact⟨⟨d,e,zg,zs⟩,zs⟩
 | q::r,N,g,h,p,a=>by
  unfold se at a;obtain⟨b,i⟩:=h q a1j;split at a
  .rcases a1g.1 a with rfl | a
   .refine⟨⟨b.name,b.ar,fun x hx=>?_,zg⟩,zg⟩;rcases a1o.1 hx with hx | hx
    .exact b.cls x hx
    .rw[a1x] at hx;subst hx;exact f
   grind
  .rcases a1g.1 a with rfl | a
   .grind
   .exact anH d e f g zg p a
def aIM{c:Cl}(h:qU c){x:Co}(hx:BR c.args c.body c.vars.length G=O x):AW x:=
 XU hx h.cl.args h.cl.sz h.cl.body h.bsz h.vs.1
def anI:∀ (cs:List Cl) (l l':List Pd) (N:Nat),(∀ c∈cs,qU c)->N+cs.length<=100->(∀ p∈l,Ew p/\p.clauses.length<=N)->ym cs l=O l'->∀ p∈l',Ew p
 | [],l,l',N,_,_,b,h=>by
  simp_all [ym]
 | c::r,l,l',N,d,e,b,h=>by
  unfold ym at h;split at h
  .grind
  .rename_i x hx;simp only[a1i] at e;have a:=d c a1j;exact anI r _ l' (N+1) zg zo (anH a.name a.cl.qT (aIM a hx) zo b) h
def vP:Bs->Nat
 | []=>0
 | c::r=>(if c=115\/c=112 then 1 else 0)+vP r
structure Hl(i:In):Prop where
 wf:vP ((ni i.word).getD [])<=i.s.length
 cn:99∈(ni i.word).getD []->∃ t,i.const=O t/\eu t/\TE t=A
def WK(k:Mk):Prop:=∀ i∈k.ins,Hl i
theorem WK.same{k k':Mk}(h:WK k)(he:k'.ins=k.ins):WK k':=fun i a=>h i zg
theorem WK.put{k:Mk}(h:WK k){w nm:Bs}{con:Option Tm}{s:List Nat}(a:Hl ⟨w,nm,con,s⟩):WK (k.put w nm con s):=fun i hm=>by
 unfold Mk.put at hm;rcases a1o.1 hm with hm | hm
 .exact h i hm
 grind
def XX{α:Type}{f:α->α}:∀ {l:List α} {n:Nat} {x:α},x∈l.modify n f->x∈l\/∃ y,l[n]?=O y/\x=f y
 | [],n,x,h=>zg
 | a::l,0,x,h=>by
  grind
 | a::l,n+1,x,h=>by
  rw[a2s] at h;rcases a1g.1 h with rfl | h
  .grind
  .rcases XX h with h | ⟨y,b,e⟩<;>grind
theorem WK.land{k:Mk}(h:WK k){j:Nat}(c:∀ i,k.ins[j]?=O i->i.word=kH\/i.word=j5):WK (k.land j):=fun i a=>by
 unfold Mk.land at a;rcases XX a with a | ⟨y,d,rfl⟩
 .exact h i a
 .have hw:=c y d;refine⟨?_,fun b=>?_⟩
  .show vP ((ni y.word).getD [])<=1;rcases hw with e | e<;>rw[e]<;>decide
  .have b:99∈(ni y.word).getD []:=b;exfalso;rcases hw with e | e<;>rw[e] at b<;>revert b<;>decide
theorem iZ.at{m a:Mk}{w nm:Bs}{con:Option Tm}{s:List Nat}(h:iZ (m.put w nm con s) a):a.ins[m.ins.length]?=O ⟨w,nm,con,s⟩:=by
 obtain⟨r,h⟩:=h;rw[h];show((m.ins++[_])++r)[m.ins.length]?=_;grind
def iZ.at2{m a:Mk}{w nm:Bs}{con:Option Tm}{s:List Nat}(b:j<m.ins.length)(h:iZ ((m.put w nm con s).land j) a):a.ins[m.ins.length]?=O ⟨w,nm,con,s⟩:=by
 obtain⟨r,h⟩:=h;grind [land,Mk.land,Mk.put,List.getElem?_append_left]
theorem Ll{w nm:Bs}{con:Option Tm}{s:List Nat}(h:vP ((ni w).getD [])<=s.length)(a:99 ∉ (ni w).getD []):Hl ⟨w,nm,con,s⟩:=⟨h,zg⟩
def wfC{name:Bs}{n:Int}{args:List Ex}{w:Bs}{s:Nat}(hx:gR nv (.mk pb name n k args))(b:pb≠118)(c:pb≠99)(h:vP ((ni w).getD [])<=1):Hl ⟨w,[],O (CX pb name n),[s]⟩:=⟨h,fun _=>by
 unfold gR at hx;obtain⟨o1,o2,d,o4,o5,e,-⟩:=hx;refine⟨_,J,?_⟩;unfold CX;split
 .exact⟨by grind [eu],J⟩
 .have a:pb=97:=zo;exact⟨by grind [eu],J⟩⟩
mutual
theorem aIN {nv:Nat}:∀ (x:Ex) (s:Nat) (k k':Mk),zC x s k=O k'->WK k->gR nv x->WK k'
 | .mk kind name n v args,s,k,k',h,hk,hx=>by
  have a:=hx;unfold gR at hx;obtain⟨e,f,g,i,j,o,p,b⟩:=hx;unfold zC at h;split at h
  .split at h
   .grind [WK.same]
   .injection h with h;subst h;exact hk.put (Ll (by simp;decide) zd)
  .rename_i c;split at h
   .split at h
    .grind
    .rename_i l m q;exact aeb args l _ k' h (by grind [ad0,Ll,a1d,vP,ni,WK.put,WK.same]) b
   .rename_i d;injection h with h;subst h;exact hk.put (wfC a c d zd)
 termination_by structural x=>x
theorem aeb {nv:Nat}:∀ (xs:List Ex) (l:List Nat) (k k':Mk),tl xs l k=O k'->WK k->fi nv xs->WK k'
 | [],l,k,k',h,hk,hx=>by simp_all [tl]
 | x::xs,l,k,k',h,hk,hx=>by
  unfold fi at hx;unfold tl at h;split at h
  .grind
  .rename_i m hm;exact aeb xs _ m k' h (aIN x _ k m hm hk hx.1) hx.2
 termination_by structural x=>x
end
mutual
theorem aIO {nv:Nat}:∀ (x:Ex) (s:Nat) (k k':Mk),AR x k=O (s,k')->WK k->gR nv x->WK k'
 | .mk kind name n v args,s,k,k',h,hk,hx=>by
  have d:=hx;unfold gR at hx;obtain⟨i,j,o,p,q,r,t,e⟩:=hx;unfold AR at h;split at h
  .grind
  .rename_i f;split at h
   .rename_i g;split at h
    .grind
    .rename_i s' m hm;injection h with h;injection h with c a;subst a;exact(hk.same (Ev hm)).put (wfC d f g zd)
   .split at h
    .grind
    .rename_i l m hm;split at h
     .grind
     .rename_i s' m' b;injection h with h;injection h with c a;subst a;exact((aec args l k m hm hk e).same (Ev b)).put (by grind [Ll,a1d,vP,ni])
 termination_by structural x=>x
theorem aec {nv:Nat}:∀ (xs:List Ex) (l:List Nat) (k k':Mk),tn xs k=O (l,k')->WK k->fi nv xs->WK k'
 | [],l,k,k',h,hk,hx=>by simp_all [tn]
 | x::xs,l,k,k',h,hk,hx=>by
  unfold fi at hx;unfold tn at h;split at h
  .grind
  .rename_i s m hm;split at h
   .grind
   .rename_i l' m' b;injection h with h;injection h with c a;subst a;exact aec xs l' m m' b (aIO x s k m hm hk hx.1) hx.2
 termination_by structural x=>x
end
theorem WK.p1{k:Mk}(h:WK k){w nm:Bs}{s:Nat}(hw:w∈[lx,kH,j5,rC,uK,vJ]):WK (k.put w nm V [s]):=h.put (by
 simp only[a1g,List.not_mem_nil,or_false] at hw;rcases hw with rfl | rfl | rfl | rfl | rfl | rfl<;>exact Ll (by simp;decide) zd)
mutual
theorem Qm {nv M:Nat}:∀ (x:Bd) (cut:Nat) (k k':Mk),ly x cut k=O k'->WK k->fe nv M x->WK k'
 | .mk kind name args parts,cut,k,k',h,hk,hx=>by
  unfold fe at hx;obtain⟨f,g,n,o,e,p,q,c⟩:=hx;unfold ly at h;split at h
  .grind [WK.p1]
  split at h
  .exact XY parts cut k k' h hk c
  split at h
  .exact aIP parts cut k k' h hk c
  split at h
  .split at h
   .grind
   .rename_i s m hm;exact aIQ parts s cut _ k' h ((hk.same (Ev hm)).p1 zs) c
  split at h
  .split at h
   .grind
   .rename_i s m hm;exact aIR parts s _ k' h ((hk.same (Ev hm)).p1 zs) c
  .split at h
   .grind
   .rename_i l m hm;injection h with h;subst h;refine(aec args l k m hm hk e).put ?_;split
    .exact Ll (a1d (show vP ((ni nM).getD [])<=0 by decide) (a1q _)) zd
    .exact Ll (a1d (show vP ((ni AS).getD [])<=0 by decide) (a1q _)) zd
 termination_by structural x=>x
theorem XY {nv M:Nat}:∀ (xs:List Bd) (cut:Nat) (k k':Mk),tz xs cut k=O k'->WK k->ff nv M xs->WK k'
 | [],cut,k,k',h,hk,hx=>by simp_all [tz]
 | x::xs,cut,k,k',h,hk,hx=>by
  unfold ff at hx;unfold tz at h;split at h
  .grind
  .rename_i m hm;exact XY xs cut m k' h (Qm x cut k m hm hk hx.1) hx.2
 termination_by structural x=>x
theorem aIP {nv M:Nat}:∀ (xs:List Bd) (cut:Nat) (k k':Mk),Ek xs cut k=O k'->WK k->ff nv M xs->WK k'
 | [],cut,k,k',h,hk,hx=>by unfold Ek at h;cases h
 | x::xs,cut,k,k',h,hk,hx=>by
  unfold ff at hx;unfold Ek at h;split at h
  .grind
  .rename_i m1 hm;split at h
   .grind
   .rename_i m2 b;injection h with h;subst h;have p1:=AX x cut _ m1 hm;have w1:=Qm x cut _ m1 hm (hk.p1 zs) hx.1;have hlt:k.ins.length<m1.ins.length:=by have:=p1.len;grind [Mk.put]
    have w2:WK ((m1.put j5 [] V [0]).land k.ins.length):=(w1.p1 zs).land fun i a=>by
     rw[(p1.trans (iZ.put m1 j5 [] V [0])).at] at a;grind
    have p2:=Ql xs cut _ m2 b;exact(XY xs cut _ m2 b w2 hx.2).land fun i a=>by
     rw[p2.at2 hlt] at a;grind
 termination_by structural x=>x
theorem aIQ {nv M:Nat}:∀ (xs:List Bd) (s cut:Nat) (k k':Mk),El xs s cut k=O k'->WK k->ff nv M xs->WK k'
 | [],s,cut,k,k',h,hk,hx=>by simp_all [El]
 | x::xs,s,cut,k,k',h,hk,hx=>by
  unfold ff at hx;unfold El at h;split at h
  .grind
  .rename_i m1 hm;have p1:=(AX x s _ m1 hm).trans (iZ.put m1 lx [] V [s]);exact aIS xs cut _ _ k' h ((Qm x s _ m1 hm (hk.p1 zs) hx.1).p1 zs) hx.2 (Nat.lt_of_lt_of_le (by grind [Mk.put]) p1.len) p1.at
 termination_by structural x=>x
theorem aIS {nv M:Nat}:∀ (xs:List Bd) (cut j:Nat) (k k':Mk),FI xs cut j k=O k'->WK k->ff nv M xs->j<k.ins.length->k.ins[j]?=O ⟨kH,[],V,[0]⟩->WK k'
 | [],cut,j,k,k',h,hk,hx,d,ht=>by unfold FI at h;cases h
 | x::xs,cut,j,k,k',h,hk,hx,d,ht=>by
  unfold ff at hx;unfold FI at h;split at h
  .grind
  .rename_i m1 hm;split at h
   .grind
   .rename_i m2 b;injection h with h;subst h;have p1:=AX x cut _ m1 hm;have w1:=Qm x cut _ m1 hm hk hx.1;have hlt:j<m1.ins.length:=Nat.lt_of_lt_of_le d p1.len;have t:(m1.put j5 [] V [0]).ins[j]?=O ⟨kH,[],V,[0]⟩:=by
     obtain⟨r,hr⟩:=p1.trans (iZ.put m1 j5 [] V [0]);grind
    have w2:WK ((m1.put j5 [] V [0]).land j):=(w1.p1 zs).land fun i a=>by
     grind
    have p2:=Ql xs cut _ m2 b;exact(XY xs cut _ m2 b w2 hx.2).land fun i a=>by
     rw[p2.at2 hlt] at a;grind
 termination_by structural x=>x
theorem aIR {nv M:Nat}:∀ (xs:List Bd) (s:Nat) (k k':Mk),Em xs s k=O k'->WK k->ff nv M xs->WK k'
 | [],s,k,k',h,hk,hx=>by unfold Em at h;cases h
 | x::xs,s,k,k',h,hk,hx=>by
  unfold ff at hx;unfold Em at h;split at h
  .grind
  .rename_i m1 hm;injection h with h;subst h;have p1:=((AX x s _ m1 hm).trans (iZ.put m1 lx [] V [s])).trans (iZ.put _ nM [102,97,105,108] V []);exact(((Qm x s _ m1 hm (hk.p1 zs) hx.1).p1 (s:=s) (w:=lx) (nm:=[]) zs).put (Ll (w:=nM) (nm:=[102,97,105,108]) (con:=V) (s:=[]) zd zd)).land fun i a=>by
    rw[p1.at] at a;grind
 termination_by structural x=>x
end
theorem anK:∀ (n j:Nat) (k k':Mk),k.news j n=O k'->WK k->WK k'
 | 0,j,k,k',h,hk=>by simp_all [Mk.news]
 | n+1,j,k,k',h,hk=>by
  unfold Mk.news at h;split at h
  .grind
  .rename_i s m hm;have a:WK { m with vars:=m.vars.set j (O s) }  :=(by grind [WK.same,Ev]);exact anK n (j+1) _ k' h (a.p1 zs)
def aed:∀ (n j:Nat) (k k':Mk),k.rest j n=O k'->WK k->WK k'
 | 0,j,k,k',h,hk=>by simp_all [Mk.rest]
 | n+1,j,k,k',h,hk=>by
  unfold Mk.rest at h;split at h
  .exact aed n (j+1) k k' h hk
  .split at h
   .grind
   .rename_i s m hm;have a:WK { m with vars:=m.vars.set j (O s) }  :=(by grind [WK.same,Ev]);exact aed n (j+1) _ k' h (a.p1 zs)
def anL{args:List Ex}{body:Bd}{q:Bool}{c:Co}(h:BR args body nv q=O c)(hx:fi nv args)(b:fe nv M body):∀ i∈c.ins,Hl i:=by
 unfold BR at h;split at h
 .grind
 .rename_i a m d;have e:WK (⟨0,[],List.replicate nv V⟩:Mk):=fun i f=>absurd f zs;have g1:WK m:=e.same (ad0 d);split at h
  .grind
  .rename_i m2 s;have g:WK m2:=by
    grind [anK]
   split at h
   .grind
   .rename_i cut m3 j;split at h
    .grind
    .rename_i m4 k;have l:=aeb args a _ m4 k ((g.same (Ev j)).p1 zs) hx;split at h
     .grind
     .rename_i m5 n;have o:=aed nv 0 m4 m5 n l;split at h
      .grind
      .rename_i m6 p;have r:=Qm body cut m5 m6 p o b;injection h with h;subst h;refine r.put (Ll ?_ ?_)
       .split<;>exact Nat.le_of_eq zd
       .split<;>decide
theorem anM{name:Bs}{n:Nat}{c:Co}:∀ {l:List Pd} {p:Pd},p∈se name n c l->∀ x∈p.clauses,x=c\/∃ q∈l,x∈q.clauses
 | [],p,a,x,hx=>by
  simp_all [se,a1x]
 | q::r,p,a,x,hx=>by
  unfold se at a;split at a
  .grind
  .rcases a1g.1 a with rfl | a
   .grind
   .rcases anM a x hx with h | ⟨y,b,d⟩<;>grind
def anN{Q:Co->Prop}:∀ {cs:List Cl} {l l':List Pd},(∀ c∈cs,∀ x,BR c.args c.body c.vars.length G=O x->Q x)->(∀ p∈l,∀ x∈p.clauses,Q x)->ym cs l=O l'->∀ p∈l',∀ x∈p.clauses,Q x
 | [],l,l',_,a,h=>by
  grind [ym]
 | c::r,l,l',b,a,h=>by
  unfold ym at h;split at h
  .grind
  .rename_i y d;refine anN zg (fun p e x hx=>?_) h;grind [anM]
def Ey:List Pd->Nat
 | []=>0
 | p::r=>p.clauses.length+Ey r
theorem anO{name:Bs}{n:Nat}{c:Co}:∀ (l:List Pd),Ey (se name n c l)=Ey l+1/\(se name n c l).length<=l.length+1
 | []=>⟨J,by simp [se]⟩
 | q::r=>by
  unfold se;split
  .grind [Ey,a1f,List.length_singleton]
  .obtain⟨a,b⟩:=anO (name:=name) (n:=n) (c:=c) r;grind [Ey,a1i]
def anP:∀ {cs:List Cl} {l l':List Pd},ym cs l=O l'->Ey l'=Ey l+cs.length/\l'.length<=l.length+cs.length
 | [],l,l',h=>by
  unfold ym at h;injection h with h;subst h;exact⟨J,zs⟩
 | c::r,l,l',h=>by
  unfold ym at h;split at h
  .grind
  .obtain⟨a,b⟩:=anP h;grind [anO,a1i]
def aee{first:Bs}{l:List Bs}(h:first.length+wl l<60):(nh first l).length<=60:=by
 grind [nh,a1f,XW,a1i,List.length_nil]
def anQ{c:Co}(h:AW c):(AT c).length<=1800000:=by
 have key:∀ l:List In,(∀ i∈l,Et i)->((l.map Hh).flatten).length<=60*l.length:=by
  intro l;induction l with
  | nil=>grind
  | cons a r ih=>
   grind [ad9,a1j,a1U,List.flatten_cons,a1f,a1i]
 have:=key c.ins h.ins;have:=h.len;unfold AT;omega
theorem aIU{p:Pd}(h:Ew p):(xw p).length<=60+1800060*p.clauses.length:=by
 have w0:wl []=0:=rfl;have b:(nh [112,114,101,100] [p.name,fc p.arity]).length<=60:=aee (by
  have:=h.name;have:=FM (show p.arity<100000 by have:=h.ar;omega);rw[C3,C3,w0];simp;omega)
 have key:∀ l:List Co,(∀ c∈l,AW c)->((l.map fun c=>nh [99,108,97,117,115,101] [fc c.slots]++AT c).flatten).length<=1800060*l.length:=by
  intro l;induction l with
  | nil=>grind
  | cons a r ih=>
   intro h;have b:=anQ (h a a1j);have d:(nh [99,108,97,117,115,101] [fc a.slots]).length<=60:=aee (by
    have:=FM (show a.slots<100000 by have:=(h a a1j).slots;omega);rw[C3,w0];simp;omega)
   grind
 grind [xw,a1f,Ew.cls]
def aIV{l:List Pd}{ask:Co}(c:∀ p∈l,Ew p)(b:AW ask)(ht:told<=1000):(zD l ask told).length<=60*l.length+1800060*Ey l+1800060:=by
 have w0:wl []=0:=rfl;have key:∀ l:List Pd,(∀ p∈l,Ew p)->((l.map xw).flatten).length<=60*l.length+1800060*Ey l:=by
  intro l;induction l with
  | nil=>grind
  | cons a r ih=>
   grind [aIU,a1j,a1U,List.flatten_cons,a1f,a1i,Ey]
 have d:=key l c;have e:=anQ b;have f:(nh [113,117,101,114,121] [fc ask.slots,fc told]).length<=60:=aee (by
  have:=FM (show ask.slots<100000 by have:=b.slots;omega);have:=FM (show told<100000 by omega);rw[C3,C3,w0];simp;omega)
 unfold zD;rw[a1f,a1f];omega
def anR{cs:List Cl}{l:List Pd}(a:∀ c∈cs,qU c)(f:cs.length<=40)(h:ym cs []=O l):(∀ p∈l,Ew p)/\(∀ p∈l,∀ c∈p.clauses,AW c/\∀ i∈c.ins,Hl i)/\l.length<=40/\Ey l<=40:=by
 have b:=anI cs [] l 0 a zo zg h;obtain⟨g,j⟩:=anP h;refine⟨b,fun p d c e=>⟨(by grind [Ew.cls]),?_⟩,zg,by simp_all [Ey]⟩;exact anN (Q:=fun c=>∀ i∈c.ins,Hl i) (fun c hm x hx=>anL hx (a c hm).cl.args (a c hm).cl.body) zg h p d c e
end P
