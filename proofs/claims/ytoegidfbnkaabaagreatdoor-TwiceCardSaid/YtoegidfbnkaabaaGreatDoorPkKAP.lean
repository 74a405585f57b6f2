/- A part of one proof (PureRp, PureGk, PureGp, PureLn, PureGw, PureTl, PureA, PureC). -/
import Derived.Test.YtoegidfbnkaabaaGreatDoorPkKAO
set_option linter.all false
set_option maxRecDepth 100000
set_option maxHeartbeats 8000000
open Option renaming some → O, none → V
open Bool renaming true → A, false → ae
open Nat renaming le_refl → a0D, le_trans → a0E, zero_le → a0R, le_succ_of_le → a3a
open List renaming length_append → a0H, length_cons → a0J, mem_cons → a0N, mem_cons_self → a0O, mem_append → a0P, mem_singleton → a0Y, mem_cons_of_mem → a1u, mem_or_eq_of_mem_set → a1N, modify_succ_cons → a1Q, mem_of_getLast? → a1S, mem_of_mem_tail → a30
namespace Go.Proofs.YtoegidfbnkaabaaGreatDoor
variable{M N j k n nv pb told:Nat}
namespace P
theorem Cz{w:Bs}{s:Nat}(h:km w n=O s):s<n:=by
 grind [km]
def adv{n:Nat}:∀ {ws:List Bs} {l:List Nat},xZ n ws=O l->l.length=ws.length/\∀ k∈l,k<n
 | [],l,h=>by
  unfold xZ at h;injection h with h;subst h;exact⟨J,fun _ h=>by cases h⟩
 | w::r,l,h=>by
  unfold xZ at h;split at h
  .rename_i s l' b a;injection h with h;subst h;obtain⟨g1,g2⟩:=adv a;grind [Cz]
  grind
theorem Tb{w t:Bs}(h:pS w=O t):t=w/\w.length<=10/\w≠[]:=by
 unfold pS at h;grind
def Xl{w:Bs}{z:Int}(a:DX w=O z):kX z=w/\-9223372036854775808<=z/\z<=9223372036854775807:=by
 unfold DX at a;grind
def aIn{w:Bs}{t:Tm}(h:DY w=O t):er t/\S6 t=true:=by
 unfold DY at h;split at h
 .rename_i z b;injection h with h;subst h;have c:=(Xl b).2;exact⟨by simp_all [er],J⟩
 .cases a:pS w with
  | none=>grind
  | some x=>
   rw[a] at h;injection h with h;subst h;obtain⟨rfl,c,d⟩:=Tb a;exact⟨by grind [er],J⟩
def PE{w sh:Bs}(h:mT w=O sh) :
  ((w=uB\/w=vz\/w=rh\/w=kY)/\sh=[115])\/((w=Fg\/w=DV)/\sh=[115,99])\/(w=Fh/\sh=[115,115])\/((w=IE\/w=IF)/\sh=[115,110,42])\/((w=nD\/w=Ar)/\sh=[110,42])\/((w=kx\/w=jV)/\sh=[112])\/((w=Na\/w=Nb)/\sh=[]):=by
 unfold mT at h;split at h
 .grind
 split at h
 .rename_i a;injection h with h;exact .inr (.inl ⟨a,h.symm⟩)
 split at h
 .rename_i a;injection h with h;exact .inr (.inr (.inl ⟨a,h.symm⟩))
 split at h
 .rename_i a;injection h with h;exact .inr (.inr (.inr (.inl ⟨a,h.symm⟩)))
 split at h
 .grind
 split at h
 .grind
 split at h
 .rename_i a;injection h with h;exact .inr (.inr (.inr (.inr (.inr (.inr ⟨a,h.symm⟩)))))
 grind
theorem sU.of{w nm:Bs}{con:Option Tm}{s:List Nat}(h:w∈[uB,Fg,DV,Fh,IE,IF,nD,vz,rh,kY,kx,jV,Ar,Na,Nb] /\
  (w≠kx->w≠jV->∀ k∈s,k<n)/\(w=uB\/w=Fg\/w=DV\/w=vz\/w=rh\/w=kY\/w=kx\/w=jV->s.length=1)/\(w=Fh->s.length=2)/\(w=IE\/w=IF->2<=s.length) /\
  (w=nD->jx nm=s.length)/\(w=Fg\/w=DV->∃ t,con=O t/\er t/\S6 t=A)/\nm.length<=20/\s.length<=60/\(∀ k∈s,k<100000)):sU n ⟨w,nm,con,s⟩:=
 ⟨h.1,h.2.1,h.2.2.1,h.2.2.2.1,h.2.2.2.2.1,h.2.2.2.2.2.1,h.2.2.2.2.2.2.1,h.2.2.2.2.2.2.2.1,h.2.2.2.2.2.2.2.2.1,h.2.2.2.2.2.2.2.2.2⟩
def anj{ws:List Bs}{i:In}(x:n<=64)(y:ws.length<=60)(h:vE n ws=O i):sU n i:=by
 unfold vE at h;cases ws with
 | nil=>grind
 | cons w ws=>
  simp only at h;cases o:mT w with
  | none=>grind
  | some sh=>
   rw[o] at h;simp only at h;have r:ws.length<=59:=zg;split at h
   .rename_i z c;split at h
    .grind
    .rename_i p;injection h with h;subst h;simp only[not_or,not_and,Nat.not_lt,ne_eq,Decidable.not_not] at p;obtain⟨j,m⟩:=p;rcases PE o with⟨hw,rfl⟩| ⟨hw,rfl⟩| ⟨hw,rfl⟩| ⟨hw,rfl⟩| ⟨hw,rfl⟩| ⟨hw,rfl⟩| ⟨hw,rfl⟩
     .cases ws with
      | nil=>grind [mV]
      | cons a ws=>
       simp [mV] at c;cases d:km a n with
       | none=>grind
       | some s=>
        rw[d] at c;simp at c;obtain⟨rfl,rfl⟩:=c;have:=Cz d;rcases hw with rfl | rfl | rfl | rfl<;>exact sU.of ⟨zd,fun _ _ k hk=>by simp at hk;omega,fun _=>rfl,fun h=>absurd h zd,fun h=>absurd h zd,fun h=>absurd h zd,fun h=>absurd h zd,zs,zs,fun k hk=>by simp at hk;omega⟩
     .cases ws with
      | nil=>grind [mV]
      | cons a ws=>
       simp [mV] at c;cases d:km a n with
       | none=>grind
       | some s=>
        rw[d] at c;simp at c;cases ws with
        | nil=>grind
        | cons b ws=>
         simp at c;cases e:DY b with
         | none=>grind
         | some t=>
          rw[e] at c;simp at c;obtain⟨rfl,rfl⟩:=c;have:=Cz d;obtain⟨u,c2⟩:=aIn e;rcases hw with rfl | rfl<;>exact sU.of ⟨zd,fun _ _ k hk=>by simp at hk;omega,fun _=>rfl,fun h=>absurd h zd,fun h=>absurd h zd,fun h=>absurd h zd,fun _=>⟨t,J,u,c2⟩,zs,zs,fun k hk=>by simp at hk;omega⟩
     .cases ws with
      | nil=>grind [mV]
      | cons a ws=>
       simp [mV] at c;cases d:km a n with
       | none=>grind
       | some s=>
        rw[d] at c;simp at c;cases ws with
        | nil=>grind
        | cons b ws=>
         simp at c;cases e:km b n with
         | none=>grind
         | some t=>
          rw[e] at c;simp at c;obtain⟨rfl,rfl⟩:=c;have:=Cz d;have:=Cz e;subst hw;exact sU.of ⟨zg,fun _ _ k hk=>zg,fun h=>absurd h zd,fun _=>rfl,fun h=>absurd h zd,fun h=>absurd h zd,fun h=>absurd h zd,zs,zs,fun k hk=>zg⟩
     .cases ws with
      | nil=>grind [mV]
      | cons a ws=>
       simp [mV] at c;cases d:km a n with
       | none=>grind
       | some s=>
        rw[d] at c;simp at c;cases ws with
        | nil=>grind
        | cons b ws=>
         simp at c;cases e:pS b with
         | none=>grind
         | some t=>
          rw[e] at c;simp at c;cases f:xZ n ws with
          | none=>grind
          | some l=>
           rw[f] at c;simp at c;subst c;have:=Cz d;obtain⟨rfl,nl,-⟩:=Tb e;obtain⟨g1,g2⟩:=adv f;have g:(s::l).length<=60:=zg;have q:∀ k∈s::l,k<n:=fun k hk=>by
            grind
           rcases hw with rfl | rfl<;>exact sU.of ⟨zd,fun _ _=>q,fun h=>absurd h zd,fun h=>absurd h zd,fun _=>j zd,fun h=>absurd h zd,fun h=>absurd h zd,zo,g,fun k hk=>by have:=q k hk;omega⟩
     .cases ws with
      | nil=>grind [mV]
      | cons b ws=>
       simp [mV] at c;cases e:pS b with
       | none=>grind
       | some t=>
        rw[e] at c;simp at c;cases f:xZ n ws with
        | none=>grind
        | some l=>
         rw[f] at c;simp at c;subst c;obtain⟨rfl,nl,-⟩:=Tb e;obtain⟨g1,g2⟩:=adv f;have g:l.length<=60:=zg;rcases hw with rfl | rfl
         .exact sU.of ⟨by simp_all,fun _ _=>g2,fun h=>absurd h zd,fun h=>absurd h zd,fun h=>absurd h zd,fun _=>m J,fun h=>absurd h zd,zo,g,fun k hk=>zg⟩
         .exact sU.of ⟨by simp_all,fun _ _=>g2,fun h=>absurd h zd,fun h=>absurd h zd,fun h=>absurd h zd,fun h=>absurd h zd,fun h=>absurd h zd,zo,g,fun k hk=>zg⟩
     .cases ws with
      | nil=>grind [mV]
      | cons a ws=>
       simp [mV] at c;cases d:km a 10000 with
       | none=>grind
       | some s=>
        rw[d] at c;simp at c;obtain⟨rfl,rfl⟩:=c;have:=Cz d;rcases hw with rfl | rfl
        .exact sU.of ⟨by simp_all,fun h=>absurd J h,fun _=>rfl,fun h=>absurd h zd,fun h=>absurd h zd,fun h=>absurd h zd,fun h=>absurd h zd,zs,zs,fun k hk=>zg⟩
        .exact sU.of ⟨by simp_all,fun _ h=>absurd J h,fun _=>rfl,fun h=>absurd h zd,fun h=>absurd h zd,fun h=>absurd h zd,fun h=>absurd h zd,zs,zs,fun k hk=>zg⟩
     .simp [mV] at c;obtain⟨rfl,rfl⟩:=c;rcases hw with rfl | rfl<;>exact sU.of ⟨zd,fun _ _ k hk=>by simp at hk,fun h=>absurd h zd,fun h=>absurd h zd,fun h=>absurd h zd,fun h=>absurd h zd,fun h=>absurd h zd,zs,zs,fun k hk=>by simp at hk⟩
   grind
def Ky(N:Nat)(c:Co):Prop:=(∀ i∈c.ins,sU c.slots i)/\c.slots<=64/\c.ins.length<=N
structure Kz(N:Nat)(p:Pv):Prop where
 pd:∀ q∈p.preds,q.clauses.length<=N/\∀ c∈q.clauses,Ky N c
 ask:∀ c n,p.ask=O (c,n)->Ky N c/\n<=c.slots
theorem Ky.up{c:Co}(h:Ky N c):Ky (N+1) c:=⟨h.1,h.2.1,a3a h.2.2⟩
def ank{l:List Co}{f:Co->Co}{c:Co}(h:c∈GI l f):c∈l\/∃ x,l.getLast?=O x/\c=f x:=by
 unfold GI at h;split at h
 .grind
 .rename_i x r hr;have a:l=(x::r).reverse:=zg;grind
def anl(l:List Co)(f:Co->Co):(GI l f).length=l.length:=by
 unfold GI;split<;>simp_all
def adx{l:List Pd}{f:Pd->Pd}{c:Pd}(h:c∈Kx l f):c∈l\/∃ x,l.getLast?=O x/\c=f x:=by
 unfold Kx at h;split at h
 .grind
 .rename_i x r hr;have a:l=(x::r).reverse:=zg;grind
theorem Ky.put{c:Co}{i:In}(h:Ky N c)(a:sU c.slots i):Ky (N+1) { c with ins:=c.ins++[i] }:=
 ⟨fun x hx=>by
  rcases a0P.1 hx with hx | hx
  .exact h.1 x hx
  grind,h.2.1,by simp;exact h.2.2⟩
theorem Kz.up{N:Nat}{p:Pv}(h:Kz N p):Kz (N+1) p:=
 ⟨fun q b=>⟨a3a (h.pd q b).1,fun c a=>((h.pd q b).2 c a).up⟩,fun c n a=>⟨(h.ask c n a).1.up,(h.ask c n a).2⟩⟩
theorem aIq{ws:List Bs}{p s:Pv}(h:Kz N p)(t:ws.length<=60)(hr:oN ws p=O s):Kz (N+1) s:=by
 unfold oN at hr;split at hr
 .split at hr
  .rename_i a b u k w;split at hr
   .grind
   .injection hr with hr;subst hr;refine⟨fun q e=>?_,fun c n d=>zg⟩;rcases a0P.1 e with e | e
    .exact h.up.pd q e
    grind
  grind
 .split at hr
  .rename_i a u k;split at hr
   .grind
   .injection hr with hr;subst hr;refine⟨fun q e=>?_,fun c n d=>zg⟩;rcases adx e with e | ⟨x,hx,rfl⟩
    .exact h.up.pd q e
    .have g:=a1S hx;refine⟨by simp;exact(h.pd x g).1,fun c d=>?_⟩;rcases a0P.1 d with d | d
     .exact((h.pd x g).2 c d).up
     .rw[a0Y] at d;subst d;exact⟨fun i f=>(by cases f),by have:=Cz k;grind,a0R _⟩
  grind
 .split at hr
  .rename_i a u k;split at hr
   .rename_i b w;injection hr with hr;subst hr;refine⟨fun q e=>h.up.pd q e,fun c n d=>?_⟩;have d:O ((⟨a,[]⟩:Co),b)=O (c,n):=d;injection d with d;injection d with m o;subst m o;have:=Cz k;have:=Cz w;exact⟨⟨fun i f=>(by cases f),zg,a0R _⟩,zg⟩
   grind
  grind
 .split at hr
  .grind
  .split at hr
   .rename_i c n B;split at hr
    .rename_i i f;injection hr with hr;subst hr;obtain⟨g1,g2⟩:=h.ask c n B;refine⟨fun q e=>h.up.pd q e,fun C D d=>?_⟩;have d:O ({ c with ins:=c.ins++[i] },n)=O (C,D):=d;injection d with d;injection d with m o;subst m o;exact⟨g1.put (anj g1.2.1 t f),g2⟩
    grind
   .rename_i B;split at hr
    .split at hr
     .rename_i c d;split at hr
      .rename_i i f;injection hr with hr;subst hr;refine⟨fun q e=>?_,fun c n d=>zg⟩;rcases adx e with e | ⟨x,hx,rfl⟩
       .exact h.up.pd q e
       .have g:=a1S hx;unfold oN.PD at d;rw[hx] at d;refine⟨by show(GI x.clauses _).length<=_;rw[anl];exact a3a (h.pd x g).1,fun y r=>?_⟩;rcases ank r with r | ⟨z,l,rfl⟩
        .exact((h.pd x g).2 y r).up
        .have d:x.clauses.getLast?=O c:=d;rw[d] at l;injection l with l;subst l;have j:=(h.pd x g).2 c (a1S d);exact j.put (anj j.2.1 t f)
      grind
     grind
    grind
theorem Tc(c:UInt8):∀ (s:Bs),(gS c s).length<=s.length+1/\gS c s≠[]
 | []=>(by simp_all [gS])
 | x::r=>by
  obtain⟨a,b⟩:=Tc c r;grind [gS,a0J]
def ann:∀ (ls:List Bs) (k N:Nat) (p a:Pv),Kz N p->(∀ l∈ls,l.length<60)->pk ls k p = .ok a->Kz (N+ls.length) a
 | [],k,N,p,a,h,b,hr=>by
  simp_all [pk]
 | [r],k,N,p,a,h,b,hr=>by
  unfold pk at hr;split at hr
  .simp_all [Kz.up]
  grind
 | r::c::rs,k,N,p,a,h,b,hr=>by
  unfold pk at hr
  .split at hr
   .grind
   .rename_i q e;have hlen:=(Tc 32 r).1;have d:=b r a0O;have:=ann (c::rs) (k+1) (N+1) q a (by grind [aIq]) zg hr;grind
def ady{s:Bs}{preds:List Pd}{ask:Co}(h:ri s = .ok (preds,ask,told))(e:∀ l∈gS 10 s,l.length<60):(∀ p∈preds,ade p)/\vA ask/\told<=ask.slots:=by
 unfold ri at h;split at h
 .grind
 .rename_i m;have hlen:=(Tc 10 s).1;split at h
  .grind
  .rename_i p f;have a:=ann _ _ 0 _ _ ⟨zg,zg⟩ e f;rw[Nat.zero_add] at a;split at h
   .rename_i c n g;injection h with h;injection h with i h;injection h with j k;subst i j k;obtain⟨g1,g2⟩:=a.ask c n g;exact⟨fun q b=>⟨fun c d=>⟨((a.pd q b).2 c d).1,((a.pd q b).2 c d).2.1,by have:=((a.pd q b).2 c d).2.2;omega⟩,by have:=(a.pd q b).1;omega⟩,⟨g1.1,g1.2.1,by have:=g1.2.2;omega⟩,g2⟩
   grind
structure DZ(i:In):Prop where
 word:i.word.length<=5
 name:i.name.length<=9
 con:(Cw i.const).length<=10
 qC:i.s.length<=5
 small:∀ k∈i.s,k<100000
structure GK(N:Nat)(k:Mk):Prop where
 len:k.ins.length<=N
 ins:∀ i∈k.ins,DZ i
 slots:k.slots<=64
 vars:∀ v∈k.vars,∀ t,v=O t->t<64
theorem GK.up{k:Mk}(h:GK N k)(a:N<=pb):GK pb k:=⟨a0E h.len a,h.ins,h.slots,h.vars⟩
theorem GK.put{N:Nat}{k:Mk}(h:GK N k){w nm:Bs}{con:Option Tm}{s:List Nat}(a:DZ ⟨w,nm,con,s⟩):GK (N+1) (k.put w nm con s):=
 ⟨by simp_all [Mk.put,len],(by grind [Mk.put,a0Y,ins]),h.slots,h.vars⟩
theorem GK.slot{N:Nat}{k k':Mk}{s:Nat}(h:GK N k)(a:k.slot=O (s,k')):GK N k'/\s<64/\k'.vars=k.vars/\k'.ins=k.ins/\k'.slots=k.slots+1/\s=k.slots:=by
 unfold Mk.slot at a;split at a
 .grind
 .injection a with a;injection a with b c;subst b c;exact⟨⟨h.len,h.ins,zg,h.vars⟩,zo,J,J,J,J⟩
theorem GK.sO{N:Nat}:∀ {n:Nat} {k k':Mk} {l:List Nat},GK N k->k.sO n=O (l,k')->GK N k'/\l.length=n/\(∀ s∈l,s<64)/\k'.vars=k.vars
 | 0,k,k',l,h,a=>by
  unfold Mk.sO at a;injection a with a;injection a with b c;subst b c;exact⟨h,J,(fun _ hm=>absurd hm zs),J⟩
 | n+1,k,k',l,h,a=>by
  unfold Mk.sO at a;split at a
  .grind
  .rename_i s m b;split at a
   .grind
   .rename_i l' m' c;injection a with a;injection a with d e;subst d e;obtain⟨g1,g2,g3,-⟩:=h.slot b;obtain⟨q1,q2,q3,q4⟩:=g1.sO c;grind
def ano{name:Bs}{n:Int}{args:List Ex}(h:ir nv (.mk pb name n k args)):(Cw (O (Cv pb name n))).length<=10:=by
 unfold ir at h;obtain⟨a,b,-⟩:=h;unfold Cv;split
 .show(kX n).length<=10;unfold kX;have:(gw n.natAbs).length<=9:=acQ n.natAbs 8 zo _ zo;grind
 .show name.length<=10;omega
mutual
theorem adz {nv:Nat}:∀ (x:Ex) (s N:Nat) (k k':Mk),y7 x s k=O k'->GK N k->s<64->ir nv x->GK (N+iH x) k'/\k'.vars.length=k.vars.length
 | .mk kind name n v args,s,N,k,k',h,hk,d,hx=>by
  have e:=hx;unfold ir at hx;obtain⟨f,j,o,p,q,u,z,g⟩:=hx;unfold y7 at h;split at h
  .split at h
   .injection h with h;subst h;refine⟨(⟨hk.len,hk.ins,hk.slots,fun y b t ht=>?_⟩:GK N { k with vars:=k.vars.set v (O s) }).up (Nat.le_add_right _ _),zs⟩;rcases a1N b with b | b
    .exact hk.vars y b t ht
    grind
   .rename_i t ht;injection h with h;subst h;have B:t<64:=by
     have:O t∈k.vars:=by
      grind
     exact hk.vars _ this t J
    exact⟨(hk.put ⟨zs,zs,by simp [Cw],zs,fun x hx=>zg⟩).up (by simp [iH]),J⟩
  .split at h
   .split at h
    .grind
    .rename_i l m c;obtain⟨g1,g2,g3,g4⟩:=hk.sO c;have i:=g1.put (w:=[115,112,108,105,116]) (nm:=name) (con:=V) (s:=s::l) ⟨zs,f,by simp [Cw],zg,fun x hx=>by
      grind⟩
     obtain⟨q1,q2⟩:=adA args l (N+1) _ k' h i g3 g;exact⟨q1.up (by grind [iH]),q2.trans (congrArg List.length g4)⟩
   .injection h with h;subst h;exact⟨(hk.put ⟨zs,zs,ano e,zs,fun x hx=>zg⟩).up (by simp [iH]),J⟩
 termination_by structural x=>x
theorem adA {nv:Nat}:∀ (xs:List Ex) (l:List Nat) (N:Nat) (k k':Mk),sQ xs l k=O k'->GK N k->(∀ s∈l,s<64)->fg nv xs->GK (N+fL xs) k'/\k'.vars.length=k.vars.length
 | [],l,N,k,k',h,hk,c,hx=>by
  unfold sQ at h;injection h with h;subst h;exact⟨hk,J⟩
 | x::xs,l,N,k,k',h,hk,c,hx=>by
  unfold fg at hx;unfold sQ at h;split at h
  .grind
  .rename_i m hm;have d:l.headD 0<64:=by
    cases l with
    | nil=>simp
    | cons a r=>simp_all
   obtain⟨g1,g2⟩:=adz x _ N k m hm hk d hx.1;obtain⟨q1,q2⟩:=adA xs _ _ m k' h g1 (by simp_all [a30]) hx.2;grind [fL]
 termination_by structural x=>x
end
mutual
theorem adB {nv:Nat}:∀ (x:Ex) (N s:Nat) (k k':Mk),Aq x k=O (s,k')->GK N k->ir nv x->GK (N+iH x) k'/\k'.vars=k.vars/\s<64
 | .mk kind name n v args,N,s,k,k',h,hk,hx=>by
  have d:=hx;unfold ir at hx;obtain⟨e,g,i,j,o,p,q,f⟩:=hx;unfold Aq at h;split at h
  .injection h with h;injection h with a b;subst a b;refine⟨hk.up zo,J,?_⟩;cases hv:k.vars.getD v V with
   | none=>simp
   | some t=>
    have:O t∈k.vars:=by
     grind
    exact hk.vars _ this t J
  .split at h
   .split at h
    .grind
    .rename_i s' m hm;injection h with h;injection h with a b;subst a b;obtain⟨g1,g2,g3,-⟩:=hk.slot hm;exact⟨(g1.put ⟨zs,zs,ano d,zs,fun x hx=>zg⟩).up (by simp [iH]),g3,g2⟩
   .split at h
    .grind
    .rename_i l m hm;split at h
     .grind
     .rename_i s' m' c;injection h with h;injection h with a b;subst a b;obtain⟨q1,q2,q3,q4⟩:=adC args N l k m hm hk f;obtain⟨g1,g2,g3,-⟩:=q1.slot c;refine⟨(g1.put ⟨zs,e,by simp [Cw],zg,fun x hx=>?_⟩).up (by grind [iH]),g3.trans q2,g2⟩;grind
 termination_by structural x=>x
theorem adC {nv:Nat}:∀ (xs:List Ex) (N:Nat) (l:List Nat) (k k':Mk),sS xs k=O (l,k')->GK N k->fg nv xs->GK (N+fL xs) k'/\k'.vars=k.vars/\l.length=xs.length/\∀ s∈l,s<64
 | [],N,l,k,k',h,hk,hx=>by
  unfold sS at h;injection h with h;injection h with a b;subst a b;exact⟨hk,J,J,zg⟩
 | x::xs,N,l,k,k',h,hk,hx=>by
  unfold fg at hx;unfold sS at h;split at h
  .grind
  .rename_i s m hm;split at h
   .grind
   .rename_i l' m' c;injection h with h;injection h with a b;subst a b;obtain⟨g1,g2,g3⟩:=adB x N s k m hm hk hx.1;obtain⟨q1,q2,q3,q4⟩:=adC xs _ l' m m' c g1 hx.2;grind [fL]
 termination_by structural x=>x
end
def anp{α:Type}{f:α->α}:∀ {l:List α} {n:Nat} {x:α},x∈l.modify n f->x∈l\/∃ y∈l,x=f y
 | [],n,x,h=>zg
 | a::l,0,x,h=>by
  grind
 | a::l,n+1,x,h=>by
  rw[a1Q] at h;rcases a0N.1 h with rfl | h
  .grind
  .rcases anp h with h | ⟨y,b,e⟩<;>grind
theorem GK.land{N:Nat}{k:Mk}(h:GK N k)(c:N<100000)(j:Nat):GK N (k.land j):=
 ⟨by simp_all [Mk.land,len],fun i a=>by
  unfold Mk.land at a;rcases anp a with a | ⟨y,b,rfl⟩
  .grind [ins]
  .have:=h.ins y b;exact⟨this.word,this.name,this.con,zs,fun x hx=>by simp at hx;have:=h.len;omega⟩,h.slots,h.vars⟩
theorem Xm{w nm:Bs}{s:List Nat}(hw:w.length<=5)(a:nm.length<=9)(b:s.length<=5)(hk:∀ k∈s,k<100000):DZ ⟨w,nm,V,s⟩:=⟨hw,a,by simp [Cw],b,hk⟩
theorem rm{w nm:Bs}{s:Nat}(hw:w.length<=5)(a:nm.length<=9)(b:s<100000):DZ ⟨w,nm,V,[s]⟩:=(by simp_all [Xm])
mutual
theorem D0 {nv M:Nat}:∀ (x:Bd) (cut N:Nat) (k k':Mk),kZ x cut k=O k'->GK N k->eY nv M x->cut<64->N+4*iZ x<100000->GK (N+4*iZ x) k'/\k'.vars=k.vars
 | .mk kind name args parts,cut,N,k,k',h,hk,hx,a,b=>by
  unfold eY at hx;obtain⟨f,i,n,o,g,p,q,d⟩:=hx;simp only[iZ] at b ⊢;unfold kZ at h;split at h
  .injection h with h;subst h;exact⟨(hk.put (rm zd zs zo)).up zo,J⟩
  split at h
  .obtain⟨g1,g2⟩:=Xn parts cut N k k' h hk d a zo;grind [GK.up]
  split at h
  .obtain⟨g1,g2⟩:=aIr parts cut N k k' h hk d a zo;grind [GK.up]
  split at h
  .split at h
   .grind
   .rename_i s m hm;obtain⟨q1,q2,q3,-⟩:=hk.slot hm;obtain⟨g1,g2⟩:=aIs parts s cut _ _ k' h (q1.put (rm zd zs zo)) d a q2 zo;exact⟨g1.up zo,g2.trans q3⟩
  split at h
  .split at h
   .grind
   .rename_i s m hm;obtain⟨q1,q2,q3,-⟩:=hk.slot hm;obtain⟨g1,g2⟩:=aIt parts s _ _ k' h (q1.put (rm zd zs zo)) d q2 zo;exact⟨g1.up zo,g2.trans q3⟩
  .split at h
   .grind
   .rename_i l m hm;injection h with h;subst h;obtain⟨q1,q2,q3,q4⟩:=adC args N l k m hm hk g;exact⟨(q1.put (Xm (by split<;>decide) f zo fun x hx=>zg)).up zo,q2⟩
 termination_by structural x=>x
theorem Xn {nv M:Nat}:∀ (xs:List Bd) (cut N:Nat) (k k':Mk),sT xs cut k=O k'->GK N k->fc nv M xs->cut<64->N+4*jD xs<100000->GK (N+4*jD xs) k'/\k'.vars=k.vars
 | [],cut,N,k,k',h,hk,hx,a,b=>by
  unfold sT at h;injection h with h;subst h;exact⟨hk,J⟩
 | x::xs,cut,N,k,k',h,hk,hx,a,b=>by
  unfold fc at hx;simp only[jD] at b ⊢;unfold sT at h;split at h
  .grind
  .rename_i m hm;obtain⟨g1,g2⟩:=D0 x cut N k m hm hk hx.1 a zo;obtain⟨q1,q2⟩:=Xn xs cut _ m k' h g1 hx.2 a zo;grind
 termination_by structural x=>x
theorem aIr {nv M:Nat}:∀ (xs:List Bd) (cut N:Nat) (k k':Mk),DS xs cut k=O k'->GK N k->fc nv M xs->cut<64->N+4*jD xs+2<100000->GK (N+4*jD xs+2) k'/\k'.vars=k.vars
 | [],cut,N,k,k',h,hk,hx,a,b=>by simp_all [DS]
 | x::xs,cut,N,k,k',h,hk,hx,a,b=>by
  unfold fc at hx;simp only[jD] at b ⊢;unfold DS at h;split at h
  .grind
  .rename_i m1 hm;split at h
   .grind
   .rename_i m2 e;injection h with h;subst h;obtain⟨g1,g2⟩:=D0 x cut (N+1) _ m1 hm (hk.put (rm zd zs zo)) hx.1 a zo;obtain⟨q1,q2⟩:=Xn xs cut _ _ m2 e ((g1.put (rm (w:=jV) (nm:=[]) (s:=0) zd zs zo)).land zo _) hx.2 a zo;exact⟨(by grind [GK.up,GK.land]),q2.trans g2⟩
 termination_by structural x=>x
theorem aIs {nv M:Nat}:∀ (xs:List Bd) (s cut N:Nat) (k k':Mk),DT xs s cut k=O k'->GK N k->fc nv M xs->cut<64->s<64->N+4*jD xs+3<100000->GK (N+4*jD xs+3) k'/\k'.vars=k.vars
 | [],s,cut,N,k,k',h,hk,hx,a,c,b=>by grind [DT]
 | x::xs,s,cut,N,k,k',h,hk,hx,a,c,b=>by
  unfold fc at hx;simp only[jD] at b ⊢;unfold DT at h;split at h
  .grind
  .rename_i m1 hm;obtain⟨g1,g2⟩:=D0 x s (N+1) _ m1 hm (hk.put (rm zd zs zo)) hx.1 c zo;obtain⟨q1,q2⟩:=aIu xs cut _ _ _ k' h (g1.put (rm zd zs zo)) hx.2 a zo;exact⟨q1.up zo,q2.trans g2⟩
 termination_by structural x=>x
theorem aIu {nv M:Nat}:∀ (xs:List Bd) (cut j N:Nat) (k k':Mk),Ff xs cut j k=O k'->GK N k->fc nv M xs->cut<64->N+4*jD xs+1<100000->GK (N+4*jD xs+1) k'/\k'.vars=k.vars
 | [],cut,j,N,k,k',h,hk,hx,a,b=>by simp_all [Ff]
 | x::xs,cut,j,N,k,k',h,hk,hx,a,b=>by
  unfold fc at hx;simp only[jD] at b ⊢;unfold Ff at h;split at h
  .grind
  .rename_i m1 hm;split at h
   .grind
   .rename_i m2 e;injection h with h;subst h;obtain⟨g1,g2⟩:=D0 x cut N _ m1 hm hk hx.1 a zo;obtain⟨q1,q2⟩:=Xn xs cut _ _ m2 e ((g1.put (rm (w:=jV) (nm:=[]) (s:=0) zd zs zo)).land zo _) hx.2 a zo;exact⟨(by grind [GK.up,GK.land]),q2.trans g2⟩
 termination_by structural x=>x
theorem aIt {nv M:Nat}:∀ (xs:List Bd) (s N:Nat) (k k':Mk),DU xs s k=O k'->GK N k->fc nv M xs->s<64->N+4*jD xs+3<100000->GK (N+4*jD xs+3) k'/\k'.vars=k.vars
 | [],s,N,k,k',h,hk,hx,c,b=>by simp_all [DU]
 | x::xs,s,N,k,k',h,hk,hx,c,b=>by
  unfold fc at hx;simp only[jD] at b ⊢;unfold DU at h;split at h
  .grind
  .rename_i m1 hm;injection h with h;subst h;obtain⟨g1,g2⟩:=D0 x s (N+1) _ m1 hm (hk.put (rm zd zs zo)) hx.1 c zo;exact⟨(by grind [rm,kY,Xm,nD,GK.up,GK.land,GK.put]),g2⟩
 termination_by structural x=>x
end
def anq:∀ (n j N:Nat) (k k':Mk),k.news j n=O k'->GK N k->GK (N+n) k'/\k'.vars.length=k.vars.length
 | 0,j,N,k,k',h,hk=>by
  unfold Mk.news at h;injection h with h;subst h;exact⟨hk,J⟩
 | n+1,j,N,k,k',h,hk=>by
  unfold Mk.news at h;split at h
  .grind
  .rename_i s m hm;obtain⟨g1,g2,g3,-⟩:=hk.slot hm;have hv:GK N { m with vars:=m.vars.set j (O s) }:=⟨g1.len,g1.ins,g1.slots,fun y a t ht=>by
    rcases a1N a with a | a
    .exact g1.vars y a t ht
    grind⟩
   obtain⟨q1,q2⟩:=anq n (j+1) (N+1) _ k' h (hv.put (rm zd zs zo));exact⟨zg,q2.trans (by show(m.vars.set j (O s)).length=_;grind)⟩
def adD:∀ (n j N:Nat) (k k':Mk),k.rest j n=O k'->GK N k->GK (N+n) k'/\k'.vars.length=k.vars.length
 | 0,j,N,k,k',h,hk=>by
  unfold Mk.rest at h;injection h with h;subst h;exact⟨hk,J⟩
 | n+1,j,N,k,k',h,hk=>by
  unfold Mk.rest at h;split at h
  .obtain⟨q1,q2⟩:=adD n (j+1) N k k' h hk;grind [GK.up]
  .split at h
   .grind
   .rename_i s m hm;obtain⟨g1,g2,g3,-⟩:=hk.slot hm;have hv:GK N { m with vars:=m.vars.set j (O s) }:=⟨g1.len,g1.ins,g1.slots,fun y a t ht=>by
     rcases a1N a with a | a
     .exact g1.vars y a t ht
     grind⟩
    obtain⟨q1,q2⟩:=adD n (j+1) (N+1) _ k' h (hv.put (rm zd zs zo));exact⟨zg,q2.trans (by show(m.vars.set j (O s)).length=_;grind)⟩
structure Aw(c:Co):Prop where
 ins:∀ i∈c.ins,DZ i
 slots:c.slots<=64
 len:c.ins.length<=30000
theorem Xo{args:List Ex}{body:Bd}{q:Bool}{c:Co}(h:Bo args body nv q=O c)(hx:fg nv args)(B:fL args<=2900)(e:eY nv M body)(C:iZ body<=5800)(hv:nv<=12):Aw c:=by
 unfold Bo at h;split at h
 .grind
 .rename_i a m f;have g:GK 0 (⟨0,[],List.replicate nv V⟩:Mk):=⟨a0D _,fun i j=>absurd j zs,zs,fun v hv t ht=>zg⟩;obtain⟨g1,g2,g3,g4⟩:=g.sO f;split at h
  .grind
  .rename_i m2 d;have k:GK 12 m2:=by
    split at d
    .exact(anq nv 0 0 m m2 d g1).1.up zo
    grind [GK.up]
   split at h
   .grind
   .rename_i cut m3 l;obtain⟨n,o,-,-⟩:=k.slot l;split at h
    .grind
    .rename_i m4 p;obtain⟨r,-⟩:=adA args a 13 _ m4 p (n.put (rm zd zs zo)) g3 hx;split at h
     .grind
     .rename_i m5 u;obtain⟨x,-⟩:=adD nv 0 _ m4 m5 u r;split at h
      .grind
      .rename_i m6 y;obtain⟨z,-⟩:=D0 body cut _ m5 m6 y x e o zo;injection h with h;subst h;have b:=z.put (w:=if q=A then [100,111,110,101] else [114,101,116]) (nm:=[]) (con:=V) (s:=[]) (Xm zg zs zs zs);exact⟨b.ins,b.slots,a0E b.len zo⟩
def iR(k k':Mk):Prop:=∃ r,k'.ins=k.ins++r
theorem iR.refl(k:Mk):iR k k:=⟨[],zs⟩
theorem iR.trans{a b c:Mk}(h:iR a b)(g:iR b c):iR a c:=by
 obtain⟨r,h⟩:=h;obtain⟨q,g⟩:=g;exact⟨r++q,zg⟩
theorem iR.put(k:Mk)(w n:Bs)(c:Option Tm)(s:List Nat):iR k (k.put w n c s):=⟨[⟨w,n,c,s⟩],J⟩
theorem iR.same{k k':Mk}(h:k'.ins=k.ins):iR k k':=⟨[],zg⟩
def Xp{α:Type}(f:α->α):∀ (a b:List α) (q:Nat),(a++b).modify (a.length+q) f=a++b.modify q f
 | [],b,q=>zs
 | x::a,b,q=>by
  have:=Xp f a b q;grind
theorem iR.land{k k':Mk}{j:Nat}(h:iR k k')(a:k.ins.length<=j):iR k (k'.land j):=by
 obtain⟨r,h⟩:=h;refine⟨r.modify (j-k.ins.length) fun i=>{ i with s:=[k'.ins.length] },?_⟩;unfold Mk.land;simp only;rw[<- Xp,<- h];grind
theorem D4{k a:Mk}{s:Nat}(h:k.slot=O (s,a)):a.ins=k.ins:=by
 grind [Mk.slot]
theorem adE:∀ {n:Nat} {k k':Mk} {l:List Nat},k.sO n=O (l,k')->k'.ins=k.ins
 | 0,k,k',l,h=>by
  simp_all [Mk.sO]
 | n+1,k,k',l,h=>by
  unfold Mk.sO at h;split at h
  .grind
  .rename_i s m a;split at h
   .grind
   .rename_i l' m' b;injection h with h;injection h with d c;rw[<- c,adE b,D4 a]
mutual
theorem aIv:∀ (x:Ex) (s:Nat) (k k':Mk),Aq x k=O (s,k')->iR k k'
 | .mk kind name n v args,s,k,k',h=>by
  unfold Aq at h;split at h
  .simp_all [iR.refl]
  .split at h
   .split at h
    .grind
    .rename_i s' m hm;injection h with h;injection h with c a;subst a;exact(iR.same (D4 hm)).trans (iR.put _ _ _ _ _)
   .split at h
    .grind
    .rename_i l m hm;split at h
     .grind
     .rename_i s' m' b;injection h with h;injection h with c a;subst a;exact((adF args l k m hm).trans (iR.same (D4 b))).trans (iR.put _ _ _ _ _)
 termination_by structural x=>x
theorem adF:∀ (xs:List Ex) (l:List Nat) (k k':Mk),sS xs k=O (l,k')->iR k k'
 | [],l,k,k',h=>by simp_all [sS,iR.refl]
 | x::xs,l,k,k',h=>by
  unfold sS at h;split at h
  .grind
  .rename_i s m hm;split at h
   .grind
   .rename_i l' m' b;injection h with h;injection h with c a;subst a;exact(aIv x s k m hm).trans (adF xs l' m m' b)
 termination_by structural x=>x
end
def iR.len{k a:Mk}(h:iR k a):k.ins.length<=a.ins.length:=by obtain⟨r,h⟩:=h;grind
mutual
theorem Ax:∀ (x:Bd) (cut:Nat) (k k':Mk),kZ x cut k=O k'->iR k k'
 | .mk kind name args parts,cut,k,k',h=>by
  unfold kZ at h;split at h
  .grind [iR.put]
  split at h
  .exact PF parts cut k k' h
  split at h
  .exact aIw parts cut k k' h
  split at h
  .split at h
   .grind
   .rename_i s m hm;exact((iR.same (D4 hm)).trans (iR.put _ _ _ _ _)).trans (aIx parts s cut _ k' h)
  split at h
  .split at h
   .grind
   .rename_i s m hm;exact((iR.same (D4 hm)).trans (iR.put _ _ _ _ _)).trans (aIy parts s _ k' h)
  .split at h
   .grind
   .rename_i l m hm;injection h with h;subst h;exact(adF args l k m hm).trans (iR.put _ _ _ _ _)
 termination_by structural x=>x
theorem PF:∀ (xs:List Bd) (cut:Nat) (k k':Mk),sT xs cut k=O k'->iR k k'
 | [],cut,k,k',h=>by simp_all [sT,iR.refl]
 | x::xs,cut,k,k',h=>by
  unfold sT at h;split at h
  .grind
  .rename_i m hm;exact(Ax x cut k m hm).trans (PF xs cut m k' h)
 termination_by structural x=>x
theorem aIw:∀ (xs:List Bd) (cut:Nat) (k k':Mk),DS xs cut k=O k'->iR k k'
 | [],cut,k,k',h=>by simp_all [DS]
 | x::xs,cut,k,k',h=>by
  unfold DS at h;split at h
  .grind
  .rename_i m1 hm;split at h
   .grind
   .rename_i m2 c;injection h with h;subst h;have a:=(iR.put k kx [] V [0]).trans (Ax x cut _ m1 hm);have d:=(a.trans (iR.put m1 jV [] V [0])).land (j:=k.ins.length) (a0D _);exact(d.trans (PF xs cut _ m2 c)).land a.len
 termination_by structural x=>x
theorem aIx:∀ (xs:List Bd) (s cut:Nat) (k k':Mk),DT xs s cut k=O k'->iR k k'
 | [],s,cut,k,k',h=>by simp_all [DT]
 | x::xs,s,cut,k,k',h=>by
  unfold DT at h;split at h
  .grind
  .rename_i m1 hm;have a:=((iR.put k kx [] V [0]).trans (Ax x s _ m1 hm)).trans (iR.put m1 kY [] V [s]);exact aIz xs cut _ _ k' k h a (a0D _)
 termination_by structural x=>x
theorem aIz:∀ (xs:List Bd) (cut j:Nat) (k k' b:Mk),Ff xs cut j k=O k'->iR b k->b.ins.length<=j->iR b k'
 | [],cut,j,k,k',b,h,e,f=>by simp_all [Ff]
 | x::xs,cut,j,k,k',b,h,e,f=>by
  unfold Ff at h;split at h
  .grind
  .rename_i m1 hm;split at h
   .grind
   .rename_i m2 c;injection h with h;subst h;have a:=e.trans (Ax x cut _ m1 hm);have d:=(a.trans (iR.put m1 jV [] V [0])).land f;exact(d.trans (PF xs cut _ m2 c)).land a.len
 termination_by structural x=>x
theorem aIy:∀ (xs:List Bd) (s:Nat) (k k':Mk),DU xs s k=O k'->iR k k'
 | [],s,k,k',h=>by simp_all [DU]
 | x::xs,s,k,k',h=>by
  unfold DU at h;split at h
  .grind
  .rename_i m1 hm;injection h with h;subst h;exact((((iR.put k kx [] V [0]).trans (Ax x s _ m1 hm)).trans (iR.put m1 kY [] V [s])).trans (iR.put _ nD [102,97,105,108] V [])).land (a0D _)
 termination_by structural x=>x
end
theorem adG(c x:UInt8)(r:Bs):gS c (x::r)=if x=c then []::gS c r else match gS c r with
 | []=>[[x]]
 | l::ls=>(x::l)::ls:=rfl
theorem Td(c:UInt8)(r:Bs):∀ (a:Bs),gS c (a++c::r)=gS c a++gS c r
 | []=>by simp [gS]
 | x::a=>by
  have ih:=Td c r a;grind [gS,adG,Tc,absurd]
def anr(c:UInt8):∀ (a:Bs),∀ l∈gS c a,l.length<=a.length
 | [],l,b=>by
  simp_all [gS]
 | x::a,l,b=>by
  have ih:=anr c a;unfold gS at b;grind
def Te(s:Bs):Prop:=∀ l∈gS 10 s,l.length<60
def sY(s:Bs):Prop:=∀ r,Te r->Te (s++r)
theorem sY.nil:sY []:=fun r h=>h
def sY.append{a b:Bs}(c:sY a)(d:sY b):sY (a++b):=fun r h=>by rw[List.append_assoc];exact c _ (d _ h)
theorem sY.flat{l:List Bs}(h:∀ x∈l,sY x):sY l.flatten:=by
 induction l with
 | nil=>exact .nil
 | cons a r ih=>simp_all [a0O,append,a1u]
def wl(l:List Bs):Nat:=(l.map fun w=>w.length+1).sum
def aIA(a b:List Bs):wl (a++b)=wl a+wl b:=by simp [wl]
theorem CB(a:Bs)(b:List Bs):wl (a::b)=a.length+1+wl b:=by simp [wl]
theorem Xq:∀ (l:List Bs),((l.map fun w=>(32:UInt8)::w).flatten).length=wl l
 | []=>rfl
 | a::r=>by rw[CB,<- Xq r];grind
def sY.words{first:Bs}{l:List Bs}(h:first.length+wl l<60):sY (mS first l):=fun r hr=>by
 unfold mS;rw[List.append_assoc,List.singleton_append];unfold Te;rw[Td];intro x hx;rcases a0P.1 hx with hx | hx
 .have:=anr _ _ x hx;grind [a0H,Xq]
 .exact hr x hx
theorem Fj(h:n<100000):(gw n).length<=5:=acQ n 4 zo _ zo
theorem adH:∀ (s:List Nat),(∀ k∈s,k<100000)->wl (s.map gw)<=6*s.length
 | [],_=>by simp [wl]
 | a::r,h=>by
  have:=adH r zg;grind [Fj,a0O,CB,a0J]
def aIB{s:List Nat}(h:∀ k∈s,k<100000):s.headD 0<100000:=by
 cases s with
 | nil=>simp
 | cons a r=>simp_all
def ant{i:In}(h:DZ i):i.word.length+wl (uC i ((mT i.word).getD []) i.s)<60:=by
 have ht:∀ k∈i.s.tail,k<100000:=fun k hk=>h.small k (a30 hk);have d:=Fj (aIB h.small);have e:=adH _ h.small;have a:∀ j:Nat,(gw (i.s[j]?.getD 0)).length<=5:=(by grind [Fj,DZ.small]);have b:wl (i.s.map gw).tail<=6*i.s.tail.length:=by rw[<- List.map_tail];grind [adH,a30]
 have f:=a 1;have g:(gw (i.s.head?.getD 0)).length<=5:=zg;have l:i.s.tail.length<=5:=by have:=h.qC;simp;omega
 have:=h.word;have:=h.name;have:=h.con;have:=h.qC;have w0:wl []=0:=rfl;cases c:mT i.word with
 | none=>grind [uC]
 | some sh=>
  rw[Option.getD_some];rcases PE c with⟨-,rfl⟩| ⟨-,rfl⟩| ⟨-,rfl⟩| ⟨-,rfl⟩| ⟨-,rfl⟩| ⟨-,rfl⟩| ⟨-,rfl⟩<;>simp [uC,CB,aIA,w0]<;>omega
theorem aIC{i:In}(h:DZ i):sY (GH i):=by
 simp_all [GH,sY.words,ant]
theorem adI{i:In}(h:DZ i):(GH i).length<=60:=by
 have:=ant h;grind [GH,mS,a0H,Xq,a0J,List.length_nil]
def anu{c:Co}(h:Aw c):sY (As c):=sY.flat (by grind [aIC,Aw.ins])
structure D5(p:Pd):Prop where
 name:p.name.length<=9
 ar:p.arity<=4
 cls:∀ c∈p.clauses,Aw c
 qC:p.clauses.length<=100
theorem aID{p:Pd}(h:D5 p):sY (wZ p):=by
 have w0:wl []=0:=rfl;unfold wZ;refine(sY.words ?_).append (sY.flat fun x hx=>?_)
 .have:=h.name;have:=Fj (show p.arity<100000 by have:=h.ar;omega);rw[CB,CB,w0];simp;omega
 .obtain⟨c,a,rfl⟩:=List.mem_map.1 hx;refine(sY.words ?_).append (anu (h.cls c a));have:=Fj (show c.slots<100000 by have:=(h.cls c a).slots;omega);rw[CB,w0];simp;omega
def aIE{l:List Pd}{ask:Co}(b:∀ p∈l,D5 p)(a:Aw ask)(ht:told<=1000):Te (y8 l ask told):=by
 have w0:wl []=0:=rfl;have h:sY (y8 l ask told):=by
  unfold y8;refine((sY.flat fun x hx=>?_).append (sY.words ?_)).append (anu a)
  .obtain⟨c,d,rfl⟩:=List.mem_map.1 hx;grind [aID]
  .have:=Fj (show ask.slots<100000 by have:=a.slots;omega);have:=Fj (show told<100000 by omega);rw[CB,CB,w0];simp;omega
 have:=h [] (fun x hx=>by simp_all [gS]);grind
def anv{name:Bs}{n:Nat}{c:Co}(d:name.length<=9)(e:n<=4)(f:Aw c):∀ {l:List Pd} {N:Nat},N<100->(∀ p∈l,D5 p/\p.clauses.length<=N)->∀ p∈rI name n c l,D5 p/\p.clauses.length<=N+1
 | [],N,g,_,p,a=>by
  unfold rI at a;rw[a0Y] at a;subst a;exact⟨⟨d,e,zg,zs⟩,zs⟩
 | q::r,N,g,h,p,a=>by
  unfold rI at a;obtain⟨b,i⟩:=h q a0O;split at a
  .rcases a0N.1 a with rfl | a
   .refine⟨⟨b.name,b.ar,fun x hx=>?_,zg⟩,zg⟩;rcases a0P.1 hx with hx | hx
    .exact b.cls x hx
    .rw[a0Y] at hx;subst hx;exact f
   grind
  .rcases a0N.1 a with rfl | a
   .grind
   .exact anv d e f g zg p a
def aIF{c:Cl}(h:qE c){x:Co}(hx:Bo c.args c.body c.vars.length ae=O x):Aw x:=
 Xo hx h.cl.args h.cl.sz h.cl.body h.bsz h.vs.1
def anw:∀ (cs:List Cl) (l l':List Pd) (N:Nat),(∀ c∈cs,qE c)->N+cs.length<=100->(∀ p∈l,D5 p/\p.clauses.length<=N)->xX cs l=O l'->∀ p∈l',D5 p
 | [],l,l',N,_,_,b,h=>by
  simp_all [xX]
 | c::r,l,l',N,d,e,b,h=>by
  unfold xX at h;split at h
  .grind
  .rename_i x hx;simp only[a0J] at e;have a:=d c a0O;exact anw r _ l' (N+1) zg zo (anv a.name a.cl.qC (aIF a hx) zo b) h
def vF:Bs->Nat
 | []=>0
 | c::r=>(if c=115\/c=112 then 1 else 0)+vF r
structure GN(i:In):Prop where
 wf:vF ((mT i.word).getD [])<=i.s.length
 cn:99∈(mT i.word).getD []->∃ t,i.const=O t/\er t/\S6 t=A
def WK(k:Mk):Prop:=∀ i∈k.ins,GN i
theorem WK.same{k k':Mk}(h:WK k)(he:k'.ins=k.ins):WK k':=fun i a=>h i zg
theorem WK.put{k:Mk}(h:WK k){w nm:Bs}{con:Option Tm}{s:List Nat}(a:GN ⟨w,nm,con,s⟩):WK (k.put w nm con s):=fun i hm=>by
 unfold Mk.put at hm;rcases a0P.1 hm with hm | hm
 .exact h i hm
 grind
def Xs{α:Type}{f:α->α}:∀ {l:List α} {n:Nat} {x:α},x∈l.modify n f->x∈l\/∃ y,l[n]?=O y/\x=f y
 | [],n,x,h=>zg
 | a::l,0,x,h=>by
  grind
 | a::l,n+1,x,h=>by
  rw[a1Q] at h;rcases a0N.1 h with rfl | h
  .grind
  .rcases Xs h with h | ⟨y,b,e⟩<;>grind
theorem WK.land{k:Mk}(h:WK k){j:Nat}(c:∀ i,k.ins[j]?=O i->i.word=kx\/i.word=jV):WK (k.land j):=fun i a=>by
 unfold Mk.land at a;rcases Xs a with a | ⟨y,d,rfl⟩
 .exact h i a
 .have hw:=c y d;refine⟨?_,fun b=>?_⟩
  .show vF ((mT y.word).getD [])<=1;rcases hw with e | e<;>rw[e]<;>decide
  .have b:99∈(mT y.word).getD []:=b;exfalso;rcases hw with e | e<;>rw[e] at b<;>revert b<;>decide
theorem iR.at{m a:Mk}{w nm:Bs}{con:Option Tm}{s:List Nat}(h:iR (m.put w nm con s) a):a.ins[m.ins.length]?=O ⟨w,nm,con,s⟩:=by
 obtain⟨r,h⟩:=h;rw[h];show((m.ins++[_])++r)[m.ins.length]?=_;grind
def iR.at2{m a:Mk}{w nm:Bs}{con:Option Tm}{s:List Nat}(b:j<m.ins.length)(h:iR ((m.put w nm con s).land j) a):a.ins[m.ins.length]?=O ⟨w,nm,con,s⟩:=by
 obtain⟨r,h⟩:=h;grind [land,Mk.land,Mk.put,List.getElem?_append_left]
theorem KB{w nm:Bs}{con:Option Tm}{s:List Nat}(h:vF ((mT w).getD [])<=s.length)(a:99 ∉ (mT w).getD []):GN ⟨w,nm,con,s⟩:=⟨h,zg⟩
def wfC{name:Bs}{n:Int}{args:List Ex}{w:Bs}{s:Nat}(hx:ir nv (.mk pb name n k args))(b:pb≠118)(c:pb≠99)(h:vF ((mT w).getD [])<=1):GN ⟨w,[],O (Cv pb name n),[s]⟩:=⟨h,fun _=>by
 unfold ir at hx;obtain⟨o1,o2,d,o4,o5,e,-⟩:=hx;refine⟨_,J,?_⟩;unfold Cv;split
 .exact⟨by grind [er],J⟩
 .have a:pb=97:=zo;exact⟨by grind [er],J⟩⟩
mutual
theorem aIG {nv:Nat}:∀ (x:Ex) (s:Nat) (k k':Mk),y7 x s k=O k'->WK k->ir nv x->WK k'
 | .mk kind name n v args,s,k,k',h,hk,hx=>by
  have a:=hx;unfold ir at hx;obtain⟨e,f,g,i,j,o,p,b⟩:=hx;unfold y7 at h;split at h
  .split at h
   .grind [WK.same]
   .injection h with h;subst h;exact hk.put (KB (by simp;decide) zd)
  .rename_i c;split at h
   .split at h
    .grind
    .rename_i l m q;exact adK args l _ k' h (by grind [adE,KB,a0E,vF,mT,WK.put,WK.same]) b
   .rename_i d;injection h with h;subst h;exact hk.put (wfC a c d zd)
 termination_by structural x=>x
theorem adK {nv:Nat}:∀ (xs:List Ex) (l:List Nat) (k k':Mk),sQ xs l k=O k'->WK k->fg nv xs->WK k'
 | [],l,k,k',h,hk,hx=>by simp_all [sQ]
 | x::xs,l,k,k',h,hk,hx=>by
  unfold fg at hx;unfold sQ at h;split at h
  .grind
  .rename_i m hm;exact adK xs _ m k' h (aIG x _ k m hm hk hx.1) hx.2
 termination_by structural x=>x
end
mutual
theorem aIH {nv:Nat}:∀ (x:Ex) (s:Nat) (k k':Mk),Aq x k=O (s,k')->WK k->ir nv x->WK k'
 | .mk kind name n v args,s,k,k',h,hk,hx=>by
  have d:=hx;unfold ir at hx;obtain⟨i,j,o,p,q,r,t,e⟩:=hx;unfold Aq at h;split at h
  .grind
  .rename_i f;split at h
   .rename_i g;split at h
    .grind
    .rename_i s' m hm;injection h with h;injection h with c a;subst a;exact(hk.same (D4 hm)).put (wfC d f g zd)
   .split at h
    .grind
    .rename_i l m hm;split at h
     .grind
     .rename_i s' m' b;injection h with h;injection h with c a;subst a;exact((adL args l k m hm hk e).same (D4 b)).put (by grind [KB,a0E,vF,mT])
 termination_by structural x=>x
theorem adL {nv:Nat}:∀ (xs:List Ex) (l:List Nat) (k k':Mk),sS xs k=O (l,k')->WK k->fg nv xs->WK k'
 | [],l,k,k',h,hk,hx=>by simp_all [sS]
 | x::xs,l,k,k',h,hk,hx=>by
  unfold fg at hx;unfold sS at h;split at h
  .grind
  .rename_i s m hm;split at h
   .grind
   .rename_i l' m' b;injection h with h;injection h with c a;subst a;exact adL xs l' m m' b (aIH x s k m hm hk hx.1) hx.2
 termination_by structural x=>x
end
theorem WK.p1{k:Mk}(h:WK k){w nm:Bs}{s:Nat}(hw:w∈[kY,kx,jV,rh,uB,vz]):WK (k.put w nm V [s]):=h.put (by
 simp only[a0N,List.not_mem_nil,or_false] at hw;rcases hw with rfl | rfl | rfl | rfl | rfl | rfl<;>exact KB (by simp;decide) zd)
mutual
theorem PG {nv M:Nat}:∀ (x:Bd) (cut:Nat) (k k':Mk),kZ x cut k=O k'->WK k->eY nv M x->WK k'
 | .mk kind name args parts,cut,k,k',h,hk,hx=>by
  unfold eY at hx;obtain⟨f,g,n,o,e,p,q,c⟩:=hx;unfold kZ at h;split at h
  .grind [WK.p1]
  split at h
  .exact Xt parts cut k k' h hk c
  split at h
  .exact aII parts cut k k' h hk c
  split at h
  .split at h
   .grind
   .rename_i s m hm;exact aIJ parts s cut _ k' h ((hk.same (D4 hm)).p1 zs) c
  split at h
  .split at h
   .grind
   .rename_i s m hm;exact aIK parts s _ k' h ((hk.same (D4 hm)).p1 zs) c
  .split at h
   .grind
   .rename_i l m hm;injection h with h;subst h;refine(adL args l k m hm hk e).put ?_;split
    .exact KB (a0E (show vF ((mT nD).getD [])<=0 by decide) (a0R _)) zd
    .exact KB (a0E (show vF ((mT Ar).getD [])<=0 by decide) (a0R _)) zd
 termination_by structural x=>x
theorem Xt {nv M:Nat}:∀ (xs:List Bd) (cut:Nat) (k k':Mk),sT xs cut k=O k'->WK k->fc nv M xs->WK k'
 | [],cut,k,k',h,hk,hx=>by simp_all [sT]
 | x::xs,cut,k,k',h,hk,hx=>by
  unfold fc at hx;unfold sT at h;split at h
  .grind
  .rename_i m hm;exact Xt xs cut m k' h (PG x cut k m hm hk hx.1) hx.2
 termination_by structural x=>x
theorem aII {nv M:Nat}:∀ (xs:List Bd) (cut:Nat) (k k':Mk),DS xs cut k=O k'->WK k->fc nv M xs->WK k'
 | [],cut,k,k',h,hk,hx=>by unfold DS at h;cases h
 | x::xs,cut,k,k',h,hk,hx=>by
  unfold fc at hx;unfold DS at h;split at h
  .grind
  .rename_i m1 hm;split at h
   .grind
   .rename_i m2 b;injection h with h;subst h;have p1:=Ax x cut _ m1 hm;have w1:=PG x cut _ m1 hm (hk.p1 zs) hx.1;have hlt:k.ins.length<m1.ins.length:=by have:=p1.len;grind [Mk.put]
    have w2:WK ((m1.put jV [] V [0]).land k.ins.length):=(w1.p1 zs).land fun i a=>by
     rw[(p1.trans (iR.put m1 jV [] V [0])).at] at a;grind
    have p2:=PF xs cut _ m2 b;exact(Xt xs cut _ m2 b w2 hx.2).land fun i a=>by
     rw[p2.at2 hlt] at a;grind
 termination_by structural x=>x
theorem aIJ {nv M:Nat}:∀ (xs:List Bd) (s cut:Nat) (k k':Mk),DT xs s cut k=O k'->WK k->fc nv M xs->WK k'
 | [],s,cut,k,k',h,hk,hx=>by simp_all [DT]
 | x::xs,s,cut,k,k',h,hk,hx=>by
  unfold fc at hx;unfold DT at h;split at h
  .grind
  .rename_i m1 hm;have p1:=(Ax x s _ m1 hm).trans (iR.put m1 kY [] V [s]);exact aIL xs cut _ _ k' h ((PG x s _ m1 hm (hk.p1 zs) hx.1).p1 zs) hx.2 (Nat.lt_of_lt_of_le (by grind [Mk.put]) p1.len) p1.at
 termination_by structural x=>x
theorem aIL {nv M:Nat}:∀ (xs:List Bd) (cut j:Nat) (k k':Mk),Ff xs cut j k=O k'->WK k->fc nv M xs->j<k.ins.length->k.ins[j]?=O ⟨kx,[],V,[0]⟩->WK k'
 | [],cut,j,k,k',h,hk,hx,d,ht=>by unfold Ff at h;cases h
 | x::xs,cut,j,k,k',h,hk,hx,d,ht=>by
  unfold fc at hx;unfold Ff at h;split at h
  .grind
  .rename_i m1 hm;split at h
   .grind
   .rename_i m2 b;injection h with h;subst h;have p1:=Ax x cut _ m1 hm;have w1:=PG x cut _ m1 hm hk hx.1;have hlt:j<m1.ins.length:=Nat.lt_of_lt_of_le d p1.len;have t:(m1.put jV [] V [0]).ins[j]?=O ⟨kx,[],V,[0]⟩:=by
     obtain⟨r,hr⟩:=p1.trans (iR.put m1 jV [] V [0]);grind
    have w2:WK ((m1.put jV [] V [0]).land j):=(w1.p1 zs).land fun i a=>by
     grind
    have p2:=PF xs cut _ m2 b;exact(Xt xs cut _ m2 b w2 hx.2).land fun i a=>by
     rw[p2.at2 hlt] at a;grind
 termination_by structural x=>x
theorem aIK {nv M:Nat}:∀ (xs:List Bd) (s:Nat) (k k':Mk),DU xs s k=O k'->WK k->fc nv M xs->WK k'
 | [],s,k,k',h,hk,hx=>by unfold DU at h;cases h
 | x::xs,s,k,k',h,hk,hx=>by
  unfold fc at hx;unfold DU at h;split at h
  .grind
  .rename_i m1 hm;injection h with h;subst h;have p1:=((Ax x s _ m1 hm).trans (iR.put m1 kY [] V [s])).trans (iR.put _ nD [102,97,105,108] V []);exact(((PG x s _ m1 hm (hk.p1 zs) hx.1).p1 (s:=s) (w:=kY) (nm:=[]) zs).put (KB (w:=nD) (nm:=[102,97,105,108]) (con:=V) (s:=[]) zd zd)).land fun i a=>by
    rw[p1.at] at a;grind
 termination_by structural x=>x
end
theorem anz:∀ (n j:Nat) (k k':Mk),k.news j n=O k'->WK k->WK k'
 | 0,j,k,k',h,hk=>by simp_all [Mk.news]
 | n+1,j,k,k',h,hk=>by
  unfold Mk.news at h;split at h
  .grind
  .rename_i s m hm;have a:WK { m with vars:=m.vars.set j (O s) }  :=(by grind [WK.same,D4]);exact anz n (j+1) _ k' h (a.p1 zs)
def adM:∀ (n j:Nat) (k k':Mk),k.rest j n=O k'->WK k->WK k'
 | 0,j,k,k',h,hk=>by simp_all [Mk.rest]
 | n+1,j,k,k',h,hk=>by
  unfold Mk.rest at h;split at h
  .exact adM n (j+1) k k' h hk
  .split at h
   .grind
   .rename_i s m hm;have a:WK { m with vars:=m.vars.set j (O s) }  :=(by grind [WK.same,D4]);exact adM n (j+1) _ k' h (a.p1 zs)
def anA{args:List Ex}{body:Bd}{q:Bool}{c:Co}(h:Bo args body nv q=O c)(hx:fg nv args)(b:eY nv M body):∀ i∈c.ins,GN i:=by
 unfold Bo at h;split at h
 .grind
 .rename_i a m d;have e:WK (⟨0,[],List.replicate nv V⟩:Mk):=fun i f=>absurd f zs;have g1:WK m:=e.same (adE d);split at h
  .grind
  .rename_i m2 s;have g:WK m2:=by
    grind [anz]
   split at h
   .grind
   .rename_i cut m3 j;split at h
    .grind
    .rename_i m4 k;have l:=adK args a _ m4 k ((g.same (D4 j)).p1 zs) hx;split at h
     .grind
     .rename_i m5 n;have o:=adM nv 0 m4 m5 n l;split at h
      .grind
      .rename_i m6 p;have r:=PG body cut m5 m6 p o b;injection h with h;subst h;refine r.put (KB ?_ ?_)
       .split<;>exact Nat.le_of_eq zd
       .split<;>decide
theorem anB{name:Bs}{n:Nat}{c:Co}:∀ {l:List Pd} {p:Pd},p∈rI name n c l->∀ x∈p.clauses,x=c\/∃ q∈l,x∈q.clauses
 | [],p,a,x,hx=>by
  simp_all [rI,a0Y]
 | q::r,p,a,x,hx=>by
  unfold rI at a;split at a
  .grind
  .rcases a0N.1 a with rfl | a
   .grind
   .rcases anB a x hx with h | ⟨y,b,d⟩<;>grind
def anC{Q:Co->Prop}:∀ {cs:List Cl} {l l':List Pd},(∀ c∈cs,∀ x,Bo c.args c.body c.vars.length ae=O x->Q x)->(∀ p∈l,∀ x∈p.clauses,Q x)->xX cs l=O l'->∀ p∈l',∀ x∈p.clauses,Q x
 | [],l,l',_,a,h=>by
  grind [xX]
 | c::r,l,l',b,a,h=>by
  unfold xX at h;split at h
  .grind
  .rename_i y d;refine anC zg (fun p e x hx=>?_) h;grind [anB]
def D6:List Pd->Nat
 | []=>0
 | p::r=>p.clauses.length+D6 r
theorem anD{name:Bs}{n:Nat}{c:Co}:∀ (l:List Pd),D6 (rI name n c l)=D6 l+1/\(rI name n c l).length<=l.length+1
 | []=>⟨J,by simp [rI]⟩
 | q::r=>by
  unfold rI;split
  .grind [D6,a0H,List.length_singleton]
  .obtain⟨a,b⟩:=anD (name:=name) (n:=n) (c:=c) r;grind [D6,a0J]
def anE:∀ {cs:List Cl} {l l':List Pd},xX cs l=O l'->D6 l'=D6 l+cs.length/\l'.length<=l.length+cs.length
 | [],l,l',h=>by
  unfold xX at h;injection h with h;subst h;exact⟨J,zs⟩
 | c::r,l,l',h=>by
  unfold xX at h;split at h
  .grind
  .obtain⟨a,b⟩:=anE h;grind [anD,a0J]
def adN{first:Bs}{l:List Bs}(h:first.length+wl l<60):(mS first l).length<=60:=by
 grind [mS,a0H,Xq,a0J,List.length_nil]
def anF{c:Co}(h:Aw c):(As c).length<=1800000:=by
 have key:∀ l:List In,(∀ i∈l,DZ i)->((l.map GH).flatten).length<=60*l.length:=by
  intro l;induction l with
  | nil=>grind
  | cons a r ih=>
   grind [adI,a0O,a1u,List.flatten_cons,a0H,a0J]
 have:=key c.ins h.ins;have:=h.len;unfold As;omega
theorem aIN{p:Pd}(h:D5 p):(wZ p).length<=60+1800060*p.clauses.length:=by
 have w0:wl []=0:=rfl;have b:(mS [112,114,101,100] [p.name,gw p.arity]).length<=60:=adN (by
  have:=h.name;have:=Fj (show p.arity<100000 by have:=h.ar;omega);rw[CB,CB,w0];simp;omega)
 have key:∀ l:List Co,(∀ c∈l,Aw c)->((l.map fun c=>mS [99,108,97,117,115,101] [gw c.slots]++As c).flatten).length<=1800060*l.length:=by
  intro l;induction l with
  | nil=>grind
  | cons a r ih=>
   intro h;have b:=anF (h a a0O);have d:(mS [99,108,97,117,115,101] [gw a.slots]).length<=60:=adN (by
    have:=Fj (show a.slots<100000 by have:=(h a a0O).slots;omega);rw[CB,w0];simp;omega)
   grind
 grind [wZ,a0H,D5.cls]
def aIO{l:List Pd}{ask:Co}(c:∀ p∈l,D5 p)(b:Aw ask)(ht:told<=1000):(y8 l ask told).length<=60*l.length+1800060*D6 l+1800060:=by
 have w0:wl []=0:=rfl;have key:∀ l:List Pd,(∀ p∈l,D5 p)->((l.map wZ).flatten).length<=60*l.length+1800060*D6 l:=by
  intro l;induction l with
  | nil=>grind
  | cons a r ih=>
   grind [aIN,a0O,a1u,List.flatten_cons,a0H,a0J,D6]
 have d:=key l c;have e:=anF b;have f:(mS [113,117,101,114,121] [gw ask.slots,gw told]).length<=60:=adN (by
  have:=Fj (show ask.slots<100000 by have:=b.slots;omega);have:=Fj (show told<100000 by omega);rw[CB,CB,w0];simp;omega)
 unfold y8;rw[a0H,a0H];omega
def anG{cs:List Cl}{l:List Pd}(a:∀ c∈cs,qE c)(f:cs.length<=40)(h:xX cs []=O l):(∀ p∈l,D5 p)/\(∀ p∈l,∀ c∈p.clauses,Aw c/\∀ i∈c.ins,GN i)/\l.length<=40/\D6 l<=40:=by
 have b:=anw cs [] l 0 a zo zg h;obtain⟨g,j⟩:=anE h;refine⟨b,fun p d c e=>⟨(by grind [D5.cls]),?_⟩,zg,by simp_all [D6]⟩;exact anC (Q:=fun c=>∀ i∈c.ins,GN i) (fun c hm x hx=>anA hx (a c hm).cl.args (a c hm).cl.body) zg h p d c e
mutual
def GO:Tm->Nat
 | .atom _=>1
 | .int _=>1
 | .var _=>1
 | .comp _ args=>KC args+1
 termination_by structural t=>t
def KC:List Tm->Nat
 | []=>0
 | t::a=>GO t+KC a
 termination_by structural t=>t
end
structure aVz(f:Nat):Prop where
 tm:∀ t least s,4*GO t<=f->GO t<=s.fuel->∃ r,il [] f t least s=O (O r)/\s.fuel<=r.fuel+GO t/\r.fuel<=s.fuel
 comp:∀ name args least s,4*KC args+3<=f->KC args<=s.fuel->∃ r,nM [] f name args least s=O (O r)/\s.fuel<=r.fuel+KC args/\r.fuel<=s.fuel
 args:∀ c l s,4*KC l+1<=f->KC l<=s.fuel->∃ r,nN [] f c l s=O (O r)/\s.fuel<=r.fuel+KC l/\r.fuel<=s.fuel
 list:∀ c a b s,4*(GO a+GO b)+1<=f->GO a+GO b<=s.fuel->∃ r,mg [] f c a b s=O (O r)/\s.fuel<=r.fuel+(GO a+GO b)/\r.fuel<=s.fuel
structure NeW(tr:Tr)(f:Nat):Prop where
 tm:∀ t least s r,er t->il tr f t least s=O (O r)->s.out.length<r.out.length
 comp:∀ name args least s r,iX args->nM tr f name args least s=O (O r)->s.out.length<r.out.length
 args:∀ c l s r,iX l->nN tr f c l s=O (O r)->s.out.length<=r.out.length
 list:∀ c a b s r,er a->er b->mg tr f c a b s=O (O r)->s.out.length<r.out.length
theorem anH(n:Nat):0<(gw n).length:=by
 grind [gw,Bi]
def aIP(n:Int):0<(kX n).length:=by
 grind [kX,anH]
inductive Item where
 | wd (s:Bs)
 | sg (s:Bs)
 | md
def Item.text:Item->Bs
 | .wd s=>s
 | .sg s=>s
 | .md=>[32,109,111,100,32]
def Item.tok:Item->Nat->Tok
 | .wd s,p=>⟨se s,s,p⟩
 | .sg s,p=>⟨4,s,p⟩
 | .md,p=>⟨1,[109,111,100],p+1⟩
def sgn:List Bs:=[[40],[41],[91],[93],[44],[124],[43],[45],[42],[47,47]]
def aIR(s:Bs):Prop:=se s≠0/\∀ c∈s,cls c≠0
def Item.ok:Item->Prop
 | .wd s=>aIR s
 | .sg s=>s∈sgn
 | .md=>True
def Item.isW:Item->Bool
 | .wd _=>A
 | _=>ae
def sep:Bool->List Item->Prop
 | _,[]=>True
 | p,i::r=>¬ (p=A/\i.isW=A)/\sep i.isW r
def At(T:List Tok):Nat->List Item->Prop
 | _,[]=>True
 | k,i::r=>((tk T k).kind=(i.tok 0).kind/\(tk T k).text=(i.tok 0).text)/\At T (k+1) r
end P
