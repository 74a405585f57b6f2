/- A part of one proof (PureRp, PureGk, PureGp, PureLn, PureGw, PureTl, PureA, PureC). -/
import Derived.Test.YtoegidfbnkaabaaGreatDoorPkJAN
set_option linter.all false
set_option maxRecDepth 100000
set_option maxHeartbeats 8000000
open Option renaming some → O, none → V
open Bool renaming true → A, false → G
open Nat renaming le_refl → aZK, le_trans → aZL, zero_le → aZY, le_succ_of_le → a19
open List renaming length_append → aZO, length_cons → aZQ, mem_cons → aZU, mem_cons_self → aZV, mem_append → aZW, mem_singleton → aZ4, mem_cons_of_mem → a0A, mem_or_eq_of_mem_set → a0R, modify_succ_cons → a0U, mem_of_getLast? → a00, mem_of_mem_tail → a23
namespace Go.Proofs.YtoegidfbnkaabaaGreatDoor
variable{M N j k n nv pb told:Nat}
namespace P
theorem Cg{w:Bs}{s:Nat}(h:j6 w n=O s):s<n:=by
 grind [j6]
def acT{n:Nat}:∀ {ws:List Bs} {l:List Nat},xC n ws=O l->l.length=ws.length/\∀ k∈l,k<n
 | [],l,h=>by
  unfold xC at h;injection h with h;subst h;exact⟨J,fun _ h=>by cases h⟩
 | w::r,l,h=>by
  unfold xC at h;split at h
  .rename_i s l' b a;injection h with h;subst h;obtain⟨g1,g2⟩:=acT a;grind [Cg]
  grind
theorem SL{w t:Bs}(h:px w=O t):t=w/\w.length<=10/\w≠[]:=by
 unfold px at h;grind
def WO{w:Bs}{z:Int}(a:DE w=O z):kO z=w/\-9223372036854775808<=z/\z<=9223372036854775807:=by
 unfold DE at a;grind
def aHj{w:Bs}{t:Tm}(h:DG w=O t):er t/\SF t=true:=by
 unfold DG at h;split at h
 .rename_i z b;injection h with h;subst h;have c:=(WO b).2;exact⟨by simp_all [er],J⟩
 .cases a:px w with
  | none=>grind
  | some x=>
   rw[a] at h;injection h with h;subst h;obtain⟨rfl,c,d⟩:=SL a;exact⟨by grind [er],J⟩
def Pb{w sh:Bs}(h:mB w=O sh) :
  ((w=tT\/w=uQ\/w=qH\/w=kR)/\sh=[115])\/((w=EW\/w=DC)/\sh=[115,99])\/(w=EX/\sh=[115,115])\/((w=Is\/w=It)/\sh=[115,110,42])\/((w=ni\/w=Af)/\sh=[110,42])\/((w=kf\/w=jL)/\sh=[112])\/((w=MM\/w=MN)/\sh=[]):=by
 unfold mB at h;split at h
 .grind
 split at h
 .rename_i a;injection h with h;exact .inr (.inl ⟨a,h.symm⟩)
 split at h
 .rename_i a;injection h with h;exact .inr (.inr (.inl ⟨a,h.symm⟩))
 split at h
 .rename_i a;injection h with h;exact .inr (.inr (.inr (.inl ⟨a,h.symm⟩)))
 split at h
 .grind
 split at h
 .grind
 split at h
 .rename_i a;injection h with h;exact .inr (.inr (.inr (.inr (.inr (.inr ⟨a,h.symm⟩)))))
 grind
theorem tV.of{w nm:Bs}{con:Option Tm}{s:List Nat}(h:w∈[tT,EW,DC,EX,Is,It,ni,uQ,qH,kR,kf,jL,Af,MM,MN] /\
  (w≠kf->w≠jL->∀ k∈s,k<n)/\(w=tT\/w=EW\/w=DC\/w=uQ\/w=qH\/w=kR\/w=kf\/w=jL->s.length=1)/\(w=EX->s.length=2)/\(w=Is\/w=It->2<=s.length) /\
  (w=ni->jG nm=s.length)/\(w=EW\/w=DC->∃ t,con=O t/\er t/\SF t=A)/\nm.length<=20/\s.length<=60/\(∀ k∈s,k<100000)):tV n ⟨w,nm,con,s⟩:=
 ⟨h.1,h.2.1,h.2.2.1,h.2.2.2.1,h.2.2.2.2.1,h.2.2.2.2.2.1,h.2.2.2.2.2.2.1,h.2.2.2.2.2.2.2.1,h.2.2.2.2.2.2.2.2.1,h.2.2.2.2.2.2.2.2.2⟩
def amo{ws:List Bs}{i:In}(x:n<=64)(y:ws.length<=60)(h:uV n ws=O i):tV n i:=by
 unfold uV at h;cases ws with
 | nil=>grind
 | cons w ws=>
  simp only at h;cases o:mB w with
  | none=>grind
  | some sh=>
   rw[o] at h;simp only at h;have r:ws.length<=59:=zg;split at h
   .rename_i z c;split at h
    .grind
    .rename_i p;injection h with h;subst h;simp only[not_or,not_and,Nat.not_lt,ne_eq,Decidable.not_not] at p;obtain⟨j,m⟩:=p;rcases Pb o with⟨hw,rfl⟩| ⟨hw,rfl⟩| ⟨hw,rfl⟩| ⟨hw,rfl⟩| ⟨hw,rfl⟩| ⟨hw,rfl⟩| ⟨hw,rfl⟩
     .cases ws with
      | nil=>grind [mC]
      | cons a ws=>
       simp [mC] at c;cases d:j6 a n with
       | none=>grind
       | some s=>
        rw[d] at c;simp at c;obtain⟨rfl,rfl⟩:=c;have:=Cg d;rcases hw with rfl | rfl | rfl | rfl<;>exact tV.of ⟨zd,fun _ _ k hk=>by simp at hk;omega,fun _=>rfl,fun h=>absurd h zd,fun h=>absurd h zd,fun h=>absurd h zd,fun h=>absurd h zd,zs,zs,fun k hk=>by simp at hk;omega⟩
     .cases ws with
      | nil=>grind [mC]
      | cons a ws=>
       simp [mC] at c;cases d:j6 a n with
       | none=>grind
       | some s=>
        rw[d] at c;simp at c;cases ws with
        | nil=>grind
        | cons b ws=>
         simp at c;cases e:DG b with
         | none=>grind
         | some t=>
          rw[e] at c;simp at c;obtain⟨rfl,rfl⟩:=c;have:=Cg d;obtain⟨u,c2⟩:=aHj e;rcases hw with rfl | rfl<;>exact tV.of ⟨zd,fun _ _ k hk=>by simp at hk;omega,fun _=>rfl,fun h=>absurd h zd,fun h=>absurd h zd,fun h=>absurd h zd,fun _=>⟨t,J,u,c2⟩,zs,zs,fun k hk=>by simp at hk;omega⟩
     .cases ws with
      | nil=>grind [mC]
      | cons a ws=>
       simp [mC] at c;cases d:j6 a n with
       | none=>grind
       | some s=>
        rw[d] at c;simp at c;cases ws with
        | nil=>grind
        | cons b ws=>
         simp at c;cases e:j6 b n with
         | none=>grind
         | some t=>
          rw[e] at c;simp at c;obtain⟨rfl,rfl⟩:=c;have:=Cg d;have:=Cg e;subst hw;exact tV.of ⟨zg,fun _ _ k hk=>zg,fun h=>absurd h zd,fun _=>rfl,fun h=>absurd h zd,fun h=>absurd h zd,fun h=>absurd h zd,zs,zs,fun k hk=>zg⟩
     .cases ws with
      | nil=>grind [mC]
      | cons a ws=>
       simp [mC] at c;cases d:j6 a n with
       | none=>grind
       | some s=>
        rw[d] at c;simp at c;cases ws with
        | nil=>grind
        | cons b ws=>
         simp at c;cases e:px b with
         | none=>grind
         | some t=>
          rw[e] at c;simp at c;cases f:xC n ws with
          | none=>grind
          | some l=>
           rw[f] at c;simp at c;subst c;have:=Cg d;obtain⟨rfl,nl,-⟩:=SL e;obtain⟨g1,g2⟩:=acT f;have g:(s::l).length<=60:=zg;have q:∀ k∈s::l,k<n:=fun k hk=>by
            grind
           rcases hw with rfl | rfl<;>exact tV.of ⟨zd,fun _ _=>q,fun h=>absurd h zd,fun h=>absurd h zd,fun _=>j zd,fun h=>absurd h zd,fun h=>absurd h zd,zo,g,fun k hk=>by have:=q k hk;omega⟩
     .cases ws with
      | nil=>grind [mC]
      | cons b ws=>
       simp [mC] at c;cases e:px b with
       | none=>grind
       | some t=>
        rw[e] at c;simp at c;cases f:xC n ws with
        | none=>grind
        | some l=>
         rw[f] at c;simp at c;subst c;obtain⟨rfl,nl,-⟩:=SL e;obtain⟨g1,g2⟩:=acT f;have g:l.length<=60:=zg;rcases hw with rfl | rfl
         .exact tV.of ⟨by simp_all,fun _ _=>g2,fun h=>absurd h zd,fun h=>absurd h zd,fun h=>absurd h zd,fun _=>m J,fun h=>absurd h zd,zo,g,fun k hk=>zg⟩
         .exact tV.of ⟨by simp_all,fun _ _=>g2,fun h=>absurd h zd,fun h=>absurd h zd,fun h=>absurd h zd,fun h=>absurd h zd,fun h=>absurd h zd,zo,g,fun k hk=>zg⟩
     .cases ws with
      | nil=>grind [mC]
      | cons a ws=>
       simp [mC] at c;cases d:j6 a 10000 with
       | none=>grind
       | some s=>
        rw[d] at c;simp at c;obtain⟨rfl,rfl⟩:=c;have:=Cg d;rcases hw with rfl | rfl
        .exact tV.of ⟨by simp_all,fun h=>absurd J h,fun _=>rfl,fun h=>absurd h zd,fun h=>absurd h zd,fun h=>absurd h zd,fun h=>absurd h zd,zs,zs,fun k hk=>zg⟩
        .exact tV.of ⟨by simp_all,fun _ h=>absurd J h,fun _=>rfl,fun h=>absurd h zd,fun h=>absurd h zd,fun h=>absurd h zd,fun h=>absurd h zd,zs,zs,fun k hk=>zg⟩
     .simp [mC] at c;obtain⟨rfl,rfl⟩:=c;rcases hw with rfl | rfl<;>exact tV.of ⟨zd,fun _ _ k hk=>by simp at hk,fun h=>absurd h zd,fun h=>absurd h zd,fun h=>absurd h zd,fun h=>absurd h zd,fun h=>absurd h zd,zs,zs,fun k hk=>by simp at hk⟩
   grind
def Ki(N:Nat)(c:Co):Prop:=(∀ i∈c.ins,tV c.slots i)/\c.slots<=64/\c.ins.length<=N
structure Kj(N:Nat)(p:Pv):Prop where
 pd:∀ q∈p.dK,q.clauses.length<=N/\∀ c∈q.clauses,Ki N c
 ask:∀ c n,p.ask=O (c,n)->Ki N c/\n<=c.slots
theorem Ki.up{c:Co}(h:Ki N c):Ki (N+1) c:=⟨h.1,h.2.1,a19 h.2.2⟩
def amp{l:List Co}{f:Co->Co}{c:Co}(h:c∈Gr l f):c∈l\/∃ x,l.getLast?=O x/\c=f x:=by
 unfold Gr at h;split at h
 .grind
 .rename_i x r hr;have a:l=(x::r).reverse:=zg;grind
def amq(l:List Co)(f:Co->Co):(Gr l f).length=l.length:=by
 unfold Gr;split<;>simp_all
def acV{l:List Pd}{f:Pd->Pd}{c:Pd}(h:c∈Kh l f):c∈l\/∃ x,l.getLast?=O x/\c=f x:=by
 unfold Kh at h;split at h
 .grind
 .rename_i x r hr;have a:l=(x::r).reverse:=zg;grind
theorem Ki.put{c:Co}{i:In}(h:Ki N c)(a:tV c.slots i):Ki (N+1) { c with ins:=c.ins++[i] }:=
 ⟨fun x hx=>by
  rcases aZW.1 hx with hx | hx
  .exact h.1 x hx
  grind,h.2.1,by simp;exact h.2.2⟩
theorem Kj.up{N:Nat}{p:Pv}(h:Kj N p):Kj (N+1) p:=
 ⟨fun q b=>⟨a19 (h.pd q b).1,fun c a=>((h.pd q b).2 c a).up⟩,fun c n a=>⟨(h.ask c n a).1.up,(h.ask c n a).2⟩⟩
theorem aHm{ws:List Bs}{p s:Pv}(h:Kj N p)(t:ws.length<=60)(hr:oy ws p=O s):Kj (N+1) s:=by
 unfold oy at hr;split at hr
 .split at hr
  .rename_i a b u k w;split at hr
   .grind
   .injection hr with hr;subst hr;refine⟨fun q e=>?_,fun c n d=>zg⟩;rcases aZW.1 e with e | e
    .exact h.up.pd q e
    grind
  grind
 .split at hr
  .rename_i a u k;split at hr
   .grind
   .injection hr with hr;subst hr;refine⟨fun q e=>?_,fun c n d=>zg⟩;rcases acV e with e | ⟨x,hx,rfl⟩
    .exact h.up.pd q e
    .have g:=a00 hx;refine⟨by simp;exact(h.pd x g).1,fun c d=>?_⟩;rcases aZW.1 d with d | d
     .exact((h.pd x g).2 c d).up
     .rw[aZ4] at d;subst d;exact⟨fun i f=>(by cases f),by have:=Cg k;grind,aZY _⟩
  grind
 .split at hr
  .rename_i a u k;split at hr
   .rename_i b w;injection hr with hr;subst hr;refine⟨fun q e=>h.up.pd q e,fun c n d=>?_⟩;have d:O ((⟨a,[]⟩:Co),b)=O (c,n):=d;injection d with d;injection d with m o;subst m o;have:=Cg k;have:=Cg w;exact⟨⟨fun i f=>(by cases f),zg,aZY _⟩,zg⟩
   grind
  grind
 .split at hr
  .grind
  .split at hr
   .rename_i c n B;split at hr
    .rename_i i f;injection hr with hr;subst hr;obtain⟨g1,g2⟩:=h.ask c n B;refine⟨fun q e=>h.up.pd q e,fun C D d=>?_⟩;have d:O ({ c with ins:=c.ins++[i] },n)=O (C,D):=d;injection d with d;injection d with m o;subst m o;exact⟨g1.put (amo g1.2.1 t f),g2⟩
    grind
   .rename_i B;split at hr
    .split at hr
     .rename_i c d;split at hr
      .rename_i i f;injection hr with hr;subst hr;refine⟨fun q e=>?_,fun c n d=>zg⟩;rcases acV e with e | ⟨x,hx,rfl⟩
       .exact h.up.pd q e
       .have g:=a00 hx;unfold oy.Pa at d;rw[hx] at d;refine⟨by show(Gr x.clauses _).length<=_;rw[amq];exact a19 (h.pd x g).1,fun y r=>?_⟩;rcases amp r with r | ⟨z,l,rfl⟩
        .exact((h.pd x g).2 y r).up
        .have d:x.clauses.getLast?=O c:=d;rw[d] at l;injection l with l;subst l;have j:=(h.pd x g).2 c (a00 d);exact j.put (amo j.2.1 t f)
      grind
     grind
    grind
theorem SM(c:UInt8):∀ (s:Bs),(gN c s).length<=s.length+1/\gN c s≠[]
 | []=>(by simp_all [gN])
 | x::r=>by
  obtain⟨a,b⟩:=SM c r;grind [gN,aZQ]
def ams:∀ (ls:List Bs) (k N:Nat) (p a:Pv),Kj N p->(∀ l∈ls,l.length<60)->oO ls k p = .ok a->Kj (N+ls.length) a
 | [],k,N,p,a,h,b,hr=>by
  simp_all [oO]
 | [r],k,N,p,a,h,b,hr=>by
  unfold oO at hr;split at hr
  .simp_all [Kj.up]
  grind
 | r::c::rs,k,N,p,a,h,b,hr=>by
  unfold oO at hr
  .split at hr
   .grind
   .rename_i q e;have hlen:=(SM 32 r).1;have d:=b r aZV;have:=ams (c::rs) (k+1) (N+1) q a (by grind [aHm]) zg hr;grind
def amt{s:Bs}{dK:List Pd}{ask:Co}(h:rY s = .ok (dK,ask,told))(e:∀ l∈gN 10 s,l.length<60):(∀ p∈dK,al8 p)/\yL ask/\told<=ask.slots:=by
 unfold rY at h;split at h
 .grind
 .rename_i m;have hlen:=(SM 10 s).1;split at h
  .grind
  .rename_i p f;have a:=ams _ _ 0 _ _ ⟨zg,zg⟩ e f;rw[Nat.zero_add] at a;split at h
   .rename_i c n g;injection h with h;injection h with i h;injection h with j k;subst i j k;obtain⟨g1,g2⟩:=a.ask c n g;exact⟨fun q b=>⟨fun c d=>⟨((a.pd q b).2 c d).1,((a.pd q b).2 c d).2.1,by have:=((a.pd q b).2 c d).2.2;omega⟩,by have:=(a.pd q b).1;omega⟩,⟨g1.1,g1.2.1,by have:=g1.2.2;omega⟩,g2⟩
   grind
structure DH(i:In):Prop where
 word:i.word.length<=5
 name:i.name.length<=9
 con:(Cf i.const).length<=10
 qg:i.s.length<=5
 small:∀ k∈i.s,k<100000
structure GK(N:Nat)(k:Mk):Prop where
 len:k.ins.length<=N
 ins:∀ i∈k.ins,DH i
 slots:k.slots<=64
 vars:∀ v∈k.vars,∀ t,v=O t->t<64
theorem GK.up{k:Mk}(h:GK N k)(a:N<=pb):GK pb k:=⟨aZL h.len a,h.ins,h.slots,h.vars⟩
theorem GK.put{N:Nat}{k:Mk}(h:GK N k){w nm:Bs}{con:Option Tm}{s:List Nat}(a:DH ⟨w,nm,con,s⟩):GK (N+1) (k.put w nm con s):=
 ⟨by simp_all [Mk.put,len],(by grind [Mk.put,aZ4,ins]),h.slots,h.vars⟩
theorem GK.slot{N:Nat}{k k':Mk}{s:Nat}(h:GK N k)(a:k.slot=O (s,k')):GK N k'/\s<64/\k'.vars=k.vars/\k'.ins=k.ins/\k'.slots=k.slots+1/\s=k.slots:=by
 unfold Mk.slot at a;split at a
 .grind
 .injection a with a;injection a with b c;subst b c;exact⟨⟨h.len,h.ins,zg,h.vars⟩,zo,J,J,J,J⟩
theorem GK.rT{N:Nat}:∀ {n:Nat} {k k':Mk} {l:List Nat},GK N k->k.rT n=O (l,k')->GK N k'/\l.length=n/\(∀ s∈l,s<64)/\k'.vars=k.vars
 | 0,k,k',l,h,a=>by
  unfold Mk.rT at a;injection a with a;injection a with b c;subst b c;exact⟨h,J,(fun _ hm=>absurd hm zs),J⟩
 | n+1,k,k',l,h,a=>by
  unfold Mk.rT at a;split at a
  .grind
  .rename_i s m b;split at a
   .grind
   .rename_i l' m' c;injection a with a;injection a with d e;subst d e;obtain⟨g1,g2,g3,-⟩:=h.slot b;obtain⟨q1,q2,q3,q4⟩:=g1.rT c;grind
def amu{name:Bs}{n:Int}{args:List Ex}(h:gZ nv (.mk pb name n k args)):(Cf (O (Ce pb name n))).length<=10:=by
 unfold gZ at h;obtain⟨a,b,-⟩:=h;unfold Ce;split
 .show(kO n).length<=10;unfold kO;have:(ff n.natAbs).length<=9:=aco n.natAbs 8 zo _ zo;grind
 .show name.length<=10;omega
mutual
theorem acW {nv:Nat}:∀ (x:Ex) (s N:Nat) (k k':Mk),yG x s k=O k'->GK N k->s<64->gZ nv x->GK (N+iA x) k'/\k'.vars.length=k.vars.length
 | .mk kind name n v args,s,N,k,k',h,hk,d,hx=>by
  have e:=hx;unfold gZ at hx;obtain⟨f,j,o,p,q,u,z,g⟩:=hx;unfold yG at h;split at h
  .split at h
   .injection h with h;subst h;refine⟨(⟨hk.len,hk.ins,hk.slots,fun y b t ht=>?_⟩:GK N { k with vars:=k.vars.set v (O s) }).up (Nat.le_add_right _ _),zs⟩;rcases a0R b with b | b
    .exact hk.vars y b t ht
    grind
   .rename_i t ht;injection h with h;subst h;have B:t<64:=by
     have:O t∈k.vars:=by
      grind
     exact hk.vars _ this t J
    exact⟨(hk.put ⟨zs,zs,by simp [Cf],zs,fun x hx=>zg⟩).up (by simp [iA]),J⟩
  .split at h
   .split at h
    .grind
    .rename_i l m c;obtain⟨g1,g2,g3,g4⟩:=hk.rT c;have i:=g1.put (w:=[115,112,108,105,116]) (nm:=name) (con:=V) (s:=s::l) ⟨zs,f,by simp [Cf],zg,fun x hx=>by
      grind⟩
     obtain⟨q1,q2⟩:=acX args l (N+1) _ k' h i g3 g;exact⟨q1.up (by grind [iA]),q2.trans (congrArg List.length g4)⟩
   .injection h with h;subst h;exact⟨(hk.put ⟨zs,zs,amu e,zs,fun x hx=>zg⟩).up (by simp [iA]),J⟩
 termination_by structural x=>x
theorem acX {nv:Nat}:∀ (xs:List Ex) (l:List Nat) (N:Nat) (k k':Mk),rU xs l k=O k'->GK N k->(∀ s∈l,s<64)->fi nv xs->GK (N+fH xs) k'/\k'.vars.length=k.vars.length
 | [],l,N,k,k',h,hk,c,hx=>by
  unfold rU at h;injection h with h;subst h;exact⟨hk,J⟩
 | x::xs,l,N,k,k',h,hk,c,hx=>by
  unfold fi at hx;unfold rU at h;split at h
  .grind
  .rename_i m hm;have d:l.headD 0<64:=by
    cases l with
    | nil=>simp
    | cons a r=>simp_all
   obtain⟨g1,g2⟩:=acW x _ N k m hm hk d hx.1;obtain⟨q1,q2⟩:=acX xs _ _ m k' h g1 (by simp_all [a23]) hx.2;grind [fH]
 termination_by structural x=>x
end
mutual
theorem acY {nv:Nat}:∀ (x:Ex) (N s:Nat) (k k':Mk),Ae x k=O (s,k')->GK N k->gZ nv x->GK (N+iA x) k'/\k'.vars=k.vars/\s<64
 | .mk kind name n v args,N,s,k,k',h,hk,hx=>by
  have d:=hx;unfold gZ at hx;obtain⟨e,g,i,j,o,p,q,f⟩:=hx;unfold Ae at h;split at h
  .injection h with h;injection h with a b;subst a b;refine⟨hk.up zo,J,?_⟩;cases hv:k.vars.getD v V with
   | none=>simp
   | some t=>
    have:O t∈k.vars:=by
     grind
    exact hk.vars _ this t J
  .split at h
   .split at h
    .grind
    .rename_i s' m hm;injection h with h;injection h with a b;subst a b;obtain⟨g1,g2,g3,-⟩:=hk.slot hm;exact⟨(g1.put ⟨zs,zs,amu d,zs,fun x hx=>zg⟩).up (by simp [iA]),g3,g2⟩
   .split at h
    .grind
    .rename_i l m hm;split at h
     .grind
     .rename_i s' m' c;injection h with h;injection h with a b;subst a b;obtain⟨q1,q2,q3,q4⟩:=acZ args N l k m hm hk f;obtain⟨g1,g2,g3,-⟩:=q1.slot c;refine⟨(g1.put ⟨zs,e,by simp [Cf],zg,fun x hx=>?_⟩).up (by grind [iA]),g3.trans q2,g2⟩;grind
 termination_by structural x=>x
theorem acZ {nv:Nat}:∀ (xs:List Ex) (N:Nat) (l:List Nat) (k k':Mk),rV xs k=O (l,k')->GK N k->fi nv xs->GK (N+fH xs) k'/\k'.vars=k.vars/\l.length=xs.length/\∀ s∈l,s<64
 | [],N,l,k,k',h,hk,hx=>by
  unfold rV at h;injection h with h;injection h with a b;subst a b;exact⟨hk,J,J,zg⟩
 | x::xs,N,l,k,k',h,hk,hx=>by
  unfold fi at hx;unfold rV at h;split at h
  .grind
  .rename_i s m hm;split at h
   .grind
   .rename_i l' m' c;injection h with h;injection h with a b;subst a b;obtain⟨g1,g2,g3⟩:=acY x N s k m hm hk hx.1;obtain⟨q1,q2,q3,q4⟩:=acZ xs _ l' m m' c g1 hx.2;grind [fH]
 termination_by structural x=>x
end
def amv{α:Type}{f:α->α}:∀ {l:List α} {n:Nat} {x:α},x∈l.modify n f->x∈l\/∃ y∈l,x=f y
 | [],n,x,h=>zg
 | a::l,0,x,h=>by
  grind
 | a::l,n+1,x,h=>by
  rw[a0U] at h;rcases aZU.1 h with rfl | h
  .grind
  .rcases amv h with h | ⟨y,b,e⟩<;>grind
theorem GK.land{N:Nat}{k:Mk}(h:GK N k)(c:N<100000)(j:Nat):GK N (k.land j):=
 ⟨by simp_all [Mk.land,len],fun i a=>by
  unfold Mk.land at a;rcases amv a with a | ⟨y,b,rfl⟩
  .grind [ins]
  .have:=h.ins y b;exact⟨this.word,this.name,this.con,zs,fun x hx=>by simp at hx;have:=h.len;omega⟩,h.slots,h.vars⟩
theorem WQ{w nm:Bs}{s:List Nat}(hw:w.length<=5)(a:nm.length<=9)(b:s.length<=5)(hk:∀ k∈s,k<100000):DH ⟨w,nm,V,s⟩:=⟨hw,a,by simp [Cf],b,hk⟩
theorem qK{w nm:Bs}{s:Nat}(hw:w.length<=5)(a:nm.length<=9)(b:s<100000):DH ⟨w,nm,V,[s]⟩:=(by simp_all [WQ])
mutual
theorem DI {nv M:Nat}:∀ (x:Bd) (cut N:Nat) (k k':Mk),kS x cut k=O k'->GK N k->eW nv M x->cut<64->N+4*iR x<100000->GK (N+4*iR x) k'/\k'.vars=k.vars
 | .mk kind name args parts,cut,N,k,k',h,hk,hx,a,b=>by
  unfold eW at hx;obtain⟨f,i,n,o,g,p,q,d⟩:=hx;simp only[iR] at b ⊢;unfold kS at h;split at h
  .injection h with h;subst h;exact⟨(hk.put (qK zd zs zo)).up zo,J⟩
  split at h
  .obtain⟨g1,g2⟩:=WS parts cut N k k' h hk d a zo;grind [GK.up]
  split at h
  .obtain⟨g1,g2⟩:=aHn parts cut N k k' h hk d a zo;grind [GK.up]
  split at h
  .split at h
   .grind
   .rename_i s m hm;obtain⟨q1,q2,q3,-⟩:=hk.slot hm;obtain⟨g1,g2⟩:=aHo parts s cut _ _ k' h (q1.put (qK zd zs zo)) d a q2 zo;exact⟨g1.up zo,g2.trans q3⟩
  split at h
  .split at h
   .grind
   .rename_i s m hm;obtain⟨q1,q2,q3,-⟩:=hk.slot hm;obtain⟨g1,g2⟩:=aHp parts s _ _ k' h (q1.put (qK zd zs zo)) d q2 zo;exact⟨g1.up zo,g2.trans q3⟩
  .split at h
   .grind
   .rename_i l m hm;injection h with h;subst h;obtain⟨q1,q2,q3,q4⟩:=acZ args N l k m hm hk g;exact⟨(q1.put (WQ (by split<;>decide) f zo fun x hx=>zg)).up zo,q2⟩
 termination_by structural x=>x
theorem WS {nv M:Nat}:∀ (xs:List Bd) (cut N:Nat) (k k':Mk),rW xs cut k=O k'->GK N k->eX nv M xs->cut<64->N+4*js xs<100000->GK (N+4*js xs) k'/\k'.vars=k.vars
 | [],cut,N,k,k',h,hk,hx,a,b=>by
  unfold rW at h;injection h with h;subst h;exact⟨hk,J⟩
 | x::xs,cut,N,k,k',h,hk,hx,a,b=>by
  unfold eX at hx;simp only[js] at b ⊢;unfold rW at h;split at h
  .grind
  .rename_i m hm;obtain⟨g1,g2⟩:=DI x cut N k m hm hk hx.1 a zo;obtain⟨q1,q2⟩:=WS xs cut _ m k' h g1 hx.2 a zo;grind
 termination_by structural x=>x
theorem aHn {nv M:Nat}:∀ (xs:List Bd) (cut N:Nat) (k k':Mk),Dy xs cut k=O k'->GK N k->eX nv M xs->cut<64->N+4*js xs+2<100000->GK (N+4*js xs+2) k'/\k'.vars=k.vars
 | [],cut,N,k,k',h,hk,hx,a,b=>by simp_all [Dy]
 | x::xs,cut,N,k,k',h,hk,hx,a,b=>by
  unfold eX at hx;simp only[js] at b ⊢;unfold Dy at h;split at h
  .grind
  .rename_i m1 hm;split at h
   .grind
   .rename_i m2 e;injection h with h;subst h;obtain⟨g1,g2⟩:=DI x cut (N+1) _ m1 hm (hk.put (qK zd zs zo)) hx.1 a zo;obtain⟨q1,q2⟩:=WS xs cut _ _ m2 e ((g1.put (qK (w:=jL) (nm:=[]) (s:=0) zd zs zo)).land zo _) hx.2 a zo;exact⟨(by grind [GK.up,GK.land]),q2.trans g2⟩
 termination_by structural x=>x
theorem aHo {nv M:Nat}:∀ (xs:List Bd) (s cut N:Nat) (k k':Mk),Dz xs s cut k=O k'->GK N k->eX nv M xs->cut<64->s<64->N+4*js xs+3<100000->GK (N+4*js xs+3) k'/\k'.vars=k.vars
 | [],s,cut,N,k,k',h,hk,hx,a,c,b=>by grind [Dz]
 | x::xs,s,cut,N,k,k',h,hk,hx,a,c,b=>by
  unfold eX at hx;simp only[js] at b ⊢;unfold Dz at h;split at h
  .grind
  .rename_i m1 hm;obtain⟨g1,g2⟩:=DI x s (N+1) _ m1 hm (hk.put (qK zd zs zo)) hx.1 c zo;obtain⟨q1,q2⟩:=aHq xs cut _ _ _ k' h (g1.put (qK zd zs zo)) hx.2 a zo;exact⟨q1.up zo,q2.trans g2⟩
 termination_by structural x=>x
theorem aHq {nv M:Nat}:∀ (xs:List Bd) (cut j N:Nat) (k k':Mk),EV xs cut j k=O k'->GK N k->eX nv M xs->cut<64->N+4*js xs+1<100000->GK (N+4*js xs+1) k'/\k'.vars=k.vars
 | [],cut,j,N,k,k',h,hk,hx,a,b=>by simp_all [EV]
 | x::xs,cut,j,N,k,k',h,hk,hx,a,b=>by
  unfold eX at hx;simp only[js] at b ⊢;unfold EV at h;split at h
  .grind
  .rename_i m1 hm;split at h
   .grind
   .rename_i m2 e;injection h with h;subst h;obtain⟨g1,g2⟩:=DI x cut N _ m1 hm hk hx.1 a zo;obtain⟨q1,q2⟩:=WS xs cut _ _ m2 e ((g1.put (qK (w:=jL) (nm:=[]) (s:=0) zd zs zo)).land zo _) hx.2 a zo;exact⟨(by grind [GK.up,GK.land]),q2.trans g2⟩
 termination_by structural x=>x
theorem aHp {nv M:Nat}:∀ (xs:List Bd) (s N:Nat) (k k':Mk),DA xs s k=O k'->GK N k->eX nv M xs->s<64->N+4*js xs+3<100000->GK (N+4*js xs+3) k'/\k'.vars=k.vars
 | [],s,N,k,k',h,hk,hx,c,b=>by simp_all [DA]
 | x::xs,s,N,k,k',h,hk,hx,c,b=>by
  unfold eX at hx;simp only[js] at b ⊢;unfold DA at h;split at h
  .grind
  .rename_i m1 hm;injection h with h;subst h;obtain⟨g1,g2⟩:=DI x s (N+1) _ m1 hm (hk.put (qK zd zs zo)) hx.1 c zo;exact⟨(by grind [qK,kR,WQ,ni,GK.up,GK.land,GK.put]),g2⟩
 termination_by structural x=>x
end
def amw:∀ (n j N:Nat) (k k':Mk),k.news j n=O k'->GK N k->GK (N+n) k'/\k'.vars.length=k.vars.length
 | 0,j,N,k,k',h,hk=>by
  unfold Mk.news at h;injection h with h;subst h;exact⟨hk,J⟩
 | n+1,j,N,k,k',h,hk=>by
  unfold Mk.news at h;split at h
  .grind
  .rename_i s m hm;obtain⟨g1,g2,g3,-⟩:=hk.slot hm;have hv:GK N { m with vars:=m.vars.set j (O s) }:=⟨g1.len,g1.ins,g1.slots,fun y a t ht=>by
    rcases a0R a with a | a
    .exact g1.vars y a t ht
    grind⟩
   obtain⟨q1,q2⟩:=amw n (j+1) (N+1) _ k' h (hv.put (qK zd zs zo));exact⟨zg,q2.trans (by show(m.vars.set j (O s)).length=_;grind)⟩
def ac0:∀ (n j N:Nat) (k k':Mk),k.rest j n=O k'->GK N k->GK (N+n) k'/\k'.vars.length=k.vars.length
 | 0,j,N,k,k',h,hk=>by
  unfold Mk.rest at h;injection h with h;subst h;exact⟨hk,J⟩
 | n+1,j,N,k,k',h,hk=>by
  unfold Mk.rest at h;split at h
  .obtain⟨q1,q2⟩:=ac0 n (j+1) N k k' h hk;grind [GK.up]
  .split at h
   .grind
   .rename_i s m hm;obtain⟨g1,g2,g3,-⟩:=hk.slot hm;have hv:GK N { m with vars:=m.vars.set j (O s) }:=⟨g1.len,g1.ins,g1.slots,fun y a t ht=>by
     rcases a0R a with a | a
     .exact g1.vars y a t ht
     grind⟩
    obtain⟨q1,q2⟩:=ac0 n (j+1) (N+1) _ k' h (hv.put (qK zd zs zo));exact⟨zg,q2.trans (by show(m.vars.set j (O s)).length=_;grind)⟩
structure Aj(c:Co):Prop where
 ins:∀ i∈c.ins,DH i
 slots:c.slots<=64
 len:c.ins.length<=30000
theorem WT{args:List Ex}{body:Bd}{q:Bool}{c:Co}(h:A8 args body nv q=O c)(hx:fi nv args)(B:fH args<=2900)(e:eW nv M body)(C:iR body<=5800)(hv:nv<=12):Aj c:=by
 unfold A8 at h;split at h
 .grind
 .rename_i a m f;have g:GK 0 (⟨0,[],List.replicate nv V⟩:Mk):=⟨aZK _,fun i j=>absurd j zs,zs,fun v hv t ht=>zg⟩;obtain⟨g1,g2,g3,g4⟩:=g.rT f;split at h
  .grind
  .rename_i m2 d;have k:GK 12 m2:=by
    split at d
    .exact(amw nv 0 0 m m2 d g1).1.up zo
    grind [GK.up]
   split at h
   .grind
   .rename_i cut m3 l;obtain⟨n,o,-,-⟩:=k.slot l;split at h
    .grind
    .rename_i m4 p;obtain⟨r,-⟩:=acX args a 13 _ m4 p (n.put (qK zd zs zo)) g3 hx;split at h
     .grind
     .rename_i m5 u;obtain⟨x,-⟩:=ac0 nv 0 _ m4 m5 u r;split at h
      .grind
      .rename_i m6 y;obtain⟨z,-⟩:=DI body cut _ m5 m6 y x e o zo;injection h with h;subst h;have b:=z.put (w:=if q=A then [100,111,110,101] else [114,101,116]) (nm:=[]) (con:=V) (s:=[]) (WQ zg zs zs zs);exact⟨b.ins,b.slots,aZL b.len zo⟩
def iM(k k':Mk):Prop:=∃ r,k'.ins=k.ins++r
theorem iM.refl(k:Mk):iM k k:=⟨[],zs⟩
theorem iM.trans{a b c:Mk}(h:iM a b)(g:iM b c):iM a c:=by
 obtain⟨r,h⟩:=h;obtain⟨q,g⟩:=g;exact⟨r++q,zg⟩
theorem iM.put(k:Mk)(w n:Bs)(c:Option Tm)(s:List Nat):iM k (k.put w n c s):=⟨[⟨w,n,c,s⟩],J⟩
theorem iM.same{k k':Mk}(h:k'.ins=k.ins):iM k k':=⟨[],zg⟩
def WV{α:Type}(f:α->α):∀ (a b:List α) (q:Nat),(a++b).modify (a.length+q) f=a++b.modify q f
 | [],b,q=>zs
 | x::a,b,q=>by
  have:=WV f a b q;grind
theorem iM.land{k k':Mk}{j:Nat}(h:iM k k')(a:k.ins.length<=j):iM k (k'.land j):=by
 obtain⟨r,h⟩:=h;refine⟨r.modify (j-k.ins.length) fun i=>{ i with s:=[k'.ins.length] },?_⟩;unfold Mk.land;simp only;rw[<- WV,<- h];grind
theorem DJ{k a:Mk}{s:Nat}(h:k.slot=O (s,a)):a.ins=k.ins:=by
 grind [Mk.slot]
theorem ac1:∀ {n:Nat} {k k':Mk} {l:List Nat},k.rT n=O (l,k')->k'.ins=k.ins
 | 0,k,k',l,h=>by
  simp_all [Mk.rT]
 | n+1,k,k',l,h=>by
  unfold Mk.rT at h;split at h
  .grind
  .rename_i s m a;split at h
   .grind
   .rename_i l' m' b;injection h with h;injection h with d c;rw[<- c,ac1 b,DJ a]
mutual
theorem aHr:∀ (x:Ex) (s:Nat) (k k':Mk),Ae x k=O (s,k')->iM k k'
 | .mk kind name n v args,s,k,k',h=>by
  unfold Ae at h;split at h
  .simp_all [iM.refl]
  .split at h
   .split at h
    .grind
    .rename_i s' m hm;injection h with h;injection h with c a;subst a;exact(iM.same (DJ hm)).trans (iM.put _ _ _ _ _)
   .split at h
    .grind
    .rename_i l m hm;split at h
     .grind
     .rename_i s' m' b;injection h with h;injection h with c a;subst a;exact((ac2 args l k m hm).trans (iM.same (DJ b))).trans (iM.put _ _ _ _ _)
 termination_by structural x=>x
theorem ac2:∀ (xs:List Ex) (l:List Nat) (k k':Mk),rV xs k=O (l,k')->iM k k'
 | [],l,k,k',h=>by simp_all [rV,iM.refl]
 | x::xs,l,k,k',h=>by
  unfold rV at h;split at h
  .grind
  .rename_i s m hm;split at h
   .grind
   .rename_i l' m' b;injection h with h;injection h with c a;subst a;exact(aHr x s k m hm).trans (ac2 xs l' m m' b)
 termination_by structural x=>x
end
def iM.len{k a:Mk}(h:iM k a):k.ins.length<=a.ins.length:=by obtain⟨r,h⟩:=h;grind
mutual
theorem Ak:∀ (x:Bd) (cut:Nat) (k k':Mk),kS x cut k=O k'->iM k k'
 | .mk kind name args parts,cut,k,k',h=>by
  unfold kS at h;split at h
  .grind [iM.put]
  split at h
  .exact Pc parts cut k k' h
  split at h
  .exact aHs parts cut k k' h
  split at h
  .split at h
   .grind
   .rename_i s m hm;exact((iM.same (DJ hm)).trans (iM.put _ _ _ _ _)).trans (aHt parts s cut _ k' h)
  split at h
  .split at h
   .grind
   .rename_i s m hm;exact((iM.same (DJ hm)).trans (iM.put _ _ _ _ _)).trans (aHu parts s _ k' h)
  .split at h
   .grind
   .rename_i l m hm;injection h with h;subst h;exact(ac2 args l k m hm).trans (iM.put _ _ _ _ _)
 termination_by structural x=>x
theorem Pc:∀ (xs:List Bd) (cut:Nat) (k k':Mk),rW xs cut k=O k'->iM k k'
 | [],cut,k,k',h=>by simp_all [rW,iM.refl]
 | x::xs,cut,k,k',h=>by
  unfold rW at h;split at h
  .grind
  .rename_i m hm;exact(Ak x cut k m hm).trans (Pc xs cut m k' h)
 termination_by structural x=>x
theorem aHs:∀ (xs:List Bd) (cut:Nat) (k k':Mk),Dy xs cut k=O k'->iM k k'
 | [],cut,k,k',h=>by simp_all [Dy]
 | x::xs,cut,k,k',h=>by
  unfold Dy at h;split at h
  .grind
  .rename_i m1 hm;split at h
   .grind
   .rename_i m2 c;injection h with h;subst h;have a:=(iM.put k kf [] V [0]).trans (Ak x cut _ m1 hm);have d:=(a.trans (iM.put m1 jL [] V [0])).land (j:=k.ins.length) (aZK _);exact(d.trans (Pc xs cut _ m2 c)).land a.len
 termination_by structural x=>x
theorem aHt:∀ (xs:List Bd) (s cut:Nat) (k k':Mk),Dz xs s cut k=O k'->iM k k'
 | [],s,cut,k,k',h=>by simp_all [Dz]
 | x::xs,s,cut,k,k',h=>by
  unfold Dz at h;split at h
  .grind
  .rename_i m1 hm;have a:=((iM.put k kf [] V [0]).trans (Ak x s _ m1 hm)).trans (iM.put m1 kR [] V [s]);exact aHv xs cut _ _ k' k h a (aZK _)
 termination_by structural x=>x
theorem aHv:∀ (xs:List Bd) (cut j:Nat) (k k' b:Mk),EV xs cut j k=O k'->iM b k->b.ins.length<=j->iM b k'
 | [],cut,j,k,k',b,h,e,f=>by simp_all [EV]
 | x::xs,cut,j,k,k',b,h,e,f=>by
  unfold EV at h;split at h
  .grind
  .rename_i m1 hm;split at h
   .grind
   .rename_i m2 c;injection h with h;subst h;have a:=e.trans (Ak x cut _ m1 hm);have d:=(a.trans (iM.put m1 jL [] V [0])).land f;exact(d.trans (Pc xs cut _ m2 c)).land a.len
 termination_by structural x=>x
theorem aHu:∀ (xs:List Bd) (s:Nat) (k k':Mk),DA xs s k=O k'->iM k k'
 | [],s,k,k',h=>by simp_all [DA]
 | x::xs,s,k,k',h=>by
  unfold DA at h;split at h
  .grind
  .rename_i m1 hm;injection h with h;subst h;exact((((iM.put k kf [] V [0]).trans (Ak x s _ m1 hm)).trans (iM.put m1 kR [] V [s])).trans (iM.put _ ni [102,97,105,108] V [])).land (aZK _)
 termination_by structural x=>x
end
theorem ac3(c x:UInt8)(r:Bs):gN c (x::r)=if x=c then []::gN c r else match gN c r with
 | []=>[[x]]
 | l::ls=>(x::l)::ls:=rfl
theorem SN(c:UInt8)(r:Bs):∀ (a:Bs),gN c (a++c::r)=gN c a++gN c r
 | []=>by simp [gN]
 | x::a=>by
  have ih:=SN c r a;grind [gN,ac3,SM,absurd]
def amx(c:UInt8):∀ (a:Bs),∀ l∈gN c a,l.length<=a.length
 | [],l,b=>by
  simp_all [gN]
 | x::a,l,b=>by
  have ih:=amx c a;unfold gN at b;grind
def SO(s:Bs):Prop:=∀ l∈gN 10 s,l.length<60
def r9(s:Bs):Prop:=∀ r,SO r->SO (s++r)
theorem r9.nil:r9 []:=fun r h=>h
def r9.append{a b:Bs}(c:r9 a)(d:r9 b):r9 (a++b):=fun r h=>by rw[List.append_assoc];exact c _ (d _ h)
theorem r9.flat{l:List Bs}(h:∀ x∈l,r9 x):r9 l.flatten:=by
 induction l with
 | nil=>exact .nil
 | cons a r ih=>simp_all [aZV,append,a0A]
def wl(l:List Bs):Nat:=(l.map fun w=>w.length+1).sum
def aHw(a b:List Bs):wl (a++b)=wl a+wl b:=by simp [wl]
theorem Ch(a:Bs)(b:List Bs):wl (a::b)=a.length+1+wl b:=by simp [wl]
theorem WW:∀ (l:List Bs),((l.map fun w=>(32:UInt8)::w).flatten).length=wl l
 | []=>rfl
 | a::r=>by rw[Ch,<- WW r];grind
def r9.words{first:Bs}{l:List Bs}(h:first.length+wl l<60):r9 (mz first l):=fun r hr=>by
 unfold mz;rw[List.append_assoc,List.singleton_append];unfold SO;rw[SN];intro x hx;rcases aZW.1 hx with hx | hx
 .have:=amx _ _ x hx;grind [aZO,WW]
 .exact hr x hx
theorem EZ(h:n<100000):(ff n).length<=5:=aco n 4 zo _ zo
theorem ac4:∀ (s:List Nat),(∀ k∈s,k<100000)->wl (s.map ff)<=6*s.length
 | [],_=>by simp [wl]
 | a::r,h=>by
  have:=ac4 r zg;grind [EZ,aZV,Ch,aZQ]
def aHx{s:List Nat}(h:∀ k∈s,k<100000):s.headD 0<100000:=by
 cases s with
 | nil=>simp
 | cons a r=>simp_all
def amy{i:In}(h:DH i):i.word.length+wl (tU i ((mB i.word).getD []) i.s)<60:=by
 have ht:∀ k∈i.s.tail,k<100000:=fun k hk=>h.small k (a23 hk);have d:=EZ (aHx h.small);have e:=ac4 _ h.small;have a:∀ j:Nat,(ff (i.s[j]?.getD 0)).length<=5:=(by grind [EZ,DH.small]);have b:wl (i.s.map ff).tail<=6*i.s.tail.length:=by rw[<- List.map_tail];grind [ac4,a23]
 have f:=a 1;have g:(ff (i.s.head?.getD 0)).length<=5:=zg;have l:i.s.tail.length<=5:=by have:=h.qg;simp;omega
 have:=h.word;have:=h.name;have:=h.con;have:=h.qg;have w0:wl []=0:=rfl;cases c:mB i.word with
 | none=>grind [tU]
 | some sh=>
  rw[Option.getD_some];rcases Pb c with⟨-,rfl⟩| ⟨-,rfl⟩| ⟨-,rfl⟩| ⟨-,rfl⟩| ⟨-,rfl⟩| ⟨-,rfl⟩| ⟨-,rfl⟩<;>simp [tU,Ch,aHw,w0]<;>omega
theorem aHy{i:In}(h:DH i):r9 (Gp i):=by
 simp_all [Gp,r9.words,amy]
theorem ac5{i:In}(h:DH i):(Gp i).length<=60:=by
 have:=amy h;grind [Gp,mz,aZO,WW,aZQ,List.length_nil]
def amz{c:Co}(h:Aj c):r9 (Ag c):=r9.flat (by grind [aHy,Aj.ins])
structure DK(p:Pd):Prop where
 name:p.name.length<=9
 ar:p.arity<=4
 cls:∀ c∈p.clauses,Aj c
 qg:p.clauses.length<=100
theorem aHz{p:Pd}(h:DK p):r9 (vV p):=by
 have w0:wl []=0:=rfl;unfold vV;refine(r9.words ?_).append (r9.flat fun x hx=>?_)
 .have:=h.name;have:=EZ (show p.arity<100000 by have:=h.ar;omega);rw[Ch,Ch,w0];simp;omega
 .obtain⟨c,a,rfl⟩:=List.mem_map.1 hx;refine(r9.words ?_).append (amz (h.cls c a));have:=EZ (show c.slots<100000 by have:=(h.cls c a).slots;omega);rw[Ch,w0];simp;omega
def aHA{l:List Pd}{ask:Co}(b:∀ p∈l,DK p)(a:Aj ask)(ht:told<=1000):SO (yI l ask told):=by
 have w0:wl []=0:=rfl;have h:r9 (yI l ask told):=by
  unfold yI;refine((r9.flat fun x hx=>?_).append (r9.words ?_)).append (amz a)
  .obtain⟨c,d,rfl⟩:=List.mem_map.1 hx;grind [aHz]
  .have:=EZ (show ask.slots<100000 by have:=a.slots;omega);have:=EZ (show told<100000 by omega);rw[Ch,Ch,w0];simp;omega
 have:=h [] (fun x hx=>by simp_all [gN]);grind
def amA{name:Bs}{n:Nat}{c:Co}(d:name.length<=9)(e:n<=4)(f:Aj c):∀ {l:List Pd} {N:Nat},N<100->(∀ p∈l,DK p/\p.clauses.length<=N)->∀ p∈rj name n c l,DK p/\p.clauses.length<=N+1
 | [],N,g,_,p,a=>by
  unfold rj at a;rw[aZ4] at a;subst a;exact⟨⟨d,e,zg,zs⟩,zs⟩
 | q::r,N,g,h,p,a=>by
  unfold rj at a;obtain⟨b,i⟩:=h q aZV;split at a
  .rcases aZU.1 a with rfl | a
   .refine⟨⟨b.name,b.ar,fun x hx=>?_,zg⟩,zg⟩;rcases aZW.1 hx with hx | hx
    .exact b.cls x hx
    .rw[aZ4] at hx;subst hx;exact f
   grind
  .rcases aZU.1 a with rfl | a
   .grind
   .exact amA d e f g zg p a
def aHB{c:Cl}(h:qi c){x:Co}(hx:A8 c.args c.body c.vars.length G=O x):Aj x:=
 WT hx h.cl.args h.cl.sz h.cl.body h.bsz h.vs.1
def amB:∀ (cs:List Cl) (l l':List Pd) (N:Nat),(∀ c∈cs,qi c)->N+cs.length<=100->(∀ p∈l,DK p/\p.clauses.length<=N)->xz cs l=O l'->∀ p∈l',DK p
 | [],l,l',N,_,_,b,h=>by
  simp_all [xz]
 | c::r,l,l',N,d,e,b,h=>by
  unfold xz at h;split at h
  .grind
  .rename_i x hx;simp only[aZQ] at e;have a:=d c aZV;exact amB r _ l' (N+1) zg zo (amA a.name a.cl.qg (aHB a hx) zo b) h
def uX:Bs->Nat
 | []=>0
 | c::r=>(if c=115\/c=112 then 1 else 0)+uX r
structure Gu(i:In):Prop where
 wf:uX ((mB i.word).getD [])<=i.s.length
 cn:99∈(mB i.word).getD []->∃ t,i.const=O t/\er t/\SF t=A
def WK(k:Mk):Prop:=∀ i∈k.ins,Gu i
theorem WK.same{k k':Mk}(h:WK k)(he:k'.ins=k.ins):WK k':=fun i a=>h i zg
theorem WK.put{k:Mk}(h:WK k){w nm:Bs}{con:Option Tm}{s:List Nat}(a:Gu ⟨w,nm,con,s⟩):WK (k.put w nm con s):=fun i hm=>by
 unfold Mk.put at hm;rcases aZW.1 hm with hm | hm
 .exact h i hm
 grind
def WX{α:Type}{f:α->α}:∀ {l:List α} {n:Nat} {x:α},x∈l.modify n f->x∈l\/∃ y,l[n]?=O y/\x=f y
 | [],n,x,h=>zg
 | a::l,0,x,h=>by
  grind
 | a::l,n+1,x,h=>by
  rw[a0U] at h;rcases aZU.1 h with rfl | h
  .grind
  .rcases WX h with h | ⟨y,b,e⟩<;>grind
theorem WK.land{k:Mk}(h:WK k){j:Nat}(c:∀ i,k.ins[j]?=O i->i.word=kf\/i.word=jL):WK (k.land j):=fun i a=>by
 unfold Mk.land at a;rcases WX a with a | ⟨y,d,rfl⟩
 .exact h i a
 .have hw:=c y d;refine⟨?_,fun b=>?_⟩
  .show uX ((mB y.word).getD [])<=1;rcases hw with e | e<;>rw[e]<;>decide
  .have b:99∈(mB y.word).getD []:=b;exfalso;rcases hw with e | e<;>rw[e] at b<;>revert b<;>decide
theorem iM.at{m a:Mk}{w nm:Bs}{con:Option Tm}{s:List Nat}(h:iM (m.put w nm con s) a):a.ins[m.ins.length]?=O ⟨w,nm,con,s⟩:=by
 obtain⟨r,h⟩:=h;rw[h];show((m.ins++[_])++r)[m.ins.length]?=_;grind
def iM.at2{m a:Mk}{w nm:Bs}{con:Option Tm}{s:List Nat}(b:j<m.ins.length)(h:iM ((m.put w nm con s).land j) a):a.ins[m.ins.length]?=O ⟨w,nm,con,s⟩:=by
 obtain⟨r,h⟩:=h;grind [land,Mk.land,Mk.put,List.getElem?_append_left]
theorem Kl{w nm:Bs}{con:Option Tm}{s:List Nat}(h:uX ((mB w).getD [])<=s.length)(a:99 ∉ (mB w).getD []):Gu ⟨w,nm,con,s⟩:=⟨h,zg⟩
def wfC{name:Bs}{n:Int}{args:List Ex}{w:Bs}{s:Nat}(hx:gZ nv (.mk pb name n k args))(b:pb≠118)(c:pb≠99)(h:uX ((mB w).getD [])<=1):Gu ⟨w,[],O (Ce pb name n),[s]⟩:=⟨h,fun _=>by
 unfold gZ at hx;obtain⟨o1,o2,d,o4,o5,e,-⟩:=hx;refine⟨_,J,?_⟩;unfold Ce;split
 .exact⟨by grind [er],J⟩
 .have a:pb=97:=zo;exact⟨by grind [er],J⟩⟩
mutual
theorem aHC {nv:Nat}:∀ (x:Ex) (s:Nat) (k k':Mk),yG x s k=O k'->WK k->gZ nv x->WK k'
 | .mk kind name n v args,s,k,k',h,hk,hx=>by
  have a:=hx;unfold gZ at hx;obtain⟨e,f,g,i,j,o,p,b⟩:=hx;unfold yG at h;split at h
  .split at h
   .grind [WK.same]
   .injection h with h;subst h;exact hk.put (Kl (by simp;decide) zd)
  .rename_i c;split at h
   .split at h
    .grind
    .rename_i l m q;exact ac7 args l _ k' h (by grind [ac1,Kl,aZL,uX,mB,WK.put,WK.same]) b
   .rename_i d;injection h with h;subst h;exact hk.put (wfC a c d zd)
 termination_by structural x=>x
theorem ac7 {nv:Nat}:∀ (xs:List Ex) (l:List Nat) (k k':Mk),rU xs l k=O k'->WK k->fi nv xs->WK k'
 | [],l,k,k',h,hk,hx=>by simp_all [rU]
 | x::xs,l,k,k',h,hk,hx=>by
  unfold fi at hx;unfold rU at h;split at h
  .grind
  .rename_i m hm;exact ac7 xs _ m k' h (aHC x _ k m hm hk hx.1) hx.2
 termination_by structural x=>x
end
mutual
theorem aHD {nv:Nat}:∀ (x:Ex) (s:Nat) (k k':Mk),Ae x k=O (s,k')->WK k->gZ nv x->WK k'
 | .mk kind name n v args,s,k,k',h,hk,hx=>by
  have d:=hx;unfold gZ at hx;obtain⟨i,j,o,p,q,r,t,e⟩:=hx;unfold Ae at h;split at h
  .grind
  .rename_i f;split at h
   .rename_i g;split at h
    .grind
    .rename_i s' m hm;injection h with h;injection h with c a;subst a;exact(hk.same (DJ hm)).put (wfC d f g zd)
   .split at h
    .grind
    .rename_i l m hm;split at h
     .grind
     .rename_i s' m' b;injection h with h;injection h with c a;subst a;exact((ac8 args l k m hm hk e).same (DJ b)).put (by grind [Kl,aZL,uX,mB])
 termination_by structural x=>x
theorem ac8 {nv:Nat}:∀ (xs:List Ex) (l:List Nat) (k k':Mk),rV xs k=O (l,k')->WK k->fi nv xs->WK k'
 | [],l,k,k',h,hk,hx=>by simp_all [rV]
 | x::xs,l,k,k',h,hk,hx=>by
  unfold fi at hx;unfold rV at h;split at h
  .grind
  .rename_i s m hm;split at h
   .grind
   .rename_i l' m' b;injection h with h;injection h with c a;subst a;exact ac8 xs l' m m' b (aHD x s k m hm hk hx.1) hx.2
 termination_by structural x=>x
end
theorem WK.p1{k:Mk}(h:WK k){w nm:Bs}{s:Nat}(hw:w∈[kR,kf,jL,qH,tT,uQ]):WK (k.put w nm V [s]):=h.put (by
 simp only[aZU,List.not_mem_nil,or_false] at hw;rcases hw with rfl | rfl | rfl | rfl | rfl | rfl<;>exact Kl (by simp;decide) zd)
mutual
theorem Pe {nv M:Nat}:∀ (x:Bd) (cut:Nat) (k k':Mk),kS x cut k=O k'->WK k->eW nv M x->WK k'
 | .mk kind name args parts,cut,k,k',h,hk,hx=>by
  unfold eW at hx;obtain⟨f,g,n,o,e,p,q,c⟩:=hx;unfold kS at h;split at h
  .grind [WK.p1]
  split at h
  .exact WY parts cut k k' h hk c
  split at h
  .exact aHE parts cut k k' h hk c
  split at h
  .split at h
   .grind
   .rename_i s m hm;exact aHF parts s cut _ k' h ((hk.same (DJ hm)).p1 zs) c
  split at h
  .split at h
   .grind
   .rename_i s m hm;exact aHG parts s _ k' h ((hk.same (DJ hm)).p1 zs) c
  .split at h
   .grind
   .rename_i l m hm;injection h with h;subst h;refine(ac8 args l k m hm hk e).put ?_;split
    .exact Kl (aZL (show uX ((mB ni).getD [])<=0 by decide) (aZY _)) zd
    .exact Kl (aZL (show uX ((mB Af).getD [])<=0 by decide) (aZY _)) zd
 termination_by structural x=>x
theorem WY {nv M:Nat}:∀ (xs:List Bd) (cut:Nat) (k k':Mk),rW xs cut k=O k'->WK k->eX nv M xs->WK k'
 | [],cut,k,k',h,hk,hx=>by simp_all [rW]
 | x::xs,cut,k,k',h,hk,hx=>by
  unfold eX at hx;unfold rW at h;split at h
  .grind
  .rename_i m hm;exact WY xs cut m k' h (Pe x cut k m hm hk hx.1) hx.2
 termination_by structural x=>x
theorem aHE {nv M:Nat}:∀ (xs:List Bd) (cut:Nat) (k k':Mk),Dy xs cut k=O k'->WK k->eX nv M xs->WK k'
 | [],cut,k,k',h,hk,hx=>by unfold Dy at h;cases h
 | x::xs,cut,k,k',h,hk,hx=>by
  unfold eX at hx;unfold Dy at h;split at h
  .grind
  .rename_i m1 hm;split at h
   .grind
   .rename_i m2 b;injection h with h;subst h;have p1:=Ak x cut _ m1 hm;have w1:=Pe x cut _ m1 hm (hk.p1 zs) hx.1;have hlt:k.ins.length<m1.ins.length:=by have:=p1.len;grind [Mk.put]
    have w2:WK ((m1.put jL [] V [0]).land k.ins.length):=(w1.p1 zs).land fun i a=>by
     rw[(p1.trans (iM.put m1 jL [] V [0])).at] at a;grind
    have p2:=Pc xs cut _ m2 b;exact(WY xs cut _ m2 b w2 hx.2).land fun i a=>by
     rw[p2.at2 hlt] at a;grind
 termination_by structural x=>x
theorem aHF {nv M:Nat}:∀ (xs:List Bd) (s cut:Nat) (k k':Mk),Dz xs s cut k=O k'->WK k->eX nv M xs->WK k'
 | [],s,cut,k,k',h,hk,hx=>by simp_all [Dz]
 | x::xs,s,cut,k,k',h,hk,hx=>by
  unfold eX at hx;unfold Dz at h;split at h
  .grind
  .rename_i m1 hm;have p1:=(Ak x s _ m1 hm).trans (iM.put m1 kR [] V [s]);exact aHH xs cut _ _ k' h ((Pe x s _ m1 hm (hk.p1 zs) hx.1).p1 zs) hx.2 (Nat.lt_of_lt_of_le (by grind [Mk.put]) p1.len) p1.at
 termination_by structural x=>x
theorem aHH {nv M:Nat}:∀ (xs:List Bd) (cut j:Nat) (k k':Mk),EV xs cut j k=O k'->WK k->eX nv M xs->j<k.ins.length->k.ins[j]?=O ⟨kf,[],V,[0]⟩->WK k'
 | [],cut,j,k,k',h,hk,hx,d,ht=>by unfold EV at h;cases h
 | x::xs,cut,j,k,k',h,hk,hx,d,ht=>by
  unfold eX at hx;unfold EV at h;split at h
  .grind
  .rename_i m1 hm;split at h
   .grind
   .rename_i m2 b;injection h with h;subst h;have p1:=Ak x cut _ m1 hm;have w1:=Pe x cut _ m1 hm hk hx.1;have hlt:j<m1.ins.length:=Nat.lt_of_lt_of_le d p1.len;have t:(m1.put jL [] V [0]).ins[j]?=O ⟨kf,[],V,[0]⟩:=by
     obtain⟨r,hr⟩:=p1.trans (iM.put m1 jL [] V [0]);grind
    have w2:WK ((m1.put jL [] V [0]).land j):=(w1.p1 zs).land fun i a=>by
     grind
    have p2:=Pc xs cut _ m2 b;exact(WY xs cut _ m2 b w2 hx.2).land fun i a=>by
     rw[p2.at2 hlt] at a;grind
 termination_by structural x=>x
theorem aHG {nv M:Nat}:∀ (xs:List Bd) (s:Nat) (k k':Mk),DA xs s k=O k'->WK k->eX nv M xs->WK k'
 | [],s,k,k',h,hk,hx=>by unfold DA at h;cases h
 | x::xs,s,k,k',h,hk,hx=>by
  unfold eX at hx;unfold DA at h;split at h
  .grind
  .rename_i m1 hm;injection h with h;subst h;have p1:=((Ak x s _ m1 hm).trans (iM.put m1 kR [] V [s])).trans (iM.put _ ni [102,97,105,108] V []);exact(((Pe x s _ m1 hm (hk.p1 zs) hx.1).p1 (s:=s) (w:=kR) (nm:=[]) zs).put (Kl (w:=ni) (nm:=[102,97,105,108]) (con:=V) (s:=[]) zd zd)).land fun i a=>by
    rw[p1.at] at a;grind
 termination_by structural x=>x
end
theorem amD:∀ (n j:Nat) (k k':Mk),k.news j n=O k'->WK k->WK k'
 | 0,j,k,k',h,hk=>by simp_all [Mk.news]
 | n+1,j,k,k',h,hk=>by
  unfold Mk.news at h;split at h
  .grind
  .rename_i s m hm;have a:WK { m with vars:=m.vars.set j (O s) }  :=(by grind [WK.same,DJ]);exact amD n (j+1) _ k' h (a.p1 zs)
def ac9:∀ (n j:Nat) (k k':Mk),k.rest j n=O k'->WK k->WK k'
 | 0,j,k,k',h,hk=>by simp_all [Mk.rest]
 | n+1,j,k,k',h,hk=>by
  unfold Mk.rest at h;split at h
  .exact ac9 n (j+1) k k' h hk
  .split at h
   .grind
   .rename_i s m hm;have a:WK { m with vars:=m.vars.set j (O s) }  :=(by grind [WK.same,DJ]);exact ac9 n (j+1) _ k' h (a.p1 zs)
def amE{args:List Ex}{body:Bd}{q:Bool}{c:Co}(h:A8 args body nv q=O c)(hx:fi nv args)(b:eW nv M body):∀ i∈c.ins,Gu i:=by
 unfold A8 at h;split at h
 .grind
 .rename_i a m d;have e:WK (⟨0,[],List.replicate nv V⟩:Mk):=fun i f=>absurd f zs;have g1:WK m:=e.same (ac1 d);split at h
  .grind
  .rename_i m2 s;have g:WK m2:=by
    grind [amD]
   split at h
   .grind
   .rename_i cut m3 j;split at h
    .grind
    .rename_i m4 k;have l:=ac7 args a _ m4 k ((g.same (DJ j)).p1 zs) hx;split at h
     .grind
     .rename_i m5 n;have o:=ac9 nv 0 m4 m5 n l;split at h
      .grind
      .rename_i m6 p;have r:=Pe body cut m5 m6 p o b;injection h with h;subst h;refine r.put (Kl ?_ ?_)
       .split<;>exact Nat.le_of_eq zd
       .split<;>decide
theorem amF{name:Bs}{n:Nat}{c:Co}:∀ {l:List Pd} {p:Pd},p∈rj name n c l->∀ x∈p.clauses,x=c\/∃ q∈l,x∈q.clauses
 | [],p,a,x,hx=>by
  simp_all [rj,aZ4]
 | q::r,p,a,x,hx=>by
  unfold rj at a;split at a
  .grind
  .rcases aZU.1 a with rfl | a
   .grind
   .rcases amF a x hx with h | ⟨y,b,d⟩<;>grind
def amG{Q:Co->Prop}:∀ {cs:List Cl} {l l':List Pd},(∀ c∈cs,∀ x,A8 c.args c.body c.vars.length G=O x->Q x)->(∀ p∈l,∀ x∈p.clauses,Q x)->xz cs l=O l'->∀ p∈l',∀ x∈p.clauses,Q x
 | [],l,l',_,a,h=>by
  grind [xz]
 | c::r,l,l',b,a,h=>by
  unfold xz at h;split at h
  .grind
  .rename_i y d;refine amG zg (fun p e x hx=>?_) h;grind [amF]
def DL:List Pd->Nat
 | []=>0
 | p::r=>p.clauses.length+DL r
theorem amH{name:Bs}{n:Nat}{c:Co}:∀ (l:List Pd),DL (rj name n c l)=DL l+1/\(rj name n c l).length<=l.length+1
 | []=>⟨J,by simp [rj]⟩
 | q::r=>by
  unfold rj;split
  .grind [DL,aZO,List.length_singleton]
  .obtain⟨a,b⟩:=amH (name:=name) (n:=n) (c:=c) r;grind [DL,aZQ]
def amI:∀ {cs:List Cl} {l l':List Pd},xz cs l=O l'->DL l'=DL l+cs.length/\l'.length<=l.length+cs.length
 | [],l,l',h=>by
  unfold xz at h;injection h with h;subst h;exact⟨J,zs⟩
 | c::r,l,l',h=>by
  unfold xz at h;split at h
  .grind
  .obtain⟨a,b⟩:=amI h;grind [amH,aZQ]
def ada{first:Bs}{l:List Bs}(h:first.length+wl l<60):(mz first l).length<=60:=by
 grind [mz,aZO,WW,aZQ,List.length_nil]
def amJ{c:Co}(h:Aj c):(Ag c).length<=1800000:=by
 have key:∀ l:List In,(∀ i∈l,DH i)->((l.map Gp).flatten).length<=60*l.length:=by
  intro l;induction l with
  | nil=>grind
  | cons a r ih=>
   grind [ac5,aZV,a0A,List.flatten_cons,aZO,aZQ]
 have:=key c.ins h.ins;have:=h.len;unfold Ag;omega
theorem aHJ{p:Pd}(h:DK p):(vV p).length<=60+1800060*p.clauses.length:=by
 have w0:wl []=0:=rfl;have b:(mz [112,114,101,100] [p.name,ff p.arity]).length<=60:=ada (by
  have:=h.name;have:=EZ (show p.arity<100000 by have:=h.ar;omega);rw[Ch,Ch,w0];simp;omega)
 have key:∀ l:List Co,(∀ c∈l,Aj c)->((l.map fun c=>mz [99,108,97,117,115,101] [ff c.slots]++Ag c).flatten).length<=1800060*l.length:=by
  intro l;induction l with
  | nil=>grind
  | cons a r ih=>
   intro h;have b:=amJ (h a aZV);have d:(mz [99,108,97,117,115,101] [ff a.slots]).length<=60:=ada (by
    have:=EZ (show a.slots<100000 by have:=(h a aZV).slots;omega);rw[Ch,w0];simp;omega)
   grind
 grind [vV,aZO,DK.cls]
def aHK{l:List Pd}{ask:Co}(c:∀ p∈l,DK p)(b:Aj ask)(ht:told<=1000):(yI l ask told).length<=60*l.length+1800060*DL l+1800060:=by
 have w0:wl []=0:=rfl;have key:∀ l:List Pd,(∀ p∈l,DK p)->((l.map vV).flatten).length<=60*l.length+1800060*DL l:=by
  intro l;induction l with
  | nil=>grind
  | cons a r ih=>
   grind [aHJ,aZV,a0A,List.flatten_cons,aZO,aZQ,DL]
 have d:=key l c;have e:=amJ b;have f:(mz [113,117,101,114,121] [ff ask.slots,ff told]).length<=60:=ada (by
  have:=EZ (show ask.slots<100000 by have:=b.slots;omega);have:=EZ (show told<100000 by omega);rw[Ch,Ch,w0];simp;omega)
 unfold yI;rw[aZO,aZO];omega
def amK{cs:List Cl}{l:List Pd}(a:∀ c∈cs,qi c)(f:cs.length<=40)(h:xz cs []=O l):(∀ p∈l,DK p)/\(∀ p∈l,∀ c∈p.clauses,Aj c/\∀ i∈c.ins,Gu i)/\l.length<=40/\DL l<=40:=by
 have b:=amB cs [] l 0 a zo zg h;obtain⟨g,j⟩:=amI h;refine⟨b,fun p d c e=>⟨(by grind [DK.cls]),?_⟩,zg,by simp_all [DL]⟩;exact amG (Q:=fun c=>∀ i∈c.ins,Gu i) (fun c hm x hx=>amE hx (a c hm).cl.args (a c hm).cl.body) zg h p d c e
mutual
def Gv:Tm->Nat
 | .atom _=>1
 | .int _=>1
 | .var _=>1
 | .comp _ args=>Km args+1
 termination_by structural t=>t
def Km:List Tm->Nat
 | []=>0
 | t::a=>Gv t+Km a
 termination_by structural t=>t
end
structure aUH(f:Nat):Prop where
 tm:∀ t least s,4*Gv t<=f->Gv t<=s.fuel->∃ r,lE [] f t least s=O (O r)/\s.fuel<=r.fuel+Gv t/\r.fuel<=s.fuel
 comp:∀ name args least s,4*Km args+3<=f->Km args<=s.fuel->∃ r,B8 [] f name args least s=O (O r)/\s.fuel<=r.fuel+Km args/\r.fuel<=s.fuel
 args:∀ c l s,4*Km l+1<=f->Km l<=s.fuel->∃ r,uN [] f c l s=O (O r)/\s.fuel<=r.fuel+Km l/\r.fuel<=s.fuel
 list:∀ c a b s,4*(Gv a+Gv b)+1<=f->Gv a+Gv b<=s.fuel->∃ r,yy [] f c a b s=O (O r)/\s.fuel<=r.fuel+(Gv a+Gv b)/\r.fuel<=s.fuel
structure NeW(tr:Tr)(f:Nat):Prop where
 tm:∀ t least s r,er t->lE tr f t least s=O (O r)->s.out.length<r.out.length
 comp:∀ name args least s r,jr args->B8 tr f name args least s=O (O r)->s.out.length<r.out.length
 args:∀ c l s r,jr l->uN tr f c l s=O (O r)->s.out.length<=r.out.length
 list:∀ c a b s r,er a->er b->yy tr f c a b s=O (O r)->s.out.length<r.out.length
theorem amL(n:Nat):0<(ff n).length:=by
 grind [ff,rS]
def aHL(n:Int):0<(kO n).length:=by
 grind [kO,amL]
inductive Item where
 | wd (s:Bs)
 | sg (s:Bs)
 | md
def Item.text:Item->Bs
 | .wd s=>s
 | .sg s=>s
 | .md=>[32,109,111,100,32]
def Item.tok:Item->Nat->Tok
 | .wd s,p=>⟨rJ s,s,p⟩
 | .sg s,p=>⟨4,s,p⟩
 | .md,p=>⟨1,[109,111,100],p+1⟩
def sgn:List Bs:=[[40],[41],[91],[93],[44],[124],[43],[45],[42],[47,47]]
def aHN(s:Bs):Prop:=rJ s≠0/\∀ c∈s,cls c≠0
def Item.ok:Item->Prop
 | .wd s=>aHN s
 | .sg s=>s∈sgn
 | .md=>True
def Item.isW:Item->Bool
 | .wd _=>A
 | _=>G
def sep:Bool->List Item->Prop
 | _,[]=>True
 | p,i::r=>¬ (p=A/\i.isW=A)/\sep i.isW r
def At(T:List Tok):Nat->List Item->Prop
 | _,[]=>True
 | k,i::r=>((tk T k).kind=(i.tok 0).kind/\(tk T k).text=(i.tok 0).text)/\At T (k+1) r
end P
