/- A part of one proof (PureRp, PureGk, PureGp, PureLn, PureGw, PureTl, PureA, PureC). -/
import Derived.Test.YtoegidfbnkaabaaGreatDoorPkMAN
set_option linter.all false
set_option maxRecDepth 100000
set_option maxHeartbeats 8000000
open Option renaming some → O, none → V
open Bool renaming true → G, false → ae
open List renaming length_append → a3M, length_cons → a3N, mem_cons_self → a3S, mem_cons → a3T, mem_append → a3Z, mem_singleton → a35, mem_cons_of_mem → a4A, mem_or_eq_of_mem_set → a41, modify_succ_cons → a44, mem_of_getLast? → a48, mem_of_mem_tail → a7d
open Nat renaming le_refl → a3O, le_trans → a3Q, zero_le → a33, le_succ_of_le → a6l
namespace Go.Proofs.YtoegidfbnkaabaaGreatDoor
variable{M N j k n nv pb told:Nat}
namespace P
theorem De{w:Bs}{s:Nat}(h:jv w n=O s):s<n:=by
 grind [jv]
def aeX{n:Nat}:∀ {ws:List Bs} {l:List Nat},uT n ws=O l->l.length=ws.length/\∀ k∈l,k<n
 | [],l,h=>by
  unfold uT at h;injection h with h;subst h;exact⟨J,fun _ h=>by cases h⟩
 | w::r,l,h=>by
  unfold uT at h;split at h
  .rename_i s l' b a;injection h with h;subst h;obtain⟨g1,g2⟩:=aeX a;grind [De]
  grind
theorem Uw{w t:Bs}(h:nI w=O t):t=w/\w.length<=10/\w≠[]:=by
 unfold nI at h;grind
def YC{w:Bs}{z:Int}(a:Ez w=O z):jc z=w/\-9223372036854775808<=z/\z<=9223372036854775807:=by
 unfold Ez at a;grind
def aJS{w:Bs}{t:Tm}(h:BU w=O t):eB t/\Uq t=true:=by
 unfold BU at h;split at h
 .rename_i z b;injection h with h;subst h;have c:=(YC b).2;exact⟨by simp_all [eB],J⟩
 .cases a:nI w with
  | none=>grind
  | some x=>
   rw[a] at h;injection h with h;subst h;obtain⟨rfl,c,d⟩:=Uw a;exact⟨by grind [eB],J⟩
def QR{w sh:Bs}(h:kT w=O sh) :
  ((w=oe\/w=pL\/w=qR\/w=kZ)/\sh=[115])\/((w=FW\/w=Ew)/\sh=[115,99])\/(w=FX/\sh=[115,115])\/((w=Jt\/w=Ju)/\sh=[115,110,42])\/((w=mD\/w=rA)/\sh=[110,42])\/((w=kr\/w=jQ)/\sh=[112])\/((w=Of\/w=Og)/\sh=[]):=by
 unfold kT at h;split at h
 .grind
 split at h
 .rename_i a;injection h with h;exact .inr (.inl ⟨a,h.symm⟩)
 split at h
 .rename_i a;injection h with h;exact .inr (.inr (.inl ⟨a,h.symm⟩))
 split at h
 .rename_i a;injection h with h;exact .inr (.inr (.inr (.inl ⟨a,h.symm⟩)))
 split at h
 .grind
 split at h
 .grind
 split at h
 .rename_i a;injection h with h;exact .inr (.inr (.inr (.inr (.inr (.inr ⟨a,h.symm⟩)))))
 grind
theorem uS.of{w nm:Bs}{con:Option Tm}{s:List Nat}(h:w∈[oe,FW,Ew,FX,Jt,Ju,mD,pL,qR,kZ,kr,jQ,rA,Of,Og] /\
  (w≠kr->w≠jQ->∀ k∈s,k<n)/\(w=oe\/w=FW\/w=Ew\/w=pL\/w=qR\/w=kZ\/w=kr\/w=jQ->s.length=1)/\(w=FX->s.length=2)/\(w=Jt\/w=Ju->2<=s.length) /\
  (w=mD->jx nm=s.length)/\(w=FW\/w=Ew->∃ t,con=O t/\eB t/\Uq t=G)/\nm.length<=20/\s.length<=60/\(∀ k∈s,k<100000)):uS n ⟨w,nm,con,s⟩:=
 ⟨h.1,h.2.1,h.2.2.1,h.2.2.2.1,h.2.2.2.2.1,h.2.2.2.2.2.1,h.2.2.2.2.2.2.1,h.2.2.2.2.2.2.2.1,h.2.2.2.2.2.2.2.2.1,h.2.2.2.2.2.2.2.2.2⟩
def aoH{ws:List Bs}{i:In}(x:n<=64)(y:ws.length<=60)(h:qi n ws=O i):uS n i:=by
 unfold qi at h;cases ws with
 | nil=>grind
 | cons w ws=>
  simp only at h;cases o:kT w with
  | none=>grind
  | some sh=>
   rw[o] at h;simp only at h;have r:ws.length<=59:=zg;split at h
   .rename_i z c;split at h
    .grind
    .rename_i p;injection h with h;subst h;simp only[not_or,not_and,Nat.not_lt,ne_eq,Decidable.not_not] at p;obtain⟨j,m⟩:=p;rcases QR o with⟨hw,rfl⟩| ⟨hw,rfl⟩| ⟨hw,rfl⟩| ⟨hw,rfl⟩| ⟨hw,rfl⟩| ⟨hw,rfl⟩| ⟨hw,rfl⟩
     .cases ws with
      | nil=>grind [kU]
      | cons a ws=>
       simp [kU] at c;cases d:jv a n with
       | none=>grind
       | some s=>
        rw[d] at c;simp at c;obtain⟨rfl,rfl⟩:=c;have:=De d;rcases hw with rfl | rfl | rfl | rfl<;>exact uS.of ⟨zd,fun _ _ k hk=>by simp at hk;omega,fun _=>rfl,fun h=>absurd h zd,fun h=>absurd h zd,fun h=>absurd h zd,fun h=>absurd h zd,zs,zs,fun k hk=>by simp at hk;omega⟩
     .cases ws with
      | nil=>grind [kU]
      | cons a ws=>
       simp [kU] at c;cases d:jv a n with
       | none=>grind
       | some s=>
        rw[d] at c;simp at c;cases ws with
        | nil=>grind
        | cons b ws=>
         simp at c;cases e:BU b with
         | none=>grind
         | some t=>
          rw[e] at c;simp at c;obtain⟨rfl,rfl⟩:=c;have:=De d;obtain⟨u,c2⟩:=aJS e;rcases hw with rfl | rfl<;>exact uS.of ⟨zd,fun _ _ k hk=>by simp at hk;omega,fun _=>rfl,fun h=>absurd h zd,fun h=>absurd h zd,fun h=>absurd h zd,fun _=>⟨t,J,u,c2⟩,zs,zs,fun k hk=>by simp at hk;omega⟩
     .cases ws with
      | nil=>grind [kU]
      | cons a ws=>
       simp [kU] at c;cases d:jv a n with
       | none=>grind
       | some s=>
        rw[d] at c;simp at c;cases ws with
        | nil=>grind
        | cons b ws=>
         simp at c;cases e:jv b n with
         | none=>grind
         | some t=>
          rw[e] at c;simp at c;obtain⟨rfl,rfl⟩:=c;have:=De d;have:=De e;subst hw;exact uS.of ⟨zg,fun _ _ k hk=>zg,fun h=>absurd h zd,fun _=>rfl,fun h=>absurd h zd,fun h=>absurd h zd,fun h=>absurd h zd,zs,zs,fun k hk=>zg⟩
     .cases ws with
      | nil=>grind [kU]
      | cons a ws=>
       simp [kU] at c;cases d:jv a n with
       | none=>grind
       | some s=>
        rw[d] at c;simp at c;cases ws with
        | nil=>grind
        | cons b ws=>
         simp at c;cases e:nI b with
         | none=>grind
         | some t=>
          rw[e] at c;simp at c;cases f:uT n ws with
          | none=>grind
          | some l=>
           rw[f] at c;simp at c;subst c;have:=De d;obtain⟨rfl,nl,-⟩:=Uw e;obtain⟨g1,g2⟩:=aeX f;have g:(s::l).length<=60:=zg;have q:∀ k∈s::l,k<n:=fun k hk=>by
            grind
           rcases hw with rfl | rfl<;>exact uS.of ⟨zd,fun _ _=>q,fun h=>absurd h zd,fun h=>absurd h zd,fun _=>j zd,fun h=>absurd h zd,fun h=>absurd h zd,zo,g,fun k hk=>by have:=q k hk;omega⟩
     .cases ws with
      | nil=>grind [kU]
      | cons b ws=>
       simp [kU] at c;cases e:nI b with
       | none=>grind
       | some t=>
        rw[e] at c;simp at c;cases f:uT n ws with
        | none=>grind
        | some l=>
         rw[f] at c;simp at c;subst c;obtain⟨rfl,nl,-⟩:=Uw e;obtain⟨g1,g2⟩:=aeX f;have g:l.length<=60:=zg;rcases hw with rfl | rfl
         .exact uS.of ⟨by simp_all,fun _ _=>g2,fun h=>absurd h zd,fun h=>absurd h zd,fun h=>absurd h zd,fun _=>m J,fun h=>absurd h zd,zo,g,fun k hk=>zg⟩
         .exact uS.of ⟨by simp_all,fun _ _=>g2,fun h=>absurd h zd,fun h=>absurd h zd,fun h=>absurd h zd,fun h=>absurd h zd,fun h=>absurd h zd,zo,g,fun k hk=>zg⟩
     .cases ws with
      | nil=>grind [kU]
      | cons a ws=>
       simp [kU] at c;cases d:jv a 10000 with
       | none=>grind
       | some s=>
        rw[d] at c;simp at c;obtain⟨rfl,rfl⟩:=c;have:=De d;rcases hw with rfl | rfl
        .exact uS.of ⟨by simp_all,fun h=>absurd J h,fun _=>rfl,fun h=>absurd h zd,fun h=>absurd h zd,fun h=>absurd h zd,fun h=>absurd h zd,zs,zs,fun k hk=>zg⟩
        .exact uS.of ⟨by simp_all,fun _ h=>absurd J h,fun _=>rfl,fun h=>absurd h zd,fun h=>absurd h zd,fun h=>absurd h zd,fun h=>absurd h zd,zs,zs,fun k hk=>zg⟩
     .simp [kU] at c;obtain⟨rfl,rfl⟩:=c;rcases hw with rfl | rfl<;>exact uS.of ⟨zd,fun _ _ k hk=>by simp at hk,fun h=>absurd h zd,fun h=>absurd h zd,fun h=>absurd h zd,fun h=>absurd h zd,fun h=>absurd h zd,zs,zs,fun k hk=>by simp at hk⟩
   grind
def Lm(N:Nat)(c:Co):Prop:=(∀ i∈c.ins,uS c.slots i)/\c.slots<=64/\c.ins.length<=N
structure Ln(N:Nat)(p:Pv):Prop where
 pd:∀ q∈p.dJ,q.clauses.length<=N/\∀ c∈q.clauses,Lm N c
 ask:∀ c n,p.ask=O (c,n)->Lm N c/\n<=c.slots
theorem Lm.up{c:Co}(h:Lm N c):Lm (N+1) c:=⟨h.1,h.2.1,a6l h.2.2⟩
def aoI{l:List Co}{f:Co->Co}{c:Co}(h:c∈FY l f):c∈l\/∃ x,l.getLast?=O x/\c=f x:=by
 unfold FY at h;split at h
 .grind
 .rename_i x r hr;have a:l=(x::r).reverse:=zg;grind
def aoJ(l:List Co)(f:Co->Co):(FY l f).length=l.length:=by
 unfold FY;split<;>simp_all
def aeZ{l:List Pd}{f:Pd->Pd}{c:Pd}(h:c∈Hs l f):c∈l\/∃ x,l.getLast?=O x/\c=f x:=by
 unfold Hs at h;split at h
 .grind
 .rename_i x r hr;have a:l=(x::r).reverse:=zg;grind
theorem Lm.put{c:Co}{i:In}(h:Lm N c)(hi:uS c.slots i):Lm (N+1) { c with ins:=c.ins++[i] }:=
 ⟨fun x hx=>by
  rcases a3Z.1 hx with hx | hx
  .exact h.1 x hx
  grind,h.2.1,by simp;exact h.2.2⟩
theorem Ln.up{N:Nat}{p:Pv}(h:Ln N p):Ln (N+1) p:=
 ⟨fun q b=>⟨a6l (h.pd q b).1,fun c a=>((h.pd q b).2 c a).up⟩,fun c n a=>⟨(h.ask c n a).1.up,(h.ask c n a).2⟩⟩
theorem aJV{ws:List Bs}{p r:Pv}(h:Ln N p)(s:ws.length<=60)(hr:mF ws p=O r):Ln (N+1) r:=by
 unfold mF at hr;split at hr
 .split at hr
  .rename_i a b t j u;split at hr
   .grind
   .injection hr with hr;subst hr;refine⟨fun q e=>?_,fun c n d=>zg⟩;rcases a3Z.1 e with e | e
    .exact h.up.pd q e
    grind
  grind
 .split at hr
  .rename_i a t j;split at hr
   .grind
   .injection hr with hr;subst hr;refine⟨fun q e=>?_,fun c n d=>zg⟩;rcases aeZ e with e | ⟨x,hx,rfl⟩
    .exact h.up.pd q e
    .have f:=a48 hx;refine⟨by simp;exact(h.pd x f).1,fun c d=>?_⟩;rcases a3Z.1 d with d | d
     .exact((h.pd x f).2 c d).up
     .rw[a35] at d;subst d;exact⟨fun i hi=>(by cases hi),by have:=De j;grind,a33 _⟩
  grind
 .split at hr
  .rename_i a t j;split at hr
   .rename_i b u;injection hr with hr;subst hr;refine⟨fun q e=>h.up.pd q e,fun c n d=>?_⟩;have d:O ((⟨a,[]⟩:Co),b)=O (c,n):=d;injection d with d;injection d with l m;subst l m;have:=De j;have:=De u;exact⟨⟨fun i hi=>(by cases hi),zg,a33 _⟩,zg⟩
   grind
  grind
 .split at hr
  .grind
  .split at hr
   .rename_i c n w;split at hr
    .rename_i i hi;injection hr with hr;subst hr;obtain⟨g1,g2⟩:=h.ask c n w;refine⟨fun q e=>h.up.pd q e,fun A B d=>?_⟩;have d:O ({ c with ins:=c.ins++[i] },n)=O (A,B):=d;injection d with d;injection d with l m;subst l m;exact⟨g1.put (aoH g1.2.1 s hi),g2⟩
    grind
   .rename_i w;split at hr
    .split at hr
     .rename_i c d;split at hr
      .rename_i i hi;injection hr with hr;subst hr;refine⟨fun q e=>?_,fun c n d=>zg⟩;rcases aeZ e with e | ⟨x,hx,rfl⟩
       .exact h.up.pd q e
       .have f:=a48 hx;unfold mF.Ll at d;rw[hx] at d;refine⟨by show(FY x.clauses _).length<=_;rw[aoJ];exact a6l (h.pd x f).1,fun y o=>?_⟩;rcases aoI o with o | ⟨z,k,rfl⟩
        .exact((h.pd x f).2 y o).up
        .have d:x.clauses.getLast?=O c:=d;rw[d] at k;injection k with k;subst k;have g:=(h.pd x f).2 c (a48 d);exact g.put (aoH g.2.1 s hi)
      grind
     grind
    grind
theorem Ux(c:UInt8):∀ (s:Bs),(fP c s).length<=s.length+1/\fP c s≠[]
 | []=>(by simp_all [fP])
 | x::r=>by
  obtain⟨a,b⟩:=Ux c r;grind [fP,a3N]
def aoL:∀ (ls:List Bs) (k N:Nat) (p a:Pv),Ln N p->(∀ l∈ls,l.length<60)->lh ls k p = .ok a->Ln (N+ls.length) a
 | [],k,N,p,a,h,b,hr=>by
  simp_all [lh]
 | [r],k,N,p,a,h,b,hr=>by
  unfold lh at hr;split at hr
  .simp_all [Ln.up]
  grind
 | r::c::rs,k,N,p,a,h,b,hr=>by
  unfold lh at hr
  .split at hr
   .grind
   .rename_i q e;have hlen:=(Ux 32 r).1;have d:=b r a3S;have:=aoL (c::rs) (k+1) (N+1) q a (by grind [aJV]) zg hr;grind
def aoM{s:Bs}{dJ:List Pd}{ask:Co}(h:rC s = .ok (dJ,ask,told))(e:∀ l∈fP 10 s,l.length<60):(∀ p∈dJ,aor p)/\zE ask/\told<=ask.slots:=by
 unfold rC at h;split at h
 .grind
 .rename_i m;have hlen:=(Ux 10 s).1;split at h
  .grind
  .rename_i p f;have a:=aoL _ _ 0 _ _ ⟨zg,zg⟩ e f;rw[Nat.zero_add] at a;split at h
   .rename_i c n g;injection h with h;injection h with i h;injection h with j k;subst i j k;obtain⟨g1,g2⟩:=a.ask c n g;exact⟨fun q b=>⟨fun c d=>⟨((a.pd q b).2 c d).1,((a.pd q b).2 c d).2.1,by have:=((a.pd q b).2 c d).2.2;omega⟩,by have:=(a.pd q b).1;omega⟩,⟨g1.1,g1.2.1,by have:=g1.2.2;omega⟩,g2⟩
   grind
structure BV(i:In):Prop where
 word:i.word.length<=5
 name:i.name.length<=9
 con:(Dd i.const).length<=10
 qQ:i.s.length<=5
 small:∀ k∈i.s,k<100000
structure GK(N:Nat)(k:Mk):Prop where
 len:k.ins.length<=N
 ins:∀ i∈k.ins,BV i
 slots:k.slots<=64
 vars:∀ v∈k.vars,∀ t,v=O t->t<64
theorem GK.up{k:Mk}(h:GK N k)(a:N<=pb):GK pb k:=⟨a3Q h.len a,h.ins,h.slots,h.vars⟩
theorem GK.put{N:Nat}{k:Mk}(h:GK N k){w nm:Bs}{con:Option Tm}{s:List Nat}(hi:BV ⟨w,nm,con,s⟩):GK (N+1) (k.put w nm con s):=
 ⟨by simp_all [Mk.put,len],(by grind [Mk.put,a35,ins]),h.slots,h.vars⟩
theorem GK.slot{N:Nat}{k k':Mk}{s:Nat}(h:GK N k)(a:k.slot=O (s,k')):GK N k'/\s<64/\k'.vars=k.vars/\k'.ins=k.ins/\k'.slots=k.slots+1/\s=k.slots:=by
 unfold Mk.slot at a;split at a
 .grind
 .injection a with a;injection a with b c;subst b c;exact⟨⟨h.len,h.ins,zg,h.vars⟩,zo,J,J,J,J⟩
theorem GK.tF{N:Nat}:∀ {n:Nat} {k k':Mk} {l:List Nat},GK N k->k.tF n=O (l,k')->GK N k'/\l.length=n/\(∀ s∈l,s<64)/\k'.vars=k.vars
 | 0,k,k',l,h,a=>by
  unfold Mk.tF at a;injection a with a;injection a with b c;subst b c;exact⟨h,J,(fun _ hm=>absurd hm zs),J⟩
 | n+1,k,k',l,h,a=>by
  unfold Mk.tF at a;split at a
  .grind
  .rename_i s m b;split at a
   .grind
   .rename_i l' m' c;injection a with a;injection a with d e;subst d e;obtain⟨g1,g2,g3,-⟩:=h.slot b;obtain⟨q1,q2,q3,q4⟩:=g1.tF c;grind
def aoN{name:Bs}{n:Int}{args:List Ex}(h:ij nv (.mk pb name n k args)):(Dd (O (Dc pb name n))).length<=10:=by
 unfold ij at h;obtain⟨a,b,-⟩:=h;unfold Dc;split
 .show(jc n).length<=10;unfold jc;have:(di n.natAbs).length<=9:=Hn n.natAbs 8 zo _ zo;grind
 .show name.length<=10;omega
mutual
theorem ae0 {nv:Nat}:∀ (x:Ex) (s N:Nat) (k k':Mk),zy x s k=O k'->GK N k->s<64->ij nv x->GK (N+iG x) k'/\k'.vars.length=k.vars.length
 | .mk kind name n v args,s,N,k,k',h,hk,d,hx=>by
  have e:=hx;unfold ij at hx;obtain⟨f,j,o,p,q,u,z,g⟩:=hx;unfold zy at h;split at h
  .split at h
   .injection h with h;subst h;refine⟨(⟨hk.len,hk.ins,hk.slots,fun y b t ht=>?_⟩:GK N { k with vars:=k.vars.set v (O s) }).up (Nat.le_add_right _ _),zs⟩;rcases a41 b with b | b
    .exact hk.vars y b t ht
    grind
   .rename_i t ht;injection h with h;subst h;have A:t<64:=by
     have:O t∈k.vars:=by
      grind
     exact hk.vars _ this t J
    exact⟨(hk.put ⟨zs,zs,by simp [Dd],zs,fun x hx=>zg⟩).up (by simp [iG]),J⟩
  .split at h
   .split at h
    .grind
    .rename_i l m c;obtain⟨g1,g2,g3,g4⟩:=hk.tF c;have i:=g1.put (w:=[115,112,108,105,116]) (nm:=name) (con:=V) (s:=s::l) ⟨zs,f,by simp [Dd],zg,fun x hx=>by
      grind⟩
     obtain⟨q1,q2⟩:=ae1 args l (N+1) _ k' h i g3 g;exact⟨q1.up (by grind [iG]),q2.trans (congrArg List.length g4)⟩
   .injection h with h;subst h;exact⟨(hk.put ⟨zs,zs,aoN e,zs,fun x hx=>zg⟩).up (by simp [iG]),J⟩
 termination_by structural x=>x
theorem ae1 {nv:Nat}:∀ (xs:List Ex) (l:List Nat) (N:Nat) (k k':Mk),tG xs l k=O k'->GK N k->(∀ s∈l,s<64)->fj nv xs->GK (N+fJ xs) k'/\k'.vars.length=k.vars.length
 | [],l,N,k,k',h,hk,c,hx=>by
  unfold tG at h;injection h with h;subst h;exact⟨hk,J⟩
 | x::xs,l,N,k,k',h,hk,c,hx=>by
  unfold fj at hx;unfold tG at h;split at h
  .grind
  .rename_i m hm;have d:l.headD 0<64:=by
    cases l with
    | nil=>simp
    | cons a r=>simp_all
   obtain⟨g1,g2⟩:=ae0 x _ N k m hm hk d hx.1;obtain⟨q1,q2⟩:=ae1 xs _ _ m k' h g1 (by simp_all [a7d]) hx.2;grind [fJ]
 termination_by structural x=>x
end
mutual
theorem ae2 {nv:Nat}:∀ (x:Ex) (N s:Nat) (k k':Mk),AV x k=O (s,k')->GK N k->ij nv x->GK (N+iG x) k'/\k'.vars=k.vars/\s<64
 | .mk kind name n v args,N,s,k,k',h,hk,hx=>by
  have d:=hx;unfold ij at hx;obtain⟨e,g,i,j,o,p,q,f⟩:=hx;unfold AV at h;split at h
  .injection h with h;injection h with a b;subst a b;refine⟨hk.up zo,J,?_⟩;cases hv:k.vars.getD v V with
   | none=>simp
   | some t=>
    have:O t∈k.vars:=by
     grind
    exact hk.vars _ this t J
  .split at h
   .split at h
    .grind
    .rename_i s' m hm;injection h with h;injection h with a b;subst a b;obtain⟨g1,g2,g3,-⟩:=hk.slot hm;exact⟨(g1.put ⟨zs,zs,aoN d,zs,fun x hx=>zg⟩).up (by simp [iG]),g3,g2⟩
   .split at h
    .grind
    .rename_i l m hm;split at h
     .grind
     .rename_i s' m' c;injection h with h;injection h with a b;subst a b;obtain⟨q1,q2,q3,q4⟩:=ae3 args N l k m hm hk f;obtain⟨g1,g2,g3,-⟩:=q1.slot c;refine⟨(g1.put ⟨zs,e,by simp [Dd],zg,fun x hx=>?_⟩).up (by grind [iG]),g3.trans q2,g2⟩;grind
 termination_by structural x=>x
theorem ae3 {nv:Nat}:∀ (xs:List Ex) (N:Nat) (l:List Nat) (k k':Mk),tH xs k=O (l,k')->GK N k->fj nv xs->GK (N+fJ xs) k'/\k'.vars=k.vars/\l.length=xs.length/\∀ s∈l,s<64
 | [],N,l,k,k',h,hk,hx=>by
  unfold tH at h;injection h with h;injection h with a b;subst a b;exact⟨hk,J,J,zg⟩
 | x::xs,N,l,k,k',h,hk,hx=>by
  unfold fj at hx;unfold tH at h;split at h
  .grind
  .rename_i s m hm;split at h
   .grind
   .rename_i l' m' c;injection h with h;injection h with a b;subst a b;obtain⟨g1,g2,g3⟩:=ae2 x N s k m hm hk hx.1;obtain⟨q1,q2,q3,q4⟩:=ae3 xs _ l' m m' c g1 hx.2;grind [fJ]
 termination_by structural x=>x
end
def aoO{α:Type}{f:α->α}:∀ {l:List α} {n:Nat} {x:α},x∈l.modify n f->x∈l\/∃ y∈l,x=f y
 | [],n,x,h=>zg
 | a::l,0,x,h=>by
  grind
 | a::l,n+1,x,h=>by
  rw[a44] at h;rcases a3T.1 h with rfl | h
  .grind
  .rcases aoO h with h | ⟨y,b,e⟩<;>grind
theorem GK.land{N:Nat}{k:Mk}(h:GK N k)(b:N<100000)(j:Nat):GK N (k.land j):=
 ⟨by simp_all [Mk.land,len],fun i hi=>by
  unfold Mk.land at hi;rcases aoO hi with hi | ⟨y,a,rfl⟩
  .grind [ins]
  .have:=h.ins y a;exact⟨this.word,this.name,this.con,zs,fun x hx=>by simp at hx;have:=h.len;omega⟩,h.slots,h.vars⟩
theorem YD{w nm:Bs}{s:List Nat}(hw:w.length<=5)(a:nm.length<=9)(b:s.length<=5)(hk:∀ k∈s,k<100000):BV ⟨w,nm,V,s⟩:=⟨hw,a,by simp [Dd],b,hk⟩
theorem rE{w nm:Bs}{s:Nat}(hw:w.length<=5)(a:nm.length<=9)(b:s<100000):BV ⟨w,nm,V,[s]⟩:=(by simp_all [YD])
mutual
theorem EA {nv M:Nat}:∀ (x:Bd) (cut N:Nat) (k k':Mk),lG x cut k=O k'->GK N k->eZ nv M x->cut<64->N+4*iX x<100000->GK (N+4*iX x) k'/\k'.vars=k.vars
 | .mk kind name args parts,cut,N,k,k',h,hk,hx,a,b=>by
  unfold eZ at hx;obtain⟨f,i,n,o,g,p,q,d⟩:=hx;simp only[iX] at b ⊢;unfold lG at h;split at h
  .injection h with h;subst h;exact⟨(hk.put (rE zd zs zo)).up zo,J⟩
  split at h
  .obtain⟨g1,g2⟩:=YE parts cut N k k' h hk d a zo;grind [GK.up]
  split at h
  .obtain⟨g1,g2⟩:=aJW parts cut N k k' h hk d a zo;grind [GK.up]
  split at h
  .split at h
   .grind
   .rename_i s m hm;obtain⟨q1,q2,q3,-⟩:=hk.slot hm;obtain⟨g1,g2⟩:=aJX parts s cut _ _ k' h (q1.put (rE zd zs zo)) d a q2 zo;exact⟨g1.up zo,g2.trans q3⟩
  split at h
  .split at h
   .grind
   .rename_i s m hm;obtain⟨q1,q2,q3,-⟩:=hk.slot hm;obtain⟨g1,g2⟩:=aJY parts s _ _ k' h (q1.put (rE zd zs zo)) d q2 zo;exact⟨g1.up zo,g2.trans q3⟩
  .split at h
   .grind
   .rename_i l m hm;injection h with h;subst h;obtain⟨q1,q2,q3,q4⟩:=ae3 args N l k m hm hk g;exact⟨(q1.put (YD (by split<;>decide) f zo fun x hx=>zg)).up zo,q2⟩
 termination_by structural x=>x
theorem YE {nv M:Nat}:∀ (xs:List Bd) (cut N:Nat) (k k':Mk),tI xs cut k=O k'->GK N k->fa nv M xs->cut<64->N+4*jG xs<100000->GK (N+4*jG xs) k'/\k'.vars=k.vars
 | [],cut,N,k,k',h,hk,hx,a,b=>by
  unfold tI at h;injection h with h;subst h;exact⟨hk,J⟩
 | x::xs,cut,N,k,k',h,hk,hx,a,b=>by
  unfold fa at hx;simp only[jG] at b ⊢;unfold tI at h;split at h
  .grind
  .rename_i m hm;obtain⟨g1,g2⟩:=EA x cut N k m hm hk hx.1 a zo;obtain⟨q1,q2⟩:=YE xs cut _ m k' h g1 hx.2 a zo;grind
 termination_by structural x=>x
theorem aJW {nv M:Nat}:∀ (xs:List Bd) (cut N:Nat) (k k':Mk),Et xs cut k=O k'->GK N k->fa nv M xs->cut<64->N+4*jG xs+2<100000->GK (N+4*jG xs+2) k'/\k'.vars=k.vars
 | [],cut,N,k,k',h,hk,hx,a,b=>by simp_all [Et]
 | x::xs,cut,N,k,k',h,hk,hx,a,b=>by
  unfold fa at hx;simp only[jG] at b ⊢;unfold Et at h;split at h
  .grind
  .rename_i m1 hm;split at h
   .grind
   .rename_i m2 e;injection h with h;subst h;obtain⟨g1,g2⟩:=EA x cut (N+1) _ m1 hm (hk.put (rE zd zs zo)) hx.1 a zo;obtain⟨q1,q2⟩:=YE xs cut _ _ m2 e ((g1.put (rE (w:=jQ) (nm:=[]) (s:=0) zd zs zo)).land zo _) hx.2 a zo;exact⟨(by grind [GK.up,GK.land]),q2.trans g2⟩
 termination_by structural x=>x
theorem aJX {nv M:Nat}:∀ (xs:List Bd) (s cut N:Nat) (k k':Mk),Eu xs s cut k=O k'->GK N k->fa nv M xs->cut<64->s<64->N+4*jG xs+3<100000->GK (N+4*jG xs+3) k'/\k'.vars=k.vars
 | [],s,cut,N,k,k',h,hk,hx,a,c,b=>by grind [Eu]
 | x::xs,s,cut,N,k,k',h,hk,hx,a,c,b=>by
  unfold fa at hx;simp only[jG] at b ⊢;unfold Eu at h;split at h
  .grind
  .rename_i m1 hm;obtain⟨g1,g2⟩:=EA x s (N+1) _ m1 hm (hk.put (rE zd zs zo)) hx.1 c zo;obtain⟨q1,q2⟩:=aJZ xs cut _ _ _ k' h (g1.put (rE zd zs zo)) hx.2 a zo;exact⟨q1.up zo,q2.trans g2⟩
 termination_by structural x=>x
theorem aJZ {nv M:Nat}:∀ (xs:List Bd) (cut j N:Nat) (k k':Mk),FV xs cut j k=O k'->GK N k->fa nv M xs->cut<64->N+4*jG xs+1<100000->GK (N+4*jG xs+1) k'/\k'.vars=k.vars
 | [],cut,j,N,k,k',h,hk,hx,a,b=>by simp_all [FV]
 | x::xs,cut,j,N,k,k',h,hk,hx,a,b=>by
  unfold fa at hx;simp only[jG] at b ⊢;unfold FV at h;split at h
  .grind
  .rename_i m1 hm;split at h
   .grind
   .rename_i m2 e;injection h with h;subst h;obtain⟨g1,g2⟩:=EA x cut N _ m1 hm hk hx.1 a zo;obtain⟨q1,q2⟩:=YE xs cut _ _ m2 e ((g1.put (rE (w:=jQ) (nm:=[]) (s:=0) zd zs zo)).land zo _) hx.2 a zo;exact⟨(by grind [GK.up,GK.land]),q2.trans g2⟩
 termination_by structural x=>x
theorem aJY {nv M:Nat}:∀ (xs:List Bd) (s N:Nat) (k k':Mk),Ev xs s k=O k'->GK N k->fa nv M xs->s<64->N+4*jG xs+3<100000->GK (N+4*jG xs+3) k'/\k'.vars=k.vars
 | [],s,N,k,k',h,hk,hx,c,b=>by simp_all [Ev]
 | x::xs,s,N,k,k',h,hk,hx,c,b=>by
  unfold fa at hx;simp only[jG] at b ⊢;unfold Ev at h;split at h
  .grind
  .rename_i m1 hm;injection h with h;subst h;obtain⟨g1,g2⟩:=EA x s (N+1) _ m1 hm (hk.put (rE zd zs zo)) hx.1 c zo;exact⟨(by grind [rE,kZ,YD,mD,GK.up,GK.land,GK.put]),g2⟩
 termination_by structural x=>x
end
def aoP:∀ (n j N:Nat) (k k':Mk),k.news j n=O k'->GK N k->GK (N+n) k'/\k'.vars.length=k.vars.length
 | 0,j,N,k,k',h,hk=>by
  unfold Mk.news at h;injection h with h;subst h;exact⟨hk,J⟩
 | n+1,j,N,k,k',h,hk=>by
  unfold Mk.news at h;split at h
  .grind
  .rename_i s m hm;obtain⟨g1,g2,g3,-⟩:=hk.slot hm;have hv:GK N { m with vars:=m.vars.set j (O s) }:=⟨g1.len,g1.ins,g1.slots,fun y a t ht=>by
    rcases a41 a with a | a
    .exact g1.vars y a t ht
    grind⟩
   obtain⟨q1,q2⟩:=aoP n (j+1) (N+1) _ k' h (hv.put (rE zd zs zo));exact⟨zg,q2.trans (by show(m.vars.set j (O s)).length=_;grind)⟩
def ae4:∀ (n j N:Nat) (k k':Mk),k.rest j n=O k'->GK N k->GK (N+n) k'/\k'.vars.length=k.vars.length
 | 0,j,N,k,k',h,hk=>by
  unfold Mk.rest at h;injection h with h;subst h;exact⟨hk,J⟩
 | n+1,j,N,k,k',h,hk=>by
  unfold Mk.rest at h;split at h
  .obtain⟨q1,q2⟩:=ae4 n (j+1) N k k' h hk;grind [GK.up]
  .split at h
   .grind
   .rename_i s m hm;obtain⟨g1,g2,g3,-⟩:=hk.slot hm;have hv:GK N { m with vars:=m.vars.set j (O s) }:=⟨g1.len,g1.ins,g1.slots,fun y a t ht=>by
     rcases a41 a with a | a
     .exact g1.vars y a t ht
     grind⟩
    obtain⟨q1,q2⟩:=ae4 n (j+1) (N+1) _ k' h (hv.put (rE zd zs zo));exact⟨zg,q2.trans (by show(m.vars.set j (O s)).length=_;grind)⟩
structure AY(c:Co):Prop where
 ins:∀ i∈c.ins,BV i
 slots:c.slots<=64
 len:c.ins.length<=30000
theorem YF{args:List Ex}{body:Bd}{q:Bool}{c:Co}(h:xt args body nv q=O c)(hx:fj nv args)(z:fJ args<=2900)(e:eZ nv M body)(A:iX body<=5800)(hv:nv<=12):AY c:=by
 unfold xt at h;split at h
 .grind
 .rename_i a m f;have g:GK 0 (⟨0,[],List.replicate nv V⟩:Mk):=⟨a3O _,fun i hi=>absurd hi zs,zs,fun v hv t ht=>zg⟩;obtain⟨g1,g2,g3,g4⟩:=g.tF f;split at h
  .grind
  .rename_i m2 d;have j:GK 12 m2:=by
    split at d
    .exact(aoP nv 0 0 m m2 d g1).1.up zo
    grind [GK.up]
   split at h
   .grind
   .rename_i cut m3 k;obtain⟨l,n,-,-⟩:=j.slot k;split at h
    .grind
    .rename_i m4 o;obtain⟨p,-⟩:=ae1 args a 13 _ m4 o (l.put (rE zd zs zo)) g3 hx;split at h
     .grind
     .rename_i m5 r;obtain⟨u,-⟩:=ae4 nv 0 _ m4 m5 r p;split at h
      .grind
      .rename_i m6 x;obtain⟨y,-⟩:=EA body cut _ m5 m6 x u e n zo;injection h with h;subst h;have b:=y.put (w:=if q=G then [100,111,110,101] else [114,101,116]) (nm:=[]) (con:=V) (s:=[]) (YD zg zs zs zs);exact⟨b.ins,b.slots,a3Q b.len zo⟩
def iQ(k k':Mk):Prop:=∃ r,k'.ins=k.ins++r
theorem iQ.refl(k:Mk):iQ k k:=⟨[],zs⟩
theorem iQ.trans{a b c:Mk}(h:iQ a b)(g:iQ b c):iQ a c:=by
 obtain⟨r,h⟩:=h;obtain⟨q,g⟩:=g;exact⟨r++q,zg⟩
theorem iQ.put(k:Mk)(w n:Bs)(c:Option Tm)(s:List Nat):iQ k (k.put w n c s):=⟨[⟨w,n,c,s⟩],J⟩
theorem iQ.same{k k':Mk}(h:k'.ins=k.ins):iQ k k':=⟨[],zg⟩
def YG{α:Type}(f:α->α):∀ (a b:List α) (q:Nat),(a++b).modify (a.length+q) f=a++b.modify q f
 | [],b,q=>zs
 | x::a,b,q=>by
  have:=YG f a b q;grind
theorem iQ.land{k k':Mk}{j:Nat}(h:iQ k k')(a:k.ins.length<=j):iQ k (k'.land j):=by
 obtain⟨r,h⟩:=h;refine⟨r.modify (j-k.ins.length) fun i=>{ i with s:=[k'.ins.length] },?_⟩;unfold Mk.land;simp only;rw[<- YG,<- h];grind
theorem EB{k a:Mk}{s:Nat}(h:k.slot=O (s,a)):a.ins=k.ins:=by
 grind [Mk.slot]
theorem ae5:∀ {n:Nat} {k k':Mk} {l:List Nat},k.tF n=O (l,k')->k'.ins=k.ins
 | 0,k,k',l,h=>by
  simp_all [Mk.tF]
 | n+1,k,k',l,h=>by
  unfold Mk.tF at h;split at h
  .grind
  .rename_i s m a;split at h
   .grind
   .rename_i l' m' b;injection h with h;injection h with d c;rw[<- c,ae5 b,EB a]
mutual
theorem aJ0:∀ (x:Ex) (s:Nat) (k k':Mk),AV x k=O (s,k')->iQ k k'
 | .mk kind name n v args,s,k,k',h=>by
  unfold AV at h;split at h
  .simp_all [iQ.refl]
  .split at h
   .split at h
    .grind
    .rename_i s' m hm;injection h with h;injection h with c a;subst a;exact(iQ.same (EB hm)).trans (iQ.put _ _ _ _ _)
   .split at h
    .grind
    .rename_i l m hm;split at h
     .grind
     .rename_i s' m' b;injection h with h;injection h with c a;subst a;exact((ae6 args l k m hm).trans (iQ.same (EB b))).trans (iQ.put _ _ _ _ _)
 termination_by structural x=>x
theorem ae6:∀ (xs:List Ex) (l:List Nat) (k k':Mk),tH xs k=O (l,k')->iQ k k'
 | [],l,k,k',h=>by simp_all [tH,iQ.refl]
 | x::xs,l,k,k',h=>by
  unfold tH at h;split at h
  .grind
  .rename_i s m hm;split at h
   .grind
   .rename_i l' m' b;injection h with h;injection h with c a;subst a;exact(aJ0 x s k m hm).trans (ae6 xs l' m m' b)
 termination_by structural x=>x
end
def iQ.len{k a:Mk}(h:iQ k a):k.ins.length<=a.ins.length:=by obtain⟨r,h⟩:=h;grind
mutual
theorem AZ:∀ (x:Bd) (cut:Nat) (k k':Mk),lG x cut k=O k'->iQ k k'
 | .mk kind name args parts,cut,k,k',h=>by
  unfold lG at h;split at h
  .grind [iQ.put]
  split at h
  .exact QS parts cut k k' h
  split at h
  .exact aJ1 parts cut k k' h
  split at h
  .split at h
   .grind
   .rename_i s m hm;exact((iQ.same (EB hm)).trans (iQ.put _ _ _ _ _)).trans (aJ2 parts s cut _ k' h)
  split at h
  .split at h
   .grind
   .rename_i s m hm;exact((iQ.same (EB hm)).trans (iQ.put _ _ _ _ _)).trans (aJ3 parts s _ k' h)
  .split at h
   .grind
   .rename_i l m hm;injection h with h;subst h;exact(ae6 args l k m hm).trans (iQ.put _ _ _ _ _)
 termination_by structural x=>x
theorem QS:∀ (xs:List Bd) (cut:Nat) (k k':Mk),tI xs cut k=O k'->iQ k k'
 | [],cut,k,k',h=>by simp_all [tI,iQ.refl]
 | x::xs,cut,k,k',h=>by
  unfold tI at h;split at h
  .grind
  .rename_i m hm;exact(AZ x cut k m hm).trans (QS xs cut m k' h)
 termination_by structural x=>x
theorem aJ1:∀ (xs:List Bd) (cut:Nat) (k k':Mk),Et xs cut k=O k'->iQ k k'
 | [],cut,k,k',h=>by simp_all [Et]
 | x::xs,cut,k,k',h=>by
  unfold Et at h;split at h
  .grind
  .rename_i m1 hm;split at h
   .grind
   .rename_i m2 c;injection h with h;subst h;have a:=(iQ.put k kr [] V [0]).trans (AZ x cut _ m1 hm);have d:=(a.trans (iQ.put m1 jQ [] V [0])).land (j:=k.ins.length) (a3O _);exact(d.trans (QS xs cut _ m2 c)).land a.len
 termination_by structural x=>x
theorem aJ2:∀ (xs:List Bd) (s cut:Nat) (k k':Mk),Eu xs s cut k=O k'->iQ k k'
 | [],s,cut,k,k',h=>by simp_all [Eu]
 | x::xs,s,cut,k,k',h=>by
  unfold Eu at h;split at h
  .grind
  .rename_i m1 hm;have a:=((iQ.put k kr [] V [0]).trans (AZ x s _ m1 hm)).trans (iQ.put m1 kZ [] V [s]);exact aJ4 xs cut _ _ k' k h a (a3O _)
 termination_by structural x=>x
theorem aJ4:∀ (xs:List Bd) (cut j:Nat) (k k' b:Mk),FV xs cut j k=O k'->iQ b k->b.ins.length<=j->iQ b k'
 | [],cut,j,k,k',b,h,e,f=>by simp_all [FV]
 | x::xs,cut,j,k,k',b,h,e,f=>by
  unfold FV at h;split at h
  .grind
  .rename_i m1 hm;split at h
   .grind
   .rename_i m2 c;injection h with h;subst h;have a:=e.trans (AZ x cut _ m1 hm);have d:=(a.trans (iQ.put m1 jQ [] V [0])).land f;exact(d.trans (QS xs cut _ m2 c)).land a.len
 termination_by structural x=>x
theorem aJ3:∀ (xs:List Bd) (s:Nat) (k k':Mk),Ev xs s k=O k'->iQ k k'
 | [],s,k,k',h=>by simp_all [Ev]
 | x::xs,s,k,k',h=>by
  unfold Ev at h;split at h
  .grind
  .rename_i m1 hm;injection h with h;subst h;exact((((iQ.put k kr [] V [0]).trans (AZ x s _ m1 hm)).trans (iQ.put m1 kZ [] V [s])).trans (iQ.put _ mD [102,97,105,108] V [])).land (a3O _)
 termination_by structural x=>x
end
theorem ae7(c x:UInt8)(r:Bs):fP c (x::r)=if x=c then []::fP c r else match fP c r with
 | []=>[[x]]
 | l::ls=>(x::l)::ls:=rfl
theorem Uy(c:UInt8)(r:Bs):∀ (a:Bs),fP c (a++c::r)=fP c a++fP c r
 | []=>by simp [fP]
 | x::a=>by
  have ih:=Uy c r a;grind [fP,ae7,Ux,absurd]
def aoQ(c:UInt8):∀ (a:Bs),∀ l∈fP c a,l.length<=a.length
 | [],l,b=>by
  simp_all [fP]
 | x::a,l,b=>by
  have ih:=aoQ c a;unfold fP at b;grind
def Uz(s:Bs):Prop:=∀ l∈fP 10 s,l.length<60
def tM(s:Bs):Prop:=∀ r,Uz r->Uz (s++r)
theorem tM.nil:tM []:=fun r h=>h
def tM.append{a b:Bs}(c:tM a)(d:tM b):tM (a++b):=fun r h=>by rw[List.append_assoc];exact c _ (d _ h)
theorem tM.flat{l:List Bs}(h:∀ x∈l,tM x):tM l.flatten:=by
 induction l with
 | nil=>exact .nil
 | cons a r ih=>simp_all [a3S,append,a4A]
def wl(l:List Bs):Nat:=(l.map fun w=>w.length+1).sum
def aJ5(a b:List Bs):wl (a++b)=wl a+wl b:=by simp [wl]
theorem Df(a:Bs)(b:List Bs):wl (a::b)=a.length+1+wl b:=by simp [wl]
theorem YH:∀ (l:List Bs),((l.map fun w=>(32:UInt8)::w).flatten).length=wl l
 | []=>rfl
 | a::r=>by rw[Df,<- YH r];grind
def tM.words{first:Bs}{l:List Bs}(h:first.length+wl l<60):tM (ld first l):=fun r hr=>by
 unfold ld;rw[List.append_assoc,List.singleton_append];unfold Uz;rw[Uy];intro x hx;rcases a3Z.1 hx with hx | hx
 .have:=aoQ _ _ x hx;grind [a3M,YH]
 .exact hr x hx
theorem F0(h:n<100000):(di n).length<=5:=Hn n 4 zo _ zo
theorem ae8:∀ (s:List Nat),(∀ k∈s,k<100000)->wl (s.map di)<=6*s.length
 | [],_=>by simp [wl]
 | a::r,h=>by
  have:=ae8 r zg;grind [F0,a3S,Df,a3N]
def aJ6{s:List Nat}(h:∀ k∈s,k<100000):s.headD 0<100000:=by
 cases s with
 | nil=>simp
 | cons a r=>simp_all
def aoR{i:In}(h:BV i):i.word.length+wl (pM i ((kT i.word).getD []) i.s)<60:=by
 have ht:∀ k∈i.s.tail,k<100000:=fun k hk=>h.small k (a7d hk);have d:=F0 (aJ6 h.small);have e:=ae8 _ h.small;have a:∀ j:Nat,(di (i.s[j]?.getD 0)).length<=5:=(by grind [F0,BV.small]);have b:wl (i.s.map di).tail<=6*i.s.tail.length:=by rw[<- List.map_tail];grind [ae8,a7d]
 have f:=a 1;have g:(di (i.s.head?.getD 0)).length<=5:=zg;have l:i.s.tail.length<=5:=by have:=h.qQ;simp;omega
 have:=h.word;have:=h.name;have:=h.con;have:=h.qQ;have w0:wl []=0:=rfl;cases c:kT i.word with
 | none=>grind [pM]
 | some sh=>
  rw[Option.getD_some];rcases QR c with⟨-,rfl⟩| ⟨-,rfl⟩| ⟨-,rfl⟩| ⟨-,rfl⟩| ⟨-,rfl⟩| ⟨-,rfl⟩| ⟨-,rfl⟩<;>simp [pM,Df,aJ5,w0]<;>omega
theorem aJ7{i:In}(h:BV i):tM (BR i):=by
 simp_all [BR,tM.words,aoR]
theorem YI{i:In}(h:BV i):(BR i).length<=60:=by
 have:=aoR h;grind [BR,ld,a3M,YH,a3N,List.length_nil]
def aoS{c:Co}(h:AY c):tM (um c):=tM.flat (by grind [aJ7,AY.ins])
structure EC(p:Pd):Prop where
 name:p.name.length<=9
 ar:p.arity<=4
 cls:∀ c∈p.clauses,AY c
 qQ:p.clauses.length<=100
theorem aJ8{p:Pd}(h:EC p):tM (tJ p):=by
 have w0:wl []=0:=rfl;unfold tJ;refine(tM.words ?_).append (tM.flat fun x hx=>?_)
 .have:=h.name;have:=F0 (show p.arity<100000 by have:=h.ar;omega);rw[Df,Df,w0];simp;omega
 .obtain⟨c,a,rfl⟩:=List.mem_map.1 hx;refine(tM.words ?_).append (aoS (h.cls c a));have:=F0 (show c.slots<100000 by have:=(h.cls c a).slots;omega);rw[Df,w0];simp;omega
def aJ9{l:List Pd}{a:Co}(d:∀ p∈l,EC p)(b:AY a)(ht:told<=1000):Uz (rB l a told):=by
 have w0:wl []=0:=rfl;have h:tM (rB l a told):=by
  unfold rB;refine((tM.flat fun x hx=>?_).append (tM.words ?_)).append (aoS b)
  .obtain⟨c,e,rfl⟩:=List.mem_map.1 hx;grind [aJ8]
  .have:=F0 (show a.slots<100000 by have:=b.slots;omega);have:=F0 (show told<100000 by omega);rw[Df,Df,w0];simp;omega
 have:=h [] (fun x hx=>by simp_all [fP]);grind
def aoT{name:Bs}{n:Nat}{c:Co}(d:name.length<=9)(e:n<=4)(f:AY c):∀ {l:List Pd} {N:Nat},N<100->(∀ p∈l,EC p/\p.clauses.length<=N)->∀ p∈rW name n c l,EC p/\p.clauses.length<=N+1
 | [],N,g,_,p,a=>by
  unfold rW at a;rw[a35] at a;subst a;exact⟨⟨d,e,zg,zs⟩,zs⟩
 | q::r,N,g,h,p,a=>by
  unfold rW at a;obtain⟨b,i⟩:=h q a3S;split at a
  .rcases a3T.1 a with rfl | a
   .refine⟨⟨b.name,b.ar,fun x hx=>?_,zg⟩,zg⟩;rcases a3Z.1 hx with hx | hx
    .exact b.cls x hx
    .rw[a35] at hx;subst hx;exact f
   grind
  .rcases a3T.1 a with rfl | a
   .grind
   .exact aoT d e f g zg p a
def aKa{c:Cl}(h:qT c){x:Co}(hx:xt c.args c.body c.vars.length ae=O x):AY x:=
 YF hx h.cl.args h.cl.sz h.cl.body h.bsz h.vs.1
def aoU:∀ (cs:List Cl) (l l':List Pd) (N:Nat),(∀ c∈cs,qT c)->N+cs.length<=100->(∀ p∈l,EC p/\p.clauses.length<=N)->vN cs l=O l'->∀ p∈l',EC p
 | [],l,l',N,_,_,b,h=>by
  simp_all [vN]
 | c::r,l,l',N,d,e,b,h=>by
  unfold vN at h;split at h
  .grind
  .rename_i x hx;simp only[a3N] at e;have a:=d c a3S;exact aoU r _ l' (N+1) zg zo (aoT a.name a.cl.qQ (aKa a hx) zo b) h
def vS:Bs->Nat
 | []=>0
 | c::r=>(if c=115\/c=112 then 1 else 0)+vS r
structure Hw(i:In):Prop where
 wf:vS ((kT i.word).getD [])<=i.s.length
 cn:99∈(kT i.word).getD []->∃ t,i.const=O t/\eB t/\Uq t=G
def WK(k:Mk):Prop:=∀ i∈k.ins,Hw i
theorem WK.same{k k':Mk}(h:WK k)(he:k'.ins=k.ins):WK k':=fun i hi=>h i zg
theorem WK.put{k:Mk}(h:WK k){w nm:Bs}{con:Option Tm}{s:List Nat}(hi:Hw ⟨w,nm,con,s⟩):WK (k.put w nm con s):=fun i hm=>by
 unfold Mk.put at hm;rcases a3Z.1 hm with hm | hm
 .exact h i hm
 grind
def YJ{α:Type}{f:α->α}:∀ {l:List α} {n:Nat} {x:α},x∈l.modify n f->x∈l\/∃ y,l[n]?=O y/\x=f y
 | [],n,x,h=>zg
 | a::l,0,x,h=>by
  grind
 | a::l,n+1,x,h=>by
  rw[a44] at h;rcases a3T.1 h with rfl | h
  .grind
  .rcases YJ h with h | ⟨y,b,e⟩<;>grind
theorem WK.land{k:Mk}(h:WK k){j:Nat}(b:∀ i,k.ins[j]?=O i->i.word=kr\/i.word=jQ):WK (k.land j):=fun i hi=>by
 unfold Mk.land at hi;rcases YJ hi with hi | ⟨y,c,rfl⟩
 .exact h i hi
 .have hw:=b y c;refine⟨?_,fun a=>?_⟩
  .show vS ((kT y.word).getD [])<=1;rcases hw with e | e<;>rw[e]<;>decide
  .have a:99∈(kT y.word).getD []:=a;exfalso;rcases hw with e | e<;>rw[e] at a<;>revert a<;>decide
theorem iQ.at{m a:Mk}{w nm:Bs}{con:Option Tm}{s:List Nat}(h:iQ (m.put w nm con s) a):a.ins[m.ins.length]?=O ⟨w,nm,con,s⟩:=by
 obtain⟨r,h⟩:=h;rw[h];show((m.ins++[_])++r)[m.ins.length]?=_;grind
def iQ.at2{m a:Mk}{w nm:Bs}{con:Option Tm}{s:List Nat}(b:j<m.ins.length)(h:iQ ((m.put w nm con s).land j) a):a.ins[m.ins.length]?=O ⟨w,nm,con,s⟩:=by
 obtain⟨r,h⟩:=h;grind [land,Mk.land,Mk.put,List.getElem?_append_left]
theorem Lp{w nm:Bs}{con:Option Tm}{s:List Nat}(h:vS ((kT w).getD [])<=s.length)(a:99 ∉ (kT w).getD []):Hw ⟨w,nm,con,s⟩:=⟨h,zg⟩
def wfC{name:Bs}{n:Int}{args:List Ex}{w:Bs}{s:Nat}(hx:ij nv (.mk pb name n k args))(b:pb≠118)(c:pb≠99)(h:vS ((kT w).getD [])<=1):Hw ⟨w,[],O (Dc pb name n),[s]⟩:=⟨h,fun _=>by
 unfold ij at hx;obtain⟨o1,o2,d,o4,o5,e,-⟩:=hx;refine⟨_,J,?_⟩;unfold Dc;split
 .exact⟨by grind [eB],J⟩
 .have a:pb=97:=zo;exact⟨by grind [eB],J⟩⟩
mutual
theorem aKb {nv:Nat}:∀ (x:Ex) (s:Nat) (k k':Mk),zy x s k=O k'->WK k->ij nv x->WK k'
 | .mk kind name n v args,s,k,k',h,hk,hx=>by
  have a:=hx;unfold ij at hx;obtain⟨e,f,g,i,j,o,p,b⟩:=hx;unfold zy at h;split at h
  .split at h
   .grind [WK.same]
   .injection h with h;subst h;exact hk.put (Lp (by simp;decide) zd)
  .rename_i c;split at h
   .split at h
    .grind
    .rename_i l m q;exact afa args l _ k' h (by grind [ae5,Lp,a3Q,vS,kT,WK.put,WK.same]) b
   .rename_i d;injection h with h;subst h;exact hk.put (wfC a c d zd)
 termination_by structural x=>x
theorem afa {nv:Nat}:∀ (xs:List Ex) (l:List Nat) (k k':Mk),tG xs l k=O k'->WK k->fj nv xs->WK k'
 | [],l,k,k',h,hk,hx=>by simp_all [tG]
 | x::xs,l,k,k',h,hk,hx=>by
  unfold fj at hx;unfold tG at h;split at h
  .grind
  .rename_i m hm;exact afa xs _ m k' h (aKb x _ k m hm hk hx.1) hx.2
 termination_by structural x=>x
end
mutual
theorem aKc {nv:Nat}:∀ (x:Ex) (s:Nat) (k k':Mk),AV x k=O (s,k')->WK k->ij nv x->WK k'
 | .mk kind name n v args,s,k,k',h,hk,hx=>by
  have d:=hx;unfold ij at hx;obtain⟨i,j,o,p,q,r,t,e⟩:=hx;unfold AV at h;split at h
  .grind
  .rename_i f;split at h
   .rename_i g;split at h
    .grind
    .rename_i s' m hm;injection h with h;injection h with c a;subst a;exact(hk.same (EB hm)).put (wfC d f g zd)
   .split at h
    .grind
    .rename_i l m hm;split at h
     .grind
     .rename_i s' m' b;injection h with h;injection h with c a;subst a;exact((afb args l k m hm hk e).same (EB b)).put (by grind [Lp,a3Q,vS,kT])
 termination_by structural x=>x
theorem afb {nv:Nat}:∀ (xs:List Ex) (l:List Nat) (k k':Mk),tH xs k=O (l,k')->WK k->fj nv xs->WK k'
 | [],l,k,k',h,hk,hx=>by simp_all [tH]
 | x::xs,l,k,k',h,hk,hx=>by
  unfold fj at hx;unfold tH at h;split at h
  .grind
  .rename_i s m hm;split at h
   .grind
   .rename_i l' m' b;injection h with h;injection h with c a;subst a;exact afb xs l' m m' b (aKc x s k m hm hk hx.1) hx.2
 termination_by structural x=>x
end
theorem WK.p1{k:Mk}(h:WK k){w nm:Bs}{s:Nat}(hw:w∈[kZ,kr,jQ,qR,oe,pL]):WK (k.put w nm V [s]):=h.put (by
 simp only[a3T,List.not_mem_nil,or_false] at hw;rcases hw with rfl | rfl | rfl | rfl | rfl | rfl<;>exact Lp (by simp;decide) zd)
mutual
theorem QT {nv M:Nat}:∀ (x:Bd) (cut:Nat) (k k':Mk),lG x cut k=O k'->WK k->eZ nv M x->WK k'
 | .mk kind name args parts,cut,k,k',h,hk,hx=>by
  unfold eZ at hx;obtain⟨e,f,g,n,d,o,p,b⟩:=hx;unfold lG at h;split at h
  .grind [WK.p1]
  split at h
  .exact YK parts cut k k' h hk b
  split at h
  .exact aKd parts cut k k' h hk b
  split at h
  .split at h
   .grind
   .rename_i s m hm;exact aKe parts s cut _ k' h ((hk.same (EB hm)).p1 zs) b
  split at h
  .split at h
   .grind
   .rename_i s m hm;exact aKf parts s _ k' h ((hk.same (EB hm)).p1 zs) b
  .split at h
   .grind
   .rename_i l m hm;injection h with h;subst h;refine(afb args l k m hm hk d).put ?_;split
    .exact Lp (a3Q (show vS ((kT mD).getD [])<=0 by decide) (a33 _)) zd
    .exact Lp (a3Q (show vS ((kT rA).getD [])<=0 by decide) (a33 _)) zd
 termination_by structural x=>x
theorem YK {nv M:Nat}:∀ (xs:List Bd) (cut:Nat) (k k':Mk),tI xs cut k=O k'->WK k->fa nv M xs->WK k'
 | [],cut,k,k',h,hk,hx=>by simp_all [tI]
 | x::xs,cut,k,k',h,hk,hx=>by
  unfold fa at hx;unfold tI at h;split at h
  .grind
  .rename_i m hm;exact YK xs cut m k' h (QT x cut k m hm hk hx.1) hx.2
 termination_by structural x=>x
theorem aKd {nv M:Nat}:∀ (xs:List Bd) (cut:Nat) (k k':Mk),Et xs cut k=O k'->WK k->fa nv M xs->WK k'
 | [],cut,k,k',h,hk,hx=>by unfold Et at h;cases h
 | x::xs,cut,k,k',h,hk,hx=>by
  unfold fa at hx;unfold Et at h;split at h
  .grind
  .rename_i m1 hm;split at h
   .grind
   .rename_i m2 a;injection h with h;subst h;have p1:=AZ x cut _ m1 hm;have w1:=QT x cut _ m1 hm (hk.p1 zs) hx.1;have hlt:k.ins.length<m1.ins.length:=by have:=p1.len;grind [Mk.put]
    have w2:WK ((m1.put jQ [] V [0]).land k.ins.length):=(w1.p1 zs).land fun i hi=>by
     rw[(p1.trans (iQ.put m1 jQ [] V [0])).at] at hi;grind
    have p2:=QS xs cut _ m2 a;exact(YK xs cut _ m2 a w2 hx.2).land fun i hi=>by
     rw[p2.at2 hlt] at hi;grind
 termination_by structural x=>x
theorem aKe {nv M:Nat}:∀ (xs:List Bd) (s cut:Nat) (k k':Mk),Eu xs s cut k=O k'->WK k->fa nv M xs->WK k'
 | [],s,cut,k,k',h,hk,hx=>by simp_all [Eu]
 | x::xs,s,cut,k,k',h,hk,hx=>by
  unfold fa at hx;unfold Eu at h;split at h
  .grind
  .rename_i m1 hm;have p1:=(AZ x s _ m1 hm).trans (iQ.put m1 kZ [] V [s]);exact aKg xs cut _ _ k' h ((QT x s _ m1 hm (hk.p1 zs) hx.1).p1 zs) hx.2 (Nat.lt_of_lt_of_le (by grind [Mk.put]) p1.len) p1.at
 termination_by structural x=>x
theorem aKg {nv M:Nat}:∀ (xs:List Bd) (cut j:Nat) (k k':Mk),FV xs cut j k=O k'->WK k->fa nv M xs->j<k.ins.length->k.ins[j]?=O ⟨kr,[],V,[0]⟩->WK k'
 | [],cut,j,k,k',h,hk,hx,c,ht=>by unfold FV at h;cases h
 | x::xs,cut,j,k,k',h,hk,hx,c,ht=>by
  unfold fa at hx;unfold FV at h;split at h
  .grind
  .rename_i m1 hm;split at h
   .grind
   .rename_i m2 a;injection h with h;subst h;have p1:=AZ x cut _ m1 hm;have w1:=QT x cut _ m1 hm hk hx.1;have hlt:j<m1.ins.length:=Nat.lt_of_lt_of_le c p1.len;have q:(m1.put jQ [] V [0]).ins[j]?=O ⟨kr,[],V,[0]⟩:=by
     obtain⟨r,hr⟩:=p1.trans (iQ.put m1 jQ [] V [0]);grind
    have w2:WK ((m1.put jQ [] V [0]).land j):=(w1.p1 zs).land fun i hi=>by
     grind
    have p2:=QS xs cut _ m2 a;exact(YK xs cut _ m2 a w2 hx.2).land fun i hi=>by
     rw[p2.at2 hlt] at hi;grind
 termination_by structural x=>x
theorem aKf {nv M:Nat}:∀ (xs:List Bd) (s:Nat) (k k':Mk),Ev xs s k=O k'->WK k->fa nv M xs->WK k'
 | [],s,k,k',h,hk,hx=>by unfold Ev at h;cases h
 | x::xs,s,k,k',h,hk,hx=>by
  unfold fa at hx;unfold Ev at h;split at h
  .grind
  .rename_i m1 hm;injection h with h;subst h;have p1:=((AZ x s _ m1 hm).trans (iQ.put m1 kZ [] V [s])).trans (iQ.put _ mD [102,97,105,108] V []);exact(((QT x s _ m1 hm (hk.p1 zs) hx.1).p1 (s:=s) (w:=kZ) (nm:=[]) zs).put (Lp (w:=mD) (nm:=[102,97,105,108]) (con:=V) (s:=[]) zd zd)).land fun i hi=>by
    rw[p1.at] at hi;grind
 termination_by structural x=>x
end
theorem aoW:∀ (n j:Nat) (k k':Mk),k.news j n=O k'->WK k->WK k'
 | 0,j,k,k',h,hk=>by simp_all [Mk.news]
 | n+1,j,k,k',h,hk=>by
  unfold Mk.news at h;split at h
  .grind
  .rename_i s m hm;have a:WK { m with vars:=m.vars.set j (O s) }  :=(by grind [WK.same,EB]);exact aoW n (j+1) _ k' h (a.p1 zs)
def afc:∀ (n j:Nat) (k k':Mk),k.rest j n=O k'->WK k->WK k'
 | 0,j,k,k',h,hk=>by simp_all [Mk.rest]
 | n+1,j,k,k',h,hk=>by
  unfold Mk.rest at h;split at h
  .exact afc n (j+1) k k' h hk
  .split at h
   .grind
   .rename_i s m hm;have a:WK { m with vars:=m.vars.set j (O s) }  :=(by grind [WK.same,EB]);exact afc n (j+1) _ k' h (a.p1 zs)
def aoX{args:List Ex}{body:Bd}{q:Bool}{c:Co}(h:xt args body nv q=O c)(hx:fj nv args)(b:eZ nv M body):∀ i∈c.ins,Hw i:=by
 unfold xt at h;split at h
 .grind
 .rename_i a m d;have e:WK (⟨0,[],List.replicate nv V⟩:Mk):=fun i hi=>absurd hi zs;have g1:WK m:=e.same (ae5 d);split at h
  .grind
  .rename_i m2 r;have f:WK m2:=by
    grind [aoW]
   split at h
   .grind
   .rename_i cut m3 g;split at h
    .grind
    .rename_i m4 j;have k:=afa args a _ m4 j ((f.same (EB g)).p1 zs) hx;split at h
     .grind
     .rename_i m5 l;have n:=afc nv 0 m4 m5 l k;split at h
      .grind
      .rename_i m6 o;have p:=QT body cut m5 m6 o n b;injection h with h;subst h;refine p.put (Lp ?_ ?_)
       .split<;>exact Nat.le_of_eq zd
       .split<;>decide
theorem aoY{name:Bs}{n:Nat}{c:Co}:∀ {l:List Pd} {p:Pd},p∈rW name n c l->∀ x∈p.clauses,x=c\/∃ q∈l,x∈q.clauses
 | [],p,a,x,hx=>by
  simp_all [rW,a35]
 | q::r,p,a,x,hx=>by
  unfold rW at a;split at a
  .grind
  .rcases a3T.1 a with rfl | a
   .grind
   .rcases aoY a x hx with h | ⟨y,b,d⟩<;>grind
def aoZ{Q:Co->Prop}:∀ {cs:List Cl} {l l':List Pd},(∀ c∈cs,∀ x,xt c.args c.body c.vars.length ae=O x->Q x)->(∀ p∈l,∀ x∈p.clauses,Q x)->vN cs l=O l'->∀ p∈l',∀ x∈p.clauses,Q x
 | [],l,l',_,a,h=>by
  grind [vN]
 | c::r,l,l',b,a,h=>by
  unfold vN at h;split at h
  .grind
  .rename_i y d;refine aoZ zg (fun p e x hx=>?_) h;grind [aoY]
def ED:List Pd->Nat
 | []=>0
 | p::r=>p.clauses.length+ED r
theorem ao0{name:Bs}{n:Nat}{c:Co}:∀ (l:List Pd),ED (rW name n c l)=ED l+1/\(rW name n c l).length<=l.length+1
 | []=>⟨J,by simp [rW]⟩
 | q::r=>by
  unfold rW;split
  .grind [ED,a3M,List.length_singleton]
  .obtain⟨a,b⟩:=ao0 (name:=name) (n:=n) (c:=c) r;grind [ED,a3N]
def ao1:∀ {cs:List Cl} {l l':List Pd},vN cs l=O l'->ED l'=ED l+cs.length/\l'.length<=l.length+cs.length
 | [],l,l',h=>by
  unfold vN at h;injection h with h;subst h;exact⟨J,zs⟩
 | c::r,l,l',h=>by
  unfold vN at h;split at h
  .grind
  .obtain⟨a,b⟩:=ao1 h;grind [ao0,a3N]
def afd{first:Bs}{l:List Bs}(h:first.length+wl l<60):(ld first l).length<=60:=by
 grind [ld,a3M,YH,a3N,List.length_nil]
def ao4{c:Co}(h:AY c):(um c).length<=1800000:=by
 have key:∀ l:List In,(∀ i∈l,BV i)->((l.map BR).flatten).length<=60*l.length:=by
  intro l;induction l with
  | nil=>grind
  | cons a r ih=>
   grind [YI,a3S,a4A,List.flatten_cons,a3M,a3N]
 have:=key c.ins h.ins;have:=h.len;unfold um;omega
theorem aKi{p:Pd}(h:EC p):(tJ p).length<=60+1800060*p.clauses.length:=by
 have w0:wl []=0:=rfl;have b:(ld [112,114,101,100] [p.name,di p.arity]).length<=60:=afd (by
  have:=h.name;have:=F0 (show p.arity<100000 by have:=h.ar;omega);rw[Df,Df,w0];simp;omega)
 have key:∀ l:List Co,(∀ c∈l,AY c)->((l.map fun c=>ld [99,108,97,117,115,101] [di c.slots]++um c).flatten).length<=1800060*l.length:=by
  intro l;induction l with
  | nil=>grind
  | cons a r ih=>
   intro h;have b:=ao4 (h a a3S);have d:(ld [99,108,97,117,115,101] [di a.slots]).length<=60:=afd (by
    have:=F0 (show a.slots<100000 by have:=(h a a3S).slots;omega);rw[Df,w0];simp;omega)
   grind
 grind [tJ,a3M,EC.cls]
def aKj{l:List Pd}{b:Co}(d:∀ p∈l,EC p)(c:AY b)(ht:told<=1000):(rB l b told).length<=60*l.length+1800060*ED l+1800060:=by
 have w0:wl []=0:=rfl;have key:∀ l:List Pd,(∀ p∈l,EC p)->((l.map tJ).flatten).length<=60*l.length+1800060*ED l:=by
  intro l;induction l with
  | nil=>grind
  | cons a r ih=>
   grind [aKi,a3S,a4A,List.flatten_cons,a3M,a3N,ED]
 have e:=key l d;have f:=ao4 c;have g:(ld [113,117,101,114,121] [di b.slots,di told]).length<=60:=afd (by
  have:=F0 (show b.slots<100000 by have:=c.slots;omega);have:=F0 (show told<100000 by omega);rw[Df,Df,w0];simp;omega)
 unfold rB;rw[a3M,a3M];omega
def ao5{cs:List Cl}{l:List Pd}(a:∀ c∈cs,qT c)(f:cs.length<=40)(h:vN cs []=O l):(∀ p∈l,EC p)/\(∀ p∈l,∀ c∈p.clauses,AY c/\∀ i∈c.ins,Hw i)/\l.length<=40/\ED l<=40:=by
 have b:=aoU cs [] l 0 a zo zg h;obtain⟨g,j⟩:=ao1 h;refine⟨b,fun p d c e=>⟨(by grind [EC.cls]),?_⟩,zg,by simp_all [ED]⟩;exact aoZ (Q:=fun c=>∀ i∈c.ins,Hw i) (fun c hm x hx=>aoX hx (a c hm).cl.args (a c hm).cl.body) zg h p d c e
mutual
def Hx:Tm->Nat
 | .atom _=>1
 | .int _=>1
 | .var _=>1
 | .comp _ args=>Lq args+1
 termination_by structural t=>t
def Lq:List Tm->Nat
 | []=>0
 | t::ts=>Hx t+Lq ts
 termination_by structural t=>t
end
structure aX4(f:Nat):Prop where
 tm:∀ t least s,4*Hx t<=f->Hx t<=s.fuel->∃ r,lF [] f t least s=O (O r)/\s.fuel<=r.fuel+Hx t/\r.fuel<=s.fuel
 comp:∀ name args least s,4*Lq args+3<=f->Lq args<=s.fuel->∃ r,zm [] f name args least s=O (O r)/\s.fuel<=r.fuel+Lq args/\r.fuel<=s.fuel
 args:∀ c l s,4*Lq l+1<=f->Lq l<=s.fuel->∃ r,tE [] f c l s=O (O r)/\s.fuel<=r.fuel+Lq l/\r.fuel<=s.fuel
 list:∀ c a b s,4*(Hx a+Hx b)+1<=f->Hx a+Hx b<=s.fuel->∃ r,vL [] f c a b s=O (O r)/\s.fuel<=r.fuel+(Hx a+Hx b)/\r.fuel<=s.fuel
structure NeW(tr:Tr)(f:Nat):Prop where
 tm:∀ t least s r,eB t->lF tr f t least s=O (O r)->s.out.length<r.out.length
 comp:∀ name args least s r,jF args->zm tr f name args least s=O (O r)->s.out.length<r.out.length
 args:∀ c l s r,jF l->tE tr f c l s=O (O r)->s.out.length<=r.out.length
 list:∀ c a b s r,eB a->eB b->vL tr f c a b s=O (O r)->s.out.length<r.out.length
theorem ao6(n:Nat):0<(di n).length:=by
 grind [di,tz]
def aKk(n:Int):0<(jc n).length:=by
 grind [jc,ao6]
inductive Item where
 | wd (s:Bs)
 | sg (s:Bs)
 | md
def Item.text:Item->Bs
 | .wd s=>s
 | .sg s=>s
 | .md=>[32,109,111,100,32]
def aKl(l:List Item):Bs:=(l.map Item.text).flatten
def Item.tok:Item->Nat->Tok
 | .wd s,p=>⟨mP s,s,p⟩
 | .sg s,p=>⟨4,s,p⟩
 | .md,p=>⟨1,[109,111,100],p+1⟩
def Oj:List Bs:=[[40],[41],[91],[93],[44],[124],[43],[45],[42],[47,47]]
def F2(s:Bs):Prop:=mP s≠0/\∀ c∈s,cls c≠0
def Item.ok:Item->Prop
 | .wd s=>F2 s
 | .sg s=>s∈Oj
 | .md=>True
def Item.isW:Item->Bool
 | .wd _=>G
 | _=>ae
def sep:Bool->List Item->Prop
 | _,[]=>True
 | p,i::r=>¬ (p=G/\i.isW=G)/\sep i.isW r
def aKm{s rest:Bs}(a:s∈Oj)(hr:rest.head?≠O 62):nL.find? (fun x=>x.isPrefixOf (s++rest))=O s:=by
 simp only[Oj,a3T,List.not_mem_nil,or_false] at a;rcases a with rfl | rfl | rfl | rfl | rfl | rfl | rfl | rfl | rfl | rfl<;>cases rest with
  | nil=>decide
  | cons d r=>
   have:¬ d=62:=zg;have:¬ 62=d:=zg;have b:(62 == d)=false:=by simpa using this
   simp [nL,List.find?,List.isPrefixOf,b]
def At(T:List Tok):Nat->List Item->Prop
 | _,[]=>True
 | k,i::r=>((tk T k).kind=(i.tok 0).kind/\(tk T k).text=(i.tok 0).text)/\At T (k+1) r
end P
