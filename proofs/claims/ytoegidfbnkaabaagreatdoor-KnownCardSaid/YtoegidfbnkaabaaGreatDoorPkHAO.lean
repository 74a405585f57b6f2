/- A part of one proof (PureRp, PureGk, PureGp, PureLn, PureGw, PureTl). -/
import Derived.Test.YtoegidfbnkaabaaGreatDoorPkHAN
set_option linter.all false
set_option maxRecDepth 100000
set_option maxHeartbeats 8000000
open Option renaming some → O, none → V
open Bool renaming true → A, false → G
open Nat renaming le_refl → a0d, le_trans → a0f, zero_le → a0r, le_succ_of_le → a2G
open List renaming length_append → a0i, length_cons → a0j, mem_cons → a0n, mem_cons_self → a0p, mem_append → a0q, mem_singleton → a0x, mem_cons_of_mem → a03, mem_or_eq_of_mem_set → a1j, modify_succ_cons → a1m, mem_of_getLast? → a1r, mem_of_mem_tail → a3A
namespace Go.Proofs.YtoegidfbnkaabaaGreatDoor
variable{M N j k n nv pb told:Nat}
namespace P
theorem Cg{w:Bs}{s:Nat}(h:kh w n=O s):s<n:=by
 grind [kh]
def acS{n:Nat}:∀ {ws:List Bs} {l:List Nat},xN n ws=O l->l.length=ws.length/\∀ k∈l,k<n
 | [],l,h=>by
  unfold xN at h;injection h with h;subst h;exact⟨J,fun _ h=>by cases h⟩
 | w::r,l,h=>by
  unfold xN at h;split at h
  .rename_i s l' b a;injection h with h;subst h;obtain⟨g1,g2⟩:=acS a;grind [Cg]
  grind
theorem SL{w t:Bs}(h:pD w=O t):t=w/\w.length<=10/\w≠[]:=by
 unfold pD at h;grind
def WT{w:Bs}{z:Int}(a:DM w=O z):kV z=w/\-9223372036854775808<=z/\z<=9223372036854775807:=by
 unfold DM at a;grind
def aHI{w:Bs}{t:Tm}(h:DN w=O t):ef t/\SG t=true:=by
 unfold DN at h;split at h
 .rename_i z b;injection h with h;subst h;have c:=(WT b).2;exact⟨by simp_all [ef],J⟩
 .cases a:pD w with
  | none=>grind
  | some x=>
   rw[a] at h;injection h with h;subst h;obtain⟨rfl,c,d⟩:=SL a;exact⟨by grind [ef],J⟩
def Pf{w sh:Bs}(h:mL w=O sh) :
  ((w=ug\/w=vh\/w=qO\/w=kW)/\sh=[115])\/((w=E3\/w=DK)/\sh=[115,99])\/(w=E5/\sh=[115,115])\/((w=Ir\/w=Is)/\sh=[115,110,42])\/((w=nk\/w=Ao)/\sh=[110,42])\/((w=kx\/w=jP)/\sh=[112])\/((w=MT\/w=MU)/\sh=[]):=by
 unfold mL at h;split at h
 .grind
 split at h
 .rename_i a;injection h with h;exact .inr (.inl ⟨a,h.symm⟩)
 split at h
 .rename_i a;injection h with h;exact .inr (.inr (.inl ⟨a,h.symm⟩))
 split at h
 .rename_i a;injection h with h;exact .inr (.inr (.inr (.inl ⟨a,h.symm⟩)))
 split at h
 .grind
 split at h
 .grind
 split at h
 .rename_i a;injection h with h;exact .inr (.inr (.inr (.inr (.inr (.inr ⟨a,h.symm⟩)))))
 grind
theorem um.of{w nm:Bs}{con:Option Tm}{s:List Nat}(h:w∈[ug,E3,DK,E5,Ir,Is,nk,vh,qO,kW,kx,jP,Ao,MT,MU] /\
  (w≠kx->w≠jP->∀ k∈s,k<n)/\(w=ug\/w=E3\/w=DK\/w=vh\/w=qO\/w=kW\/w=kx\/w=jP->s.length=1)/\(w=E5->s.length=2)/\(w=Ir\/w=Is->2<=s.length) /\
  (w=nk->jK nm=s.length)/\(w=E3\/w=DK->∃ t,con=O t/\ef t/\SG t=A)/\nm.length<=20/\s.length<=60/\(∀ k∈s,k<100000)):um n ⟨w,nm,con,s⟩:=
 ⟨h.1,h.2.1,h.2.2.1,h.2.2.2.1,h.2.2.2.2.1,h.2.2.2.2.2.1,h.2.2.2.2.2.2.1,h.2.2.2.2.2.2.2.1,h.2.2.2.2.2.2.2.2.1,h.2.2.2.2.2.2.2.2.2⟩
def amq{ws:List Bs}{i:In}(x:n<=64)(y:ws.length<=60)(h:vl n ws=O i):um n i:=by
 unfold vl at h;cases ws with
 | nil=>grind
 | cons w ws=>
  simp only at h;cases o:mL w with
  | none=>grind
  | some sh=>
   rw[o] at h;simp only at h;have r:ws.length<=59:=zg;split at h
   .rename_i z c;split at h
    .grind
    .rename_i p;injection h with h;subst h;simp only[not_or,not_and,Nat.not_lt,ne_eq,Decidable.not_not] at p;obtain⟨j,m⟩:=p;rcases Pf o with⟨hw,rfl⟩| ⟨hw,rfl⟩| ⟨hw,rfl⟩| ⟨hw,rfl⟩| ⟨hw,rfl⟩| ⟨hw,rfl⟩| ⟨hw,rfl⟩
     .cases ws with
      | nil=>grind [mM]
      | cons a ws=>
       simp [mM] at c;cases d:kh a n with
       | none=>grind
       | some s=>
        rw[d] at c;simp at c;obtain⟨rfl,rfl⟩:=c;have:=Cg d;rcases hw with rfl | rfl | rfl | rfl<;>exact um.of ⟨zd,fun _ _ k hk=>by simp at hk;omega,fun _=>rfl,fun h=>absurd h zd,fun h=>absurd h zd,fun h=>absurd h zd,fun h=>absurd h zd,zs,zs,fun k hk=>by simp at hk;omega⟩
     .cases ws with
      | nil=>grind [mM]
      | cons a ws=>
       simp [mM] at c;cases d:kh a n with
       | none=>grind
       | some s=>
        rw[d] at c;simp at c;cases ws with
        | nil=>grind
        | cons b ws=>
         simp at c;cases e:DN b with
         | none=>grind
         | some t=>
          rw[e] at c;simp at c;obtain⟨rfl,rfl⟩:=c;have:=Cg d;obtain⟨u,c2⟩:=aHI e;rcases hw with rfl | rfl<;>exact um.of ⟨zd,fun _ _ k hk=>by simp at hk;omega,fun _=>rfl,fun h=>absurd h zd,fun h=>absurd h zd,fun h=>absurd h zd,fun _=>⟨t,J,u,c2⟩,zs,zs,fun k hk=>by simp at hk;omega⟩
     .cases ws with
      | nil=>grind [mM]
      | cons a ws=>
       simp [mM] at c;cases d:kh a n with
       | none=>grind
       | some s=>
        rw[d] at c;simp at c;cases ws with
        | nil=>grind
        | cons b ws=>
         simp at c;cases e:kh b n with
         | none=>grind
         | some t=>
          rw[e] at c;simp at c;obtain⟨rfl,rfl⟩:=c;have:=Cg d;have:=Cg e;subst hw;exact um.of ⟨zg,fun _ _ k hk=>zg,fun h=>absurd h zd,fun _=>rfl,fun h=>absurd h zd,fun h=>absurd h zd,fun h=>absurd h zd,zs,zs,fun k hk=>zg⟩
     .cases ws with
      | nil=>grind [mM]
      | cons a ws=>
       simp [mM] at c;cases d:kh a n with
       | none=>grind
       | some s=>
        rw[d] at c;simp at c;cases ws with
        | nil=>grind
        | cons b ws=>
         simp at c;cases e:pD b with
         | none=>grind
         | some t=>
          rw[e] at c;simp at c;cases f:xN n ws with
          | none=>grind
          | some l=>
           rw[f] at c;simp at c;subst c;have:=Cg d;obtain⟨rfl,nl,-⟩:=SL e;obtain⟨g1,g2⟩:=acS f;have g:(s::l).length<=60:=zg;have q:∀ k∈s::l,k<n:=fun k hk=>by
            grind
           rcases hw with rfl | rfl<;>exact um.of ⟨zd,fun _ _=>q,fun h=>absurd h zd,fun h=>absurd h zd,fun _=>j zd,fun h=>absurd h zd,fun h=>absurd h zd,zo,g,fun k hk=>by have:=q k hk;omega⟩
     .cases ws with
      | nil=>grind [mM]
      | cons b ws=>
       simp [mM] at c;cases e:pD b with
       | none=>grind
       | some t=>
        rw[e] at c;simp at c;cases f:xN n ws with
        | none=>grind
        | some l=>
         rw[f] at c;simp at c;subst c;obtain⟨rfl,nl,-⟩:=SL e;obtain⟨g1,g2⟩:=acS f;have g:l.length<=60:=zg;rcases hw with rfl | rfl
         .exact um.of ⟨by simp_all,fun _ _=>g2,fun h=>absurd h zd,fun h=>absurd h zd,fun h=>absurd h zd,fun _=>m J,fun h=>absurd h zd,zo,g,fun k hk=>zg⟩
         .exact um.of ⟨by simp_all,fun _ _=>g2,fun h=>absurd h zd,fun h=>absurd h zd,fun h=>absurd h zd,fun h=>absurd h zd,fun h=>absurd h zd,zo,g,fun k hk=>zg⟩
     .cases ws with
      | nil=>grind [mM]
      | cons a ws=>
       simp [mM] at c;cases d:kh a 10000 with
       | none=>grind
       | some s=>
        rw[d] at c;simp at c;obtain⟨rfl,rfl⟩:=c;have:=Cg d;rcases hw with rfl | rfl
        .exact um.of ⟨by simp_all,fun h=>absurd J h,fun _=>rfl,fun h=>absurd h zd,fun h=>absurd h zd,fun h=>absurd h zd,fun h=>absurd h zd,zs,zs,fun k hk=>zg⟩
        .exact um.of ⟨by simp_all,fun _ h=>absurd J h,fun _=>rfl,fun h=>absurd h zd,fun h=>absurd h zd,fun h=>absurd h zd,fun h=>absurd h zd,zs,zs,fun k hk=>zg⟩
     .simp [mM] at c;obtain⟨rfl,rfl⟩:=c;rcases hw with rfl | rfl<;>exact um.of ⟨zd,fun _ _ k hk=>by simp at hk,fun h=>absurd h zd,fun h=>absurd h zd,fun h=>absurd h zd,fun h=>absurd h zd,fun h=>absurd h zd,zs,zs,fun k hk=>by simp at hk⟩
   grind
def Kp(N:Nat)(c:Co):Prop:=(∀ i∈c.ins,um c.slots i)/\c.slots<=64/\c.ins.length<=N
structure Kq(N:Nat)(p:Pv):Prop where
 pd:∀ q∈p.dI,q.clauses.length<=N/\∀ c∈q.clauses,Kp N c
 ask:∀ c n,p.ask=O (c,n)->Kp N c/\n<=c.slots
theorem Kp.up{c:Co}(h:Kp N c):Kp (N+1) c:=⟨h.1,h.2.1,a2G h.2.2⟩
def amr{l:List Co}{f:Co->Co}{c:Co}(h:c∈Gz l f):c∈l\/∃ x,l.getLast?=O x/\c=f x:=by
 unfold Gz at h;split at h
 .grind
 .rename_i x r hr;have a:l=(x::r).reverse:=zg;grind
def ams(l:List Co)(f:Co->Co):(Gz l f).length=l.length:=by
 unfold Gz;split<;>simp_all
def acU{l:List Pd}{f:Pd->Pd}{c:Pd}(h:c∈Ko l f):c∈l\/∃ x,l.getLast?=O x/\c=f x:=by
 unfold Ko at h;split at h
 .grind
 .rename_i x r hr;have a:l=(x::r).reverse:=zg;grind
theorem Kp.put{c:Co}{i:In}(h:Kp N c)(a:um c.slots i):Kp (N+1) { c with ins:=c.ins++[i] }:=
 ⟨fun x hx=>by
  rcases a0q.1 hx with hx | hx
  .exact h.1 x hx
  grind,h.2.1,by simp;exact h.2.2⟩
theorem Kq.up{N:Nat}{p:Pv}(h:Kq N p):Kq (N+1) p:=
 ⟨fun q b=>⟨a2G (h.pd q b).1,fun c a=>((h.pd q b).2 c a).up⟩,fun c n a=>⟨(h.ask c n a).1.up,(h.ask c n a).2⟩⟩
theorem aHL{ws:List Bs}{p s:Pv}(h:Kq N p)(t:ws.length<=60)(hr:oB ws p=O s):Kq (N+1) s:=by
 unfold oB at hr;split at hr
 .split at hr
  .rename_i a b u k w;split at hr
   .grind
   .injection hr with hr;subst hr;refine⟨fun q e=>?_,fun c n d=>zg⟩;rcases a0q.1 e with e | e
    .exact h.up.pd q e
    grind
  grind
 .split at hr
  .rename_i a u k;split at hr
   .grind
   .injection hr with hr;subst hr;refine⟨fun q e=>?_,fun c n d=>zg⟩;rcases acU e with e | ⟨x,hx,rfl⟩
    .exact h.up.pd q e
    .have g:=a1r hx;refine⟨by simp;exact(h.pd x g).1,fun c d=>?_⟩;rcases a0q.1 d with d | d
     .exact((h.pd x g).2 c d).up
     .rw[a0x] at d;subst d;exact⟨fun i f=>(by cases f),by have:=Cg k;grind,a0r _⟩
  grind
 .split at hr
  .rename_i a u k;split at hr
   .rename_i b w;injection hr with hr;subst hr;refine⟨fun q e=>h.up.pd q e,fun c n d=>?_⟩;have d:O ((⟨a,[]⟩:Co),b)=O (c,n):=d;injection d with d;injection d with m o;subst m o;have:=Cg k;have:=Cg w;exact⟨⟨fun i f=>(by cases f),zg,a0r _⟩,zg⟩
   grind
  grind
 .split at hr
  .grind
  .split at hr
   .rename_i c n B;split at hr
    .rename_i i f;injection hr with hr;subst hr;obtain⟨g1,g2⟩:=h.ask c n B;refine⟨fun q e=>h.up.pd q e,fun C D d=>?_⟩;have d:O ({ c with ins:=c.ins++[i] },n)=O (C,D):=d;injection d with d;injection d with m o;subst m o;exact⟨g1.put (amq g1.2.1 t f),g2⟩
    grind
   .rename_i B;split at hr
    .split at hr
     .rename_i c d;split at hr
      .rename_i i f;injection hr with hr;subst hr;refine⟨fun q e=>?_,fun c n d=>zg⟩;rcases acU e with e | ⟨x,hx,rfl⟩
       .exact h.up.pd q e
       .have g:=a1r hx;unfold oB.Pe at d;rw[hx] at d;refine⟨by show(Gz x.clauses _).length<=_;rw[ams];exact a2G (h.pd x g).1,fun y r=>?_⟩;rcases amr r with r | ⟨z,l,rfl⟩
        .exact((h.pd x g).2 y r).up
        .have d:x.clauses.getLast?=O c:=d;rw[d] at l;injection l with l;subst l;have j:=(h.pd x g).2 c (a1r d);exact j.put (amq j.2.1 t f)
      grind
     grind
    grind
theorem SM(c:UInt8):∀ (s:Bs),(gP c s).length<=s.length+1/\gP c s≠[]
 | []=>(by simp_all [gP])
 | x::r=>by
  obtain⟨a,b⟩:=SM c r;grind [gP,a0j]
def amu:∀ (ls:List Bs) (k N:Nat) (p a:Pv),Kq N p->(∀ l∈ls,l.length<60)->oP ls k p = .ok a->Kq (N+ls.length) a
 | [],k,N,p,a,h,b,hr=>by
  simp_all [oP]
 | [r],k,N,p,a,h,b,hr=>by
  unfold oP at hr;split at hr
  .simp_all [Kq.up]
  grind
 | r::c::rs,k,N,p,a,h,b,hr=>by
  unfold oP at hr
  .split at hr
   .grind
   .rename_i q e;have hlen:=(SM 32 r).1;have d:=b r a0p;have:=amu (c::rs) (k+1) (N+1) q a (by grind [aHL]) zg hr;grind
def amv{s:Bs}{dI:List Pd}{ask:Co}(h:qo s = .ok (dI,ask,told))(e:∀ l∈gP 10 s,l.length<60):(∀ p∈dI,al9 p)/\y6 ask/\told<=ask.slots:=by
 unfold qo at h;split at h
 .grind
 .rename_i m;have hlen:=(SM 10 s).1;split at h
  .grind
  .rename_i p f;have a:=amu _ _ 0 _ _ ⟨zg,zg⟩ e f;rw[Nat.zero_add] at a;split at h
   .rename_i c n g;injection h with h;injection h with i h;injection h with j k;subst i j k;obtain⟨g1,g2⟩:=a.ask c n g;exact⟨fun q b=>⟨fun c d=>⟨((a.pd q b).2 c d).1,((a.pd q b).2 c d).2.1,by have:=((a.pd q b).2 c d).2.2;omega⟩,by have:=(a.pd q b).1;omega⟩,⟨g1.1,g1.2.1,by have:=g1.2.2;omega⟩,g2⟩
   grind
structure DO(i:In):Prop where
 word:i.word.length<=5
 name:i.name.length<=9
 con:(Cf i.const).length<=10
 ql:i.s.length<=5
 small:∀ k∈i.s,k<100000
structure GK(N:Nat)(k:Mk):Prop where
 len:k.ins.length<=N
 ins:∀ i∈k.ins,DO i
 slots:k.slots<=64
 vars:∀ v∈k.vars,∀ t,v=O t->t<64
theorem GK.up{k:Mk}(h:GK N k)(a:N<=pb):GK pb k:=⟨a0f h.len a,h.ins,h.slots,h.vars⟩
theorem GK.put{N:Nat}{k:Mk}(h:GK N k){w nm:Bs}{con:Option Tm}{s:List Nat}(a:DO ⟨w,nm,con,s⟩):GK (N+1) (k.put w nm con s):=
 ⟨by simp_all [Mk.put,len],(by grind [Mk.put,a0x,ins]),h.slots,h.vars⟩
theorem GK.slot{N:Nat}{k k':Mk}{s:Nat}(h:GK N k)(a:k.slot=O (s,k')):GK N k'/\s<64/\k'.vars=k.vars/\k'.ins=k.ins/\k'.slots=k.slots+1/\s=k.slots:=by
 unfold Mk.slot at a;split at a
 .grind
 .injection a with a;injection a with b c;subst b c;exact⟨⟨h.len,h.ins,zg,h.vars⟩,zo,J,J,J,J⟩
theorem GK.rY{N:Nat}:∀ {n:Nat} {k k':Mk} {l:List Nat},GK N k->k.rY n=O (l,k')->GK N k'/\l.length=n/\(∀ s∈l,s<64)/\k'.vars=k.vars
 | 0,k,k',l,h,a=>by
  unfold Mk.rY at a;injection a with a;injection a with b c;subst b c;exact⟨h,J,(fun _ hm=>absurd hm zs),J⟩
 | n+1,k,k',l,h,a=>by
  unfold Mk.rY at a;split at a
  .grind
  .rename_i s m b;split at a
   .grind
   .rename_i l' m' c;injection a with a;injection a with d e;subst d e;obtain⟨g1,g2,g3,-⟩:=h.slot b;obtain⟨q1,q2,q3,q4⟩:=g1.rY c;grind
def amw{name:Bs}{n:Int}{args:List Ex}(h:gO nv (.mk pb name n k args)):(Cf (O (Ce pb name n))).length<=10:=by
 unfold gO at h;obtain⟨a,b,-⟩:=h;unfold Ce;split
 .show(kV n).length<=10;unfold kV;have:(gj n.natAbs).length<=9:=aco n.natAbs 8 zo _ zo;grind
 .show name.length<=10;omega
mutual
theorem acV {nv:Nat}:∀ (x:Ex) (s N:Nat) (k k':Mk),yY x s k=O k'->GK N k->s<64->gO nv x->GK (N+gH x) k'/\k'.vars.length=k.vars.length
 | .mk kind name n v args,s,N,k,k',h,hk,d,hx=>by
  have e:=hx;unfold gO at hx;obtain⟨f,j,o,p,q,u,z,g⟩:=hx;unfold yY at h;split at h
  .split at h
   .injection h with h;subst h;refine⟨(⟨hk.len,hk.ins,hk.slots,fun y b t ht=>?_⟩:GK N { k with vars:=k.vars.set v (O s) }).up (Nat.le_add_right _ _),zs⟩;rcases a1j b with b | b
    .exact hk.vars y b t ht
    grind
   .rename_i t ht;injection h with h;subst h;have B:t<64:=by
     have:O t∈k.vars:=by
      grind
     exact hk.vars _ this t J
    exact⟨(hk.put ⟨zs,zs,by simp [Cf],zs,fun x hx=>zg⟩).up (by simp [gH]),J⟩
  .split at h
   .split at h
    .grind
    .rename_i l m c;obtain⟨g1,g2,g3,g4⟩:=hk.rY c;have i:=g1.put (w:=[115,112,108,105,116]) (nm:=name) (con:=V) (s:=s::l) ⟨zs,f,by simp [Cf],zg,fun x hx=>by
      grind⟩
     obtain⟨q1,q2⟩:=acW args l (N+1) _ k' h i g3 g;exact⟨q1.up (by grind [gH]),q2.trans (congrArg List.length g4)⟩
   .injection h with h;subst h;exact⟨(hk.put ⟨zs,zs,amw e,zs,fun x hx=>zg⟩).up (by simp [gH]),J⟩
 termination_by structural x=>x
theorem acW {nv:Nat}:∀ (xs:List Ex) (l:List Nat) (N:Nat) (k k':Mk),rZ xs l k=O k'->GK N k->(∀ s∈l,s<64)->eZ nv xs->GK (N+ft xs) k'/\k'.vars.length=k.vars.length
 | [],l,N,k,k',h,hk,c,hx=>by
  unfold rZ at h;injection h with h;subst h;exact⟨hk,J⟩
 | x::xs,l,N,k,k',h,hk,c,hx=>by
  unfold eZ at hx;unfold rZ at h;split at h
  .grind
  .rename_i m hm;have d:l.headD 0<64:=by
    cases l with
    | nil=>simp
    | cons a r=>simp_all
   obtain⟨g1,g2⟩:=acV x _ N k m hm hk d hx.1;obtain⟨q1,q2⟩:=acW xs _ _ m k' h g1 (by simp_all [a3A]) hx.2;grind [ft]
 termination_by structural x=>x
end
mutual
theorem acX {nv:Nat}:∀ (x:Ex) (N s:Nat) (k k':Mk),An x k=O (s,k')->GK N k->gO nv x->GK (N+gH x) k'/\k'.vars=k.vars/\s<64
 | .mk kind name n v args,N,s,k,k',h,hk,hx=>by
  have d:=hx;unfold gO at hx;obtain⟨e,g,i,j,o,p,q,f⟩:=hx;unfold An at h;split at h
  .injection h with h;injection h with a b;subst a b;refine⟨hk.up zo,J,?_⟩;cases hv:k.vars.getD v V with
   | none=>simp
   | some t=>
    have:O t∈k.vars:=by
     grind
    exact hk.vars _ this t J
  .split at h
   .split at h
    .grind
    .rename_i s' m hm;injection h with h;injection h with a b;subst a b;obtain⟨g1,g2,g3,-⟩:=hk.slot hm;exact⟨(g1.put ⟨zs,zs,amw d,zs,fun x hx=>zg⟩).up (by simp [gH]),g3,g2⟩
   .split at h
    .grind
    .rename_i l m hm;split at h
     .grind
     .rename_i s' m' c;injection h with h;injection h with a b;subst a b;obtain⟨q1,q2,q3,q4⟩:=acY args N l k m hm hk f;obtain⟨g1,g2,g3,-⟩:=q1.slot c;refine⟨(g1.put ⟨zs,e,by simp [Cf],zg,fun x hx=>?_⟩).up (by grind [gH]),g3.trans q2,g2⟩;grind
 termination_by structural x=>x
theorem acY {nv:Nat}:∀ (xs:List Ex) (N:Nat) (l:List Nat) (k k':Mk),r9 xs k=O (l,k')->GK N k->eZ nv xs->GK (N+ft xs) k'/\k'.vars=k.vars/\l.length=xs.length/\∀ s∈l,s<64
 | [],N,l,k,k',h,hk,hx=>by
  unfold r9 at h;injection h with h;injection h with a b;subst a b;exact⟨hk,J,J,zg⟩
 | x::xs,N,l,k,k',h,hk,hx=>by
  unfold eZ at hx;unfold r9 at h;split at h
  .grind
  .rename_i s m hm;split at h
   .grind
   .rename_i l' m' c;injection h with h;injection h with a b;subst a b;obtain⟨g1,g2,g3⟩:=acX x N s k m hm hk hx.1;obtain⟨q1,q2,q3,q4⟩:=acY xs _ l' m m' c g1 hx.2;grind [ft]
 termination_by structural x=>x
end
def amx{α:Type}{f:α->α}:∀ {l:List α} {n:Nat} {x:α},x∈l.modify n f->x∈l\/∃ y∈l,x=f y
 | [],n,x,h=>zg
 | a::l,0,x,h=>by
  grind
 | a::l,n+1,x,h=>by
  rw[a1m] at h;rcases a0n.1 h with rfl | h
  .grind
  .rcases amx h with h | ⟨y,b,e⟩<;>grind
theorem GK.land{N:Nat}{k:Mk}(h:GK N k)(c:N<100000)(j:Nat):GK N (k.land j):=
 ⟨by simp_all [Mk.land,len],fun i a=>by
  unfold Mk.land at a;rcases amx a with a | ⟨y,b,rfl⟩
  .grind [ins]
  .have:=h.ins y b;exact⟨this.word,this.name,this.con,zs,fun x hx=>by simp at hx;have:=h.len;omega⟩,h.slots,h.vars⟩
theorem WV{w nm:Bs}{s:List Nat}(hw:w.length<=5)(a:nm.length<=9)(b:s.length<=5)(hk:∀ k∈s,k<100000):DO ⟨w,nm,V,s⟩:=⟨hw,a,by simp [Cf],b,hk⟩
theorem qR{w nm:Bs}{s:Nat}(hw:w.length<=5)(a:nm.length<=9)(b:s<100000):DO ⟨w,nm,V,[s]⟩:=(by simp_all [WV])
mutual
theorem DP {nv M:Nat}:∀ (x:Bd) (cut N:Nat) (k k':Mk),kX x cut k=O k'->GK N k->eV nv M x->cut<64->N+4*iS x<100000->GK (N+4*iS x) k'/\k'.vars=k.vars
 | .mk kind name args parts,cut,N,k,k',h,hk,hx,a,b=>by
  unfold eV at hx;obtain⟨f,i,n,o,g,p,q,d⟩:=hx;simp only[iS] at b ⊢;unfold kX at h;split at h
  .injection h with h;subst h;exact⟨(hk.put (qR zd zs zo)).up zo,J⟩
  split at h
  .obtain⟨g1,g2⟩:=WW parts cut N k k' h hk d a zo;grind [GK.up]
  split at h
  .obtain⟨g1,g2⟩:=aHM parts cut N k k' h hk d a zo;grind [GK.up]
  split at h
  .split at h
   .grind
   .rename_i s m hm;obtain⟨q1,q2,q3,-⟩:=hk.slot hm;obtain⟨g1,g2⟩:=aHN parts s cut _ _ k' h (q1.put (qR zd zs zo)) d a q2 zo;exact⟨g1.up zo,g2.trans q3⟩
  split at h
  .split at h
   .grind
   .rename_i s m hm;obtain⟨q1,q2,q3,-⟩:=hk.slot hm;obtain⟨g1,g2⟩:=aHO parts s _ _ k' h (q1.put (qR zd zs zo)) d q2 zo;exact⟨g1.up zo,g2.trans q3⟩
  .split at h
   .grind
   .rename_i l m hm;injection h with h;subst h;obtain⟨q1,q2,q3,q4⟩:=acY args N l k m hm hk g;exact⟨(q1.put (WV (by split<;>decide) f zo fun x hx=>zg)).up zo,q2⟩
 termination_by structural x=>x
theorem WW {nv M:Nat}:∀ (xs:List Bd) (cut N:Nat) (k k':Mk),sd xs cut k=O k'->GK N k->eW nv M xs->cut<64->N+4*jw xs<100000->GK (N+4*jw xs) k'/\k'.vars=k.vars
 | [],cut,N,k,k',h,hk,hx,a,b=>by
  unfold sd at h;injection h with h;subst h;exact⟨hk,J⟩
 | x::xs,cut,N,k,k',h,hk,hx,a,b=>by
  unfold eW at hx;simp only[jw] at b ⊢;unfold sd at h;split at h
  .grind
  .rename_i m hm;obtain⟨g1,g2⟩:=DP x cut N k m hm hk hx.1 a zo;obtain⟨q1,q2⟩:=WW xs cut _ m k' h g1 hx.2 a zo;grind
 termination_by structural x=>x
theorem aHM {nv M:Nat}:∀ (xs:List Bd) (cut N:Nat) (k k':Mk),DG xs cut k=O k'->GK N k->eW nv M xs->cut<64->N+4*jw xs+2<100000->GK (N+4*jw xs+2) k'/\k'.vars=k.vars
 | [],cut,N,k,k',h,hk,hx,a,b=>by simp_all [DG]
 | x::xs,cut,N,k,k',h,hk,hx,a,b=>by
  unfold eW at hx;simp only[jw] at b ⊢;unfold DG at h;split at h
  .grind
  .rename_i m1 hm;split at h
   .grind
   .rename_i m2 e;injection h with h;subst h;obtain⟨g1,g2⟩:=DP x cut (N+1) _ m1 hm (hk.put (qR zd zs zo)) hx.1 a zo;obtain⟨q1,q2⟩:=WW xs cut _ _ m2 e ((g1.put (qR (w:=jP) (nm:=[]) (s:=0) zd zs zo)).land zo _) hx.2 a zo;exact⟨(by grind [GK.up,GK.land]),q2.trans g2⟩
 termination_by structural x=>x
theorem aHN {nv M:Nat}:∀ (xs:List Bd) (s cut N:Nat) (k k':Mk),DH xs s cut k=O k'->GK N k->eW nv M xs->cut<64->s<64->N+4*jw xs+3<100000->GK (N+4*jw xs+3) k'/\k'.vars=k.vars
 | [],s,cut,N,k,k',h,hk,hx,a,c,b=>by grind [DH]
 | x::xs,s,cut,N,k,k',h,hk,hx,a,c,b=>by
  unfold eW at hx;simp only[jw] at b ⊢;unfold DH at h;split at h
  .grind
  .rename_i m1 hm;obtain⟨g1,g2⟩:=DP x s (N+1) _ m1 hm (hk.put (qR zd zs zo)) hx.1 c zo;obtain⟨q1,q2⟩:=aHP xs cut _ _ _ k' h (g1.put (qR zd zs zo)) hx.2 a zo;exact⟨q1.up zo,q2.trans g2⟩
 termination_by structural x=>x
theorem aHP {nv M:Nat}:∀ (xs:List Bd) (cut j N:Nat) (k k':Mk),E2 xs cut j k=O k'->GK N k->eW nv M xs->cut<64->N+4*jw xs+1<100000->GK (N+4*jw xs+1) k'/\k'.vars=k.vars
 | [],cut,j,N,k,k',h,hk,hx,a,b=>by simp_all [E2]
 | x::xs,cut,j,N,k,k',h,hk,hx,a,b=>by
  unfold eW at hx;simp only[jw] at b ⊢;unfold E2 at h;split at h
  .grind
  .rename_i m1 hm;split at h
   .grind
   .rename_i m2 e;injection h with h;subst h;obtain⟨g1,g2⟩:=DP x cut N _ m1 hm hk hx.1 a zo;obtain⟨q1,q2⟩:=WW xs cut _ _ m2 e ((g1.put (qR (w:=jP) (nm:=[]) (s:=0) zd zs zo)).land zo _) hx.2 a zo;exact⟨(by grind [GK.up,GK.land]),q2.trans g2⟩
 termination_by structural x=>x
theorem aHO {nv M:Nat}:∀ (xs:List Bd) (s N:Nat) (k k':Mk),DI xs s k=O k'->GK N k->eW nv M xs->s<64->N+4*jw xs+3<100000->GK (N+4*jw xs+3) k'/\k'.vars=k.vars
 | [],s,N,k,k',h,hk,hx,c,b=>by simp_all [DI]
 | x::xs,s,N,k,k',h,hk,hx,c,b=>by
  unfold eW at hx;simp only[jw] at b ⊢;unfold DI at h;split at h
  .grind
  .rename_i m1 hm;injection h with h;subst h;obtain⟨g1,g2⟩:=DP x s (N+1) _ m1 hm (hk.put (qR zd zs zo)) hx.1 c zo;exact⟨(by grind [qR,kW,WV,nk,GK.up,GK.land,GK.put]),g2⟩
 termination_by structural x=>x
end
def amy:∀ (n j N:Nat) (k k':Mk),k.news j n=O k'->GK N k->GK (N+n) k'/\k'.vars.length=k.vars.length
 | 0,j,N,k,k',h,hk=>by
  unfold Mk.news at h;injection h with h;subst h;exact⟨hk,J⟩
 | n+1,j,N,k,k',h,hk=>by
  unfold Mk.news at h;split at h
  .grind
  .rename_i s m hm;obtain⟨g1,g2,g3,-⟩:=hk.slot hm;have hv:GK N { m with vars:=m.vars.set j (O s) }:=⟨g1.len,g1.ins,g1.slots,fun y a t ht=>by
    rcases a1j a with a | a
    .exact g1.vars y a t ht
    grind⟩
   obtain⟨q1,q2⟩:=amy n (j+1) (N+1) _ k' h (hv.put (qR zd zs zo));exact⟨zg,q2.trans (by show(m.vars.set j (O s)).length=_;grind)⟩
def acZ:∀ (n j N:Nat) (k k':Mk),k.rest j n=O k'->GK N k->GK (N+n) k'/\k'.vars.length=k.vars.length
 | 0,j,N,k,k',h,hk=>by
  unfold Mk.rest at h;injection h with h;subst h;exact⟨hk,J⟩
 | n+1,j,N,k,k',h,hk=>by
  unfold Mk.rest at h;split at h
  .obtain⟨q1,q2⟩:=acZ n (j+1) N k k' h hk;grind [GK.up]
  .split at h
   .grind
   .rename_i s m hm;obtain⟨g1,g2,g3,-⟩:=hk.slot hm;have hv:GK N { m with vars:=m.vars.set j (O s) }:=⟨g1.len,g1.ins,g1.slots,fun y a t ht=>by
     rcases a1j a with a | a
     .exact g1.vars y a t ht
     grind⟩
    obtain⟨q1,q2⟩:=acZ n (j+1) (N+1) _ k' h (hv.put (qR zd zs zo));exact⟨zg,q2.trans (by show(m.vars.set j (O s)).length=_;grind)⟩
structure As(c:Co):Prop where
 ins:∀ i∈c.ins,DO i
 slots:c.slots<=64
 len:c.ins.length<=30000
theorem WX{args:List Ex}{body:Bd}{q:Bool}{c:Co}(h:Bg args body nv q=O c)(hx:eZ nv args)(B:ft args<=2900)(e:eV nv M body)(C:iS body<=5800)(hv:nv<=12):As c:=by
 unfold Bg at h;split at h
 .grind
 .rename_i a m f;have g:GK 0 (⟨0,[],List.replicate nv V⟩:Mk):=⟨a0d _,fun i j=>absurd j zs,zs,fun v hv t ht=>zg⟩;obtain⟨g1,g2,g3,g4⟩:=g.rY f;split at h
  .grind
  .rename_i m2 d;have k:GK 12 m2:=by
    split at d
    .exact(amy nv 0 0 m m2 d g1).1.up zo
    grind [GK.up]
   split at h
   .grind
   .rename_i cut m3 l;obtain⟨n,o,-,-⟩:=k.slot l;split at h
    .grind
    .rename_i m4 p;obtain⟨r,-⟩:=acW args a 13 _ m4 p (n.put (qR zd zs zo)) g3 hx;split at h
     .grind
     .rename_i m5 u;obtain⟨x,-⟩:=acZ nv 0 _ m4 m5 u r;split at h
      .grind
      .rename_i m6 y;obtain⟨z,-⟩:=DP body cut _ m5 m6 y x e o zo;injection h with h;subst h;have b:=z.put (w:=if q=A then [100,111,110,101] else [114,101,116]) (nm:=[]) (con:=V) (s:=[]) (WV zg zs zs zs);exact⟨b.ins,b.slots,a0f b.len zo⟩
def iO(k k':Mk):Prop:=∃ r,k'.ins=k.ins++r
theorem iO.refl(k:Mk):iO k k:=⟨[],zs⟩
theorem iO.trans{a b c:Mk}(h:iO a b)(g:iO b c):iO a c:=by
 obtain⟨r,h⟩:=h;obtain⟨q,g⟩:=g;exact⟨r++q,zg⟩
theorem iO.put(k:Mk)(w n:Bs)(c:Option Tm)(s:List Nat):iO k (k.put w n c s):=⟨[⟨w,n,c,s⟩],J⟩
theorem iO.same{k k':Mk}(h:k'.ins=k.ins):iO k k':=⟨[],zg⟩
def WY{α:Type}(f:α->α):∀ (a b:List α) (q:Nat),(a++b).modify (a.length+q) f=a++b.modify q f
 | [],b,q=>zs
 | x::a,b,q=>by
  have:=WY f a b q;grind
theorem iO.land{k k':Mk}{j:Nat}(h:iO k k')(a:k.ins.length<=j):iO k (k'.land j):=by
 obtain⟨r,h⟩:=h;refine⟨r.modify (j-k.ins.length) fun i=>{ i with s:=[k'.ins.length] },?_⟩;unfold Mk.land;simp only;rw[<- WY,<- h];grind
theorem DQ{k a:Mk}{s:Nat}(h:k.slot=O (s,a)):a.ins=k.ins:=by
 grind [Mk.slot]
theorem ac0:∀ {n:Nat} {k k':Mk} {l:List Nat},k.rY n=O (l,k')->k'.ins=k.ins
 | 0,k,k',l,h=>by
  simp_all [Mk.rY]
 | n+1,k,k',l,h=>by
  unfold Mk.rY at h;split at h
  .grind
  .rename_i s m a;split at h
   .grind
   .rename_i l' m' b;injection h with h;injection h with d c;rw[<- c,ac0 b,DQ a]
mutual
theorem aHQ:∀ (x:Ex) (s:Nat) (k k':Mk),An x k=O (s,k')->iO k k'
 | .mk kind name n v args,s,k,k',h=>by
  unfold An at h;split at h
  .simp_all [iO.refl]
  .split at h
   .split at h
    .grind
    .rename_i s' m hm;injection h with h;injection h with c a;subst a;exact(iO.same (DQ hm)).trans (iO.put _ _ _ _ _)
   .split at h
    .grind
    .rename_i l m hm;split at h
     .grind
     .rename_i s' m' b;injection h with h;injection h with c a;subst a;exact((ac1 args l k m hm).trans (iO.same (DQ b))).trans (iO.put _ _ _ _ _)
 termination_by structural x=>x
theorem ac1:∀ (xs:List Ex) (l:List Nat) (k k':Mk),r9 xs k=O (l,k')->iO k k'
 | [],l,k,k',h=>by simp_all [r9,iO.refl]
 | x::xs,l,k,k',h=>by
  unfold r9 at h;split at h
  .grind
  .rename_i s m hm;split at h
   .grind
   .rename_i l' m' b;injection h with h;injection h with c a;subst a;exact(aHQ x s k m hm).trans (ac1 xs l' m m' b)
 termination_by structural x=>x
end
def iO.len{k a:Mk}(h:iO k a):k.ins.length<=a.ins.length:=by obtain⟨r,h⟩:=h;grind
mutual
theorem Au:∀ (x:Bd) (cut:Nat) (k k':Mk),kX x cut k=O k'->iO k k'
 | .mk kind name args parts,cut,k,k',h=>by
  unfold kX at h;split at h
  .grind [iO.put]
  split at h
  .exact Pg parts cut k k' h
  split at h
  .exact aHR parts cut k k' h
  split at h
  .split at h
   .grind
   .rename_i s m hm;exact((iO.same (DQ hm)).trans (iO.put _ _ _ _ _)).trans (aHS parts s cut _ k' h)
  split at h
  .split at h
   .grind
   .rename_i s m hm;exact((iO.same (DQ hm)).trans (iO.put _ _ _ _ _)).trans (aHT parts s _ k' h)
  .split at h
   .grind
   .rename_i l m hm;injection h with h;subst h;exact(ac1 args l k m hm).trans (iO.put _ _ _ _ _)
 termination_by structural x=>x
theorem Pg:∀ (xs:List Bd) (cut:Nat) (k k':Mk),sd xs cut k=O k'->iO k k'
 | [],cut,k,k',h=>by simp_all [sd,iO.refl]
 | x::xs,cut,k,k',h=>by
  unfold sd at h;split at h
  .grind
  .rename_i m hm;exact(Au x cut k m hm).trans (Pg xs cut m k' h)
 termination_by structural x=>x
theorem aHR:∀ (xs:List Bd) (cut:Nat) (k k':Mk),DG xs cut k=O k'->iO k k'
 | [],cut,k,k',h=>by simp_all [DG]
 | x::xs,cut,k,k',h=>by
  unfold DG at h;split at h
  .grind
  .rename_i m1 hm;split at h
   .grind
   .rename_i m2 c;injection h with h;subst h;have a:=(iO.put k kx [] V [0]).trans (Au x cut _ m1 hm);have d:=(a.trans (iO.put m1 jP [] V [0])).land (j:=k.ins.length) (a0d _);exact(d.trans (Pg xs cut _ m2 c)).land a.len
 termination_by structural x=>x
theorem aHS:∀ (xs:List Bd) (s cut:Nat) (k k':Mk),DH xs s cut k=O k'->iO k k'
 | [],s,cut,k,k',h=>by simp_all [DH]
 | x::xs,s,cut,k,k',h=>by
  unfold DH at h;split at h
  .grind
  .rename_i m1 hm;have a:=((iO.put k kx [] V [0]).trans (Au x s _ m1 hm)).trans (iO.put m1 kW [] V [s]);exact aHU xs cut _ _ k' k h a (a0d _)
 termination_by structural x=>x
theorem aHU:∀ (xs:List Bd) (cut j:Nat) (k k' b:Mk),E2 xs cut j k=O k'->iO b k->b.ins.length<=j->iO b k'
 | [],cut,j,k,k',b,h,e,f=>by simp_all [E2]
 | x::xs,cut,j,k,k',b,h,e,f=>by
  unfold E2 at h;split at h
  .grind
  .rename_i m1 hm;split at h
   .grind
   .rename_i m2 c;injection h with h;subst h;have a:=e.trans (Au x cut _ m1 hm);have d:=(a.trans (iO.put m1 jP [] V [0])).land f;exact(d.trans (Pg xs cut _ m2 c)).land a.len
 termination_by structural x=>x
theorem aHT:∀ (xs:List Bd) (s:Nat) (k k':Mk),DI xs s k=O k'->iO k k'
 | [],s,k,k',h=>by simp_all [DI]
 | x::xs,s,k,k',h=>by
  unfold DI at h;split at h
  .grind
  .rename_i m1 hm;injection h with h;subst h;exact((((iO.put k kx [] V [0]).trans (Au x s _ m1 hm)).trans (iO.put m1 kW [] V [s])).trans (iO.put _ nk [102,97,105,108] V [])).land (a0d _)
 termination_by structural x=>x
end
theorem ac2(c x:UInt8)(r:Bs):gP c (x::r)=if x=c then []::gP c r else match gP c r with
 | []=>[[x]]
 | l::ls=>(x::l)::ls:=rfl
theorem SN(c:UInt8)(r:Bs):∀ (a:Bs),gP c (a++c::r)=gP c a++gP c r
 | []=>by simp [gP]
 | x::a=>by
  have ih:=SN c r a;grind [gP,ac2,SM,absurd]
def amz(c:UInt8):∀ (a:Bs),∀ l∈gP c a,l.length<=a.length
 | [],l,b=>by
  simp_all [gP]
 | x::a,l,b=>by
  have ih:=amz c a;unfold gP at b;grind
def SO(s:Bs):Prop:=∀ l∈gP 10 s,l.length<60
def sk(s:Bs):Prop:=∀ r,SO r->SO (s++r)
theorem sk.nil:sk []:=fun r h=>h
def sk.append{a b:Bs}(c:sk a)(d:sk b):sk (a++b):=fun r h=>by rw[List.append_assoc];exact c _ (d _ h)
theorem sk.flat{l:List Bs}(h:∀ x∈l,sk x):sk l.flatten:=by
 induction l with
 | nil=>exact .nil
 | cons a r ih=>simp_all [a0p,append,a03]
def wl(l:List Bs):Nat:=(l.map fun w=>w.length+1).sum
def aHV(a b:List Bs):wl (a++b)=wl a+wl b:=by simp [wl]
theorem Ch(a:Bs)(b:List Bs):wl (a::b)=a.length+1+wl b:=by simp [wl]
theorem WZ:∀ (l:List Bs),((l.map fun w=>(32:UInt8)::w).flatten).length=wl l
 | []=>rfl
 | a::r=>by rw[Ch,<- WZ r];grind
def sk.words{first:Bs}{l:List Bs}(h:first.length+wl l<60):sk (mJ first l):=fun r hr=>by
 unfold mJ;rw[List.append_assoc,List.singleton_append];unfold SO;rw[SN];intro x hx;rcases a0q.1 hx with hx | hx
 .have:=amz _ _ x hx;grind [a0i,WZ]
 .exact hr x hx
theorem E7(h:n<100000):(gj n).length<=5:=aco n 4 zo _ zo
theorem ac3:∀ (s:List Nat),(∀ k∈s,k<100000)->wl (s.map gj)<=6*s.length
 | [],_=>by simp [wl]
 | a::r,h=>by
  have:=ac3 r zg;grind [E7,a0p,Ch,a0j]
def aHW{s:List Nat}(h:∀ k∈s,k<100000):s.headD 0<100000:=by
 cases s with
 | nil=>simp
 | cons a r=>simp_all
def amA{i:In}(h:DO i):i.word.length+wl (uh i ((mL i.word).getD []) i.s)<60:=by
 have ht:∀ k∈i.s.tail,k<100000:=fun k hk=>h.small k (a3A hk);have d:=E7 (aHW h.small);have e:=ac3 _ h.small;have a:∀ j:Nat,(gj (i.s[j]?.getD 0)).length<=5:=(by grind [E7,DO.small]);have b:wl (i.s.map gj).tail<=6*i.s.tail.length:=by rw[<- List.map_tail];grind [ac3,a3A]
 have f:=a 1;have g:(gj (i.s.head?.getD 0)).length<=5:=zg;have l:i.s.tail.length<=5:=by have:=h.ql;simp;omega
 have:=h.word;have:=h.name;have:=h.con;have:=h.ql;have w0:wl []=0:=rfl;cases c:mL i.word with
 | none=>grind [uh]
 | some sh=>
  rw[Option.getD_some];rcases Pf c with⟨-,rfl⟩| ⟨-,rfl⟩| ⟨-,rfl⟩| ⟨-,rfl⟩| ⟨-,rfl⟩| ⟨-,rfl⟩| ⟨-,rfl⟩<;>simp [uh,Ch,aHV,w0]<;>omega
theorem aHX{i:In}(h:DO i):sk (Gx i):=by
 simp_all [Gx,sk.words,amA]
theorem ac4{i:In}(h:DO i):(Gx i).length<=60:=by
 have:=amA h;grind [Gx,mJ,a0i,WZ,a0j,List.length_nil]
def amB{c:Co}(h:As c):sk (Ap c):=sk.flat (by grind [aHX,As.ins])
structure DR(p:Pd):Prop where
 name:p.name.length<=9
 ar:p.arity<=4
 cls:∀ c∈p.clauses,As c
 ql:p.clauses.length<=100
theorem aHY{p:Pd}(h:DR p):sk (wI p):=by
 have w0:wl []=0:=rfl;unfold wI;refine(sk.words ?_).append (sk.flat fun x hx=>?_)
 .have:=h.name;have:=E7 (show p.arity<100000 by have:=h.ar;omega);rw[Ch,Ch,w0];simp;omega
 .obtain⟨c,a,rfl⟩:=List.mem_map.1 hx;refine(sk.words ?_).append (amB (h.cls c a));have:=E7 (show c.slots<100000 by have:=(h.cls c a).slots;omega);rw[Ch,w0];simp;omega
def aHZ{l:List Pd}{ask:Co}(b:∀ p∈l,DR p)(a:As ask)(ht:told<=1000):SO (yZ l ask told):=by
 have w0:wl []=0:=rfl;have h:sk (yZ l ask told):=by
  unfold yZ;refine((sk.flat fun x hx=>?_).append (sk.words ?_)).append (amB a)
  .obtain⟨c,d,rfl⟩:=List.mem_map.1 hx;grind [aHY]
  .have:=E7 (show ask.slots<100000 by have:=a.slots;omega);have:=E7 (show told<100000 by omega);rw[Ch,Ch,w0];simp;omega
 have:=h [] (fun x hx=>by simp_all [gP]);grind
def amC{name:Bs}{n:Nat}{c:Co}(d:name.length<=9)(e:n<=4)(f:As c):∀ {l:List Pd} {N:Nat},N<100->(∀ p∈l,DR p/\p.clauses.length<=N)->∀ p∈rz name n c l,DR p/\p.clauses.length<=N+1
 | [],N,g,_,p,a=>by
  unfold rz at a;rw[a0x] at a;subst a;exact⟨⟨d,e,zg,zs⟩,zs⟩
 | q::r,N,g,h,p,a=>by
  unfold rz at a;obtain⟨b,i⟩:=h q a0p;split at a
  .rcases a0n.1 a with rfl | a
   .refine⟨⟨b.name,b.ar,fun x hx=>?_,zg⟩,zg⟩;rcases a0q.1 hx with hx | hx
    .exact b.cls x hx
    .rw[a0x] at hx;subst hx;exact f
   grind
  .rcases a0n.1 a with rfl | a
   .grind
   .exact amC d e f g zg p a
def aH0{c:Cl}(h:qn c){x:Co}(hx:Bg c.args c.body c.vars.length G=O x):As x:=
 WX hx h.cl.args h.cl.sz h.cl.body h.bsz h.vs.1
def amD:∀ (cs:List Cl) (l l':List Pd) (N:Nat),(∀ c∈cs,qn c)->N+cs.length<=100->(∀ p∈l,DR p/\p.clauses.length<=N)->xK cs l=O l'->∀ p∈l',DR p
 | [],l,l',N,_,_,b,h=>by
  simp_all [xK]
 | c::r,l,l',N,d,e,b,h=>by
  unfold xK at h;split at h
  .grind
  .rename_i x hx;simp only[a0j] at e;have a:=d c a0p;exact amD r _ l' (N+1) zg zo (amC a.name a.cl.ql (aH0 a hx) zo b) h
def vo:Bs->Nat
 | []=>0
 | c::r=>(if c=115\/c=112 then 1 else 0)+vo r
structure GC(i:In):Prop where
 wf:vo ((mL i.word).getD [])<=i.s.length
 cn:99∈(mL i.word).getD []->∃ t,i.const=O t/\ef t/\SG t=A
def WK(k:Mk):Prop:=∀ i∈k.ins,GC i
theorem WK.same{k k':Mk}(h:WK k)(he:k'.ins=k.ins):WK k':=fun i a=>h i zg
theorem WK.put{k:Mk}(h:WK k){w nm:Bs}{con:Option Tm}{s:List Nat}(a:GC ⟨w,nm,con,s⟩):WK (k.put w nm con s):=fun i hm=>by
 unfold Mk.put at hm;rcases a0q.1 hm with hm | hm
 .exact h i hm
 grind
def W0{α:Type}{f:α->α}:∀ {l:List α} {n:Nat} {x:α},x∈l.modify n f->x∈l\/∃ y,l[n]?=O y/\x=f y
 | [],n,x,h=>zg
 | a::l,0,x,h=>by
  grind
 | a::l,n+1,x,h=>by
  rw[a1m] at h;rcases a0n.1 h with rfl | h
  .grind
  .rcases W0 h with h | ⟨y,b,e⟩<;>grind
theorem WK.land{k:Mk}(h:WK k){j:Nat}(c:∀ i,k.ins[j]?=O i->i.word=kx\/i.word=jP):WK (k.land j):=fun i a=>by
 unfold Mk.land at a;rcases W0 a with a | ⟨y,d,rfl⟩
 .exact h i a
 .have hw:=c y d;refine⟨?_,fun b=>?_⟩
  .show vo ((mL y.word).getD [])<=1;rcases hw with e | e<;>rw[e]<;>decide
  .have b:99∈(mL y.word).getD []:=b;exfalso;rcases hw with e | e<;>rw[e] at b<;>revert b<;>decide
theorem iO.at{m a:Mk}{w nm:Bs}{con:Option Tm}{s:List Nat}(h:iO (m.put w nm con s) a):a.ins[m.ins.length]?=O ⟨w,nm,con,s⟩:=by
 obtain⟨r,h⟩:=h;rw[h];show((m.ins++[_])++r)[m.ins.length]?=_;grind
def iO.at2{m a:Mk}{w nm:Bs}{con:Option Tm}{s:List Nat}(b:j<m.ins.length)(h:iO ((m.put w nm con s).land j) a):a.ins[m.ins.length]?=O ⟨w,nm,con,s⟩:=by
 obtain⟨r,h⟩:=h;grind [land,Mk.land,Mk.put,List.getElem?_append_left]
theorem Ks{w nm:Bs}{con:Option Tm}{s:List Nat}(h:vo ((mL w).getD [])<=s.length)(a:99 ∉ (mL w).getD []):GC ⟨w,nm,con,s⟩:=⟨h,zg⟩
def wfC{name:Bs}{n:Int}{args:List Ex}{w:Bs}{s:Nat}(hx:gO nv (.mk pb name n k args))(b:pb≠118)(c:pb≠99)(h:vo ((mL w).getD [])<=1):GC ⟨w,[],O (Ce pb name n),[s]⟩:=⟨h,fun _=>by
 unfold gO at hx;obtain⟨o1,o2,d,o4,o5,e,-⟩:=hx;refine⟨_,J,?_⟩;unfold Ce;split
 .exact⟨by grind [ef],J⟩
 .have a:pb=97:=zo;exact⟨by grind [ef],J⟩⟩
mutual
theorem aH1 {nv:Nat}:∀ (x:Ex) (s:Nat) (k k':Mk),yY x s k=O k'->WK k->gO nv x->WK k'
 | .mk kind name n v args,s,k,k',h,hk,hx=>by
  have a:=hx;unfold gO at hx;obtain⟨e,f,g,i,j,o,p,b⟩:=hx;unfold yY at h;split at h
  .split at h
   .grind [WK.same]
   .injection h with h;subst h;exact hk.put (Ks (by simp;decide) zd)
  .rename_i c;split at h
   .split at h
    .grind
    .rename_i l m q;exact ac6 args l _ k' h (by grind [ac0,Ks,a0f,vo,mL,WK.put,WK.same]) b
   .rename_i d;injection h with h;subst h;exact hk.put (wfC a c d zd)
 termination_by structural x=>x
theorem ac6 {nv:Nat}:∀ (xs:List Ex) (l:List Nat) (k k':Mk),rZ xs l k=O k'->WK k->eZ nv xs->WK k'
 | [],l,k,k',h,hk,hx=>by simp_all [rZ]
 | x::xs,l,k,k',h,hk,hx=>by
  unfold eZ at hx;unfold rZ at h;split at h
  .grind
  .rename_i m hm;exact ac6 xs _ m k' h (aH1 x _ k m hm hk hx.1) hx.2
 termination_by structural x=>x
end
mutual
theorem aH2 {nv:Nat}:∀ (x:Ex) (s:Nat) (k k':Mk),An x k=O (s,k')->WK k->gO nv x->WK k'
 | .mk kind name n v args,s,k,k',h,hk,hx=>by
  have d:=hx;unfold gO at hx;obtain⟨i,j,o,p,q,r,t,e⟩:=hx;unfold An at h;split at h
  .grind
  .rename_i f;split at h
   .rename_i g;split at h
    .grind
    .rename_i s' m hm;injection h with h;injection h with c a;subst a;exact(hk.same (DQ hm)).put (wfC d f g zd)
   .split at h
    .grind
    .rename_i l m hm;split at h
     .grind
     .rename_i s' m' b;injection h with h;injection h with c a;subst a;exact((ac7 args l k m hm hk e).same (DQ b)).put (by grind [Ks,a0f,vo,mL])
 termination_by structural x=>x
theorem ac7 {nv:Nat}:∀ (xs:List Ex) (l:List Nat) (k k':Mk),r9 xs k=O (l,k')->WK k->eZ nv xs->WK k'
 | [],l,k,k',h,hk,hx=>by simp_all [r9]
 | x::xs,l,k,k',h,hk,hx=>by
  unfold eZ at hx;unfold r9 at h;split at h
  .grind
  .rename_i s m hm;split at h
   .grind
   .rename_i l' m' b;injection h with h;injection h with c a;subst a;exact ac7 xs l' m m' b (aH2 x s k m hm hk hx.1) hx.2
 termination_by structural x=>x
end
theorem WK.p1{k:Mk}(h:WK k){w nm:Bs}{s:Nat}(hw:w∈[kW,kx,jP,qO,ug,vh]):WK (k.put w nm V [s]):=h.put (by
 simp only[a0n,List.not_mem_nil,or_false] at hw;rcases hw with rfl | rfl | rfl | rfl | rfl | rfl<;>exact Ks (by simp;decide) zd)
mutual
theorem Ph {nv M:Nat}:∀ (x:Bd) (cut:Nat) (k k':Mk),kX x cut k=O k'->WK k->eV nv M x->WK k'
 | .mk kind name args parts,cut,k,k',h,hk,hx=>by
  unfold eV at hx;obtain⟨f,g,n,o,e,p,q,c⟩:=hx;unfold kX at h;split at h
  .grind [WK.p1]
  split at h
  .exact W1 parts cut k k' h hk c
  split at h
  .exact aH3 parts cut k k' h hk c
  split at h
  .split at h
   .grind
   .rename_i s m hm;exact aH4 parts s cut _ k' h ((hk.same (DQ hm)).p1 zs) c
  split at h
  .split at h
   .grind
   .rename_i s m hm;exact aH5 parts s _ k' h ((hk.same (DQ hm)).p1 zs) c
  .split at h
   .grind
   .rename_i l m hm;injection h with h;subst h;refine(ac7 args l k m hm hk e).put ?_;split
    .exact Ks (a0f (show vo ((mL nk).getD [])<=0 by decide) (a0r _)) zd
    .exact Ks (a0f (show vo ((mL Ao).getD [])<=0 by decide) (a0r _)) zd
 termination_by structural x=>x
theorem W1 {nv M:Nat}:∀ (xs:List Bd) (cut:Nat) (k k':Mk),sd xs cut k=O k'->WK k->eW nv M xs->WK k'
 | [],cut,k,k',h,hk,hx=>by simp_all [sd]
 | x::xs,cut,k,k',h,hk,hx=>by
  unfold eW at hx;unfold sd at h;split at h
  .grind
  .rename_i m hm;exact W1 xs cut m k' h (Ph x cut k m hm hk hx.1) hx.2
 termination_by structural x=>x
theorem aH3 {nv M:Nat}:∀ (xs:List Bd) (cut:Nat) (k k':Mk),DG xs cut k=O k'->WK k->eW nv M xs->WK k'
 | [],cut,k,k',h,hk,hx=>by unfold DG at h;cases h
 | x::xs,cut,k,k',h,hk,hx=>by
  unfold eW at hx;unfold DG at h;split at h
  .grind
  .rename_i m1 hm;split at h
   .grind
   .rename_i m2 b;injection h with h;subst h;have p1:=Au x cut _ m1 hm;have w1:=Ph x cut _ m1 hm (hk.p1 zs) hx.1;have hlt:k.ins.length<m1.ins.length:=by have:=p1.len;grind [Mk.put]
    have w2:WK ((m1.put jP [] V [0]).land k.ins.length):=(w1.p1 zs).land fun i a=>by
     rw[(p1.trans (iO.put m1 jP [] V [0])).at] at a;grind
    have p2:=Pg xs cut _ m2 b;exact(W1 xs cut _ m2 b w2 hx.2).land fun i a=>by
     rw[p2.at2 hlt] at a;grind
 termination_by structural x=>x
theorem aH4 {nv M:Nat}:∀ (xs:List Bd) (s cut:Nat) (k k':Mk),DH xs s cut k=O k'->WK k->eW nv M xs->WK k'
 | [],s,cut,k,k',h,hk,hx=>by simp_all [DH]
 | x::xs,s,cut,k,k',h,hk,hx=>by
  unfold eW at hx;unfold DH at h;split at h
  .grind
  .rename_i m1 hm;have p1:=(Au x s _ m1 hm).trans (iO.put m1 kW [] V [s]);exact aH6 xs cut _ _ k' h ((Ph x s _ m1 hm (hk.p1 zs) hx.1).p1 zs) hx.2 (Nat.lt_of_lt_of_le (by grind [Mk.put]) p1.len) p1.at
 termination_by structural x=>x
theorem aH6 {nv M:Nat}:∀ (xs:List Bd) (cut j:Nat) (k k':Mk),E2 xs cut j k=O k'->WK k->eW nv M xs->j<k.ins.length->k.ins[j]?=O ⟨kx,[],V,[0]⟩->WK k'
 | [],cut,j,k,k',h,hk,hx,d,ht=>by unfold E2 at h;cases h
 | x::xs,cut,j,k,k',h,hk,hx,d,ht=>by
  unfold eW at hx;unfold E2 at h;split at h
  .grind
  .rename_i m1 hm;split at h
   .grind
   .rename_i m2 b;injection h with h;subst h;have p1:=Au x cut _ m1 hm;have w1:=Ph x cut _ m1 hm hk hx.1;have hlt:j<m1.ins.length:=Nat.lt_of_lt_of_le d p1.len;have t:(m1.put jP [] V [0]).ins[j]?=O ⟨kx,[],V,[0]⟩:=by
     obtain⟨r,hr⟩:=p1.trans (iO.put m1 jP [] V [0]);grind
    have w2:WK ((m1.put jP [] V [0]).land j):=(w1.p1 zs).land fun i a=>by
     grind
    have p2:=Pg xs cut _ m2 b;exact(W1 xs cut _ m2 b w2 hx.2).land fun i a=>by
     rw[p2.at2 hlt] at a;grind
 termination_by structural x=>x
theorem aH5 {nv M:Nat}:∀ (xs:List Bd) (s:Nat) (k k':Mk),DI xs s k=O k'->WK k->eW nv M xs->WK k'
 | [],s,k,k',h,hk,hx=>by unfold DI at h;cases h
 | x::xs,s,k,k',h,hk,hx=>by
  unfold eW at hx;unfold DI at h;split at h
  .grind
  .rename_i m1 hm;injection h with h;subst h;have p1:=((Au x s _ m1 hm).trans (iO.put m1 kW [] V [s])).trans (iO.put _ nk [102,97,105,108] V []);exact(((Ph x s _ m1 hm (hk.p1 zs) hx.1).p1 (s:=s) (w:=kW) (nm:=[]) zs).put (Ks (w:=nk) (nm:=[102,97,105,108]) (con:=V) (s:=[]) zd zd)).land fun i a=>by
    rw[p1.at] at a;grind
 termination_by structural x=>x
end
theorem amF:∀ (n j:Nat) (k k':Mk),k.news j n=O k'->WK k->WK k'
 | 0,j,k,k',h,hk=>by simp_all [Mk.news]
 | n+1,j,k,k',h,hk=>by
  unfold Mk.news at h;split at h
  .grind
  .rename_i s m hm;have a:WK { m with vars:=m.vars.set j (O s) }  :=(by grind [WK.same,DQ]);exact amF n (j+1) _ k' h (a.p1 zs)
def ac8:∀ (n j:Nat) (k k':Mk),k.rest j n=O k'->WK k->WK k'
 | 0,j,k,k',h,hk=>by simp_all [Mk.rest]
 | n+1,j,k,k',h,hk=>by
  unfold Mk.rest at h;split at h
  .exact ac8 n (j+1) k k' h hk
  .split at h
   .grind
   .rename_i s m hm;have a:WK { m with vars:=m.vars.set j (O s) }  :=(by grind [WK.same,DQ]);exact ac8 n (j+1) _ k' h (a.p1 zs)
def amG{args:List Ex}{body:Bd}{q:Bool}{c:Co}(h:Bg args body nv q=O c)(hx:eZ nv args)(b:eV nv M body):∀ i∈c.ins,GC i:=by
 unfold Bg at h;split at h
 .grind
 .rename_i a m d;have e:WK (⟨0,[],List.replicate nv V⟩:Mk):=fun i f=>absurd f zs;have g1:WK m:=e.same (ac0 d);split at h
  .grind
  .rename_i m2 s;have g:WK m2:=by
    grind [amF]
   split at h
   .grind
   .rename_i cut m3 j;split at h
    .grind
    .rename_i m4 k;have l:=ac6 args a _ m4 k ((g.same (DQ j)).p1 zs) hx;split at h
     .grind
     .rename_i m5 n;have o:=ac8 nv 0 m4 m5 n l;split at h
      .grind
      .rename_i m6 p;have r:=Ph body cut m5 m6 p o b;injection h with h;subst h;refine r.put (Ks ?_ ?_)
       .split<;>exact Nat.le_of_eq zd
       .split<;>decide
theorem amH{name:Bs}{n:Nat}{c:Co}:∀ {l:List Pd} {p:Pd},p∈rz name n c l->∀ x∈p.clauses,x=c\/∃ q∈l,x∈q.clauses
 | [],p,a,x,hx=>by
  simp_all [rz,a0x]
 | q::r,p,a,x,hx=>by
  unfold rz at a;split at a
  .grind
  .rcases a0n.1 a with rfl | a
   .grind
   .rcases amH a x hx with h | ⟨y,b,d⟩<;>grind
def amI{Q:Co->Prop}:∀ {cs:List Cl} {l l':List Pd},(∀ c∈cs,∀ x,Bg c.args c.body c.vars.length G=O x->Q x)->(∀ p∈l,∀ x∈p.clauses,Q x)->xK cs l=O l'->∀ p∈l',∀ x∈p.clauses,Q x
 | [],l,l',_,a,h=>by
  grind [xK]
 | c::r,l,l',b,a,h=>by
  unfold xK at h;split at h
  .grind
  .rename_i y d;refine amI zg (fun p e x hx=>?_) h;grind [amH]
def DS:List Pd->Nat
 | []=>0
 | p::r=>p.clauses.length+DS r
theorem amJ{name:Bs}{n:Nat}{c:Co}:∀ (l:List Pd),DS (rz name n c l)=DS l+1/\(rz name n c l).length<=l.length+1
 | []=>⟨J,by simp [rz]⟩
 | q::r=>by
  unfold rz;split
  .grind [DS,a0i,List.length_singleton]
  .obtain⟨a,b⟩:=amJ (name:=name) (n:=n) (c:=c) r;grind [DS,a0j]
def amK:∀ {cs:List Cl} {l l':List Pd},xK cs l=O l'->DS l'=DS l+cs.length/\l'.length<=l.length+cs.length
 | [],l,l',h=>by
  unfold xK at h;injection h with h;subst h;exact⟨J,zs⟩
 | c::r,l,l',h=>by
  unfold xK at h;split at h
  .grind
  .obtain⟨a,b⟩:=amK h;grind [amJ,a0j]
def ac9{first:Bs}{l:List Bs}(h:first.length+wl l<60):(mJ first l).length<=60:=by
 grind [mJ,a0i,WZ,a0j,List.length_nil]
def amL{c:Co}(h:As c):(Ap c).length<=1800000:=by
 have key:∀ l:List In,(∀ i∈l,DO i)->((l.map Gx).flatten).length<=60*l.length:=by
  intro l;induction l with
  | nil=>grind
  | cons a r ih=>
   grind [ac4,a0p,a03,List.flatten_cons,a0i,a0j]
 have:=key c.ins h.ins;have:=h.len;unfold Ap;omega
theorem aH8{p:Pd}(h:DR p):(wI p).length<=60+1800060*p.clauses.length:=by
 have w0:wl []=0:=rfl;have b:(mJ [112,114,101,100] [p.name,gj p.arity]).length<=60:=ac9 (by
  have:=h.name;have:=E7 (show p.arity<100000 by have:=h.ar;omega);rw[Ch,Ch,w0];simp;omega)
 have key:∀ l:List Co,(∀ c∈l,As c)->((l.map fun c=>mJ [99,108,97,117,115,101] [gj c.slots]++Ap c).flatten).length<=1800060*l.length:=by
  intro l;induction l with
  | nil=>grind
  | cons a r ih=>
   intro h;have b:=amL (h a a0p);have d:(mJ [99,108,97,117,115,101] [gj a.slots]).length<=60:=ac9 (by
    have:=E7 (show a.slots<100000 by have:=(h a a0p).slots;omega);rw[Ch,w0];simp;omega)
   grind
 grind [wI,a0i,DR.cls]
def aH9{l:List Pd}{ask:Co}(c:∀ p∈l,DR p)(b:As ask)(ht:told<=1000):(yZ l ask told).length<=60*l.length+1800060*DS l+1800060:=by
 have w0:wl []=0:=rfl;have key:∀ l:List Pd,(∀ p∈l,DR p)->((l.map wI).flatten).length<=60*l.length+1800060*DS l:=by
  intro l;induction l with
  | nil=>grind
  | cons a r ih=>
   grind [aH8,a0p,a03,List.flatten_cons,a0i,a0j,DS]
 have d:=key l c;have e:=amL b;have f:(mJ [113,117,101,114,121] [gj ask.slots,gj told]).length<=60:=ac9 (by
  have:=E7 (show ask.slots<100000 by have:=b.slots;omega);have:=E7 (show told<100000 by omega);rw[Ch,Ch,w0];simp;omega)
 unfold yZ;rw[a0i,a0i];omega
def amM{cs:List Cl}{l:List Pd}(a:∀ c∈cs,qn c)(f:cs.length<=40)(h:xK cs []=O l):(∀ p∈l,DR p)/\(∀ p∈l,∀ c∈p.clauses,As c/\∀ i∈c.ins,GC i)/\l.length<=40/\DS l<=40:=by
 have b:=amD cs [] l 0 a zo zg h;obtain⟨g,j⟩:=amK h;refine⟨b,fun p d c e=>⟨(by grind [DR.cls]),?_⟩,zg,by simp_all [DS]⟩;exact amI (Q:=fun c=>∀ i∈c.ins,GC i) (fun c hm x hx=>amG hx (a c hm).cl.args (a c hm).cl.body) zg h p d c e
end P
