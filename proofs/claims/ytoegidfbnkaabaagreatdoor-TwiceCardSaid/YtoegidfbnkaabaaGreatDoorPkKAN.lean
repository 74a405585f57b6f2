/- A part of one proof (PureNx, PureZ, PureAk, PureVm, PureVg). -/
import Derived.Test.YtoegidfbnkaabaaGreatDoorPkKAM
set_option linter.all false
set_option maxRecDepth 100000
set_option maxHeartbeats 8000000
open Option renaming some → O, none → V
open Bool renaming true → A, false → ae
open Nat renaming le_refl → a0D, le_trans → a0E, le_max_right → a1D, le_max_left → a1F, not_lt_zero → a1K
open Option.some renaming inj → a0G
open List renaming mem_cons_self → a0O, getElem?_eq_some_iff → a08, replicate → a1g, mem_cons_of_mem → a1u, foldl_cons → a1A
open Bool renaming false_eq_true → a06
namespace Go.Proofs.YtoegidfbnkaabaaGreatDoor
variable{B' M d f i m n pb pc:Nat}{fw:List Nat}
namespace P
section
variable{B:Nat}
structure WFu(tr:Tr)(f:Nat):Prop where
 tm:∀ t l s r,il tr f t l s=O (O r)->r.fuel<s.fuel
 comp:∀ n a l s r,nM tr f n a l s=O (O r)->r.fuel<=s.fuel
 args:∀ c a s r,nN tr f c a s=O (O r)->r.fuel<=s.fuel
 list:∀ c a b s r,mg tr f c a b s=O (O r)->r.fuel<s.fuel
def S4(tr:Tr):∀ f,WFu tr f
 | 0=>⟨fun _ _ _ _ h=>(by cases h),fun _ _ _ _ _ h=>(by cases h),fun _ _ _ _ h=>(by cases h),fun _ _ _ _ _ h=>(by cases h)⟩
 | f+1=>by
  obtain⟨e,k,i,m⟩:=S4 tr f;refine⟨fun t l s r h=>?_,fun n a l s r h=>?_,fun c a s r h=>?_,fun c a b s r h=>?_⟩
  .rw[il] at h;split at h
   .grind
   rename_i o;split at h
   .grind
   .injection h with h;injection h with h;subst h;show s.fuel-1<_;omega
   .injection h with h;injection h with h;subst h;show s.fuel-1<_;omega
   .injection h with h;injection h with h;subst h;unfold SZ;split<;>(show s.fuel-1<_;omega)
   grind
  .have j:∀ {a:List Tm},(Wb (nN tr f 40 a (s.add n)) fun s=>O (O (s.add [41])))=O (O r)->r.fuel<=s.fuel:=fun h=>by
    obtain⟨q,g1,g2⟩:=Bj h;injection g2 with g2;injection g2 with g2;subst g2;exact(i _ _ _ _ g1:q.fuel<=(s.add n).fuel)
   match a with
   | []=>grind [nM]
   | [x]=>grind [nM]
   | x::y::z::a=>grind [nM]
   | [x,y]=>
    rw[nM] at h;split at h
    .split at h
     .obtain⟨q,g1,g2⟩:=Bj h;obtain⟨q2,g3,g4⟩:=Bj g2;injection g4 with g4;injection g4 with g4;subst g4;have d:=e _ _ _ _ g1;have g:=e _ _ _ _ g3;have d:q.fuel<s.fuel:=d;have g:q2.fuel<q.fuel:=g;show q2.fuel<=_;omega
     .obtain⟨q,g1,g2⟩:=Bj h;have d:=e _ _ _ _ g1;have g:=e _ _ _ _ g2;have g:r.fuel<q.fuel:=g;omega
    grind
  .cases a with
   | nil=>simp_all [nN,a0D]
   | cons x a=>
    rw[nN] at h;obtain⟨q,g1,g2⟩:=Bj h;have d:q.fuel<(s.add [c]).fuel:=e _ _ _ _ g1;have d:q.fuel<s.fuel:=d;grind
  .rw[mg] at h;obtain⟨q,g1,g2⟩:=Bj h;have d:q.fuel<(s.add [c]).fuel:=e _ _ _ _ g1;have d:q.fuel<s.fuel:=d;have j:(Wb (il tr f b 0 (q.add [124])) fun s=>O (O (s.add [93])))=O (O r)->r.fuel<s.fuel:=fun h=>by
    obtain⟨q2,g1,g2⟩:=Bj h;injection g2 with g2;injection g2 with g2;subst g2;have:q2.fuel<(q.add [124]).fuel:=e _ _ _ _ g1;have:q2.fuel<q.fuel:=this;show q2.fuel<_;omega
   split at g2
   .grind
   .grind
   .split at g2
    .injection g2 with g2;injection g2 with g2;subst g2;exact d
    grind
   grind
def ef.wb{F:Nat->Option (Option Ws)}{G:Ws->Nat->Option (Option Ws)}(b:Mon F)(c:∀ a,Mon (G a))(h:ef F)(d:∀ f a,F f=O (O a)->ef (G a)):ef (fun f=>Wb (F f) fun a=>G a f):=by
 obtain⟨f,r,hr⟩:=h;cases r with
 | none=>exact⟨f,V,by simp only[hr];rfl⟩
 | some a=>
  obtain⟨g,q,e⟩:=d f a hr;refine⟨max f g,q,?_⟩;simp only[b.more hr (a1F f g)];exact(c a).more e (a1D f g)
def Mon.wb{F:Nat->Option (Option Ws)}{G:Ws->Nat->Option (Option Ws)}(b:Mon F)(c:∀ a,Mon (G a)):Mon (fun f=>Wb (F f) fun a=>G a f):=fun f=>M1 (b f) fun a=>c a f
def Fc(tr:Tr)(t:Tm)(l:Nat)(s:Ws):Mon (fun f=>il tr f t l s):=fun f=>(S1 tr f).tm t l s
def aHV(tr:Tr)(n:Bs)(a:List Tm)(l:Nat)(s:Ws):Mon (fun f=>nM tr f n a l s):=fun f=>(S1 tr f).comp n a l s
def amM(tr:Tr)(c:UInt8)(a:List Tm)(s:Ws):Mon (fun f=>nN tr f c a s):=fun f=>(S1 tr f).args c a s
def aHW(tr:Tr)(c:UInt8)(a b:Tm)(s:Ws):Mon (fun f=>mg tr f c a b s):=fun f=>(S1 tr f).list c a b s
def ef.succ{α:Type}{F G:Nat->Option α}(h:ef F)(he:∀ f,G (f+1)=F f):ef G:=by
 obtain⟨f,r,hr⟩:=h;exact⟨f+1,r,(he f).trans hr⟩
section
variable{tr:Tr}(ht:mi tr){n:Nat}(ih:∀ s:Ws,s.fuel<n->∀ t l,ef (fun f=>il tr f t l s))
include ih
def amN:∀ (a:List Tm) (c:UInt8) (s:Ws),s.fuel<n->ef (fun f=>nN tr f c a s)
 | [],c,s,_=>⟨1,O s,J⟩
 | x::a,c,s,d=>ef.succ (ef.wb (G:=fun s f=>nN tr f 44 a s) (Fc tr x 0 _) (fun s=>amM tr 44 a s) (ih (s.add [c]) d x 0) (fun f q e=>amN a 44 q (by
  have b:q.fuel<(s.add [c]).fuel:=(S4 tr f).tm _ _ _ _ e;have b:q.fuel<s.fuel:=b;omega))) (fun f=>by rw[nN])
include ht
def amO:∀ (m:Nat),m<=n->∀ (a b:Tm) (c:UInt8) (s:Ws),s.fuel<m->ef (fun f=>mg tr f c a b s)
 | 0,_,_,_,_,s,h=>absurd h (a1K _)
 | m+1,hm,a,b,c,s,j=>by
  have tail:∀ q:Ws,q.fuel<n->ef (fun f=>Wb (il tr f b 0 (q.add [124])) fun s=>O (O (s.add [93]))):=fun q d=>
   ef.wb (G:=fun s _=>O (O (s.add [93]))) (Fc tr b 0 _) (fun _=>Mon.const _) (ih (q.add [124]) d b 0) (fun _ _ _=>⟨0,_,J⟩)
  have e:∀ q:Ws,Mon (fun f=>Wb (il tr f b 0 (q.add [124])) fun s=>O (O (s.add [93]))):=fun q=>Mon.wb (Fc tr b 0 _) (fun _=>Mon.const _);obtain⟨f1,u,hu⟩:=DQ ht b;obtain⟨f2,k,g⟩:=ih (s.add [c]) (Nat.lt_of_lt_of_le j hm) a 0;cases k with
  | none=>exact⟨f2+1,V,by simp only[mg,g];rfl⟩
  | some q=>
   have d:q.fuel<(s.add [c]).fuel:=(S4 tr f2).tm _ _ _ _ g;have d:q.fuel<s.fuel:=d;have i:q.fuel<n:=zo;have key:∀ {F:Nat->Option (Option Ws)},Mon F->ef F->(∀ f,dR tr f b=O u->il tr f a 0 (s.add [c])=O (O q)->mg tr (f+1) c a b s=F f)->ef (fun f=>mg tr f c a b s):=fun hm o he=>by
    obtain⟨f3,r,hr⟩:=o;have p:f1<=max f1 (max f2 f3):=a1F _ _;have t:f2<=max f1 (max f2 f3):=a0E (a1F _ _) (a1D _ _);have w:f3<=max f1 (max f2 f3):=a0E (a1D _ _) (a1D _ _);exact⟨_,r,by dsimp only;rw[he _ (IB hu p) ((Fc tr a 0 _).more g t)];exact hm.more hr w⟩
   have B:(∀ f,dR tr f b=O u->il tr f a 0 (s.add [c])=O (O q)->mg tr (f+1) c a b s=Wb (il tr f b 0 (q.add [124])) fun s=>O (O (s.add [93])))->ef (fun f=>mg tr f c a b s):=key (e q) (tail q i);cases u with
   | int x=>simp_all [mg,Wb]
   | var x=>simp_all [mg,Wb]
   | atom x=>
    by_cases hx:x=[91,93]
    .exact key (F:=fun _=>O (O (q.add [93]))) (Mon.const _) ⟨0,_,J⟩ fun f g1 g2=>by simp_all [mg,Wb,zip]
    simp_all [mg,Wb,bO]
   | comp x l=>
    rcases l with _ | ⟨y,_ | ⟨z,_ | ⟨C,l⟩⟩⟩
    .simp_all [mg,Wb]
    .simp_all [mg,Wb]
    .by_cases hx:x=[46]
     .exact key (aHW tr 44 y z q) (amO m zo y z 44 q zo) fun f g1 g2=>by simp_all [mg,Wb,zip]
     simp_all [mg,Wb,bO]
    simp_all [mg,Wb]
def aHY(m:Nat)(hm:m<=n)(name:Bs)(a:List Tm)(l:Nat)(s:Ws)(e:s.fuel<m):ef (fun f=>nM tr f name a l s):=by
 have d:s.fuel<n:=Nat.lt_of_lt_of_le e hm;have c:∀ a:List Tm,ef (fun f=>Wb (nN tr f 40 a (s.add name)) fun s=>O (O (s.add [41]))):=fun a=>
  ef.wb (G:=fun s _=>O (O (s.add [41]))) (amM tr 40 a _) (fun _=>Mon.const _) (amN ih a 40 (s.add name) d) (fun _ _ _=>⟨0,_,J⟩)
 rcases a with _ | ⟨y,_ | ⟨z,_ | ⟨h,a⟩⟩⟩
 .exact ef.succ (c _) fun f=>by rw[nM];simp
 .exact ef.succ (c _) fun f=>by rw[nM];simp
 .by_cases g:jB name 2≠0
  .by_cases i:jB name 2<l
   .refine ef.succ (F:=fun f=>Wb (il tr f y (jB name 2) (s.add [40])) fun s=>Wb (il tr f z (jB name 2+1) (s.add (if name=[109,111,100] then [32,109,111,100,32] else name))) fun s=>O (O (s.add [41]))) ?_ fun f=>by simp_all [nM,zip]
    refine ef.wb (G:=fun s f=>Wb (il tr f z (jB name 2+1) (s.add (if name=[109,111,100] then [32,109,111,100,32] else name))) fun s=>O (O (s.add [41]))) (Fc tr _ _ _) (fun s=>Mon.wb (Fc tr _ _ _) fun _=>Mon.const _) (ih (s.add [40]) d _ _) (fun f q b=>?_);have b:q.fuel<(s.add [40]).fuel:=(S4 tr f).tm _ _ _ _ b;have b:q.fuel<s.fuel:=b;exact ef.wb (G:=fun s _=>O (O (s.add [41]))) (Fc tr _ _ _) (fun _=>Mon.const _) (ih (q.add _) (show q.fuel<n by omega) _ _) (fun _ _ _=>⟨0,_,J⟩)
   .refine ef.succ (F:=fun f=>Wb (il tr f y (jB name 2) s) fun s=>il tr f z (jB name 2+1) (s.add (if name=[109,111,100] then [32,109,111,100,32] else name))) ?_ fun f=>by simp_all [nM,zip,bO]
    refine ef.wb (G:=fun s f=>il tr f z (jB name 2+1) (s.add (if name=[109,111,100] then [32,109,111,100,32] else name))) (Fc tr _ _ _) (fun s=>Fc tr _ _ _) (ih s d _ _) (fun f q b=>?_);have b:q.fuel<s.fuel:=(S4 tr f).tm _ _ _ _ b;exact ih (q.add _) (show q.fuel<n by omega) _ _
  .by_cases hx:name=[46]
   .exact ef.succ (amO ht ih m hm y z 91 s e) fun f=>by simp_all [nM,bO,zip]
   .exact ef.succ (c _) fun f=>by rw[nM,bO g,bO hx]
 .exact ef.succ (c _) fun f=>by rw[nM];simp
end
def amQ{tr:Tr}(ht:mi tr):∀ (n:Nat) (s:Ws),s.fuel<n->∀ t l,ef (fun f=>il tr f t l s)
 | 0,s,h=>absurd h (a1K _)
 | n+1,s,h=>fun t l=>by
  by_cases c:s.fuel=0
  .exact⟨1,V,by simp_all [il,zip]⟩
  obtain⟨f1,u,hu⟩:=DQ ht t;have key:∀ {F:Nat->Option (Option Ws)},Mon F->ef F->(∀ f,dR tr f t=O u->il tr (f+1) t l s=F f)->ef (fun f=>il tr f t l s):=fun hm d he=>by
   obtain⟨f3,r,hr⟩:=d;exact⟨_,r,by dsimp only;rw[he _ (IB hu (a1F f1 f3))];exact hm.more hr (a1D f1 f3)⟩
  have e:∀ {x:Option (Option Ws)} {r:Option Ws},x=O r->(∀ f,dR tr f t=O u->il tr (f+1) t l s=x)->ef (fun f=>il tr f t l s):=fun hx he=>
   key (F:=fun _=>_) (Mon.const _) ⟨0,_,hx⟩ he
  cases u with
  | comp x a=>exact key (aHV tr x a l _) (aHY ht (amQ ht n) n (a0D _) x a l { s with fuel:=s.fuel-1 } zg) fun f b=>by simp_all [il,bO]
  | _=>exact e J fun f b=>by rw[il,bO c,b]
def W6(tr:Tr):∀ (names:List Bs) (l:List Tm) (s:Ws),Mon (fun f=>y6 tr f names l s)
 | [],l,s=>by intro f;simp_all [y6,Le.rfl]
 | _::_,[],s=>by intro f;simp_all [y6,Le.rfl]
 | nm::names,t::l,s=>by
  intro f;simp only[y6];split
  .exact W6 tr names l s f
  .exact M1 (Fc tr t 0 _ f) fun q=>W6 tr names l q f
def ac9{tr:Tr}(ht:mi tr):∀ (names:List Bs) (l:List Tm) (s:Ws),ef (fun f=>y6 tr f names l s)
 | [],l,s=>⟨0,O s,by simp_all [y6]⟩
 | _::_,[],s=>⟨0,O s,by simp_all [y6]⟩
 | nm::names,t::l,s=>by
  simp only[y6];split
  .exact ac9 ht names l s
  .exact ef.wb (G:=fun q f=>y6 tr f names l q) (Fc tr t 0 _) (fun q=>W6 tr names l q) (amQ ht _ _ (Nat.lt_succ_self _) t 0) (fun _ q _=>ac9 ht names l q)
theorem aHZ{t:Tm}{s:Sr}{p:Bool×Sr}(hk:mh s.tr)(ht:er t)(h:q9 f i t s=O (.ok p)):mh p.2.tr:=by
 unfold q9 at h;obtain⟨q,c,a⟩| ⟨e,c,a⟩:=Out.bind_some h
 .obtain⟨b,s1⟩:=q;have d:s1.tr=s.tr:=((GF f).tm c).1;cases b with
  | true=>
   grind
  | false=>
   simp only[a06,if_false,Option.some.injEq,Except.ok.injEq] at a;subst a;show mh ((i,t)::s1.tr);rw[d];exact⟨ht,hk⟩
 grind
def amR:er (.var i):=by simp_all [er]
def amS:∀ f,(∀ a b s p,mh s.tr->er a->er b->gY f a b s=O (.ok p)->mh p.2.tr)/\(∀ l r s p,mh s.tr->iX l->iX r->lJ f l r s=O (.ok p)->mh p.2.tr)
 | 0=>⟨fun _ _ _ _ _ _ _ h=>(by cases h),fun _ _ _ _ _ _ _ h=>(by cases h)⟩
 | f+1=>by
  obtain⟨i,j⟩:=amS f;constructor
  .intro a b s p ht c d h;rw[gY] at h;split at h
   .grind
   .cases hw:dR s.tr f a with
    | none=>grind
    | some u=>
     cases hv:dR s.tr f b with
     | none=>grind
     | some v=>
      rw[hw,hv] at h;have k:mh s.dec.tr:=ht;have hu:=vq ht c hw;have m:=vq ht d hv;grind [aHZ,er]
  .intro l r s p ht g hr h;cases l with
   | nil=>grind [lJ]
   | cons a l=>
    cases r with
    | nil=>grind [lJ]
    | cons b r=>
     unfold iX at g hr;rw[lJ] at h;obtain⟨q,g1,g2⟩| ⟨e,g1,g2⟩:=Out.bind_some h<;>grind
structure jC(s:Sr):Prop where
 nC:mi s.tr
 ok:mh s.tr
theorem jC.gO{s:Sr}(h:jC s)(m:Nat):jC (s.gO m):=⟨h.nC.drop _,P.mh.amT _ h.ok⟩
where
 P.mh.amT:∀ (k:Nat) {tr:Tr},mh tr->mh (tr.drop k)
  | 0,_,h=>h
  | _+1,[],h=>h
  | k+1,(_,_)::_,h=>P.mh.amT k h.2
theorem jC.Fe{a b:Tm}{s:Sr}{p:Bool×Sr}(h:jC s)(c:er a)(d:er b)(hr:gY f a b s=O (.ok p)):jC p.2:=⟨(ac6 f).1 _ _ _ _ h.nC hr,(amS f).1 _ _ _ _ h.ok c d hr⟩
theorem jC.test{name:Bs}{args:List Tm}{s:Sr}{p:Bool×Sr}(g:jC s)(l:∀ t∈args,er t)(m:jx name=args.length)(h:uy f name args s=O (.ok p)):jC p.2:=by
 have d:∀ j,j<args.length->er (args.getD j default):=fun j n=>by
  grind
 have two:∀ x∈([[61],[92,61],[61,61],[105,115],[60],[62],[61,60],[62,61],[61,58,61]]:List Bs),name=x->1<args.length:=fun x hx e=>by
  subst e;have:jx name=2:=by
   simp only[List.mem_cons,List.not_mem_nil,or_false] at hx;rcases hx with rfl | rfl | rfl | rfl | rfl | rfl | rfl | rfl | rfl<;>rfl
  omega
 have tr:∀ {q:Sr},q.tr=s.tr->jC q:=fun e=>⟨by grind [nC],by grind [ok]⟩;unfold uy at h;split at h
 .grind
 split at h
 .grind [Fe]
 split at h
 .rename_i c;have:=two [92,61] zs c;obtain⟨q,b,a⟩| ⟨e,b,a⟩:=Out.bind_some h
  .grind [gO,Fe]
  grind
 split at h
 .exact tr ((Pn f).tm h).1
 split at h
 .rename_i c;have:=two [105,115] zs c;obtain⟨q,b,a⟩| ⟨e,b,a⟩:=Out.bind_some h
  .obtain⟨g1,g2,g3⟩:=Ap f g.ok (d 1 this) b;refine(tr g1).Fe (d 0 zo) (by unfold er;exact g3) a
  grind
 split at h
 .grind
 split at h
 .grind
 .obtain⟨q,b,a⟩| ⟨e,b,a⟩:=Out.bind_some h
  .obtain⟨q2,i,k⟩| ⟨e,i,k⟩:=Out.bind_some a
   .grind [jx,Ap,ok]
   grind
  grind
theorem jC.head{f:Nat}{vs:List Nat}:∀ {l:List Tm} {r:List Ex} {s:Sr} {p:Bool×Sr},jC s->iX l->fg vs.length r->rf f vs l r s=O (.ok p)->jC p.2
 | [],r,s,p,b,_,_,h=>by grind [rf]
 | a::l,[],s,p,b,_,_,h=>by grind [rf]
 | a::l,x::r,s,p,b,c,hr,h=>by
  rw[rf] at h;unfold iX at c;unfold fg at hr;obtain⟨q,g,d⟩| ⟨e,g,d⟩:=Out.bind_some h
  .have i:=b.Fe c.1 (WQ vs _ hr.1) g;split at d
   .exact jC.head i c.2 hr.2 d
   grind
  grind
def W7(vs:List Nat):∀ (l:List Tm) (r:List Ex) (s:Sr),Mon (fun f=>rf f vs l r s)
 | [],r,s=>by intro f;simp_all [rf,Le.rfl]
 | _::_,[],s=>by intro f;simp_all [rf,Le.rfl]
 | a::l,x::r,s=>by
  intro f;simp only[rf];refine Out.vw (ID _ _ _ f) fun p=>?_;split
  .exact W7 vs l r p.2 f
  simp_all [Le.rfl]
def amU{vs:List Nat}:∀ {l:List Tm} {r:List Ex} {s:Sr},jC s->iX l->fg vs.length r->ef (fun f=>rf f vs l r s)
 | [],r,s,_,_,_=>⟨0,.ok (A,s),by simp_all [rf]⟩
 | _::_,[],s,_,_,_=>⟨0,.ok (A,s),by simp_all [rf]⟩
 | a::l,x::r,s,d,c,hr=>by
  simp only[rf];unfold iX at c;unfold fg at hr;refine ef.bind (G:=fun p f=>if p.1 then rf f vs l r p.2 else O (.ok (ae,p.2))) (ID _ _ _) (fun p=>Mon.ite (W7 vs l r p.2) (Mon.const _)) (M6 _ s (Nat.lt_succ_self _) d.nC _ _) (fun f p e=>?_);have g:=d.Fe c.1 (WQ vs _ hr.1) e;obtain⟨b,s1⟩:=p;cases b with
  | true=>exact amU g c.2 hr.2
  | false=>exact⟨0,_,J⟩
def amV(k:Wk)(c:Cl)(rest:List Cl)(td:List Goal)(m:Nat)(p:Bool×Sr):Out (Bool×Wk):=
 if p.1 then O (.ok (A,⟨k.n+c.vars.length,p.2,⟨O c.body,List.range' k.n c.vars.length,m⟩::td,rH k.br m rest⟩))
 else O (.ok (ae,⟨k.n+c.vars.length,p.2,k.todo,rH k.br m rest⟩))
def ada(args:List Tm)(l:List Cl)(td:List Goal)(m:Nat)(k:Wk):Mon (fun f=>sL f args l td m k):=by
 intro f;simp only[sL];split
 .exact Le.rfl
 .cases l with
  | nil=>exact Le.rfl
  | cons c rest=>exact Out.vw (W7 _ _ _ _ f) fun _=>Le.rfl
def amW{args:List Tm}{l:List Cl}{td:List Goal}{k:Wk}(a:jC k.sr)(b:iX args)(g:l≠[])(d:∀ c∈l,sN M c):ef (fun f=>sL f args l td m k):=by
 simp only[sL];split
 .exact⟨0,_,J⟩
 .cases l with
  | nil=>grind
  | cons c rest=>
   have e:=d c (a0O ..);exact ef.bind (G:=fun p _=>amV k c rest td m p) (W7 _ _ _ _) (fun _=>Mon.const _) (amU (show jC k.sr.dec from⟨a.nC,a.ok⟩) b (by rw[List.length_range'];exact e.args)) (fun f p _=>by
    unfold amV;cases p.1<;>exact⟨0,_,J⟩)
def jC.clause{args:List Tm}{l:List Cl}{td:List Goal}{k:Wk}{p:Bool×Wk}(a:jC k.sr)(d:iX args)(g:∀ c∈l,sN M c)(h:sL f args l td m k=O (.ok p)):jC p.2.sr:=by
 unfold sL at h;split at h
 .grind
 .cases l with
  | nil=>grind
  | cons c rest=>
   have i:=g c (a0O ..);simp only at h;obtain⟨q,b,j⟩| ⟨e,b,j⟩:=Out.bind_some h
   .have n:=jC.head (show jC k.sr.dec from⟨a.nC,a.ok⟩) d (by rw[List.length_range'];exact i.args) b;grind
   grind
def aH0(base:List Cl)(name:Bs)(ex:List Ex)(vars:List Nat)(k:Wk):Mon (fun f=>E8 base f name ex vars k):=by
 intro f;simp only[E8];split
 .exact Out.vw (W0 _ _ _ f) fun _=>Le.rfl
 .cases base.filter fun c=>c.name == name && c.args.length == ex.length with
  | nil=>exact Le.rfl
  | cons c l=>exact ada _ _ _ _ _ f
def aH1{base:List Cl}{name:Bs}{ex:List Ex}{k:Wk}(b:jC k.sr)(hx:fg fw.length ex)(d:∀ c∈base,sN M c):ef (fun f=>E8 base f name ex fw k):=by
 have a:=IA fw ex hx;simp only[E8];split
 .rename_i ht;exact ef.bind (G:=fun p _=>O (.ok (p.1,{ k with sr:=p.2 }))) (W0 _ _ _) (fun _=>Mon.const _) (amF b.nC b.ok (fun t ht=>W4 a.1 ht) (by rw[a.2,ht])) (fun _ _ _=>⟨0,_,J⟩)
 .cases e:base.filter fun c=>c.name == name && c.args.length == ex.length with
  | nil=>exact⟨0,_,J⟩
  | cons c l=>exact amW zo a.1 zs (fun x hx=>d x (List.mem_filter.1 (by rw[e];omega)).1)
def jC.goal{base:List Cl}{name:Bs}{ex:List Ex}{k:Wk}{p:Bool×Wk}(i:jC k.sr)(hx:fg fw.length ex)(a:∀ c∈base,sN M c)(h:E8 base f name ex fw k=O (.ok p)):jC p.2.sr:=by
 have b:=IA fw ex hx;unfold E8 at h;split at h
 .rename_i ht;obtain⟨q,d,g⟩| ⟨e,d,g⟩:=Out.bind_some h
  .grind [W4,test]
  grind
 .split at h
  .grind
  .exact jC.clause zo b.1 (fun x hx=>a x (List.mem_filter.1 hx).1) h
def amX(base:List Cl)(g:Goal)(k:Wk):Mon (fun f=>y5 base f g k):=by
 intro f;simp only[y5];split
 .exact Le.rfl
 .cases g.Bm with
  | none=>exact Le.rfl
  | some b=>
   cases b;simp only;split
   .exact Le.rfl
   split
   .exact Le.rfl
   split
   .exact Le.rfl
   split
   .exact Le.rfl
   split
   .exact Le.rfl
   .exact aH0 _ _ _ _ _ f
def aH2{base:List Cl}{g:Goal}{k:Wk}(d:jC k.sr)(e:∀ b,g.Bm=O b->eY g.vars.length M b)(i:∀ c∈base,sN M c):ef (fun f=>y5 base f g k):=by
 simp only[y5];split
 .exact⟨0,_,J⟩
 .cases hw:g.Bm with
  | none=>exact⟨0,_,J⟩
  | some b=>
   obtain⟨kind,name,args,parts⟩:=b;have eW:=e _ hw;unfold eY at eW;obtain⟨o,p,⟨j,l,m⟩,q,n,r,jT,s⟩:=eW;simp only;split
   .exact⟨0,_,J⟩
   split
   .exact⟨0,_,J⟩
   split
   .rename_i h;have:=j h
    match parts,this with
    | [a,b],_=>exact⟨0,_,J⟩
   split
   .rename_i h;have:=l h
    match parts,this with
    | [a,b,c],_=>exact⟨0,_,J⟩
   split
   .rename_i h;have:=m h
    match parts,this with
    | [a],_=>exact⟨0,_,J⟩
   .exact aH1 (show jC k.sr.dec from⟨d.nC,d.ok⟩) n i
theorem jC.step{base:List Cl}{g:Goal}{k:Wk}{p:Bool×Wk}(d:jC k.sr)(e:∀ b,g.Bm=O b->eY g.vars.length M b)(i:∀ c∈base,sN M c)(h:y5 base f g k=O (.ok p)):jC p.2.sr:=by
 have a:jC k.sr.dec:=⟨d.nC,d.ok⟩;unfold y5 at h;split at h
 .grind
 .cases hw:g.Bm with
  | none=>grind
  | some b=>
   obtain⟨kind,name,args,parts⟩:=b;have eW:=e _ hw;unfold eY at eW;obtain⟨l,m,⟨n,o,q⟩,r,j,s,jT,t⟩:=eW;rw[hw] at h;simp only at h;split at h
   .grind
   split at h
   .grind
   split at h
   .split at h
    .injection h with h;injection h with h;subst h;exact a
    grind
   split at h
   .split at h
    .injection h with h;injection h with h;subst h;exact a
    grind
   split at h
   .split at h
    .injection h with h;injection h with h;subst h;exact a
    grind
   .exact jC.goal zo j i h
def W8(base:List Cl):∀ (f d:Nat) (b:Bool) (k:Wk),Le (ju base d f b k) (ju base (d+1) f b k)
 | 0,d,b,k=>by intro r h;simp_all [ju]
 | f+1,d,A,k=>by
  rw[ju,ju];cases k.todo with
  | nil=>exact Le.rfl
  | cons g r=>exact Out.vw (amX base g _ d) fun p=>W8 base f d p.1 p.2
 | f+1,d,ae,k=>by
  rw[ju,ju];cases k.br.getLast? with
  | none=>exact Le.rfl
  | some a=>
   simp only;cases a.clauses with
   | nil=>exact W8 base f d _ _
   | cons c l=>exact Out.vw (ada _ _ _ _ _ d) fun p=>W8 base f d p.1 p.2
def W9(base:List Cl)(d:Nat):∀ (f:Nat) (b:Bool) (k:Wk),Le (ju base d f b k) (ju base d (f+1) b k)
 | 0,b,k=>by intro r h;simp_all [ju]
 | f+1,A,k=>by
  rw[ju,ju];cases k.todo with
  | nil=>exact Le.rfl
  | cons g r=>exact Out.vw Le.rfl fun p=>W9 base d f p.1 p.2
 | f+1,ae,k=>by
  rw[ju,ju];cases k.br.getLast? with
  | none=>exact Le.rfl
  | some a=>
   simp only;cases a.clauses with
   | nil=>exact W9 base d f _ _
   | cons c l=>exact Out.vw Le.rfl fun p=>W9 base d f p.1 p.2
def Xa{base:List Cl}{f':Nat}{b:Bool}{k:Wk}{r:Except iM (Bool×Wk)}(h:ju base d f b k=O r)(a:d<=pb)(c:f<=f'):ju base pb f' b k=O r:=by
 have e:ju base pb f b k=O r:=Le.many (F:=fun d=>ju base d f b k) (fun d=>W8 base f d b k) a _ h;exact Le.many (F:=fun f=>ju base pb f b k) (fun f=>W9 base pb f b k) c _ e
def Xc{base:List Cl}{M:Nat}(fx:∀ c∈base,sN M c):∀ (n:Nat) (b:Bool) (k:Wk),3*k.sr.fuel+k.br.length+(if b then 0 else 1)<n->kP M B { k with todo:=if b then k.todo else [] }->jC k.sr->∃ d f r,ju base d f b k=O r
 | 0,_,_,h,_,_=>absurd h (a1K _)
 | n+1,A,k,h,hk,hs=>by
  simp only[if_true] at h hk;cases ht:k.todo with
  | nil=>exact⟨0,1,.ok (A,{ k with todo:=[⟨O yA,[],0⟩] }),by simp_all [ju]⟩
  | cons g r=>
   have Aa:kP M B { k with todo:=g::r }:=zg;have Bn:=(Aa.todo:nw M k.n k.br.length (g::r)).2.2.1;obtain⟨d1,q,h1⟩:=aH2 (k:={ k with todo:=r }) zo Bn fx;cases q with
   | error e=>exact⟨d1,1,.error e,by simp_all [ju]⟩
   | ok p=>
    obtain⟨b1,k1⟩:=p;obtain⟨g1,g2,g3⟩:=ac7 Aa hs.ok fx h1;have hl:=aH3 h1;obtain⟨d2,f2,r2,h2⟩:=Xc fx n b1 k1 (by
     grind) g1 (jC.step (k:={ k with todo:=r }) zo Bn fx h1)
    refine⟨max d1 d2,f2+1,r2,?_⟩;have h3:=(amX base g { k with todo:=r }).more h1 (a1F d1 d2);rw[ju,ht];simp only[h3,Out.ek];exact Xa h2 (a1D _ _) (a0D _)
 | n+1,ae,k,h,hk,hs=>by
  simp only[a06,if_false] at h hk;cases hl:k.br.getLast? with
  | none=>exact⟨0,1,.ok (ae,k),by simp_all [ju]⟩
  | some a=>
   obtain⟨u1,u2,u3,u4⟩:=hk.gO hl;have kN:=hk.ag _ _ u2;cases hc:a.clauses with
   | nil=>
    obtain⟨d2,f2,r2,h2⟩:=Xc fx n A { k with sr:=k.sr.gO a.mark,todo:=a.todo,br:=k.br.dropLast } (by
     grind) (hk.back hl) (by exact hs.gO _)
    exact⟨d2,f2+1,r2,by simp_all [ju]⟩
   | cons c l=>
    have tn:∀ x∈a.clauses,sN M x:=fun x hx=>(kN.cls x hx).1;obtain⟨d1,q,h1⟩:=amW (args:=a.args) (l:=a.clauses) (td:=a.todo) (m:=k.br.length-1) (k:={ k with sr:=k.sr.gO a.mark }) (by exact hs.gO _) kN.args zg tn;cases q with
    | error e=>exact⟨d1,1,.error e,by simp_all [ju]⟩
    | ok p=>
     obtain⟨b1,k1⟩:=p;obtain⟨g1,g2,g3⟩:=hk.again hl h1;have hlen:=amY (k:={ k with sr:=k.sr.gO a.mark }) (show k.br.length-1<=k.br.length by omega) h1;obtain⟨d2,f2,r2,h2⟩:=Xc fx n b1 k1 (by
      grind) g1 (jC.clause (k:={ k with sr:=k.sr.gO a.mark }) (by exact hs.gO _) kN.args tn h1)
     refine⟨max d1 d2,f2+1,r2,?_⟩;have h3:=(ada a.args a.clauses a.todo (k.br.length-1) { k with sr:=k.sr.gO a.mark }).more h1 (a1F d1 d2);rw[ju,hl];simp only;rw[hc];simp only;rw[<- hc];rw[h3,Out.ek];exact Xa h2 (a1D _ _) (a0D _)
where
 aH4 {br:List nO} {m:Nat} {l:List Cl} (hm:m<=br.length):(rH br m l).length<=br.length:=by
  cases l with
  | nil=>simp_all [rH,List.length_take]
  | cons c r=>
   grind [rH,List.length_take,a08,List.length_append,List.length_cons,List.length_nil]
 amY {f m:Nat} {args:List Tm} {l:List Cl} {td:List Goal} {k:Wk} {p:Bool×Wk} (hm:m<=k.br.length) (h:sL f args l td m k=O (.ok p)):p.2.br.length<=k.br.length:=by
  unfold sL at h;split at h
  .grind
  .cases l with
   | nil=>grind
   | cons c rest=>
    simp only at h;obtain⟨q,h1,h2⟩| ⟨e,h1,h2⟩:=Out.bind_some h
    .split at h2<;>(injection h2 with h2;injection h2 with h2;subst h2;exact aH4 hm)
    grind
 aH3 {base:List Cl} {f:Nat} {g:Goal} {k:Wk} {p:Bool×Wk} (h:y5 base f g k=O (.ok p)):p.2.br.length<=k.br.length+1:=by
  unfold y5 at h;split at h
  .grind
  .have cut:∀ m,(k.br.take m).length<=k.br.length+1:=fun m=>zg;cases hw:g.Bm with
   | none=>grind
   | some b=>
    obtain⟨kind,name,args,parts⟩:=b;rw[hw] at h;simp only at h;split at h
    .grind
    split at h
    .grind
    split at h
    .grind [Wk.M7]
    split at h
    .grind [Wk.M7]
    split at h
    .grind [Wk.M7]
    .unfold E8 at h;split at h
     .obtain⟨q,h1,h2⟩| ⟨e,h1,h2⟩:=Out.bind_some h<;>grind
     .split at h
      .grind
      .have:=amY zs h;grind
def S5{base:List Cl}{M d:Nat}(m:∀ c∈base,sN M c):∀ (f:Nat) (b:Bool) (k:Wk) (p:Bool×Wk),kP M B { k with todo:=if b then k.todo else [] }->jC k.sr->ju base d f b k=O (.ok p) ->
  kP M B { p.2 with todo:=if p.1 then p.2.todo else [] }/\jC p.2.sr/\k.n<=p.2.n/\p.2.sr.fuel<=k.sr.fuel
 | 0,_,_,_,_,_,h=>by simp_all [ju]
 | f+1,A,k,p,hk,o,h=>by
  rw[ju] at h;simp only[if_true] at hk;cases ht:k.todo with
  | nil=>
   rw[ht] at h;injection h with h;injection h with h;subst h;refine⟨⟨⟨?_,hk.ag,hk.marks,hk.mono⟩,hk.cW,hk.mR⟩,o,a0D _,a0D _⟩;exact⟨Nat.zero_le _,(fun i I=>zg),(fun b K=>by grind [acT]),trivial⟩
  | cons g r=>
   rw[ht] at h;have w:kP M B { k with todo:=g::r }:=zg;have z:=(w.todo:nw M k.n k.br.length (g::r)).2.2.1;obtain⟨q,j,s⟩| ⟨e,j,s⟩:=Out.bind_some h
   .obtain⟨g1,g2,g3⟩:=ac7 w o.ok m j;obtain⟨C,D,E,F⟩:=S5 m f q.1 q.2 p g1 (jC.step (k:={ k with todo:=r }) zo z m j) s;grind
   grind
 | f+1,ae,k,p,hk,o,h=>by
  rw[ju] at h;simp only[a06,if_false] at hk;cases t:k.br.getLast? with
  | none=>
   grind
  | some a=>
   rw[t] at h;simp only at h;obtain⟨L,G,N,P⟩:=hk.gO t;have y:=hk.ag _ _ G;cases u:a.clauses with
   | nil=>
    rw[u] at h;exact S5 m f A { k with sr:=k.sr.gO a.mark,todo:=a.todo,br:=k.br.dropLast } p (hk.back t) (by exact o.gO _) h
   | cons c l=>
    rw[u] at h;simp only at h;rw[<- u] at h;have H:∀ x∈a.clauses,sN M x:=fun x hx=>(y.cls x hx).1;obtain⟨q,j,s⟩| ⟨e,j,s⟩:=Out.bind_some h
    .obtain⟨g1,g2,g3⟩:=hk.again t j;obtain⟨C,D,E,F⟩:=S5 m f q.1 q.2 p g1 (jC.clause (k:={ k with sr:=k.sr.gO a.mark }) (by exact o.gO _) y.args H j) s;grind
    grind
end
structure In where
 word:Bs
 name:Bs
 const:Option Tm
 s:List Nat
deriving Inhabited
structure Co where
 slots:Nat
 ins:List In
deriving Inhabited
structure Mk where
 slots:Nat
 ins:List In
 vars:List (Option Nat)
def Mk.put(m:Mk)(word name:Bs)(c:Option Tm)(s:List Nat):Mk:={ m with ins:=m.ins++[⟨word,name,c,s⟩] }
def Mk.slot(m:Mk):Option (Nat×Mk):=if 64<m.slots+1 then V else O (m.slots,{ m with slots:=m.slots+1 })
def Mk.sO(m:Mk):Nat->Option (List Nat×Mk)
 | 0=>O ([],m)
 | n+1=>match m.slot with
  | none=>V
  | some (s,m)=>match m.sO n with
   | none=>V
   | some (l,m)=>O (s::l,m)
def Cv(kind:Nat)(name:Bs)(n:Int):Tm:=if kind=110 then .int n else .atom name
mutual
def y7:Ex->Nat->Mk->Option Mk
 | .mk kind name n k args,s,m=>
  if kind=118 then match m.vars.getD k V with
   | none=>O { m with vars:=m.vars.set k (O s) }
   | some t=>O (m.put [115,97,109,101] [] V [s,t])
  else if kind=99 then match m.sO args.length with
   | none=>V
   | some (l,m)=>sQ args l (m.put [115,112,108,105,116] name V (s::l))
  else O (m.put [99,111,110,115,116] [] (O (Cv kind name n)) [s])
 termination_by structural x=>x
def sQ:List Ex->List Nat->Mk->Option Mk
 | [],_,m=>O m
 | x::xs,l,m=>match y7 x (l.headD 0) m with
  | none=>V
  | some m=>sQ xs l.tail m
 termination_by structural x=>x
end
mutual
def Aq:Ex->Mk->Option (Nat×Mk)
 | .mk kind name n k args,m=>
  if kind=118 then O ((m.vars.getD k V).getD 0,m)
  else if kind≠99 then match m.slot with
   | none=>V
   | some (s,m)=>O (s,m.put [112,117,116] [] (O (Cv kind name n)) [s])
  else match sS args m with
   | none=>V
   | some (l,m)=>match m.slot with
    | none=>V
    | some (s,m)=>O (s,m.put [109,97,107,101] name V (s::l))
 termination_by structural x=>x
def sS:List Ex->Mk->Option (List Nat×Mk)
 | [],m=>O ([],m)
 | x::xs,m=>match Aq x m with
  | none=>V
  | some (s,m)=>match sS xs m with
   | none=>V
   | some (l,m)=>O (s::l,m)
 termination_by structural x=>x
end
def Mk.land(m:Mk)(k:Nat):Mk:={ m with ins:=m.ins.modify k fun i=>{ i with s:=[m.ins.length] } }
def kx:Bs:=[116,114,121]
def jV:Bs:=[106,117,109,112]
def kY:Bs:=[99,117,116]
def rh:Bs:=[108,101,118,101,108]
def nD:Bs:=[116,101,115,116]
def Ar:Bs:=[99,97,108,108]
def uB:Bs:=[110,101,119]
def vz:Bs:=[109,97,114,107]
mutual
def kZ:Bd->Nat->Mk->Option Mk
 | .mk kind name args parts,cut,m=>
  if kind=33 then O (m.put kY [] V [cut])
  else if kind=44 then sT parts cut m
  else if kind=59 then DS parts cut m
  else if kind=63 then match m.slot with
   | none=>V
   | some (s,m)=>DT parts s cut (m.put rh [] V [s])
  else if kind=126 then match m.slot with
   | none=>V
   | some (s,m)=>DU parts s (m.put rh [] V [s])
  else match sS args m with
   | none=>V
   | some (l,m)=>O (m.put (if jx name=l.length then nD else Ar) name V l)
 termination_by structural x=>x
def sT:List Bd->Nat->Mk->Option Mk
 | [],_,m=>O m
 | b::r,cut,m=>match kZ b cut m with
  | none=>V
  | some m=>sT r cut m
 termination_by structural x=>x
def DS:List Bd->Nat->Mk->Option Mk
 | [],_,_=>V
 | a::r,cut,m=>match kZ a cut (m.put kx [] V [0]) with
  | none=>V
  | some m1=>match sT r cut ((m1.put jV [] V [0]).land m.ins.length) with
   | none=>V
   | some m2=>O (m2.land m1.ins.length)
 termination_by structural x=>x
def DT:List Bd->Nat->Nat->Mk->Option Mk
 | [],_,_,_=>V
 | a::r,s,cut,m=>match kZ a s (m.put kx [] V [0]) with
  | none=>V
  | some m1=>Ff r cut m.ins.length (m1.put kY [] V [s])
 termination_by structural x=>x
def Ff:List Bd->Nat->Nat->Mk->Option Mk
 | [],_,_,_=>V
 | b::r,cut,k,m=>match kZ b cut m with
  | none=>V
  | some m1=>match sT r cut ((m1.put jV [] V [0]).land k) with
   | none=>V
   | some m2=>O (m2.land m1.ins.length)
 termination_by structural x=>x
def DU:List Bd->Nat->Mk->Option Mk
 | [],_,_=>V
 | a::_,s,m=>match kZ a s (m.put kx [] V [0]) with
  | none=>V
  | some m1=>O (((m1.put kY [] V [s]).put nD [102,97,105,108] V []).land m.ins.length)
 termination_by structural x=>x
end
def Mk.news(m:Mk):Nat->Nat->Option Mk
 | _,0=>O m
 | k,n+1=>match m.slot with
  | none=>V
  | some (s,m')=>Mk.news ({ m' with vars:=m'.vars.set k (O s) }.put uB [] V [s]) (k+1) n
def Mk.rest(m:Mk):Nat->Nat->Option Mk
 | _,0=>O m
 | k,n+1=>match m.vars.getD k V with
  | some _=>Mk.rest m (k+1) n
  | none=>match m.slot with
   | none=>V
   | some (s,m')=>Mk.rest ({ m' with vars:=m'.vars.set k (O s) }.put uB [] V [s]) (k+1) n
def Bo(args:List Ex)(body:Bd)(nv:Nat)(a:Bool):Option Co:=
 match (⟨0,[],a1g nv V⟩:Mk).sO args.length with
 | none=>V
 | some (b,m)=>match (if a then m.news 0 nv else O m) with
  | none=>V
  | some m=>match m.slot with
   | none=>V
   | some (cut,m)=>match sQ args b (m.put vz [] V [cut]) with
    | none=>V
    | some m=>match m.rest 0 nv with
     | none=>V
     | some m=>match kZ body cut m with
      | none=>V
      | some m=>O ⟨m.slots,(m.put (if a then [100,111,110,101] else [114,101,116]) [] V []).ins⟩
structure Pd where
 name:Bs
 arity:Nat
 clauses:List Co
def rI(name:Bs)(n:Nat)(c:Co):List Pd->List Pd
 | []=>[⟨name,n,[c]⟩]
 | p::r=>if p.name=name/\p.arity=n then{ p with clauses:=p.clauses++[c] }::r else p::rI name n c r
def xX:List Cl->List Pd->Option (List Pd)
 | [],l=>O l
 | c::r,l=>match Bo c.args c.body c.vars.length ae with
  | none=>V
  | some x=>xX r (rI c.name c.args.length x l)
def mS(first:Bs)(l:List Bs):Bs:=first++(l.map fun w=>32::w).flatten++[10]
def mT(w:Bs):Option Bs:=
 if w=uB\/w=vz\/w=rh\/w=kY then O [115]
 else if w=[112,117,116]\/w=[99,111,110,115,116] then O [115,99]
 else if w=[115,97,109,101] then O [115,115]
 else if w=[109,97,107,101]\/w=[115,112,108,105,116] then O [115,110,42]
 else if w=nD\/w=Ar then O [110,42]
 else if w=kx\/w=jV then O [112]
 else if w=[114,101,116]\/w=[100,111,110,101] then O []
 else V
def Cw:Option Tm->Bs
 | some (.int n)=>kX n
 | some (.atom a)=>a
 | _=>[]
def uC(i:In):Bs->List Nat->List Bs
 | [],_=>[]
 | x::r,s=>
  if x=115\/x=112 then gw (s.headD 0)::uC i r s.tail
  else if x=99 then Cw i.const::uC i r s
  else if x=110 then i.name::uC i r s
  else s.map gw++uC i r s
def GH(i:In):Bs:=mS i.word (uC i ((mT i.word).getD []) i.s)
def As(c:Co):Bs:=(c.ins.map GH).flatten
def wZ(p:Pd):Bs:=mS [112,114,101,100] [p.name,gw p.arity]++(p.clauses.map fun c=>mS [99,108,97,117,115,101] [gw c.slots]++As c).flatten
def y8(l:List Pd)(ask:Co)(told:Nat):Bs:=(l.map wZ).flatten++mS [113,117,101,114,121] [gw ask.slots,gw told]++As ask
inductive Sl where
 | nil
 | term (t:Tm)
 | level (n:Nat)
deriving Inhabited
structure Fm where
 code:Co
 slots:List Sl
 entry:Nat
 back:Option Nat
 pc:Nat
 ask:Bool
structure Ga where
 mark:Nat
 f:Nat
 pc:Nat
 others:List Co
 args:List Sl
structure Vm where
 n:Nat
 sr:Sr
 fs:List Fm
 f:Nat
 pc:Nat
 br:List Ga
def Vm.slot(m:Vm)(k:Nat):Sl:=match m.fs[m.f]? with
 | some x=>x.slots.getD k .nil
 | none=>.nil
def Vm.set(m:Vm)(k:Nat)(v:Sl):Vm:={ m with fs:=m.fs.modify m.f fun x=>{ x with slots:=x.slots.set k v } }
def Vm.at(m:Vm)(i:In)(k:Nat):Except iM Tm:=match m.slot (i.s.getD k 0) with
 | .term t=>.ok t
 | _=>.error (.fault 5)
def Vm.iI(m:Vm):List Nat->Except iM (List Tm)
 | []=>.ok []
 | k::r=>match m.slot k with
  | .term t=>match m.iI r with
   | .ok l=>.ok (t::l)
   | .error e=>.error e
  | _=>.error (.fault 5)
def Cx{α β:Type}(x:Except iM α)(k:α->Out β):Out β:=match x with
 | .error e=>O (.error e)
 | .ok a=>k a
def Vm.enter(m:Vm)(l:List Co)(args:List Sl)(f pc n:Nat):Option Vm:=
 match l with
 | []=>V
 | c::rest=>O { m with br:=m.br.take n++(match rest with | []=>[] | _=>[⟨m.sr.tr.length,f,pc,rest,args⟩]),fs:=m.fs++[⟨c,args++a1g (max c.slots args.length-args.length) .nil,n,O f,pc,ae⟩],f:=m.fs.length,pc:=0 }
def Vm.back(m:Vm):Option (Bool×Vm):=
 match m.br.getLast? with
 | none=>O (ae,m)
 | some a=>match a.others with
  | []=>O (A,{ m with sr:=m.sr.gO a.mark,f:=a.f,pc:=a.pc,br:=m.br.dropLast })
  | l=>match ({ m with sr:=m.sr.gO a.mark }:Vm).enter l a.args a.f a.pc (m.br.length-1) with
   | none=>V
   | some m=>O (A,m)
def qD(preds:List Pd)(d:Nat)(i:In)(m:Vm):Out (Bool×Vm):=
 let Fe (x:Out (Bool×Sr)):Out (Bool×Vm):=Out.bind x fun p=>O (.ok (p.1,{ m with sr:=p.2 }));let s0:=i.s.getD 0 0
 if i.word=uB then O (.ok (A,{ m.set s0 (.term (.var m.n)) with n:=m.n+1 }))
 else if i.word=[112,117,116] then O (.ok (A,m.set s0 (match i.const with | some t=>.term t | none=>.nil)))
 else if i.word=[99,111,110,115,116] then Cx (m.at i 0) fun t=>Fe (gY d t (i.const.getD default) m.sr)
 else if i.word=[115,97,109,101] then Cx (m.at i 0) fun t=>Cx (m.at i 1) fun u=>Fe (gY d t u m.sr)
 else if i.word=[109,97,107,101] then Cx (m.iI i.s.tail) fun l=>O (.ok (A,m.set s0 (.term (.comp i.name l))))
 else if i.word=[115,112,108,105,116] then Cx (m.at i 0) fun t=>match dR m.sr.tr d t with
  | none=>V
  | some (.var v)=>let m1:=i.s.tail.zipIdx.foldl (fun m p=>m.set p.1 (.term (.var (m.n+p.2)))) m;O (.ok (A,{ m1 with n:=m.n+i.s.tail.length,sr:=m.sr.bind v (.comp i.name ((List.range' m.n i.s.tail.length).map .var)) }))
  | some (.comp name args)=>if name=i.name/\args.length=i.s.length-1 then O (.ok (A,(i.s.tail.zip args).foldl (fun m p=>m.set p.1 (.term p.2)) m)) else O (.ok (ae,m))
  | some _=>O (.ok (ae,m))
 else if i.word=nD then Cx (m.iI i.s) fun l=>Fe (uy d i.name l m.sr)
 else if i.word=vz then O (.ok (A,m.set s0 (.level (match m.fs[m.f]? with | some x=>x.entry | none=>0))))
 else if i.word=rh then O (.ok (A,m.set s0 (.level m.br.length)))
 else if i.word=kY then match m.slot s0 with
  | .level n=>O (.ok (A,{ m with br:=m.br.take (min n m.br.length) }))
  | _=>O (.error (.fault 5))
 else if i.word=kx then O (.ok (A,{ m with br:=m.br++[⟨m.sr.tr.length,m.f,s0,[],[]⟩] }))
 else if i.word=jV then O (.ok (A,{ m with pc:=s0 }))
 else if i.word=Ar then match preds.find? fun p=>p.name == i.name && p.arity == i.s.length with
  | none=>O (.error (.fault 10))
  | some p=>match p.clauses with
   | []=>O (.ok (ae,m))
   | l=>match m.enter l (i.s.map m.slot) m.f m.pc m.br.length with
    | none=>V
    | some m=>O (.ok (A,m))
 else if i.word=[114,101,116] then match m.fs[m.f]? with
  | none=>V
  | some x=>match x.back with
   | none=>O (.error (.fault 5))
   | some b=>O (.ok (A,{ m with f:=b,pc:=x.pc }))
 else O (.ok (A,m))
def ld(preds:List Pd)(d:Nat):Nat->Vm->Out (Bool×Vm)
 | 0,_=>V
 | f+1,m=>
  if m.sr.fuel=0 then O (.error .y3)
  else match m.fs[m.f]? with
   | none=>V
   | some x=>match x.code.ins[m.pc]? with
    | none=>O (.error (.fault 5))
    | some i=>
     let m:={ m with sr:=m.sr.dec,pc:=m.pc+1 }
     if i.word=[100,111,110,101] then(if x.ask then O (.ok (A,m)) else O (.error (.fault 5)))
     else Out.bind (qD preds d i m) fun p=>
      if p.1 then ld preds d f p.2
      else match p.2.back with
       | none=>V
       | some (ae,m)=>O (.ok (ae,m))
       | some (A,m)=>ld preds d f m
def Cy(preds:List Pd)(d f:Nat)(m:Vm):Out (Bool×Vm):=
 if 0<m.pc then match m.back with
  | none=>V
  | some (ae,m)=>O (.ok (ae,m))
  | some (A,m)=>ld preds d f m
 else ld preds d f m
structure Qv where
 err:Nat
 vm:Vm
def Qv.new(c:Co):Qv:=⟨0,0,⟨[],0⟩,[⟨c,a1g c.slots .nil,0,V,0,A⟩],0,0,[]⟩
structure En where
 St:Type
 sr:St->Sr
 nv:St->Nat
 fu:St->Nat->St
 nx:Nat->Nat->St->Out (Bool×St)
 told:St->Except iM (List Tm)
def iM.no:iM->Nat
 | .fault e=>e
 | .y3=>11
abbrev Qs(E:En):=Option Nat×E.St
def xe(E:En)(names:List Bs)(d f:Nat)(q:Qs E):Option ((Bs×Nat)×Qs E):=
 match q.1 with
 | some e=>O (([],e),q)
 | none=>match E.nx d f (E.fu q.2 1000000) with
  | none=>V
  | some (.error t)=>O (([],t.no),(O t.no,q.2))
  | some (.ok (ae,k))=>O (([],6),(O 6,k))
  | some (.ok (A,k))=>match E.told k with
   | .error t=>O (([],t.no),(O t.no,k))
   | .ok l=>match y6 (E.sr k).tr d names l ⟨(E.sr k).fuel,[],[]⟩with
    | none=>V
    | some V=>O (([],11),(O 11,k))
    | some (O s)=>O ((if s.out=[] then [116,114,117,101] else s.out,0),(V,E.fu k s.fuel))
def Pq(base:List Cl)(nv:Nat):En where
 St:=Wk
 sr k:=k.sr
 nv k:=k.n
 fu k f:={ k with sr:={ k.sr with fuel:=f } }
 nx d f k:=ju base d f A k
 told _:=.ok ((List.range nv).map .var)
def Fg:Bs:=[112,117,116]
def DV:Bs:=[99,111,110,115,116]
def Fh:Bs:=[115,97,109,101]
def IE:Bs:=[109,97,107,101]
def IF:Bs:=[115,112,108,105,116]
def Na:Bs:=[114,101,116]
def Nb:Bs:=[100,111,110,101]
def S6:Tm->Bool
 | .atom _=>A
 | .int _=>A
 | _=>ae
structure sU(n:Nat)(i:In):Prop where
 kn:i.word∈[uB,Fg,DV,Fh,IE,IF,nD,vz,rh,kY,kx,jV,Ar,Na,Nb]
 sl:i.word≠kx->i.word≠jV->∀ k∈i.s,k<n
 one:i.word=uB\/i.word=Fg\/i.word=DV\/i.word=vz\/i.word=rh\/i.word=kY\/i.word=kx\/i.word=jV->i.s.length=1
 same:i.word=Fh->i.s.length=2
 two:i.word=IE\/i.word=IF->2<=i.s.length
 test:i.word=nD->jx i.name=i.s.length
 con:i.word=Fg\/i.word=DV->∃ t,i.const=O t/\er t/\S6 t=A
 S7:i.name.length<=20
 qC:i.s.length<=60
 small:∀ k∈i.s,k<100000
structure vA(c:Co):Prop where
 ins:∀ i∈c.ins,sU c.slots i
 sl:c.slots<=64
 len:c.ins.length<=100000
structure ade(p:Pd):Prop where
 cls:∀ c∈p.clauses,vA c
 len:p.clauses.length<=100000
def Au:Sl->Prop
 | .term t=>er t
 | _=>True
structure adf(n:Nat)(x:Fm):Prop where
 code:vA x.code
 sl:x.code.slots<=x.slots.length
 tm:∀ y∈x.slots,Au y
 back:∀ b,x.back=O b->b<n
structure Xd(n:Nat)(a:Ga):Prop where
 f:a.f<n
 others:∀ c∈a.others,vA c
 args:∀ y∈a.args,Au y
 qC:a.args.length<=60
structure gi(B:Nat)(m:Vm):Prop where
 f:m.f<m.fs.length
 fr:∀ (i:Nat) (x:Fm),m.fs[i]?=O x->adf m.fs.length x
 ag:∀ (i:Nat) (a:Ga),m.br[i]?=O a->Xd m.fs.length a
 marks:∀ (i:Nat) (a:Ga),m.br[i]?=O a->a.mark<=m.sr.tr.length
 mono:∀ (i j:Nat) (a b:Ga),i<=j->m.br[i]?=O a->m.br[j]?=O b->a.mark<=b.mark
 cW:m.sr.cW<=B
 mR:m.br.length+m.sr.fuel<=B
 pc:m.pc<=200000
 uD:∀ (i:Nat) (x:Fm),m.fs[i]?=O x->x.pc<=200000
 vB:∀ (i:Nat) (a:Ga),m.br[i]?=O a->a.pc<=200000
section
variable{B:Nat}{m:Vm}
theorem gi.up(h:gi B m)(a:B<=B'):gi B' m:=⟨h.f,h.fr,h.ag,h.marks,h.mono,a0E h.cW a,a0E h.mR a,h.pc,h.uD,h.vB⟩
def gi.IG(h:gi B m){s:Sr}(e:B<=B')(b:m.sr.tr <:+ s.tr)(g:s.fuel<=m.sr.fuel)(c:s.cW<=B'):gi B' { m with sr:=s,n:=n }:=
 ⟨h.f,h.fr,h.ag,fun i a d=>a0E (h.marks i a d) b.length_le,h.mono,c,by have:=h.mR;grind,h.pc,h.uD,h.vB⟩
def gi.slots(h:gi B m){x:Fm}(hx:m.fs[m.f]?=O x){sl:List Sl}(e:sl.length=x.slots.length)(ht:∀ y∈sl,Au y):gi B { m with fs:=m.fs.set m.f { x with slots:=sl } }:=by
 have g:(m.fs.set m.f { x with slots:=sl }).length=m.fs.length:=List.length_set ..;have d:∀ (i:Nat) (z:Fm),(m.fs.set m.f { x with slots:=sl })[i]?=O z->(i=m.f/\z={ x with slots:=sl })\/m.fs[i]?=O z:=fun i z b=>by
  grind
 have c:=h.fr _ _ hx;refine⟨zg,fun i z b=>?_,fun i a j=>?_,h.marks,h.mono,h.cW,h.mR,h.pc,fun i z b=>?_,h.vB⟩
 .show adf (m.fs.set _ _).length z;rw[g];rcases d i z b with⟨-,rfl⟩| b
  .exact⟨c.code,by show _<=sl.length;rw[e];exact c.sl,ht,c.back⟩
  grind [fr]
 .grind [ag]
 .rcases d i z b with⟨-,rfl⟩| b
  .grind [uD]
  grind [uD]
theorem gi.cur(h:gi B m):∃ x,m.fs[m.f]?=O x:=⟨_,List.getElem?_eq_getElem h.f⟩
def am1{x:Fm}(hx:m.fs[m.f]?=O x)(k:Nat)(y:Sl):m.set k y={ m with fs:=m.fs.set m.f { x with slots:=x.slots.set k y } }:=by
 unfold Vm.set
 congr 1
 apply List.ext_getElem?;grind
def gi.set(h:gi B m)(k:Nat){y:Sl}(b:Au y):gi B (m.set k y):=by
 obtain⟨x,hx⟩:=h.cur;rw[am1 hx];refine h.slots hx (List.length_set ..) fun z a=>?_;rcases List.mem_or_eq_of_mem_set a with a | rfl
 .exact(h.fr _ _ hx).tm z a
 omega
def gi.Ps{α:Type}(g:Vm->α->Nat×Sl)(b:∀ m a,Au (g m a).2):∀ (L:List α) {m:Vm},gi B m->gi B (L.foldl (fun m p=>m.set (g m p).1 (g m p).2) m)
 | [],_,h=>h
 | a::L,_,h=>by rw[a1A];exact gi.Ps g b L (h.set _ (b _ _))
def gi.am2:∀ (L:List (Nat×Tm)) {m:Vm},(∀ p∈L,er p.2)->gi B m->gi B (L.foldl (fun m p=>m.set p.1 (.term p.2)) m)
 | [],_,_,h=>h
 | a::L,_,b,h=>by rw[a1A];exact gi.am2 L (fun p c=>b p (a1u _ c)) (h.set _ (b a (a0O ..)))
def adg{α:Type}(g:Vm->α->Nat×Sl):∀ (L:List α) (m:Vm),(L.foldl (fun m p=>m.set (g m p).1 (g m p).2) m).sr=m.sr
 | [],_=>rfl
 | a::L,m=>by rw[a1A,adg g L];rfl
theorem gi.take(h:gi B m)(k:Nat):gi B { m with br:=m.br.take k }:=by
 have d:∀ {i:Nat} {a:Ga},(m.br.take k)[i]?=O a->m.br[i]?=O a:=fun{i a} c=>by
  grind
 refine⟨h.f,h.fr,fun i a c=>h.ag i a (d c),fun i a c=>h.marks i a (d c),fun i j a b e c g=>h.mono i j a b e (d c) (d g),h.cW,?_,h.pc,h.uD,fun i a c=>h.vB i a (d c)⟩;have:=h.mR;grind
def gi.again(h:gi B m){a:Ga}(n:Xd m.fs.length a)(hm:a.mark=m.sr.tr.length)(o:a.pc<=200000)(k:B<=B')(p:m.br.length+1+m.sr.fuel<=B'):gi B' { m with br:=m.br++[a] }:=by
 have e:∀ {i:Nat} {b:Ga},(m.br++[a])[i]?=O b->(i<m.br.length/\m.br[i]?=O b)\/(i=m.br.length/\b=a):=fun{i b} d=>by
  grind
 refine⟨h.f,h.fr,fun i b d=>?_,fun i b d=>?_,fun i j b c l d g=>?_,a0E h.cW k,zg,h.pc,h.uD,fun i b d=>?_⟩
 .rcases e d with⟨-,d⟩| ⟨-,rfl⟩
  .grind [ag]
  omega
 .rcases e d with⟨-,d⟩| ⟨-,rfl⟩
  .exact h.marks i b d
  grind
 .rcases e g with⟨q,g⟩| ⟨rfl,rfl⟩
  .rcases e d with⟨-,d⟩| ⟨he,-⟩
   .exact h.mono i j b c l d g
   omega
  .rcases e d with⟨-,d⟩| ⟨-,rfl⟩
   .rw[hm];exact h.marks i b d
   omega
 .rcases e d with⟨-,d⟩| ⟨-,rfl⟩
  .grind [vB]
  omega
def gi.frame(h:gi B m){c:Co}{sl:List Sl}(k:vA c)(l:c.slots<=sl.length)(ht:∀ y∈sl,Au y)(o:f<m.fs.length)(p:pc<=200000):gi B { m with fs:=m.fs++[⟨c,sl,n,O f,pc,ae⟩],f:=m.fs.length,pc:=0 }:=by
 have e:(m.fs++[(⟨c,sl,n,O f,pc,ae⟩:Fm)]).length=m.fs.length+1:=zs;have g:∀ {i:Nat} {z:Fm},(m.fs++[(⟨c,sl,n,O f,pc,ae⟩:Fm)])[i]?=O z->m.fs[i]?=O z\/z=⟨c,sl,n,O f,pc,ae⟩:=fun{i z} d=>by
  grind
 refine⟨zg,fun i z d=>?_,fun i a d=>?_,h.marks,h.mono,h.cW,h.mR,zg,fun i z d=>?_,h.vB⟩
 .show adf (m.fs++_).length z;rw[e];rcases g d with d | rfl
  .have:=h.fr i z d;exact⟨this.code,this.sl,this.tm,fun b j=>by have:=this.back b j;omega⟩
  .exact⟨k,l,ht,fun b j=>zg⟩
 .show Xd (m.fs++_).length a;rw[e];have:=h.ag i a d;exact⟨by have:=this.f;omega,this.others,this.args,this.qC⟩
 .rcases g d with d | rfl
  .grind [uD]
  omega
def Pt(m:Vm)(rest:List Co)(args:List Sl)(f pc:Nat):List Ga:=match rest with | []=>[] | _=>[⟨m.sr.tr.length,f,pc,rest,args⟩]
theorem gi.enter(h:gi B m){B':Nat}{l:List Co}{args:List Sl}{f pc n:Nat}{m':Vm}(e:∀ c∈l,vA c)(j:∀ y∈args,Au y)(k:args.length<=60)(g:f<m.fs.length)(i:pc<=200000)(r:n<=m.br.length)(o:B<=B')(s:n+1+m.sr.fuel<=B')
  (hr:m.enter l args f pc n=O m'):gi B' m':=by
 cases l with
 | nil=>cases hr
 | cons c rest=>
  have hr:m'={ m with br:=m.br.take n++Pt m rest args f pc,fs:=m.fs++[⟨c,args++a1g (max c.slots args.length-args.length) .nil,n,O f,pc,ae⟩],f:=m.fs.length,pc:=0 }:=(a0G hr).symm;have d:=e c (a0O ..);have p:gi B' { m with br:=m.br.take n++Pt m rest args f pc }:=by
   cases rest with
   | nil=>
    grind [Pt,up,take]
   | cons c2 q=>
    refine(h.take n).again (a:=⟨m.sr.tr.length,f,pc,c2::q,args⟩) ⟨g,fun c d=>e c (a1u _ d),j,k⟩ J i o ?_;grind
  subst hr;refine p.frame d ?_ ?_ g i
  .grind
  .intro y b;rcases List.mem_append.1 b with b | b
   .grind
   .rw[List.eq_of_mem_replicate b];trivial
def gi.back(h:gi B m){p:Bool×Vm}(hr:m.back=O p):gi B p.2:=by
 unfold Vm.back at hr;cases d:m.br.getLast? with
 | none=>grind
 | some a=>
  rw[d] at hr;simp only at hr;rw[List.getLast?_eq_getElem?] at d;have hlt:=(a08.1 d).1;have hk:=h.marks _ _ d;have e:=h.ag _ _ d;have o:=h.vB _ _ d;have hu:∀ n,n<=m.br.length-1->gi B { m with sr:=m.sr.gO a.mark,br:=m.br.take n }:=fun n t=>by
   have ht:=h.take n;have j:(m.sr.gO a.mark).tr.length<=m.sr.tr.length/\a.mark<=(m.sr.gO a.mark).tr.length:=by
    grind [Sr.gO,List.length_drop]
   refine⟨ht.f,ht.fr,ht.ag,fun i b g=>?_,ht.mono,?_,ht.mR,ht.pc,ht.uD,ht.vB⟩
   .have k:(m.br.take n)[i]?=O b:=g;rw[List.getElem?_take] at k;split at k
    .exact a0E (h.mono i _ b a zo k d) j.2
    grind
   .have r:m.sr.tr.length+m.sr.fuel<=B:=h.cW;show(m.sr.gO a.mark).tr.length+m.sr.fuel<=B;omega
  have l:gi B { m with sr:=m.sr.gO a.mark }:=by
   have j:(m.sr.gO a.mark).tr.length<=m.sr.tr.length/\a.mark<=(m.sr.gO a.mark).tr.length:=by
    grind [Sr.gO,List.length_drop]
   refine⟨h.f,h.fr,h.ag,fun i b g=>?_,h.mono,?_,h.mR,h.pc,h.uD,h.vB⟩
   .have u:i<m.br.length:=(a08.1 g).1;exact a0E (h.mono i _ b a zo g d) j.2
   .have r:m.sr.tr.length+m.sr.fuel<=B:=h.cW;show(m.sr.gO a.mark).tr.length+m.sr.fuel<=B;omega
  cases q:a.others with
  | nil=>
   rw[q] at hr;have hr:=(a0G hr).symm;subst hr;have s:m.br.dropLast=m.br.take (m.br.length-1):=List.dropLast_eq_take ..;simp only;rw[s];have:=hu (m.br.length-1) (a0D _);exact⟨e.f,this.fr,this.ag,this.marks,this.mono,this.cW,this.mR,o,this.uD,this.vB⟩
  | cons c0 l0=>
   rw[q] at hr;simp only at hr;cases he:({ m with sr:=m.sr.gO a.mark }:Vm).enter (c0::l0) a.args a.f a.pc (m.br.length-1) with
   | none=>grind
   | some m'=>
    rw[he] at hr;have hr:=(a0G hr).symm;subst hr;refine l.enter (fun c w=>e.others c zg) e.args e.qC e.f o zg (a0D _) ?_ he;have:=h.mR;show m.br.length-1+1+m.sr.fuel<=B;omega
end
end P
