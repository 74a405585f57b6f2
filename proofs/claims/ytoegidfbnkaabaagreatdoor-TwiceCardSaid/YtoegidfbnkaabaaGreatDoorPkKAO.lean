/- A part of one proof (PureVs, PureVl, PureVn, PureVt, PureVq, PureVr, PureVx, PureV, PureSz, PureP). -/
import Derived.Test.YtoegidfbnkaabaaGreatDoorPkKAN
set_option linter.all false
set_option maxRecDepth 100000
set_option maxHeartbeats 8000000
open Option renaming some → O, none → V
open Bool renaming true → A, false → ae
open Option.some renaming injEq → a0z, inj → a0G
open Nat renaming le_refl → a0D, lt_succ_self → a04, le_succ → a1J, le_add_right → a1M
open List renaming getElem?_eq_getElem → a0F, mem_cons → a0N, mem_cons_self → a0O, mem_append → a0P, getD_eq_getElem?_getD → a05, getElem?_eq_some_iff → a08, range' → a1m, mem_cons_of_mem → a1u, foldl_cons → a1A, mem_of_getElem? → a1B, mem_map → a17
open Bool renaming false_eq_true → a06
open Except renaming ok → a2O
namespace Go.Proofs.YtoegidfbnkaabaaGreatDoor
variable{N d f i k k' n pb pc:Nat}
namespace P
section
variable{B:Nat}{m:Vm}
def DW{α β:Type}{x:Except iM α}{k:α->Out β}{r:β}(h:Cx x k=O (.ok r)):∃ a,x = .ok a/\k a=O (.ok r):=by
 cases x with
 | error e=>cases h
 | ok a=>exact⟨a,J,h⟩
theorem adi{x:Fm}(hx:m.fs[m.f]?=O x)(b:∀ y∈x.slots,Au y){t:Tm}(h:m.slot k = .term t):er t:=by
 unfold Vm.slot at h;rw[hx] at h;simp only[a05] at h;cases a:x.slots[k]? with
 | none=>grind
 | some y=>
  rw[a] at h;have h:y = .term t:=h;subst h;exact b _ (a1B a)
def Xe{x:Fm}(hx:m.fs[m.f]?=O x)(a:∀ y∈x.slots,Au y){i:In}{t:Tm}(h:m.at i k = .ok t):er t:=by
 grind [Vm.at,adi]
def Pu{x:Fm}(hx:m.fs[m.f]?=O x)(b:∀ y∈x.slots,Au y):∀ {ks:List Nat} {l:List Tm},m.iI ks = .ok l->(∀ t∈l,er t)/\l.length=ks.length
 | [],l,h=>by
  rw[Vm.iI] at h;injection h with h;subst h;exact⟨fun _ h=>(by cases h),J⟩
 | k::r,l,h=>by
  rw[Vm.iI] at h;cases c:m.slot k with
  | term t=>
   rw[c] at h;simp only at h;cases a:m.iI r with
   | error e=>grind
   | ok l'=>
    rw[a] at h;injection h with h;subst h;obtain⟨g1,g2⟩:=Pu hx b a;refine⟨fun u hu=>?_,zg⟩;rcases a0N.1 hu with rfl | hu
    .grind [adi]
    grind
  | nil=>grind
  | level n=>grind
def Xf:∀ {l:List Tm},(∀ t∈l,er t)->iX l
 | [],_=>by simp_all [iX]
 | t::l,h=>by unfold iX;exact⟨h t (a0O ..),Xf fun u hu=>h u (a1u _ hu)⟩
def am3:∀ {l:List Tm},iX l->∀ t∈l,er t
 | [],_,_,h=>zg
 | u::l,h,t,ht=>by
  unfold iX at h;rcases a0N.1 ht with rfl | ht
  .grind
  .exact am3 h.2 t ht
def am4{a b:Tm}{s:Sr}{p:Bool×Sr}(h:gY f a b s=O (.ok p)):s.tr <:+ p.2.tr/\p.2.fuel<=s.fuel/\p.2.cW<=s.cW:=
 ⟨(M3 f).tm h,((DP f).tm h).2,((DP f).tm h).1⟩
def adj{preds:List Pd}{i:In}{p:Bool×Vm}{x:Fm}(h:gi B m)(ht:mh m.sr.tr)(hx:m.fs[m.f]?=O x)(w:sU x.code.slots i)(I:∀ p∈preds,∀ c∈p.clauses,vA c)(hr:qD preds d i m=O (.ok p)) :
  gi (B+1) p.2/\p.2.sr.fuel<=m.sr.fuel:=by
 have C:=h.fr _ _ hx;have a:=h.up (a1J B);have K:m.sr.cW<=B:=h.cW;have M8:=h.mR;unfold qD at hr;have j:∀ {q:Vm},O (a2O (A,q))=O (a2O p:Except iM (Bool×Vm))->p=(A,q):=fun h=>zg;have D:∀ {o:Out (Bool×Sr)},(∀ q,o=O (.ok q)->m.sr.tr <:+ q.2.tr/\q.2.fuel<=m.sr.fuel/\q.2.cW<=m.sr.cW)->Out.bind o (fun p=>O (.ok (p.1,{ m with sr:=p.2 })))=O (.ok p)->gi (B+1) p.2/\p.2.sr.fuel<=m.sr.fuel:=fun L M=>by
  obtain⟨q,r,g⟩| ⟨e,r,g⟩:=Out.bind_some M
  .injection g with g;injection g with g;subst g;obtain⟨g1,g2,g3⟩:=L q r;exact⟨h.IG (a1J B) g1 g2 zo,g2⟩
  grind
 dsimp only at hr;by_cases hw:i.word=uB
 .rw[zip hw] at hr;have hr:=j hr;subst hr;have:=a.set (i.s.getD 0 0) (y:=.term (.var m.n)) (by simp_all [Au,er]);exact⟨this.IG (a0D _) (List.suffix_refl _) (a0D _) this.cW,a0D _⟩
 rw[bO hw] at hr;clear hw;by_cases hw:i.word=[112,117,116]
 .rw[zip hw] at hr;have hr:=j hr;subst hr;obtain⟨t,N,P,-⟩:=w.con (.inl hw);refine⟨a.set _ ?_,a0D _⟩;rw[N];exact P
 rw[bO hw] at hr;clear hw;by_cases hw:i.word=[99,111,110,115,116]
 .rw[zip hw] at hr;obtain⟨t,r,g⟩:=DW hr;exact D (fun q z=>am4 z) g
 rw[bO hw] at hr;clear hw;by_cases hw:i.word=[115,97,109,101]
 .rw[zip hw] at hr;obtain⟨t,r,g⟩:=DW hr;obtain⟨u,F,E⟩:=DW g;exact D (fun q z=>am4 z) E
 rw[bO hw] at hr;clear hw;by_cases hw:i.word=[109,97,107,101]
 .rw[zip hw] at hr;obtain⟨l,r,g⟩:=DW hr;have hr:=j g;subst hr;obtain⟨g1,g2⟩:=Pu hx C.tm r;refine⟨a.set _ ?_,a0D _⟩;show er (.comp i.name l);unfold er;have:=w.qC;exact⟨w.S7,zg,Xf g1⟩
 rw[bO hw] at hr;clear hw;by_cases hw:i.word=[115,112,108,105,116]
 .rw[zip hw] at hr;obtain⟨t,r,g⟩:=DW hr;have Q:=Xe hx C.tm r;cases hw:dR m.sr.tr d t with
  | none=>grind
  | some R=>
   rw[hw] at g;have G:=vq ht Q hw;cases R with
   | atom s=>grind
   | int s=>grind
   | comp name args=>
    simp only at g;split at g
    .have hr:=j g;subst hr;unfold er at G;refine⟨a.am2 _ fun p S=>?_,?_⟩
     .exact am3 G.2.2 _ (List.of_mem_zip S).2
     .have:=adg (fun _ (p:Nat×Tm)=>(p.1,Sl.term p.2)) (i.s.tail.zip args) m;grind
    grind
   | var v=>
    have hr:=j g;subst hr;have F:=h.Ps (fun m (p:Nat×Nat)=>(p.1,.term (.var (m.n+p.2)))) (fun _ _=>by show er _;simp_all [er]) i.s.tail.zipIdx;have E:=adg (fun m (p:Nat×Nat)=>(p.1,Sl.term (.var (m.n+p.2)))) i.s.tail.zipIdx m;have H:(m.sr.bind v (.comp i.name ((a1m m.n i.s.tail.length).map .var))).fuel=m.sr.fuel:=rfl;refine⟨F.IG (a1J B) ?_ ?_ ?_,?_⟩
    .rw[E];exact List.suffix_cons _ _
    .grind
    .unfold Sr.cW at K ⊢;show((v,_)::m.sr.tr).length+m.sr.fuel<=B+1;grind
    grind
 rw[bO hw] at hr;clear hw;by_cases hw:i.word=nD
 .rw[zip hw] at hr;obtain⟨l,r,g⟩:=DW hr;obtain⟨g1,g2⟩:=Pu hx C.tm r;exact D (fun q z=>amI ht g1 (by rw[g2];exact w.test hw) z) g
 rw[bO hw] at hr;clear hw;by_cases hw:i.word=vz
 .rw[zip hw] at hr;have hr:=j hr;subst hr;exact⟨a.set _ trivial,a0D _⟩
 rw[bO hw] at hr;clear hw;by_cases hw:i.word=rh
 .rw[zip hw] at hr;have hr:=j hr;subst hr;exact⟨a.set _ trivial,a0D _⟩
 rw[bO hw] at hr;clear hw;by_cases hw:i.word=kY
 .rw[zip hw] at hr;split at hr
  .have hr:=j hr;subst hr;exact⟨a.take _,a0D _⟩
  grind
 rw[bO hw] at hr;clear hw;by_cases hw:i.word=kx
 .rw[zip hw] at hr;have hr:=j hr;subst hr;have T:=w.one zg;refine⟨h.again ⟨h.f,fun _ h=>zg,fun _ h=>zg,zs⟩ J ?_ (a1J B) zo,a0D _⟩;have:i.s.getD 0 0<100000:=by
   rw[a05,a0F zo];exact w.small _ (List.getElem_mem _)
  grind
 rw[bO hw] at hr;clear hw;by_cases hw:i.word=jV
 .rw[zip hw] at hr;have hr:=j hr;subst hr;have T:=w.one zg;have:i.s.getD 0 0<100000:=by
   rw[a05,a0F zo];exact w.small _ (List.getElem_mem _)
  exact⟨⟨a.f,a.fr,a.ag,a.marks,a.mono,a.cW,a.mR,zg,a.uD,a.vB⟩,a0D _⟩
 rw[bO hw] at hr;clear hw;by_cases hw:i.word=Ar
 .rw[zip hw] at hr;split at hr
  .grind
  .rename_i q z;split at hr
   .grind
   .split at hr
    .grind
    .rename_i m' he;have hr:=j hr;subst hr;have U:=List.mem_of_find?_eq_some z;have W:∀ y∈i.s.map m.slot,Au y:=fun y X=>by
      obtain⟨k,-,rfl⟩:=a17.1 X;cases hs:m.slot k with
      | term t=>exact adi hx C.tm hs
      | nil=>trivial
      | level n=>trivial
     refine⟨h.enter (I q U) W (by rw[List.length_map];exact w.qC) h.f h.pc (a0D _) (a1J B) zo he,?_⟩;rename_i eh;cases fx:q.clauses with
     | nil=>grind
     | cons c0 l0=>rw[fx] at he;have:=(a0G he).symm;grind
 rw[bO hw] at hr;clear hw;by_cases hw:i.word=[114,101,116]
 .rw[zip hw] at hr;rw[hx] at hr;simp only at hr;split at hr
  .grind
  .rename_i b H;have hr:=j hr;subst hr;exact⟨⟨C.back b H,a.fr,a.ag,a.marks,a.mono,a.cW,a.mR,a.uD _ _ hx,a.uD,a.vB⟩,a0D _⟩
 grind
end
section
variable{N:Nat}
mutual
def VL (n:Nat):Tm->Prop
 | .var i=>i<n
 | .comp _ l=>xY n l
 | .atom _=>True
 | .int _=>True
 termination_by structural t=>t
def xY (n:Nat):List Tm->Prop
 | []=>True
 | t::a=>VL n t/\xY n a
 termination_by structural t=>t
end
def nQ(n:Nat):Tr->Prop
 | []=>True
 | (i,t)::r=>i<n/\VL n t/\nQ n r
mutual
theorem VL.up {n m:Nat} (h:n<=m):∀ {t:Tm},VL n t->VL m t
 | .var i,ht=>by grind [VL]
 | .comp s l,ht=>by unfold VL at ht ⊢;exact xY.up h ht
 | .atom s,_=>by simp_all [VL]
 | .int s,_=>by simp_all [VL]
theorem xY.up {n m:Nat} (h:n<=m):∀ {l:List Tm},xY n l->xY m l
 | [],_=>by simp_all [xY]
 | t::l,ht=>by unfold xY at ht ⊢;exact⟨VL.up h ht.1,xY.up h ht.2⟩
end
theorem nQ.up{n m:Nat}(h:n<=m):∀ {t:Tr},nQ n t->nQ m t
 | [],_=>trivial
 | (i,t)::r,ht=>⟨by have:=ht.1;omega,ht.2.1.up h,nQ.up h ht.2.2⟩
def nQ.drop{n:Nat}:∀ (k:Nat) {t:Tr},nQ n t->nQ n (t.drop k)
 | 0,_,h=>h
 | _+1,[],h=>h
 | k+1,(_,_)::_,h=>nQ.drop k h.2.2
def am5:∀ {tr:Tr} {i:Nat} {t:Tm},nQ N tr->look i tr=O t->VL N t
 | [],_,_,_,h=>by cases h
 | (j,u)::r,i,t,h,a=>by
  unfold look at a;split at a
  .injection a with a;subst a;exact h.2.1
  .exact am5 h.2.2 a
def Xg{tr:Tr}(h:nQ N tr):∀ {f:Nat} {t a:Tm},VL N t->dR tr f t=O a->VL N a
 | f,.atom s,a,ht,hw=>by simp_all [dR]
 | f,.int s,a,ht,hw=>by simp_all [dR]
 | f,.comp s l,a,ht,hw=>by simp_all [dR]
 | 0,.var i,a,ht,hw=>by
  grind [dR]
 | f+1,.var i,a,ht,hw=>by
  rw[dR] at hw;split at hw
  .grind
  .rename_i t b;exact Xg h (am5 h b) hw
theorem aH7{t:Tm}{s:Sr}{p:Bool×Sr}(hk:nQ N s.tr)(c:VL N (.var i))(ht:VL N t)(h:q9 f i t s=O (.ok p)):nQ N p.2.tr:=by
 unfold q9 at h;obtain⟨q,d,a⟩| ⟨e,d,a⟩:=Out.bind_some h
 .obtain⟨b,s1⟩:=q;have g:s1.tr=s.tr:=((GF f).tm d).1;cases b with
  | true=>
   grind
  | false=>
   simp only[a06,if_false,a0z,Except.ok.injEq] at a;subst a;show nQ N ((i,t)::s1.tr);rw[g];unfold VL at c;exact⟨c,ht,hk⟩
 grind
def Px:∀ f,(∀ a b s p,nQ N s.tr->VL N a->VL N b->gY f a b s=O (.ok p)->nQ N p.2.tr)/\(∀ l r s p,nQ N s.tr->xY N l->xY N r->lJ f l r s=O (.ok p)->nQ N p.2.tr)
 | 0=>⟨fun _ _ _ _ _ _ _ h=>(by cases h),fun _ _ _ _ _ _ _ h=>(by cases h)⟩
 | f+1=>by
  obtain⟨i,j⟩:=Px f;constructor
  .intro a b s p ht c d h;rw[gY] at h;split at h
   .grind
   .cases hw:dR s.tr f a with
    | none=>grind
    | some u=>
     cases hv:dR s.tr f b with
     | none=>grind
     | some v=>
      rw[hw,hv] at h;have k:nQ N s.dec.tr:=ht;have hu:=Xg ht c hw;have m:=Xg ht d hv;grind [aH7,VL]
  .intro l r s p ht g hr h;cases l with
   | nil=>grind [lJ]
   | cons a l=>
    cases r with
    | nil=>grind [lJ]
    | cons b r=>
     unfold xY at g hr;rw[lJ] at h;obtain⟨q,g1,g2⟩| ⟨e,g1,g2⟩:=Out.bind_some h<;>grind
def am6:∀ {l:List Tm},xY N l->∀ t∈l,VL N t
 | [],_,_,h=>zg
 | u::l,h,t,ht=>by
  unfold xY at h;rcases a0N.1 ht with rfl | ht
  .grind
  .exact am6 h.2 t ht
theorem adk:∀ {l:List Tm},(∀ t∈l,VL N t)->xY N l
 | [],_=>by simp_all [xY]
 | t::l,h=>by unfold xY;exact⟨h t (a0O ..),adk fun u hu=>h u (a1u _ hu)⟩
theorem am7:∀ {tr:Tr} {i:Nat},nQ N tr->N<=i->look i tr=V
 | [],_,_,_=>rfl
 | (j,u)::r,i,h,a=>by
  unfold look;rw[bO (by have:=h.1;omega)];exact am7 h.2.2 a
def aH8{tr:Tr}(h:nQ N tr){v:Nat}(hv:v<N){s:Bs}:¬ E7 tr v (.comp s ((a1m N k).map .var)):=by
 intro b;cases b with
 | arg c d=>
  obtain⟨j,a,rfl⟩:=a17.1 c;rw[List.mem_range'] at a;obtain⟨q,e,f⟩:=a;cases d with
  | here _=>omega
  | via g _=>grind [am7]
end
section
variable{B told:Nat}{m:Vm}
def Av(n:Nat):Sl->Prop
 | .term t=>VL n t
 | _=>True
theorem Av.up{n k:Nat}(h:n<=k){y:Sl}(a:Av n y):Av k y:=by
 cases y with
 | term t=>exact VL.up h a
 | nil=>trivial
 | level _=>trivial
structure iY(told:Nat)(m:Vm):Prop where
 tr:nQ m.n m.sr.tr
 fr:∀ (i:Nat) (x:Fm),m.fs[i]?=O x->∀ y∈x.slots,Av m.n y
 ag:∀ (i:Nat) (a:Ga),m.br[i]?=O a->∀ y∈a.args,Av m.n y
 sr:jC m.sr
 ask:∀ (i:Nat) (x:Fm),m.fs[i]?=O x->x.ask=A->told<=x.slots.length
def iY.IG(h:iY told m){s:Sr}(c:m.n<=n)(d:nQ n s.tr)(e:jC s):iY told { m with sr:=s,n:=n }:=
 ⟨d,fun i x hx y b=>(h.fr i x hx y b).up c,fun i a f y b=>(h.ag i a f y b).up c,e,h.ask⟩
def iY.slots(h:iY told m){x:Fm}(hx:m.fs[m.f]?=O x){sl:List Sl}(c:sl.length=x.slots.length)(ht:∀ y∈sl,Av m.n y):iY told { m with fs:=m.fs.set m.f { x with slots:=sl } }:=by
 have b:∀ (i:Nat) (z:Fm),(m.fs.set m.f { x with slots:=sl })[i]?=O z->(i=m.f/\z={ x with slots:=sl })\/m.fs[i]?=O z:=fun i z a=>by
  grind
 refine⟨h.tr,fun i z a y d=>?_,h.ag,h.sr,fun i z a hk=>?_⟩
 .rcases b i z a with⟨-,rfl⟩| a
  .grind
  grind [fr]
 .rcases b i z a with⟨-,rfl⟩| a
  .show told<=sl.length;rw[c];exact h.ask _ _ hx hk
  .exact h.ask i z a hk
def iY.set(h:iY told m)(b:m.f<m.fs.length)(k:Nat){y:Sl}(c:Av m.n y):iY told (m.set k y):=by
 obtain⟨x,hx⟩:∃ x,m.fs[m.f]?=O x:=⟨_,a0F b⟩;rw[am1 hx];refine h.slots hx (List.length_set ..) fun z a=>?_;rcases List.mem_or_eq_of_mem_set a with a | rfl
 .grind [fr]
 omega
def aH9(k:Nat)(y:Sl):(m.set k y).fs.length=m.fs.length:=List.length_modify ..
def iY.Ps{α:Type}(g:α->Nat×Sl):∀ (L:List α) {m:Vm},iY told m->m.f<m.fs.length->(∀ a∈L,Av m.n (g a).2)->iY told (L.foldl (fun m p=>m.set (g p).1 (g p).2) m)
 | [],_,h,_,_=>h
 | a::L,m,h,c,d=>by
  rw[a1A];exact iY.Ps g L (h.set c _ (d a (a0O ..))) (by rw[aH9];exact c) fun b e=>d b (a1u _ e)
theorem iY.take(h:iY told m)(k:Nat):iY told { m with br:=m.br.take k }:=by
 refine⟨h.tr,h.fr,fun i a b=>?_,h.sr,h.ask⟩;grind [ag]
def iY.again(h:iY told m){a:Ga}(e:∀ y∈a.args,Av m.n y):iY told { m with br:=m.br++[a] }:=by
 refine⟨h.tr,h.fr,fun i b c=>?_,h.sr,h.ask⟩;have c:(m.br++[a])[i]?=O b:=c;rcases a0P.1 (a1B c) with d | d
 .obtain⟨j,f,rfl⟩:=List.getElem_of_mem d;grind [a0F,ag]
 grind
def iY.frame(h:iY told m){c:Co}{sl:List Sl}(ht:∀ y∈sl,Av m.n y):iY told { m with fs:=m.fs++[⟨c,sl,n,O f,pc,ae⟩],f:=m.fs.length,pc:=0 }:=by
 have b:∀ {i:Nat} {z:Fm},(m.fs++[(⟨c,sl,n,O f,pc,ae⟩:Fm)])[i]?=O z->m.fs[i]?=O z\/z=⟨c,sl,n,O f,pc,ae⟩:=fun{i z} a=>by
  grind
 refine⟨h.tr,fun i z a y d=>?_,h.ag,h.sr,fun i z a hk=>?_⟩
 .rcases b a with a | rfl
  .grind [fr]
  grind
 .rcases b a with a | rfl
  .exact h.ask i z a hk
  grind
theorem iY.enter(h:iY told m){l:List Co}{args:List Sl}{f pc n:Nat}{m':Vm}(d:∀ y∈args,Av m.n y)(hr:m.enter l args f pc n=O m'):iY told m':=by
 cases l with
 | nil=>cases hr
 | cons c rest=>
  have hr:m'={ m with br:=m.br.take n++Pt m rest args f pc,fs:=m.fs++[⟨c,args++List.replicate (max c.slots args.length-args.length) .nil,n,O f,pc,ae⟩],f:=m.fs.length,pc:=0 }:=(a0G hr).symm;have e:iY told { m with br:=m.br.take n++Pt m rest args f pc }:=by
   cases rest with
   | nil=>
    grind [Pt,take]
   | cons c2 g=>exact(h.take n).again (a:=⟨m.sr.tr.length,f,pc,c2::g,args⟩) d
  subst hr;refine e.frame fun y b=>?_;rcases a0P.1 b with b | b
  .grind
  .rw[List.eq_of_mem_replicate b];trivial
def iY.back(h:iY told m){p:Bool×Vm}(hr:m.back=O p):iY told p.2:=by
 unfold Vm.back at hr;cases b:m.br.getLast? with
 | none=>grind
 | some a=>
  rw[b] at hr;simp only at hr;rw[List.getLast?_eq_getElem?] at b;have hu:iY told { m with sr:=m.sr.gO a.mark }:=h.IG (a0D _) (nQ.drop _ h.tr) (h.sr.gO _);cases c:a.others with
  | nil=>
   rw[c] at hr;have hr:=(a0G hr).symm;subst hr;have:=hu.take (m.br.length-1);rw[show m.br.dropLast=m.br.take (m.br.length-1) from List.dropLast_eq_take ..];exact⟨this.tr,this.fr,this.ag,this.sr,this.ask⟩
  | cons c0 l0=>
   grind [sr,enter,a0G,ag]
end
section
variable{B told:Nat}{m:Vm}
def adl{x:Fm}(hx:m.fs[m.f]?=O x)(a:∀ y∈x.slots,Av m.n y)(k:Nat):Av m.n (m.slot k):=by
 unfold Vm.slot;rw[hx];simp only[a05];cases b:x.slots[k]? with
 | none=>trivial
 | some y=>grind
def Xh{x:Fm}(hx:m.fs[m.f]?=O x)(b:∀ y∈x.slots,Av m.n y){i:In}{t:Tm}(h:m.at i k = .ok t):VL m.n t:=by
 unfold Vm.at at h;have a:=adl hx b (i.s.getD k 0);cases c:m.slot (i.s.getD k 0) with
 | term u=>rw[c] at h a;injection h with h;subst h;exact a
 | nil=>grind
 | level n=>grind
theorem adm{x:Fm}(hx:m.fs[m.f]?=O x)(a:∀ y∈x.slots,Av m.n y):∀ {ks:List Nat} {l:List Tm},m.iI ks = .ok l->∀ t∈l,VL m.n t
 | [],l,h=>by
  simp_all [Vm.iI]
 | k::r,l,h=>by
  rw[Vm.iI] at h;have b:=adl hx a k;cases d:m.slot k with
  | term t=>
   rw[d] at h b;simp only at h;cases c:m.iI r with
   | error e=>grind
   | ok l'=>
    rw[c] at h;injection h with h;subst h;have g1:=adm hx a c;intro u hu;rcases a0N.1 hu with rfl | hu
    .exact b
    grind
  | nil=>grind
  | level n=>grind
def aIa{name:Bs}{args:List Tm}{s:Sr}{p:Bool×Sr}(ht:nQ N s.tr)(g:jC s)(n:∀ t∈args,VL N t)(o:∀ t∈args,er t)(l:jx name=args.length)(h:uy f name args s=O (.ok p)):nQ N p.2.tr:=by
 have hv:∀ j,j<args.length->VL N (args.getD j default):=fun j m=>by
  grind
 have i:∀ j,j<args.length->er (args.getD j default):=fun j m=>by
  grind
 have two:∀ x∈([[61],[92,61],[61,61],[105,115],[60],[62],[61,60],[62,61],[61,58,61]]:List Bs),name=x->1<args.length:=fun x hx e=>by
  subst e;have:jx name=2:=by
   simp only[a0N,List.not_mem_nil,or_false] at hx;rcases hx with rfl | rfl | rfl | rfl | rfl | rfl | rfl | rfl | rfl<;>rfl
  omega
 have tr:∀ {q:Sr},q.tr=s.tr->nQ N q.tr:=fun e=>zg;unfold uy at h;split at h
 .grind
 split at h
 .rename_i d;have:=two [61] zs d;exact(Px f).1 _ _ _ _ ht (hv 0 zo) (hv 1 this) h
 split at h
 .rename_i d;have:=two [92,61] zs d;obtain⟨q,b,a⟩| ⟨e,b,a⟩:=Out.bind_some h
  .injection a with a;injection a with a;subst a;exact nQ.drop _ ((Px f).1 _ _ _ _ ht (hv 0 zo) (hv 1 this) b)
  grind
 split at h
 .exact tr ((Pn f).tm h).1
 split at h
 .rename_i d;have:=two [105,115] zs d;obtain⟨q,b,a⟩| ⟨e,b,a⟩:=Out.bind_some h
  .obtain⟨g1,g2,g3⟩:=Ap f g.ok (i 1 this) b;exact(Px f).1 _ _ _ _ (tr g1) (hv 0 zo) (by simp_all [VL]) a
  grind
 split at h
 .grind
 split at h
 .grind
 .obtain⟨q,b,a⟩| ⟨e,b,a⟩:=Out.bind_some h
  .obtain⟨q2,k,c⟩| ⟨e,k,c⟩:=Out.bind_some a
   .injection c with c;injection c with c;subst c;have a:(2:Int)=args.length:=by
     unfold jx at l;grind
    obtain⟨g1,g2,-⟩:=Ap f g.ok (i 0 zo) b;obtain⟨g3,g4,-⟩:=Ap f (by rw[g1];exact g.ok) (i 1 zo) k;grind
   grind
  grind
end
section
variable{B told:Nat}{m:Vm}
def am8{preds:List Pd}{i:In}{p:Bool×Vm}{x:Fm}(h:iY told m)(N:gi B m)(hx:m.fs[m.f]?=O x)(z:sU x.code.slots i)(hr:qD preds d i m=O (.ok p)):iY told p.2:=by
 have F:=N.fr _ _ hx;have C:=h.fr _ _ hx;have w:=N.f;unfold qD at hr;have g:∀ {q:Vm},O (a2O (A,q))=O (a2O p:Except iM (Bool×Vm))->p=(A,q):=fun h=>zg;have H:∀ {o:Out (Bool×Sr)},(∀ q,o=O (.ok q)->nQ m.n q.2.tr/\jC q.2)->Out.bind o (fun p=>O (.ok (p.1,{ m with sr:=p.2 })))=O (.ok p)->iY told p.2:=fun S T=>by
  obtain⟨q,c,b⟩| ⟨e,c,b⟩:=Out.bind_some T
  .injection b with b;injection b with b;subst b;obtain⟨g1,g2⟩:=S q c;exact h.IG (a0D _) g1 g2
  grind
 dsimp only at hr;by_cases hw:i.word=uB
 .rw[zip hw] at hr;have hr:=g hr;subst hr;have c:iY told { m with n:=m.n+1 }:=h.IG (a1J _) (h.tr.up (a1J _)) h.sr;exact c.set w (i.s.getD 0 0) (y:=.term (.var m.n)) (by show VL _ _;simp_all [VL,a04])
 rw[bO hw] at hr;clear hw;by_cases hw:i.word=[112,117,116]
 .rw[zip hw] at hr;have hr:=g hr;subst hr;obtain⟨t,I,P,D⟩:=z.con (.inl hw);refine h.set w _ ?_;rw[I];show VL m.n t;cases t with
  | atom s=>simp_all [VL]
  | int s=>simp_all [VL]
  | var i=>cases D
  | comp s l=>cases D
 rw[bO hw] at hr;clear hw;by_cases hw:i.word=[99,111,110,115,116]
 .rw[zip hw] at hr;obtain⟨t,c,b⟩:=DW hr;obtain⟨t0,I,P,D⟩:=z.con (.inr hw);have U:VL m.n t0:=by
   cases t0 with
   | atom s=>simp_all [VL]
   | int s=>simp_all [VL]
   | var i=>cases D
   | comp s l=>cases D
  rw[I] at b;exact H (fun q r=>⟨(Px d).1 _ _ _ _ h.tr (Xh hx C c) U r,h.sr.Fe (Xe hx F.tm c) P r⟩) b
 rw[bO hw] at hr;clear hw;by_cases hw:i.word=[115,97,109,101]
 .rw[zip hw] at hr;obtain⟨t,c,b⟩:=DW hr;obtain⟨u,E,W⟩:=DW b;exact H (fun q r=>⟨(Px d).1 _ _ _ _ h.tr (Xh hx C c) (Xh hx C E) r,h.sr.Fe (Xe hx F.tm c) (Xe hx F.tm E) r⟩) W
 rw[bO hw] at hr;clear hw;by_cases hw:i.word=[109,97,107,101]
 .rw[zip hw] at hr;obtain⟨l,c,b⟩:=DW hr;have hr:=g b;subst hr;refine h.set w _ ?_;show VL m.n (.comp i.name l);grind [VL,adk,adm]
 rw[bO hw] at hr;clear hw;by_cases hw:i.word=[115,112,108,105,116]
 .rw[zip hw] at hr;obtain⟨t,c,b⟩:=DW hr;have X:=Xh hx C c;cases hw:dR m.sr.tr d t with
  | none=>grind
  | some t'=>
   rw[hw] at b;have G:=Xg h.tr X hw;cases t' with
   | atom s=>grind
   | int s=>grind
   | comp name args=>
    simp only at b;split at b
    .have hr:=g b;subst hr;unfold VL at G;exact iY.Ps (fun(p:Nat×Tm)=>(p.1,Sl.term p.2)) _ h w fun p Q=>am6 G _ (List.of_mem_zip Q).2
    grind
   | var v=>
    have hr:=g b;subst hr;unfold VL at G;have xg:look v m.sr.tr=none:=IC hw;have c:iY told { m with n:=m.n+i.s.tail.length }:=h.IG (a1M _ _) (h.tr.up (a1M _ _)) h.sr;have E:=iY.Ps (fun(p:Nat×Nat)=>(p.1,Sl.term (.var (m.n+p.2)))) i.s.tail.zipIdx c w (fun p Q=>by
     show VL _ _;grind [VL,List.mem_zipIdx])
    have e1:∀ (L:List (Nat×Nat)) (m1:Vm) (k:Nat),m1.n=m.n->L.foldl (fun m' (p:Nat×Nat)=>m'.set p.1 (.term (.var (m.n+p.2)))) { m1 with n:=k }={ (L.foldl (fun m' (p:Nat×Nat)=>m'.set p.1 (.term (.var (m'.n+p.2)))) m1) with n:=k }:=by
     intro L;induction L with
     | nil=>grind
     | cons a L ih=>
      intro m1 k hk;rw[a1A,a1A,<- ih (m1.set a.1 (.term (.var (m1.n+a.2)))) k hk,hk];rfl
    rw[e1 _ m _ rfl] at E;have K:VL (m.n+i.s.tail.length) (.comp i.name ((a1m m.n i.s.tail.length).map .var)):=by
     unfold VL;refine adk fun t ht=>?_;obtain⟨j,hj,rfl⟩:=a17.1 ht;grind [List.mem_range',VL]
    have M:er (.comp i.name ((a1m m.n i.s.tail.length).map .var)):=by
     unfold er;have:=z.qC;refine⟨z.S7,zg,Xf fun t ht=>?_⟩;obtain⟨j,hj,rfl⟩:=a17.1 ht;exact amR
    exact E.IG (a0D _) (show nQ (m.n+i.s.tail.length) ((v,_)::m.sr.tr) from⟨zo,K,h.tr.up (a1M _ _)⟩)
     ⟨show mi ((v,_)::m.sr.tr) from⟨h.sr.nC,xg,aH8 h.tr G⟩,show mh ((v,_)::m.sr.tr) from⟨M,h.sr.ok⟩⟩
 rw[bO hw] at hr;clear hw;by_cases hw:i.word=nD
 .rw[zip hw] at hr;obtain⟨l,c,b⟩:=DW hr;obtain⟨g1,g2⟩:=Pu hx F.tm c;have R:jx i.name=l.length:=by rw[g2];exact z.test hw
  exact H (fun q r=>⟨aIa h.tr h.sr (adm hx C c) g1 R r,h.sr.test g1 R r⟩) b
 rw[bO hw] at hr;clear hw;by_cases hw:i.word=vz
 .rw[zip hw] at hr;have hr:=g hr;subst hr;exact h.set w _ trivial
 rw[bO hw] at hr;clear hw;by_cases hw:i.word=rh
 .rw[zip hw] at hr;have hr:=g hr;subst hr;exact h.set w _ trivial
 rw[bO hw] at hr;clear hw;by_cases hw:i.word=kY
 .rw[zip hw] at hr;split at hr
  .have hr:=g hr;subst hr;exact h.take _
  grind
 rw[bO hw] at hr;clear hw;by_cases hw:i.word=kx
 .rw[zip hw] at hr;have hr:=g hr;subst hr;exact h.again fun _ h=>zg
 rw[bO hw] at hr;clear hw;by_cases hw:i.word=jV
 .rw[zip hw] at hr;have hr:=g hr;subst hr;exact⟨h.tr,h.fr,h.ag,h.sr,h.ask⟩
 rw[bO hw] at hr;clear hw;by_cases hw:i.word=Ar
 .rw[zip hw] at hr;split at hr
  .grind
  .split at hr
   .grind
   .split at hr
    .grind
    .rename_i m' he;have hr:=g hr;subst hr;refine h.enter (fun y hy=>?_) he;obtain⟨k,-,rfl⟩:=a17.1 hy;simp_all [adl]
 rw[bO hw] at hr;clear hw;by_cases hw:i.word=[114,101,116]
 .rw[zip hw,hx] at hr;simp only at hr;split at hr
  .grind
  .have hr:=g hr;subst hr;exact⟨h.tr,h.fr,h.ag,h.sr,h.ask⟩
 grind
def S9{α β:Type}(x:Except iM α){F:α->Nat->Out β}(b:∀ a,Mon (F a)):Mon (fun f=>Cx x fun a=>F a f):=by
 cases x with
 | error e=>exact Mon.const _
 | ok a=>exact b a
def Pz{α β:Type}(x:Except iM α){F:α->Nat->Out β}(b:∀ a,x = .ok a->ef (F a)):ef (fun f=>Cx x fun a=>F a f):=by
 cases x with
 | error e=>exact⟨0,_,J⟩
 | ok a=>exact b a J
end
section
variable{B told:Nat}{m:Vm}
def splitK(i:In)(m:Vm):Option Tm->Out (Bool×Vm)
 | none=>V
 | some (.var v)=>let m1:=i.s.tail.zipIdx.foldl (fun m p=>m.set p.1 (.term (.var (m.n+p.2)))) m;O (.ok (A,{ m1 with n:=m.n+i.s.tail.length,sr:=m.sr.bind v (.comp i.name ((a1m m.n i.s.tail.length).map .var)) }))
 | some (.comp name args)=>if name=i.name/\args.length=i.s.length-1 then O (.ok (A,(i.s.tail.zip args).foldl (fun m p=>m.set p.1 (.term p.2)) m)) else O (.ok (ae,m))
 | some _=>O (.ok (ae,m))
def Kw(m:Vm)(p:Bool×Sr):Out (Bool×Vm):=O (.ok (p.1,{ m with sr:=p.2 }))
def am9(preds:List Pd)(i:In)(m:Vm):Mon (fun d=>qD preds d i m):=by
 unfold qD;refine Mon.ite (Mon.const _) (Mon.ite (Mon.const _) (Mon.ite ?_ (Mon.ite ?_ (Mon.ite (Mon.const _) (Mon.ite ?_ (Mon.ite ?_ (Mon.ite (Mon.const _) (by simp_all [Mon.ite,Mon.const]))))))))
 .simp_all [S9,Mon.bind,ID,Mon.const]
 .exact S9 (m.at i 0) (F:=fun t d=>Cx (m.at i 1) fun u=>Out.bind (gY d t u m.sr) (Kw m)) (by simp_all [S9,Mon.bind,ID,Mon.const])
 .refine S9 (m.at i 0) (F:=fun t d=>splitK i m (dR m.sr.tr d t)) fun t f r h=>?_;simp only at h ⊢;cases hw:dR m.sr.tr f t with
  | none=>rw[hw] at h;cases h
  | some u=>rw[DO _ hw];grind
 simp_all [S9,Mon.bind,W0,Mon.const]
def ana{l:List Co}(a:l≠[])(args:List Sl)(f pc n:Nat):∃ m',m.enter l args f pc n=O m':=by
 cases l with
 | nil=>grind
 | cons c r=>exact⟨_,J⟩
def anb(m:Vm):∃ p,m.back=O p:=by
 unfold Vm.back;cases m.br.getLast? with
 | none=>grind
 | some a=>
  simp only;cases a.others with
  | nil=>grind
  | cons c l=>
   simp only;obtain⟨m',h⟩:=ana (m:={ m with sr:=m.sr.gO a.mark }) (l:=c::l) zs a.args a.f a.pc (m.br.length-1);simp_all
def Bp{α:Type}{c:Prop}[Decidable c]{F G:Nat->Option α}(a:c->ef F)(b:¬ c->ef G):ef (fun f=>if c then F f else G f):=by
 by_cases h:c<;>simp_all
def aId{preds:List Pd}{i:In}{x:Fm}(h:iY told m)(a:gi B m)(hx:m.fs[m.f]?=O x)(e:sU x.code.slots i):ef (fun d=>qD preds d i m):=by
 have g:=a.fr _ _ hx;unfold qD;refine Bp (fun _=>ef.now _) fun _=>Bp (fun _=>ef.now _) fun _=>Bp (fun _=>?_) fun _=>Bp (fun _=>?_) fun _=>Bp (fun _=>?_) fun _=>Bp (fun _=>?_) fun _=>Bp (fun hw=>?_) fun _=>Bp (fun _=>ef.now _) fun _=>Bp (fun _=>ef.now _) fun _=>Bp (fun _=>?_) fun _=>
  Bp (fun _=>ef.now _) fun _=>Bp (fun _=>ef.now _) fun _=>Bp (fun _=>?_) fun _=>Bp (fun _=>?_) fun _=>ef.now _
 .exact Pz (m.at i 0) (F:=fun t d=>Out.bind (gY d t (i.const.getD default) m.sr) (Kw m)) fun t _=>ef.bind (G:=fun p _=>Kw m p) (ID _ _ _) (fun _=>Mon.const _) (M6 _ m.sr (a04 _) h.sr.nC _ _) fun _ _ _=>ef.now _
 .exact Pz (m.at i 0) (F:=fun t d=>Cx (m.at i 1) fun u=>Out.bind (gY d t u m.sr) (Kw m)) fun t _=>Pz (m.at i 1) (F:=fun u d=>Out.bind (gY d t u m.sr) (Kw m)) fun u _=>ef.bind (G:=fun p _=>Kw m p) (ID _ _ _) (fun _=>Mon.const _) (M6 _ m.sr (a04 _) h.sr.nC _ _) fun _ _ _=>ef.now _
 .simp_all [Pz,ef.now]
 .refine Pz (m.at i 0) (F:=fun t d=>splitK i m (dR m.sr.tr d t)) fun t _=>?_;obtain⟨f,u,hu⟩:=DQ h.sr.nC t;refine⟨f,?_⟩;simp only;rw[hu];cases u with
  | var v=>exact⟨_,J⟩
  | atom s=>exact⟨_,J⟩
  | int s=>exact⟨_,J⟩
  | comp s l=>
   simp only[splitK];split<;>exact⟨_,J⟩
 .refine Pz (m.iI i.s) (F:=fun l d=>Out.bind (uy d i.name l m.sr) (Kw m)) fun l j=>?_;obtain⟨g1,g2⟩:=Pu hx g.tm j;exact ef.bind (G:=fun p _=>Kw m p) (W0 _ _ _) (fun _=>Mon.const _) (amF h.sr.nC h.sr.ok g1 (by rw[g2];exact e.test hw)) fun _ _ _=>ef.now _
 .cases m.slot (i.s.getD 0 0)<;>exact ef.now _
 .cases preds.find? fun p=>p.name == i.name && p.arity == i.s.length with
  | none=>simp_all [ef.now]
  | some p=>
   simp only;cases p.clauses with
   | nil=>simp_all [ef.now]
   | cons c l=>
    simp only;obtain⟨m',k⟩:=ana (m:=m) (l:=c::l) zs (i.s.map m.slot) m.f m.pc m.br.length;simp_all [ef.now]
 .rw[hx];simp only;cases x.back with
  | none=>simp_all [ef.now]
  | some b=>simp_all [ef.now]
def adn(preds:List Pd):∀ (f d:Nat) (m:Vm),Le (ld preds d f m) (ld preds (d+1) f m)
 | 0,d,m=>by intro r h;simp_all [ld]
 | f+1,d,m=>by
  rw[ld,ld];split
  .exact Le.rfl
  .cases m.fs[m.f]? with
   | none=>exact Le.rfl
   | some x=>
    simp only;cases x.code.ins[m.pc]? with
    | none=>exact Le.rfl
    | some i=>
     simp only;split
     .exact Le.rfl
     .refine Out.vw (am9 preds i _ d) fun p=>?_;split
      .exact adn preds f d p.2
      .cases p.2.back with
       | none=>exact Le.rfl
       | some q=>
        obtain⟨b,q⟩:=q;cases b with
        | false=>exact Le.rfl
        | true=>exact adn preds f d q
def ado(preds:List Pd)(d:Nat):∀ (f:Nat) (m:Vm),Le (ld preds d f m) (ld preds d (f+1) m)
 | 0,m=>by intro r h;simp_all [ld]
 | f+1,m=>by
  rw[ld,ld];split
  .exact Le.rfl
  .cases m.fs[m.f]? with
   | none=>exact Le.rfl
   | some x=>
    simp only;cases x.code.ins[m.pc]? with
    | none=>exact Le.rfl
    | some i=>
     simp only;split
     .exact Le.rfl
     .refine Out.vw Le.rfl fun p=>?_;split
      .exact ado preds d f p.2
      .cases p.2.back with
       | none=>exact Le.rfl
       | some q=>
        obtain⟨b,q⟩:=q;cases b with
        | false=>exact Le.rfl
        | true=>exact ado preds d f q
theorem adp{preds:List Pd}{f':Nat}{m:Vm}{r:Except iM (Bool×Vm)}(h:ld preds d f m=O r)(a:d<=pb)(b:f<=f'):ld preds pb f' m=O r:=by
 have c:ld preds pb f m=O r:=Le.many (F:=fun d=>ld preds d f m) (by simp_all [adn]) a _ h;exact Le.many (F:=fun f=>ld preds pb f m) (by simp_all [ado]) b _ c
end
section
variable{B told:Nat}{m:Vm}
def aIe{l:List Co}{args:List Sl}{m':Vm}(h:m.enter l args f pc n=O m'):m'.sr=m.sr:=by
 cases l with
 | nil=>cases h
 | cons c l=>have:=(a0G h).symm;grind
def adq{p:Bool×Vm}(h:m.back=O p):p.2.sr.fuel=m.sr.fuel:=by
 unfold Vm.back at h;split at h
 .grind
 .split at h
  .have:=(a0G h).symm;subst this;rfl
  .split at h
   .grind
   .rename_i m' he;have:=(a0G h).symm;subst this;show m'.sr.fuel=_;rw[aIe he];rfl
theorem gi.dec(a:gi B m)(c:m.sr.fuel≠0)(b:m.pc+1<=200000):gi (B-1) { m with sr:=m.sr.dec,pc:=m.pc+1 }/\B-1+1=B:=by
 have d:m.sr.tr.length+m.sr.fuel<=B:=a.cW;have e:=a.mR;exact⟨⟨a.f,a.fr,a.ag,a.marks,a.mono,by show m.sr.tr.length+(m.sr.fuel-1)<=B-1;omega,by show m.br.length+(m.sr.fuel-1)<=B-1;omega,b,a.uD,a.vB⟩,zo⟩
theorem iY.dec(h:iY told m):iY told { m with sr:=m.sr.dec,pc:=m.pc+1 }:=⟨h.tr,h.fr,h.ag,⟨h.sr.nC,h.sr.ok⟩,h.ask⟩
def Xi{preds:List Pd}(j:∀ p∈preds,∀ c∈p.clauses,vA c):∀ (n:Nat) (m:Vm),m.sr.fuel<n->gi B m->iY told m->∃ d f r,ld preds d f m=O r
 | 0,_,h,_,_=>absurd h (Nat.not_lt_zero _)
 | n+1,m,h,k,E=>by
  by_cases a:m.sr.fuel=0
  .exact⟨0,1,_,by rw[ld,zip a]⟩
  obtain⟨x,hx⟩:=k.cur;have z:=k.fr _ _ hx;cases l:x.code.ins[m.pc]? with
  | none=>exact⟨0,1,_,by rw[ld,bO a,hx];simp only;rw[l]⟩
  | some i=>
   have H:=(a08.1 l).1;have hlen:=z.code.len;have o:sU x.code.slots i:=z.code.ins _ (a1B l);obtain⟨s,F⟩:=k.dec a zo;have t:=E.dec;by_cases I:i.word=[100,111,110,101]
   .refine⟨0,1,if x.ask=A then .ok (A,{ m with sr:=m.sr.dec,pc:=m.pc+1 }) else .error (.fault 5),?_⟩;rw[ld,bO a,hx];grind
   .obtain⟨d1,q,u⟩:=aId (preds:=preds) t s hx o;have C:∀ d f,ld preds d (f+1) m=Out.bind (qD preds d i { m with sr:=m.sr.dec,pc:=m.pc+1 }) fun p=>if p.1 then ld preds d f p.2 else match p.2.back with
      | none=>V
      | some (ae,m)=>O (.ok (ae,m))
      | some (A,m)=>ld preds d f m:=fun d f=>by
     rw[ld,bO a,hx];grind
    cases q with
    | error e=>exact⟨d1,1,.error e,by simp_all⟩
    | ok p=>
     obtain⟨b,m1⟩:=p;obtain⟨g1,g2⟩:=adj s t.sr.ok hx o j u;have g3:=am8 t s hx o u;rw[F] at g1;have K:m1.sr.fuel<=m.sr.fuel-1:=g2;have D:∀ d',d1<=d'->qD preds d' i { m with sr:=m.sr.dec,pc:=m.pc+1 }=O (.ok (b,m1)):=fun d' G=>(am9 preds i _).more u G;cases b with
     | true=>
      obtain⟨d2,f2,w,y⟩:=Xi j n m1 zo g1 g3;refine⟨max d1 d2,f2+1,w,?_⟩;rw[C,D _ (Nat.le_max_left _ _)];simp only[Out.ek,if_true];exact adp y (Nat.le_max_right _ _) (a0D _)
     | false=>
      obtain⟨q,g⟩:=anb m1;have g4:=g1.back g;have g5:=g3.back g;have g6:=adq g;obtain⟨b2,m2⟩:=q;cases b2 with
      | false=>
       refine⟨d1,1,.ok (ae,m2),?_⟩;simp_all
      | true=>
       obtain⟨d2,f2,w,y⟩:=Xi j n m2 zg g4 g5;refine⟨max d1 d2,f2+1,w,?_⟩;rw[C,D _ (Nat.le_max_left _ _)];simp only[Out.ek,a06,if_false];rw[g];exact adp y (Nat.le_max_right _ _) (a0D _)
theorem Xj{preds:List Pd}(j:∀ p∈preds,∀ c∈p.clauses,vA c){d:Nat}:∀ (f:Nat) (m:Vm) (p:Bool×Vm),gi B m->iY told m->ld preds d f m=O (.ok p)->gi B p.2/\iY told p.2/\p.2.sr.fuel<=m.sr.fuel/\(p.1=A->∃ x,p.2.fs[p.2.f]?=O x/\x.ask=A)
 | 0,_,_,_,_,h=>by grind [ld]
 | f+1,m,p,k,y,h=>by
  rw[ld] at h;by_cases s:m.sr.fuel=0
  .grind
  rw[bO s] at h;obtain⟨x,hx⟩:=k.cur;have t:=k.fr _ _ hx;rw[hx] at h;simp only at h;cases l:x.code.ins[m.pc]? with
  | none=>grind
  | some i=>
   rw[l] at h;simp only at h;have I:=(a08.1 l).1;have hlen:=t.code.len;have u:sU x.code.slots i:=t.code.ins _ (a1B l);obtain⟨n,z⟩:=k.dec s zo;have o:=y.dec;have C:m.sr.dec.fuel<=m.sr.fuel:=Nat.sub_le _ _;by_cases w:i.word=[100,111,110,101]
   .rw[zip w] at h;split at h
    .rename_i D;injection h with h;injection h with h;subst h;exact⟨n.up zo,o,C,fun _=>⟨x,hx,D⟩⟩
    .cases h
   .rw[bO w] at h;obtain⟨q,r,a⟩| ⟨e,r,a⟩:=Out.bind_some h
    .obtain⟨b,m1⟩:=q;obtain⟨g1,g2⟩:=adj n o.sr.ok hx u j r;have g3:=am8 o n hx u r;rw[z] at g1;have K:m1.sr.fuel<=m.sr.dec.fuel:=g2;cases b with
     | true=>
      obtain⟨E,F,G,H⟩:=Xj j f m1 p g1 g3 a;grind
     | false=>
      simp only[a06,if_false] at a;cases g:m1.back with
      | none=>grind
      | some q=>
       rw[g] at a;have g4:=g1.back g;have g5:=g3.back g;have g6:=adq g;obtain⟨b2,m2⟩:=q;have g6:m2.sr.fuel=m1.sr.fuel:=g6;cases b2 with
       | false=>
        grind
       | true=>
        obtain⟨E,F,G,H⟩:=Xj j f m2 p g4 g5 a;grind
    grind
def aIf{preds:List Pd}(e:∀ p∈preds,∀ c∈p.clauses,vA c)(g:gi B m)(h:iY told m):∃ d f r,Cy preds d f m=O r:=by
 unfold Cy;by_cases i:0<m.pc
 .simp only[zip i];obtain⟨q,a⟩:=anb m;have g4:=g.back a;have g5:=h.back a;obtain⟨b,m1⟩:=q;rw[a];cases b with
  | false=>simp_all
  | true=>exact Xi e _ m1 (a04 _) g4 g5
 .simp only[bO i];exact Xi e _ m (a04 _) g h
def aIg{preds:List Pd}{f':Nat}{r:Except iM (Bool×Vm)}(h:Cy preds d f m=O r)(a:d<=pb)(b:f<=f'):Cy preds pb f' m=O r:=by
 grind [Cy,adp]
def anc{preds:List Pd}(e:∀ p∈preds,∀ c∈p.clauses,vA c){p:Bool×Vm}(g:gi B m)(i:iY told m)(h:Cy preds d f m=O (.ok p)):gi B p.2/\iY told p.2/\p.2.sr.fuel<=m.sr.fuel/\(p.1=A->∃ x,p.2.fs[p.2.f]?=O x/\x.ask=A):=by
 unfold Cy at h;by_cases j:0<m.pc
 .rw[zip j] at h;cases a:m.back with
  | none=>grind
  | some q=>
   rw[a] at h;have g4:=g.back a;have g5:=i.back a;have g6:=adq a;obtain⟨b,m1⟩:=q;have g6:m1.sr.fuel=m.sr.fuel:=g6;cases b with
   | false=>
    injection h with h;injection h with h;subst h;exact⟨g4,g5,Nat.le_of_eq g6,fun h=>by cases h⟩
   | true=>
    obtain⟨k,l,o,n⟩:=Xj e f m1 p g4 g5 h;exact⟨k,l,zo,n⟩
 grind [Xj]
end
structure KvT(Q:List Bs->Prop)(T:List Tok)(f:Nat):Prop where
 B7:∀ k v d x k' v',Q v->oE T f k v d=O (.ok x k' v')->Q v'
 args:∀ k v d a acc x k' v',Q v->nW T f k v d a acc=O (.ok x k' v')->Q v'
 list:∀ k v d x k' v',Q v->pE T f k v d=O (.ok x k' v')->Q v'
 elems:∀ k v d acc x k' v',Q v->qk T f k v d acc=O (.ok x k' v')->Q v'
 oper:∀ l k v d x k' v',Q v->jl T f l k v d=O (.ok x k' v')->Q v'
 more:∀ l y k v d x k' v',Q v->oT T f l y k v d=O (.ok x k' v')->Q v'
def Xk{Q:List Bs->Prop}{T:List Tok}(i:∀ j k v x k' v',(tk T j).kind=2->Q v->xA (tk T j) k v = .ok x k' v'->Q v'):∀ f,KvT Q T f
 | 0=>⟨by simp_all [oE],by simp_all [nW],by simp_all [pE],by simp_all [qk],by simp_all [jl],by simp_all [oT]⟩
 | f+1=>by
  have ih:=Xk i f;refine⟨?_,?_,?_,?_,?_,?_⟩
  .intro k v d x k' v' hv h;rw[oE] at h;split at h
   .grind
   split at h
   .grind
   split at h
   .grind
   split at h
   .split at h
    .obtain⟨a,e,v1,c,b⟩:=ek h;obtain⟨rfl,rfl,rfl⟩:=od b;exact ih.args _ _ _ _ _ _ _ _ hv c
    grind
   split at h
   .grind
   split at h
   .obtain⟨a,e,v1,c,b⟩:=ek h;obtain⟨rfl,rfl,rfl⟩:=od b;exact ih.oper _ _ _ _ _ _ _ hv c
   split at h
   .exact ih.list _ _ _ _ _ _ hv h
   grind
  .intro k v d a acc x k' v' hv h;rw[nW] at h;obtain⟨y,e,v1,c,b⟩:=ek h;have g:=ih.oper _ _ _ _ _ _ _ hv c;split at b
   .exact ih.args _ _ _ _ _ _ _ _ g b
   grind
  .intro k v d x k' v' hv h;rw[pE] at h;split at h
   .grind
   .obtain⟨all,e,v1,c,b⟩:=ek h;have g:=ih.elems _ _ _ _ _ _ _ hv c;split at b
    .obtain⟨y,o,v2,m,n⟩:=ek b;obtain⟨rfl,rfl,rfl⟩:=od n;exact ih.oper _ _ _ _ _ _ _ g m
    .obtain⟨rfl,rfl,rfl⟩:=od b;omega
  .intro k v d acc x k' v' hv h;rw[qk] at h;obtain⟨y,e,v1,c,b⟩:=ek h;have g:=ih.oper _ _ _ _ _ _ _ hv c;split at b
   .exact ih.elems _ _ _ _ _ _ _ g b
   grind
  .intro l k v d x k' v' hv h;rw[jl] at h;split at h
   .exact ih.B7 _ _ _ _ _ _ hv h
   .obtain⟨y,e,v1,c,b⟩:=ek h;exact ih.more _ _ _ _ _ _ _ _ (ih.oper _ _ _ _ _ _ _ hv c) b
  .intro l y k v d x k' v' hv h;rw[oT] at h;split at h
   .grind
   .obtain⟨z,e,v1,c,b⟩:=ek h;exact ih.more _ _ _ _ _ _ _ _ (ih.oper _ _ _ _ _ _ _ hv c) b
structure KvB(Q:List Bs->Prop)(T:List Tok)(f:Nat):Prop where
 lit:∀ k v d x k' v',Q v->mL T f k v d=O (.ok x k' v')->Q v'
 lits:∀ k v d acc x k' v',Q v->oF T f k v d acc=O (.ok x k' v')->Q v'
 row:∀ k v d x k' v',Q v->ng T f k v d=O (.ok x k' v')->Q v'
 rest:∀ k v d x k' v',Q v->oG T f k v d=O (.ok x k' v')->Q v'
 body:∀ k v d x k' v',Q v->lM T f k v d=O (.ok x k' v')->Q v'
def kvB{Q:List Bs->Prop}{T:List Tok}(p:∀ j k v x k' v',(tk T j).kind=2->Q v->xA (tk T j) k v = .ok x k' v'->Q v'):∀ f,KvB Q T f
 | 0=>⟨by simp_all [mL],by simp_all [oF],by simp_all [ng],by simp_all [oG],by simp_all [lM]⟩
 | f+1=>by
  have ih:=kvB p f;refine⟨?_,?_,?_,?_,?_⟩
  .intro k v d x k' v' hv h;rw[mL] at h;split at h
   .grind
   split at h
   .grind
   split at h
   .obtain⟨b,n,v1,g,e⟩:=ek h;simp only[a0z,cg.ok.injEq] at e;obtain⟨-,-,rfl⟩:=e;exact ih.lit _ _ _ _ _ _ hv g
   split at h
   .obtain⟨b,n,v1,g,e⟩:=ek h;obtain⟨rfl,rfl,rfl⟩:=od e;exact ih.body _ _ _ _ _ _ hv g
   .obtain⟨y,n,v1,g,e⟩:=ek h;have m:=(Xk p f).oper _ _ _ _ _ _ _ hv g;split at e
    .obtain⟨z,q,v2,o,i⟩:=ek e;simp only[a0z,cg.ok.injEq] at i;obtain⟨-,-,rfl⟩:=i;exact(Xk p f).oper _ _ _ _ _ _ _ m o
    grind
  .intro k v d acc x k' v' hv h;rw[oF] at h;obtain⟨y,n,v1,g,e⟩:=ek h;have m:=ih.lit _ _ _ _ _ _ hv g;split at e
   .exact ih.lits _ _ _ _ _ _ _ m e
   grind
  .intro k v d x k' v' hv h;rw[ng] at h;obtain⟨l,n,v1,g,e⟩:=ek h;simp only[a0z,cg.ok.injEq] at e;obtain⟨-,-,rfl⟩:=e;exact ih.lits _ _ _ _ _ _ _ hv g
  .intro k v d x k' v' hv h;rw[oG] at h;split at h
   .grind
   .exact ih.body _ _ _ _ _ _ hv h
  .intro k v d x k' v' hv h;rw[lM] at h;obtain⟨a,n,v1,g,e⟩:=ek h;have m:=ih.row _ _ _ _ _ _ hv g;split at e
   .obtain⟨b,q,v2,o,i⟩:=ek e;have s:=ih.row _ _ _ _ _ _ m o;split at i
    .obtain⟨c,u,v3,t,r⟩:=ek i;simp only[a0z,cg.ok.injEq] at r;obtain⟨-,-,rfl⟩:=r;exact ih.rest _ _ _ _ _ _ s t
    grind
   .split at e
    .obtain⟨b,q,v2,o,i⟩:=ek e;simp only[a0z,cg.ok.injEq] at i;obtain⟨-,-,rfl⟩:=i;exact ih.rest _ _ _ _ _ _ m o
    grind
def IH(v:List Bs):Prop:=v.length<=12/\∀ x∈v,x≠[]/\x.length<=9
def ads{T:List Tok}(b:Cq T)(c:∀ u∈T,u.kind=2->u.text≠[])(j k:Nat)(v:List Bs)(x:Ex)(k':Nat)(v':List Bs)(hk:(tk T j).kind=2)(hv:IH v)(h:xA (tk T j) k v = .ok x k' v'):IH v':=by
 have a:=WO (T:=T) (k:=j) zo;unfold xA at h;split at h
 .grind
 .split at h
  .grind
  .rename_i d;injection h with f g e;subst e;have i:=hv.1;unfold OG at d;refine⟨zg,fun x hx=>?_⟩;rcases a0P.1 hx with hx | hx
   .exact hv.2 x hx
   .simp only[a0N,List.not_mem_nil,or_false] at hx;subst hx;exact⟨c _ a hk,b.len _ a⟩
def aIj{T:List Tok}(a:Cq T)(d:∀ u∈T,u.kind=2->u.text≠[]){b:Bd}{vs:List Bs}(h:q8 T = .ok b k vs):IH vs/\eY vs.length T.length b:=by
 unfold q8 at h;split at h
 .rename_i b1 e v1 c;have f:=(kvB (ads a d) _).body _ _ _ _ _ _ ⟨zs,zs⟩ c;have hk:=((WT a _).body _ _ _ _ _ _ c).1;split at h
  .rename_i b2 g v2 hm;obtain⟨rfl,rfl,rfl⟩:=od hm;grind
  .grind
  grind
 .grind
 grind
mutual
def iZ:Bd->Nat
 | .mk _ _ args parts=>fL args+jD parts+1
 termination_by structural x=>x
def jD:List Bd->Nat
 | []=>0
 | x::xs=>iZ x+jD xs
 termination_by structural x=>x
end
theorem adt(x:Bd):∀ (a:List Bd),jD (a++[x])=jD a+iZ x
 | []=>by simp [jD]
 | y::a=>by simp [jD,adt x a];omega
theorem ane:∀ (x:Bd),1<=iZ x
 | .mk ..=>by simp [iZ]
structure BSz(T:List Tok)(f:Nat):Prop where
 lit:∀ k v d x k' v',mL T f k v d=O (.ok x k' v')->iZ x+2*k<=2*k'
 lits:∀ k v d acc x k' v',oF T f k v d acc=O (.ok x k' v')->jD x+2*k<=2*k'+jD acc/\(acc.length<x.length)/\(acc.length+1<x.length->jD x+2*k+2<=2*k'+jD acc)
 row:∀ k v d x k' v',ng T f k v d=O (.ok x k' v')->iZ x+2*k<=2*k'
 rest:∀ k v d x k' v',oG T f k v d=O (.ok x k' v')->iZ x+2*k<=2*k'
 body:∀ k v d x k' v',lM T f k v d=O (.ok x k' v')->iZ x+2*k<=2*k'
def bSz{T:List Tok}(o:Cq T):∀ f,BSz T f
 | 0=>⟨by grind [mL],by grind [oF],by grind [ng],by grind [oG],by grind [lM]⟩
 | f+1=>by
  have ih:=bSz o f;refine⟨?_,?_,?_,?_,?_⟩
  .intro k v d x k' v' h;rw[mL] at h;split at h
   .grind
   split at h
   .simp only[a0z,cg.ok.injEq] at h;obtain⟨rfl,rfl,rfl⟩:=h;grind [iZ,jD,fL]
   split at h
   .obtain⟨b,j,v1,g,e⟩:=ek h;have g1:=ih.lit _ _ _ _ _ _ g;simp only[a0z,cg.ok.injEq] at e;obtain⟨rfl,rfl,rfl⟩:=e;grind [iZ,jD,fL]
   split at h
   .obtain⟨b,j,v1,g,e⟩:=ek h;have g1:=ih.body _ _ _ _ _ _ g;obtain⟨rfl,rfl,rfl⟩:=od e;omega
   .obtain⟨y,j,v1,g,e⟩:=ek h;obtain⟨g1,g2,g3⟩:=(Pk o f).oper _ _ _ _ _ _ _ g;have t:=al6 y;split at e
    .rename_i c u;obtain⟨z,p,v2,m,i⟩:=ek e;obtain⟨q1,q2,q3⟩:=(Pk o f).oper _ _ _ _ _ _ _ m;simp only[a0z,cg.ok.injEq] at i;obtain⟨rfl,rfl,rfl⟩:=i;grind [iZ,jD,fL]
    .split at e
     .grind
     .split at e
      .grind
      .simp only[a0z,cg.ok.injEq] at e;obtain⟨rfl,rfl,rfl⟩:=e;obtain⟨kind,name,n,w,args⟩:=y;grind [iH,iZ,jD,Ex.args]
  .intro k v d acc x k' v' h;rw[oF] at h;obtain⟨y,j,v1,g,e⟩:=ek h;have g1:=ih.lit _ _ _ _ _ _ g;split at e
   .obtain⟨q1,q2,q3⟩:=ih.lits _ _ _ _ _ _ _ e;grind [adt,List.length_append,List.length_cons,List.length_nil]
   .simp only[a0z,cg.ok.injEq] at e;obtain⟨rfl,rfl,rfl⟩:=e;grind [adt]
  .intro k v d x k' v' h;rw[ng] at h;obtain⟨l,j,v1,g,e⟩:=ek h;obtain⟨g1,g2,g3⟩:=ih.lits _ _ _ _ _ _ _ g;simp only[a0z,cg.ok.injEq] at e;obtain⟨rfl,rfl,rfl⟩:=e;simp only[jD,List.length_nil] at g1 g2 g3;split
   .grind [jD]
   .rename_i B;have:0+1<l.length:=by
     rcases l with _ | ⟨a,_ | ⟨b,r⟩⟩<;>grind
    grind [iZ,fL]
  .intro k v d x k' v' h;rw[oG] at h;split at h
   .grind
   .exact ih.body _ _ _ _ _ _ h
  .intro k v d x k' v' h;rw[lM] at h;obtain⟨a,j,v1,g,e⟩:=ek h;have g1:=ih.row _ _ _ _ _ _ g;split at e
   .obtain⟨b,p,v2,m,i⟩:=ek e;have q1:=ih.row _ _ _ _ _ _ m;split at i
    .obtain⟨c,C,v3,s,q⟩:=ek i;have m1:=ih.rest _ _ _ _ _ _ s;simp only[a0z,cg.ok.injEq] at q;obtain⟨rfl,rfl,rfl⟩:=q;grind [iZ,jD,fL]
    .simp only[a0z,cg.ok.injEq] at i;obtain⟨rfl,rfl,rfl⟩:=i;simp only[iZ,jD,fL,yA];omega
   .split at e
    .obtain⟨b,p,v2,m,i⟩:=ek e;have q1:=ih.rest _ _ _ _ _ _ m;simp only[a0z,cg.ok.injEq] at i;obtain⟨rfl,rfl,rfl⟩:=i;grind [iZ,jD,fL]
    grind
mutual
theorem eY.Ta {n M b:Nat} (a:M<=b):∀ {x:Bd},eY n M x->eY n b x
 | .mk kind name args parts,hx=>by
  unfold eY at hx ⊢;obtain⟨c,d,e,f,g,h,i,j⟩:=hx;exact⟨c,d,e,f,g,Nat.le_trans h a,Nat.le_trans i a,fc.Ta a j⟩
 termination_by structural x=>x
theorem fc.Ta {n M b:Nat} (a:M<=b):∀ {l:List Bd},fc n M l->fc n b l
 | [],hx=>by simp_all [fc]
 | x::xs,hx=>by
  unfold fc at hx ⊢;exact⟨eY.Ta a hx.1,fc.Ta a hx.2⟩
 termination_by structural x=>x
end
structure qE(c:Cl):Prop where
 cl:sN 2900 c
 name:c.name.length<=9
 vs:IH c.vars
 bsz:iZ c.body<=5800
theorem ang{T:List Tok}(d:Cq T)(m:∀ u∈T,u.kind=2->u.text≠[])(n:T.length<=2900){a:Nat}{name:Bs}{args:List Ex}{v v':List Bs}{c:Cl}(g:name.length<=9)(hv:IH v)(hx:fg v.length args)(i:args.length<=4)(j:fL args<=2900)
  (h:FY T f name args a k v=O (.ok c k' v')):qE c:=by
 unfold FY at h;split at h
 .grind
 split at h
 .obtain⟨b,p,v1,e,o⟩:=ek h;obtain⟨rfl,rfl,rfl⟩:=od o;obtain⟨g1,g2,g3,g4⟩:=(WT d f).body _ _ _ _ _ _ e;have l:=(kvB (ads d m) f).body _ _ _ _ _ _ hv e;have q:=(bSz d f).body _ _ _ _ _ _ e;exact⟨⟨g1.Ta n,fg.mono g2 _ hx,i,j,by have:=l.1;grind⟩,g,l,zg⟩
 .obtain⟨rfl,rfl,rfl⟩:=od h;exact⟨⟨aHd,hx,i,j,by have:=hv.1;grind⟩,g,hv,by simp [OH,iZ,jD,fL]⟩
theorem aIl{T:List Tok}(a:Cq T)(d:∀ u∈T,u.kind=2->u.text≠[])(e:T.length<=2900){v':List Bs}{c:Cl}(h:BR T f k=O (.ok c k' v')):qE c:=by
 unfold BR at h;split at h
 .rename_i hk;have g:(tk T k).text.length<=9:=by
   by_cases hlt:k<T.length
   .have:tk T k∈T:=by unfold tk;simp [a05,hlt]
    exact a.len _ this
   .unfold tk;simp [a05,hlt]
  split at h
  .obtain⟨l,m,v1,b,i⟩:=ek h;obtain⟨n,o,v2,j,p⟩:=ek i;obtain⟨rfl,rfl,rfl⟩:=od j;obtain⟨g1,g2,g3,g4,g5⟩:=(Pk a f).args _ _ _ _ _ _ _ _ fg.nil b;have hle:=(WS T f).args _ _ _ _ _ _ _ _ b;have q:=(Xk (ads a d) f).args _ _ _ _ _ _ _ _ ⟨zs,zs⟩ b;grind [fL,ang]
  .exact ang a d e g ⟨zs,zs⟩ fg.nil zs (by simp [fL]) h
 grind
def anh{T:List Tok}(a:Cq T)(b:∀ u∈T,u.kind=2->u.text≠[])(d:T.length<=2900):∀ (f k:Nat) (acc l:List Cl) (k':Nat) (v':List Bs),acc.length<=40->(∀ c∈acc,qE c)->Bg T f k acc=O (.ok l k' v')->l.length<=40/\∀ c∈l,qE c
 | 0,k,acc,l,k',v',_,_,h=>by simp_all [Bg]
 | f+1,k,acc,l,k',v',g,i,h=>by
  unfold Bg at h;split at h
  .grind
  split at h
  .grind
  .obtain⟨c,j,v1,m,e⟩:=ek h;refine anh a b d f _ _ _ _ _ zg (fun x hx=>?_) e;grind [List.mem_singleton,aIl]
def aIm{T:List Tok}(a:Cq T)(b:∀ u∈T,u.kind=2->u.text≠[])(d:T.length<=2900){l:List Cl}{v':List Bs}(h:Ip T = .ok l k' v'):l.length<=40/\∀ c∈l,qE c:=
 anh a b d (T.length+1) 0 [] l k' v' (Nat.zero_le _) zg (by simp_all [aci])
theorem ani{T:List Tok}(a:Cq T)(d:T.length<=2900){b:Bd}{vs:List Bs}(h:q8 T = .ok b k vs):iZ b<=5800:=by
 unfold q8 at h;split at h
 .rename_i b1 e v1 c;have hk:=((WT a _).body _ _ _ _ _ _ c).2.2.2;have f:=(bSz a _).body _ _ _ _ _ _ c;grind [od]
 .grind
 grind
def gS(c:UInt8):Bs->List Bs
 | []=>[[]]
 | x::r=>if x=c then []::gS c r else match gS c r with
  | []=>[[x]]
  | l::ls=>(x::l)::ls
def DX(w:Bs):Option Int:=
 let z:Int:=match w with
  | 45::r=>- num r
  | _=>num w
 if kX z=w/\-9223372036854775808<=z/\z<=9223372036854775807 then O z else V
def km(w:Bs)(n:Nat):Option Nat:=match DX w with
 | some z=>if 0<=z/\z<n then O z.toNat else V
 | none=>V
def pS(w:Bs):Option Bs:=
 match w with
 | []=>V
 | c::r=>if 10<w.length\/digit c=A\/w.all (fun c=>decide (33<=c/\c<=126))=ae\/(c=45/\r≠[]) then V else O w
def DY(w:Bs):Option Tm:=match DX w with
 | some z=>O (.int z)
 | none=>(pS w).map .atom
def xZ(n:Nat):List Bs->Option (List Nat)
 | []=>O []
 | w::r=>match km w n,xZ n r with
  | some s,O l=>O (s::l)
  | _,_=>V
def mV(slots:Nat):Bs->List Bs->In->Option (In×List Bs)
 | [],ws,i=>O (i,ws)
 | x::r,ws,i=>
  if x=42 then match xZ slots ws with
   | some l=>O ({ i with s:=i.s++l },[])
   | none=>V
  else match ws with
   | []=>V
   | w::ws=>
    if x=115 then match km w slots with
     | some s=>mV slots r ws { i with s:=i.s++[s] }
     | none=>V
    else if x=99 then match DY w with
     | some t=>mV slots r ws { i with const:=O t }
     | none=>V
    else if x=110 then match pS w with
     | some t=>mV slots r ws { i with name:=t }
     | none=>V
    else match km w 10000 with
     | some s=>mV slots r ws { i with s:=i.s++[s] }
     | none=>V
def vE(slots:Nat)(ws:List Bs):Option In:=match ws with
 | []=>V
 | w::ws=>match mT w with
  | none=>V
  | some sh=>match mV slots sh ws ⟨w,[],V,[]⟩with
   | some (i,[])=>if ((w=[109,97,107,101]\/w=[115,112,108,105,116])/\i.s.length<2)\/(w=nD/\jx i.name≠i.s.length) then V else O i
   | _=>V
structure Pv where
 preds:List Pd
 open_:Bool
 ask:Option (Co×Nat)
def GI(l:List Co)(f:Co->Co):List Co:=match l.reverse with
 | []=>[]
 | c::r=>(f c::r).reverse
def Kx(l:List Pd)(f:Pd->Pd):List Pd:=match l.reverse with
 | []=>[]
 | c::r=>(f c::r).reverse
def oN(ws:List Bs)(p:Pv):Option Pv:=
 match ws with
 | [[112,114,101,100],a,b]=>match p.ask,pS a,km b 64 with
  | none,O a,O b=>if p.preds.any (fun q=>q.name == a && q.arity == b) then V else O { p with preds:=p.preds++[⟨a,b,[]⟩],open_:=false }
  | _,_,_=>V
 | [[99,108,97,117,115,101],a]=>match p.ask,km a 65 with
  | none,O a=>if p.preds=[] then V else O { p with preds:=Kx p.preds fun q=>{ q with clauses:=q.clauses++[⟨a,[]⟩] },open_:=true }
  | _,_=>V
 | [[113,117,101,114,121],a,b]=>match p.ask,km a 65 with
  | none,O a=>match km b (a+1) with
   | some b=>O { p with ask:=O (⟨a,[]⟩,b),open_:=true }
   | none=>V
  | _,_=>V
 | _=>
  if p.ask.isSome/\(ws.head?=O [112,114,101,100]\/ws.head?=O [99,108,97,117,115,101]\/ws.head?=O [113,117,101,114,121]) then V
  else match p.ask with
   | some (c,n)=>match vE c.slots ws with
    | some i=>O { p with ask:=O ({ c with ins:=c.ins++[i] },n) }
    | none=>V
   | none=>if p.open_ then match (PD p.preds) with
     | some c=>match vE c.slots ws with
      | some i=>O { p with preds:=Kx p.preds fun q=>{ q with clauses:=GI q.clauses fun c=>{ c with ins:=c.ins++[i] } } }
      | none=>V
     | none=>V
    else V
where
 PD (l:List Pd):Option Co:=match l.getLast? with
  | some q=>q.clauses.getLast?
  | none=>V
def pk:List Bs->Nat->Pv->Except Nat Pv
 | [],_,p=>.ok p
 | [r],k,p=>if r=[]/\1<k then .ok p else .error k
 | r::rs,k,p=>match oN (gS 32 r) p with
  | none=>.error k
  | some p=>pk rs (k+1) p
def ri(s:Bs):Except (Nat×Nat) (List Pd×Co×Nat):=
 if 65536<s.length then .error (1,0)
 else match pk (gS 10 s) 1 ⟨[],ae,V⟩with
  | .error k=>.error (5,k)
  | .ok p=>match p.ask with
   | some (c,n)=>.ok (p.preds,c,n)
   | none=>.error (5,(gS 10 s).length)
end P
