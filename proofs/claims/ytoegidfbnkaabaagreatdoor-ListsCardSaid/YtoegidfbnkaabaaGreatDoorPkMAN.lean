/- A part of one proof (PureVg, PureVs, PureVl, PureVn, PureVt, PureVq, PureVx, PureV, PureSz, PureP). -/
import Derived.Test.YtoegidfbnkaabaaGreatDoorPkMAM
set_option linter.all false
set_option maxRecDepth 100000
set_option maxHeartbeats 8000000
open Option renaming some → O, none → V
open Bool renaming true → G, false → ae
open Option.some renaming injEq → a3I, inj → a3R
open Nat renaming le_refl → a3O, le_trans → a3Q, le_succ → a4W, le_add_right → a47
open List renaming getElem?_eq_getElem → a3P, mem_cons_self → a3S, mem_cons → a3T, mem_append → a3Z, getD_eq_getElem?_getD → a4j, getElem?_eq_some_iff → a4l, range' → a4z, mem_cons_of_mem → a4A, foldl_cons → a4N, mem_of_getElem? → a4O, mem_map → a4U, mem_or_eq_of_mem_set → a41, dropLast_eq_take → a5R, length_set → a6g, getLast?_eq_getElem? → a7C, eq_of_mem_replicate → a7S
open Except renaming ok → a55
namespace Go.Proofs.YtoegidfbnkaabaaGreatDoor
variable{B' N d f i k k' n pc:Nat}
namespace P
section
variable{B:Nat}{m:Vm}
theorem gH.up(h:gH B m)(a:B<=B'):gH B' m:=⟨h.f,h.fr,h.ag,h.marks,h.mono,a3Q h.cV a,a3Q h.nQ a,h.pc,h.xw,h.ym⟩
def gH.Jv(h:gH B m){s:Sr}(e:B<=B')(b:m.sr.tr <:+ s.tr)(g:s.fuel<=m.sr.fuel)(c:s.cV<=B'):gH B' { m with sr:=s,n:=n }:=
 ⟨h.f,h.fr,h.ag,fun i a d=>a3Q (h.marks i a d) b.length_le,h.mono,c,by have:=h.nQ;grind,h.pc,h.xw,h.ym⟩
def gH.slots(h:gH B m){x:Fm}(hx:m.fs[m.f]?=O x){sl:List Sl}(e:sl.length=x.slots.length)(ht:∀ y∈sl,AW y):gH B { m with fs:=m.fs.set m.f { x with slots:=sl } }:=by
 have g:(m.fs.set m.f { x with slots:=sl }).length=m.fs.length:=a6g ..;have d:∀ (i:Nat) (z:Fm),(m.fs.set m.f { x with slots:=sl })[i]?=O z->(i=m.f/\z={ x with slots:=sl })\/m.fs[i]?=O z:=fun i z b=>by
  grind
 have c:=h.fr _ _ hx;refine⟨zg,fun i z b=>?_,fun i a j=>?_,h.marks,h.mono,h.cV,h.nQ,h.pc,fun i z b=>?_,h.ym⟩
 .show aeM (m.fs.set _ _).length z;rw[g];rcases d i z b with⟨-,rfl⟩| b
  .exact⟨c.code,by show _<=sl.length;rw[e];exact c.sl,ht,c.back⟩
  grind [fr]
 .grind [ag]
 .rcases d i z b with⟨-,rfl⟩| b
  .grind [xw]
  grind [xw]
theorem gH.cur(h:gH B m):∃ x,m.fs[m.f]?=O x:=⟨_,a3P h.f⟩
def aos{x:Fm}(hx:m.fs[m.f]?=O x)(k:Nat)(y:Sl):m.set k y={ m with fs:=m.fs.set m.f { x with slots:=x.slots.set k y } }:=by
 unfold Vm.set
 congr 1
 apply List.ext_getElem?;grind
def gH.set(h:gH B m)(k:Nat){y:Sl}(b:AW y):gH B (m.set k y):=by
 obtain⟨x,hx⟩:=h.cur;rw[aos hx];refine h.slots hx (a6g ..) fun z a=>?_;rcases a41 a with a | rfl
 .exact(h.fr _ _ hx).tm z a
 omega
def gH.QL{α:Type}(g:Vm->α->Nat×Sl)(b:∀ m a,AW (g m a).2):∀ (L:List α) {m:Vm},gH B m->gH B (L.foldl (fun m p=>m.set (g m p).1 (g m p).2) m)
 | [],_,h=>h
 | a::L,_,h=>by rw[a4N];exact gH.QL g b L (h.set _ (b _ _))
def gH.aot:∀ (L:List (Nat×Tm)) {m:Vm},(∀ p∈L,eB p.2)->gH B m->gH B (L.foldl (fun m p=>m.set p.1 (.term p.2)) m)
 | [],_,_,h=>h
 | a::L,_,b,h=>by rw[a4N];exact gH.aot L (fun p c=>b p (a4A _ c)) (h.set _ (b a (a3S ..)))
def aeN{α:Type}(g:Vm->α->Nat×Sl):∀ (L:List α) (m:Vm),(L.foldl (fun m p=>m.set (g m p).1 (g m p).2) m).sr=m.sr
 | [],_=>rfl
 | a::L,m=>by rw[a4N,aeN g L];rfl
theorem gH.take(h:gH B m)(k:Nat):gH B { m with bz:=m.bz.take k }:=by
 have c:∀ {i:Nat} {a:Ga},(m.bz.take k)[i]?=O a->m.bz[i]?=O a:=fun{i a} hi=>by
  grind
 refine⟨h.f,h.fr,fun i a hi=>h.ag i a (c hi),fun i a hi=>h.marks i a (c hi),fun i j a b d hi e=>h.mono i j a b d (c hi) (c e),h.cV,?_,h.pc,h.xw,fun i a hi=>h.ym i a (c hi)⟩;have:=h.nQ;grind
def gH.again(h:gH B m){a:Ga}(l:Yv m.fs.length a)(hm:a.mark=m.sr.tr.length)(n:a.pc<=200000)(g:B<=B')(o:m.bz.length+1+m.sr.fuel<=B'):gH B' { m with bz:=m.bz++[a] }:=by
 have d:∀ {i:Nat} {b:Ga},(m.bz++[a])[i]?=O b->(i<m.bz.length/\m.bz[i]?=O b)\/(i=m.bz.length/\b=a):=fun{i b} hi=>by
  grind
 refine⟨h.f,h.fr,fun i b hi=>?_,fun i b hi=>?_,fun i j b c k hi e=>?_,a3Q h.cV g,zg,h.pc,h.xw,fun i b hi=>?_⟩
 .rcases d hi with⟨-,hi⟩| ⟨-,rfl⟩
  .grind [ag]
  omega
 .rcases d hi with⟨-,hi⟩| ⟨-,rfl⟩
  .exact h.marks i b hi
  grind
 .rcases d e with⟨p,e⟩| ⟨rfl,rfl⟩
  .rcases d hi with⟨-,hi⟩| ⟨he,-⟩
   .exact h.mono i j b c k hi e
   omega
  .rcases d hi with⟨-,hi⟩| ⟨-,rfl⟩
   .rw[hm];exact h.marks i b hi
   omega
 .rcases d hi with⟨-,hi⟩| ⟨-,rfl⟩
  .grind [ym]
  omega
def gH.frame(h:gH B m){c:Co}{sl:List Sl}(j:zE c)(k:c.slots<=sl.length)(ht:∀ y∈sl,AW y)(l:f<m.fs.length)(o:pc<=200000):gH B { m with fs:=m.fs++[⟨c,sl,n,O f,pc,ae⟩],f:=m.fs.length,pc:=0 }:=by
 have d:(m.fs++[(⟨c,sl,n,O f,pc,ae⟩:Fm)]).length=m.fs.length+1:=zs;have e:∀ {i:Nat} {z:Fm},(m.fs++[(⟨c,sl,n,O f,pc,ae⟩:Fm)])[i]?=O z->m.fs[i]?=O z\/z=⟨c,sl,n,O f,pc,ae⟩:=fun{i z} hi=>by
  grind
 refine⟨zg,fun i z hi=>?_,fun i a hi=>?_,h.marks,h.mono,h.cV,h.nQ,zg,fun i z hi=>?_,h.ym⟩
 .show aeM (m.fs++_).length z;rw[d];rcases e hi with hi | rfl
  .have:=h.fr i z hi;exact⟨this.code,this.sl,this.tm,fun b g=>by have:=this.back b g;omega⟩
  .exact⟨j,k,ht,fun b g=>zg⟩
 .show Yv (m.fs++_).length a;rw[d];have:=h.ag i a hi;exact⟨by have:=this.f;omega,this.others,this.args,this.qQ⟩
 .rcases e hi with hi | rfl
  .grind [xw]
  omega
def QM(m:Vm)(rest:List Co)(args:List Sl)(f pc:Nat):List Ga:=match rest with | []=>[] | _=>[⟨m.sr.tr.length,f,pc,rest,args⟩]
theorem gH.enter(h:gH B m){B':Nat}{l:List Co}{args:List Sl}{f pc n:Nat}{m':Vm}(e:∀ c∈l,zE c)(j:∀ y∈args,AW y)(k:args.length<=60)(g:f<m.fs.length)(i:pc<=200000)(r:n<=m.bz.length)(o:B<=B')(s:n+1+m.sr.fuel<=B')
  (hr:m.enter l args f pc n=O m'):gH B' m':=by
 cases l with
 | nil=>cases hr
 | cons c rest=>
  have hr:m'={ m with bz:=m.bz.take n++QM m rest args f pc,fs:=m.fs++[⟨c,args++List.replicate (max c.slots args.length-args.length) .nil,n,O f,pc,ae⟩],f:=m.fs.length,pc:=0 }:=(a3R hr).symm;have d:=e c (a3S ..);have p:gH B' { m with bz:=m.bz.take n++QM m rest args f pc }:=by
   cases rest with
   | nil=>
    grind [QM,up,take]
   | cons c2 q=>
    refine(h.take n).again (a:=⟨m.sr.tr.length,f,pc,c2::q,args⟩) ⟨g,fun c d=>e c (a4A _ d),j,k⟩ J i o ?_;grind
  subst hr;refine p.frame d ?_ ?_ g i
  .grind
  .intro y b;rcases a3Z.1 b with b | b
   .grind
   .rw[a7S b];trivial
def gH.back(h:gH B m){p:Bool×Vm}(hr:m.back=O p):gH B p.2:=by
 unfold Vm.back at hr;cases d:m.bz.getLast? with
 | none=>grind
 | some a=>
  rw[d] at hr;simp only at hr;rw[a7C] at d;have hlt:=(a4l.1 d).1;have hk:=h.marks _ _ d;have e:=h.ag _ _ d;have o:=h.ym _ _ d;have hu:∀ n,n<=m.bz.length-1->gH B { m with sr:=m.sr.iH a.mark,bz:=m.bz.take n }:=fun n t=>by
   have ht:=h.take n;have j:(m.sr.iH a.mark).tr.length<=m.sr.tr.length/\a.mark<=(m.sr.iH a.mark).tr.length:=by
    grind [Sr.iH,List.length_drop]
   refine⟨ht.f,ht.fr,ht.ag,fun i b g=>?_,ht.mono,?_,ht.nQ,ht.pc,ht.xw,ht.ym⟩
   .have k:(m.bz.take n)[i]?=O b:=g;rw[List.getElem?_take] at k;split at k
    .exact a3Q (h.mono i _ b a zo k d) j.2
    grind
   .have r:m.sr.tr.length+m.sr.fuel<=B:=h.cV;show(m.sr.iH a.mark).tr.length+m.sr.fuel<=B;omega
  have l:gH B { m with sr:=m.sr.iH a.mark }:=by
   have j:(m.sr.iH a.mark).tr.length<=m.sr.tr.length/\a.mark<=(m.sr.iH a.mark).tr.length:=by
    grind [Sr.iH,List.length_drop]
   refine⟨h.f,h.fr,h.ag,fun i b g=>?_,h.mono,?_,h.nQ,h.pc,h.xw,h.ym⟩
   .have u:i<m.bz.length:=(a4l.1 g).1;exact a3Q (h.mono i _ b a zo g d) j.2
   .have r:m.sr.tr.length+m.sr.fuel<=B:=h.cV;show(m.sr.iH a.mark).tr.length+m.sr.fuel<=B;omega
  cases q:a.others with
  | nil=>
   rw[q] at hr;have hr:=(a3R hr).symm;subst hr;have s:m.bz.dropLast=m.bz.take (m.bz.length-1):=a5R ..;simp only;rw[s];have:=hu (m.bz.length-1) (a3O _);exact⟨e.f,this.fr,this.ag,this.marks,this.mono,this.cV,this.nQ,o,this.xw,this.ym⟩
  | cons c0 l0=>
   rw[q] at hr;simp only at hr;cases he:({ m with sr:=m.sr.iH a.mark }:Vm).enter (c0::l0) a.args a.f a.pc (m.bz.length-1) with
   | none=>grind
   | some m'=>
    rw[he] at hr;have hr:=(a3R hr).symm;subst hr;refine l.enter (fun c w=>e.others c zg) e.args e.qQ e.f o zg (a3O _) ?_ he;have:=h.nQ;show m.bz.length-1+1+m.sr.fuel<=B;omega
end
section
variable{B:Nat}{m:Vm}
def Ey{α β:Type}{x:Except jP α}{k:α->Out β}{r:β}(h:Js x k=O (.ok r)):∃ a,x = .ok a/\k a=O (.ok r):=by
 cases x with
 | error e=>cases h
 | ok a=>exact⟨a,J,h⟩
theorem aeP{x:Fm}(hx:m.fs[m.f]?=O x)(b:∀ y∈x.slots,AW y){t:Tm}(h:m.slot k = .term t):eB t:=by
 unfold Vm.slot at h;rw[hx] at h;simp only[a4j] at h;cases a:x.slots[k]? with
 | none=>grind
 | some y=>
  rw[a] at h;have h:y = .term t:=h;subst h;exact b _ (a4O a)
def Yw{x:Fm}(hx:m.fs[m.f]?=O x)(a:∀ y∈x.slots,AW y){i:In}{t:Tm}(h:m.at i k = .ok t):eB t:=by
 grind [Vm.at,aeP]
def Ut{x:Fm}(hx:m.fs[m.f]?=O x)(b:∀ y∈x.slots,AW y):∀ {ks:List Nat} {l:List Tm},m.iO ks = .ok l->(∀ t∈l,eB t)/\l.length=ks.length
 | [],l,h=>by
  rw[Vm.iO] at h;injection h with h;subst h;exact⟨fun _ h=>(by cases h),J⟩
 | k::r,l,h=>by
  rw[Vm.iO] at h;cases c:m.slot k with
  | term t=>
   rw[c] at h;simp only at h;cases a:m.iO r with
   | error e=>grind
   | ok l'=>
    rw[a] at h;injection h with h;subst h;obtain⟨g1,g2⟩:=Ut hx b a;refine⟨fun u hu=>?_,zg⟩;rcases a3T.1 hu with rfl | hu
    .grind [aeP]
    grind
  | nil=>grind
  | level n=>grind
def Yx:∀ {l:List Tm},(∀ t∈l,eB t)->jF l
 | [],_=>by simp_all [jF]
 | t::l,h=>by unfold jF;exact⟨h t (a3S ..),Yx fun u hu=>h u (a4A _ hu)⟩
def aou:∀ {l:List Tm},jF l->∀ t∈l,eB t
 | [],_,_,h=>zg
 | u::l,h,t,ht=>by
  unfold jF at h;rcases a3T.1 ht with rfl | ht
  .grind
  .exact aou h.2 t ht
def aov{a b:Tm}{s:Sr}{p:Bool×Sr}(h:lZ f a b s=O (.ok p)):s.tr <:+ p.2.tr/\p.2.fuel<=s.fuel/\p.2.cV<=s.cV:=
 ⟨(N9 f).tm h,((FN f).tm h).2,((FN f).tm h).1⟩
def aow{dJ:List Pd}{i:In}{p:Bool×Vm}{x:Fm}(h:gH B m)(ht:nG m.sr.tr)(hx:m.fs[m.f]?=O x)(hi:uS x.code.slots i)(H:∀ p∈dJ,∀ c∈p.clauses,zE c)(hr:vO dJ d i m=O (.ok p)) :
  gH (B+1) p.2/\p.2.sr.fuel<=m.sr.fuel:=by
 have z:=h.fr _ _ hx;have a:=h.up (a4W B);have I:m.sr.cV<=B:=h.cV;have Ob:=h.nQ;unfold vO at hr;have j:∀ {q:Vm},O (a55 (G,q))=O (a55 p:Except jP (Bool×Vm))->p=(G,q):=fun h=>zg;have A:∀ {o:Out (Bool×Sr)},(∀ q,o=O (.ok q)->m.sr.tr <:+ q.2.tr/\q.2.fuel<=m.sr.fuel/\q.2.cV<=m.sr.cV)->Out.bind o (fun p=>O (.ok (p.1,{ m with sr:=p.2 })))=O (.ok p)->gH (B+1) p.2/\p.2.sr.fuel<=m.sr.fuel:=fun K L=>by
  obtain⟨q,r,g⟩| ⟨e,r,g⟩:=Out.bind_some L
  .injection g with g;injection g with g;subst g;obtain⟨g1,g2,g3⟩:=K q r;exact⟨h.Jv (a4W B) g1 g2 zo,g2⟩
  grind
 dsimp only at hr;by_cases hw:i.word=oe
 .rw[zip hw] at hr;have hr:=j hr;subst hr;have:=a.set (i.s.getD 0 0) (y:=.term (.var m.n)) (by simp_all [AW,eB]);exact⟨this.Jv (a3O _) (List.suffix_refl _) (a3O _) this.cV,a3O _⟩
 rw[bU hw] at hr;clear hw;by_cases hw:i.word=[112,117,116]
 .rw[zip hw] at hr;have hr:=j hr;subst hr;obtain⟨t,M,N,-⟩:=hi.con (.inl hw);refine⟨a.set _ ?_,a3O _⟩;rw[M];exact N
 rw[bU hw] at hr;clear hw;by_cases hw:i.word=[99,111,110,115,116]
 .rw[zip hw] at hr;obtain⟨t,r,g⟩:=Ey hr;exact A (fun q w=>aov w) g
 rw[bU hw] at hr;clear hw;by_cases hw:i.word=[115,97,109,101]
 .rw[zip hw] at hr;obtain⟨t,r,g⟩:=Ey hr;obtain⟨u,D,C⟩:=Ey g;exact A (fun q w=>aov w) C
 rw[bU hw] at hr;clear hw;by_cases hw:i.word=[109,97,107,101]
 .rw[zip hw] at hr;obtain⟨l,r,g⟩:=Ey hr;have hr:=j g;subst hr;obtain⟨g1,g2⟩:=Ut hx z.tm r;refine⟨a.set _ ?_,a3O _⟩;show eB (.comp i.name l);unfold eB;have:=hi.qQ;exact⟨hi.Ur,zg,Yx g1⟩
 rw[bU hw] at hr;clear hw;by_cases hw:i.word=[115,112,108,105,116]
 .rw[zip hw] at hr;obtain⟨t,r,g⟩:=Ey hr;have P:=Yw hx z.tm r;cases hw:fI m.sr.tr d t with
  | none=>grind
  | some Q=>
   rw[hw] at g;have E:=xn ht P hw;cases Q with
   | atom s=>grind
   | int s=>grind
   | comp name args=>
    simp only at g;split at g
    .have hr:=j g;subst hr;unfold eB at E;refine⟨a.aot _ fun p R=>?_,?_⟩
     .exact aou E.2.2 _ (List.of_mem_zip R).2
     .have:=aeN (fun _ (p:Nat×Tm)=>(p.1,Sl.term p.2)) (i.s.tail.zip args) m;grind
    grind
   | var v=>
    have hr:=j g;subst hr;have D:=h.QL (fun m (p:Nat×Nat)=>(p.1,.term (.var (m.n+p.2)))) (fun _ _=>by show eB _;simp_all [eB]) i.s.tail.zipIdx;have C:=aeN (fun m (p:Nat×Nat)=>(p.1,Sl.term (.var (m.n+p.2)))) i.s.tail.zipIdx m;have F:(m.sr.bind v (.comp i.name ((a4z m.n i.s.tail.length).map .var))).fuel=m.sr.fuel:=rfl;refine⟨D.Jv (a4W B) ?_ ?_ ?_,?_⟩
    .rw[C];exact List.suffix_cons _ _
    .grind
    .unfold Sr.cV at I ⊢;show((v,_)::m.sr.tr).length+m.sr.fuel<=B+1;grind
    grind
 rw[bU hw] at hr;clear hw;by_cases hw:i.word=mD
 .rw[zip hw] at hr;obtain⟨l,r,g⟩:=Ey hr;obtain⟨g1,g2⟩:=Ut hx z.tm r;exact A (fun q w=>aof ht g1 (by rw[g2];exact hi.test hw) w) g
 rw[bU hw] at hr;clear hw;by_cases hw:i.word=pL
 .rw[zip hw] at hr;have hr:=j hr;subst hr;exact⟨a.set _ trivial,a3O _⟩
 rw[bU hw] at hr;clear hw;by_cases hw:i.word=qR
 .rw[zip hw] at hr;have hr:=j hr;subst hr;exact⟨a.set _ trivial,a3O _⟩
 rw[bU hw] at hr;clear hw;by_cases hw:i.word=kZ
 .rw[zip hw] at hr;split at hr
  .have hr:=j hr;subst hr;exact⟨a.take _,a3O _⟩
  grind
 rw[bU hw] at hr;clear hw;by_cases hw:i.word=kr
 .rw[zip hw] at hr;have hr:=j hr;subst hr;have S:=hi.one zg;refine⟨h.again ⟨h.f,fun _ h=>zg,fun _ h=>zg,zs⟩ J ?_ (a4W B) zo,a3O _⟩;have:i.s.getD 0 0<100000:=by
   rw[a4j,a3P zo];exact hi.small _ (List.getElem_mem _)
  grind
 rw[bU hw] at hr;clear hw;by_cases hw:i.word=jQ
 .rw[zip hw] at hr;have hr:=j hr;subst hr;have S:=hi.one zg;have:i.s.getD 0 0<100000:=by
   rw[a4j,a3P zo];exact hi.small _ (List.getElem_mem _)
  exact⟨⟨a.f,a.fr,a.ag,a.marks,a.mono,a.cV,a.nQ,zg,a.xw,a.ym⟩,a3O _⟩
 rw[bU hw] at hr;clear hw;by_cases hw:i.word=rA
 .rw[zip hw] at hr;split at hr
  .grind
  .rename_i q w;split at hr
   .grind
   .split at hr
    .grind
    .rename_i m' he;have hr:=j hr;subst hr;have T:=List.mem_of_find?_eq_some w;have U:∀ y∈i.s.map m.slot,AW y:=fun y W=>by
      obtain⟨k,-,rfl⟩:=a4U.1 W;cases X:m.slot k with
      | term t=>exact aeP hx z.tm X
      | nil=>trivial
      | level n=>trivial
     refine⟨h.enter (H q T) U (by rw[List.length_map];exact hi.qQ) h.f h.pc (a3O _) (a4W B) zo he,?_⟩;rename_i ef;cases gU:q.clauses with
     | nil=>grind
     | cons c0 l0=>rw[gU] at he;have:=(a3R he).symm;grind
 rw[bU hw] at hr;clear hw;by_cases hw:i.word=[114,101,116]
 .rw[zip hw] at hr;rw[hx] at hr;simp only at hr;split at hr
  .grind
  .rename_i b F;have hr:=j hr;subst hr;exact⟨⟨z.back b F,a.fr,a.ag,a.marks,a.mono,a.cV,a.nQ,a.xw _ _ hx,a.xw,a.ym⟩,a3O _⟩
 grind
end
section
variable{N:Nat}
mutual
def VL (n:Nat):Tm->Prop
 | .var i=>i<n
 | .comp _ l=>yn n l
 | .atom _=>True
 | .int _=>True
 termination_by structural t=>t
def yn (n:Nat):List Tm->Prop
 | []=>True
 | t::ts=>VL n t/\yn n ts
 termination_by structural t=>t
end
def og(n:Nat):Tr->Prop
 | []=>True
 | (i,t)::r=>i<n/\VL n t/\og n r
mutual
theorem VL.up {n m:Nat} (h:n<=m):∀ {t:Tm},VL n t->VL m t
 | .var i,ht=>by grind [VL]
 | .comp s l,ht=>by unfold VL at ht ⊢;exact yn.up h ht
 | .atom s,_=>by simp_all [VL]
 | .int s,_=>by simp_all [VL]
theorem yn.up {n m:Nat} (h:n<=m):∀ {l:List Tm},yn n l->yn m l
 | [],_=>by simp_all [yn]
 | t::l,ht=>by unfold yn at ht ⊢;exact⟨VL.up h ht.1,yn.up h ht.2⟩
end
theorem og.up{n m:Nat}(h:n<=m):∀ {t:Tr},og n t->og m t
 | [],_=>trivial
 | (i,t)::r,ht=>⟨by have:=ht.1;omega,ht.2.1.up h,og.up h ht.2.2⟩
def og.drop{n:Nat}:∀ (k:Nat) {t:Tr},og n t->og n (t.drop k)
 | 0,_,h=>h
 | _+1,[],h=>h
 | k+1,(_,_)::_,h=>og.drop k h.2.2
def aox:∀ {tr:Tr} {i:Nat} {t:Tm},og N tr->look i tr=O t->VL N t
 | [],_,_,_,h=>by cases h
 | (j,u)::r,i,t,h,a=>by
  unfold look at a;split at a
  .injection a with a;subst a;exact h.2.1
  .exact aox h.2.2 a
def Yy{tr:Tr}(h:og N tr):∀ {f:Nat} {t a:Tm},VL N t->fI tr f t=O a->VL N a
 | f,.atom s,a,ht,hw=>by simp_all [fI]
 | f,.int s,a,ht,hw=>by simp_all [fI]
 | f,.comp s l,a,ht,hw=>by simp_all [fI]
 | 0,.var i,a,ht,hw=>by
  grind [fI]
 | f+1,.var i,a,ht,hw=>by
  rw[fI] at hw;split at hw
  .grind
  .rename_i t b;exact Yy h (aox h b) hw
theorem aJD{t:Tm}{s:Sr}{p:Bool×Sr}(hk:og N s.tr)(hi:VL N (.var i))(ht:VL N t)(h:uk f i t s=O (.ok p)):og N p.2.tr:=by
 unfold uk at h;obtain⟨q,c,a⟩| ⟨e,c,a⟩:=Out.bind_some h
 .obtain⟨b,s1⟩:=q;have d:s1.tr=s.tr:=((Jq f).tm c).1;cases b with
  | true=>
   grind
  | false=>
   simp only[Bool.false_eq_true,if_false,a3I,Except.ok.injEq] at a;subst a;show og N ((i,t)::s1.tr);rw[d];unfold VL at hi;exact⟨hi,ht,hk⟩
 grind
def QO:∀ f,(∀ a b s p,og N s.tr->VL N a->VL N b->lZ f a b s=O (.ok p)->og N p.2.tr)/\(∀ l r s p,og N s.tr->yn N l->yn N r->nO f l r s=O (.ok p)->og N p.2.tr)
 | 0=>⟨fun _ _ _ _ _ _ _ h=>(by cases h),fun _ _ _ _ _ _ _ h=>(by cases h)⟩
 | f+1=>by
  obtain⟨i,j⟩:=QO f;constructor
  .intro a b s p ht c d h;rw[lZ] at h;split at h
   .grind
   .cases hw:fI s.tr f a with
    | none=>grind
    | some u=>
     cases hv:fI s.tr f b with
     | none=>grind
     | some v=>
      rw[hw,hv] at h;have k:og N s.dec.tr:=ht;have hu:=Yy ht c hw;have m:=Yy ht d hv;grind [aJD,VL]
  .intro l r s p ht g hr h;cases l with
   | nil=>grind [nO]
   | cons a l=>
    cases r with
    | nil=>grind [nO]
    | cons b r=>
     unfold yn at g hr;rw[nO] at h;obtain⟨q,g1,g2⟩| ⟨e,g1,g2⟩:=Out.bind_some h<;>grind
def aoy:∀ {l:List Tm},yn N l->∀ t∈l,VL N t
 | [],_,_,h=>zg
 | u::l,h,t,ht=>by
  unfold yn at h;rcases a3T.1 ht with rfl | ht
  .grind
  .exact aoy h.2 t ht
theorem aeQ:∀ {l:List Tm},(∀ t∈l,VL N t)->yn N l
 | [],_=>by simp_all [yn]
 | t::l,h=>by unfold yn;exact⟨h t (a3S ..),aeQ fun u hu=>h u (a4A _ hu)⟩
theorem aoz:∀ {tr:Tr} {i:Nat},og N tr->N<=i->look i tr=V
 | [],_,_,_=>rfl
 | (j,u)::r,i,h,hi=>by
  unfold look;rw[bU (by have:=h.1;omega)];exact aoz h.2.2 hi
def aJE{tr:Tr}(h:og N tr){v:Nat}(hv:v<N){s:Bs}:¬ FO tr v (.comp s ((a4z N k).map .var)):=by
 intro b;cases b with
 | arg c d=>
  obtain⟨j,a,rfl⟩:=a4U.1 c;rw[List.mem_range'] at a;obtain⟨q,e,f⟩:=a;cases d with
  | here _=>omega
  | via g _=>grind [aoz]
end
section
variable{B told:Nat}{m:Vm}
def AX(n:Nat):Sl->Prop
 | .term t=>VL n t
 | _=>True
theorem AX.up{n k:Nat}(h:n<=k){y:Sl}(a:AX n y):AX k y:=by
 cases y with
 | term t=>exact VL.up h a
 | nil=>trivial
 | level _=>trivial
structure jS(told:Nat)(m:Vm):Prop where
 tr:og m.n m.sr.tr
 fr:∀ (i:Nat) (x:Fm),m.fs[i]?=O x->∀ y∈x.slots,AX m.n y
 ag:∀ (i:Nat) (a:Ga),m.bz[i]?=O a->∀ y∈a.args,AX m.n y
 sr:lO m.sr
 ask:∀ (i:Nat) (x:Fm),m.fs[i]?=O x->x.ask=G->told<=x.slots.length
def jS.Jv(h:jS told m){s:Sr}(c:m.n<=n)(d:og n s.tr)(e:lO s):jS told { m with sr:=s,n:=n }:=
 ⟨d,fun i x hx y b=>(h.fr i x hx y b).up c,fun i a f y b=>(h.ag i a f y b).up c,e,h.ask⟩
def jS.slots(h:jS told m){x:Fm}(hx:m.fs[m.f]?=O x){sl:List Sl}(c:sl.length=x.slots.length)(ht:∀ y∈sl,AX m.n y):jS told { m with fs:=m.fs.set m.f { x with slots:=sl } }:=by
 have b:∀ (i:Nat) (z:Fm),(m.fs.set m.f { x with slots:=sl })[i]?=O z->(i=m.f/\z={ x with slots:=sl })\/m.fs[i]?=O z:=fun i z a=>by
  grind
 refine⟨h.tr,fun i z a y d=>?_,h.ag,h.sr,fun i z a hk=>?_⟩
 .rcases b i z a with⟨-,rfl⟩| a
  .grind
  grind [fr]
 .rcases b i z a with⟨-,rfl⟩| a
  .show told<=sl.length;rw[c];exact h.ask _ _ hx hk
  .exact h.ask i z a hk
def jS.set(h:jS told m)(b:m.f<m.fs.length)(k:Nat){y:Sl}(c:AX m.n y):jS told (m.set k y):=by
 obtain⟨x,hx⟩:∃ x,m.fs[m.f]?=O x:=⟨_,a3P b⟩;rw[aos hx];refine h.slots hx (a6g ..) fun z a=>?_;rcases a41 a with a | rfl
 .grind [fr]
 omega
def aJF(k:Nat)(y:Sl):(m.set k y).fs.length=m.fs.length:=List.length_modify ..
def jS.QL{α:Type}(g:α->Nat×Sl):∀ (L:List α) {m:Vm},jS told m->m.f<m.fs.length->(∀ a∈L,AX m.n (g a).2)->jS told (L.foldl (fun m p=>m.set (g p).1 (g p).2) m)
 | [],_,h,_,_=>h
 | a::L,m,h,c,d=>by
  rw[a4N];exact jS.QL g L (h.set c _ (d a (a3S ..))) (by rw[aJF];exact c) fun b e=>d b (a4A _ e)
theorem jS.take(h:jS told m)(k:Nat):jS told { m with bz:=m.bz.take k }:=by
 refine⟨h.tr,h.fr,fun i a hi=>?_,h.sr,h.ask⟩;grind [ag]
def jS.again(h:jS told m){a:Ga}(d:∀ y∈a.args,AX m.n y):jS told { m with bz:=m.bz++[a] }:=by
 refine⟨h.tr,h.fr,fun i b hi=>?_,h.sr,h.ask⟩;have hi:(m.bz++[a])[i]?=O b:=hi;rcases a3Z.1 (a4O hi) with c | c
 .obtain⟨j,e,rfl⟩:=List.getElem_of_mem c;grind [a3P,ag]
 grind
def jS.frame(h:jS told m){c:Co}{sl:List Sl}(ht:∀ y∈sl,AX m.n y):jS told { m with fs:=m.fs++[⟨c,sl,n,O f,pc,ae⟩],f:=m.fs.length,pc:=0 }:=by
 have a:∀ {i:Nat} {z:Fm},(m.fs++[(⟨c,sl,n,O f,pc,ae⟩:Fm)])[i]?=O z->m.fs[i]?=O z\/z=⟨c,sl,n,O f,pc,ae⟩:=fun{i z} hi=>by
  grind
 refine⟨h.tr,fun i z hi y b=>?_,h.ag,h.sr,fun i z hi hk=>?_⟩
 .rcases a hi with hi | rfl
  .grind [fr]
  grind
 .rcases a hi with hi | rfl
  .exact h.ask i z hi hk
  grind
theorem jS.enter(h:jS told m){l:List Co}{args:List Sl}{f pc n:Nat}{m':Vm}(d:∀ y∈args,AX m.n y)(hr:m.enter l args f pc n=O m'):jS told m':=by
 cases l with
 | nil=>cases hr
 | cons c rest=>
  have hr:m'={ m with bz:=m.bz.take n++QM m rest args f pc,fs:=m.fs++[⟨c,args++List.replicate (max c.slots args.length-args.length) .nil,n,O f,pc,ae⟩],f:=m.fs.length,pc:=0 }:=(a3R hr).symm;have e:jS told { m with bz:=m.bz.take n++QM m rest args f pc }:=by
   cases rest with
   | nil=>
    grind [QM,take]
   | cons c2 g=>exact(h.take n).again (a:=⟨m.sr.tr.length,f,pc,c2::g,args⟩) d
  subst hr;refine e.frame fun y b=>?_;rcases a3Z.1 b with b | b
  .grind
  .rw[a7S b];trivial
def jS.back(h:jS told m){p:Bool×Vm}(hr:m.back=O p):jS told p.2:=by
 unfold Vm.back at hr;cases b:m.bz.getLast? with
 | none=>grind
 | some a=>
  rw[b] at hr;simp only at hr;rw[a7C] at b;have hu:jS told { m with sr:=m.sr.iH a.mark }:=h.Jv (a3O _) (og.drop _ h.tr) (h.sr.iH _);cases c:a.others with
  | nil=>
   rw[c] at hr;have hr:=(a3R hr).symm;subst hr;have:=hu.take (m.bz.length-1);rw[show m.bz.dropLast=m.bz.take (m.bz.length-1) from a5R ..];exact⟨this.tr,this.fr,this.ag,this.sr,this.ask⟩
  | cons c0 l0=>
   grind [sr,enter,a3R,ag]
end
section
variable{B told:Nat}{m:Vm}
def aeR{x:Fm}(hx:m.fs[m.f]?=O x)(a:∀ y∈x.slots,AX m.n y)(k:Nat):AX m.n (m.slot k):=by
 unfold Vm.slot;rw[hx];simp only[a4j];cases b:x.slots[k]? with
 | none=>trivial
 | some y=>grind
def Yz{x:Fm}(hx:m.fs[m.f]?=O x)(b:∀ y∈x.slots,AX m.n y){i:In}{t:Tm}(h:m.at i k = .ok t):VL m.n t:=by
 unfold Vm.at at h;have a:=aeR hx b (i.s.getD k 0);cases c:m.slot (i.s.getD k 0) with
 | term u=>rw[c] at h a;injection h with h;subst h;exact a
 | nil=>grind
 | level n=>grind
theorem aeS{x:Fm}(hx:m.fs[m.f]?=O x)(a:∀ y∈x.slots,AX m.n y):∀ {ks:List Nat} {l:List Tm},m.iO ks = .ok l->∀ t∈l,VL m.n t
 | [],l,h=>by
  simp_all [Vm.iO]
 | k::r,l,h=>by
  rw[Vm.iO] at h;have b:=aeR hx a k;cases d:m.slot k with
  | term t=>
   rw[d] at h b;simp only at h;cases c:m.iO r with
   | error e=>grind
   | ok l'=>
    rw[c] at h;injection h with h;subst h;have g1:=aeS hx a c;intro u hu;rcases a3T.1 hu with rfl | hu
    .exact b
    grind
  | nil=>grind
  | level n=>grind
def aJG{name:Bs}{args:List Tm}{s:Sr}{p:Bool×Sr}(ht:og N s.tr)(g:lO s)(n:∀ t∈args,VL N t)(o:∀ t∈args,eB t)(l:jx name=args.length)(h:yk f name args s=O (.ok p)):og N p.2.tr:=by
 have hv:∀ j,j<args.length->VL N (args.getD j default):=fun j m=>by
  grind
 have i:∀ j,j<args.length->eB (args.getD j default):=fun j m=>by
  grind
 have two:∀ x∈([[61],[92,61],[61,61],[105,115],[60],[62],[61,60],[62,61],[61,58,61]]:List Bs),name=x->1<args.length:=fun x hx e=>by
  subst e;have:jx name=2:=by
   simp only[a3T,List.not_mem_nil,or_false] at hx;rcases hx with rfl | rfl | rfl | rfl | rfl | rfl | rfl | rfl | rfl<;>rfl
  omega
 have tr:∀ {q:Sr},q.tr=s.tr->og N q.tr:=fun e=>zg;unfold yk at h;split at h
 .grind
 split at h
 .rename_i d;have:=two [61] zs d;exact(QO f).1 _ _ _ _ ht (hv 0 zo) (hv 1 this) h
 split at h
 .rename_i d;have:=two [92,61] zs d;obtain⟨q,b,a⟩| ⟨e,b,a⟩:=Out.bind_some h
  .injection a with a;injection a with a;subst a;exact og.drop _ ((QO f).1 _ _ _ _ ht (hv 0 zo) (hv 1 this) b)
  grind
 split at h
 .exact tr ((Up f).tm h).1
 split at h
 .rename_i d;have:=two [105,115] zs d;obtain⟨q,b,a⟩| ⟨e,b,a⟩:=Out.bind_some h
  .obtain⟨g1,g2,g3⟩:=Eo f g.ok (i 1 this) b;exact(QO f).1 _ _ _ _ (tr g1) (hv 0 zo) (by simp_all [VL]) a
  grind
 split at h
 .grind
 split at h
 .grind
 .obtain⟨q,b,a⟩| ⟨e,b,a⟩:=Out.bind_some h
  .obtain⟨q2,k,c⟩| ⟨e,k,c⟩:=Out.bind_some a
   .injection c with c;injection c with c;subst c;have a:(2:Int)=args.length:=by
     unfold jx at l;grind
    obtain⟨g1,g2,-⟩:=Eo f g.ok (i 0 zo) b;obtain⟨g3,g4,-⟩:=Eo f (by rw[g1];exact g.ok) (i 1 zo) k;grind
   grind
  grind
end
section
variable{B told:Nat}{m:Vm}
def aJH{dJ:List Pd}{i:In}{p:Bool×Vm}{x:Fm}(h:jS told m)(M:gH B m)(hx:m.fs[m.f]?=O x)(hi:uS x.code.slots i)(hr:vO dJ d i m=O (.ok p)):jS told p.2:=by
 have D:=M.fr _ _ hx;have z:=h.fr _ _ hx;have w:=M.f;unfold vO at hr;have g:∀ {q:Vm},O (a55 (G,q))=O (a55 p:Except jP (Bool×Vm))->p=(G,q):=fun h=>zg;have F:∀ {o:Out (Bool×Sr)},(∀ q,o=O (.ok q)->og m.n q.2.tr/\lO q.2)->Out.bind o (fun p=>O (.ok (p.1,{ m with sr:=p.2 })))=O (.ok p)->jS told p.2:=fun R S=>by
  obtain⟨q,c,b⟩| ⟨e,c,b⟩:=Out.bind_some S
  .injection b with b;injection b with b;subst b;obtain⟨g1,g2⟩:=R q c;exact h.Jv (a3O _) g1 g2
  grind
 dsimp only at hr;by_cases hw:i.word=oe
 .rw[zip hw] at hr;have hr:=g hr;subst hr;have c:jS told { m with n:=m.n+1 }:=h.Jv (a4W _) (h.tr.up (a4W _)) h.sr;exact c.set w (i.s.getD 0 0) (y:=.term (.var m.n)) (by show VL _ _;simp_all [VL,Nat.lt_succ_self])
 rw[bU hw] at hr;clear hw;by_cases hw:i.word=[112,117,116]
 .rw[zip hw] at hr;have hr:=g hr;subst hr;obtain⟨t,H,N,A⟩:=hi.con (.inl hw);refine h.set w _ ?_;rw[H];show VL m.n t;cases t with
  | atom s=>simp_all [VL]
  | int s=>simp_all [VL]
  | var i=>cases A
  | comp s l=>cases A
 rw[bU hw] at hr;clear hw;by_cases hw:i.word=[99,111,110,115,116]
 .rw[zip hw] at hr;obtain⟨t,c,b⟩:=Ey hr;obtain⟨t0,H,N,A⟩:=hi.con (.inr hw);have T:VL m.n t0:=by
   cases t0 with
   | atom s=>simp_all [VL]
   | int s=>simp_all [VL]
   | var i=>cases A
   | comp s l=>cases A
  rw[H] at b;exact F (fun q r=>⟨(QO d).1 _ _ _ _ h.tr (Yz hx z c) T r,h.sr.Hq (Yw hx D.tm c) N r⟩) b
 rw[bU hw] at hr;clear hw;by_cases hw:i.word=[115,97,109,101]
 .rw[zip hw] at hr;obtain⟨t,c,b⟩:=Ey hr;obtain⟨u,C,U⟩:=Ey b;exact F (fun q r=>⟨(QO d).1 _ _ _ _ h.tr (Yz hx z c) (Yz hx z C) r,h.sr.Hq (Yw hx D.tm c) (Yw hx D.tm C) r⟩) U
 rw[bU hw] at hr;clear hw;by_cases hw:i.word=[109,97,107,101]
 .rw[zip hw] at hr;obtain⟨l,c,b⟩:=Ey hr;have hr:=g b;subst hr;refine h.set w _ ?_;show VL m.n (.comp i.name l);grind [VL,aeQ,aeS]
 rw[bU hw] at hr;clear hw;by_cases hw:i.word=[115,112,108,105,116]
 .rw[zip hw] at hr;obtain⟨t,c,b⟩:=Ey hr;have W:=Yz hx z c;cases hw:fI m.sr.tr d t with
  | none=>grind
  | some X=>
   rw[hw] at b;have E:=Yy h.tr W hw;cases X with
   | atom s=>grind
   | int s=>grind
   | comp name args=>
    simp only at b;split at b
    .have hr:=g b;subst hr;unfold VL at E;exact jS.QL (fun(p:Nat×Tm)=>(p.1,Sl.term p.2)) _ h w fun p P=>aoy E _ (List.of_mem_zip P).2
    grind
   | var v=>
    have hr:=g b;subst hr;unfold VL at E;have xz:look v m.sr.tr=none:=Jr hw;have c:jS told { m with n:=m.n+i.s.tail.length }:=h.Jv (a47 _ _) (h.tr.up (a47 _ _)) h.sr;have C:=jS.QL (fun(p:Nat×Nat)=>(p.1,Sl.term (.var (m.n+p.2)))) i.s.tail.zipIdx c w (fun p P=>by
     show VL _ _;grind [VL,List.mem_zipIdx])
    have e1:∀ (L:List (Nat×Nat)) (m1:Vm) (k:Nat),m1.n=m.n->L.foldl (fun m' (p:Nat×Nat)=>m'.set p.1 (.term (.var (m.n+p.2)))) { m1 with n:=k }={ (L.foldl (fun m' (p:Nat×Nat)=>m'.set p.1 (.term (.var (m'.n+p.2)))) m1) with n:=k }:=by
     intro L;induction L with
     | nil=>grind
     | cons a L ih=>
      intro m1 k hk;rw[a4N,a4N,<- ih (m1.set a.1 (.term (.var (m1.n+a.2)))) k hk,hk];rfl
    rw[e1 _ m _ rfl] at C;have I:VL (m.n+i.s.tail.length) (.comp i.name ((a4z m.n i.s.tail.length).map .var)):=by
     unfold VL;refine aeQ fun t ht=>?_;obtain⟨j,hj,rfl⟩:=a4U.1 ht;grind [List.mem_range',VL]
    have K:eB (.comp i.name ((a4z m.n i.s.tail.length).map .var)):=by
     unfold eB;have:=hi.qQ;refine⟨hi.Ur,zg,Yx fun t ht=>?_⟩;obtain⟨j,hj,rfl⟩:=a4U.1 ht;exact aok
    exact C.Jv (a3O _) (show og (m.n+i.s.tail.length) ((v,_)::m.sr.tr) from⟨zo,I,h.tr.up (a47 _ _)⟩)
     ⟨show zv ((v,_)::m.sr.tr) from⟨h.sr.FU,xz,aJE h.tr E⟩,show nG ((v,_)::m.sr.tr) from⟨K,h.sr.ok⟩⟩
 rw[bU hw] at hr;clear hw;by_cases hw:i.word=mD
 .rw[zip hw] at hr;obtain⟨l,c,b⟩:=Ey hr;obtain⟨g1,g2⟩:=Ut hx D.tm c;have Q:jx i.name=l.length:=by rw[g2];exact hi.test hw
  exact F (fun q r=>⟨aJG h.tr h.sr (aeS hx z c) g1 Q r,h.sr.test g1 Q r⟩) b
 rw[bU hw] at hr;clear hw;by_cases hw:i.word=pL
 .rw[zip hw] at hr;have hr:=g hr;subst hr;exact h.set w _ trivial
 rw[bU hw] at hr;clear hw;by_cases hw:i.word=qR
 .rw[zip hw] at hr;have hr:=g hr;subst hr;exact h.set w _ trivial
 rw[bU hw] at hr;clear hw;by_cases hw:i.word=kZ
 .rw[zip hw] at hr;split at hr
  .have hr:=g hr;subst hr;exact h.take _
  grind
 rw[bU hw] at hr;clear hw;by_cases hw:i.word=kr
 .rw[zip hw] at hr;have hr:=g hr;subst hr;exact h.again fun _ h=>zg
 rw[bU hw] at hr;clear hw;by_cases hw:i.word=jQ
 .rw[zip hw] at hr;have hr:=g hr;subst hr;exact⟨h.tr,h.fr,h.ag,h.sr,h.ask⟩
 rw[bU hw] at hr;clear hw;by_cases hw:i.word=rA
 .rw[zip hw] at hr;split at hr
  .grind
  .split at hr
   .grind
   .split at hr
    .grind
    .rename_i m' he;have hr:=g hr;subst hr;refine h.enter (fun y hy=>?_) he;obtain⟨k,-,rfl⟩:=a4U.1 hy;simp_all [aeR]
 rw[bU hw] at hr;clear hw;by_cases hw:i.word=[114,101,116]
 .rw[zip hw,hx] at hr;simp only at hr;split at hr
  .grind
  .have hr:=g hr;subst hr;exact⟨h.tr,h.fr,h.ag,h.sr,h.ask⟩
 grind
end
section
variable{B told:Nat}{m:Vm}
def aJK{l:List Co}{args:List Sl}{m':Vm}(h:m.enter l args f pc n=O m'):m'.sr=m.sr:=by
 cases l with
 | nil=>cases h
 | cons c l=>have:=(a3R h).symm;grind
def aoA{p:Bool×Vm}(h:m.back=O p):p.2.sr.fuel=m.sr.fuel:=by
 unfold Vm.back at h;split at h
 .grind
 .split at h
  .have:=(a3R h).symm;subst this;rfl
  .split at h
   .grind
   .rename_i m' he;have:=(a3R h).symm;subst this;show m'.sr.fuel=_;rw[aJK he];rfl
theorem gH.dec(a:gH B m)(c:m.sr.fuel≠0)(b:m.pc+1<=200000):gH (B-1) { m with sr:=m.sr.dec,pc:=m.pc+1 }/\B-1+1=B:=by
 have d:m.sr.tr.length+m.sr.fuel<=B:=a.cV;have e:=a.nQ;exact⟨⟨a.f,a.fr,a.ag,a.marks,a.mono,by show m.sr.tr.length+(m.sr.fuel-1)<=B-1;omega,by show m.bz.length+(m.sr.fuel-1)<=B-1;omega,b,a.xw,a.ym⟩,zo⟩
theorem jS.dec(h:jS told m):jS told { m with sr:=m.sr.dec,pc:=m.pc+1 }:=⟨h.tr,h.fr,h.ag,⟨h.sr.FU,h.sr.ok⟩,h.ask⟩
theorem YA{dJ:List Pd}(k:∀ p∈dJ,∀ c∈p.clauses,zE c){d:Nat}:∀ (f:Nat) (m:Vm) (p:Bool×Vm),gH B m->jS told m->zC dJ d f m=O (.ok p)->gH B p.2/\jS told p.2/\p.2.sr.fuel<=m.sr.fuel/\(p.1=G->∃ x,p.2.fs[p.2.f]?=O x/\x.ask=G)
 | 0,_,_,_,_,h=>by grind [zC]
 | f+1,m,p,l,w,h=>by
  rw[zC] at h;by_cases s:m.sr.fuel=0
  .grind
  rw[bU s] at h;obtain⟨x,hx⟩:=l.cur;have t:=l.fr _ _ hx;rw[hx] at h;simp only at h;cases hi:x.code.ins[m.pc]? with
  | none=>grind
  | some i=>
   rw[hi] at h;simp only at h;have H:=(a4l.1 hi).1;have hlen:=t.code.len;have a:uS x.code.slots i:=t.code.ins _ (a4O hi);obtain⟨n,y⟩:=l.dec s zo;have o:=w.dec;have z:m.sr.dec.fuel<=m.sr.fuel:=Nat.sub_le _ _;by_cases u:i.word=[100,111,110,101]
   .rw[zip u] at h;split at h
    .rename_i A;injection h with h;injection h with h;subst h;exact⟨n.up zo,o,z,fun _=>⟨x,hx,A⟩⟩
    .cases h
   .rw[bU u] at h;obtain⟨q,r,g⟩| ⟨e,r,g⟩:=Out.bind_some h
    .obtain⟨b,m1⟩:=q;obtain⟨g1,g2⟩:=aow n o.sr.ok hx a k r;have g3:=aJH o n hx a r;rw[y] at g1;have I:m1.sr.fuel<=m.sr.dec.fuel:=g2;cases b with
     | true=>
      obtain⟨C,D,E,F⟩:=YA k f m1 p g1 g3 g;grind
     | false=>
      simp only[Bool.false_eq_true,if_false] at g;cases j:m1.back with
      | none=>grind
      | some q=>
       rw[j] at g;have g4:=g1.back j;have g5:=g3.back j;have g6:=aoA j;obtain⟨b2,m2⟩:=q;have g6:m2.sr.fuel=m1.sr.fuel:=g6;cases b2 with
       | false=>
        grind
       | true=>
        obtain⟨C,D,E,F⟩:=YA k f m2 p g4 g5 g;grind
    grind
def aJL{dJ:List Pd}(e:∀ p∈dJ,∀ c∈p.clauses,zE c){p:Bool×Vm}(g:gH B m)(i:jS told m)(h:Od dJ d f m=O (.ok p)):gH B p.2/\jS told p.2/\p.2.sr.fuel<=m.sr.fuel/\(p.1=G->∃ x,p.2.fs[p.2.f]?=O x/\x.ask=G):=by
 unfold Od at h;by_cases j:0<m.pc
 .rw[zip j] at h;cases a:m.back with
  | none=>grind
  | some q=>
   rw[a] at h;have g4:=g.back a;have g5:=i.back a;have g6:=aoA a;obtain⟨b,m1⟩:=q;have g6:m1.sr.fuel=m.sr.fuel:=g6;cases b with
   | false=>
    injection h with h;injection h with h;subst h;exact⟨g4,g5,Nat.le_of_eq g6,fun h=>by cases h⟩
   | true=>
    obtain⟨k,l,o,n⟩:=YA e f m1 p g4 g5 h;exact⟨k,l,zo,n⟩
 grind [YA]
end
structure KvT(Q:List Bs->Prop)(T:List Tok)(f:Nat):Prop where
 CF:∀ k v d x k' v',Q v->oU T f k v d=O (.ok x k' v')->Q v'
 args:∀ k v d a acc x k' v',Q v->oV T f k v d a acc=O (.ok x k' v')->Q v'
 list:∀ k v d x k' v',Q v->qD T f k v d=O (.ok x k' v')->Q v'
 elems:∀ k v d acc x k' v',Q v->rj T f k v d acc=O (.ok x k' v')->Q v'
 oper:∀ l k v d x k' v',Q v->jf T f l k v d=O (.ok x k' v')->Q v'
 more:∀ l y k v d x k' v',Q v->pE T f l y k v d=O (.ok x k' v')->Q v'
def YB{Q:List Bs->Prop}{T:List Tok}(i:∀ j k v x k' v',(tk T j).kind=2->Q v->Aq (tk T j) k v = .ok x k' v'->Q v'):∀ f,KvT Q T f
 | 0=>⟨by simp_all [oU],by simp_all [oV],by simp_all [qD],by simp_all [rj],by simp_all [jf],by simp_all [pE]⟩
 | f+1=>by
  have ih:=YB i f;refine⟨?_,?_,?_,?_,?_,?_⟩
  .intro k v d x k' v' hv h;rw[oU] at h;split at h
   .grind
   split at h
   .grind
   split at h
   .grind
   split at h
   .split at h
    .obtain⟨a,e,v1,c,b⟩:=eo h;obtain⟨rfl,rfl,rfl⟩:=oC b;exact ih.args _ _ _ _ _ _ _ _ hv c
    grind
   split at h
   .grind
   split at h
   .obtain⟨a,e,v1,c,b⟩:=eo h;obtain⟨rfl,rfl,rfl⟩:=oC b;exact ih.oper _ _ _ _ _ _ _ hv c
   split at h
   .exact ih.list _ _ _ _ _ _ hv h
   grind
  .intro k v d a acc x k' v' hv h;rw[oV] at h;obtain⟨y,e,v1,c,b⟩:=eo h;have g:=ih.oper _ _ _ _ _ _ _ hv c;split at b
   .exact ih.args _ _ _ _ _ _ _ _ g b
   grind
  .intro k v d x k' v' hv h;rw[qD] at h;split at h
   .grind
   .obtain⟨all,e,v1,c,b⟩:=eo h;have g:=ih.elems _ _ _ _ _ _ _ hv c;split at b
    .obtain⟨y,o,v2,m,n⟩:=eo b;obtain⟨rfl,rfl,rfl⟩:=oC n;exact ih.oper _ _ _ _ _ _ _ g m
    .obtain⟨rfl,rfl,rfl⟩:=oC b;omega
  .intro k v d acc x k' v' hv h;rw[rj] at h;obtain⟨y,e,v1,c,b⟩:=eo h;have g:=ih.oper _ _ _ _ _ _ _ hv c;split at b
   .exact ih.elems _ _ _ _ _ _ _ g b
   grind
  .intro l k v d x k' v' hv h;rw[jf] at h;split at h
   .exact ih.CF _ _ _ _ _ _ hv h
   .obtain⟨y,e,v1,c,b⟩:=eo h;exact ih.more _ _ _ _ _ _ _ _ (ih.oper _ _ _ _ _ _ _ hv c) b
  .intro l y k v d x k' v' hv h;rw[pE] at h;split at h
   .grind
   .obtain⟨z,e,v1,c,b⟩:=eo h;exact ih.more _ _ _ _ _ _ _ _ (ih.oper _ _ _ _ _ _ _ hv c) b
structure KvB(Q:List Bs->Prop)(T:List Tok)(f:Nat):Prop where
 lit:∀ k v d x k' v',Q v->nU T f k v d=O (.ok x k' v')->Q v'
 lits:∀ k v d acc x k' v',Q v->qE T f k v d acc=O (.ok x k' v')->Q v'
 row:∀ k v d x k' v',Q v->ow T f k v d=O (.ok x k' v')->Q v'
 rest:∀ k v d x k' v',Q v->qF T f k v d=O (.ok x k' v')->Q v'
 body:∀ k v d x k' v',Q v->mX T f k v d=O (.ok x k' v')->Q v'
def kvB{Q:List Bs->Prop}{T:List Tok}(p:∀ j k v x k' v',(tk T j).kind=2->Q v->Aq (tk T j) k v = .ok x k' v'->Q v'):∀ f,KvB Q T f
 | 0=>⟨by simp_all [nU],by simp_all [qE],by simp_all [ow],by simp_all [qF],by simp_all [mX]⟩
 | f+1=>by
  have ih:=kvB p f;refine⟨?_,?_,?_,?_,?_⟩
  .intro k v d x k' v' hv h;rw[nU] at h;split at h
   .grind
   split at h
   .grind
   split at h
   .obtain⟨b,n,v1,g,e⟩:=eo h;simp only[a3I,cr.ok.injEq] at e;obtain⟨-,-,rfl⟩:=e;exact ih.lit _ _ _ _ _ _ hv g
   split at h
   .obtain⟨b,n,v1,g,e⟩:=eo h;obtain⟨rfl,rfl,rfl⟩:=oC e;exact ih.body _ _ _ _ _ _ hv g
   .obtain⟨y,n,v1,g,e⟩:=eo h;have m:=(YB p f).oper _ _ _ _ _ _ _ hv g;split at e
    .obtain⟨z,q,v2,o,i⟩:=eo e;simp only[a3I,cr.ok.injEq] at i;obtain⟨-,-,rfl⟩:=i;exact(YB p f).oper _ _ _ _ _ _ _ m o
    grind
  .intro k v d acc x k' v' hv h;rw[qE] at h;obtain⟨y,n,v1,g,e⟩:=eo h;have m:=ih.lit _ _ _ _ _ _ hv g;split at e
   .exact ih.lits _ _ _ _ _ _ _ m e
   grind
  .intro k v d x k' v' hv h;rw[ow] at h;obtain⟨l,n,v1,g,e⟩:=eo h;simp only[a3I,cr.ok.injEq] at e;obtain⟨-,-,rfl⟩:=e;exact ih.lits _ _ _ _ _ _ _ hv g
  .intro k v d x k' v' hv h;rw[qF] at h;split at h
   .grind
   .exact ih.body _ _ _ _ _ _ hv h
  .intro k v d x k' v' hv h;rw[mX] at h;obtain⟨a,n,v1,g,e⟩:=eo h;have m:=ih.row _ _ _ _ _ _ hv g;split at e
   .obtain⟨b,q,v2,o,i⟩:=eo e;have s:=ih.row _ _ _ _ _ _ m o;split at i
    .obtain⟨c,u,v3,t,r⟩:=eo i;simp only[a3I,cr.ok.injEq] at r;obtain⟨-,-,rfl⟩:=r;exact ih.rest _ _ _ _ _ _ s t
    grind
   .split at e
    .obtain⟨b,q,v2,o,i⟩:=eo e;simp only[a3I,cr.ok.injEq] at i;obtain⟨-,-,rfl⟩:=i;exact ih.rest _ _ _ _ _ _ m o
    grind
def Lk(v:List Bs):Prop:=v.length<=12/\∀ x∈v,x≠[]/\x.length<=9
def aeU{T:List Tok}(b:C7 T)(c:∀ u∈T,u.kind=2->u.text≠[])(j k:Nat)(v:List Bs)(x:Ex)(k':Nat)(v':List Bs)(hk:(tk T j).kind=2)(hv:Lk v)(h:Aq (tk T j) k v = .ok x k' v'):Lk v':=by
 have a:=Yk (T:=T) (k:=j) zo;unfold Aq at h;split at h
 .grind
 .split at h
  .grind
  .rename_i d;injection h with f g e;subst e;have i:=hv.1;unfold PZ at d;refine⟨zg,fun x hx=>?_⟩;rcases a3Z.1 hx with hx | hx
   .exact hv.2 x hx
   .simp only[a3T,List.not_mem_nil,or_false] at hx;subst hx;exact⟨c _ a hk,b.len _ a⟩
def aJO{T:List Tok}(a:C7 T)(d:∀ u∈T,u.kind=2->u.text≠[]){b:Bd}{vs:List Bs}(h:qg T = .ok b k vs):Lk vs/\eZ vs.length T.length b:=by
 unfold qg at h;split at h
 .rename_i b1 e v1 c;have f:=(kvB (aeU a d) _).body _ _ _ _ _ _ ⟨zs,zs⟩ c;have hk:=((Ym a _).body _ _ _ _ _ _ c).1;split at h
  .rename_i b2 g v2 hm;obtain⟨rfl,rfl,rfl⟩:=oC hm;grind
  .grind
  grind
 .grind
 grind
mutual
def iX:Bd->Nat
 | .mk _ _ args parts=>fJ args+jG parts+1
 termination_by structural x=>x
def jG:List Bd->Nat
 | []=>0
 | x::xs=>iX x+jG xs
 termination_by structural x=>x
end
theorem aeV(x:Bd):∀ (a:List Bd),jG (a++[x])=jG a+iX x
 | []=>by simp [jG]
 | y::a=>by simp [jG,aeV x a];omega
theorem aoC:∀ (x:Bd),1<=iX x
 | .mk ..=>by simp [iX]
structure BSz(T:List Tok)(f:Nat):Prop where
 lit:∀ k v d x k' v',nU T f k v d=O (.ok x k' v')->iX x+2*k<=2*k'
 lits:∀ k v d acc x k' v',qE T f k v d acc=O (.ok x k' v')->jG x+2*k<=2*k'+jG acc/\(acc.length<x.length)/\(acc.length+1<x.length->jG x+2*k+2<=2*k'+jG acc)
 row:∀ k v d x k' v',ow T f k v d=O (.ok x k' v')->iX x+2*k<=2*k'
 rest:∀ k v d x k' v',qF T f k v d=O (.ok x k' v')->iX x+2*k<=2*k'
 body:∀ k v d x k' v',mX T f k v d=O (.ok x k' v')->iX x+2*k<=2*k'
def bSz{T:List Tok}(o:C7 T):∀ f,BSz T f
 | 0=>⟨by grind [nU],by grind [qE],by grind [ow],by grind [qF],by grind [mX]⟩
 | f+1=>by
  have ih:=bSz o f;refine⟨?_,?_,?_,?_,?_⟩
  .intro k v d x k' v' h;rw[nU] at h;split at h
   .grind
   split at h
   .simp only[a3I,cr.ok.injEq] at h;obtain⟨rfl,rfl,rfl⟩:=h;grind [iX,jG,fJ]
   split at h
   .obtain⟨b,j,v1,g,e⟩:=eo h;have g1:=ih.lit _ _ _ _ _ _ g;simp only[a3I,cr.ok.injEq] at e;obtain⟨rfl,rfl,rfl⟩:=e;grind [iX,jG,fJ]
   split at h
   .obtain⟨b,j,v1,g,e⟩:=eo h;have g1:=ih.body _ _ _ _ _ _ g;obtain⟨rfl,rfl,rfl⟩:=oC e;omega
   .obtain⟨y,j,v1,g,e⟩:=eo h;obtain⟨g1,g2,g3⟩:=(QF o f).oper _ _ _ _ _ _ _ g;have t:=anI y;split at e
    .rename_i c u;obtain⟨z,p,v2,m,i⟩:=eo e;obtain⟨q1,q2,q3⟩:=(QF o f).oper _ _ _ _ _ _ _ m;simp only[a3I,cr.ok.injEq] at i;obtain⟨rfl,rfl,rfl⟩:=i;grind [iX,jG,fJ]
    .split at e
     .grind
     .split at e
      .grind
      .simp only[a3I,cr.ok.injEq] at e;obtain⟨rfl,rfl,rfl⟩:=e;obtain⟨kind,name,n,w,args⟩:=y;grind [iG,iX,jG,Ex.args]
  .intro k v d acc x k' v' h;rw[qE] at h;obtain⟨y,j,v1,g,e⟩:=eo h;have g1:=ih.lit _ _ _ _ _ _ g;split at e
   .obtain⟨q1,q2,q3⟩:=ih.lits _ _ _ _ _ _ _ e;grind [aeV,List.length_append,List.length_cons,List.length_nil]
   .simp only[a3I,cr.ok.injEq] at e;obtain⟨rfl,rfl,rfl⟩:=e;grind [aeV]
  .intro k v d x k' v' h;rw[ow] at h;obtain⟨l,j,v1,g,e⟩:=eo h;obtain⟨g1,g2,g3⟩:=ih.lits _ _ _ _ _ _ _ g;simp only[a3I,cr.ok.injEq] at e;obtain⟨rfl,rfl,rfl⟩:=e;simp only[jG,List.length_nil] at g1 g2 g3;split
   .grind [jG]
   .rename_i A;have:0+1<l.length:=by
     rcases l with _ | ⟨a,_ | ⟨b,r⟩⟩<;>grind
    grind [iX,fJ]
  .intro k v d x k' v' h;rw[qF] at h;split at h
   .grind
   .exact ih.body _ _ _ _ _ _ h
  .intro k v d x k' v' h;rw[mX] at h;obtain⟨a,j,v1,g,e⟩:=eo h;have g1:=ih.row _ _ _ _ _ _ g;split at e
   .obtain⟨b,p,v2,m,i⟩:=eo e;have q1:=ih.row _ _ _ _ _ _ m;split at i
    .obtain⟨c,B,v3,s,q⟩:=eo i;have m1:=ih.rest _ _ _ _ _ _ s;simp only[a3I,cr.ok.injEq] at q;obtain⟨rfl,rfl,rfl⟩:=q;grind [iX,jG,fJ]
    .simp only[a3I,cr.ok.injEq] at i;obtain⟨rfl,rfl,rfl⟩:=i;simp only[iX,jG,fJ,As];omega
   .split at e
    .obtain⟨b,p,v2,m,i⟩:=eo e;have q1:=ih.rest _ _ _ _ _ _ m;simp only[a3I,cr.ok.injEq] at i;obtain⟨rfl,rfl,rfl⟩:=i;grind [iX,jG,fJ]
    grind
mutual
theorem eZ.Uv {n M b:Nat} (a:M<=b):∀ {x:Bd},eZ n M x->eZ n b x
 | .mk kind name args parts,hx=>by
  unfold eZ at hx ⊢;obtain⟨c,d,e,f,g,h,i,j⟩:=hx;exact⟨c,d,e,f,g,a3Q h a,a3Q i a,fa.Uv a j⟩
 termination_by structural x=>x
theorem fa.Uv {n M b:Nat} (a:M<=b):∀ {l:List Bd},fa n M l->fa n b l
 | [],hx=>by simp_all [fa]
 | x::xs,hx=>by
  unfold fa at hx ⊢;exact⟨eZ.Uv a hx.1,fa.Uv a hx.2⟩
 termination_by structural x=>x
end
structure qT(c:Cl):Prop where
 cl:zw 2900 c
 name:c.name.length<=9
 vs:Lk c.vars
 bsz:iX c.body<=5800
theorem aoE{T:List Tok}(d:C7 T)(m:∀ u∈T,u.kind=2->u.text≠[])(n:T.length<=2900){a:Nat}{name:Bs}{args:List Ex}{v v':List Bs}{c:Cl}(g:name.length<=9)(hv:Lk v)(hx:fj v.length args)(i:args.length<=4)(j:fJ args<=2900)
  (h:Kn T f name args a k v=O (.ok c k' v')):qT c:=by
 unfold Kn at h;split at h
 .grind
 split at h
 .obtain⟨b,p,v1,e,o⟩:=eo h;obtain⟨rfl,rfl,rfl⟩:=oC o;obtain⟨g1,g2,g3,g4⟩:=(Ym d f).body _ _ _ _ _ _ e;have l:=(kvB (aeU d m) f).body _ _ _ _ _ _ hv e;have q:=(bSz d f).body _ _ _ _ _ _ e;exact⟨⟨g1.Uv n,fj.mono g2 _ hx,i,j,by have:=l.1;grind⟩,g,l,zg⟩
 .obtain⟨rfl,rfl,rfl⟩:=oC h;exact⟨⟨aIQ,hx,i,j,by have:=hv.1;grind⟩,g,hv,by simp [P1,iX,jG,fJ]⟩
theorem aJQ{T:List Tok}(a:C7 T)(d:∀ u∈T,u.kind=2->u.text≠[])(e:T.length<=2900){v':List Bs}{c:Cl}(h:Fk T f k=O (.ok c k' v')):qT c:=by
 unfold Fk at h;split at h
 .rename_i hk;have g:(tk T k).text.length<=9:=by
   by_cases hlt:k<T.length
   .have:tk T k∈T:=by unfold tk;simp [a4j,hlt]
    exact a.len _ this
   .unfold tk;simp [a4j,hlt]
  split at h
  .obtain⟨l,m,v1,b,i⟩:=eo h;obtain⟨n,o,v2,j,p⟩:=eo i;obtain⟨rfl,rfl,rfl⟩:=oC j;obtain⟨g1,g2,g3,g4,g5⟩:=(QF a f).args _ _ _ _ _ _ _ _ fj.nil b;have hle:=(Yl T f).args _ _ _ _ _ _ _ _ b;have q:=(YB (aeU a d) f).args _ _ _ _ _ _ _ _ ⟨zs,zs⟩ b;grind [fJ,aoE]
  .exact aoE a d e g ⟨zs,zs⟩ fj.nil zs (by simp [fJ]) h
 grind
def aoF{T:List Tok}(a:C7 T)(b:∀ u∈T,u.kind=2->u.text≠[])(d:T.length<=2900):∀ (f k:Nat) (acc l:List Cl) (k':Nat) (v':List Bs),acc.length<=40->(∀ c∈acc,qT c)->FH T f k acc=O (.ok l k' v')->l.length<=40/\∀ c∈l,qT c
 | 0,k,acc,l,k',v',_,_,h=>by simp_all [FH]
 | f+1,k,acc,l,k',v',g,i,h=>by
  unfold FH at h;split at h
  .grind
  split at h
  .grind
  .obtain⟨c,j,v1,m,e⟩:=eo h;refine aoF a b d f _ _ _ _ _ zg (fun x hx=>?_) e;grind [List.mem_singleton,aJQ]
def aJR{T:List Tok}(a:C7 T)(b:∀ u∈T,u.kind=2->u.text≠[])(d:T.length<=2900){l:List Cl}{v':List Bs}(h:Jf T = .ok l k' v'):l.length<=40/\∀ c∈l,qT c:=
 aoF a b d (T.length+1) 0 [] l k' v' (Nat.zero_le _) zg (by simp_all [anm])
theorem aoG{T:List Tok}(a:C7 T)(d:T.length<=2900){b:Bd}{vs:List Bs}(h:qg T = .ok b k vs):iX b<=5800:=by
 unfold qg at h;split at h
 .rename_i b1 e v1 c;have hk:=((Ym a _).body _ _ _ _ _ _ c).2.2.2;have f:=(bSz a _).body _ _ _ _ _ _ c;grind [oC]
 .grind
 grind
def fP(c:UInt8):Bs->List Bs
 | []=>[[]]
 | x::r=>if x=c then []::fP c r else match fP c r with
  | []=>[[x]]
  | l::ls=>(x::l)::ls
def Ez(w:Bs):Option Int:=
 let z:Int:=match w with
  | 45::r=>- num r
  | _=>num w
 if jc z=w/\-9223372036854775808<=z/\z<=9223372036854775807 then O z else V
def jv(w:Bs)(n:Nat):Option Nat:=match Ez w with
 | some z=>if 0<=z/\z<n then O z.toNat else V
 | none=>V
def nI(w:Bs):Option Bs:=
 match w with
 | []=>V
 | c::r=>if 10<w.length\/digit c=G\/w.all (fun c=>decide (33<=c/\c<=126))=ae\/(c=45/\r≠[]) then V else O w
def BU(w:Bs):Option Tm:=match Ez w with
 | some z=>O (.int z)
 | none=>(nI w).map .atom
def uT(n:Nat):List Bs->Option (List Nat)
 | []=>O []
 | w::r=>match jv w n,uT n r with
  | some s,O l=>O (s::l)
  | _,_=>V
def kU(slots:Nat):Bs->List Bs->In->Option (In×List Bs)
 | [],ws,i=>O (i,ws)
 | x::r,ws,i=>
  if x=42 then match uT slots ws with
   | some l=>O ({ i with s:=i.s++l },[])
   | none=>V
  else match ws with
   | []=>V
   | w::ws=>
    if x=115 then match jv w slots with
     | some s=>kU slots r ws { i with s:=i.s++[s] }
     | none=>V
    else if x=99 then match BU w with
     | some t=>kU slots r ws { i with const:=O t }
     | none=>V
    else if x=110 then match nI w with
     | some t=>kU slots r ws { i with name:=t }
     | none=>V
    else match jv w 10000 with
     | some s=>kU slots r ws { i with s:=i.s++[s] }
     | none=>V
def qi(slots:Nat)(ws:List Bs):Option In:=match ws with
 | []=>V
 | w::ws=>match kT w with
  | none=>V
  | some sh=>match kU slots sh ws ⟨w,[],V,[]⟩with
   | some (i,[])=>if ((w=[109,97,107,101]\/w=[115,112,108,105,116])/\i.s.length<2)\/(w=mD/\jx i.name≠i.s.length) then V else O i
   | _=>V
structure Pv where
 dJ:List Pd
 open_:Bool
 ask:Option (Co×Nat)
def FY(l:List Co)(f:Co->Co):List Co:=match l.reverse with
 | []=>[]
 | c::r=>(f c::r).reverse
def Hs(l:List Pd)(f:Pd->Pd):List Pd:=match l.reverse with
 | []=>[]
 | c::r=>(f c::r).reverse
def mF(ws:List Bs)(p:Pv):Option Pv:=
 match ws with
 | [[112,114,101,100],a,b]=>match p.ask,nI a,jv b 64 with
  | none,O a,O b=>if p.dJ.any (fun q=>q.name == a && q.arity == b) then V else O { p with dJ:=p.dJ++[⟨a,b,[]⟩],open_:=false }
  | _,_,_=>V
 | [[99,108,97,117,115,101],a]=>match p.ask,jv a 65 with
  | none,O a=>if p.dJ=[] then V else O { p with dJ:=Hs p.dJ fun q=>{ q with clauses:=q.clauses++[⟨a,[]⟩] },open_:=true }
  | _,_=>V
 | [[113,117,101,114,121],a,b]=>match p.ask,jv a 65 with
  | none,O a=>match jv b (a+1) with
   | some b=>O { p with ask:=O (⟨a,[]⟩,b),open_:=true }
   | none=>V
  | _,_=>V
 | _=>
  if p.ask.isSome/\(ws.head?=O [112,114,101,100]\/ws.head?=O [99,108,97,117,115,101]\/ws.head?=O [113,117,101,114,121]) then V
  else match p.ask with
   | some (c,n)=>match qi c.slots ws with
    | some i=>O { p with ask:=O ({ c with ins:=c.ins++[i] },n) }
    | none=>V
   | none=>if p.open_ then match (Ll p.dJ) with
     | some c=>match qi c.slots ws with
      | some i=>O { p with dJ:=Hs p.dJ fun q=>{ q with clauses:=FY q.clauses fun c=>{ c with ins:=c.ins++[i] } } }
      | none=>V
     | none=>V
    else V
where
 Ll (l:List Pd):Option Co:=match l.getLast? with
  | some q=>q.clauses.getLast?
  | none=>V
def lh:List Bs->Nat->Pv->Except Nat Pv
 | [],_,p=>.ok p
 | [r],k,p=>if r=[]/\1<k then .ok p else .error k
 | r::rs,k,p=>match mF (fP 32 r) p with
  | none=>.error k
  | some p=>lh rs (k+1) p
def rC(s:Bs):Except (Nat×Nat) (List Pd×Co×Nat):=
 if 65536<s.length then .error (1,0)
 else match lh (fP 10 s) 1 ⟨[],ae,V⟩with
  | .error k=>.error (5,k)
  | .ok p=>match p.ask with
   | some (c,n)=>.ok (p.dJ,c,n)
   | none=>.error (5,(fP 10 s).length)
end P
