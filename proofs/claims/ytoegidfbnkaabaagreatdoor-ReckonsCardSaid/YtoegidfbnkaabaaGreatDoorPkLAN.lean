/- A part of one proof (PureVg, PureVs, PureVl, PureVn, PureVt, PureVq, PureVx, PureV, PureSz, PureP). -/
import Derived.Test.YtoegidfbnkaabaaGreatDoorPkLAM
set_option linter.all false
set_option maxRecDepth 100000
set_option maxHeartbeats 8000000
open Option renaming some → O, none → V
open Bool renaming true → A, false → G
open Option.some renaming injEq → a1o, inj → a1w
open Nat renaming le_refl → a1s, le_trans → a1t, le_succ → a2G, le_add_right → a2O
open List renaming getElem?_eq_getElem → a1u, mem_cons → a1z, mem_cons_self → a1A, mem_append → a1F, getD_eq_getElem?_getD → a1X, getElem?_eq_some_iff → a2g, range' → a2j, mem_cons_of_mem → a2k, foldl_cons → a2v, mem_of_getElem? → a2z, mem_or_eq_of_mem_set → a2I, mem_map → a2X, dropLast_eq_take → a3y, length_set → a3S, getLast?_eq_getElem? → a5l, eq_of_mem_replicate → a5A
open Except renaming ok → a3f
namespace Go.Proofs.YtoegidfbnkaabaaGreatDoor
variable{B' N d f i k k' n pc:Nat}
namespace P
section
variable{B:Nat}{m:Vm}
theorem gA.up(h:gA B m)(a:B<=B'):gA B' m:=⟨h.f,h.fr,h.ag,h.marks,h.mono,a1t h.cV a,a1t h.nN a,h.pc,h.xj,h.xY⟩
def gA.IX(h:gA B m){s:Sr}(e:B<=B')(b:m.sr.tr <:+ s.tr)(g:s.fuel<=m.sr.fuel)(c:s.cV<=B'):gA B' { m with sr:=s,n:=n }:=
 ⟨h.f,h.fr,h.ag,fun i a d=>a1t (h.marks i a d) b.length_le,h.mono,c,by have:=h.nN;grind,h.pc,h.xj,h.xY⟩
def gA.slots(h:gA B m){x:Fm}(hx:m.fs[m.f]?=O x){sl:List Sl}(e:sl.length=x.slots.length)(ht:∀ y∈sl,AL y):gA B { m with fs:=m.fs.set m.f { x with slots:=sl } }:=by
 have g:(m.fs.set m.f { x with slots:=sl }).length=m.fs.length:=a3S ..;have d:∀ (i:Nat) (z:Fm),(m.fs.set m.f { x with slots:=sl })[i]?=O z->(i=m.f/\z={ x with slots:=sl })\/m.fs[i]?=O z:=fun i z b=>by
  grind
 have c:=h.fr _ _ hx;refine⟨zg,fun i z b=>?_,fun i a j=>?_,h.marks,h.mono,h.cV,h.nN,h.pc,fun i z b=>?_,h.xY⟩
 .show adz (m.fs.set _ _).length z;rw[g];rcases d i z b with⟨-,rfl⟩| b
  .exact⟨c.code,by show _<=sl.length;rw[e];exact c.sl,ht,c.back⟩
  grind [fr]
 .grind [ag]
 .rcases d i z b with⟨-,rfl⟩| b
  .grind [xj]
  grind [xj]
theorem gA.cur(h:gA B m):∃ x,m.fs[m.f]?=O x:=⟨_,a1u h.f⟩
def am3{x:Fm}(hx:m.fs[m.f]?=O x)(k:Nat)(y:Sl):m.set k y={ m with fs:=m.fs.set m.f { x with slots:=x.slots.set k y } }:=by
 unfold Vm.set
 congr 1
 apply List.ext_getElem?;grind
def gA.set(h:gA B m)(k:Nat){y:Sl}(b:AL y):gA B (m.set k y):=by
 obtain⟨x,hx⟩:=h.cur;rw[am3 hx];refine h.slots hx (a3S ..) fun z a=>?_;rcases a2I a with a | rfl
 .exact(h.fr _ _ hx).tm z a
 omega
def gA.PY{α:Type}(g:Vm->α->Nat×Sl)(b:∀ m a,AL (g m a).2):∀ (L:List α) {m:Vm},gA B m->gA B (L.foldl (fun m p=>m.set (g m p).1 (g m p).2) m)
 | [],_,h=>h
 | a::L,_,h=>by rw[a2v];exact gA.PY g b L (h.set _ (b _ _))
def gA.am4:∀ (L:List (Nat×Tm)) {m:Vm},(∀ p∈L,eA p.2)->gA B m->gA B (L.foldl (fun m p=>m.set p.1 (.term p.2)) m)
 | [],_,_,h=>h
 | a::L,_,b,h=>by rw[a2v];exact gA.am4 L (fun p c=>b p (a2k _ c)) (h.set _ (b a (a1A ..)))
def adA{α:Type}(g:Vm->α->Nat×Sl):∀ (L:List α) (m:Vm),(L.foldl (fun m p=>m.set (g m p).1 (g m p).2) m).sr=m.sr
 | [],_=>rfl
 | a::L,m=>by rw[a2v,adA g L];rfl
theorem gA.take(h:gA B m)(k:Nat):gA B { m with bw:=m.bw.take k }:=by
 have c:∀ {i:Nat} {a:Ga},(m.bw.take k)[i]?=O a->m.bw[i]?=O a:=fun{i a} hi=>by
  grind
 refine⟨h.f,h.fr,fun i a hi=>h.ag i a (c hi),fun i a hi=>h.marks i a (c hi),fun i j a b d hi e=>h.mono i j a b d (c hi) (c e),h.cV,?_,h.pc,h.xj,fun i a hi=>h.xY i a (c hi)⟩;have:=h.nN;grind
def gA.again(h:gA B m){a:Ga}(l:XG m.fs.length a)(hm:a.mark=m.sr.tr.length)(n:a.pc<=200000)(g:B<=B')(o:m.bw.length+1+m.sr.fuel<=B'):gA B' { m with bw:=m.bw++[a] }:=by
 have d:∀ {i:Nat} {b:Ga},(m.bw++[a])[i]?=O b->(i<m.bw.length/\m.bw[i]?=O b)\/(i=m.bw.length/\b=a):=fun{i b} hi=>by
  grind
 refine⟨h.f,h.fr,fun i b hi=>?_,fun i b hi=>?_,fun i j b c k hi e=>?_,a1t h.cV g,zg,h.pc,h.xj,fun i b hi=>?_⟩
 .rcases d hi with⟨-,hi⟩| ⟨-,rfl⟩
  .grind [ag]
  omega
 .rcases d hi with⟨-,hi⟩| ⟨-,rfl⟩
  .exact h.marks i b hi
  grind
 .rcases d e with⟨p,e⟩| ⟨rfl,rfl⟩
  .rcases d hi with⟨-,hi⟩| ⟨he,-⟩
   .exact h.mono i j b c k hi e
   omega
  .rcases d hi with⟨-,hi⟩| ⟨-,rfl⟩
   .rw[hm];exact h.marks i b hi
   omega
 .rcases d hi with⟨-,hi⟩| ⟨-,rfl⟩
  .grind [xY]
  omega
def gA.frame(h:gA B m){c:Co}{sl:List Sl}(j:zc c)(k:c.slots<=sl.length)(ht:∀ y∈sl,AL y)(l:f<m.fs.length)(o:pc<=200000):gA B { m with fs:=m.fs++[⟨c,sl,n,O f,pc,G⟩],f:=m.fs.length,pc:=0 }:=by
 have d:(m.fs++[(⟨c,sl,n,O f,pc,G⟩:Fm)]).length=m.fs.length+1:=zs;have e:∀ {i:Nat} {z:Fm},(m.fs++[(⟨c,sl,n,O f,pc,G⟩:Fm)])[i]?=O z->m.fs[i]?=O z\/z=⟨c,sl,n,O f,pc,G⟩:=fun{i z} hi=>by
  grind
 refine⟨zg,fun i z hi=>?_,fun i a hi=>?_,h.marks,h.mono,h.cV,h.nN,zg,fun i z hi=>?_,h.xY⟩
 .show adz (m.fs++_).length z;rw[d];rcases e hi with hi | rfl
  .have:=h.fr i z hi;exact⟨this.code,this.sl,this.tm,fun b g=>by have:=this.back b g;omega⟩
  .exact⟨j,k,ht,fun b g=>zg⟩
 .show XG (m.fs++_).length a;rw[d];have:=h.ag i a hi;exact⟨by have:=this.f;omega,this.others,this.args,this.qL⟩
 .rcases e hi with hi | rfl
  .grind [xj]
  omega
def PZ(m:Vm)(rest:List Co)(args:List Sl)(f pc:Nat):List Ga:=match rest with | []=>[] | _=>[⟨m.sr.tr.length,f,pc,rest,args⟩]
theorem gA.enter(h:gA B m){B':Nat}{l:List Co}{args:List Sl}{f pc n:Nat}{m':Vm}(e:∀ c∈l,zc c)(j:∀ y∈args,AL y)(k:args.length<=60)(g:f<m.fs.length)(i:pc<=200000)(r:n<=m.bw.length)(o:B<=B')(s:n+1+m.sr.fuel<=B')
  (hr:m.enter l args f pc n=O m'):gA B' m':=by
 cases l with
 | nil=>cases hr
 | cons c rest=>
  have hr:m'={ m with bw:=m.bw.take n++PZ m rest args f pc,fs:=m.fs++[⟨c,args++List.replicate (max c.slots args.length-args.length) .nil,n,O f,pc,G⟩],f:=m.fs.length,pc:=0 }:=(a1w hr).symm;have d:=e c (a1A ..);have p:gA B' { m with bw:=m.bw.take n++PZ m rest args f pc }:=by
   cases rest with
   | nil=>
    grind [PZ,up,take]
   | cons c2 q=>
    refine(h.take n).again (a:=⟨m.sr.tr.length,f,pc,c2::q,args⟩) ⟨g,fun c d=>e c (a2k _ d),j,k⟩ J i o ?_;grind
  subst hr;refine p.frame d ?_ ?_ g i
  .grind
  .intro y b;rcases a1F.1 b with b | b
   .grind
   .rw[a5A b];trivial
def gA.back(h:gA B m){p:Bool×Vm}(hr:m.back=O p):gA B p.2:=by
 unfold Vm.back at hr;cases d:m.bw.getLast? with
 | none=>grind
 | some a=>
  rw[d] at hr;simp only at hr;rw[a5l] at d;have hlt:=(a2g.1 d).1;have hk:=h.marks _ _ d;have e:=h.ag _ _ d;have g:=h.xY _ _ d;have hu:∀ n,n<=m.bw.length-1->gA B { m with sr:=m.sr.iE a.mark,bw:=m.bw.take n }:=fun n t=>by
   have ht:=h.take n;have k:(m.sr.iE a.mark).tr.length<=m.sr.tr.length/\a.mark<=(m.sr.iE a.mark).tr.length:=by
    grind [Sr.iE,List.length_drop]
   refine⟨ht.f,ht.fr,ht.ag,fun i b j=>?_,ht.mono,?_,ht.nN,ht.pc,ht.xj,ht.xY⟩
   .have l:(m.bw.take n)[i]?=O b:=j;rw[List.getElem?_take] at l;split at l
    .exact a1t (h.mono i _ b a zo l d) k.2
    grind
   .have r:m.sr.tr.length+m.sr.fuel<=B:=h.cV;show(m.sr.iE a.mark).tr.length+m.sr.fuel<=B;omega
  have o:gA B { m with sr:=m.sr.iE a.mark }:=by
   have k:(m.sr.iE a.mark).tr.length<=m.sr.tr.length/\a.mark<=(m.sr.iE a.mark).tr.length:=by
    grind [Sr.iE,List.length_drop]
   refine⟨h.f,h.fr,h.ag,fun i b j=>?_,h.mono,?_,h.nN,h.pc,h.xj,h.xY⟩
   .have u:i<m.bw.length:=(a2g.1 j).1;exact a1t (h.mono i _ b a zo j d) k.2
   .have r:m.sr.tr.length+m.sr.fuel<=B:=h.cV;show(m.sr.iE a.mark).tr.length+m.sr.fuel<=B;omega
  cases q:a.others with
  | nil=>
   rw[q] at hr;have hr:=(a1w hr).symm;subst hr;have s:m.bw.dropLast=m.bw.take (m.bw.length-1):=a3y ..;simp only;rw[s];have:=hu (m.bw.length-1) (a1s _);exact⟨e.f,this.fr,this.ag,this.marks,this.mono,this.cV,this.nN,g,this.xj,this.xY⟩
  | cons c0 l0=>
   rw[q] at hr;simp only at hr;cases he:({ m with sr:=m.sr.iE a.mark }:Vm).enter (c0::l0) a.args a.f a.pc (m.bw.length-1) with
   | none=>grind
   | some m'=>
    rw[he] at hr;have hr:=(a1w hr).symm;subst hr;refine o.enter (fun c w=>e.others c zg) e.args e.qL e.f g zg (a1s _) ?_ he;have:=h.nN;show m.bw.length-1+1+m.sr.fuel<=B;omega
end
section
variable{B:Nat}{m:Vm}
def D7{α β:Type}{x:Except jE α}{k:α->Out β}{r:β}(h:IS x k=O (.ok r)):∃ a,x = .ok a/\k a=O (.ok r):=by
 cases x with
 | error e=>cases h
 | ok a=>exact⟨a,J,h⟩
theorem adC{x:Fm}(hx:m.fs[m.f]?=O x)(b:∀ y∈x.slots,AL y){t:Tm}(h:m.slot k = .term t):eA t:=by
 unfold Vm.slot at h;rw[hx] at h;simp only[a1X] at h;cases a:x.slots[k]? with
 | none=>grind
 | some y=>
  rw[a] at h;have h:y = .term t:=h;subst h;exact b _ (a2z a)
def XH{x:Fm}(hx:m.fs[m.f]?=O x)(a:∀ y∈x.slots,AL y){i:In}{t:Tm}(h:m.at i k = .ok t):eA t:=by
 grind [Vm.at,adC]
def TB{x:Fm}(hx:m.fs[m.f]?=O x)(b:∀ y∈x.slots,AL y):∀ {ks:List Nat} {l:List Tm},m.iK ks = .ok l->(∀ t∈l,eA t)/\l.length=ks.length
 | [],l,h=>by
  rw[Vm.iK] at h;injection h with h;subst h;exact⟨fun _ h=>(by cases h),J⟩
 | k::r,l,h=>by
  rw[Vm.iK] at h;cases c:m.slot k with
  | term t=>
   rw[c] at h;simp only at h;cases a:m.iK r with
   | error e=>grind
   | ok l'=>
    rw[a] at h;injection h with h;subst h;obtain⟨g1,g2⟩:=TB hx b a;refine⟨fun u hu=>?_,zg⟩;rcases a1z.1 hu with rfl | hu
    .grind [adC]
    grind
  | nil=>grind
  | level n=>grind
def XI:∀ {l:List Tm},(∀ t∈l,eA t)->jt l
 | [],_=>by simp_all [jt]
 | t::l,h=>by unfold jt;exact⟨h t (a1A ..),XI fun u hu=>h u (a2k _ hu)⟩
def am6:∀ {l:List Tm},jt l->∀ t∈l,eA t
 | [],_,_,h=>zg
 | u::l,h,t,ht=>by
  unfold jt at h;rcases a1z.1 ht with rfl | ht
  .grind
  .exact am6 h.2 t ht
def am7{a b:Tm}{s:Sr}{p:Bool×Sr}(h:lS f a b s=O (.ok p)):s.tr <:+ p.2.tr/\p.2.fuel<=s.fuel/\p.2.cV<=s.cV:=
 ⟨(Nv f).tm h,((Fi f).tm h).2,((Fi f).tm h).1⟩
def am8{dG:List Pd}{i:In}{p:Bool×Vm}{x:Fm}(h:gA B m)(ht:nC m.sr.tr)(hx:m.fs[m.f]?=O x)(hi:uH x.code.slots i)(I:∀ p∈dG,∀ c∈p.clauses,zc c)(hr:vz dG d i m=O (.ok p)) :
  gA (B+1) p.2/\p.2.sr.fuel<=m.sr.fuel:=by
 have z:=h.fr _ _ hx;have a:=h.up (a2G B);have K:m.sr.cV<=B:=h.cV;have Ny:=h.nN;unfold vz at hr;have j:∀ {q:Vm},O (a3f (A,q))=O (a3f p:Except jE (Bool×Vm))->p=(A,q):=fun h=>zg;have C:∀ {o:Out (Bool×Sr)},(∀ q,o=O (.ok q)->m.sr.tr <:+ q.2.tr/\q.2.fuel<=m.sr.fuel/\q.2.cV<=m.sr.cV)->Out.bind o (fun p=>O (.ok (p.1,{ m with sr:=p.2 })))=O (.ok p)->gA (B+1) p.2/\p.2.sr.fuel<=m.sr.fuel:=fun L M=>by
  obtain⟨q,r,g⟩| ⟨e,r,g⟩:=Out.bind_some M
  .injection g with g;injection g with g;subst g;obtain⟨g1,g2,g3⟩:=L q r;exact⟨h.IX (a2G B) g1 g2 zo,g2⟩
  grind
 dsimp only at hr;by_cases hw:i.word=rS
 .rw[zip hw] at hr;have hr:=j hr;subst hr;have:=a.set (i.s.getD 0 0) (y:=.term (.var m.n)) (by simp_all [AL,eA]);exact⟨this.IX (a1s _) (List.suffix_refl _) (a1s _) this.cV,a1s _⟩
 rw[bM hw] at hr;clear hw;by_cases hw:i.word=[112,117,116]
 .rw[zip hw] at hr;have hr:=j hr;subst hr;obtain⟨t,N,P,-⟩:=hi.con (.inl hw);refine⟨a.set _ ?_,a1s _⟩;rw[N];exact P
 rw[bM hw] at hr;clear hw;by_cases hw:i.word=[99,111,110,115,116]
 .rw[zip hw] at hr;obtain⟨t,r,g⟩:=D7 hr;exact C (fun q w=>am7 w) g
 rw[bM hw] at hr;clear hw;by_cases hw:i.word=[115,97,109,101]
 .rw[zip hw] at hr;obtain⟨t,r,g⟩:=D7 hr;obtain⟨u,E,D⟩:=D7 g;exact C (fun q w=>am7 w) D
 rw[bM hw] at hr;clear hw;by_cases hw:i.word=[109,97,107,101]
 .rw[zip hw] at hr;obtain⟨l,r,g⟩:=D7 hr;have hr:=j g;subst hr;obtain⟨g1,g2⟩:=TB hx z.tm r;refine⟨a.set _ ?_,a1s _⟩;show eA (.comp i.name l);unfold eA;have:=hi.qL;exact⟨hi.TA,zg,XI g1⟩
 rw[bM hw] at hr;clear hw;by_cases hw:i.word=[115,112,108,105,116]
 .rw[zip hw] at hr;obtain⟨t,r,g⟩:=D7 hr;have Q:=XH hx z.tm r;cases hw:fF m.sr.tr d t with
  | none=>grind
  | some R=>
   rw[hw] at g;have F:=wY ht Q hw;cases R with
   | atom s=>grind
   | int s=>grind
   | comp name args=>
    simp only at g;split at g
    .have hr:=j g;subst hr;unfold eA at F;refine⟨a.am4 _ fun p S=>?_,?_⟩
     .exact am6 F.2.2 _ (List.of_mem_zip S).2
     .have:=adA (fun _ (p:Nat×Tm)=>(p.1,Sl.term p.2)) (i.s.tail.zip args) m;grind
    grind
   | var v=>
    have hr:=j g;subst hr;have E:=h.PY (fun m (p:Nat×Nat)=>(p.1,.term (.var (m.n+p.2)))) (fun _ _=>by show eA _;simp_all [eA]) i.s.tail.zipIdx;have D:=adA (fun m (p:Nat×Nat)=>(p.1,Sl.term (.var (m.n+p.2)))) i.s.tail.zipIdx m;have H:(m.sr.bind v (.comp i.name ((a2j m.n i.s.tail.length).map .var))).fuel=m.sr.fuel:=rfl;refine⟨E.IX (a2G B) ?_ ?_ ?_,?_⟩
    .rw[D];exact List.suffix_cons _ _
    .grind
    .unfold Sr.cV at K ⊢;show((v,_)::m.sr.tr).length+m.sr.fuel<=B+1;grind
    grind
 rw[bM hw] at hr;clear hw;by_cases hw:i.word=mr
 .rw[zip hw] at hr;obtain⟨l,r,g⟩:=D7 hr;obtain⟨g1,g2⟩:=TB hx z.tm r;exact C (fun q w=>amQ ht g1 (by rw[g2];exact hi.test hw) w) g
 rw[bM hw] at hr;clear hw;by_cases hw:i.word=tj
 .rw[zip hw] at hr;have hr:=j hr;subst hr;exact⟨a.set _ trivial,a1s _⟩
 rw[bM hw] at hr;clear hw;by_cases hw:i.word=pF
 .rw[zip hw] at hr;have hr:=j hr;subst hr;exact⟨a.set _ trivial,a1s _⟩
 rw[bM hw] at hr;clear hw;by_cases hw:i.word=kE
 .rw[zip hw] at hr;split at hr
  .have hr:=j hr;subst hr;exact⟨a.take _,a1s _⟩
  grind
 rw[bM hw] at hr;clear hw;by_cases hw:i.word=jR
 .rw[zip hw] at hr;have hr:=j hr;subst hr;have T:=hi.one zg;refine⟨h.again ⟨h.f,fun _ h=>zg,fun _ h=>zg,zs⟩ J ?_ (a2G B) zo,a1s _⟩;have:i.s.getD 0 0<100000:=by
   rw[a1X,a1u zo];exact hi.small _ (List.getElem_mem _)
  grind
 rw[bM hw] at hr;clear hw;by_cases hw:i.word=jm
 .rw[zip hw] at hr;have hr:=j hr;subst hr;have T:=hi.one zg;have:i.s.getD 0 0<100000:=by
   rw[a1X,a1u zo];exact hi.small _ (List.getElem_mem _)
  exact⟨⟨a.f,a.fr,a.ag,a.marks,a.mono,a.cV,a.nN,zg,a.xj,a.xY⟩,a1s _⟩
 rw[bM hw] at hr;clear hw;by_cases hw:i.word=xf
 .rw[zip hw] at hr;split at hr
  .grind
  .rename_i q w;split at hr
   .grind
   .split at hr
    .grind
    .rename_i m' he;have hr:=j hr;subst hr;have U:=List.mem_of_find?_eq_some w;have W:∀ y∈i.s.map m.slot,AL y:=fun y X=>by
      obtain⟨k,-,rfl⟩:=a2X.1 X;cases hs:m.slot k with
      | term t=>exact adC hx z.tm hs
      | nil=>trivial
      | level n=>trivial
     refine⟨h.enter (I q U) W (by rw[List.length_map];exact hi.qL) h.f h.pc (a1s _) (a2G B) zo he,?_⟩;rename_i ee;cases gN:q.clauses with
     | nil=>grind
     | cons c0 l0=>rw[gN] at he;have:=(a1w he).symm;grind
 rw[bM hw] at hr;clear hw;by_cases hw:i.word=[114,101,116]
 .rw[zip hw] at hr;rw[hx] at hr;simp only at hr;split at hr
  .grind
  .rename_i b H;have hr:=j hr;subst hr;exact⟨⟨z.back b H,a.fr,a.ag,a.marks,a.mono,a.cV,a.nN,a.xj _ _ hx,a.xj,a.xY⟩,a1s _⟩
 grind
end
section
variable{N:Nat}
mutual
def VL (n:Nat):Tm->Prop
 | .var i=>i<n
 | .comp _ l=>xZ n l
 | .atom _=>True
 | .int _=>True
 termination_by structural t=>t
def xZ (n:Nat):List Tm->Prop
 | []=>True
 | t::ts=>VL n t/\xZ n ts
 termination_by structural t=>t
end
def oc(n:Nat):Tr->Prop
 | []=>True
 | (i,t)::r=>i<n/\VL n t/\oc n r
mutual
theorem VL.up {n m:Nat} (h:n<=m):∀ {t:Tm},VL n t->VL m t
 | .var i,ht=>by grind [VL]
 | .comp s l,ht=>by unfold VL at ht ⊢;exact xZ.up h ht
 | .atom s,_=>by simp_all [VL]
 | .int s,_=>by simp_all [VL]
theorem xZ.up {n m:Nat} (h:n<=m):∀ {l:List Tm},xZ n l->xZ m l
 | [],_=>by simp_all [xZ]
 | t::l,ht=>by unfold xZ at ht ⊢;exact⟨VL.up h ht.1,xZ.up h ht.2⟩
end
theorem oc.up{n m:Nat}(h:n<=m):∀ {t:Tr},oc n t->oc m t
 | [],_=>trivial
 | (i,t)::r,ht=>⟨by have:=ht.1;omega,ht.2.1.up h,oc.up h ht.2.2⟩
def oc.drop{n:Nat}:∀ (k:Nat) {t:Tr},oc n t->oc n (t.drop k)
 | 0,_,h=>h
 | _+1,[],h=>h
 | k+1,(_,_)::_,h=>oc.drop k h.2.2
def am9:∀ {tr:Tr} {i:Nat} {t:Tm},oc N tr->look i tr=O t->VL N t
 | [],_,_,_,h=>by cases h
 | (j,u)::r,i,t,h,a=>by
  unfold look at a;split at a
  .injection a with a;subst a;exact h.2.1
  .exact am9 h.2.2 a
def XJ{tr:Tr}(h:oc N tr):∀ {f:Nat} {t a:Tm},VL N t->fF tr f t=O a->VL N a
 | f,.atom s,a,ht,hw=>by simp_all [fF]
 | f,.int s,a,ht,hw=>by simp_all [fF]
 | f,.comp s l,a,ht,hw=>by simp_all [fF]
 | 0,.var i,a,ht,hw=>by
  grind [fF]
 | f+1,.var i,a,ht,hw=>by
  rw[fF] at hw;split at hw
  .grind
  .rename_i t b;exact XJ h (am9 h b) hw
theorem aH7{t:Tm}{s:Sr}{p:Bool×Sr}(hk:oc N s.tr)(hi:VL N (.var i))(ht:VL N t)(h:tX f i t s=O (.ok p)):oc N p.2.tr:=by
 unfold tX at h;obtain⟨q,c,a⟩| ⟨e,c,a⟩:=Out.bind_some h
 .obtain⟨b,s1⟩:=q;have d:s1.tr=s.tr:=((IP f).tm c).1;cases b with
  | true=>
   grind
  | false=>
   simp only[Bool.false_eq_true,if_false,a1o,Except.ok.injEq] at a;subst a;show oc N ((i,t)::s1.tr);rw[d];unfold VL at hi;exact⟨hi,ht,hk⟩
 grind
def P1:∀ f,(∀ a b s p,oc N s.tr->VL N a->VL N b->lS f a b s=O (.ok p)->oc N p.2.tr)/\(∀ l r s p,oc N s.tr->xZ N l->xZ N r->nL f l r s=O (.ok p)->oc N p.2.tr)
 | 0=>⟨fun _ _ _ _ _ _ _ h=>(by cases h),fun _ _ _ _ _ _ _ h=>(by cases h)⟩
 | f+1=>by
  obtain⟨i,j⟩:=P1 f;constructor
  .intro a b s p ht c d h;rw[lS] at h;split at h
   .grind
   .cases hw:fF s.tr f a with
    | none=>grind
    | some u=>
     cases hv:fF s.tr f b with
     | none=>grind
     | some v=>
      rw[hw,hv] at h;have k:oc N s.dec.tr:=ht;have hu:=XJ ht c hw;have m:=XJ ht d hv;grind [aH7,VL]
  .intro l r s p ht g hr h;cases l with
   | nil=>grind [nL]
   | cons a l=>
    cases r with
    | nil=>grind [nL]
    | cons b r=>
     unfold xZ at g hr;rw[nL] at h;obtain⟨q,g1,g2⟩| ⟨e,g1,g2⟩:=Out.bind_some h<;>grind
def ana:∀ {l:List Tm},xZ N l->∀ t∈l,VL N t
 | [],_,_,h=>zg
 | u::l,h,t,ht=>by
  unfold xZ at h;rcases a1z.1 ht with rfl | ht
  .grind
  .exact ana h.2 t ht
theorem adD:∀ {l:List Tm},(∀ t∈l,VL N t)->xZ N l
 | [],_=>by simp_all [xZ]
 | t::l,h=>by unfold xZ;exact⟨h t (a1A ..),adD fun u hu=>h u (a2k _ hu)⟩
theorem anb:∀ {tr:Tr} {i:Nat},oc N tr->N<=i->look i tr=V
 | [],_,_,_=>rfl
 | (j,u)::r,i,h,hi=>by
  unfold look;rw[bM (by have:=h.1;omega)];exact anb h.2.2 hi
def aH8{tr:Tr}(h:oc N tr){v:Nat}(hv:v<N){s:Bs}:¬ Fj tr v (.comp s ((a2j N k).map .var)):=by
 intro b;cases b with
 | arg c d=>
  obtain⟨j,a,rfl⟩:=a2X.1 c;rw[List.mem_range'] at a;obtain⟨q,e,f⟩:=a;cases d with
  | here _=>omega
  | via g _=>grind [anb]
end
section
variable{B told:Nat}{m:Vm}
def AM(n:Nat):Sl->Prop
 | .term t=>VL n t
 | _=>True
theorem AM.up{n k:Nat}(h:n<=k){y:Sl}(a:AM n y):AM k y:=by
 cases y with
 | term t=>exact VL.up h a
 | nil=>trivial
 | level _=>trivial
structure jG(told:Nat)(m:Vm):Prop where
 tr:oc m.n m.sr.tr
 fr:∀ (i:Nat) (x:Fm),m.fs[i]?=O x->∀ y∈x.slots,AM m.n y
 ag:∀ (i:Nat) (a:Ga),m.bw[i]?=O a->∀ y∈a.args,AM m.n y
 sr:lH m.sr
 ask:∀ (i:Nat) (x:Fm),m.fs[i]?=O x->x.ask=A->told<=x.slots.length
def jG.IX(h:jG told m){s:Sr}(c:m.n<=n)(d:oc n s.tr)(e:lH s):jG told { m with sr:=s,n:=n }:=
 ⟨d,fun i x hx y b=>(h.fr i x hx y b).up c,fun i a f y b=>(h.ag i a f y b).up c,e,h.ask⟩
def jG.slots(h:jG told m){x:Fm}(hx:m.fs[m.f]?=O x){sl:List Sl}(c:sl.length=x.slots.length)(ht:∀ y∈sl,AM m.n y):jG told { m with fs:=m.fs.set m.f { x with slots:=sl } }:=by
 have b:∀ (i:Nat) (z:Fm),(m.fs.set m.f { x with slots:=sl })[i]?=O z->(i=m.f/\z={ x with slots:=sl })\/m.fs[i]?=O z:=fun i z a=>by
  grind
 refine⟨h.tr,fun i z a y d=>?_,h.ag,h.sr,fun i z a hk=>?_⟩
 .rcases b i z a with⟨-,rfl⟩| a
  .grind
  grind [fr]
 .rcases b i z a with⟨-,rfl⟩| a
  .show told<=sl.length;rw[c];exact h.ask _ _ hx hk
  .exact h.ask i z a hk
def jG.set(h:jG told m)(b:m.f<m.fs.length)(k:Nat){y:Sl}(c:AM m.n y):jG told (m.set k y):=by
 obtain⟨x,hx⟩:∃ x,m.fs[m.f]?=O x:=⟨_,a1u b⟩;rw[am3 hx];refine h.slots hx (a3S ..) fun z a=>?_;rcases a2I a with a | rfl
 .grind [fr]
 omega
def aH9(k:Nat)(y:Sl):(m.set k y).fs.length=m.fs.length:=List.length_modify ..
def jG.PY{α:Type}(g:α->Nat×Sl):∀ (L:List α) {m:Vm},jG told m->m.f<m.fs.length->(∀ a∈L,AM m.n (g a).2)->jG told (L.foldl (fun m p=>m.set (g p).1 (g p).2) m)
 | [],_,h,_,_=>h
 | a::L,m,h,c,d=>by
  rw[a2v];exact jG.PY g L (h.set c _ (d a (a1A ..))) (by rw[aH9];exact c) fun b e=>d b (a2k _ e)
theorem jG.take(h:jG told m)(k:Nat):jG told { m with bw:=m.bw.take k }:=by
 refine⟨h.tr,h.fr,fun i a hi=>?_,h.sr,h.ask⟩;grind [ag]
def jG.again(h:jG told m){a:Ga}(d:∀ y∈a.args,AM m.n y):jG told { m with bw:=m.bw++[a] }:=by
 refine⟨h.tr,h.fr,fun i b hi=>?_,h.sr,h.ask⟩;have hi:(m.bw++[a])[i]?=O b:=hi;rcases a1F.1 (a2z hi) with c | c
 .obtain⟨j,e,rfl⟩:=List.getElem_of_mem c;grind [a1u,ag]
 grind
def jG.frame(h:jG told m){c:Co}{sl:List Sl}(ht:∀ y∈sl,AM m.n y):jG told { m with fs:=m.fs++[⟨c,sl,n,O f,pc,G⟩],f:=m.fs.length,pc:=0 }:=by
 have a:∀ {i:Nat} {z:Fm},(m.fs++[(⟨c,sl,n,O f,pc,G⟩:Fm)])[i]?=O z->m.fs[i]?=O z\/z=⟨c,sl,n,O f,pc,G⟩:=fun{i z} hi=>by
  grind
 refine⟨h.tr,fun i z hi y b=>?_,h.ag,h.sr,fun i z hi hk=>?_⟩
 .rcases a hi with hi | rfl
  .grind [fr]
  grind
 .rcases a hi with hi | rfl
  .exact h.ask i z hi hk
  grind
theorem jG.enter(h:jG told m){l:List Co}{args:List Sl}{f pc n:Nat}{m':Vm}(d:∀ y∈args,AM m.n y)(hr:m.enter l args f pc n=O m'):jG told m':=by
 cases l with
 | nil=>cases hr
 | cons c rest=>
  have hr:m'={ m with bw:=m.bw.take n++PZ m rest args f pc,fs:=m.fs++[⟨c,args++List.replicate (max c.slots args.length-args.length) .nil,n,O f,pc,G⟩],f:=m.fs.length,pc:=0 }:=(a1w hr).symm;have e:jG told { m with bw:=m.bw.take n++PZ m rest args f pc }:=by
   cases rest with
   | nil=>
    grind [PZ,take]
   | cons c2 g=>exact(h.take n).again (a:=⟨m.sr.tr.length,f,pc,c2::g,args⟩) d
  subst hr;refine e.frame fun y b=>?_;rcases a1F.1 b with b | b
  .grind
  .rw[a5A b];trivial
def jG.back(h:jG told m){p:Bool×Vm}(hr:m.back=O p):jG told p.2:=by
 unfold Vm.back at hr;cases b:m.bw.getLast? with
 | none=>grind
 | some a=>
  rw[b] at hr;simp only at hr;rw[a5l] at b;have hu:jG told { m with sr:=m.sr.iE a.mark }:=h.IX (a1s _) (oc.drop _ h.tr) (h.sr.iE _);cases c:a.others with
  | nil=>
   rw[c] at hr;have hr:=(a1w hr).symm;subst hr;have:=hu.take (m.bw.length-1);rw[show m.bw.dropLast=m.bw.take (m.bw.length-1) from a3y ..];exact⟨this.tr,this.fr,this.ag,this.sr,this.ask⟩
  | cons c0 l0=>
   grind [sr,enter,a1w,ag]
end
section
variable{B told:Nat}{m:Vm}
def adE{x:Fm}(hx:m.fs[m.f]?=O x)(a:∀ y∈x.slots,AM m.n y)(k:Nat):AM m.n (m.slot k):=by
 unfold Vm.slot;rw[hx];simp only[a1X];cases b:x.slots[k]? with
 | none=>trivial
 | some y=>grind
def XK{x:Fm}(hx:m.fs[m.f]?=O x)(b:∀ y∈x.slots,AM m.n y){i:In}{t:Tm}(h:m.at i k = .ok t):VL m.n t:=by
 unfold Vm.at at h;have a:=adE hx b (i.s.getD k 0);cases c:m.slot (i.s.getD k 0) with
 | term u=>rw[c] at h a;injection h with h;subst h;exact a
 | nil=>grind
 | level n=>grind
theorem adF{x:Fm}(hx:m.fs[m.f]?=O x)(a:∀ y∈x.slots,AM m.n y):∀ {ks:List Nat} {l:List Tm},m.iK ks = .ok l->∀ t∈l,VL m.n t
 | [],l,h=>by
  simp_all [Vm.iK]
 | k::r,l,h=>by
  rw[Vm.iK] at h;have b:=adE hx a k;cases d:m.slot k with
  | term t=>
   rw[d] at h b;simp only at h;cases c:m.iK r with
   | error e=>grind
   | ok l'=>
    rw[c] at h;injection h with h;subst h;have g1:=adF hx a c;intro u hu;rcases a1z.1 hu with rfl | hu
    .exact b
    grind
  | nil=>grind
  | level n=>grind
def aIa{name:Bs}{args:List Tm}{s:Sr}{p:Bool×Sr}(ht:oc N s.tr)(g:lH s)(n:∀ t∈args,VL N t)(o:∀ t∈args,eA t)(l:jw name=args.length)(h:xW f name args s=O (.ok p)):oc N p.2.tr:=by
 have hv:∀ j,j<args.length->VL N (args.getD j default):=fun j m=>by
  grind
 have i:∀ j,j<args.length->eA (args.getD j default):=fun j m=>by
  grind
 have two:∀ x∈([[61],[92,61],[61,61],[105,115],[60],[62],[61,60],[62,61],[61,58,61]]:List Bs),name=x->1<args.length:=fun x hx e=>by
  subst e;have:jw name=2:=by
   simp only[a1z,List.not_mem_nil,or_false] at hx;rcases hx with rfl | rfl | rfl | rfl | rfl | rfl | rfl | rfl | rfl<;>rfl
  omega
 have tr:∀ {q:Sr},q.tr=s.tr->oc N q.tr:=fun e=>zg;unfold xW at h;split at h
 .grind
 split at h
 .rename_i d;have:=two [61] zs d;exact(P1 f).1 _ _ _ _ ht (hv 0 zo) (hv 1 this) h
 split at h
 .rename_i d;have:=two [92,61] zs d;obtain⟨q,b,a⟩| ⟨e,b,a⟩:=Out.bind_some h
  .injection a with a;injection a with a;subst a;exact oc.drop _ ((P1 f).1 _ _ _ _ ht (hv 0 zo) (hv 1 this) b)
  grind
 split at h
 .exact tr ((Ty f).tm h).1
 split at h
 .rename_i d;have:=two [105,115] zs d;obtain⟨q,b,a⟩| ⟨e,b,a⟩:=Out.bind_some h
  .obtain⟨g1,g2,g3⟩:=D0 f g.ok (i 1 this) b;exact(P1 f).1 _ _ _ _ (tr g1) (hv 0 zo) (by simp_all [VL]) a
  grind
 split at h
 .grind
 split at h
 .grind
 .obtain⟨q,b,a⟩| ⟨e,b,a⟩:=Out.bind_some h
  .obtain⟨q2,k,c⟩| ⟨e,k,c⟩:=Out.bind_some a
   .injection c with c;injection c with c;subst c;have a:(2:Int)=args.length:=by
     unfold jw at l;grind
    obtain⟨g1,g2,-⟩:=D0 f g.ok (i 0 zo) b;obtain⟨g3,g4,-⟩:=D0 f (by rw[g1];exact g.ok) (i 1 zo) k;grind
   grind
  grind
end
section
variable{B told:Nat}{m:Vm}
def aIb{dG:List Pd}{i:In}{p:Bool×Vm}{x:Fm}(h:jG told m)(N:gA B m)(hx:m.fs[m.f]?=O x)(hi:uH x.code.slots i)(hr:vz dG d i m=O (.ok p)):jG told p.2:=by
 have E:=N.fr _ _ hx;have z:=h.fr _ _ hx;have w:=N.f;unfold vz at hr;have g:∀ {q:Vm},O (a3f (A,q))=O (a3f p:Except jE (Bool×Vm))->p=(A,q):=fun h=>zg;have H:∀ {o:Out (Bool×Sr)},(∀ q,o=O (.ok q)->oc m.n q.2.tr/\lH q.2)->Out.bind o (fun p=>O (.ok (p.1,{ m with sr:=p.2 })))=O (.ok p)->jG told p.2:=fun S T=>by
  obtain⟨q,c,b⟩| ⟨e,c,b⟩:=Out.bind_some T
  .injection b with b;injection b with b;subst b;obtain⟨g1,g2⟩:=S q c;exact h.IX (a1s _) g1 g2
  grind
 dsimp only at hr;by_cases hw:i.word=rS
 .rw[zip hw] at hr;have hr:=g hr;subst hr;have c:jG told { m with n:=m.n+1 }:=h.IX (a2G _) (h.tr.up (a2G _)) h.sr;exact c.set w (i.s.getD 0 0) (y:=.term (.var m.n)) (by show VL _ _;simp_all [VL,Nat.lt_succ_self])
 rw[bM hw] at hr;clear hw;by_cases hw:i.word=[112,117,116]
 .rw[zip hw] at hr;have hr:=g hr;subst hr;obtain⟨t,I,P,C⟩:=hi.con (.inl hw);refine h.set w _ ?_;rw[I];show VL m.n t;cases t with
  | atom s=>simp_all [VL]
  | int s=>simp_all [VL]
  | var i=>cases C
  | comp s l=>cases C
 rw[bM hw] at hr;clear hw;by_cases hw:i.word=[99,111,110,115,116]
 .rw[zip hw] at hr;obtain⟨t,c,b⟩:=D7 hr;obtain⟨t0,I,P,C⟩:=hi.con (.inr hw);have U:VL m.n t0:=by
   cases t0 with
   | atom s=>simp_all [VL]
   | int s=>simp_all [VL]
   | var i=>cases C
   | comp s l=>cases C
  rw[I] at b;exact H (fun q r=>⟨(P1 d).1 _ _ _ _ h.tr (XK hx z c) U r,h.sr.GW (XH hx E.tm c) P r⟩) b
 rw[bM hw] at hr;clear hw;by_cases hw:i.word=[115,97,109,101]
 .rw[zip hw] at hr;obtain⟨t,c,b⟩:=D7 hr;obtain⟨u,D,W⟩:=D7 b;exact H (fun q r=>⟨(P1 d).1 _ _ _ _ h.tr (XK hx z c) (XK hx z D) r,h.sr.GW (XH hx E.tm c) (XH hx E.tm D) r⟩) W
 rw[bM hw] at hr;clear hw;by_cases hw:i.word=[109,97,107,101]
 .rw[zip hw] at hr;obtain⟨l,c,b⟩:=D7 hr;have hr:=g b;subst hr;refine h.set w _ ?_;show VL m.n (.comp i.name l);grind [VL,adD,adF]
 rw[bM hw] at hr;clear hw;by_cases hw:i.word=[115,112,108,105,116]
 .rw[zip hw] at hr;obtain⟨t,c,b⟩:=D7 hr;have X:=XK hx z c;cases hw:fF m.sr.tr d t with
  | none=>grind
  | some t'=>
   rw[hw] at b;have F:=XJ h.tr X hw;cases t' with
   | atom s=>grind
   | int s=>grind
   | comp name args=>
    simp only at b;split at b
    .have hr:=g b;subst hr;unfold VL at F;exact jG.PY (fun(p:Nat×Tm)=>(p.1,Sl.term p.2)) _ h w fun p Q=>ana F _ (List.of_mem_zip Q).2
    grind
   | var v=>
    have hr:=g b;subst hr;unfold VL at F;have xm:look v m.sr.tr=none:=IQ hw;have c:jG told { m with n:=m.n+i.s.tail.length }:=h.IX (a2O _ _) (h.tr.up (a2O _ _)) h.sr;have D:=jG.PY (fun(p:Nat×Nat)=>(p.1,Sl.term (.var (m.n+p.2)))) i.s.tail.zipIdx c w (fun p Q=>by
     show VL _ _;grind [VL,List.mem_zipIdx])
    have e1:∀ (L:List (Nat×Nat)) (m1:Vm) (k:Nat),m1.n=m.n->L.foldl (fun m' (p:Nat×Nat)=>m'.set p.1 (.term (.var (m.n+p.2)))) { m1 with n:=k }={ (L.foldl (fun m' (p:Nat×Nat)=>m'.set p.1 (.term (.var (m'.n+p.2)))) m1) with n:=k }:=by
     intro L;induction L with
     | nil=>grind
     | cons a L ih=>
      intro m1 k hk;rw[a2v,a2v,<- ih (m1.set a.1 (.term (.var (m1.n+a.2)))) k hk,hk];rfl
    rw[e1 _ m _ rfl] at D;have K:VL (m.n+i.s.tail.length) (.comp i.name ((a2j m.n i.s.tail.length).map .var)):=by
     unfold VL;refine adD fun t ht=>?_;obtain⟨j,hj,rfl⟩:=a2X.1 ht;grind [List.mem_range',VL]
    have M:eA (.comp i.name ((a2j m.n i.s.tail.length).map .var)):=by
     unfold eA;have:=hi.qL;refine⟨hi.TA,zg,XI fun t ht=>?_⟩;obtain⟨j,hj,rfl⟩:=a2X.1 ht;exact amV
    exact D.IX (a1s _) (show oc (m.n+i.s.tail.length) ((v,_)::m.sr.tr) from⟨zo,K,h.tr.up (a2O _ _)⟩)
     ⟨show y7 ((v,_)::m.sr.tr) from⟨h.sr.Fq,xm,aH8 h.tr F⟩,show nC ((v,_)::m.sr.tr) from⟨M,h.sr.ok⟩⟩
 rw[bM hw] at hr;clear hw;by_cases hw:i.word=mr
 .rw[zip hw] at hr;obtain⟨l,c,b⟩:=D7 hr;obtain⟨g1,g2⟩:=TB hx E.tm c;have R:jw i.name=l.length:=by rw[g2];exact hi.test hw
  exact H (fun q r=>⟨aIa h.tr h.sr (adF hx z c) g1 R r,h.sr.test g1 R r⟩) b
 rw[bM hw] at hr;clear hw;by_cases hw:i.word=tj
 .rw[zip hw] at hr;have hr:=g hr;subst hr;exact h.set w _ trivial
 rw[bM hw] at hr;clear hw;by_cases hw:i.word=pF
 .rw[zip hw] at hr;have hr:=g hr;subst hr;exact h.set w _ trivial
 rw[bM hw] at hr;clear hw;by_cases hw:i.word=kE
 .rw[zip hw] at hr;split at hr
  .have hr:=g hr;subst hr;exact h.take _
  grind
 rw[bM hw] at hr;clear hw;by_cases hw:i.word=jR
 .rw[zip hw] at hr;have hr:=g hr;subst hr;exact h.again fun _ h=>zg
 rw[bM hw] at hr;clear hw;by_cases hw:i.word=jm
 .rw[zip hw] at hr;have hr:=g hr;subst hr;exact⟨h.tr,h.fr,h.ag,h.sr,h.ask⟩
 rw[bM hw] at hr;clear hw;by_cases hw:i.word=xf
 .rw[zip hw] at hr;split at hr
  .grind
  .split at hr
   .grind
   .split at hr
    .grind
    .rename_i m' he;have hr:=g hr;subst hr;refine h.enter (fun y hy=>?_) he;obtain⟨k,-,rfl⟩:=a2X.1 hy;simp_all [adE]
 rw[bM hw] at hr;clear hw;by_cases hw:i.word=[114,101,116]
 .rw[zip hw,hx] at hr;simp only at hr;split at hr
  .grind
  .have hr:=g hr;subst hr;exact⟨h.tr,h.fr,h.ag,h.sr,h.ask⟩
 grind
end
section
variable{B told:Nat}{m:Vm}
def aIe{l:List Co}{args:List Sl}{m':Vm}(h:m.enter l args f pc n=O m'):m'.sr=m.sr:=by
 cases l with
 | nil=>cases h
 | cons c l=>have:=(a1w h).symm;grind
def anc{p:Bool×Vm}(h:m.back=O p):p.2.sr.fuel=m.sr.fuel:=by
 unfold Vm.back at h;split at h
 .grind
 .split at h
  .have:=(a1w h).symm;subst this;rfl
  .split at h
   .grind
   .rename_i m' he;have:=(a1w h).symm;subst this;show m'.sr.fuel=_;rw[aIe he];rfl
theorem gA.dec(a:gA B m)(c:m.sr.fuel≠0)(b:m.pc+1<=200000):gA (B-1) { m with sr:=m.sr.dec,pc:=m.pc+1 }/\B-1+1=B:=by
 have d:m.sr.tr.length+m.sr.fuel<=B:=a.cV;have e:=a.nN;exact⟨⟨a.f,a.fr,a.ag,a.marks,a.mono,by show m.sr.tr.length+(m.sr.fuel-1)<=B-1;omega,by show m.bw.length+(m.sr.fuel-1)<=B-1;omega,b,a.xj,a.xY⟩,zo⟩
theorem jG.dec(h:jG told m):jG told { m with sr:=m.sr.dec,pc:=m.pc+1 }:=⟨h.tr,h.fr,h.ag,⟨h.sr.Fq,h.sr.ok⟩,h.ask⟩
theorem XL{dG:List Pd}(k:∀ p∈dG,∀ c∈p.clauses,zc c){d:Nat}:∀ (f:Nat) (m:Vm) (p:Bool×Vm),gA B m->jG told m->xh dG d f m=O (.ok p)->gA B p.2/\jG told p.2/\p.2.sr.fuel<=m.sr.fuel/\(p.1=A->∃ x,p.2.fs[p.2.f]?=O x/\x.ask=A)
 | 0,_,_,_,_,h=>by grind [xh]
 | f+1,m,p,l,w,h=>by
  rw[xh] at h;by_cases s:m.sr.fuel=0
  .grind
  rw[bM s] at h;obtain⟨x,hx⟩:=l.cur;have t:=l.fr _ _ hx;rw[hx] at h;simp only at h;cases hi:x.code.ins[m.pc]? with
  | none=>grind
  | some i=>
   rw[hi] at h;simp only at h;have I:=(a2g.1 hi).1;have hlen:=t.code.len;have a:uH x.code.slots i:=t.code.ins _ (a2z hi);obtain⟨n,y⟩:=l.dec s zo;have o:=w.dec;have z:m.sr.dec.fuel<=m.sr.fuel:=Nat.sub_le _ _;by_cases u:i.word=[100,111,110,101]
   .rw[zip u] at h;split at h
    .rename_i C;injection h with h;injection h with h;subst h;exact⟨n.up zo,o,z,fun _=>⟨x,hx,C⟩⟩
    .cases h
   .rw[bM u] at h;obtain⟨q,r,g⟩| ⟨e,r,g⟩:=Out.bind_some h
    .obtain⟨b,m1⟩:=q;obtain⟨g1,g2⟩:=am8 n o.sr.ok hx a k r;have g3:=aIb o n hx a r;rw[y] at g1;have K:m1.sr.fuel<=m.sr.dec.fuel:=g2;cases b with
     | true=>
      obtain⟨D,E,F,H⟩:=XL k f m1 p g1 g3 g;grind
     | false=>
      simp only[Bool.false_eq_true,if_false] at g;cases j:m1.back with
      | none=>grind
      | some q=>
       rw[j] at g;have g4:=g1.back j;have g5:=g3.back j;have g6:=anc j;obtain⟨b2,m2⟩:=q;have g6:m2.sr.fuel=m1.sr.fuel:=g6;cases b2 with
       | false=>
        grind
       | true=>
        obtain⟨D,E,F,H⟩:=XL k f m2 p g4 g5 g;grind
    grind
def aIf{dG:List Pd}(e:∀ p∈dG,∀ c∈p.clauses,zc c){p:Bool×Vm}(g:gA B m)(i:jG told m)(h:IT dG d f m=O (.ok p)):gA B p.2/\jG told p.2/\p.2.sr.fuel<=m.sr.fuel/\(p.1=A->∃ x,p.2.fs[p.2.f]?=O x/\x.ask=A):=by
 unfold IT at h;by_cases j:0<m.pc
 .rw[zip j] at h;cases a:m.back with
  | none=>grind
  | some q=>
   rw[a] at h;have g4:=g.back a;have g5:=i.back a;have g6:=anc a;obtain⟨b,m1⟩:=q;have g6:m1.sr.fuel=m.sr.fuel:=g6;cases b with
   | false=>
    injection h with h;injection h with h;subst h;exact⟨g4,g5,Nat.le_of_eq g6,fun h=>by cases h⟩
   | true=>
    obtain⟨k,l,o,n⟩:=XL e f m1 p g4 g5 h;exact⟨k,l,zo,n⟩
 grind [XL]
end
structure KvT(Q:List Bs->Prop)(T:List Tok)(f:Nat):Prop where
 Cp:∀ k v d x k' v',Q v->oP T f k v d=O (.ok x k' v')->Q v'
 args:∀ k v d a acc x k' v',Q v->oQ T f k v d a acc=O (.ok x k' v')->Q v'
 list:∀ k v d x k' v',Q v->qu T f k v d=O (.ok x k' v')->Q v'
 elems:∀ k v d acc x k' v',Q v->q8 T f k v d acc=O (.ok x k' v')->Q v'
 oper:∀ l k v d x k' v',Q v->iZ T f l k v d=O (.ok x k' v')->Q v'
 more:∀ l y k v d x k' v',Q v->pj T f l y k v d=O (.ok x k' v')->Q v'
def XM{Q:List Bs->Prop}{T:List Tok}(i:∀ j k v x k' v',(tk T j).kind=2->Q v->Aa (tk T j) k v = .ok x k' v'->Q v'):∀ f,KvT Q T f
 | 0=>⟨by simp_all [oP],by simp_all [oQ],by simp_all [qu],by simp_all [q8],by simp_all [iZ],by simp_all [pj]⟩
 | f+1=>by
  have ih:=XM i f;refine⟨?_,?_,?_,?_,?_,?_⟩
  .intro k v d x k' v' hv h;rw[oP] at h;split at h
   .grind
   split at h
   .grind
   split at h
   .grind
   split at h
   .split at h
    .obtain⟨a,e,v1,c,b⟩:=eh h;obtain⟨rfl,rfl,rfl⟩:=oz b;exact ih.args _ _ _ _ _ _ _ _ hv c
    grind
   split at h
   .grind
   split at h
   .obtain⟨a,e,v1,c,b⟩:=eh h;obtain⟨rfl,rfl,rfl⟩:=oz b;exact ih.oper _ _ _ _ _ _ _ hv c
   split at h
   .exact ih.list _ _ _ _ _ _ hv h
   grind
  .intro k v d a acc x k' v' hv h;rw[oQ] at h;obtain⟨y,e,v1,c,b⟩:=eh h;have g:=ih.oper _ _ _ _ _ _ _ hv c;split at b
   .exact ih.args _ _ _ _ _ _ _ _ g b
   grind
  .intro k v d x k' v' hv h;rw[qu] at h;split at h
   .grind
   .obtain⟨all,e,v1,c,b⟩:=eh h;have g:=ih.elems _ _ _ _ _ _ _ hv c;split at b
    .obtain⟨y,o,v2,m,n⟩:=eh b;obtain⟨rfl,rfl,rfl⟩:=oz n;exact ih.oper _ _ _ _ _ _ _ g m
    .obtain⟨rfl,rfl,rfl⟩:=oz b;omega
  .intro k v d acc x k' v' hv h;rw[q8] at h;obtain⟨y,e,v1,c,b⟩:=eh h;have g:=ih.oper _ _ _ _ _ _ _ hv c;split at b
   .exact ih.elems _ _ _ _ _ _ _ g b
   grind
  .intro l k v d x k' v' hv h;rw[iZ] at h;split at h
   .exact ih.Cp _ _ _ _ _ _ hv h
   .obtain⟨y,e,v1,c,b⟩:=eh h;exact ih.more _ _ _ _ _ _ _ _ (ih.oper _ _ _ _ _ _ _ hv c) b
  .intro l y k v d x k' v' hv h;rw[pj] at h;split at h
   .grind
   .obtain⟨z,e,v1,c,b⟩:=eh h;exact ih.more _ _ _ _ _ _ _ _ (ih.oper _ _ _ _ _ _ _ hv c) b
structure KvB(Q:List Bs->Prop)(T:List Tok)(f:Nat):Prop where
 lit:∀ k v d x k' v',Q v->nQ T f k v d=O (.ok x k' v')->Q v'
 lits:∀ k v d acc x k' v',Q v->qw T f k v d acc=O (.ok x k' v')->Q v'
 row:∀ k v d x k' v',Q v->oo T f k v d=O (.ok x k' v')->Q v'
 rest:∀ k v d x k' v',Q v->qx T f k v d=O (.ok x k' v')->Q v'
 body:∀ k v d x k' v',Q v->mS T f k v d=O (.ok x k' v')->Q v'
def kvB{Q:List Bs->Prop}{T:List Tok}(p:∀ j k v x k' v',(tk T j).kind=2->Q v->Aa (tk T j) k v = .ok x k' v'->Q v'):∀ f,KvB Q T f
 | 0=>⟨by simp_all [nQ],by simp_all [qw],by simp_all [oo],by simp_all [qx],by simp_all [mS]⟩
 | f+1=>by
  have ih:=kvB p f;refine⟨?_,?_,?_,?_,?_⟩
  .intro k v d x k' v' hv h;rw[nQ] at h;split at h
   .grind
   split at h
   .grind
   split at h
   .obtain⟨b,n,v1,g,e⟩:=eh h;simp only[a1o,cj.ok.injEq] at e;obtain⟨-,-,rfl⟩:=e;exact ih.lit _ _ _ _ _ _ hv g
   split at h
   .obtain⟨b,n,v1,g,e⟩:=eh h;obtain⟨rfl,rfl,rfl⟩:=oz e;exact ih.body _ _ _ _ _ _ hv g
   .obtain⟨y,n,v1,g,e⟩:=eh h;have m:=(XM p f).oper _ _ _ _ _ _ _ hv g;split at e
    .obtain⟨z,q,v2,o,i⟩:=eh e;simp only[a1o,cj.ok.injEq] at i;obtain⟨-,-,rfl⟩:=i;exact(XM p f).oper _ _ _ _ _ _ _ m o
    grind
  .intro k v d acc x k' v' hv h;rw[qw] at h;obtain⟨y,n,v1,g,e⟩:=eh h;have m:=ih.lit _ _ _ _ _ _ hv g;split at e
   .exact ih.lits _ _ _ _ _ _ _ m e
   grind
  .intro k v d x k' v' hv h;rw[oo] at h;obtain⟨l,n,v1,g,e⟩:=eh h;simp only[a1o,cj.ok.injEq] at e;obtain⟨-,-,rfl⟩:=e;exact ih.lits _ _ _ _ _ _ _ hv g
  .intro k v d x k' v' hv h;rw[qx] at h;split at h
   .grind
   .exact ih.body _ _ _ _ _ _ hv h
  .intro k v d x k' v' hv h;rw[mS] at h;obtain⟨a,n,v1,g,e⟩:=eh h;have m:=ih.row _ _ _ _ _ _ hv g;split at e
   .obtain⟨b,q,v2,o,i⟩:=eh e;have s:=ih.row _ _ _ _ _ _ m o;split at i
    .obtain⟨c,u,v3,t,r⟩:=eh i;simp only[a1o,cj.ok.injEq] at r;obtain⟨-,-,rfl⟩:=r;exact ih.rest _ _ _ _ _ _ s t
    grind
   .split at e
    .obtain⟨b,q,v2,o,i⟩:=eh e;simp only[a1o,cj.ok.injEq] at i;obtain⟨-,-,rfl⟩:=i;exact ih.rest _ _ _ _ _ _ m o
    grind
def KN(v:List Bs):Prop:=v.length<=12/\∀ x∈v,x≠[]/\x.length<=9
def adH{T:List Tok}(b:CH T)(c:∀ u∈T,u.kind=2->u.text≠[])(j k:Nat)(v:List Bs)(x:Ex)(k':Nat)(v':List Bs)(hk:(tk T j).kind=2)(hv:KN v)(h:Aa (tk T j) k v = .ok x k' v'):KN v':=by
 have a:=Xv (T:=T) (k:=j) zo;unfold Aa at h;split at h
 .grind
 .split at h
  .grind
  .rename_i d;injection h with f g e;subst e;have i:=hv.1;unfold O4 at d;refine⟨zg,fun x hx=>?_⟩;rcases a1F.1 hx with hx | hx
   .exact hv.2 x hx
   .simp only[a1z,List.not_mem_nil,or_false] at hx;subst hx;exact⟨c _ a hk,b.len _ a⟩
def aIi{T:List Tok}(a:CH T)(d:∀ u∈T,u.kind=2->u.text≠[]){b:Bd}{vs:List Bs}(h:rP T = .ok b k vs):KN vs/\eX vs.length T.length b:=by
 unfold rP at h;split at h
 .rename_i b1 e v1 c;have f:=(kvB (adH a d) _).body _ _ _ _ _ _ ⟨zs,zs⟩ c;have hk:=((Xx a _).body _ _ _ _ _ _ c).1;split at h
  .rename_i b2 g v2 hm;obtain⟨rfl,rfl,rfl⟩:=oz hm;grind
  .grind
  grind
 .grind
 grind
mutual
def iR:Bd->Nat
 | .mk _ _ args parts=>fG args+ju parts+1
 termination_by structural x=>x
def ju:List Bd->Nat
 | []=>0
 | x::xs=>iR x+ju xs
 termination_by structural x=>x
end
theorem adI(x:Bd):∀ (a:List Bd),ju (a++[x])=ju a+iR x
 | []=>by simp [ju]
 | y::a=>by simp [ju,adI x a];omega
theorem anf:∀ (x:Bd),1<=iR x
 | .mk ..=>by simp [iR]
structure BSz(T:List Tok)(f:Nat):Prop where
 lit:∀ k v d x k' v',nQ T f k v d=O (.ok x k' v')->iR x+2*k<=2*k'
 lits:∀ k v d acc x k' v',qw T f k v d acc=O (.ok x k' v')->ju x+2*k<=2*k'+ju acc/\(acc.length<x.length)/\(acc.length+1<x.length->ju x+2*k+2<=2*k'+ju acc)
 row:∀ k v d x k' v',oo T f k v d=O (.ok x k' v')->iR x+2*k<=2*k'
 rest:∀ k v d x k' v',qx T f k v d=O (.ok x k' v')->iR x+2*k<=2*k'
 body:∀ k v d x k' v',mS T f k v d=O (.ok x k' v')->iR x+2*k<=2*k'
def bSz{T:List Tok}(o:CH T):∀ f,BSz T f
 | 0=>⟨by grind [nQ],by grind [qw],by grind [oo],by grind [qx],by grind [mS]⟩
 | f+1=>by
  have ih:=bSz o f;refine⟨?_,?_,?_,?_,?_⟩
  .intro k v d x k' v' h;rw[nQ] at h;split at h
   .grind
   split at h
   .simp only[a1o,cj.ok.injEq] at h;obtain⟨rfl,rfl,rfl⟩:=h;grind [iR,ju,fG]
   split at h
   .obtain⟨b,j,v1,g,e⟩:=eh h;have g1:=ih.lit _ _ _ _ _ _ g;simp only[a1o,cj.ok.injEq] at e;obtain⟨rfl,rfl,rfl⟩:=e;grind [iR,ju,fG]
   split at h
   .obtain⟨b,j,v1,g,e⟩:=eh h;have g1:=ih.body _ _ _ _ _ _ g;obtain⟨rfl,rfl,rfl⟩:=oz e;omega
   .obtain⟨y,j,v1,g,e⟩:=eh h;obtain⟨g1,g2,g3⟩:=(PQ o f).oper _ _ _ _ _ _ _ g;have t:=amk y;split at e
    .rename_i c u;obtain⟨z,p,v2,m,i⟩:=eh e;obtain⟨q1,q2,q3⟩:=(PQ o f).oper _ _ _ _ _ _ _ m;simp only[a1o,cj.ok.injEq] at i;obtain⟨rfl,rfl,rfl⟩:=i;grind [iR,ju,fG]
    .split at e
     .grind
     .split at e
      .grind
      .simp only[a1o,cj.ok.injEq] at e;obtain⟨rfl,rfl,rfl⟩:=e;obtain⟨kind,name,n,w,args⟩:=y;grind [iD,iR,ju,Ex.args]
  .intro k v d acc x k' v' h;rw[qw] at h;obtain⟨y,j,v1,g,e⟩:=eh h;have g1:=ih.lit _ _ _ _ _ _ g;split at e
   .obtain⟨q1,q2,q3⟩:=ih.lits _ _ _ _ _ _ _ e;grind [adI,List.length_append,List.length_cons,List.length_nil]
   .simp only[a1o,cj.ok.injEq] at e;obtain⟨rfl,rfl,rfl⟩:=e;grind [adI]
  .intro k v d x k' v' h;rw[oo] at h;obtain⟨l,j,v1,g,e⟩:=eh h;obtain⟨g1,g2,g3⟩:=ih.lits _ _ _ _ _ _ _ g;simp only[a1o,cj.ok.injEq] at e;obtain⟨rfl,rfl,rfl⟩:=e;simp only[ju,List.length_nil] at g1 g2 g3;split
   .grind [ju]
   .rename_i B;have:0+1<l.length:=by
     rcases l with _ | ⟨a,_ | ⟨b,r⟩⟩<;>grind
    grind [iR,fG]
  .intro k v d x k' v' h;rw[qx] at h;split at h
   .grind
   .exact ih.body _ _ _ _ _ _ h
  .intro k v d x k' v' h;rw[mS] at h;obtain⟨a,j,v1,g,e⟩:=eh h;have g1:=ih.row _ _ _ _ _ _ g;split at e
   .obtain⟨b,p,v2,m,i⟩:=eh e;have q1:=ih.row _ _ _ _ _ _ m;split at i
    .obtain⟨c,C,v3,s,q⟩:=eh i;have m1:=ih.rest _ _ _ _ _ _ s;simp only[a1o,cj.ok.injEq] at q;obtain⟨rfl,rfl,rfl⟩:=q;grind [iR,ju,fG]
    .simp only[a1o,cj.ok.injEq] at i;obtain⟨rfl,rfl,rfl⟩:=i;simp only[iR,ju,fG,Ac];omega
   .split at e
    .obtain⟨b,p,v2,m,i⟩:=eh e;have q1:=ih.rest _ _ _ _ _ _ m;simp only[a1o,cj.ok.injEq] at i;obtain⟨rfl,rfl,rfl⟩:=i;grind [iR,ju,fG]
    grind
mutual
theorem eX.TD {n M b:Nat} (a:M<=b):∀ {x:Bd},eX n M x->eX n b x
 | .mk kind name args parts,hx=>by
  unfold eX at hx ⊢;obtain⟨c,d,e,f,g,h,i,j⟩:=hx;exact⟨c,d,e,f,g,a1t h a,a1t i a,eY.TD a j⟩
 termination_by structural x=>x
theorem eY.TD {n M b:Nat} (a:M<=b):∀ {l:List Bd},eY n M l->eY n b l
 | [],hx=>by simp_all [eY]
 | x::xs,hx=>by
  unfold eY at hx ⊢;exact⟨eX.TD a hx.1,eY.TD a hx.2⟩
 termination_by structural x=>x
end
structure qM(c:Cl):Prop where
 cl:y8 2900 c
 name:c.name.length<=9
 vs:KN c.vars
 bsz:iR c.body<=5800
theorem anh{T:List Tok}(d:CH T)(m:∀ u∈T,u.kind=2->u.text≠[])(n:T.length<=2900){a:Nat}{name:Bs}{args:List Ex}{v v':List Bs}{c:Cl}(g:name.length<=9)(hv:KN v)(hx:fi v.length args)(i:args.length<=4)(j:fG args<=2900)
  (h:JT T f name args a k v=O (.ok c k' v')):qM c:=by
 unfold JT at h;split at h
 .grind
 split at h
 .obtain⟨b,p,v1,e,o⟩:=eh h;obtain⟨rfl,rfl,rfl⟩:=oz o;obtain⟨g1,g2,g3,g4⟩:=(Xx d f).body _ _ _ _ _ _ e;have l:=(kvB (adH d m) f).body _ _ _ _ _ _ hv e;have q:=(bSz d f).body _ _ _ _ _ _ e;exact⟨⟨g1.TD n,fi.mono g2 _ hx,i,j,by have:=l.1;grind⟩,g,l,zg⟩
 .obtain⟨rfl,rfl,rfl⟩:=oz h;exact⟨⟨aHk,hx,i,j,by have:=hv.1;grind⟩,g,hv,by simp [O6,iR,ju,fG]⟩
theorem aIk{T:List Tok}(a:CH T)(d:∀ u∈T,u.kind=2->u.text≠[])(e:T.length<=2900){v':List Bs}{c:Cl}(h:EP T f k=O (.ok c k' v')):qM c:=by
 unfold EP at h;split at h
 .rename_i hk;have g:(tk T k).text.length<=9:=by
   by_cases hlt:k<T.length
   .have:tk T k∈T:=by unfold tk;simp [a1X,hlt]
    exact a.len _ this
   .unfold tk;simp [a1X,hlt]
  split at h
  .obtain⟨l,m,v1,b,i⟩:=eh h;obtain⟨n,o,v2,j,p⟩:=eh i;obtain⟨rfl,rfl,rfl⟩:=oz j;obtain⟨g1,g2,g3,g4,g5⟩:=(PQ a f).args _ _ _ _ _ _ _ _ fi.nil b;have hle:=(Xw T f).args _ _ _ _ _ _ _ _ b;have q:=(XM (adH a d) f).args _ _ _ _ _ _ _ _ ⟨zs,zs⟩ b;grind [fG,anh]
  .exact anh a d e g ⟨zs,zs⟩ fi.nil zs (by simp [fG]) h
 grind
def ani{T:List Tok}(a:CH T)(b:∀ u∈T,u.kind=2->u.text≠[])(d:T.length<=2900):∀ (f k:Nat) (acc l:List Cl) (k':Nat) (v':List Bs),acc.length<=40->(∀ c∈acc,qM c)->Fa T f k acc=O (.ok l k' v')->l.length<=40/\∀ c∈l,qM c
 | 0,k,acc,l,k',v',_,_,h=>by simp_all [Fa]
 | f+1,k,acc,l,k',v',g,i,h=>by
  unfold Fa at h;split at h
  .grind
  split at h
  .grind
  .obtain⟨c,j,v1,m,e⟩:=eh h;refine ani a b d f _ _ _ _ _ zg (fun x hx=>?_) e;grind [List.mem_singleton,aIk]
def aIl{T:List Tok}(a:CH T)(b:∀ u∈T,u.kind=2->u.text≠[])(d:T.length<=2900){l:List Cl}{v':List Bs}(h:ID T = .ok l k' v'):l.length<=40/\∀ c∈l,qM c:=
 ani a b d (T.length+1) 0 [] l k' v' (Nat.zero_le _) zg (by simp_all [al0])
theorem anj{T:List Tok}(a:CH T)(d:T.length<=2900){b:Bd}{vs:List Bs}(h:rP T = .ok b k vs):iR b<=5800:=by
 unfold rP at h;split at h
 .rename_i b1 e v1 c;have hk:=((Xx a _).body _ _ _ _ _ _ c).2.2.2;have f:=(bSz a _).body _ _ _ _ _ _ c;grind [oz]
 .grind
 grind
def fK(c:UInt8):Bs->List Bs
 | []=>[[]]
 | x::r=>if x=c then []::fK c r else match fK c r with
  | []=>[[x]]
  | l::ls=>(x::l)::ls
def D8(w:Bs):Option Int:=
 let z:Int:=match w with
  | 45::r=>- num r
  | _=>num w
 if gX z=w/\-9223372036854775808<=z/\z<=9223372036854775807 then O z else V
def ji(w:Bs)(n:Nat):Option Nat:=match D8 w with
 | some z=>if 0<=z/\z<n then O z.toNat else V
 | none=>V
def pG(w:Bs):Option Bs:=
 match w with
 | []=>V
 | c::r=>if 10<w.length\/digit c=A\/w.all (fun c=>decide (33<=c/\c<=126))=G\/(c=45/\r≠[]) then V else O w
def BG(w:Bs):Option Tm:=match D8 w with
 | some z=>O (.int z)
 | none=>(pG w).map .atom
def x7(n:Nat):List Bs->Option (List Nat)
 | []=>O []
 | w::r=>match ji w n,x7 n r with
  | some s,O l=>O (s::l)
  | _,_=>V
def lY(slots:Nat):Bs->List Bs->In->Option (In×List Bs)
 | [],ws,i=>O (i,ws)
 | x::r,ws,i=>
  if x=42 then match x7 slots ws with
   | some l=>O ({ i with s:=i.s++l },[])
   | none=>V
  else match ws with
   | []=>V
   | w::ws=>
    if x=115 then match ji w slots with
     | some s=>lY slots r ws { i with s:=i.s++[s] }
     | none=>V
    else if x=99 then match BG w with
     | some t=>lY slots r ws { i with const:=O t }
     | none=>V
    else if x=110 then match pG w with
     | some t=>lY slots r ws { i with name:=t }
     | none=>V
    else match ji w 10000 with
     | some s=>lY slots r ws { i with s:=i.s++[s] }
     | none=>V
def rm(slots:Nat)(ws:List Bs):Option In:=match ws with
 | []=>V
 | w::ws=>match kS w with
  | none=>V
  | some sh=>match lY slots sh ws ⟨w,[],V,[]⟩with
   | some (i,[])=>if ((w=[109,97,107,101]\/w=[115,112,108,105,116])/\i.s.length<2)\/(w=mr/\jw i.name≠i.s.length) then V else O i
   | _=>V
structure Pv where
 dG:List Pd
 open_:Bool
 ask:Option (Co×Nat)
def Fv(l:List Co)(f:Co->Co):List Co:=match l.reverse with
 | []=>[]
 | c::r=>(f c::r).reverse
def GX(l:List Pd)(f:Pd->Pd):List Pd:=match l.reverse with
 | []=>[]
 | c::r=>(f c::r).reverse
def mv(ws:List Bs)(p:Pv):Option Pv:=
 match ws with
 | [[112,114,101,100],a,b]=>match p.ask,pG a,ji b 64 with
  | none,O a,O b=>if p.dG.any (fun q=>q.name == a && q.arity == b) then V else O { p with dG:=p.dG++[⟨a,b,[]⟩],open_:=false }
  | _,_,_=>V
 | [[99,108,97,117,115,101],a]=>match p.ask,ji a 65 with
  | none,O a=>if p.dG=[] then V else O { p with dG:=GX p.dG fun q=>{ q with clauses:=q.clauses++[⟨a,[]⟩] },open_:=true }
  | _,_=>V
 | [[113,117,101,114,121],a,b]=>match p.ask,ji a 65 with
  | none,O a=>match ji b (a+1) with
   | some b=>O { p with ask:=O (⟨a,[]⟩,b),open_:=true }
   | none=>V
  | _,_=>V
 | _=>
  if p.ask.isSome/\(ws.head?=O [112,114,101,100]\/ws.head?=O [99,108,97,117,115,101]\/ws.head?=O [113,117,101,114,121]) then V
  else match p.ask with
   | some (c,n)=>match rm c.slots ws with
    | some i=>O { p with ask:=O ({ c with ins:=c.ins++[i] },n) }
    | none=>V
   | none=>if p.open_ then match (KO p.dG) with
     | some c=>match rm c.slots ws with
      | some i=>O { p with dG:=GX p.dG fun q=>{ q with clauses:=Fv q.clauses fun c=>{ c with ins:=c.ins++[i] } } }
      | none=>V
     | none=>V
    else V
where
 KO (l:List Pd):Option Co:=match l.getLast? with
  | some q=>q.clauses.getLast?
  | none=>V
def kT:List Bs->Nat->Pv->Except Nat Pv
 | [],_,p=>.ok p
 | [r],k,p=>if r=[]/\1<k then .ok p else .error k
 | r::rs,k,p=>match mv (fK 32 r) p with
  | none=>.error k
  | some p=>kT rs (k+1) p
def rp(s:Bs):Except (Nat×Nat) (List Pd×Co×Nat):=
 if 65536<s.length then .error (1,0)
 else match kT (fK 10 s) 1 ⟨[],G,V⟩with
  | .error k=>.error (5,k)
  | .ok p=>match p.ask with
   | some (c,n)=>.ok (p.dG,c,n)
   | none=>.error (5,(fK 10 s).length)
end P
