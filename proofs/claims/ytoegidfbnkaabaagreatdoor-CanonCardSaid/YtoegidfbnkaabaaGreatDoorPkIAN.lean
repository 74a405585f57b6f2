/- A part of one proof (PureVg, PureVs, PureVl, PureVn, PureVt, PureVq, PureVx, PureV, PureSz, PureP). -/
import Derived.Test.YtoegidfbnkaabaaGreatDoorPkIAM
set_option linter.all false
set_option maxRecDepth 100000
set_option maxHeartbeats 8000000
open Option renaming some → O, none → V
open Bool renaming true → A, false → G
open Option.some renaming injEq → a07, inj → a1b
open Nat renaming le_refl → a1c, le_trans → a1d, le_succ → a2n, le_add_right → a2u
open List renaming getElem?_eq_getElem → a1e, mem_cons → a1g, mem_cons_self → a1j, mem_append → a1o, getD_eq_getElem?_getD → a1y, getElem?_eq_some_iff → a1S, mem_cons_of_mem → a1U, range' → a1W, foldl_cons → a2d, mem_of_getElem? → a2i, mem_or_eq_of_mem_set → a2p, mem_map → a2E, dropLast_eq_take → a3f, length_set → a3D, getLast?_eq_getElem? → a47, eq_of_mem_replicate → a5m
open Except renaming ok → a3t
namespace Go.Proofs.YtoegidfbnkaabaaGreatDoor
variable{B' N d f i k k' n pc:Nat}
namespace P
section
variable{B:Nat}{m:Vm}
theorem gL.up(h:gL B m)(a:B<=B'):gL B' m:=⟨h.f,h.fr,h.ag,h.marks,h.mono,a1d h.cW a,a1d h.nL a,h.pc,h.xy,h.yn⟩
def gL.Jk(h:gL B m){s:Sr}(e:B<=B')(b:m.sr.tr <:+ s.tr)(g:s.fuel<=m.sr.fuel)(c:s.cW<=B'):gL B' { m with sr:=s,n:=n }:=
 ⟨h.f,h.fr,h.ag,fun i a d=>a1d (h.marks i a d) b.length_le,h.mono,c,by have:=h.nL;grind,h.pc,h.xy,h.yn⟩
def gL.slots(h:gL B m){x:Fm}(hx:m.fs[m.f]?=O x){sl:List Sl}(e:sl.length=x.slots.length)(ht:∀ y∈sl,AU y):gL B { m with fs:=m.fs.set m.f { x with slots:=sl } }:=by
 have g:(m.fs.set m.f { x with slots:=sl }).length=m.fs.length:=a3D ..;have d:∀ (i:Nat) (z:Fm),(m.fs.set m.f { x with slots:=sl })[i]?=O z->(i=m.f/\z={ x with slots:=sl })\/m.fs[i]?=O z:=fun i z b=>by
  grind
 have c:=h.fr _ _ hx;refine⟨zg,fun i z b=>?_,fun i a j=>?_,h.marks,h.mono,h.cW,h.nL,h.pc,fun i z b=>?_,h.yn⟩
 .show adI (m.fs.set _ _).length z;rw[g];rcases d i z b with⟨-,rfl⟩| b
  .exact⟨c.code,by show _<=sl.length;rw[e];exact c.sl,ht,c.back⟩
  grind [fr]
 .grind [ag]
 .rcases d i z b with⟨-,rfl⟩| b
  .grind [xy]
  grind [xy]
theorem gL.cur(h:gL B m):∃ x,m.fs[m.f]?=O x:=⟨_,a1e h.f⟩
def anc{x:Fm}(hx:m.fs[m.f]?=O x)(k:Nat)(y:Sl):m.set k y={ m with fs:=m.fs.set m.f { x with slots:=x.slots.set k y } }:=by
 unfold Vm.set
 congr 1
 apply List.ext_getElem?;grind
def gL.set(h:gL B m)(k:Nat){y:Sl}(b:AU y):gL B (m.set k y):=by
 obtain⟨x,hx⟩:=h.cur;rw[anc hx];refine h.slots hx (a3D ..) fun z a=>?_;rcases a2p a with a | rfl
 .exact(h.fr _ _ hx).tm z a
 omega
def gL.Qd{α:Type}(g:Vm->α->Nat×Sl)(b:∀ m a,AU (g m a).2):∀ (L:List α) {m:Vm},gL B m->gL B (L.foldl (fun m p=>m.set (g m p).1 (g m p).2) m)
 | [],_,h=>h
 | a::L,_,h=>by rw[a2d];exact gL.Qd g b L (h.set _ (b _ _))
def gL.ane:∀ (L:List (Nat×Tm)) {m:Vm},(∀ p∈L,eu p.2)->gL B m->gL B (L.foldl (fun m p=>m.set p.1 (.term p.2)) m)
 | [],_,_,h=>h
 | a::L,_,b,h=>by rw[a2d];exact gL.ane L (fun p c=>b p (a1U _ c)) (h.set _ (b a (a1j ..)))
def adJ{α:Type}(g:Vm->α->Nat×Sl):∀ (L:List α) (m:Vm),(L.foldl (fun m p=>m.set (g m p).1 (g m p).2) m).sr=m.sr
 | [],_=>rfl
 | a::L,m=>by rw[a2d,adJ g L];rfl
theorem gL.take(h:gL B m)(k:Nat):gL B { m with bz:=m.bz.take k }:=by
 have d:∀ {i:Nat} {a:Ga},(m.bz.take k)[i]?=O a->m.bz[i]?=O a:=fun{i a} c=>by
  grind
 refine⟨h.f,h.fr,fun i a c=>h.ag i a (d c),fun i a c=>h.marks i a (d c),fun i j a b e c g=>h.mono i j a b e (d c) (d g),h.cW,?_,h.pc,h.xy,fun i a c=>h.yn i a (d c)⟩;have:=h.nL;grind
def gL.again(h:gL B m){a:Ga}(n:XK m.fs.length a)(hm:a.mark=m.sr.tr.length)(o:a.pc<=200000)(k:B<=B')(p:m.bz.length+1+m.sr.fuel<=B'):gL B' { m with bz:=m.bz++[a] }:=by
 have e:∀ {i:Nat} {b:Ga},(m.bz++[a])[i]?=O b->(i<m.bz.length/\m.bz[i]?=O b)\/(i=m.bz.length/\b=a):=fun{i b} d=>by
  grind
 refine⟨h.f,h.fr,fun i b d=>?_,fun i b d=>?_,fun i j b c l d g=>?_,a1d h.cW k,zg,h.pc,h.xy,fun i b d=>?_⟩
 .rcases e d with⟨-,d⟩| ⟨-,rfl⟩
  .grind [ag]
  omega
 .rcases e d with⟨-,d⟩| ⟨-,rfl⟩
  .exact h.marks i b d
  grind
 .rcases e g with⟨q,g⟩| ⟨rfl,rfl⟩
  .rcases e d with⟨-,d⟩| ⟨he,-⟩
   .exact h.mono i j b c l d g
   omega
  .rcases e d with⟨-,d⟩| ⟨-,rfl⟩
   .rw[hm];exact h.marks i b d
   omega
 .rcases e d with⟨-,d⟩| ⟨-,rfl⟩
  .grind [yn]
  omega
def gL.frame(h:gL B m){c:Co}{sl:List Sl}(k:zG c)(l:c.slots<=sl.length)(ht:∀ y∈sl,AU y)(o:f<m.fs.length)(p:pc<=200000):gL B { m with fs:=m.fs++[⟨c,sl,n,O f,pc,G⟩],f:=m.fs.length,pc:=0 }:=by
 have e:(m.fs++[(⟨c,sl,n,O f,pc,G⟩:Fm)]).length=m.fs.length+1:=zs;have g:∀ {i:Nat} {z:Fm},(m.fs++[(⟨c,sl,n,O f,pc,G⟩:Fm)])[i]?=O z->m.fs[i]?=O z\/z=⟨c,sl,n,O f,pc,G⟩:=fun{i z} d=>by
  grind
 refine⟨zg,fun i z d=>?_,fun i a d=>?_,h.marks,h.mono,h.cW,h.nL,zg,fun i z d=>?_,h.yn⟩
 .show adI (m.fs++_).length z;rw[e];rcases g d with d | rfl
  .have:=h.fr i z d;exact⟨this.code,this.sl,this.tm,fun b j=>by have:=this.back b j;omega⟩
  .exact⟨k,l,ht,fun b j=>zg⟩
 .show XK (m.fs++_).length a;rw[e];have:=h.ag i a d;exact⟨by have:=this.f;omega,this.others,this.args,this.qT⟩
 .rcases g d with d | rfl
  .grind [xy]
  omega
def Qe(m:Vm)(rest:List Co)(args:List Sl)(f pc:Nat):List Ga:=match rest with | []=>[] | _=>[⟨m.sr.tr.length,f,pc,rest,args⟩]
theorem gL.enter(h:gL B m){B':Nat}{l:List Co}{args:List Sl}{f pc n:Nat}{m':Vm}(e:∀ c∈l,zG c)(j:∀ y∈args,AU y)(k:args.length<=60)(g:f<m.fs.length)(i:pc<=200000)(r:n<=m.bz.length)(o:B<=B')(s:n+1+m.sr.fuel<=B')
  (hr:m.enter l args f pc n=O m'):gL B' m':=by
 cases l with
 | nil=>cases hr
 | cons c rest=>
  have hr:m'={ m with bz:=m.bz.take n++Qe m rest args f pc,fs:=m.fs++[⟨c,args++List.replicate (max c.slots args.length-args.length) .nil,n,O f,pc,G⟩],f:=m.fs.length,pc:=0 }:=(a1b hr).symm;have d:=e c (a1j ..);have p:gL B' { m with bz:=m.bz.take n++Qe m rest args f pc }:=by
   cases rest with
   | nil=>
    grind [Qe,up,take]
   | cons c2 q=>
    refine(h.take n).again (a:=⟨m.sr.tr.length,f,pc,c2::q,args⟩) ⟨g,fun c d=>e c (a1U _ d),j,k⟩ J i o ?_;grind
  subst hr;refine p.frame d ?_ ?_ g i
  .grind
  .intro y b;rcases a1o.1 b with b | b
   .grind
   .rw[a5m b];trivial
def gL.back(h:gL B m){p:Bool×Vm}(hr:m.back=O p):gL B p.2:=by
 unfold Vm.back at hr;cases d:m.bz.getLast? with
 | none=>grind
 | some a=>
  rw[d] at hr;simp only at hr;rw[a47] at d;have hlt:=(a1S.1 d).1;have hk:=h.marks _ _ d;have e:=h.ag _ _ d;have g:=h.yn _ _ d;have hu:∀ n,n<=m.bz.length-1->gL B { m with sr:=m.sr.iS a.mark,bz:=m.bz.take n }:=fun n t=>by
   have ht:=h.take n;have k:(m.sr.iS a.mark).tr.length<=m.sr.tr.length/\a.mark<=(m.sr.iS a.mark).tr.length:=by
    grind [Sr.iS,List.length_drop]
   refine⟨ht.f,ht.fr,ht.ag,fun i b j=>?_,ht.mono,?_,ht.nL,ht.pc,ht.xy,ht.yn⟩
   .have l:(m.bz.take n)[i]?=O b:=j;rw[List.getElem?_take] at l;split at l
    .exact a1d (h.mono i _ b a zo l d) k.2
    grind
   .have r:m.sr.tr.length+m.sr.fuel<=B:=h.cW;show(m.sr.iS a.mark).tr.length+m.sr.fuel<=B;omega
  have o:gL B { m with sr:=m.sr.iS a.mark }:=by
   have k:(m.sr.iS a.mark).tr.length<=m.sr.tr.length/\a.mark<=(m.sr.iS a.mark).tr.length:=by
    grind [Sr.iS,List.length_drop]
   refine⟨h.f,h.fr,h.ag,fun i b j=>?_,h.mono,?_,h.nL,h.pc,h.xy,h.yn⟩
   .have u:i<m.bz.length:=(a1S.1 j).1;exact a1d (h.mono i _ b a zo j d) k.2
   .have r:m.sr.tr.length+m.sr.fuel<=B:=h.cW;show(m.sr.iS a.mark).tr.length+m.sr.fuel<=B;omega
  cases q:a.others with
  | nil=>
   rw[q] at hr;have hr:=(a1b hr).symm;subst hr;have s:m.bz.dropLast=m.bz.take (m.bz.length-1):=a3f ..;simp only;rw[s];have:=hu (m.bz.length-1) (a1c _);exact⟨e.f,this.fr,this.ag,this.marks,this.mono,this.cW,this.nL,g,this.xy,this.yn⟩
  | cons c0 l0=>
   rw[q] at hr;simp only at hr;cases he:({ m with sr:=m.sr.iS a.mark }:Vm).enter (c0::l0) a.args a.f a.pc (m.bz.length-1) with
   | none=>grind
   | some m'=>
    rw[he] at hr;have hr:=(a1b hr).symm;subst hr;refine o.enter (fun c w=>e.others c zg) e.args e.qT e.f g zg (a1c _) ?_ he;have:=h.nL;show m.bz.length-1+1+m.sr.fuel<=B;omega
end
section
variable{B:Nat}{m:Vm}
def Ep{α β:Type}{x:Except jQ α}{k:α->Out β}{r:β}(h:Jf x k=O (.ok r)):∃ a,x = .ok a/\k a=O (.ok r):=by
 cases x with
 | error e=>cases h
 | ok a=>exact⟨a,J,h⟩
theorem adL{x:Fm}(hx:m.fs[m.f]?=O x)(b:∀ y∈x.slots,AU y){t:Tm}(h:m.slot k = .term t):eu t:=by
 unfold Vm.slot at h;rw[hx] at h;simp only[a1y] at h;cases a:x.slots[k]? with
 | none=>grind
 | some y=>
  rw[a] at h;have h:y = .term t:=h;subst h;exact b _ (a2i a)
def XL{x:Fm}(hx:m.fs[m.f]?=O x)(a:∀ y∈x.slots,AU y){i:In}{t:Tm}(h:m.at i k = .ok t):eu t:=by
 grind [Vm.at,adL]
def TG{x:Fm}(hx:m.fs[m.f]?=O x)(b:∀ y∈x.slots,AU y):∀ {ks:List Nat} {l:List Tm},m.iX ks = .ok l->(∀ t∈l,eu t)/\l.length=ks.length
 | [],l,h=>by
  rw[Vm.iX] at h;injection h with h;subst h;exact⟨fun _ h=>(by cases h),J⟩
 | k::r,l,h=>by
  rw[Vm.iX] at h;cases c:m.slot k with
  | term t=>
   rw[c] at h;simp only at h;cases a:m.iX r with
   | error e=>grind
   | ok l'=>
    rw[a] at h;injection h with h;subst h;obtain⟨g1,g2⟩:=TG hx b a;refine⟨fun u hu=>?_,zg⟩;rcases a1g.1 hu with rfl | hu
    .grind [adL]
    grind
  | nil=>grind
  | level n=>grind
def XM:∀ {l:List Tm},(∀ t∈l,eu t)->jy l
 | [],_=>by simp_all [jy]
 | t::l,h=>by unfold jy;exact⟨h t (a1j ..),XM fun u hu=>h u (a1U _ hu)⟩
def ang:∀ {l:List Tm},jy l->∀ t∈l,eu t
 | [],_,_,h=>zg
 | u::l,h,t,ht=>by
  unfold jy at h;rcases a1g.1 ht with rfl | ht
  .grind
  .exact ang h.2 t ht
def anh{a b:Tm}{s:Sr}{p:Bool×Sr}(h:lS f a b s=O (.ok p)):s.tr <:+ p.2.tr/\p.2.fuel<=s.fuel/\p.2.cW<=s.cW:=
 ⟨(N2 f).tm h,((FB f).tm h).2,((FB f).tm h).1⟩
def ani{dO:List Pd}{i:In}{p:Bool×Vm}{x:Fm}(h:gL B m)(ht:ng m.sr.tr)(hx:m.fs[m.f]?=O x)(w:uN x.code.slots i)(K:∀ p∈dO,∀ c∈p.clauses,zG c)(hr:vK dO d i m=O (.ok p)) :
  gL (B+1) p.2/\p.2.sr.fuel<=m.sr.fuel:=by
 have C:=h.fr _ _ hx;have a:=h.up (a2n B);have L:m.sr.cW<=B:=h.cW;have N4:=h.nL;unfold vK at hr;have j:∀ {q:Vm},O (a3t (A,q))=O (a3t p:Except jQ (Bool×Vm))->p=(A,q):=fun h=>zg;have D:∀ {o:Out (Bool×Sr)},(∀ q,o=O (.ok q)->m.sr.tr <:+ q.2.tr/\q.2.fuel<=m.sr.fuel/\q.2.cW<=m.sr.cW)->Out.bind o (fun p=>O (.ok (p.1,{ m with sr:=p.2 })))=O (.ok p)->gL (B+1) p.2/\p.2.sr.fuel<=m.sr.fuel:=fun M N=>by
  obtain⟨q,r,g⟩| ⟨e,r,g⟩:=Out.bind_some N
  .injection g with g;injection g with g;subst g;obtain⟨g1,g2,g3⟩:=M q r;exact⟨h.Jk (a2n B) g1 g2 zo,g2⟩
  grind
 dsimp only at hr;by_cases hw:i.word=uK
 .rw[zip hw] at hr;have hr:=j hr;subst hr;have:=a.set (i.s.getD 0 0) (y:=.term (.var m.n)) (by simp_all [AU,eu]);exact⟨this.Jk (a1c _) (List.suffix_refl _) (a1c _) this.cW,a1c _⟩
 rw[bI hw] at hr;clear hw;by_cases hw:i.word=[112,117,116]
 .rw[zip hw] at hr;have hr:=j hr;subst hr;obtain⟨t,P,Q,-⟩:=w.con (.inl hw);refine⟨a.set _ ?_,a1c _⟩;rw[P];exact Q
 rw[bI hw] at hr;clear hw;by_cases hw:i.word=[99,111,110,115,116]
 .rw[zip hw] at hr;obtain⟨t,r,g⟩:=Ep hr;exact D (fun q z=>anh z) g
 rw[bI hw] at hr;clear hw;by_cases hw:i.word=[115,97,109,101]
 .rw[zip hw] at hr;obtain⟨t,r,g⟩:=Ep hr;obtain⟨u,F,E⟩:=Ep g;exact D (fun q z=>anh z) E
 rw[bI hw] at hr;clear hw;by_cases hw:i.word=[109,97,107,101]
 .rw[zip hw] at hr;obtain⟨l,r,g⟩:=Ep hr;have hr:=j g;subst hr;obtain⟨g1,g2⟩:=TG hx C.tm r;refine⟨a.set _ ?_,a1c _⟩;show eu (.comp i.name l);unfold eu;have:=w.qT;exact⟨w.TF,zg,XM g1⟩
 rw[bI hw] at hr;clear hw;by_cases hw:i.word=[115,112,108,105,116]
 .rw[zip hw] at hr;obtain⟨t,r,g⟩:=Ep hr;have R:=XL hx C.tm r;cases hw:fE m.sr.tr d t with
  | none=>grind
  | some S=>
   rw[hw] at g;have H:=tY ht R hw;cases S with
   | atom s=>grind
   | int s=>grind
   | comp name args=>
    simp only at g;split at g
    .have hr:=j g;subst hr;unfold eu at H;refine⟨a.ane _ fun p T=>?_,?_⟩
     .exact ang H.2.2 _ (List.of_mem_zip T).2
     .have:=adJ (fun _ (p:Nat×Tm)=>(p.1,Sl.term p.2)) (i.s.tail.zip args) m;grind
    grind
   | var v=>
    have hr:=j g;subst hr;have F:=h.Qd (fun m (p:Nat×Nat)=>(p.1,.term (.var (m.n+p.2)))) (fun _ _=>by show eu _;simp_all [eu]) i.s.tail.zipIdx;have E:=adJ (fun m (p:Nat×Nat)=>(p.1,Sl.term (.var (m.n+p.2)))) i.s.tail.zipIdx m;have I:(m.sr.bind v (.comp i.name ((a1W m.n i.s.tail.length).map .var))).fuel=m.sr.fuel:=rfl;refine⟨F.Jk (a2n B) ?_ ?_ ?_,?_⟩
    .rw[E];exact List.suffix_cons _ _
    .grind
    .unfold Sr.cW at L ⊢;show((v,_)::m.sr.tr).length+m.sr.fuel<=B+1;grind
    grind
 rw[bI hw] at hr;clear hw;by_cases hw:i.word=nM
 .rw[zip hw] at hr;obtain⟨l,r,g⟩:=Ep hr;obtain⟨g1,g2⟩:=TG hx C.tm r;exact D (fun q z=>amZ ht g1 (by rw[g2];exact w.test hw) z) g
 rw[bI hw] at hr;clear hw;by_cases hw:i.word=vJ
 .rw[zip hw] at hr;have hr:=j hr;subst hr;exact⟨a.set _ trivial,a1c _⟩
 rw[bI hw] at hr;clear hw;by_cases hw:i.word=rC
 .rw[zip hw] at hr;have hr:=j hr;subst hr;exact⟨a.set _ trivial,a1c _⟩
 rw[bI hw] at hr;clear hw;by_cases hw:i.word=lx
 .rw[zip hw] at hr;split at hr
  .have hr:=j hr;subst hr;exact⟨a.take _,a1c _⟩
  grind
 rw[bI hw] at hr;clear hw;by_cases hw:i.word=kH
 .rw[zip hw] at hr;have hr:=j hr;subst hr;have U:=w.one zg;refine⟨h.again ⟨h.f,fun _ h=>zg,fun _ h=>zg,zs⟩ J ?_ (a2n B) zo,a1c _⟩;have:i.s.getD 0 0<100000:=by
   rw[a1y,a1e zo];exact w.small _ (List.getElem_mem _)
  grind
 rw[bI hw] at hr;clear hw;by_cases hw:i.word=j5
 .rw[zip hw] at hr;have hr:=j hr;subst hr;have U:=w.one zg;have:i.s.getD 0 0<100000:=by
   rw[a1y,a1e zo];exact w.small _ (List.getElem_mem _)
  exact⟨⟨a.f,a.fr,a.ag,a.marks,a.mono,a.cW,a.nL,zg,a.xy,a.yn⟩,a1c _⟩
 rw[bI hw] at hr;clear hw;by_cases hw:i.word=AS
 .rw[zip hw] at hr;split at hr
  .grind
  .rename_i q z;split at hr
   .grind
   .split at hr
    .grind
    .rename_i m' he;have hr:=j hr;subst hr;have W:=List.mem_of_find?_eq_some z;have X:∀ y∈i.s.map m.slot,AU y:=fun y hy=>by
      obtain⟨k,-,rfl⟩:=a2E.1 hy;cases hs:m.slot k with
      | term t=>exact adL hx C.tm hs
      | nil=>trivial
      | level n=>trivial
     refine⟨h.enter (K q W) X (by rw[List.length_map];exact w.qT) h.f h.pc (a1c _) (a2n B) zo he,?_⟩;rename_i ed;cases gZ:q.clauses with
     | nil=>grind
     | cons c0 l0=>rw[gZ] at he;have:=(a1b he).symm;grind
 rw[bI hw] at hr;clear hw;by_cases hw:i.word=[114,101,116]
 .rw[zip hw] at hr;rw[hx] at hr;simp only at hr;split at hr
  .grind
  .rename_i b I;have hr:=j hr;subst hr;exact⟨⟨C.back b I,a.fr,a.ag,a.marks,a.mono,a.cW,a.nL,a.xy _ _ hx,a.xy,a.yn⟩,a1c _⟩
 grind
end
section
variable{N:Nat}
mutual
def VL (n:Nat):Tm->Prop
 | .var i=>i<n
 | .comp _ l=>yo n l
 | .atom _=>True
 | .int _=>True
 termination_by structural t=>t
def yo (n:Nat):List Tm->Prop
 | []=>True
 | t::ts=>VL n t/\yo n ts
 termination_by structural t=>t
end
def od(n:Nat):Tr->Prop
 | []=>True
 | (i,t)::r=>i<n/\VL n t/\od n r
mutual
theorem VL.up {n m:Nat} (h:n<=m):∀ {t:Tm},VL n t->VL m t
 | .var i,ht=>by grind [VL]
 | .comp s l,ht=>by unfold VL at ht ⊢;exact yo.up h ht
 | .atom s,_=>by simp_all [VL]
 | .int s,_=>by simp_all [VL]
theorem yo.up {n m:Nat} (h:n<=m):∀ {l:List Tm},yo n l->yo m l
 | [],_=>by simp_all [yo]
 | t::l,ht=>by unfold yo at ht ⊢;exact⟨VL.up h ht.1,yo.up h ht.2⟩
end
theorem od.up{n m:Nat}(h:n<=m):∀ {t:Tr},od n t->od m t
 | [],_=>trivial
 | (i,t)::r,ht=>⟨by have:=ht.1;omega,ht.2.1.up h,od.up h ht.2.2⟩
def od.drop{n:Nat}:∀ (k:Nat) {t:Tr},od n t->od n (t.drop k)
 | 0,_,h=>h
 | _+1,[],h=>h
 | k+1,(_,_)::_,h=>od.drop k h.2.2
def anj:∀ {tr:Tr} {i:Nat} {t:Tm},od N tr->look i tr=O t->VL N t
 | [],_,_,_,h=>by cases h
 | (j,u)::r,i,t,h,a=>by
  unfold look at a;split at a
  .injection a with a;subst a;exact h.2.1
  .exact anj h.2.2 a
def XN{tr:Tr}(h:od N tr):∀ {f:Nat} {t a:Tm},VL N t->fE tr f t=O a->VL N a
 | f,.atom s,a,ht,hw=>by simp_all [fE]
 | f,.int s,a,ht,hw=>by simp_all [fE]
 | f,.comp s l,a,ht,hw=>by simp_all [fE]
 | 0,.var i,a,ht,hw=>by
  grind [fE]
 | f+1,.var i,a,ht,hw=>by
  rw[fE] at hw;split at hw
  .grind
  .rename_i t b;exact XN h (anj h b) hw
theorem aIf{t:Tm}{s:Sr}{p:Bool×Sr}(hk:od N s.tr)(c:VL N (.var i))(ht:VL N t)(h:ud f i t s=O (.ok p)):od N p.2.tr:=by
 unfold ud at h;obtain⟨q,d,a⟩| ⟨e,d,a⟩:=Out.bind_some h
 .obtain⟨b,s1⟩:=q;have g:s1.tr=s.tr:=((Jd f).tm d).1;cases b with
  | true=>
   grind
  | false=>
   simp only[Bool.false_eq_true,if_false,a07,Except.ok.injEq] at a;subst a;show od N ((i,t)::s1.tr);rw[g];unfold VL at c;exact⟨c,ht,hk⟩
 grind
def Qg:∀ f,(∀ a b s p,od N s.tr->VL N a->VL N b->lS f a b s=O (.ok p)->od N p.2.tr)/\(∀ l r s p,od N s.tr->yo N l->yo N r->nJ f l r s=O (.ok p)->od N p.2.tr)
 | 0=>⟨fun _ _ _ _ _ _ _ h=>(by cases h),fun _ _ _ _ _ _ _ h=>(by cases h)⟩
 | f+1=>by
  obtain⟨i,j⟩:=Qg f;constructor
  .intro a b s p ht c d h;rw[lS] at h;split at h
   .grind
   .cases hw:fE s.tr f a with
    | none=>grind
    | some u=>
     cases hv:fE s.tr f b with
     | none=>grind
     | some v=>
      rw[hw,hv] at h;have k:od N s.dec.tr:=ht;have hu:=XN ht c hw;have m:=XN ht d hv;grind [aIf,VL]
  .intro l r s p ht g hr h;cases l with
   | nil=>grind [nJ]
   | cons a l=>
    cases r with
    | nil=>grind [nJ]
    | cons b r=>
     unfold yo at g hr;rw[nJ] at h;obtain⟨q,g1,g2⟩| ⟨e,g1,g2⟩:=Out.bind_some h<;>grind
def ank:∀ {l:List Tm},yo N l->∀ t∈l,VL N t
 | [],_,_,h=>zg
 | u::l,h,t,ht=>by
  unfold yo at h;rcases a1g.1 ht with rfl | ht
  .grind
  .exact ank h.2 t ht
theorem adM:∀ {l:List Tm},(∀ t∈l,VL N t)->yo N l
 | [],_=>by simp_all [yo]
 | t::l,h=>by unfold yo;exact⟨h t (a1j ..),adM fun u hu=>h u (a1U _ hu)⟩
theorem anl:∀ {tr:Tr} {i:Nat},od N tr->N<=i->look i tr=V
 | [],_,_,_=>rfl
 | (j,u)::r,i,h,a=>by
  unfold look;rw[bI (by have:=h.1;omega)];exact anl h.2.2 a
def aIg{tr:Tr}(h:od N tr){v:Nat}(hv:v<N){s:Bs}:¬ FC tr v (.comp s ((a1W N k).map .var)):=by
 intro b;cases b with
 | arg c d=>
  obtain⟨j,a,rfl⟩:=a2E.1 c;rw[List.mem_range'] at a;obtain⟨q,e,f⟩:=a;cases d with
  | here _=>omega
  | via g _=>grind [anl]
end
section
variable{B told:Nat}{m:Vm}
def AV(n:Nat):Sl->Prop
 | .term t=>VL n t
 | _=>True
theorem AV.up{n k:Nat}(h:n<=k){y:Sl}(a:AV n y):AV k y:=by
 cases y with
 | term t=>exact VL.up h a
 | nil=>trivial
 | level _=>trivial
structure jS(told:Nat)(m:Vm):Prop where
 tr:od m.n m.sr.tr
 fr:∀ (i:Nat) (x:Fm),m.fs[i]?=O x->∀ y∈x.slots,AV m.n y
 ag:∀ (i:Nat) (a:Ga),m.bz[i]?=O a->∀ y∈a.args,AV m.n y
 sr:lM m.sr
 ask:∀ (i:Nat) (x:Fm),m.fs[i]?=O x->x.ask=A->told<=x.slots.length
def jS.Jk(h:jS told m){s:Sr}(c:m.n<=n)(d:od n s.tr)(e:lM s):jS told { m with sr:=s,n:=n }:=
 ⟨d,fun i x hx y b=>(h.fr i x hx y b).up c,fun i a f y b=>(h.ag i a f y b).up c,e,h.ask⟩
def jS.slots(h:jS told m){x:Fm}(hx:m.fs[m.f]?=O x){sl:List Sl}(c:sl.length=x.slots.length)(ht:∀ y∈sl,AV m.n y):jS told { m with fs:=m.fs.set m.f { x with slots:=sl } }:=by
 have b:∀ (i:Nat) (z:Fm),(m.fs.set m.f { x with slots:=sl })[i]?=O z->(i=m.f/\z={ x with slots:=sl })\/m.fs[i]?=O z:=fun i z a=>by
  grind
 refine⟨h.tr,fun i z a y d=>?_,h.ag,h.sr,fun i z a hk=>?_⟩
 .rcases b i z a with⟨-,rfl⟩| a
  .grind
  grind [fr]
 .rcases b i z a with⟨-,rfl⟩| a
  .show told<=sl.length;rw[c];exact h.ask _ _ hx hk
  .exact h.ask i z a hk
def jS.set(h:jS told m)(b:m.f<m.fs.length)(k:Nat){y:Sl}(c:AV m.n y):jS told (m.set k y):=by
 obtain⟨x,hx⟩:∃ x,m.fs[m.f]?=O x:=⟨_,a1e b⟩;rw[anc hx];refine h.slots hx (a3D ..) fun z a=>?_;rcases a2p a with a | rfl
 .grind [fr]
 omega
def aIh(k:Nat)(y:Sl):(m.set k y).fs.length=m.fs.length:=List.length_modify ..
def jS.Qd{α:Type}(g:α->Nat×Sl):∀ (L:List α) {m:Vm},jS told m->m.f<m.fs.length->(∀ a∈L,AV m.n (g a).2)->jS told (L.foldl (fun m p=>m.set (g p).1 (g p).2) m)
 | [],_,h,_,_=>h
 | a::L,m,h,c,d=>by
  rw[a2d];exact jS.Qd g L (h.set c _ (d a (a1j ..))) (by rw[aIh];exact c) fun b e=>d b (a1U _ e)
theorem jS.take(h:jS told m)(k:Nat):jS told { m with bz:=m.bz.take k }:=by
 refine⟨h.tr,h.fr,fun i a b=>?_,h.sr,h.ask⟩;grind [ag]
def jS.again(h:jS told m){a:Ga}(e:∀ y∈a.args,AV m.n y):jS told { m with bz:=m.bz++[a] }:=by
 refine⟨h.tr,h.fr,fun i b c=>?_,h.sr,h.ask⟩;have c:(m.bz++[a])[i]?=O b:=c;rcases a1o.1 (a2i c) with d | d
 .obtain⟨j,f,rfl⟩:=List.getElem_of_mem d;grind [a1e,ag]
 grind
def jS.frame(h:jS told m){c:Co}{sl:List Sl}(ht:∀ y∈sl,AV m.n y):jS told { m with fs:=m.fs++[⟨c,sl,n,O f,pc,G⟩],f:=m.fs.length,pc:=0 }:=by
 have b:∀ {i:Nat} {z:Fm},(m.fs++[(⟨c,sl,n,O f,pc,G⟩:Fm)])[i]?=O z->m.fs[i]?=O z\/z=⟨c,sl,n,O f,pc,G⟩:=fun{i z} a=>by
  grind
 refine⟨h.tr,fun i z a y d=>?_,h.ag,h.sr,fun i z a hk=>?_⟩
 .rcases b a with a | rfl
  .grind [fr]
  grind
 .rcases b a with a | rfl
  .exact h.ask i z a hk
  grind
theorem jS.enter(h:jS told m){l:List Co}{args:List Sl}{f pc n:Nat}{m':Vm}(d:∀ y∈args,AV m.n y)(hr:m.enter l args f pc n=O m'):jS told m':=by
 cases l with
 | nil=>cases hr
 | cons c rest=>
  have hr:m'={ m with bz:=m.bz.take n++Qe m rest args f pc,fs:=m.fs++[⟨c,args++List.replicate (max c.slots args.length-args.length) .nil,n,O f,pc,G⟩],f:=m.fs.length,pc:=0 }:=(a1b hr).symm;have e:jS told { m with bz:=m.bz.take n++Qe m rest args f pc }:=by
   cases rest with
   | nil=>
    grind [Qe,take]
   | cons c2 g=>exact(h.take n).again (a:=⟨m.sr.tr.length,f,pc,c2::g,args⟩) d
  subst hr;refine e.frame fun y b=>?_;rcases a1o.1 b with b | b
  .grind
  .rw[a5m b];trivial
def jS.back(h:jS told m){p:Bool×Vm}(hr:m.back=O p):jS told p.2:=by
 unfold Vm.back at hr;cases b:m.bz.getLast? with
 | none=>grind
 | some a=>
  rw[b] at hr;simp only at hr;rw[a47] at b;have hu:jS told { m with sr:=m.sr.iS a.mark }:=h.Jk (a1c _) (od.drop _ h.tr) (h.sr.iS _);cases c:a.others with
  | nil=>
   rw[c] at hr;have hr:=(a1b hr).symm;subst hr;have:=hu.take (m.bz.length-1);rw[show m.bz.dropLast=m.bz.take (m.bz.length-1) from a3f ..];exact⟨this.tr,this.fr,this.ag,this.sr,this.ask⟩
  | cons c0 l0=>
   grind [sr,enter,a1b,ag]
end
section
variable{B told:Nat}{m:Vm}
def adN{x:Fm}(hx:m.fs[m.f]?=O x)(a:∀ y∈x.slots,AV m.n y)(k:Nat):AV m.n (m.slot k):=by
 unfold Vm.slot;rw[hx];simp only[a1y];cases b:x.slots[k]? with
 | none=>trivial
 | some y=>grind
def XO{x:Fm}(hx:m.fs[m.f]?=O x)(b:∀ y∈x.slots,AV m.n y){i:In}{t:Tm}(h:m.at i k = .ok t):VL m.n t:=by
 unfold Vm.at at h;have a:=adN hx b (i.s.getD k 0);cases c:m.slot (i.s.getD k 0) with
 | term u=>rw[c] at h a;injection h with h;subst h;exact a
 | nil=>grind
 | level n=>grind
theorem adO{x:Fm}(hx:m.fs[m.f]?=O x)(a:∀ y∈x.slots,AV m.n y):∀ {ks:List Nat} {l:List Tm},m.iX ks = .ok l->∀ t∈l,VL m.n t
 | [],l,h=>by
  simp_all [Vm.iX]
 | k::r,l,h=>by
  rw[Vm.iX] at h;have b:=adN hx a k;cases d:m.slot k with
  | term t=>
   rw[d] at h b;simp only at h;cases c:m.iX r with
   | error e=>grind
   | ok l'=>
    rw[c] at h;injection h with h;subst h;have g1:=adO hx a c;intro u hu;rcases a1g.1 hu with rfl | hu
    .exact b
    grind
  | nil=>grind
  | level n=>grind
def aIi{name:Bs}{args:List Tm}{s:Sr}{p:Bool×Sr}(ht:od N s.tr)(g:lM s)(n:∀ t∈args,VL N t)(o:∀ t∈args,eu t)(l:jW name=args.length)(h:yk f name args s=O (.ok p)):od N p.2.tr:=by
 have hv:∀ j,j<args.length->VL N (args.getD j default):=fun j m=>by
  grind
 have i:∀ j,j<args.length->eu (args.getD j default):=fun j m=>by
  grind
 have two:∀ x∈([[61],[92,61],[61,61],[105,115],[60],[62],[61,60],[62,61],[61,58,61]]:List Bs),name=x->1<args.length:=fun x hx e=>by
  subst e;have:jW name=2:=by
   simp only[a1g,List.not_mem_nil,or_false] at hx;rcases hx with rfl | rfl | rfl | rfl | rfl | rfl | rfl | rfl | rfl<;>rfl
  omega
 have tr:∀ {q:Sr},q.tr=s.tr->od N q.tr:=fun e=>zg;unfold yk at h;split at h
 .grind
 split at h
 .rename_i d;have:=two [61] zs d;exact(Qg f).1 _ _ _ _ ht (hv 0 zo) (hv 1 this) h
 split at h
 .rename_i d;have:=two [92,61] zs d;obtain⟨q,b,a⟩| ⟨e,b,a⟩:=Out.bind_some h
  .injection a with a;injection a with a;subst a;exact od.drop _ ((Qg f).1 _ _ _ _ ht (hv 0 zo) (hv 1 this) b)
  grind
 split at h
 .exact tr ((TD f).tm h).1
 split at h
 .rename_i d;have:=two [105,115] zs d;obtain⟨q,b,a⟩| ⟨e,b,a⟩:=Out.bind_some h
  .obtain⟨g1,g2,g3⟩:=Eh f g.ok (i 1 this) b;exact(Qg f).1 _ _ _ _ (tr g1) (hv 0 zo) (by simp_all [VL]) a
  grind
 split at h
 .grind
 split at h
 .grind
 .obtain⟨q,b,a⟩| ⟨e,b,a⟩:=Out.bind_some h
  .obtain⟨q2,k,c⟩| ⟨e,k,c⟩:=Out.bind_some a
   .injection c with c;injection c with c;subst c;have a:(2:Int)=args.length:=by
     unfold jW at l;grind
    obtain⟨g1,g2,-⟩:=Eh f g.ok (i 0 zo) b;obtain⟨g3,g4,-⟩:=Eh f (by rw[g1];exact g.ok) (i 1 zo) k;grind
   grind
  grind
end
section
variable{B told:Nat}{m:Vm}
def aIj{dO:List Pd}{i:In}{p:Bool×Vm}{x:Fm}(h:jS told m)(P:gL B m)(hx:m.fs[m.f]?=O x)(z:uN x.code.slots i)(hr:vK dO d i m=O (.ok p)):jS told p.2:=by
 have F:=P.fr _ _ hx;have C:=h.fr _ _ hx;have w:=P.f;unfold vK at hr;have g:∀ {q:Vm},O (a3t (A,q))=O (a3t p:Except jQ (Bool×Vm))->p=(A,q):=fun h=>zg;have I:∀ {o:Out (Bool×Sr)},(∀ q,o=O (.ok q)->od m.n q.2.tr/\lM q.2)->Out.bind o (fun p=>O (.ok (p.1,{ m with sr:=p.2 })))=O (.ok p)->jS told p.2:=fun T U=>by
  obtain⟨q,c,b⟩| ⟨e,c,b⟩:=Out.bind_some U
  .injection b with b;injection b with b;subst b;obtain⟨g1,g2⟩:=T q c;exact h.Jk (a1c _) g1 g2
  grind
 dsimp only at hr;by_cases hw:i.word=uK
 .rw[zip hw] at hr;have hr:=g hr;subst hr;have c:jS told { m with n:=m.n+1 }:=h.Jk (a2n _) (h.tr.up (a2n _)) h.sr;exact c.set w (i.s.getD 0 0) (y:=.term (.var m.n)) (by show VL _ _;simp_all [VL,Nat.lt_succ_self])
 rw[bI hw] at hr;clear hw;by_cases hw:i.word=[112,117,116]
 .rw[zip hw] at hr;have hr:=g hr;subst hr;obtain⟨t,K,Q,D⟩:=z.con (.inl hw);refine h.set w _ ?_;rw[K];show VL m.n t;cases t with
  | atom s=>simp_all [VL]
  | int s=>simp_all [VL]
  | var i=>cases D
  | comp s l=>cases D
 rw[bI hw] at hr;clear hw;by_cases hw:i.word=[99,111,110,115,116]
 .rw[zip hw] at hr;obtain⟨t,c,b⟩:=Ep hr;obtain⟨t0,K,Q,D⟩:=z.con (.inr hw);have W:VL m.n t0:=by
   cases t0 with
   | atom s=>simp_all [VL]
   | int s=>simp_all [VL]
   | var i=>cases D
   | comp s l=>cases D
  rw[K] at b;exact I (fun q r=>⟨(Qg d).1 _ _ _ _ h.tr (XO hx C c) W r,h.sr.Hg (XL hx F.tm c) Q r⟩) b
 rw[bI hw] at hr;clear hw;by_cases hw:i.word=[115,97,109,101]
 .rw[zip hw] at hr;obtain⟨t,c,b⟩:=Ep hr;obtain⟨u,E,X⟩:=Ep b;exact I (fun q r=>⟨(Qg d).1 _ _ _ _ h.tr (XO hx C c) (XO hx C E) r,h.sr.Hg (XL hx F.tm c) (XL hx F.tm E) r⟩) X
 rw[bI hw] at hr;clear hw;by_cases hw:i.word=[109,97,107,101]
 .rw[zip hw] at hr;obtain⟨l,c,b⟩:=Ep hr;have hr:=g b;subst hr;refine h.set w _ ?_;show VL m.n (.comp i.name l);grind [VL,adM,adO]
 rw[bI hw] at hr;clear hw;by_cases hw:i.word=[115,112,108,105,116]
 .rw[zip hw] at hr;obtain⟨t,c,b⟩:=Ep hr;have TH:=XO hx C c;cases hw:fE m.sr.tr d t with
  | none=>grind
  | some t'=>
   rw[hw] at b;have H:=XN h.tr TH hw;cases t' with
   | atom s=>grind
   | int s=>grind
   | comp name args=>
    simp only at b;split at b
    .have hr:=g b;subst hr;unfold VL at H;exact jS.Qd (fun(p:Nat×Tm)=>(p.1,Sl.term p.2)) _ h w fun p R=>ank H _ (List.of_mem_zip R).2
    grind
   | var v=>
    have hr:=g b;subst hr;unfold VL at H;have xB:look v m.sr.tr=none:=Je hw;have c:jS told { m with n:=m.n+i.s.tail.length }:=h.Jk (a2u _ _) (h.tr.up (a2u _ _)) h.sr;have E:=jS.Qd (fun(p:Nat×Nat)=>(p.1,Sl.term (.var (m.n+p.2)))) i.s.tail.zipIdx c w (fun p R=>by
     show VL _ _;grind [VL,List.mem_zipIdx])
    have e1:∀ (L:List (Nat×Nat)) (m1:Vm) (k:Nat),m1.n=m.n->L.foldl (fun m' (p:Nat×Nat)=>m'.set p.1 (.term (.var (m.n+p.2)))) { m1 with n:=k }={ (L.foldl (fun m' (p:Nat×Nat)=>m'.set p.1 (.term (.var (m'.n+p.2)))) m1) with n:=k }:=by
     intro L;induction L with
     | nil=>grind
     | cons a L ih=>
      intro m1 k hk;rw[a2d,a2d,<- ih (m1.set a.1 (.term (.var (m1.n+a.2)))) k hk,hk];rfl
    rw[e1 _ m _ rfl] at E;have M:VL (m.n+i.s.tail.length) (.comp i.name ((a1W m.n i.s.tail.length).map .var)):=by
     unfold VL;refine adM fun t ht=>?_;obtain⟨j,hj,rfl⟩:=a2E.1 ht;grind [List.mem_range',VL]
    have N:eu (.comp i.name ((a1W m.n i.s.tail.length).map .var)):=by
     unfold eu;have:=z.qT;refine⟨z.TF,zg,XM fun t ht=>?_⟩;obtain⟨j,hj,rfl⟩:=a2E.1 ht;exact am4
    exact E.Jk (a1c _) (show od (m.n+i.s.tail.length) ((v,_)::m.sr.tr) from⟨zo,M,h.tr.up (a2u _ _)⟩)
     ⟨show zw ((v,_)::m.sr.tr) from⟨h.sr.FH,xB,aIg h.tr H⟩,show ng ((v,_)::m.sr.tr) from⟨N,h.sr.ok⟩⟩
 rw[bI hw] at hr;clear hw;by_cases hw:i.word=nM
 .rw[zip hw] at hr;obtain⟨l,c,b⟩:=Ep hr;obtain⟨g1,g2⟩:=TG hx F.tm c;have S:jW i.name=l.length:=by rw[g2];exact z.test hw
  exact I (fun q r=>⟨aIi h.tr h.sr (adO hx C c) g1 S r,h.sr.test g1 S r⟩) b
 rw[bI hw] at hr;clear hw;by_cases hw:i.word=vJ
 .rw[zip hw] at hr;have hr:=g hr;subst hr;exact h.set w _ trivial
 rw[bI hw] at hr;clear hw;by_cases hw:i.word=rC
 .rw[zip hw] at hr;have hr:=g hr;subst hr;exact h.set w _ trivial
 rw[bI hw] at hr;clear hw;by_cases hw:i.word=lx
 .rw[zip hw] at hr;split at hr
  .have hr:=g hr;subst hr;exact h.take _
  grind
 rw[bI hw] at hr;clear hw;by_cases hw:i.word=kH
 .rw[zip hw] at hr;have hr:=g hr;subst hr;exact h.again fun _ h=>zg
 rw[bI hw] at hr;clear hw;by_cases hw:i.word=j5
 .rw[zip hw] at hr;have hr:=g hr;subst hr;exact⟨h.tr,h.fr,h.ag,h.sr,h.ask⟩
 rw[bI hw] at hr;clear hw;by_cases hw:i.word=AS
 .rw[zip hw] at hr;split at hr
  .grind
  .split at hr
   .grind
   .split at hr
    .grind
    .rename_i m' he;have hr:=g hr;subst hr;refine h.enter (fun y hy=>?_) he;obtain⟨k,-,rfl⟩:=a2E.1 hy;simp_all [adN]
 rw[bI hw] at hr;clear hw;by_cases hw:i.word=[114,101,116]
 .rw[zip hw,hx] at hr;simp only at hr;split at hr
  .grind
  .have hr:=g hr;subst hr;exact⟨h.tr,h.fr,h.ag,h.sr,h.ask⟩
 grind
end
section
variable{B told:Nat}{m:Vm}
def aIm{l:List Co}{args:List Sl}{m':Vm}(h:m.enter l args f pc n=O m'):m'.sr=m.sr:=by
 cases l with
 | nil=>cases h
 | cons c l=>have:=(a1b h).symm;grind
def anm{p:Bool×Vm}(h:m.back=O p):p.2.sr.fuel=m.sr.fuel:=by
 unfold Vm.back at h;split at h
 .grind
 .split at h
  .have:=(a1b h).symm;subst this;rfl
  .split at h
   .grind
   .rename_i m' he;have:=(a1b h).symm;subst this;show m'.sr.fuel=_;rw[aIm he];rfl
theorem gL.dec(a:gL B m)(c:m.sr.fuel≠0)(b:m.pc+1<=200000):gL (B-1) { m with sr:=m.sr.dec,pc:=m.pc+1 }/\B-1+1=B:=by
 have d:m.sr.tr.length+m.sr.fuel<=B:=a.cW;have e:=a.nL;exact⟨⟨a.f,a.fr,a.ag,a.marks,a.mono,by show m.sr.tr.length+(m.sr.fuel-1)<=B-1;omega,by show m.bz.length+(m.sr.fuel-1)<=B-1;omega,b,a.xy,a.yn⟩,zo⟩
theorem jS.dec(h:jS told m):jS told { m with sr:=m.sr.dec,pc:=m.pc+1 }:=⟨h.tr,h.fr,h.ag,⟨h.sr.FH,h.sr.ok⟩,h.ask⟩
theorem XP{dO:List Pd}(k:∀ p∈dO,∀ c∈p.clauses,zG c){d:Nat}:∀ (f:Nat) (m:Vm) (p:Bool×Vm),gL B m->jS told m->zE dO d f m=O (.ok p)->gL B p.2/\jS told p.2/\p.2.sr.fuel<=m.sr.fuel/\(p.1=A->∃ x,p.2.fs[p.2.f]?=O x/\x.ask=A)
 | 0,_,_,_,_,h=>by grind [zE]
 | f+1,m,p,l,y,h=>by
  rw[zE] at h;by_cases t:m.sr.fuel=0
  .grind
  rw[bI t] at h;obtain⟨x,hx⟩:=l.cur;have u:=l.fr _ _ hx;rw[hx] at h;simp only at h;cases n:x.code.ins[m.pc]? with
  | none=>grind
  | some i=>
   rw[n] at h;simp only at h;have K:=(a1S.1 n).1;have hlen:=u.code.len;have a:uN x.code.slots i:=u.code.ins _ (a2i n);obtain⟨o,z⟩:=l.dec t zo;have r:=y.dec;have C:m.sr.dec.fuel<=m.sr.fuel:=Nat.sub_le _ _;by_cases w:i.word=[100,111,110,101]
   .rw[zip w] at h;split at h
    .rename_i D;injection h with h;injection h with h;subst h;exact⟨o.up zo,r,C,fun _=>⟨x,hx,D⟩⟩
    .cases h
   .rw[bI w] at h;obtain⟨q,s,g⟩| ⟨e,s,g⟩:=Out.bind_some h
    .obtain⟨b,m1⟩:=q;obtain⟨g1,g2⟩:=ani o r.sr.ok hx a k s;have g3:=aIj r o hx a s;rw[z] at g1;have L:m1.sr.fuel<=m.sr.dec.fuel:=g2;cases b with
     | true=>
      obtain⟨E,F,H,I⟩:=XP k f m1 p g1 g3 g;grind
     | false=>
      simp only[Bool.false_eq_true,if_false] at g;cases j:m1.back with
      | none=>grind
      | some q=>
       rw[j] at g;have g4:=g1.back j;have g5:=g3.back j;have g6:=anm j;obtain⟨b2,m2⟩:=q;have g6:m2.sr.fuel=m1.sr.fuel:=g6;cases b2 with
       | false=>
        grind
       | true=>
        obtain⟨E,F,H,I⟩:=XP k f m2 p g4 g5 g;grind
    grind
def aIn{dO:List Pd}(e:∀ p∈dO,∀ c∈p.clauses,zG c){p:Bool×Vm}(g:gL B m)(i:jS told m)(h:N6 dO d f m=O (.ok p)):gL B p.2/\jS told p.2/\p.2.sr.fuel<=m.sr.fuel/\(p.1=A->∃ x,p.2.fs[p.2.f]?=O x/\x.ask=A):=by
 unfold N6 at h;by_cases j:0<m.pc
 .rw[zip j] at h;cases a:m.back with
  | none=>grind
  | some q=>
   rw[a] at h;have g4:=g.back a;have g5:=i.back a;have g6:=anm a;obtain⟨b,m1⟩:=q;have g6:m1.sr.fuel=m.sr.fuel:=g6;cases b with
   | false=>
    injection h with h;injection h with h;subst h;exact⟨g4,g5,Nat.le_of_eq g6,fun h=>by cases h⟩
   | true=>
    obtain⟨k,l,o,n⟩:=XP e f m1 p g4 g5 h;exact⟨k,l,zo,n⟩
 grind [XP]
end
structure KvT(Q:List Bs->Prop)(T:List Tok)(f:Nat):Prop where
 Bx:∀ k v d x k' v',Q v->lC T f k v d=O (.ok x k' v')->Q v'
 args:∀ k v d a acc x k' v',Q v->mR T f k v d a acc=O (.ok x k' v')->Q v'
 list:∀ k v d x k' v',Q v->oq T f k v d=O (.ok x k' v')->Q v'
 elems:∀ k v d acc x k' v',Q v->oT T f k v d acc=O (.ok x k' v')->Q v'
 oper:∀ l k v d x k' v',Q v->gW T f l k v d=O (.ok x k' v')->Q v'
 more:∀ l y k v d x k' v',Q v->mS T f l y k v d=O (.ok x k' v')->Q v'
def TI{Q:List Bs->Prop}{T:List Tok}(i:∀ j k v x k' v',(tk T j).kind=2->Q v->wN (tk T j) k v = .ok x k' v'->Q v'):∀ f,KvT Q T f
 | 0=>⟨by simp_all [lC],by simp_all [mR],by simp_all [oq],by simp_all [oT],by simp_all [gW],by simp_all [mS]⟩
 | f+1=>by
  have ih:=TI i f;refine⟨?_,?_,?_,?_,?_,?_⟩
  .intro k v d x k' v' hv h;rw[lC] at h;split at h
   .grind
   split at h
   .grind
   split at h
   .grind
   split at h
   .split at h
    .obtain⟨a,e,v1,c,b⟩:=ee h;obtain⟨rfl,rfl,rfl⟩:=mV b;exact ih.args _ _ _ _ _ _ _ _ hv c
    grind
   split at h
   .grind
   split at h
   .obtain⟨a,e,v1,c,b⟩:=ee h;obtain⟨rfl,rfl,rfl⟩:=mV b;exact ih.oper _ _ _ _ _ _ _ hv c
   split at h
   .exact ih.list _ _ _ _ _ _ hv h
   grind
  .intro k v d a acc x k' v' hv h;rw[mR] at h;obtain⟨y,e,v1,c,b⟩:=ee h;have g:=ih.oper _ _ _ _ _ _ _ hv c;split at b
   .exact ih.args _ _ _ _ _ _ _ _ g b
   grind
  .intro k v d x k' v' hv h;rw[oq] at h;split at h
   .grind
   .obtain⟨all,e,v1,c,b⟩:=ee h;have g:=ih.elems _ _ _ _ _ _ _ hv c;split at b
    .obtain⟨y,o,v2,m,n⟩:=ee b;obtain⟨rfl,rfl,rfl⟩:=mV n;exact ih.oper _ _ _ _ _ _ _ g m
    .obtain⟨rfl,rfl,rfl⟩:=mV b;omega
  .intro k v d acc x k' v' hv h;rw[oT] at h;obtain⟨y,e,v1,c,b⟩:=ee h;have g:=ih.oper _ _ _ _ _ _ _ hv c;split at b
   .exact ih.elems _ _ _ _ _ _ _ g b
   grind
  .intro l k v d x k' v' hv h;rw[gW] at h;split at h
   .exact ih.Bx _ _ _ _ _ _ hv h
   .obtain⟨y,e,v1,c,b⟩:=ee h;exact ih.more _ _ _ _ _ _ _ _ (ih.oper _ _ _ _ _ _ _ hv c) b
  .intro l y k v d x k' v' hv h;rw[mS] at h;split at h
   .grind
   .obtain⟨z,e,v1,c,b⟩:=ee h;exact ih.more _ _ _ _ _ _ _ _ (ih.oper _ _ _ _ _ _ _ hv c) b
structure KvB(Q:List Bs->Prop)(T:List Tok)(f:Nat):Prop where
 lit:∀ k v d x k' v',Q v->nQ T f k v d=O (.ok x k' v')->Q v'
 lits:∀ k v d acc x k' v',Q v->qF T f k v d acc=O (.ok x k' v')->Q v'
 row:∀ k v d x k' v',Q v->ot T f k v d=O (.ok x k' v')->Q v'
 rest:∀ k v d x k' v',Q v->qG T f k v d=O (.ok x k' v')->Q v'
 body:∀ k v d x k' v',Q v->mT T f k v d=O (.ok x k' v')->Q v'
def kvB{Q:List Bs->Prop}{T:List Tok}(p:∀ j k v x k' v',(tk T j).kind=2->Q v->wN (tk T j) k v = .ok x k' v'->Q v'):∀ f,KvB Q T f
 | 0=>⟨by simp_all [nQ],by simp_all [qF],by simp_all [ot],by simp_all [qG],by simp_all [mT]⟩
 | f+1=>by
  have ih:=kvB p f;refine⟨?_,?_,?_,?_,?_⟩
  .intro k v d x k' v' hv h;rw[nQ] at h;split at h
   .grind
   split at h
   .grind
   split at h
   .obtain⟨b,n,v1,g,e⟩:=ee h;simp only[a07,cd.ok.injEq] at e;obtain⟨-,-,rfl⟩:=e;exact ih.lit _ _ _ _ _ _ hv g
   split at h
   .obtain⟨b,n,v1,g,e⟩:=ee h;obtain⟨rfl,rfl,rfl⟩:=mV e;exact ih.body _ _ _ _ _ _ hv g
   .obtain⟨y,n,v1,g,e⟩:=ee h;have m:=(TI p f).oper _ _ _ _ _ _ _ hv g;split at e
    .obtain⟨z,q,v2,o,i⟩:=ee e;simp only[a07,cd.ok.injEq] at i;obtain⟨-,-,rfl⟩:=i;exact(TI p f).oper _ _ _ _ _ _ _ m o
    grind
  .intro k v d acc x k' v' hv h;rw[qF] at h;obtain⟨y,n,v1,g,e⟩:=ee h;have m:=ih.lit _ _ _ _ _ _ hv g;split at e
   .exact ih.lits _ _ _ _ _ _ _ m e
   grind
  .intro k v d x k' v' hv h;rw[ot] at h;obtain⟨l,n,v1,g,e⟩:=ee h;simp only[a07,cd.ok.injEq] at e;obtain⟨-,-,rfl⟩:=e;exact ih.lits _ _ _ _ _ _ _ hv g
  .intro k v d x k' v' hv h;rw[qG] at h;split at h
   .grind
   .exact ih.body _ _ _ _ _ _ hv h
  .intro k v d x k' v' hv h;rw[mT] at h;obtain⟨a,n,v1,g,e⟩:=ee h;have m:=ih.row _ _ _ _ _ _ hv g;split at e
   .obtain⟨b,q,v2,o,i⟩:=ee e;have s:=ih.row _ _ _ _ _ _ m o;split at i
    .obtain⟨c,u,v3,t,r⟩:=ee i;simp only[a07,cd.ok.injEq] at r;obtain⟨-,-,rfl⟩:=r;exact ih.rest _ _ _ _ _ _ s t
    grind
   .split at e
    .obtain⟨b,q,v2,o,i⟩:=ee e;simp only[a07,cd.ok.injEq] at i;obtain⟨-,-,rfl⟩:=i;exact ih.rest _ _ _ _ _ _ m o
    grind
def Lg(v:List Bs):Prop:=v.length<=12/\∀ x∈v,x≠[]/\x.length<=9
def XQ{T:List Tok}(b:AP T)(c:∀ u∈T,u.kind=2->u.text≠[])(j k:Nat)(v:List Bs)(x:Ex)(k':Nat)(v':List Bs)(hk:(tk T j).kind=2)(hv:Lg v)(h:wN (tk T j) k v = .ok x k' v'):Lg v':=by
 have a:=N0 (T:=T) (k:=j) zo;unfold wN at h;split at h
 .grind
 .split at h
  .grind
  .rename_i d;injection h with f g e;subst e;have i:=hv.1;unfold Ps at d;refine⟨zg,fun x hx=>?_⟩;rcases a1o.1 hx with hx | hx
   .exact hv.2 x hx
   .simp only[a1g,List.not_mem_nil,or_false] at hx;subst hx;exact⟨c _ a hk,b.len _ a⟩
def aIq{T:List Tok}(a:AP T)(d:∀ u∈T,u.kind=2->u.text≠[]){b:Bd}{vs:List Bs}(h:vH T = .ok b k vs):Lg vs/\fe vs.length T.length b:=by
 unfold vH at h;split at h
 .rename_i b1 e v1 c;have f:=(kvB (XQ a d) _).body _ _ _ _ _ _ ⟨zs,zs⟩ c;have hk:=((Xz a _).body _ _ _ _ _ _ c).1;split at h
  .rename_i b2 g v2 hm;obtain⟨rfl,rfl,rfl⟩:=mV hm;grind
  .grind
  grind
 .grind
 grind
mutual
def je:Bd->Nat
 | .mk _ _ args parts=>fB args+jG parts+1
 termination_by structural x=>x
def jG:List Bd->Nat
 | []=>0
 | x::xs=>je x+jG xs
 termination_by structural x=>x
end
theorem adQ(x:Bd):∀ (a:List Bd),jG (a++[x])=jG a+je x
 | []=>by simp [jG]
 | y::a=>by simp [jG,adQ x a];omega
theorem ano:∀ (x:Bd),1<=je x
 | .mk ..=>by simp [je]
structure BSz(T:List Tok)(f:Nat):Prop where
 lit:∀ k v d x k' v',nQ T f k v d=O (.ok x k' v')->je x+2*k<=2*k'
 lits:∀ k v d acc x k' v',qF T f k v d acc=O (.ok x k' v')->jG x+2*k<=2*k'+jG acc/\(acc.length<x.length)/\(acc.length+1<x.length->jG x+2*k+2<=2*k'+jG acc)
 row:∀ k v d x k' v',ot T f k v d=O (.ok x k' v')->je x+2*k<=2*k'
 rest:∀ k v d x k' v',qG T f k v d=O (.ok x k' v')->je x+2*k<=2*k'
 body:∀ k v d x k' v',mT T f k v d=O (.ok x k' v')->je x+2*k<=2*k'
def bSz{T:List Tok}(o:AP T):∀ f,BSz T f
 | 0=>⟨by grind [nQ],by grind [qF],by grind [ot],by grind [qG],by grind [mT]⟩
 | f+1=>by
  have ih:=bSz o f;refine⟨?_,?_,?_,?_,?_⟩
  .intro k v d x k' v' h;rw[nQ] at h;split at h
   .grind
   split at h
   .simp only[a07,cd.ok.injEq] at h;obtain⟨rfl,rfl,rfl⟩:=h;grind [je,jG,fB]
   split at h
   .obtain⟨b,j,v1,g,e⟩:=ee h;have g1:=ih.lit _ _ _ _ _ _ g;simp only[a07,cd.ok.injEq] at e;obtain⟨rfl,rfl,rfl⟩:=e;grind [je,jG,fB]
   split at h
   .obtain⟨b,j,v1,g,e⟩:=ee h;have g1:=ih.body _ _ _ _ _ _ g;obtain⟨rfl,rfl,rfl⟩:=mV e;omega
   .obtain⟨y,j,v1,g,e⟩:=ee h;obtain⟨g1,g2,g3⟩:=(N1 o f).oper _ _ _ _ _ _ _ g;have t:=amt y;split at e
    .rename_i c u;obtain⟨z,p,v2,m,i⟩:=ee e;obtain⟨q1,q2,q3⟩:=(N1 o f).oper _ _ _ _ _ _ _ m;simp only[a07,cd.ok.injEq] at i;obtain⟨rfl,rfl,rfl⟩:=i;grind [je,jG,fB]
    .split at e
     .grind
     .split at e
      .grind
      .simp only[a07,cd.ok.injEq] at e;obtain⟨rfl,rfl,rfl⟩:=e;obtain⟨kind,name,n,w,args⟩:=y;grind [gy,je,jG,Ex.args]
  .intro k v d acc x k' v' h;rw[qF] at h;obtain⟨y,j,v1,g,e⟩:=ee h;have g1:=ih.lit _ _ _ _ _ _ g;split at e
   .obtain⟨q1,q2,q3⟩:=ih.lits _ _ _ _ _ _ _ e;grind [adQ,List.length_append,List.length_cons,List.length_nil]
   .simp only[a07,cd.ok.injEq] at e;obtain⟨rfl,rfl,rfl⟩:=e;grind [adQ]
  .intro k v d x k' v' h;rw[ot] at h;obtain⟨l,j,v1,g,e⟩:=ee h;obtain⟨g1,g2,g3⟩:=ih.lits _ _ _ _ _ _ _ g;simp only[a07,cd.ok.injEq] at e;obtain⟨rfl,rfl,rfl⟩:=e;simp only[jG,List.length_nil] at g1 g2 g3;split
   .grind [jG]
   .rename_i B;have:0+1<l.length:=by
     rcases l with _ | ⟨a,_ | ⟨b,r⟩⟩<;>grind
    grind [je,fB]
  .intro k v d x k' v' h;rw[qG] at h;split at h
   .grind
   .exact ih.body _ _ _ _ _ _ h
  .intro k v d x k' v' h;rw[mT] at h;obtain⟨a,j,v1,g,e⟩:=ee h;have g1:=ih.row _ _ _ _ _ _ g;split at e
   .obtain⟨b,p,v2,m,i⟩:=ee e;have q1:=ih.row _ _ _ _ _ _ m;split at i
    .obtain⟨c,C,v3,s,q⟩:=ee i;have m1:=ih.rest _ _ _ _ _ _ s;simp only[a07,cd.ok.injEq] at q;obtain⟨rfl,rfl,rfl⟩:=q;grind [je,jG,fB]
    .simp only[a07,cd.ok.injEq] at i;obtain⟨rfl,rfl,rfl⟩:=i;simp only[je,jG,fB,An];omega
   .split at e
    .obtain⟨b,p,v2,m,i⟩:=ee e;have q1:=ih.rest _ _ _ _ _ _ m;simp only[a07,cd.ok.injEq] at i;obtain⟨rfl,rfl,rfl⟩:=i;grind [je,jG,fB]
    grind
mutual
theorem fe.TJ {n M b:Nat} (a:M<=b):∀ {x:Bd},fe n M x->fe n b x
 | .mk kind name args parts,hx=>by
  unfold fe at hx ⊢;obtain⟨c,d,e,f,g,h,i,j⟩:=hx;exact⟨c,d,e,f,g,a1d h a,a1d i a,ff.TJ a j⟩
 termination_by structural x=>x
theorem ff.TJ {n M b:Nat} (a:M<=b):∀ {l:List Bd},ff n M l->ff n b l
 | [],hx=>by simp_all [ff]
 | x::xs,hx=>by
  unfold ff at hx ⊢;exact⟨fe.TJ a hx.1,ff.TJ a hx.2⟩
 termination_by structural x=>x
end
structure qU(c:Cl):Prop where
 cl:zx 2900 c
 name:c.name.length<=9
 vs:Lg c.vars
 bsz:je c.body<=5800
theorem anq{T:List Tok}(d:AP T)(m:∀ u∈T,u.kind=2->u.text≠[])(n:T.length<=2900){a:Nat}{name:Bs}{args:List Ex}{v v':List Bs}{c:Cl}(g:name.length<=9)(hv:Lg v)(hx:fi v.length args)(i:args.length<=4)(j:fB args<=2900)
  (h:Kj T f name args a k v=O (.ok c k' v')):qU c:=by
 unfold Kj at h;split at h
 .grind
 split at h
 .obtain⟨b,p,v1,e,o⟩:=ee h;obtain⟨rfl,rfl,rfl⟩:=mV o;obtain⟨g1,g2,g3,g4⟩:=(Xz d f).body _ _ _ _ _ _ e;have l:=(kvB (XQ d m) f).body _ _ _ _ _ _ hv e;have q:=(bSz d f).body _ _ _ _ _ _ e;exact⟨⟨g1.TJ n,fi.mono g2 _ hx,i,j,by have:=l.1;grind⟩,g,l,zg⟩
 .obtain⟨rfl,rfl,rfl⟩:=mV h;exact⟨⟨aHs,hx,i,j,by have:=hv.1;grind⟩,g,hv,by simp [Pt,je,jG,fB]⟩
theorem aIs{T:List Tok}(a:AP T)(d:∀ u∈T,u.kind=2->u.text≠[])(e:T.length<=2900){v':List Bs}{c:Cl}(h:E8 T f k=O (.ok c k' v')):qU c:=by
 unfold E8 at h;split at h
 .rename_i hk;have g:(tk T k).text.length<=9:=by
   by_cases hlt:k<T.length
   .have:tk T k∈T:=by unfold tk;simp [a1y,hlt]
    exact a.len _ this
   .unfold tk;simp [a1y,hlt]
  split at h
  .obtain⟨l,m,v1,b,i⟩:=ee h;obtain⟨n,o,v2,j,p⟩:=ee i;obtain⟨rfl,rfl,rfl⟩:=mV j;obtain⟨g1,g2,g3,g4,g5⟩:=(N1 a f).args _ _ _ _ _ _ _ _ fi.nil b;have hle:=(TB T f).args _ _ _ _ _ _ _ _ b;have q:=(TI (XQ a d) f).args _ _ _ _ _ _ _ _ ⟨zs,zs⟩ b;grind [fB,anq]
  .exact anq a d e g ⟨zs,zs⟩ fi.nil zs (by simp [fB]) h
 grind
def anr{T:List Tok}(a:AP T)(b:∀ u∈T,u.kind=2->u.text≠[])(d:T.length<=2900):∀ (f k:Nat) (acc l:List Cl) (k':Nat) (v':List Bs),acc.length<=40->(∀ c∈acc,qU c)->Fv T f k acc=O (.ok l k' v')->l.length<=40/\∀ c∈l,qU c
 | 0,k,acc,l,k',v',_,_,h=>by simp_all [Fv]
 | f+1,k,acc,l,k',v',g,i,h=>by
  unfold Fv at h;split at h
  .grind
  split at h
  .grind
  .obtain⟨c,j,v1,m,e⟩:=ee h;refine anr a b d f _ _ _ _ _ zg (fun x hx=>?_) e;grind [List.mem_singleton,aIs]
def aIt{T:List Tok}(a:AP T)(b:∀ u∈T,u.kind=2->u.text≠[])(d:T.length<=2900){l:List Cl}{v':List Bs}(h:I2 T = .ok l k' v'):l.length<=40/\∀ c∈l,qU c:=
 anr a b d (T.length+1) 0 [] l k' v' (Nat.zero_le _) zg (by simp_all [al9])
theorem ant{T:List Tok}(a:AP T)(d:T.length<=2900){b:Bd}{vs:List Bs}(h:vH T = .ok b k vs):je b<=5800:=by
 unfold vH at h;split at h
 .rename_i b1 e v1 c;have hk:=((Xz a _).body _ _ _ _ _ _ c).2.2.2;have f:=(bSz a _).body _ _ _ _ _ _ c;grind [mV]
 .grind
 grind
def gU(c:UInt8):Bs->List Bs
 | []=>[[]]
 | x::r=>if x=c then []::gU c r else match gU c r with
  | []=>[[x]]
  | l::ls=>(x::l)::ls
def Er(w:Bs):Option Int:=
 let z:Int:=match w with
  | 45::r=>- num r
  | _=>num w
 if kN z=w/\-9223372036854775808<=z/\z<=9223372036854775807 then O z else V
def kz(w:Bs)(n:Nat):Option Nat:=match Er w with
 | some z=>if 0<=z/\z<n then O z.toNat else V
 | none=>V
def ql(w:Bs):Option Bs:=
 match w with
 | []=>V
 | c::r=>if 10<w.length\/digit c=A\/w.all (fun c=>decide (33<=c/\c<=126))=G\/(c=45/\r≠[]) then V else O w
def Es(w:Bs):Option Tm:=match Er w with
 | some z=>O (.int z)
 | none=>(ql w).map .atom
def yp(n:Nat):List Bs->Option (List Nat)
 | []=>O []
 | w::r=>match kz w n,yp n r with
  | some s,O l=>O (s::l)
  | _,_=>V
def nj(slots:Nat):Bs->List Bs->In->Option (In×List Bs)
 | [],ws,i=>O (i,ws)
 | x::r,ws,i=>
  if x=42 then match yp slots ws with
   | some l=>O ({ i with s:=i.s++l },[])
   | none=>V
  else match ws with
   | []=>V
   | w::ws=>
    if x=115 then match kz w slots with
     | some s=>nj slots r ws { i with s:=i.s++[s] }
     | none=>V
    else if x=99 then match Es w with
     | some t=>nj slots r ws { i with const:=O t }
     | none=>V
    else if x=110 then match ql w with
     | some t=>nj slots r ws { i with name:=t }
     | none=>V
    else match kz w 10000 with
     | some s=>nj slots r ws { i with s:=i.s++[s] }
     | none=>V
def vN(slots:Nat)(ws:List Bs):Option In:=match ws with
 | []=>V
 | w::ws=>match ni w with
  | none=>V
  | some sh=>match nj slots sh ws ⟨w,[],V,[]⟩with
   | some (i,[])=>if ((w=[109,97,107,101]\/w=[115,112,108,105,116])/\i.s.length<2)\/(w=nM/\jW i.name≠i.s.length) then V else O i
   | _=>V
structure Pv where
 dO:List Pd
 open_:Bool
 ask:Option (Co×Nat)
def Hi(l:List Co)(f:Co->Co):List Co:=match l.reverse with
 | []=>[]
 | c::r=>(f c::r).reverse
def Lh(l:List Pd)(f:Pd->Pd):List Pd:=match l.reverse with
 | []=>[]
 | c::r=>(f c::r).reverse
def pf(ws:List Bs)(p:Pv):Option Pv:=
 match ws with
 | [[112,114,101,100],a,b]=>match p.ask,ql a,kz b 64 with
  | none,O a,O b=>if p.dO.any (fun q=>q.name == a && q.arity == b) then V else O { p with dO:=p.dO++[⟨a,b,[]⟩],open_:=false }
  | _,_,_=>V
 | [[99,108,97,117,115,101],a]=>match p.ask,kz a 65 with
  | none,O a=>if p.dO=[] then V else O { p with dO:=Lh p.dO fun q=>{ q with clauses:=q.clauses++[⟨a,[]⟩] },open_:=true }
  | _,_=>V
 | [[113,117,101,114,121],a,b]=>match p.ask,kz a 65 with
  | none,O a=>match kz b (a+1) with
   | some b=>O { p with ask:=O (⟨a,[]⟩,b),open_:=true }
   | none=>V
  | _,_=>V
 | _=>
  if p.ask.isSome/\(ws.head?=O [112,114,101,100]\/ws.head?=O [99,108,97,117,115,101]\/ws.head?=O [113,117,101,114,121]) then V
  else match p.ask with
   | some (c,n)=>match vN c.slots ws with
    | some i=>O { p with ask:=O ({ c with ins:=c.ins++[i] },n) }
    | none=>V
   | none=>if p.open_ then match (Qj p.dO) with
     | some c=>match vN c.slots ws with
      | some i=>O { p with dO:=Lh p.dO fun q=>{ q with clauses:=Hi q.clauses fun c=>{ c with ins:=c.ins++[i] } } }
      | none=>V
     | none=>V
    else V
where
 Qj (l:List Pd):Option Co:=match l.getLast? with
  | some q=>q.clauses.getLast?
  | none=>V
def pP:List Bs->Nat->Pv->Except Nat Pv
 | [],_,p=>.ok p
 | [r],k,p=>if r=[]/\1<k then .ok p else .error k
 | r::rs,k,p=>match pf (gU 32 r) p with
  | none=>.error k
  | some p=>pP rs (k+1) p
def tF(s:Bs):Except (Nat×Nat) (List Pd×Co×Nat):=
 if 65536<s.length then .error (1,0)
 else match pP (gU 10 s) 1 ⟨[],G,V⟩with
  | .error k=>.error (5,k)
  | .ok p=>match p.ask with
   | some (c,n)=>.ok (p.dO,c,n)
   | none=>.error (5,(gU 10 s).length)
end P
