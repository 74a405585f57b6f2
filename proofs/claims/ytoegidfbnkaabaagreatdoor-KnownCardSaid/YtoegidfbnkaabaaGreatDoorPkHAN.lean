/- A part of one proof (PureVg, PureVs, PureVl, PureVn, PureVt, PureVq, PureVx, PureV, PureSz, PureP). -/
import Derived.Test.YtoegidfbnkaabaaGreatDoorPkHAM
set_option linter.all false
set_option maxRecDepth 100000
set_option maxHeartbeats 8000000
open Option renaming some → O, none → V
open Bool renaming true → A, false → G
open Option.some renaming injEq → aZ9, inj → a0g
open Nat renaming le_refl → a0d, le_trans → a0f, le_succ → a1i, le_add_right → a1q
open List renaming getElem?_eq_getElem → a0e, mem_cons → a0n, mem_cons_self → a0p, mem_append → a0q, getD_eq_getElem?_getD → a0F, getElem?_eq_some_iff → a0M, range' → a0X, mem_cons_of_mem → a03, mem_of_getElem? → a06, foldl_cons → a1a, mem_or_eq_of_mem_set → a1j, mem_map → a1C, dropLast_eq_take → a2e, length_set → a2y, getLast?_eq_getElem? → a32, eq_of_mem_replicate → a4i
open Except renaming ok → a2q
namespace Go.Proofs.YtoegidfbnkaabaaGreatDoor
variable{B' N d f i k k' n pc:Nat}
namespace P
section
variable{B:Nat}{m:Vm}
theorem gD.up(h:gD B m)(a:B<=B'):gD B' m:=⟨h.f,h.fr,h.ag,h.marks,h.mono,a0f h.cS a,a0f h.nj a,h.pc,h.wJ,h.xL⟩
def gD.It(h:gD B m){s:Sr}(e:B<=B')(b:m.sr.tr <:+ s.tr)(g:s.fuel<=m.sr.fuel)(c:s.cS<=B'):gD B' { m with sr:=s,n:=n }:=
 ⟨h.f,h.fr,h.ag,fun i a d=>a0f (h.marks i a d) b.length_le,h.mono,c,by have:=h.nj;grind,h.pc,h.wJ,h.xL⟩
def gD.slots(h:gD B m){x:Fm}(hx:m.fs[m.f]?=O x){sl:List Sl}(e:sl.length=x.slots.length)(ht:∀ y∈sl,Aq y):gD B { m with fs:=m.fs.set m.f { x with slots:=sl } }:=by
 have g:(m.fs.set m.f { x with slots:=sl }).length=m.fs.length:=a2y ..;have d:∀ (i:Nat) (z:Fm),(m.fs.set m.f { x with slots:=sl })[i]?=O z->(i=m.f/\z={ x with slots:=sl })\/m.fs[i]?=O z:=fun i z b=>by
  grind
 have c:=h.fr _ _ hx;refine⟨zg,fun i z b=>?_,fun i a j=>?_,h.marks,h.mono,h.cS,h.nj,h.pc,fun i z b=>?_,h.xL⟩
 .show acH (m.fs.set _ _).length z;rw[g];rcases d i z b with⟨-,rfl⟩| b
  .exact⟨c.code,by show _<=sl.length;rw[e];exact c.sl,ht,c.back⟩
  grind [fr]
 .grind [ag]
 .rcases d i z b with⟨-,rfl⟩| b
  .grind [wJ]
  grind [wJ]
theorem gD.cur(h:gD B m):∃ x,m.fs[m.f]?=O x:=⟨_,a0e h.f⟩
def ama{x:Fm}(hx:m.fs[m.f]?=O x)(k:Nat)(y:Sl):m.set k y={ m with fs:=m.fs.set m.f { x with slots:=x.slots.set k y } }:=by
 unfold Vm.set
 congr 1
 apply List.ext_getElem?;grind
def gD.set(h:gD B m)(k:Nat){y:Sl}(b:Aq y):gD B (m.set k y):=by
 obtain⟨x,hx⟩:=h.cur;rw[ama hx];refine h.slots hx (a2y ..) fun z a=>?_;rcases a1j a with a | rfl
 .exact(h.fr _ _ hx).tm z a
 omega
def gD.O7{α:Type}(g:Vm->α->Nat×Sl)(b:∀ m a,Aq (g m a).2):∀ (L:List α) {m:Vm},gD B m->gD B (L.foldl (fun m p=>m.set (g m p).1 (g m p).2) m)
 | [],_,h=>h
 | a::L,_,h=>by rw[a1a];exact gD.O7 g b L (h.set _ (b _ _))
def gD.amb:∀ (L:List (Nat×Tm)) {m:Vm},(∀ p∈L,ef p.2)->gD B m->gD B (L.foldl (fun m p=>m.set p.1 (.term p.2)) m)
 | [],_,_,h=>h
 | a::L,_,b,h=>by rw[a1a];exact gD.amb L (fun p c=>b p (a03 _ c)) (h.set _ (b a (a0p ..)))
def acI{α:Type}(g:Vm->α->Nat×Sl):∀ (L:List α) (m:Vm),(L.foldl (fun m p=>m.set (g m p).1 (g m p).2) m).sr=m.sr
 | [],_=>rfl
 | a::L,m=>by rw[a1a,acI g L];rfl
theorem gD.take(h:gD B m)(k:Nat):gD B { m with br:=m.br.take k }:=by
 have d:∀ {i:Nat} {a:Ga},(m.br.take k)[i]?=O a->m.br[i]?=O a:=fun{i a} c=>by
  grind
 refine⟨h.f,h.fr,fun i a c=>h.ag i a (d c),fun i a c=>h.marks i a (d c),fun i j a b e c g=>h.mono i j a b e (d c) (d g),h.cS,?_,h.pc,h.wJ,fun i a c=>h.xL i a (d c)⟩;have:=h.nj;grind
def gD.again(h:gD B m){a:Ga}(n:WJ m.fs.length a)(hm:a.mark=m.sr.tr.length)(o:a.pc<=200000)(k:B<=B')(p:m.br.length+1+m.sr.fuel<=B'):gD B' { m with br:=m.br++[a] }:=by
 have e:∀ {i:Nat} {b:Ga},(m.br++[a])[i]?=O b->(i<m.br.length/\m.br[i]?=O b)\/(i=m.br.length/\b=a):=fun{i b} d=>by
  grind
 refine⟨h.f,h.fr,fun i b d=>?_,fun i b d=>?_,fun i j b c l d g=>?_,a0f h.cS k,zg,h.pc,h.wJ,fun i b d=>?_⟩
 .rcases e d with⟨-,d⟩| ⟨-,rfl⟩
  .grind [ag]
  omega
 .rcases e d with⟨-,d⟩| ⟨-,rfl⟩
  .exact h.marks i b d
  grind
 .rcases e g with⟨q,g⟩| ⟨rfl,rfl⟩
  .rcases e d with⟨-,d⟩| ⟨he,-⟩
   .exact h.mono i j b c l d g
   omega
  .rcases e d with⟨-,d⟩| ⟨-,rfl⟩
   .rw[hm];exact h.marks i b d
   omega
 .rcases e d with⟨-,d⟩| ⟨-,rfl⟩
  .grind [xL]
  omega
def gD.frame(h:gD B m){c:Co}{sl:List Sl}(k:y6 c)(l:c.slots<=sl.length)(ht:∀ y∈sl,Aq y)(o:f<m.fs.length)(p:pc<=200000):gD B { m with fs:=m.fs++[⟨c,sl,n,O f,pc,G⟩],f:=m.fs.length,pc:=0 }:=by
 have e:(m.fs++[(⟨c,sl,n,O f,pc,G⟩:Fm)]).length=m.fs.length+1:=zs;have g:∀ {i:Nat} {z:Fm},(m.fs++[(⟨c,sl,n,O f,pc,G⟩:Fm)])[i]?=O z->m.fs[i]?=O z\/z=⟨c,sl,n,O f,pc,G⟩:=fun{i z} d=>by
  grind
 refine⟨zg,fun i z d=>?_,fun i a d=>?_,h.marks,h.mono,h.cS,h.nj,zg,fun i z d=>?_,h.xL⟩
 .show acH (m.fs++_).length z;rw[e];rcases g d with d | rfl
  .have:=h.fr i z d;exact⟨this.code,this.sl,this.tm,fun b j=>by have:=this.back b j;omega⟩
  .exact⟨k,l,ht,fun b j=>zg⟩
 .show WJ (m.fs++_).length a;rw[e];have:=h.ag i a d;exact⟨by have:=this.f;omega,this.others,this.args,this.ql⟩
 .rcases g d with d | rfl
  .grind [wJ]
  omega
def O8(m:Vm)(rest:List Co)(args:List Sl)(f pc:Nat):List Ga:=match rest with | []=>[] | _=>[⟨m.sr.tr.length,f,pc,rest,args⟩]
theorem gD.enter(h:gD B m){B':Nat}{l:List Co}{args:List Sl}{f pc n:Nat}{m':Vm}(e:∀ c∈l,y6 c)(j:∀ y∈args,Aq y)(k:args.length<=60)(g:f<m.fs.length)(i:pc<=200000)(r:n<=m.br.length)(o:B<=B')(s:n+1+m.sr.fuel<=B')
  (hr:m.enter l args f pc n=O m'):gD B' m':=by
 cases l with
 | nil=>cases hr
 | cons c rest=>
  have hr:m'={ m with br:=m.br.take n++O8 m rest args f pc,fs:=m.fs++[⟨c,args++List.replicate (max c.slots args.length-args.length) .nil,n,O f,pc,G⟩],f:=m.fs.length,pc:=0 }:=(a0g hr).symm;have d:=e c (a0p ..);have p:gD B' { m with br:=m.br.take n++O8 m rest args f pc }:=by
   cases rest with
   | nil=>
    grind [O8,up,take]
   | cons c2 q=>
    refine(h.take n).again (a:=⟨m.sr.tr.length,f,pc,c2::q,args⟩) ⟨g,fun c d=>e c (a03 _ d),j,k⟩ J i o ?_;grind
  subst hr;refine p.frame d ?_ ?_ g i
  .grind
  .intro y b;rcases a0q.1 b with b | b
   .grind
   .rw[a4i b];trivial
def gD.back(h:gD B m){p:Bool×Vm}(hr:m.back=O p):gD B p.2:=by
 unfold Vm.back at hr;cases d:m.br.getLast? with
 | none=>grind
 | some a=>
  rw[d] at hr;simp only at hr;rw[a32] at d;have hlt:=(a0M.1 d).1;have hk:=h.marks _ _ d;have e:=h.ag _ _ d;have g:=h.xL _ _ d;have hu:∀ n,n<=m.br.length-1->gD B { m with sr:=m.sr.iF a.mark,br:=m.br.take n }:=fun n t=>by
   have ht:=h.take n;have k:(m.sr.iF a.mark).tr.length<=m.sr.tr.length/\a.mark<=(m.sr.iF a.mark).tr.length:=by
    grind [Sr.iF,List.length_drop]
   refine⟨ht.f,ht.fr,ht.ag,fun i b j=>?_,ht.mono,?_,ht.nj,ht.pc,ht.wJ,ht.xL⟩
   .have l:(m.br.take n)[i]?=O b:=j;rw[List.getElem?_take] at l;split at l
    .exact a0f (h.mono i _ b a zo l d) k.2
    grind
   .have r:m.sr.tr.length+m.sr.fuel<=B:=h.cS;show(m.sr.iF a.mark).tr.length+m.sr.fuel<=B;omega
  have o:gD B { m with sr:=m.sr.iF a.mark }:=by
   have k:(m.sr.iF a.mark).tr.length<=m.sr.tr.length/\a.mark<=(m.sr.iF a.mark).tr.length:=by
    grind [Sr.iF,List.length_drop]
   refine⟨h.f,h.fr,h.ag,fun i b j=>?_,h.mono,?_,h.nj,h.pc,h.wJ,h.xL⟩
   .have u:i<m.br.length:=(a0M.1 j).1;exact a0f (h.mono i _ b a zo j d) k.2
   .have r:m.sr.tr.length+m.sr.fuel<=B:=h.cS;show(m.sr.iF a.mark).tr.length+m.sr.fuel<=B;omega
  cases q:a.others with
  | nil=>
   rw[q] at hr;have hr:=(a0g hr).symm;subst hr;have s:m.br.dropLast=m.br.take (m.br.length-1):=a2e ..;simp only;rw[s];have:=hu (m.br.length-1) (a0d _);exact⟨e.f,this.fr,this.ag,this.marks,this.mono,this.cS,this.nj,g,this.wJ,this.xL⟩
  | cons c0 l0=>
   rw[q] at hr;simp only at hr;cases he:({ m with sr:=m.sr.iF a.mark }:Vm).enter (c0::l0) a.args a.f a.pc (m.br.length-1) with
   | none=>grind
   | some m'=>
    rw[he] at hr;have hr:=(a0g hr).symm;subst hr;refine o.enter (fun c w=>e.others c zg) e.args e.ql e.f g zg (a0d _) ?_ he;have:=h.nj;show m.br.length-1+1+m.sr.fuel<=B;omega
end
section
variable{B:Nat}{m:Vm}
def DL{α β:Type}{x:Except jE α}{k:α->Out β}{r:β}(h:Iq x k=O (.ok r)):∃ a,x = .ok a/\k a=O (.ok r):=by
 cases x with
 | error e=>cases h
 | ok a=>exact⟨a,J,h⟩
theorem acK{x:Fm}(hx:m.fs[m.f]?=O x)(b:∀ y∈x.slots,Aq y){t:Tm}(h:m.slot k = .term t):ef t:=by
 unfold Vm.slot at h;rw[hx] at h;simp only[a0F] at h;cases a:x.slots[k]? with
 | none=>grind
 | some y=>
  rw[a] at h;have h:y = .term t:=h;subst h;exact b _ (a06 a)
def WL{x:Fm}(hx:m.fs[m.f]?=O x)(a:∀ y∈x.slots,Aq y){i:In}{t:Tm}(h:m.at i k = .ok t):ef t:=by
 grind [Vm.at,acK]
def SI{x:Fm}(hx:m.fs[m.f]?=O x)(b:∀ y∈x.slots,Aq y):∀ {ks:List Nat} {l:List Tm},m.iL ks = .ok l->(∀ t∈l,ef t)/\l.length=ks.length
 | [],l,h=>by
  rw[Vm.iL] at h;injection h with h;subst h;exact⟨fun _ h=>(by cases h),J⟩
 | k::r,l,h=>by
  rw[Vm.iL] at h;cases c:m.slot k with
  | term t=>
   rw[c] at h;simp only at h;cases a:m.iL r with
   | error e=>grind
   | ok l'=>
    rw[a] at h;injection h with h;subst h;obtain⟨g1,g2⟩:=SI hx b a;refine⟨fun u hu=>?_,zg⟩;rcases a0n.1 hu with rfl | hu
    .grind [acK]
    grind
  | nil=>grind
  | level n=>grind
def WM:∀ {l:List Tm},(∀ t∈l,ef t)->ji l
 | [],_=>by simp_all [ji]
 | t::l,h=>by unfold ji;exact⟨h t (a0p ..),WM fun u hu=>h u (a03 _ hu)⟩
def amd:∀ {l:List Tm},ji l->∀ t∈l,ef t
 | [],_,_,h=>zg
 | u::l,h,t,ht=>by
  unfold ji at h;rcases a0n.1 ht with rfl | ht
  .grind
  .exact amd h.2 t ht
def ame{a b:Tm}{s:Sr}{p:Bool×Sr}(h:lH f a b s=O (.ok p)):s.tr <:+ p.2.tr/\p.2.fuel<=s.fuel/\p.2.cS<=s.cS:=
 ⟨(MM f).tm h,((EV f).tm h).2,((EV f).tm h).1⟩
def amf{dI:List Pd}{i:In}{p:Bool×Vm}{x:Fm}(h:gD B m)(ht:mH m.sr.tr)(hx:m.fs[m.f]?=O x)(w:um x.code.slots i)(K:∀ p∈dI,∀ c∈p.clauses,y6 c)(hr:vi dI d i m=O (.ok p)) :
  gD (B+1) p.2/\p.2.sr.fuel<=m.sr.fuel:=by
 have C:=h.fr _ _ hx;have a:=h.up (a1i B);have L:m.sr.cS<=B:=h.cS;have MO:=h.nj;unfold vi at hr;have j:∀ {q:Vm},O (a2q (A,q))=O (a2q p:Except jE (Bool×Vm))->p=(A,q):=fun h=>zg;have D:∀ {o:Out (Bool×Sr)},(∀ q,o=O (.ok q)->m.sr.tr <:+ q.2.tr/\q.2.fuel<=m.sr.fuel/\q.2.cS<=m.sr.cS)->Out.bind o (fun p=>O (.ok (p.1,{ m with sr:=p.2 })))=O (.ok p)->gD (B+1) p.2/\p.2.sr.fuel<=m.sr.fuel:=fun M N=>by
  obtain⟨q,r,g⟩| ⟨e,r,g⟩:=Out.bind_some N
  .injection g with g;injection g with g;subst g;obtain⟨g1,g2,g3⟩:=M q r;exact⟨h.It (a1i B) g1 g2 zo,g2⟩
  grind
 dsimp only at hr;by_cases hw:i.word=ug
 .rw[zip hw] at hr;have hr:=j hr;subst hr;have:=a.set (i.s.getD 0 0) (y:=.term (.var m.n)) (by simp_all [Aq,ef]);exact⟨this.It (a0d _) (List.suffix_refl _) (a0d _) this.cS,a0d _⟩
 rw[bX hw] at hr;clear hw;by_cases hw:i.word=[112,117,116]
 .rw[zip hw] at hr;have hr:=j hr;subst hr;obtain⟨t,P,Q,-⟩:=w.con (.inl hw);refine⟨a.set _ ?_,a0d _⟩;rw[P];exact Q
 rw[bX hw] at hr;clear hw;by_cases hw:i.word=[99,111,110,115,116]
 .rw[zip hw] at hr;obtain⟨t,r,g⟩:=DL hr;exact D (fun q z=>ame z) g
 rw[bX hw] at hr;clear hw;by_cases hw:i.word=[115,97,109,101]
 .rw[zip hw] at hr;obtain⟨t,r,g⟩:=DL hr;obtain⟨u,F,E⟩:=DL g;exact D (fun q z=>ame z) E
 rw[bX hw] at hr;clear hw;by_cases hw:i.word=[109,97,107,101]
 .rw[zip hw] at hr;obtain⟨l,r,g⟩:=DL hr;have hr:=j g;subst hr;obtain⟨g1,g2⟩:=SI hx C.tm r;refine⟨a.set _ ?_,a0d _⟩;show ef (.comp i.name l);unfold ef;have:=w.ql;exact⟨w.SH,zg,WM g1⟩
 rw[bX hw] at hr;clear hw;by_cases hw:i.word=[115,112,108,105,116]
 .rw[zip hw] at hr;obtain⟨t,r,g⟩:=DL hr;have R:=WL hx C.tm r;cases hw:fA m.sr.tr d t with
  | none=>grind
  | some S=>
   rw[hw] at g;have H:=tj ht R hw;cases S with
   | atom s=>grind
   | int s=>grind
   | comp name args=>
    simp only at g;split at g
    .have hr:=j g;subst hr;unfold ef at H;refine⟨a.amb _ fun p T=>?_,?_⟩
     .exact amd H.2.2 _ (List.of_mem_zip T).2
     .have:=acI (fun _ (p:Nat×Tm)=>(p.1,Sl.term p.2)) (i.s.tail.zip args) m;grind
    grind
   | var v=>
    have hr:=j g;subst hr;have F:=h.O7 (fun m (p:Nat×Nat)=>(p.1,.term (.var (m.n+p.2)))) (fun _ _=>by show ef _;simp_all [ef]) i.s.tail.zipIdx;have E:=acI (fun m (p:Nat×Nat)=>(p.1,Sl.term (.var (m.n+p.2)))) i.s.tail.zipIdx m;have I:(m.sr.bind v (.comp i.name ((a0X m.n i.s.tail.length).map .var))).fuel=m.sr.fuel:=rfl;refine⟨F.It (a1i B) ?_ ?_ ?_,?_⟩
    .rw[E];exact List.suffix_cons _ _
    .grind
    .unfold Sr.cS at L ⊢;show((v,_)::m.sr.tr).length+m.sr.fuel<=B+1;grind
    grind
 rw[bX hw] at hr;clear hw;by_cases hw:i.word=nk
 .rw[zip hw] at hr;obtain⟨l,r,g⟩:=DL hr;obtain⟨g1,g2⟩:=SI hx C.tm r;exact D (fun q z=>alX ht g1 (by rw[g2];exact w.test hw) z) g
 rw[bX hw] at hr;clear hw;by_cases hw:i.word=vh
 .rw[zip hw] at hr;have hr:=j hr;subst hr;exact⟨a.set _ trivial,a0d _⟩
 rw[bX hw] at hr;clear hw;by_cases hw:i.word=qO
 .rw[zip hw] at hr;have hr:=j hr;subst hr;exact⟨a.set _ trivial,a0d _⟩
 rw[bX hw] at hr;clear hw;by_cases hw:i.word=kW
 .rw[zip hw] at hr;split at hr
  .have hr:=j hr;subst hr;exact⟨a.take _,a0d _⟩
  grind
 rw[bX hw] at hr;clear hw;by_cases hw:i.word=kx
 .rw[zip hw] at hr;have hr:=j hr;subst hr;have U:=w.one zg;refine⟨h.again ⟨h.f,fun _ h=>zg,fun _ h=>zg,zs⟩ J ?_ (a1i B) zo,a0d _⟩;have:i.s.getD 0 0<100000:=by
   rw[a0F,a0e zo];exact w.small _ (List.getElem_mem _)
  grind
 rw[bX hw] at hr;clear hw;by_cases hw:i.word=jP
 .rw[zip hw] at hr;have hr:=j hr;subst hr;have U:=w.one zg;have:i.s.getD 0 0<100000:=by
   rw[a0F,a0e zo];exact w.small _ (List.getElem_mem _)
  exact⟨⟨a.f,a.fr,a.ag,a.marks,a.mono,a.cS,a.nj,zg,a.wJ,a.xL⟩,a0d _⟩
 rw[bX hw] at hr;clear hw;by_cases hw:i.word=Ao
 .rw[zip hw] at hr;split at hr
  .grind
  .rename_i q z;split at hr
   .grind
   .split at hr
    .grind
    .rename_i m' he;have hr:=j hr;subst hr;have W:=List.mem_of_find?_eq_some z;have X:∀ y∈i.s.map m.slot,Aq y:=fun y hy=>by
      obtain⟨k,-,rfl⟩:=a1C.1 hy;cases hs:m.slot k with
      | term t=>exact acK hx C.tm hs
      | nil=>trivial
      | level n=>trivial
     refine⟨h.enter (K q W) X (by rw[List.length_map];exact w.ql) h.f h.pc (a0d _) (a1i B) zo he,?_⟩;rename_i dZ;cases gT:q.clauses with
     | nil=>grind
     | cons c0 l0=>rw[gT] at he;have:=(a0g he).symm;grind
 rw[bX hw] at hr;clear hw;by_cases hw:i.word=[114,101,116]
 .rw[zip hw] at hr;rw[hx] at hr;simp only at hr;split at hr
  .grind
  .rename_i b I;have hr:=j hr;subst hr;exact⟨⟨C.back b I,a.fr,a.ag,a.marks,a.mono,a.cS,a.nj,a.wJ _ _ hx,a.wJ,a.xL⟩,a0d _⟩
 grind
end
section
variable{N:Nat}
mutual
def VL (n:Nat):Tm->Prop
 | .var i=>i<n
 | .comp _ l=>xM n l
 | .atom _=>True
 | .int _=>True
 termination_by structural t=>t
def xM (n:Nat):List Tm->Prop
 | []=>True
 | t::a=>VL n t/\xM n a
 termination_by structural t=>t
end
def nI(n:Nat):Tr->Prop
 | []=>True
 | (i,t)::r=>i<n/\VL n t/\nI n r
mutual
theorem VL.up {n m:Nat} (h:n<=m):∀ {t:Tm},VL n t->VL m t
 | .var i,ht=>by grind [VL]
 | .comp s l,ht=>by unfold VL at ht ⊢;exact xM.up h ht
 | .atom s,_=>by simp_all [VL]
 | .int s,_=>by simp_all [VL]
theorem xM.up {n m:Nat} (h:n<=m):∀ {l:List Tm},xM n l->xM m l
 | [],_=>by simp_all [xM]
 | t::l,ht=>by unfold xM at ht ⊢;exact⟨VL.up h ht.1,xM.up h ht.2⟩
end
theorem nI.up{n m:Nat}(h:n<=m):∀ {t:Tr},nI n t->nI m t
 | [],_=>trivial
 | (i,t)::r,ht=>⟨by have:=ht.1;omega,ht.2.1.up h,nI.up h ht.2.2⟩
def nI.drop{n:Nat}:∀ (k:Nat) {t:Tr},nI n t->nI n (t.drop k)
 | 0,_,h=>h
 | _+1,[],h=>h
 | k+1,(_,_)::_,h=>nI.drop k h.2.2
def amg:∀ {tr:Tr} {i:Nat} {t:Tm},nI N tr->look i tr=O t->VL N t
 | [],_,_,_,h=>by cases h
 | (j,u)::r,i,t,h,a=>by
  unfold look at a;split at a
  .injection a with a;subst a;exact h.2.1
  .exact amg h.2.2 a
def WN{tr:Tr}(h:nI N tr):∀ {f:Nat} {t a:Tm},VL N t->fA tr f t=O a->VL N a
 | f,.atom s,a,ht,hw=>by simp_all [fA]
 | f,.int s,a,ht,hw=>by simp_all [fA]
 | f,.comp s l,a,ht,hw=>by simp_all [fA]
 | 0,.var i,a,ht,hw=>by
  grind [fA]
 | f+1,.var i,a,ht,hw=>by
  rw[fA] at hw;split at hw
  .grind
  .rename_i t b;exact WN h (amg h b) hw
theorem aHt{t:Tm}{s:Sr}{p:Bool×Sr}(hk:nI N s.tr)(c:VL N (.var i))(ht:VL N t)(h:tz f i t s=O (.ok p)):nI N p.2.tr:=by
 unfold tz at h;obtain⟨q,d,a⟩| ⟨e,d,a⟩:=Out.bind_some h
 .obtain⟨b,s1⟩:=q;have g:s1.tr=s.tr:=((Io f).tm d).1;cases b with
  | true=>
   grind
  | false=>
   simp only[Bool.false_eq_true,if_false,aZ9,Except.ok.injEq] at a;subst a;show nI N ((i,t)::s1.tr);rw[g];unfold VL at c;exact⟨c,ht,hk⟩
 grind
def Pa:∀ f,(∀ a b s p,nI N s.tr->VL N a->VL N b->lH f a b s=O (.ok p)->nI N p.2.tr)/\(∀ l r s p,nI N s.tr->xM N l->xM N r->nh f l r s=O (.ok p)->nI N p.2.tr)
 | 0=>⟨fun _ _ _ _ _ _ _ h=>(by cases h),fun _ _ _ _ _ _ _ h=>(by cases h)⟩
 | f+1=>by
  obtain⟨i,j⟩:=Pa f;constructor
  .intro a b s p ht c d h;rw[lH] at h;split at h
   .grind
   .cases hw:fA s.tr f a with
    | none=>grind
    | some u=>
     cases hv:fA s.tr f b with
     | none=>grind
     | some v=>
      rw[hw,hv] at h;have k:nI N s.dec.tr:=ht;have hu:=WN ht c hw;have m:=WN ht d hv;grind [aHt,VL]
  .intro l r s p ht g hr h;cases l with
   | nil=>grind [nh]
   | cons a l=>
    cases r with
    | nil=>grind [nh]
    | cons b r=>
     unfold xM at g hr;rw[nh] at h;obtain⟨q,g1,g2⟩| ⟨e,g1,g2⟩:=Out.bind_some h<;>grind
def amh:∀ {l:List Tm},xM N l->∀ t∈l,VL N t
 | [],_,_,h=>zg
 | u::l,h,t,ht=>by
  unfold xM at h;rcases a0n.1 ht with rfl | ht
  .grind
  .exact amh h.2 t ht
theorem acL:∀ {l:List Tm},(∀ t∈l,VL N t)->xM N l
 | [],_=>by simp_all [xM]
 | t::l,h=>by unfold xM;exact⟨h t (a0p ..),acL fun u hu=>h u (a03 _ hu)⟩
theorem ami:∀ {tr:Tr} {i:Nat},nI N tr->N<=i->look i tr=V
 | [],_,_,_=>rfl
 | (j,u)::r,i,h,a=>by
  unfold look;rw[bX (by have:=h.1;omega)];exact ami h.2.2 a
def aHu{tr:Tr}(h:nI N tr){v:Nat}(hv:v<N){s:Bs}:¬ EW tr v (.comp s ((a0X N k).map .var)):=by
 intro b;cases b with
 | arg c d=>
  obtain⟨j,a,rfl⟩:=a1C.1 c;rw[List.mem_range'] at a;obtain⟨q,e,f⟩:=a;cases d with
  | here _=>omega
  | via g _=>grind [ami]
end
section
variable{B told:Nat}{m:Vm}
def Ar(n:Nat):Sl->Prop
 | .term t=>VL n t
 | _=>True
theorem Ar.up{n k:Nat}(h:n<=k){y:Sl}(a:Ar n y):Ar k y:=by
 cases y with
 | term t=>exact VL.up h a
 | nil=>trivial
 | level _=>trivial
structure jG(told:Nat)(m:Vm):Prop where
 tr:nI m.n m.sr.tr
 fr:∀ (i:Nat) (x:Fm),m.fs[i]?=O x->∀ y∈x.slots,Ar m.n y
 ag:∀ (i:Nat) (a:Ga),m.br[i]?=O a->∀ y∈a.args,Ar m.n y
 sr:lB m.sr
 ask:∀ (i:Nat) (x:Fm),m.fs[i]?=O x->x.ask=A->told<=x.slots.length
def jG.It(h:jG told m){s:Sr}(c:m.n<=n)(d:nI n s.tr)(e:lB s):jG told { m with sr:=s,n:=n }:=
 ⟨d,fun i x hx y b=>(h.fr i x hx y b).up c,fun i a f y b=>(h.ag i a f y b).up c,e,h.ask⟩
def jG.slots(h:jG told m){x:Fm}(hx:m.fs[m.f]?=O x){sl:List Sl}(c:sl.length=x.slots.length)(ht:∀ y∈sl,Ar m.n y):jG told { m with fs:=m.fs.set m.f { x with slots:=sl } }:=by
 have b:∀ (i:Nat) (z:Fm),(m.fs.set m.f { x with slots:=sl })[i]?=O z->(i=m.f/\z={ x with slots:=sl })\/m.fs[i]?=O z:=fun i z a=>by
  grind
 refine⟨h.tr,fun i z a y d=>?_,h.ag,h.sr,fun i z a hk=>?_⟩
 .rcases b i z a with⟨-,rfl⟩| a
  .grind
  grind [fr]
 .rcases b i z a with⟨-,rfl⟩| a
  .show told<=sl.length;rw[c];exact h.ask _ _ hx hk
  .exact h.ask i z a hk
def jG.set(h:jG told m)(b:m.f<m.fs.length)(k:Nat){y:Sl}(c:Ar m.n y):jG told (m.set k y):=by
 obtain⟨x,hx⟩:∃ x,m.fs[m.f]?=O x:=⟨_,a0e b⟩;rw[ama hx];refine h.slots hx (a2y ..) fun z a=>?_;rcases a1j a with a | rfl
 .grind [fr]
 omega
def aHv(k:Nat)(y:Sl):(m.set k y).fs.length=m.fs.length:=List.length_modify ..
def jG.O7{α:Type}(g:α->Nat×Sl):∀ (L:List α) {m:Vm},jG told m->m.f<m.fs.length->(∀ a∈L,Ar m.n (g a).2)->jG told (L.foldl (fun m p=>m.set (g p).1 (g p).2) m)
 | [],_,h,_,_=>h
 | a::L,m,h,c,d=>by
  rw[a1a];exact jG.O7 g L (h.set c _ (d a (a0p ..))) (by rw[aHv];exact c) fun b e=>d b (a03 _ e)
theorem jG.take(h:jG told m)(k:Nat):jG told { m with br:=m.br.take k }:=by
 refine⟨h.tr,h.fr,fun i a b=>?_,h.sr,h.ask⟩;grind [ag]
def jG.again(h:jG told m){a:Ga}(e:∀ y∈a.args,Ar m.n y):jG told { m with br:=m.br++[a] }:=by
 refine⟨h.tr,h.fr,fun i b c=>?_,h.sr,h.ask⟩;have c:(m.br++[a])[i]?=O b:=c;rcases a0q.1 (a06 c) with d | d
 .obtain⟨j,f,rfl⟩:=List.getElem_of_mem d;grind [a0e,ag]
 grind
def jG.frame(h:jG told m){c:Co}{sl:List Sl}(ht:∀ y∈sl,Ar m.n y):jG told { m with fs:=m.fs++[⟨c,sl,n,O f,pc,G⟩],f:=m.fs.length,pc:=0 }:=by
 have b:∀ {i:Nat} {z:Fm},(m.fs++[(⟨c,sl,n,O f,pc,G⟩:Fm)])[i]?=O z->m.fs[i]?=O z\/z=⟨c,sl,n,O f,pc,G⟩:=fun{i z} a=>by
  grind
 refine⟨h.tr,fun i z a y d=>?_,h.ag,h.sr,fun i z a hk=>?_⟩
 .rcases b a with a | rfl
  .grind [fr]
  grind
 .rcases b a with a | rfl
  .exact h.ask i z a hk
  grind
theorem jG.enter(h:jG told m){l:List Co}{args:List Sl}{f pc n:Nat}{m':Vm}(d:∀ y∈args,Ar m.n y)(hr:m.enter l args f pc n=O m'):jG told m':=by
 cases l with
 | nil=>cases hr
 | cons c rest=>
  have hr:m'={ m with br:=m.br.take n++O8 m rest args f pc,fs:=m.fs++[⟨c,args++List.replicate (max c.slots args.length-args.length) .nil,n,O f,pc,G⟩],f:=m.fs.length,pc:=0 }:=(a0g hr).symm;have e:jG told { m with br:=m.br.take n++O8 m rest args f pc }:=by
   cases rest with
   | nil=>
    grind [O8,take]
   | cons c2 g=>exact(h.take n).again (a:=⟨m.sr.tr.length,f,pc,c2::g,args⟩) d
  subst hr;refine e.frame fun y b=>?_;rcases a0q.1 b with b | b
  .grind
  .rw[a4i b];trivial
def jG.back(h:jG told m){p:Bool×Vm}(hr:m.back=O p):jG told p.2:=by
 unfold Vm.back at hr;cases b:m.br.getLast? with
 | none=>grind
 | some a=>
  rw[b] at hr;simp only at hr;rw[a32] at b;have hu:jG told { m with sr:=m.sr.iF a.mark }:=h.It (a0d _) (nI.drop _ h.tr) (h.sr.iF _);cases c:a.others with
  | nil=>
   rw[c] at hr;have hr:=(a0g hr).symm;subst hr;have:=hu.take (m.br.length-1);rw[show m.br.dropLast=m.br.take (m.br.length-1) from a2e ..];exact⟨this.tr,this.fr,this.ag,this.sr,this.ask⟩
  | cons c0 l0=>
   grind [sr,enter,a0g,ag]
end
section
variable{B told:Nat}{m:Vm}
def acM{x:Fm}(hx:m.fs[m.f]?=O x)(a:∀ y∈x.slots,Ar m.n y)(k:Nat):Ar m.n (m.slot k):=by
 unfold Vm.slot;rw[hx];simp only[a0F];cases b:x.slots[k]? with
 | none=>trivial
 | some y=>grind
def WO{x:Fm}(hx:m.fs[m.f]?=O x)(b:∀ y∈x.slots,Ar m.n y){i:In}{t:Tm}(h:m.at i k = .ok t):VL m.n t:=by
 unfold Vm.at at h;have a:=acM hx b (i.s.getD k 0);cases c:m.slot (i.s.getD k 0) with
 | term u=>rw[c] at h a;injection h with h;subst h;exact a
 | nil=>grind
 | level n=>grind
theorem acN{x:Fm}(hx:m.fs[m.f]?=O x)(a:∀ y∈x.slots,Ar m.n y):∀ {ks:List Nat} {l:List Tm},m.iL ks = .ok l->∀ t∈l,VL m.n t
 | [],l,h=>by
  simp_all [Vm.iL]
 | k::r,l,h=>by
  rw[Vm.iL] at h;have b:=acM hx a k;cases d:m.slot k with
  | term t=>
   rw[d] at h b;simp only at h;cases c:m.iL r with
   | error e=>grind
   | ok l'=>
    rw[c] at h;injection h with h;subst h;have g1:=acN hx a c;intro u hu;rcases a0n.1 hu with rfl | hu
    .exact b
    grind
  | nil=>grind
  | level n=>grind
def aHw{name:Bs}{args:List Tm}{s:Sr}{p:Bool×Sr}(ht:nI N s.tr)(g:lB s)(n:∀ t∈args,VL N t)(o:∀ t∈args,ef t)(l:jK name=args.length)(h:xI f name args s=O (.ok p)):nI N p.2.tr:=by
 have hv:∀ j,j<args.length->VL N (args.getD j default):=fun j m=>by
  grind
 have i:∀ j,j<args.length->ef (args.getD j default):=fun j m=>by
  grind
 have two:∀ x∈([[61],[92,61],[61,61],[105,115],[60],[62],[61,60],[62,61],[61,58,61]]:List Bs),name=x->1<args.length:=fun x hx e=>by
  subst e;have:jK name=2:=by
   simp only[a0n,List.not_mem_nil,or_false] at hx;rcases hx with rfl | rfl | rfl | rfl | rfl | rfl | rfl | rfl | rfl<;>rfl
  omega
 have tr:∀ {q:Sr},q.tr=s.tr->nI N q.tr:=fun e=>zg;unfold xI at h;split at h
 .grind
 split at h
 .rename_i d;have:=two [61] zs d;exact(Pa f).1 _ _ _ _ ht (hv 0 zo) (hv 1 this) h
 split at h
 .rename_i d;have:=two [92,61] zs d;obtain⟨q,b,a⟩| ⟨e,b,a⟩:=Out.bind_some h
  .injection a with a;injection a with a;subst a;exact nI.drop _ ((Pa f).1 _ _ _ _ ht (hv 0 zo) (hv 1 this) b)
  grind
 split at h
 .exact tr ((SF f).tm h).1
 split at h
 .rename_i d;have:=two [105,115] zs d;obtain⟨q,b,a⟩| ⟨e,b,a⟩:=Out.bind_some h
  .obtain⟨g1,g2,g3⟩:=DC f g.ok (i 1 this) b;exact(Pa f).1 _ _ _ _ (tr g1) (hv 0 zo) (by simp_all [VL]) a
  grind
 split at h
 .grind
 split at h
 .grind
 .obtain⟨q,b,a⟩| ⟨e,b,a⟩:=Out.bind_some h
  .obtain⟨q2,k,c⟩| ⟨e,k,c⟩:=Out.bind_some a
   .injection c with c;injection c with c;subst c;have a:(2:Int)=args.length:=by
     unfold jK at l;grind
    obtain⟨g1,g2,-⟩:=DC f g.ok (i 0 zo) b;obtain⟨g3,g4,-⟩:=DC f (by rw[g1];exact g.ok) (i 1 zo) k;grind
   grind
  grind
end
section
variable{B told:Nat}{m:Vm}
def aHx{dI:List Pd}{i:In}{p:Bool×Vm}{x:Fm}(h:jG told m)(P:gD B m)(hx:m.fs[m.f]?=O x)(z:um x.code.slots i)(hr:vi dI d i m=O (.ok p)):jG told p.2:=by
 have F:=P.fr _ _ hx;have C:=h.fr _ _ hx;have w:=P.f;unfold vi at hr;have g:∀ {q:Vm},O (a2q (A,q))=O (a2q p:Except jE (Bool×Vm))->p=(A,q):=fun h=>zg;have I:∀ {o:Out (Bool×Sr)},(∀ q,o=O (.ok q)->nI m.n q.2.tr/\lB q.2)->Out.bind o (fun p=>O (.ok (p.1,{ m with sr:=p.2 })))=O (.ok p)->jG told p.2:=fun T U=>by
  obtain⟨q,c,b⟩| ⟨e,c,b⟩:=Out.bind_some U
  .injection b with b;injection b with b;subst b;obtain⟨g1,g2⟩:=T q c;exact h.It (a0d _) g1 g2
  grind
 dsimp only at hr;by_cases hw:i.word=ug
 .rw[zip hw] at hr;have hr:=g hr;subst hr;have c:jG told { m with n:=m.n+1 }:=h.It (a1i _) (h.tr.up (a1i _)) h.sr;exact c.set w (i.s.getD 0 0) (y:=.term (.var m.n)) (by show VL _ _;simp_all [VL,Nat.lt_succ_self])
 rw[bX hw] at hr;clear hw;by_cases hw:i.word=[112,117,116]
 .rw[zip hw] at hr;have hr:=g hr;subst hr;obtain⟨t,K,Q,D⟩:=z.con (.inl hw);refine h.set w _ ?_;rw[K];show VL m.n t;cases t with
  | atom s=>simp_all [VL]
  | int s=>simp_all [VL]
  | var i=>cases D
  | comp s l=>cases D
 rw[bX hw] at hr;clear hw;by_cases hw:i.word=[99,111,110,115,116]
 .rw[zip hw] at hr;obtain⟨t,c,b⟩:=DL hr;obtain⟨t0,K,Q,D⟩:=z.con (.inr hw);have W:VL m.n t0:=by
   cases t0 with
   | atom s=>simp_all [VL]
   | int s=>simp_all [VL]
   | var i=>cases D
   | comp s l=>cases D
  rw[K] at b;exact I (fun q r=>⟨(Pa d).1 _ _ _ _ h.tr (WO hx C c) W r,h.sr.Gw (WL hx F.tm c) Q r⟩) b
 rw[bX hw] at hr;clear hw;by_cases hw:i.word=[115,97,109,101]
 .rw[zip hw] at hr;obtain⟨t,c,b⟩:=DL hr;obtain⟨u,E,X⟩:=DL b;exact I (fun q r=>⟨(Pa d).1 _ _ _ _ h.tr (WO hx C c) (WO hx C E) r,h.sr.Gw (WL hx F.tm c) (WL hx F.tm E) r⟩) X
 rw[bX hw] at hr;clear hw;by_cases hw:i.word=[109,97,107,101]
 .rw[zip hw] at hr;obtain⟨l,c,b⟩:=DL hr;have hr:=g b;subst hr;refine h.set w _ ?_;show VL m.n (.comp i.name l);grind [VL,acL,acN]
 rw[bX hw] at hr;clear hw;by_cases hw:i.word=[115,112,108,105,116]
 .rw[zip hw] at hr;obtain⟨t,c,b⟩:=DL hr;have SJ:=WO hx C c;cases hw:fA m.sr.tr d t with
  | none=>grind
  | some t'=>
   rw[hw] at b;have H:=WN h.tr SJ hw;cases t' with
   | atom s=>grind
   | int s=>grind
   | comp name args=>
    simp only at b;split at b
    .have hr:=g b;subst hr;unfold VL at H;exact jG.O7 (fun(p:Nat×Tm)=>(p.1,Sl.term p.2)) _ h w fun p R=>amh H _ (List.of_mem_zip R).2
    grind
   | var v=>
    have hr:=g b;subst hr;unfold VL at H;have wO:look v m.sr.tr=none:=Ip hw;have c:jG told { m with n:=m.n+i.s.tail.length }:=h.It (a1q _ _) (h.tr.up (a1q _ _)) h.sr;have E:=jG.O7 (fun(p:Nat×Nat)=>(p.1,Sl.term (.var (m.n+p.2)))) i.s.tail.zipIdx c w (fun p R=>by
     show VL _ _;grind [VL,List.mem_zipIdx])
    have e1:∀ (L:List (Nat×Nat)) (m1:Vm) (k:Nat),m1.n=m.n->L.foldl (fun m' (p:Nat×Nat)=>m'.set p.1 (.term (.var (m.n+p.2)))) { m1 with n:=k }={ (L.foldl (fun m' (p:Nat×Nat)=>m'.set p.1 (.term (.var (m'.n+p.2)))) m1) with n:=k }:=by
     intro L;induction L with
     | nil=>grind
     | cons a L ih=>
      intro m1 k hk;rw[a1a,a1a,<- ih (m1.set a.1 (.term (.var (m1.n+a.2)))) k hk,hk];rfl
    rw[e1 _ m _ rfl] at E;have M:VL (m.n+i.s.tail.length) (.comp i.name ((a0X m.n i.s.tail.length).map .var)):=by
     unfold VL;refine acL fun t ht=>?_;obtain⟨j,hj,rfl⟩:=a1C.1 ht;grind [List.mem_range',VL]
    have N:ef (.comp i.name ((a0X m.n i.s.tail.length).map .var)):=by
     unfold ef;have:=z.ql;refine⟨z.SH,zg,WM fun t ht=>?_⟩;obtain⟨j,hj,rfl⟩:=a1C.1 ht;exact al2
    exact E.It (a0d _) (show nI (m.n+i.s.tail.length) ((v,_)::m.sr.tr) from⟨zo,M,h.tr.up (a1q _ _)⟩)
     ⟨show yV ((v,_)::m.sr.tr) from⟨h.sr.E1,wO,aHu h.tr H⟩,show mH ((v,_)::m.sr.tr) from⟨N,h.sr.ok⟩⟩
 rw[bX hw] at hr;clear hw;by_cases hw:i.word=nk
 .rw[zip hw] at hr;obtain⟨l,c,b⟩:=DL hr;obtain⟨g1,g2⟩:=SI hx F.tm c;have S:jK i.name=l.length:=by rw[g2];exact z.test hw
  exact I (fun q r=>⟨aHw h.tr h.sr (acN hx C c) g1 S r,h.sr.test g1 S r⟩) b
 rw[bX hw] at hr;clear hw;by_cases hw:i.word=vh
 .rw[zip hw] at hr;have hr:=g hr;subst hr;exact h.set w _ trivial
 rw[bX hw] at hr;clear hw;by_cases hw:i.word=qO
 .rw[zip hw] at hr;have hr:=g hr;subst hr;exact h.set w _ trivial
 rw[bX hw] at hr;clear hw;by_cases hw:i.word=kW
 .rw[zip hw] at hr;split at hr
  .have hr:=g hr;subst hr;exact h.take _
  grind
 rw[bX hw] at hr;clear hw;by_cases hw:i.word=kx
 .rw[zip hw] at hr;have hr:=g hr;subst hr;exact h.again fun _ h=>zg
 rw[bX hw] at hr;clear hw;by_cases hw:i.word=jP
 .rw[zip hw] at hr;have hr:=g hr;subst hr;exact⟨h.tr,h.fr,h.ag,h.sr,h.ask⟩
 rw[bX hw] at hr;clear hw;by_cases hw:i.word=Ao
 .rw[zip hw] at hr;split at hr
  .grind
  .split at hr
   .grind
   .split at hr
    .grind
    .rename_i m' he;have hr:=g hr;subst hr;refine h.enter (fun y hy=>?_) he;obtain⟨k,-,rfl⟩:=a1C.1 hy;simp_all [acM]
 rw[bX hw] at hr;clear hw;by_cases hw:i.word=[114,101,116]
 .rw[zip hw,hx] at hr;simp only at hr;split at hr
  .grind
  .have hr:=g hr;subst hr;exact⟨h.tr,h.fr,h.ag,h.sr,h.ask⟩
 grind
end
section
variable{B told:Nat}{m:Vm}
def aHA{l:List Co}{args:List Sl}{m':Vm}(h:m.enter l args f pc n=O m'):m'.sr=m.sr:=by
 cases l with
 | nil=>cases h
 | cons c l=>have:=(a0g h).symm;grind
def amj{p:Bool×Vm}(h:m.back=O p):p.2.sr.fuel=m.sr.fuel:=by
 unfold Vm.back at h;split at h
 .grind
 .split at h
  .have:=(a0g h).symm;subst this;rfl
  .split at h
   .grind
   .rename_i m' he;have:=(a0g h).symm;subst this;show m'.sr.fuel=_;rw[aHA he];rfl
theorem gD.dec(a:gD B m)(c:m.sr.fuel≠0)(b:m.pc+1<=200000):gD (B-1) { m with sr:=m.sr.dec,pc:=m.pc+1 }/\B-1+1=B:=by
 have d:m.sr.tr.length+m.sr.fuel<=B:=a.cS;have e:=a.nj;exact⟨⟨a.f,a.fr,a.ag,a.marks,a.mono,by show m.sr.tr.length+(m.sr.fuel-1)<=B-1;omega,by show m.br.length+(m.sr.fuel-1)<=B-1;omega,b,a.wJ,a.xL⟩,zo⟩
theorem jG.dec(h:jG told m):jG told { m with sr:=m.sr.dec,pc:=m.pc+1 }:=⟨h.tr,h.fr,h.ag,⟨h.sr.E1,h.sr.ok⟩,h.ask⟩
theorem WQ{dI:List Pd}(k:∀ p∈dI,∀ c∈p.clauses,y6 c){d:Nat}:∀ (f:Nat) (m:Vm) (p:Bool×Vm),gD B m->jG told m->y3 dI d f m=O (.ok p)->gD B p.2/\jG told p.2/\p.2.sr.fuel<=m.sr.fuel/\(p.1=A->∃ x,p.2.fs[p.2.f]?=O x/\x.ask=A)
 | 0,_,_,_,_,h=>by grind [y3]
 | f+1,m,p,l,y,h=>by
  rw[y3] at h;by_cases t:m.sr.fuel=0
  .grind
  rw[bX t] at h;obtain⟨x,hx⟩:=l.cur;have u:=l.fr _ _ hx;rw[hx] at h;simp only at h;cases n:x.code.ins[m.pc]? with
  | none=>grind
  | some i=>
   rw[n] at h;simp only at h;have K:=(a0M.1 n).1;have hlen:=u.code.len;have a:um x.code.slots i:=u.code.ins _ (a06 n);obtain⟨o,z⟩:=l.dec t zo;have r:=y.dec;have C:m.sr.dec.fuel<=m.sr.fuel:=Nat.sub_le _ _;by_cases w:i.word=[100,111,110,101]
   .rw[zip w] at h;split at h
    .rename_i D;injection h with h;injection h with h;subst h;exact⟨o.up zo,r,C,fun _=>⟨x,hx,D⟩⟩
    .cases h
   .rw[bX w] at h;obtain⟨q,s,g⟩| ⟨e,s,g⟩:=Out.bind_some h
    .obtain⟨b,m1⟩:=q;obtain⟨g1,g2⟩:=amf o r.sr.ok hx a k s;have g3:=aHx r o hx a s;rw[z] at g1;have L:m1.sr.fuel<=m.sr.dec.fuel:=g2;cases b with
     | true=>
      obtain⟨E,F,H,I⟩:=WQ k f m1 p g1 g3 g;grind
     | false=>
      simp only[Bool.false_eq_true,if_false] at g;cases j:m1.back with
      | none=>grind
      | some q=>
       rw[j] at g;have g4:=g1.back j;have g5:=g3.back j;have g6:=amj j;obtain⟨b2,m2⟩:=q;have g6:m2.sr.fuel=m1.sr.fuel:=g6;cases b2 with
       | false=>
        grind
       | true=>
        obtain⟨E,F,H,I⟩:=WQ k f m2 p g4 g5 g;grind
    grind
def aHB{dI:List Pd}(e:∀ p∈dI,∀ c∈p.clauses,y6 c){p:Bool×Vm}(g:gD B m)(i:jG told m)(h:MQ dI d f m=O (.ok p)):gD B p.2/\jG told p.2/\p.2.sr.fuel<=m.sr.fuel/\(p.1=A->∃ x,p.2.fs[p.2.f]?=O x/\x.ask=A):=by
 unfold MQ at h;by_cases j:0<m.pc
 .rw[zip j] at h;cases a:m.back with
  | none=>grind
  | some q=>
   rw[a] at h;have g4:=g.back a;have g5:=i.back a;have g6:=amj a;obtain⟨b,m1⟩:=q;have g6:m1.sr.fuel=m.sr.fuel:=g6;cases b with
   | false=>
    injection h with h;injection h with h;subst h;exact⟨g4,g5,Nat.le_of_eq g6,fun h=>by cases h⟩
   | true=>
    obtain⟨k,l,o,n⟩:=WQ e f m1 p g4 g5 h;exact⟨k,l,zo,n⟩
 grind [WQ]
end
structure KvT(Q:List Bs->Prop)(T:List Tok)(f:Nat):Prop where
 EG:∀ k v d x k' v',Q v->pR T f k v d=O (.ok x k' v')->Q v'
 args:∀ k v d a acc x k' v',Q v->oX T f k v d a acc=O (.ok x k' v')->Q v'
 list:∀ k v d x k' v',Q v->rf T f k v d=O (.ok x k' v')->Q v'
 elems:∀ k v d acc x k' v',Q v->rS T f k v d acc=O (.ok x k' v')->Q v'
 oper:∀ l k v d x k' v',Q v->jo T f l k v d=O (.ok x k' v')->Q v'
 more:∀ l y k v d x k' v',Q v->qD T f l y k v d=O (.ok x k' v')->Q v'
def WS{Q:List Bs->Prop}{T:List Tok}(i:∀ j k v x k' v',(tk T j).kind=2->Q v->zI (tk T j) k v = .ok x k' v'->Q v'):∀ f,KvT Q T f
 | 0=>⟨by simp_all [pR],by simp_all [oX],by simp_all [rf],by simp_all [rS],by simp_all [jo],by simp_all [qD]⟩
 | f+1=>by
  have ih:=WS i f;refine⟨?_,?_,?_,?_,?_,?_⟩
  .intro k v d x k' v' hv h;rw[pR] at h;split at h
   .grind
   split at h
   .grind
   split at h
   .grind
   split at h
   .split at h
    .obtain⟨a,e,v1,c,b⟩:=eh h;obtain⟨rfl,rfl,rfl⟩:=nR b;exact ih.args _ _ _ _ _ _ _ _ hv c
    grind
   split at h
   .grind
   split at h
   .obtain⟨a,e,v1,c,b⟩:=eh h;obtain⟨rfl,rfl,rfl⟩:=nR b;exact ih.oper _ _ _ _ _ _ _ hv c
   split at h
   .exact ih.list _ _ _ _ _ _ hv h
   grind
  .intro k v d a acc x k' v' hv h;rw[oX] at h;obtain⟨y,e,v1,c,b⟩:=eh h;have g:=ih.oper _ _ _ _ _ _ _ hv c;split at b
   .exact ih.args _ _ _ _ _ _ _ _ g b
   grind
  .intro k v d x k' v' hv h;rw[rf] at h;split at h
   .grind
   .obtain⟨all,e,v1,c,b⟩:=eh h;have g:=ih.elems _ _ _ _ _ _ _ hv c;split at b
    .obtain⟨y,o,v2,m,n⟩:=eh b;obtain⟨rfl,rfl,rfl⟩:=nR n;exact ih.oper _ _ _ _ _ _ _ g m
    .obtain⟨rfl,rfl,rfl⟩:=nR b;omega
  .intro k v d acc x k' v' hv h;rw[rS] at h;obtain⟨y,e,v1,c,b⟩:=eh h;have g:=ih.oper _ _ _ _ _ _ _ hv c;split at b
   .exact ih.elems _ _ _ _ _ _ _ g b
   grind
  .intro l k v d x k' v' hv h;rw[jo] at h;split at h
   .exact ih.EG _ _ _ _ _ _ hv h
   .obtain⟨y,e,v1,c,b⟩:=eh h;exact ih.more _ _ _ _ _ _ _ _ (ih.oper _ _ _ _ _ _ _ hv c) b
  .intro l y k v d x k' v' hv h;rw[qD] at h;split at h
   .grind
   .obtain⟨z,e,v1,c,b⟩:=eh h;exact ih.more _ _ _ _ _ _ _ _ (ih.oper _ _ _ _ _ _ _ hv c) b
structure KvB(Q:List Bs->Prop)(T:List Tok)(f:Nat):Prop where
 lit:∀ k v d x k' v',Q v->nt T f k v d=O (.ok x k' v')->Q v'
 lits:∀ k v d acc x k' v',Q v->pS T f k v d acc=O (.ok x k' v')->Q v'
 row:∀ k v d x k' v',Q v->nN T f k v d=O (.ok x k' v')->Q v'
 rest:∀ k v d x k' v',Q v->pU T f k v d=O (.ok x k' v')->Q v'
 body:∀ k v d x k' v',Q v->mw T f k v d=O (.ok x k' v')->Q v'
def kvB{Q:List Bs->Prop}{T:List Tok}(p:∀ j k v x k' v',(tk T j).kind=2->Q v->zI (tk T j) k v = .ok x k' v'->Q v'):∀ f,KvB Q T f
 | 0=>⟨by simp_all [nt],by simp_all [pS],by simp_all [nN],by simp_all [pU],by simp_all [mw]⟩
 | f+1=>by
  have ih:=kvB p f;refine⟨?_,?_,?_,?_,?_⟩
  .intro k v d x k' v' hv h;rw[nt] at h;split at h
   .grind
   split at h
   .grind
   split at h
   .obtain⟨b,n,v1,g,e⟩:=eh h;simp only[aZ9,cg.ok.injEq] at e;obtain⟨-,-,rfl⟩:=e;exact ih.lit _ _ _ _ _ _ hv g
   split at h
   .obtain⟨b,n,v1,g,e⟩:=eh h;obtain⟨rfl,rfl,rfl⟩:=nR e;exact ih.body _ _ _ _ _ _ hv g
   .obtain⟨y,n,v1,g,e⟩:=eh h;have m:=(WS p f).oper _ _ _ _ _ _ _ hv g;split at e
    .obtain⟨z,q,v2,o,i⟩:=eh e;simp only[aZ9,cg.ok.injEq] at i;obtain⟨-,-,rfl⟩:=i;exact(WS p f).oper _ _ _ _ _ _ _ m o
    grind
  .intro k v d acc x k' v' hv h;rw[pS] at h;obtain⟨y,n,v1,g,e⟩:=eh h;have m:=ih.lit _ _ _ _ _ _ hv g;split at e
   .exact ih.lits _ _ _ _ _ _ _ m e
   grind
  .intro k v d x k' v' hv h;rw[nN] at h;obtain⟨l,n,v1,g,e⟩:=eh h;simp only[aZ9,cg.ok.injEq] at e;obtain⟨-,-,rfl⟩:=e;exact ih.lits _ _ _ _ _ _ _ hv g
  .intro k v d x k' v' hv h;rw[pU] at h;split at h
   .grind
   .exact ih.body _ _ _ _ _ _ hv h
  .intro k v d x k' v' hv h;rw[mw] at h;obtain⟨a,n,v1,g,e⟩:=eh h;have m:=ih.row _ _ _ _ _ _ hv g;split at e
   .obtain⟨b,q,v2,o,i⟩:=eh e;have s:=ih.row _ _ _ _ _ _ m o;split at i
    .obtain⟨c,u,v3,t,r⟩:=eh i;simp only[aZ9,cg.ok.injEq] at r;obtain⟨-,-,rfl⟩:=r;exact ih.rest _ _ _ _ _ _ s t
    grind
   .split at e
    .obtain⟨b,q,v2,o,i⟩:=eh e;simp only[aZ9,cg.ok.injEq] at i;obtain⟨-,-,rfl⟩:=i;exact ih.rest _ _ _ _ _ _ m o
    grind
def Kn(v:List Bs):Prop:=v.length<=12/\∀ x∈v,x≠[]/\x.length<=9
def acP{T:List Tok}(b:Bb T)(c:∀ u∈T,u.kind=2->u.text≠[])(j k:Nat)(v:List Bs)(x:Ex)(k':Nat)(v':List Bs)(hk:(tk T j).kind=2)(hv:Kn v)(h:zI (tk T j) k v = .ok x k' v'):Kn v':=by
 have a:=Wv (T:=T) (k:=j) zo;unfold zI at h;split at h
 .grind
 .split at h
  .grind
  .rename_i d;injection h with f g e;subst e;have i:=hv.1;unfold On at d;refine⟨zg,fun x hx=>?_⟩;rcases a0q.1 hx with hx | hx
   .exact hv.2 x hx
   .simp only[a0n,List.not_mem_nil,or_false] at hx;subst hx;exact⟨c _ a hk,b.len _ a⟩
def aHE{T:List Tok}(a:Bb T)(d:∀ u∈T,u.kind=2->u.text≠[]){b:Bd}{vs:List Bs}(h:tl T = .ok b k vs):Kn vs/\eV vs.length T.length b:=by
 unfold tl at h;split at h
 .rename_i b1 e v1 c;have f:=(kvB (acP a d) _).body _ _ _ _ _ _ ⟨zs,zs⟩ c;have hk:=((Ww a _).body _ _ _ _ _ _ c).1;split at h
  .rename_i b2 g v2 hm;obtain⟨rfl,rfl,rfl⟩:=nR hm;grind
  .grind
  grind
 .grind
 grind
mutual
def iS:Bd->Nat
 | .mk _ _ args parts=>ft args+jw parts+1
 termination_by structural x=>x
def jw:List Bd->Nat
 | []=>0
 | x::xs=>iS x+jw xs
 termination_by structural x=>x
end
theorem acQ(x:Bd):∀ (a:List Bd),jw (a++[x])=jw a+iS x
 | []=>by simp [jw]
 | y::a=>by simp [jw,acQ x a];omega
theorem aml:∀ (x:Bd),1<=iS x
 | .mk ..=>by simp [iS]
structure BSz(T:List Tok)(f:Nat):Prop where
 lit:∀ k v d x k' v',nt T f k v d=O (.ok x k' v')->iS x+2*k<=2*k'
 lits:∀ k v d acc x k' v',pS T f k v d acc=O (.ok x k' v')->jw x+2*k<=2*k'+jw acc/\(acc.length<x.length)/\(acc.length+1<x.length->jw x+2*k+2<=2*k'+jw acc)
 row:∀ k v d x k' v',nN T f k v d=O (.ok x k' v')->iS x+2*k<=2*k'
 rest:∀ k v d x k' v',pU T f k v d=O (.ok x k' v')->iS x+2*k<=2*k'
 body:∀ k v d x k' v',mw T f k v d=O (.ok x k' v')->iS x+2*k<=2*k'
def bSz{T:List Tok}(o:Bb T):∀ f,BSz T f
 | 0=>⟨by grind [nt],by grind [pS],by grind [nN],by grind [pU],by grind [mw]⟩
 | f+1=>by
  have ih:=bSz o f;refine⟨?_,?_,?_,?_,?_⟩
  .intro k v d x k' v' h;rw[nt] at h;split at h
   .grind
   split at h
   .simp only[aZ9,cg.ok.injEq] at h;obtain⟨rfl,rfl,rfl⟩:=h;grind [iS,jw,ft]
   split at h
   .obtain⟨b,j,v1,g,e⟩:=eh h;have g1:=ih.lit _ _ _ _ _ _ g;simp only[aZ9,cg.ok.injEq] at e;obtain⟨rfl,rfl,rfl⟩:=e;grind [iS,jw,ft]
   split at h
   .obtain⟨b,j,v1,g,e⟩:=eh h;have g1:=ih.body _ _ _ _ _ _ g;obtain⟨rfl,rfl,rfl⟩:=nR e;omega
   .obtain⟨y,j,v1,g,e⟩:=eh h;obtain⟨g1,g2,g3⟩:=(ML o f).oper _ _ _ _ _ _ _ g;have t:=alq y;split at e
    .rename_i c u;obtain⟨z,p,v2,m,i⟩:=eh e;obtain⟨q1,q2,q3⟩:=(ML o f).oper _ _ _ _ _ _ _ m;simp only[aZ9,cg.ok.injEq] at i;obtain⟨rfl,rfl,rfl⟩:=i;grind [iS,jw,ft]
    .split at e
     .grind
     .split at e
      .grind
      .simp only[aZ9,cg.ok.injEq] at e;obtain⟨rfl,rfl,rfl⟩:=e;obtain⟨kind,name,n,w,args⟩:=y;grind [gH,iS,jw,Ex.args]
  .intro k v d acc x k' v' h;rw[pS] at h;obtain⟨y,j,v1,g,e⟩:=eh h;have g1:=ih.lit _ _ _ _ _ _ g;split at e
   .obtain⟨q1,q2,q3⟩:=ih.lits _ _ _ _ _ _ _ e;grind [acQ,List.length_append,List.length_cons,List.length_nil]
   .simp only[aZ9,cg.ok.injEq] at e;obtain⟨rfl,rfl,rfl⟩:=e;grind [acQ]
  .intro k v d x k' v' h;rw[nN] at h;obtain⟨l,j,v1,g,e⟩:=eh h;obtain⟨g1,g2,g3⟩:=ih.lits _ _ _ _ _ _ _ g;simp only[aZ9,cg.ok.injEq] at e;obtain⟨rfl,rfl,rfl⟩:=e;simp only[jw,List.length_nil] at g1 g2 g3;split
   .grind [jw]
   .rename_i B;have:0+1<l.length:=by
     rcases l with _ | ⟨a,_ | ⟨b,r⟩⟩<;>grind
    grind [iS,ft]
  .intro k v d x k' v' h;rw[pU] at h;split at h
   .grind
   .exact ih.body _ _ _ _ _ _ h
  .intro k v d x k' v' h;rw[mw] at h;obtain⟨a,j,v1,g,e⟩:=eh h;have g1:=ih.row _ _ _ _ _ _ g;split at e
   .obtain⟨b,p,v2,m,i⟩:=eh e;have q1:=ih.row _ _ _ _ _ _ m;split at i
    .obtain⟨c,C,v3,s,q⟩:=eh i;have m1:=ih.rest _ _ _ _ _ _ s;simp only[aZ9,cg.ok.injEq] at q;obtain⟨rfl,rfl,rfl⟩:=q;grind [iS,jw,ft]
    .simp only[aZ9,cg.ok.injEq] at i;obtain⟨rfl,rfl,rfl⟩:=i;simp only[iS,jw,ft,zJ];omega
   .split at e
    .obtain⟨b,p,v2,m,i⟩:=eh e;have q1:=ih.rest _ _ _ _ _ _ m;simp only[aZ9,cg.ok.injEq] at i;obtain⟨rfl,rfl,rfl⟩:=i;grind [iS,jw,ft]
    grind
mutual
theorem eV.SK {n M b:Nat} (a:M<=b):∀ {x:Bd},eV n M x->eV n b x
 | .mk kind name args parts,hx=>by
  unfold eV at hx ⊢;obtain⟨c,d,e,f,g,h,i,j⟩:=hx;exact⟨c,d,e,f,g,a0f h a,a0f i a,eW.SK a j⟩
 termination_by structural x=>x
theorem eW.SK {n M b:Nat} (a:M<=b):∀ {l:List Bd},eW n M l->eW n b l
 | [],hx=>by simp_all [eW]
 | x::xs,hx=>by
  unfold eW at hx ⊢;exact⟨eV.SK a hx.1,eW.SK a hx.2⟩
 termination_by structural x=>x
end
structure qn(c:Cl):Prop where
 cl:yW 2900 c
 name:c.name.length<=9
 vs:Kn c.vars
 bsz:iS c.body<=5800
theorem amn{T:List Tok}(d:Bb T)(m:∀ u∈T,u.kind=2->u.text≠[])(n:T.length<=2900){a:Nat}{name:Bs}{args:List Ex}{v v':List Bs}{c:Cl}(g:name.length<=9)(hv:Kn v)(hx:eZ v.length args)(i:args.length<=4)(j:ft args<=2900)
  (h:Jo T f name args a k v=O (.ok c k' v')):qn c:=by
 unfold Jo at h;split at h
 .grind
 split at h
 .obtain⟨b,p,v1,e,o⟩:=eh h;obtain⟨rfl,rfl,rfl⟩:=nR o;obtain⟨g1,g2,g3,g4⟩:=(Ww d f).body _ _ _ _ _ _ e;have l:=(kvB (acP d m) f).body _ _ _ _ _ _ hv e;have q:=(bSz d f).body _ _ _ _ _ _ e;exact⟨⟨g1.SK n,eZ.mono g2 _ hx,i,j,by have:=l.1;grind⟩,g,l,zg⟩
 .obtain⟨rfl,rfl,rfl⟩:=nR h;exact⟨⟨aGH,hx,i,j,by have:=hv.1;grind⟩,g,hv,by simp [Oo,iS,jw,ft]⟩
theorem aHG{T:List Tok}(a:Bb T)(d:∀ u∈T,u.kind=2->u.text≠[])(e:T.length<=2900){v':List Bs}{c:Cl}(h:Er T f k=O (.ok c k' v')):qn c:=by
 unfold Er at h;split at h
 .rename_i hk;have g:(tk T k).text.length<=9:=by
   by_cases hlt:k<T.length
   .have:tk T k∈T:=by unfold tk;simp [a0F,hlt]
    exact a.len _ this
   .unfold tk;simp [a0F,hlt]
  split at h
  .obtain⟨l,m,v1,b,i⟩:=eh h;obtain⟨n,o,v2,j,p⟩:=eh i;obtain⟨rfl,rfl,rfl⟩:=nR j;obtain⟨g1,g2,g3,g4,g5⟩:=(ML a f).args _ _ _ _ _ _ _ _ eZ.nil b;have hle:=(SD T f).args _ _ _ _ _ _ _ _ b;have q:=(WS (acP a d) f).args _ _ _ _ _ _ _ _ ⟨zs,zs⟩ b;grind [ft,amn]
  .exact amn a d e g ⟨zs,zs⟩ eZ.nil zs (by simp [ft]) h
 grind
def amo{T:List Tok}(a:Bb T)(b:∀ u∈T,u.kind=2->u.text≠[])(d:T.length<=2900):∀ (f k:Nat) (acc l:List Cl) (k':Nat) (v':List Bs),acc.length<=40->(∀ c∈acc,qn c)->EO T f k acc=O (.ok l k' v')->l.length<=40/\∀ c∈l,qn c
 | 0,k,acc,l,k',v',_,_,h=>by simp_all [EO]
 | f+1,k,acc,l,k',v',g,i,h=>by
  unfold EO at h;split at h
  .grind
  split at h
  .grind
  .obtain⟨c,j,v1,m,e⟩:=eh h;refine amo a b d f _ _ _ _ _ zg (fun x hx=>?_) e;grind [List.mem_singleton,aHG]
def aHH{T:List Tok}(a:Bb T)(b:∀ u∈T,u.kind=2->u.text≠[])(d:T.length<=2900){l:List Cl}{v':List Bs}(h:Ib T = .ok l k' v'):l.length<=40/\∀ c∈l,qn c:=
 amo a b d (T.length+1) 0 [] l k' v' (Nat.zero_le _) zg (by simp_all [ak4])
theorem amp{T:List Tok}(a:Bb T)(d:T.length<=2900){b:Bd}{vs:List Bs}(h:tl T = .ok b k vs):iS b<=5800:=by
 unfold tl at h;split at h
 .rename_i b1 e v1 c;have hk:=((Ww a _).body _ _ _ _ _ _ c).2.2.2;have f:=(bSz a _).body _ _ _ _ _ _ c;grind [nR]
 .grind
 grind
def gP(c:UInt8):Bs->List Bs
 | []=>[[]]
 | x::r=>if x=c then []::gP c r else match gP c r with
  | []=>[[x]]
  | l::ls=>(x::l)::ls
def DM(w:Bs):Option Int:=
 let z:Int:=match w with
  | 45::r=>- num r
  | _=>num w
 if kV z=w/\-9223372036854775808<=z/\z<=9223372036854775807 then O z else V
def kh(w:Bs)(n:Nat):Option Nat:=match DM w with
 | some z=>if 0<=z/\z<n then O z.toNat else V
 | none=>V
def pD(w:Bs):Option Bs:=
 match w with
 | []=>V
 | c::r=>if 10<w.length\/digit c=A\/w.all (fun c=>decide (33<=c/\c<=126))=G\/(c=45/\r≠[]) then V else O w
def DN(w:Bs):Option Tm:=match DM w with
 | some z=>O (.int z)
 | none=>(pD w).map .atom
def xN(n:Nat):List Bs->Option (List Nat)
 | []=>O []
 | w::r=>match kh w n,xN n r with
  | some s,O l=>O (s::l)
  | _,_=>V
def mM(slots:Nat):Bs->List Bs->In->Option (In×List Bs)
 | [],ws,i=>O (i,ws)
 | x::r,ws,i=>
  if x=42 then match xN slots ws with
   | some l=>O ({ i with s:=i.s++l },[])
   | none=>V
  else match ws with
   | []=>V
   | w::ws=>
    if x=115 then match kh w slots with
     | some s=>mM slots r ws { i with s:=i.s++[s] }
     | none=>V
    else if x=99 then match DN w with
     | some t=>mM slots r ws { i with const:=O t }
     | none=>V
    else if x=110 then match pD w with
     | some t=>mM slots r ws { i with name:=t }
     | none=>V
    else match kh w 10000 with
     | some s=>mM slots r ws { i with s:=i.s++[s] }
     | none=>V
def vl(slots:Nat)(ws:List Bs):Option In:=match ws with
 | []=>V
 | w::ws=>match mL w with
  | none=>V
  | some sh=>match mM slots sh ws ⟨w,[],V,[]⟩with
   | some (i,[])=>if ((w=[109,97,107,101]\/w=[115,112,108,105,116])/\i.s.length<2)\/(w=nk/\jK i.name≠i.s.length) then V else O i
   | _=>V
structure Pv where
 dI:List Pd
 open_:Bool
 ask:Option (Co×Nat)
def Gz(l:List Co)(f:Co->Co):List Co:=match l.reverse with
 | []=>[]
 | c::r=>(f c::r).reverse
def Ko(l:List Pd)(f:Pd->Pd):List Pd:=match l.reverse with
 | []=>[]
 | c::r=>(f c::r).reverse
def oB(ws:List Bs)(p:Pv):Option Pv:=
 match ws with
 | [[112,114,101,100],a,b]=>match p.ask,pD a,kh b 64 with
  | none,O a,O b=>if p.dI.any (fun q=>q.name == a && q.arity == b) then V else O { p with dI:=p.dI++[⟨a,b,[]⟩],open_:=false }
  | _,_,_=>V
 | [[99,108,97,117,115,101],a]=>match p.ask,kh a 65 with
  | none,O a=>if p.dI=[] then V else O { p with dI:=Ko p.dI fun q=>{ q with clauses:=q.clauses++[⟨a,[]⟩] },open_:=true }
  | _,_=>V
 | [[113,117,101,114,121],a,b]=>match p.ask,kh a 65 with
  | none,O a=>match kh b (a+1) with
   | some b=>O { p with ask:=O (⟨a,[]⟩,b),open_:=true }
   | none=>V
  | _,_=>V
 | _=>
  if p.ask.isSome/\(ws.head?=O [112,114,101,100]\/ws.head?=O [99,108,97,117,115,101]\/ws.head?=O [113,117,101,114,121]) then V
  else match p.ask with
   | some (c,n)=>match vl c.slots ws with
    | some i=>O { p with ask:=O ({ c with ins:=c.ins++[i] },n) }
    | none=>V
   | none=>if p.open_ then match (Pe p.dI) with
     | some c=>match vl c.slots ws with
      | some i=>O { p with dI:=Ko p.dI fun q=>{ q with clauses:=Gz q.clauses fun c=>{ c with ins:=c.ins++[i] } } }
      | none=>V
     | none=>V
    else V
where
 Pe (l:List Pd):Option Co:=match l.getLast? with
  | some q=>q.clauses.getLast?
  | none=>V
def oP:List Bs->Nat->Pv->Except Nat Pv
 | [],_,p=>.ok p
 | [r],k,p=>if r=[]/\1<k then .ok p else .error k
 | r::rs,k,p=>match oB (gP 32 r) p with
  | none=>.error k
  | some p=>oP rs (k+1) p
def qo(s:Bs):Except (Nat×Nat) (List Pd×Co×Nat):=
 if 65536<s.length then .error (1,0)
 else match oP (gP 10 s) 1 ⟨[],G,V⟩with
  | .error k=>.error (5,k)
  | .ok p=>match p.ask with
   | some (c,n)=>.ok (p.dI,c,n)
   | none=>.error (5,(gP 10 s).length)
end P
