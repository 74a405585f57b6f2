/- A part of one proof (PureVg, PureVs, PureVl, PureVn, PureVt, PureVq, PureVx, PureV, PureSz, PureP). -/
import Derived.Test.YtoegidfbnkaabaaGreatDoorPkJAM
set_option linter.all false
set_option maxRecDepth 100000
set_option maxHeartbeats 8000000
open Option renaming some → O, none → V
open Bool renaming true → A, false → G
open Option.some renaming injEq → aZG, inj → aZN
open Nat renaming le_refl → aZK, le_trans → aZL, le_succ → a0O, le_add_right → a0Z
open List renaming getElem?_eq_getElem → aZM, mem_cons → aZU, mem_cons_self → aZV, mem_append → aZW, getD_eq_getElem?_getD → a0c, range' → a0j, getElem?_eq_some_iff → a0r, mem_cons_of_mem → a0A, foldl_cons → a0G, mem_of_getElem? → a0I, mem_or_eq_of_mem_set → a0R, mem_map → a08, dropLast_eq_take → a1B, length_set → a1W, getLast?_eq_getElem? → a3w, eq_of_mem_replicate → a3L
open Except renaming ok → a1M
namespace Go.Proofs.YtoegidfbnkaabaaGreatDoor
variable{B' N d f i k k' n pc:Nat}
namespace P
section
variable{B:Nat}{m:Vm}
theorem gA.up(h:gA B m)(a:B<=B'):gA B' m:=⟨h.f,h.fr,h.ag,h.marks,h.mono,aZL h.cU a,aZL h.nh a,h.pc,h.vW,h.xA⟩
def gA.Iu(h:gA B m){s:Sr}(e:B<=B')(b:m.sr.tr <:+ s.tr)(g:s.fuel<=m.sr.fuel)(c:s.cU<=B'):gA B' { m with sr:=s,n:=n }:=
 ⟨h.f,h.fr,h.ag,fun i a d=>aZL (h.marks i a d) b.length_le,h.mono,c,by have:=h.nh;grind,h.pc,h.vW,h.xA⟩
def gA.slots(h:gA B m){x:Fm}(hx:m.fs[m.f]?=O x){sl:List Sl}(e:sl.length=x.slots.length)(ht:∀ y∈sl,Ah y):gA B { m with fs:=m.fs.set m.f { x with slots:=sl } }:=by
 have g:(m.fs.set m.f { x with slots:=sl }).length=m.fs.length:=a1W ..;have d:∀ (i:Nat) (z:Fm),(m.fs.set m.f { x with slots:=sl })[i]?=O z->(i=m.f/\z={ x with slots:=sl })\/m.fs[i]?=O z:=fun i z b=>by
  grind
 have c:=h.fr _ _ hx;refine⟨zg,fun i z b=>?_,fun i a j=>?_,h.marks,h.mono,h.cU,h.nh,h.pc,fun i z b=>?_,h.xA⟩
 .show acI (m.fs.set _ _).length z;rw[g];rcases d i z b with⟨-,rfl⟩| b
  .exact⟨c.code,by show _<=sl.length;rw[e];exact c.sl,ht,c.back⟩
  grind [fr]
 .grind [ag]
 .rcases d i z b with⟨-,rfl⟩| b
  .grind [vW]
  grind [vW]
theorem gA.cur(h:gA B m):∃ x,m.fs[m.f]?=O x:=⟨_,aZM h.f⟩
def al9{x:Fm}(hx:m.fs[m.f]?=O x)(k:Nat)(y:Sl):m.set k y={ m with fs:=m.fs.set m.f { x with slots:=x.slots.set k y } }:=by
 unfold Vm.set
 congr 1
 apply List.ext_getElem?;grind
def gA.set(h:gA B m)(k:Nat){y:Sl}(b:Ah y):gA B (m.set k y):=by
 obtain⟨x,hx⟩:=h.cur;rw[al9 hx];refine h.slots hx (a1W ..) fun z a=>?_;rcases a0R a with a | rfl
 .exact(h.fr _ _ hx).tm z a
 omega
def gA.O4{α:Type}(g:Vm->α->Nat×Sl)(b:∀ m a,Ah (g m a).2):∀ (L:List α) {m:Vm},gA B m->gA B (L.foldl (fun m p=>m.set (g m p).1 (g m p).2) m)
 | [],_,h=>h
 | a::L,_,h=>by rw[a0G];exact gA.O4 g b L (h.set _ (b _ _))
def gA.ama:∀ (L:List (Nat×Tm)) {m:Vm},(∀ p∈L,er p.2)->gA B m->gA B (L.foldl (fun m p=>m.set p.1 (.term p.2)) m)
 | [],_,_,h=>h
 | a::L,_,b,h=>by rw[a0G];exact gA.ama L (fun p c=>b p (a0A _ c)) (h.set _ (b a (aZV ..)))
def acJ{α:Type}(g:Vm->α->Nat×Sl):∀ (L:List α) (m:Vm),(L.foldl (fun m p=>m.set (g m p).1 (g m p).2) m).sr=m.sr
 | [],_=>rfl
 | a::L,m=>by rw[a0G,acJ g L];rfl
theorem gA.take(h:gA B m)(k:Nat):gA B { m with bw:=m.bw.take k }:=by
 have d:∀ {i:Nat} {a:Ga},(m.bw.take k)[i]?=O a->m.bw[i]?=O a:=fun{i a} c=>by
  grind
 refine⟨h.f,h.fr,fun i a c=>h.ag i a (d c),fun i a c=>h.marks i a (d c),fun i j a b e c g=>h.mono i j a b e (d c) (d g),h.cU,?_,h.pc,h.vW,fun i a c=>h.xA i a (d c)⟩;have:=h.nh;grind
def gA.again(h:gA B m){a:Ga}(n:WG m.fs.length a)(hm:a.mark=m.sr.tr.length)(o:a.pc<=200000)(k:B<=B')(p:m.bw.length+1+m.sr.fuel<=B'):gA B' { m with bw:=m.bw++[a] }:=by
 have e:∀ {i:Nat} {b:Ga},(m.bw++[a])[i]?=O b->(i<m.bw.length/\m.bw[i]?=O b)\/(i=m.bw.length/\b=a):=fun{i b} d=>by
  grind
 refine⟨h.f,h.fr,fun i b d=>?_,fun i b d=>?_,fun i j b c l d g=>?_,aZL h.cU k,zg,h.pc,h.vW,fun i b d=>?_⟩
 .rcases e d with⟨-,d⟩| ⟨-,rfl⟩
  .grind [ag]
  omega
 .rcases e d with⟨-,d⟩| ⟨-,rfl⟩
  .exact h.marks i b d
  grind
 .rcases e g with⟨q,g⟩| ⟨rfl,rfl⟩
  .rcases e d with⟨-,d⟩| ⟨he,-⟩
   .exact h.mono i j b c l d g
   omega
  .rcases e d with⟨-,d⟩| ⟨-,rfl⟩
   .rw[hm];exact h.marks i b d
   omega
 .rcases e d with⟨-,d⟩| ⟨-,rfl⟩
  .grind [xA]
  omega
def gA.frame(h:gA B m){c:Co}{sl:List Sl}(k:yL c)(l:c.slots<=sl.length)(ht:∀ y∈sl,Ah y)(o:f<m.fs.length)(p:pc<=200000):gA B { m with fs:=m.fs++[⟨c,sl,n,O f,pc,G⟩],f:=m.fs.length,pc:=0 }:=by
 have e:(m.fs++[(⟨c,sl,n,O f,pc,G⟩:Fm)]).length=m.fs.length+1:=zs;have g:∀ {i:Nat} {z:Fm},(m.fs++[(⟨c,sl,n,O f,pc,G⟩:Fm)])[i]?=O z->m.fs[i]?=O z\/z=⟨c,sl,n,O f,pc,G⟩:=fun{i z} d=>by
  grind
 refine⟨zg,fun i z d=>?_,fun i a d=>?_,h.marks,h.mono,h.cU,h.nh,zg,fun i z d=>?_,h.xA⟩
 .show acI (m.fs++_).length z;rw[e];rcases g d with d | rfl
  .have:=h.fr i z d;exact⟨this.code,this.sl,this.tm,fun b j=>by have:=this.back b j;omega⟩
  .exact⟨k,l,ht,fun b j=>zg⟩
 .show WG (m.fs++_).length a;rw[e];have:=h.ag i a d;exact⟨by have:=this.f;omega,this.others,this.args,this.qg⟩
 .rcases g d with d | rfl
  .grind [vW]
  omega
def O5(m:Vm)(rest:List Co)(args:List Sl)(f pc:Nat):List Ga:=match rest with | []=>[] | _=>[⟨m.sr.tr.length,f,pc,rest,args⟩]
theorem gA.enter(h:gA B m){B':Nat}{l:List Co}{args:List Sl}{f pc n:Nat}{m':Vm}(e:∀ c∈l,yL c)(j:∀ y∈args,Ah y)(k:args.length<=60)(g:f<m.fs.length)(i:pc<=200000)(r:n<=m.bw.length)(o:B<=B')(s:n+1+m.sr.fuel<=B')
  (hr:m.enter l args f pc n=O m'):gA B' m':=by
 cases l with
 | nil=>cases hr
 | cons c rest=>
  have hr:m'={ m with bw:=m.bw.take n++O5 m rest args f pc,fs:=m.fs++[⟨c,args++List.replicate (max c.slots args.length-args.length) .nil,n,O f,pc,G⟩],f:=m.fs.length,pc:=0 }:=(aZN hr).symm;have d:=e c (aZV ..);have p:gA B' { m with bw:=m.bw.take n++O5 m rest args f pc }:=by
   cases rest with
   | nil=>
    grind [O5,up,take]
   | cons c2 q=>
    refine(h.take n).again (a:=⟨m.sr.tr.length,f,pc,c2::q,args⟩) ⟨g,fun c d=>e c (a0A _ d),j,k⟩ J i o ?_;grind
  subst hr;refine p.frame d ?_ ?_ g i
  .grind
  .intro y b;rcases aZW.1 b with b | b
   .grind
   .rw[a3L b];trivial
def gA.back(h:gA B m){p:Bool×Vm}(hr:m.back=O p):gA B p.2:=by
 unfold Vm.back at hr;cases d:m.bw.getLast? with
 | none=>grind
 | some a=>
  rw[d] at hr;simp only at hr;rw[a3w] at d;have hlt:=(a0r.1 d).1;have hk:=h.marks _ _ d;have e:=h.ag _ _ d;have o:=h.xA _ _ d;have hu:∀ n,n<=m.bw.length-1->gA B { m with sr:=m.sr.iD a.mark,bw:=m.bw.take n }:=fun n t=>by
   have ht:=h.take n;have j:(m.sr.iD a.mark).tr.length<=m.sr.tr.length/\a.mark<=(m.sr.iD a.mark).tr.length:=by
    grind [Sr.iD,List.length_drop]
   refine⟨ht.f,ht.fr,ht.ag,fun i b g=>?_,ht.mono,?_,ht.nh,ht.pc,ht.vW,ht.xA⟩
   .have k:(m.bw.take n)[i]?=O b:=g;rw[List.getElem?_take] at k;split at k
    .exact aZL (h.mono i _ b a zo k d) j.2
    grind
   .have r:m.sr.tr.length+m.sr.fuel<=B:=h.cU;show(m.sr.iD a.mark).tr.length+m.sr.fuel<=B;omega
  have l:gA B { m with sr:=m.sr.iD a.mark }:=by
   have j:(m.sr.iD a.mark).tr.length<=m.sr.tr.length/\a.mark<=(m.sr.iD a.mark).tr.length:=by
    grind [Sr.iD,List.length_drop]
   refine⟨h.f,h.fr,h.ag,fun i b g=>?_,h.mono,?_,h.nh,h.pc,h.vW,h.xA⟩
   .have u:i<m.bw.length:=(a0r.1 g).1;exact aZL (h.mono i _ b a zo g d) j.2
   .have r:m.sr.tr.length+m.sr.fuel<=B:=h.cU;show(m.sr.iD a.mark).tr.length+m.sr.fuel<=B;omega
  cases q:a.others with
  | nil=>
   rw[q] at hr;have hr:=(aZN hr).symm;subst hr;have s:m.bw.dropLast=m.bw.take (m.bw.length-1):=a1B ..;simp only;rw[s];have:=hu (m.bw.length-1) (aZK _);exact⟨e.f,this.fr,this.ag,this.marks,this.mono,this.cU,this.nh,o,this.vW,this.xA⟩
  | cons c0 l0=>
   rw[q] at hr;simp only at hr;cases he:({ m with sr:=m.sr.iD a.mark }:Vm).enter (c0::l0) a.args a.f a.pc (m.bw.length-1) with
   | none=>grind
   | some m'=>
    rw[he] at hr;have hr:=(aZN hr).symm;subst hr;refine l.enter (fun c w=>e.others c zg) e.args e.qg e.f o zg (aZK _) ?_ he;have:=h.nh;show m.bw.length-1+1+m.sr.fuel<=B;omega
end
section
variable{B:Nat}{m:Vm}
def DD{α β:Type}{x:Except jB α}{k:α->Out β}{r:β}(h:Ir x k=O (.ok r)):∃ a,x = .ok a/\k a=O (.ok r):=by
 cases x with
 | error e=>cases h
 | ok a=>exact⟨a,J,h⟩
theorem acL{x:Fm}(hx:m.fs[m.f]?=O x)(b:∀ y∈x.slots,Ah y){t:Tm}(h:m.slot k = .term t):er t:=by
 unfold Vm.slot at h;rw[hx] at h;simp only[a0c] at h;cases a:x.slots[k]? with
 | none=>grind
 | some y=>
  rw[a] at h;have h:y = .term t:=h;subst h;exact b _ (a0I a)
def WH{x:Fm}(hx:m.fs[m.f]?=O x)(a:∀ y∈x.slots,Ah y){i:In}{t:Tm}(h:m.at i k = .ok t):er t:=by
 grind [Vm.at,acL]
def SI{x:Fm}(hx:m.fs[m.f]?=O x)(b:∀ y∈x.slots,Ah y):∀ {ks:List Nat} {l:List Tm},m.iK ks = .ok l->(∀ t∈l,er t)/\l.length=ks.length
 | [],l,h=>by
  rw[Vm.iK] at h;injection h with h;subst h;exact⟨fun _ h=>(by cases h),J⟩
 | k::r,l,h=>by
  rw[Vm.iK] at h;cases c:m.slot k with
  | term t=>
   rw[c] at h;simp only at h;cases a:m.iK r with
   | error e=>grind
   | ok l'=>
    rw[a] at h;injection h with h;subst h;obtain⟨g1,g2⟩:=SI hx b a;refine⟨fun u hu=>?_,zg⟩;rcases aZU.1 hu with rfl | hu
    .grind [acL]
    grind
  | nil=>grind
  | level n=>grind
def WI:∀ {l:List Tm},(∀ t∈l,er t)->jr l
 | [],_=>by simp_all [jr]
 | t::l,h=>by unfold jr;exact⟨h t (aZV ..),WI fun u hu=>h u (a0A _ hu)⟩
def amb:∀ {l:List Tm},jr l->∀ t∈l,er t
 | [],_,_,h=>zg
 | u::l,h,t,ht=>by
  unfold jr at h;rcases aZU.1 ht with rfl | ht
  .grind
  .exact amb h.2 t ht
def amc{a b:Tm}{s:Sr}{p:Bool×Sr}(h:lz f a b s=O (.ok p)):s.tr <:+ p.2.tr/\p.2.fuel<=s.fuel/\p.2.cU<=s.cU:=
 ⟨(MH f).tm h,((EN f).tm h).2,((EN f).tm h).1⟩
def amd{dK:List Pd}{i:In}{p:Bool×Vm}{x:Fm}(h:gA B m)(ht:mR m.sr.tr)(hx:m.fs[m.f]?=O x)(w:tV x.code.slots i)(K:∀ p∈dK,∀ c∈p.clauses,yL c)(hr:uR dK d i m=O (.ok p)) :
  gA (B+1) p.2/\p.2.sr.fuel<=m.sr.fuel:=by
 have C:=h.fr _ _ hx;have a:=h.up (a0O B);have L:m.sr.cU<=B:=h.cU;have MJ:=h.nh;unfold uR at hr;have j:∀ {q:Vm},O (a1M (A,q))=O (a1M p:Except jB (Bool×Vm))->p=(A,q):=fun h=>zg;have D:∀ {o:Out (Bool×Sr)},(∀ q,o=O (.ok q)->m.sr.tr <:+ q.2.tr/\q.2.fuel<=m.sr.fuel/\q.2.cU<=m.sr.cU)->Out.bind o (fun p=>O (.ok (p.1,{ m with sr:=p.2 })))=O (.ok p)->gA (B+1) p.2/\p.2.sr.fuel<=m.sr.fuel:=fun M N=>by
  obtain⟨q,r,g⟩| ⟨e,r,g⟩:=Out.bind_some N
  .injection g with g;injection g with g;subst g;obtain⟨g1,g2,g3⟩:=M q r;exact⟨h.Iu (a0O B) g1 g2 zo,g2⟩
  grind
 dsimp only at hr;by_cases hw:i.word=tT
 .rw[zip hw] at hr;have hr:=j hr;subst hr;have:=a.set (i.s.getD 0 0) (y:=.term (.var m.n)) (by simp_all [Ah,er]);exact⟨this.Iu (aZK _) (List.suffix_refl _) (aZK _) this.cU,aZK _⟩
 rw[bZ hw] at hr;clear hw;by_cases hw:i.word=[112,117,116]
 .rw[zip hw] at hr;have hr:=j hr;subst hr;obtain⟨t,P,Q,-⟩:=w.con (.inl hw);refine⟨a.set _ ?_,aZK _⟩;rw[P];exact Q
 rw[bZ hw] at hr;clear hw;by_cases hw:i.word=[99,111,110,115,116]
 .rw[zip hw] at hr;obtain⟨t,r,g⟩:=DD hr;exact D (fun q z=>amc z) g
 rw[bZ hw] at hr;clear hw;by_cases hw:i.word=[115,97,109,101]
 .rw[zip hw] at hr;obtain⟨t,r,g⟩:=DD hr;obtain⟨u,F,E⟩:=DD g;exact D (fun q z=>amc z) E
 rw[bZ hw] at hr;clear hw;by_cases hw:i.word=[109,97,107,101]
 .rw[zip hw] at hr;obtain⟨l,r,g⟩:=DD hr;have hr:=j g;subst hr;obtain⟨g1,g2⟩:=SI hx C.tm r;refine⟨a.set _ ?_,aZK _⟩;show er (.comp i.name l);unfold er;have:=w.qg;exact⟨w.SG,zg,WI g1⟩
 rw[bZ hw] at hr;clear hw;by_cases hw:i.word=[115,112,108,105,116]
 .rw[zip hw] at hr;obtain⟨t,r,g⟩:=DD hr;have R:=WH hx C.tm r;cases hw:fG m.sr.tr d t with
  | none=>grind
  | some S=>
   rw[hw] at g;have H:=vR ht R hw;cases S with
   | atom s=>grind
   | int s=>grind
   | comp name args=>
    simp only at g;split at g
    .have hr:=j g;subst hr;unfold er at H;refine⟨a.ama _ fun p T=>?_,?_⟩
     .exact amb H.2.2 _ (List.of_mem_zip T).2
     .have:=acJ (fun _ (p:Nat×Tm)=>(p.1,Sl.term p.2)) (i.s.tail.zip args) m;grind
    grind
   | var v=>
    have hr:=j g;subst hr;have F:=h.O4 (fun m (p:Nat×Nat)=>(p.1,.term (.var (m.n+p.2)))) (fun _ _=>by show er _;simp_all [er]) i.s.tail.zipIdx;have E:=acJ (fun m (p:Nat×Nat)=>(p.1,Sl.term (.var (m.n+p.2)))) i.s.tail.zipIdx m;have I:(m.sr.bind v (.comp i.name ((a0j m.n i.s.tail.length).map .var))).fuel=m.sr.fuel:=rfl;refine⟨F.Iu (a0O B) ?_ ?_ ?_,?_⟩
    .rw[E];exact List.suffix_cons _ _
    .grind
    .unfold Sr.cU at L ⊢;show((v,_)::m.sr.tr).length+m.sr.fuel<=B+1;grind
    grind
 rw[bZ hw] at hr;clear hw;by_cases hw:i.word=ni
 .rw[zip hw] at hr;obtain⟨l,r,g⟩:=DD hr;obtain⟨g1,g2⟩:=SI hx C.tm r;exact D (fun q z=>alW ht g1 (by rw[g2];exact w.test hw) z) g
 rw[bZ hw] at hr;clear hw;by_cases hw:i.word=uQ
 .rw[zip hw] at hr;have hr:=j hr;subst hr;exact⟨a.set _ trivial,aZK _⟩
 rw[bZ hw] at hr;clear hw;by_cases hw:i.word=qH
 .rw[zip hw] at hr;have hr:=j hr;subst hr;exact⟨a.set _ trivial,aZK _⟩
 rw[bZ hw] at hr;clear hw;by_cases hw:i.word=kR
 .rw[zip hw] at hr;split at hr
  .have hr:=j hr;subst hr;exact⟨a.take _,aZK _⟩
  grind
 rw[bZ hw] at hr;clear hw;by_cases hw:i.word=kf
 .rw[zip hw] at hr;have hr:=j hr;subst hr;have U:=w.one zg;refine⟨h.again ⟨h.f,fun _ h=>zg,fun _ h=>zg,zs⟩ J ?_ (a0O B) zo,aZK _⟩;have:i.s.getD 0 0<100000:=by
   rw[a0c,aZM zo];exact w.small _ (List.getElem_mem _)
  grind
 rw[bZ hw] at hr;clear hw;by_cases hw:i.word=jL
 .rw[zip hw] at hr;have hr:=j hr;subst hr;have U:=w.one zg;have:i.s.getD 0 0<100000:=by
   rw[a0c,aZM zo];exact w.small _ (List.getElem_mem _)
  exact⟨⟨a.f,a.fr,a.ag,a.marks,a.mono,a.cU,a.nh,zg,a.vW,a.xA⟩,aZK _⟩
 rw[bZ hw] at hr;clear hw;by_cases hw:i.word=Af
 .rw[zip hw] at hr;split at hr
  .grind
  .rename_i q z;split at hr
   .grind
   .split at hr
    .grind
    .rename_i m' he;have hr:=j hr;subst hr;have W:=List.mem_of_find?_eq_some z;have X:∀ y∈i.s.map m.slot,Ah y:=fun y hy=>by
      obtain⟨k,-,rfl⟩:=a08.1 hy;cases hs:m.slot k with
      | term t=>exact acL hx C.tm hs
      | nil=>trivial
      | level n=>trivial
     refine⟨h.enter (K q W) X (by rw[List.length_map];exact w.qg) h.f h.pc (aZK _) (a0O B) zo he,?_⟩;rename_i ed;cases gL:q.clauses with
     | nil=>grind
     | cons c0 l0=>rw[gL] at he;have:=(aZN he).symm;grind
 rw[bZ hw] at hr;clear hw;by_cases hw:i.word=[114,101,116]
 .rw[zip hw] at hr;rw[hx] at hr;simp only at hr;split at hr
  .grind
  .rename_i b I;have hr:=j hr;subst hr;exact⟨⟨C.back b I,a.fr,a.ag,a.marks,a.mono,a.cU,a.nh,a.vW _ _ hx,a.vW,a.xA⟩,aZK _⟩
 grind
end
section
variable{N:Nat}
mutual
def VL (n:Nat):Tm->Prop
 | .var i=>i<n
 | .comp _ l=>xB n l
 | .atom _=>True
 | .int _=>True
 termination_by structural t=>t
def xB (n:Nat):List Tm->Prop
 | []=>True
 | t::a=>VL n t/\xB n a
 termination_by structural t=>t
end
def nC(n:Nat):Tr->Prop
 | []=>True
 | (i,t)::r=>i<n/\VL n t/\nC n r
mutual
theorem VL.up {n m:Nat} (h:n<=m):∀ {t:Tm},VL n t->VL m t
 | .var i,ht=>by grind [VL]
 | .comp s l,ht=>by unfold VL at ht ⊢;exact xB.up h ht
 | .atom s,_=>by simp_all [VL]
 | .int s,_=>by simp_all [VL]
theorem xB.up {n m:Nat} (h:n<=m):∀ {l:List Tm},xB n l->xB m l
 | [],_=>by simp_all [xB]
 | t::l,ht=>by unfold xB at ht ⊢;exact⟨VL.up h ht.1,xB.up h ht.2⟩
end
theorem nC.up{n m:Nat}(h:n<=m):∀ {t:Tr},nC n t->nC m t
 | [],_=>trivial
 | (i,t)::r,ht=>⟨by have:=ht.1;omega,ht.2.1.up h,nC.up h ht.2.2⟩
def nC.drop{n:Nat}:∀ (k:Nat) {t:Tr},nC n t->nC n (t.drop k)
 | 0,_,h=>h
 | _+1,[],h=>h
 | k+1,(_,_)::_,h=>nC.drop k h.2.2
def ame:∀ {tr:Tr} {i:Nat} {t:Tm},nC N tr->look i tr=O t->VL N t
 | [],_,_,_,h=>by cases h
 | (j,u)::r,i,t,h,a=>by
  unfold look at a;split at a
  .injection a with a;subst a;exact h.2.1
  .exact ame h.2.2 a
def WJ{tr:Tr}(h:nC N tr):∀ {f:Nat} {t a:Tm},VL N t->fG tr f t=O a->VL N a
 | f,.atom s,a,ht,hw=>by simp_all [fG]
 | f,.int s,a,ht,hw=>by simp_all [fG]
 | f,.comp s l,a,ht,hw=>by simp_all [fG]
 | 0,.var i,a,ht,hw=>by
  grind [fG]
 | f+1,.var i,a,ht,hw=>by
  rw[fG] at hw;split at hw
  .grind
  .rename_i t b;exact WJ h (ame h b) hw
theorem aG4{t:Tm}{s:Sr}{p:Bool×Sr}(hk:nC N s.tr)(c:VL N (.var i))(ht:VL N t)(h:sU f i t s=O (.ok p)):nC N p.2.tr:=by
 unfold sU at h;obtain⟨q,d,a⟩| ⟨e,d,a⟩:=Out.bind_some h
 .obtain⟨b,s1⟩:=q;have g:s1.tr=s.tr:=((Ip f).tm d).1;cases b with
  | true=>
   grind
  | false=>
   simp only[Bool.false_eq_true,if_false,aZG,Except.ok.injEq] at a;subst a;show nC N ((i,t)::s1.tr);rw[g];unfold VL at c;exact⟨c,ht,hk⟩
 grind
def O7:∀ f,(∀ a b s p,nC N s.tr->VL N a->VL N b->lz f a b s=O (.ok p)->nC N p.2.tr)/\(∀ l r s p,nC N s.tr->xB N l->xB N r->mZ f l r s=O (.ok p)->nC N p.2.tr)
 | 0=>⟨fun _ _ _ _ _ _ _ h=>(by cases h),fun _ _ _ _ _ _ _ h=>(by cases h)⟩
 | f+1=>by
  obtain⟨i,j⟩:=O7 f;constructor
  .intro a b s p ht c d h;rw[lz] at h;split at h
   .grind
   .cases hw:fG s.tr f a with
    | none=>grind
    | some u=>
     cases hv:fG s.tr f b with
     | none=>grind
     | some v=>
      rw[hw,hv] at h;have k:nC N s.dec.tr:=ht;have hu:=WJ ht c hw;have m:=WJ ht d hv;grind [aG4,VL]
  .intro l r s p ht g hr h;cases l with
   | nil=>grind [mZ]
   | cons a l=>
    cases r with
    | nil=>grind [mZ]
    | cons b r=>
     unfold xB at g hr;rw[mZ] at h;obtain⟨q,g1,g2⟩| ⟨e,g1,g2⟩:=Out.bind_some h<;>grind
def amf:∀ {l:List Tm},xB N l->∀ t∈l,VL N t
 | [],_,_,h=>zg
 | u::l,h,t,ht=>by
  unfold xB at h;rcases aZU.1 ht with rfl | ht
  .grind
  .exact amf h.2 t ht
theorem acM:∀ {l:List Tm},(∀ t∈l,VL N t)->xB N l
 | [],_=>by simp_all [xB]
 | t::l,h=>by unfold xB;exact⟨h t (aZV ..),acM fun u hu=>h u (a0A _ hu)⟩
theorem amg:∀ {tr:Tr} {i:Nat},nC N tr->N<=i->look i tr=V
 | [],_,_,_=>rfl
 | (j,u)::r,i,h,a=>by
  unfold look;rw[bZ (by have:=h.1;omega)];exact amg h.2.2 a
def aG5{tr:Tr}(h:nC N tr){v:Nat}(hv:v<N){s:Bs}:¬ EO tr v (.comp s ((a0j N k).map .var)):=by
 intro b;cases b with
 | arg c d=>
  obtain⟨j,a,rfl⟩:=a08.1 c;rw[List.mem_range'] at a;obtain⟨q,e,f⟩:=a;cases d with
  | here _=>omega
  | via g _=>grind [amg]
end
section
variable{B told:Nat}{m:Vm}
def Ai(n:Nat):Sl->Prop
 | .term t=>VL n t
 | _=>True
theorem Ai.up{n k:Nat}(h:n<=k){y:Sl}(a:Ai n y):Ai k y:=by
 cases y with
 | term t=>exact VL.up h a
 | nil=>trivial
 | level _=>trivial
structure jD(told:Nat)(m:Vm):Prop where
 tr:nC m.n m.sr.tr
 fr:∀ (i:Nat) (x:Fm),m.fs[i]?=O x->∀ y∈x.slots,Ai m.n y
 ag:∀ (i:Nat) (a:Ga),m.bw[i]?=O a->∀ y∈a.args,Ai m.n y
 sr:lh m.sr
 ask:∀ (i:Nat) (x:Fm),m.fs[i]?=O x->x.ask=A->told<=x.slots.length
def jD.Iu(h:jD told m){s:Sr}(c:m.n<=n)(d:nC n s.tr)(e:lh s):jD told { m with sr:=s,n:=n }:=
 ⟨d,fun i x hx y b=>(h.fr i x hx y b).up c,fun i a f y b=>(h.ag i a f y b).up c,e,h.ask⟩
def jD.slots(h:jD told m){x:Fm}(hx:m.fs[m.f]?=O x){sl:List Sl}(c:sl.length=x.slots.length)(ht:∀ y∈sl,Ai m.n y):jD told { m with fs:=m.fs.set m.f { x with slots:=sl } }:=by
 have b:∀ (i:Nat) (z:Fm),(m.fs.set m.f { x with slots:=sl })[i]?=O z->(i=m.f/\z={ x with slots:=sl })\/m.fs[i]?=O z:=fun i z a=>by
  grind
 refine⟨h.tr,fun i z a y d=>?_,h.ag,h.sr,fun i z a hk=>?_⟩
 .rcases b i z a with⟨-,rfl⟩| a
  .grind
  grind [fr]
 .rcases b i z a with⟨-,rfl⟩| a
  .show told<=sl.length;rw[c];exact h.ask _ _ hx hk
  .exact h.ask i z a hk
def jD.set(h:jD told m)(b:m.f<m.fs.length)(k:Nat){y:Sl}(c:Ai m.n y):jD told (m.set k y):=by
 obtain⟨x,hx⟩:∃ x,m.fs[m.f]?=O x:=⟨_,aZM b⟩;rw[al9 hx];refine h.slots hx (a1W ..) fun z a=>?_;rcases a0R a with a | rfl
 .grind [fr]
 omega
def aG6(k:Nat)(y:Sl):(m.set k y).fs.length=m.fs.length:=List.length_modify ..
def jD.O4{α:Type}(g:α->Nat×Sl):∀ (L:List α) {m:Vm},jD told m->m.f<m.fs.length->(∀ a∈L,Ai m.n (g a).2)->jD told (L.foldl (fun m p=>m.set (g p).1 (g p).2) m)
 | [],_,h,_,_=>h
 | a::L,m,h,c,d=>by
  rw[a0G];exact jD.O4 g L (h.set c _ (d a (aZV ..))) (by rw[aG6];exact c) fun b e=>d b (a0A _ e)
theorem jD.take(h:jD told m)(k:Nat):jD told { m with bw:=m.bw.take k }:=by
 refine⟨h.tr,h.fr,fun i a b=>?_,h.sr,h.ask⟩;grind [ag]
def jD.again(h:jD told m){a:Ga}(e:∀ y∈a.args,Ai m.n y):jD told { m with bw:=m.bw++[a] }:=by
 refine⟨h.tr,h.fr,fun i b c=>?_,h.sr,h.ask⟩;have c:(m.bw++[a])[i]?=O b:=c;rcases aZW.1 (a0I c) with d | d
 .obtain⟨j,f,rfl⟩:=List.getElem_of_mem d;grind [aZM,ag]
 grind
def jD.frame(h:jD told m){c:Co}{sl:List Sl}(ht:∀ y∈sl,Ai m.n y):jD told { m with fs:=m.fs++[⟨c,sl,n,O f,pc,G⟩],f:=m.fs.length,pc:=0 }:=by
 have b:∀ {i:Nat} {z:Fm},(m.fs++[(⟨c,sl,n,O f,pc,G⟩:Fm)])[i]?=O z->m.fs[i]?=O z\/z=⟨c,sl,n,O f,pc,G⟩:=fun{i z} a=>by
  grind
 refine⟨h.tr,fun i z a y d=>?_,h.ag,h.sr,fun i z a hk=>?_⟩
 .rcases b a with a | rfl
  .grind [fr]
  grind
 .rcases b a with a | rfl
  .exact h.ask i z a hk
  grind
theorem jD.enter(h:jD told m){l:List Co}{args:List Sl}{f pc n:Nat}{m':Vm}(d:∀ y∈args,Ai m.n y)(hr:m.enter l args f pc n=O m'):jD told m':=by
 cases l with
 | nil=>cases hr
 | cons c rest=>
  have hr:m'={ m with bw:=m.bw.take n++O5 m rest args f pc,fs:=m.fs++[⟨c,args++List.replicate (max c.slots args.length-args.length) .nil,n,O f,pc,G⟩],f:=m.fs.length,pc:=0 }:=(aZN hr).symm;have e:jD told { m with bw:=m.bw.take n++O5 m rest args f pc }:=by
   cases rest with
   | nil=>
    grind [O5,take]
   | cons c2 g=>exact(h.take n).again (a:=⟨m.sr.tr.length,f,pc,c2::g,args⟩) d
  subst hr;refine e.frame fun y b=>?_;rcases aZW.1 b with b | b
  .grind
  .rw[a3L b];trivial
def jD.back(h:jD told m){p:Bool×Vm}(hr:m.back=O p):jD told p.2:=by
 unfold Vm.back at hr;cases b:m.bw.getLast? with
 | none=>grind
 | some a=>
  rw[b] at hr;simp only at hr;rw[a3w] at b;have hu:jD told { m with sr:=m.sr.iD a.mark }:=h.Iu (aZK _) (nC.drop _ h.tr) (h.sr.iD _);cases c:a.others with
  | nil=>
   rw[c] at hr;have hr:=(aZN hr).symm;subst hr;have:=hu.take (m.bw.length-1);rw[show m.bw.dropLast=m.bw.take (m.bw.length-1) from a1B ..];exact⟨this.tr,this.fr,this.ag,this.sr,this.ask⟩
  | cons c0 l0=>
   grind [sr,enter,aZN,ag]
end
section
variable{B told:Nat}{m:Vm}
def acN{x:Fm}(hx:m.fs[m.f]?=O x)(a:∀ y∈x.slots,Ai m.n y)(k:Nat):Ai m.n (m.slot k):=by
 unfold Vm.slot;rw[hx];simp only[a0c];cases b:x.slots[k]? with
 | none=>trivial
 | some y=>grind
def WL{x:Fm}(hx:m.fs[m.f]?=O x)(b:∀ y∈x.slots,Ai m.n y){i:In}{t:Tm}(h:m.at i k = .ok t):VL m.n t:=by
 unfold Vm.at at h;have a:=acN hx b (i.s.getD k 0);cases c:m.slot (i.s.getD k 0) with
 | term u=>rw[c] at h a;injection h with h;subst h;exact a
 | nil=>grind
 | level n=>grind
theorem acO{x:Fm}(hx:m.fs[m.f]?=O x)(a:∀ y∈x.slots,Ai m.n y):∀ {ks:List Nat} {l:List Tm},m.iK ks = .ok l->∀ t∈l,VL m.n t
 | [],l,h=>by
  simp_all [Vm.iK]
 | k::r,l,h=>by
  rw[Vm.iK] at h;have b:=acN hx a k;cases d:m.slot k with
  | term t=>
   rw[d] at h b;simp only at h;cases c:m.iK r with
   | error e=>grind
   | ok l'=>
    rw[c] at h;injection h with h;subst h;have g1:=acO hx a c;intro u hu;rcases aZU.1 hu with rfl | hu
    .exact b
    grind
  | nil=>grind
  | level n=>grind
def aG7{name:Bs}{args:List Tm}{s:Sr}{p:Bool×Sr}(ht:nC N s.tr)(g:lh s)(n:∀ t∈args,VL N t)(o:∀ t∈args,er t)(l:jG name=args.length)(h:xx f name args s=O (.ok p)):nC N p.2.tr:=by
 have hv:∀ j,j<args.length->VL N (args.getD j default):=fun j m=>by
  grind
 have i:∀ j,j<args.length->er (args.getD j default):=fun j m=>by
  grind
 have two:∀ x∈([[61],[92,61],[61,61],[105,115],[60],[62],[61,60],[62,61],[61,58,61]]:List Bs),name=x->1<args.length:=fun x hx e=>by
  subst e;have:jG name=2:=by
   simp only[aZU,List.not_mem_nil,or_false] at hx;rcases hx with rfl | rfl | rfl | rfl | rfl | rfl | rfl | rfl | rfl<;>rfl
  omega
 have tr:∀ {q:Sr},q.tr=s.tr->nC N q.tr:=fun e=>zg;unfold xx at h;split at h
 .grind
 split at h
 .rename_i d;have:=two [61] zs d;exact(O7 f).1 _ _ _ _ ht (hv 0 zo) (hv 1 this) h
 split at h
 .rename_i d;have:=two [92,61] zs d;obtain⟨q,b,a⟩| ⟨e,b,a⟩:=Out.bind_some h
  .injection a with a;injection a with a;subst a;exact nC.drop _ ((O7 f).1 _ _ _ _ ht (hv 0 zo) (hv 1 this) b)
  grind
 split at h
 .exact tr ((SE f).tm h).1
 split at h
 .rename_i d;have:=two [105,115] zs d;obtain⟨q,b,a⟩| ⟨e,b,a⟩:=Out.bind_some h
  .obtain⟨g1,g2,g3⟩:=Dv f g.ok (i 1 this) b;exact(O7 f).1 _ _ _ _ (tr g1) (hv 0 zo) (by simp_all [VL]) a
  grind
 split at h
 .grind
 split at h
 .grind
 .obtain⟨q,b,a⟩| ⟨e,b,a⟩:=Out.bind_some h
  .obtain⟨q2,k,c⟩| ⟨e,k,c⟩:=Out.bind_some a
   .injection c with c;injection c with c;subst c;have a:(2:Int)=args.length:=by
     unfold jG at l;grind
    obtain⟨g1,g2,-⟩:=Dv f g.ok (i 0 zo) b;obtain⟨g3,g4,-⟩:=Dv f (by rw[g1];exact g.ok) (i 1 zo) k;grind
   grind
  grind
end
section
variable{B told:Nat}{m:Vm}
def aG8{dK:List Pd}{i:In}{p:Bool×Vm}{x:Fm}(h:jD told m)(P:gA B m)(hx:m.fs[m.f]?=O x)(z:tV x.code.slots i)(hr:uR dK d i m=O (.ok p)):jD told p.2:=by
 have F:=P.fr _ _ hx;have C:=h.fr _ _ hx;have w:=P.f;unfold uR at hr;have g:∀ {q:Vm},O (a1M (A,q))=O (a1M p:Except jB (Bool×Vm))->p=(A,q):=fun h=>zg;have I:∀ {o:Out (Bool×Sr)},(∀ q,o=O (.ok q)->nC m.n q.2.tr/\lh q.2)->Out.bind o (fun p=>O (.ok (p.1,{ m with sr:=p.2 })))=O (.ok p)->jD told p.2:=fun T U=>by
  obtain⟨q,c,b⟩| ⟨e,c,b⟩:=Out.bind_some U
  .injection b with b;injection b with b;subst b;obtain⟨g1,g2⟩:=T q c;exact h.Iu (aZK _) g1 g2
  grind
 dsimp only at hr;by_cases hw:i.word=tT
 .rw[zip hw] at hr;have hr:=g hr;subst hr;have c:jD told { m with n:=m.n+1 }:=h.Iu (a0O _) (h.tr.up (a0O _)) h.sr;exact c.set w (i.s.getD 0 0) (y:=.term (.var m.n)) (by show VL _ _;simp_all [VL,Nat.lt_succ_self])
 rw[bZ hw] at hr;clear hw;by_cases hw:i.word=[112,117,116]
 .rw[zip hw] at hr;have hr:=g hr;subst hr;obtain⟨t,K,Q,D⟩:=z.con (.inl hw);refine h.set w _ ?_;rw[K];show VL m.n t;cases t with
  | atom s=>simp_all [VL]
  | int s=>simp_all [VL]
  | var i=>cases D
  | comp s l=>cases D
 rw[bZ hw] at hr;clear hw;by_cases hw:i.word=[99,111,110,115,116]
 .rw[zip hw] at hr;obtain⟨t,c,b⟩:=DD hr;obtain⟨t0,K,Q,D⟩:=z.con (.inr hw);have W:VL m.n t0:=by
   cases t0 with
   | atom s=>simp_all [VL]
   | int s=>simp_all [VL]
   | var i=>cases D
   | comp s l=>cases D
  rw[K] at b;exact I (fun q r=>⟨(O7 d).1 _ _ _ _ h.tr (WL hx C c) W r,h.sr.Gn (WH hx F.tm c) Q r⟩) b
 rw[bZ hw] at hr;clear hw;by_cases hw:i.word=[115,97,109,101]
 .rw[zip hw] at hr;obtain⟨t,c,b⟩:=DD hr;obtain⟨u,E,X⟩:=DD b;exact I (fun q r=>⟨(O7 d).1 _ _ _ _ h.tr (WL hx C c) (WL hx C E) r,h.sr.Gn (WH hx F.tm c) (WH hx F.tm E) r⟩) X
 rw[bZ hw] at hr;clear hw;by_cases hw:i.word=[109,97,107,101]
 .rw[zip hw] at hr;obtain⟨l,c,b⟩:=DD hr;have hr:=g b;subst hr;refine h.set w _ ?_;show VL m.n (.comp i.name l);grind [VL,acM,acO]
 rw[bZ hw] at hr;clear hw;by_cases hw:i.word=[115,112,108,105,116]
 .rw[zip hw] at hr;obtain⟨t,c,b⟩:=DD hr;have SJ:=WL hx C c;cases hw:fG m.sr.tr d t with
  | none=>grind
  | some t'=>
   rw[hw] at b;have H:=WJ h.tr SJ hw;cases t' with
   | atom s=>grind
   | int s=>grind
   | comp name args=>
    simp only at b;split at b
    .have hr:=g b;subst hr;unfold VL at H;exact jD.O4 (fun(p:Nat×Tm)=>(p.1,Sl.term p.2)) _ h w fun p R=>amf H _ (List.of_mem_zip R).2
    grind
   | var v=>
    have hr:=g b;subst hr;unfold VL at H;have vZ:look v m.sr.tr=none:=Iq hw;have c:jD told { m with n:=m.n+i.s.tail.length }:=h.Iu (a0Z _ _) (h.tr.up (a0Z _ _)) h.sr;have E:=jD.O4 (fun(p:Nat×Nat)=>(p.1,Sl.term (.var (m.n+p.2)))) i.s.tail.zipIdx c w (fun p R=>by
     show VL _ _;grind [VL,List.mem_zipIdx])
    have e1:∀ (L:List (Nat×Nat)) (m1:Vm) (k:Nat),m1.n=m.n->L.foldl (fun m' (p:Nat×Nat)=>m'.set p.1 (.term (.var (m.n+p.2)))) { m1 with n:=k }={ (L.foldl (fun m' (p:Nat×Nat)=>m'.set p.1 (.term (.var (m'.n+p.2)))) m1) with n:=k }:=by
     intro L;induction L with
     | nil=>grind
     | cons a L ih=>
      intro m1 k hk;rw[a0G,a0G,<- ih (m1.set a.1 (.term (.var (m1.n+a.2)))) k hk,hk];rfl
    rw[e1 _ m _ rfl] at E;have M:VL (m.n+i.s.tail.length) (.comp i.name ((a0j m.n i.s.tail.length).map .var)):=by
     unfold VL;refine acM fun t ht=>?_;obtain⟨j,hj,rfl⟩:=a08.1 ht;grind [List.mem_range',VL]
    have N:er (.comp i.name ((a0j m.n i.s.tail.length).map .var)):=by
     unfold er;have:=z.qg;refine⟨z.SG,zg,WI fun t ht=>?_⟩;obtain⟨j,hj,rfl⟩:=a08.1 ht;exact al1
    exact E.Iu (aZK _) (show nC (m.n+i.s.tail.length) ((v,_)::m.sr.tr) from⟨zo,M,h.tr.up (a0Z _ _)⟩)
     ⟨show yC ((v,_)::m.sr.tr) from⟨h.sr.EU,vZ,aG5 h.tr H⟩,show mR ((v,_)::m.sr.tr) from⟨N,h.sr.ok⟩⟩
 rw[bZ hw] at hr;clear hw;by_cases hw:i.word=ni
 .rw[zip hw] at hr;obtain⟨l,c,b⟩:=DD hr;obtain⟨g1,g2⟩:=SI hx F.tm c;have S:jG i.name=l.length:=by rw[g2];exact z.test hw
  exact I (fun q r=>⟨aG7 h.tr h.sr (acO hx C c) g1 S r,h.sr.test g1 S r⟩) b
 rw[bZ hw] at hr;clear hw;by_cases hw:i.word=uQ
 .rw[zip hw] at hr;have hr:=g hr;subst hr;exact h.set w _ trivial
 rw[bZ hw] at hr;clear hw;by_cases hw:i.word=qH
 .rw[zip hw] at hr;have hr:=g hr;subst hr;exact h.set w _ trivial
 rw[bZ hw] at hr;clear hw;by_cases hw:i.word=kR
 .rw[zip hw] at hr;split at hr
  .have hr:=g hr;subst hr;exact h.take _
  grind
 rw[bZ hw] at hr;clear hw;by_cases hw:i.word=kf
 .rw[zip hw] at hr;have hr:=g hr;subst hr;exact h.again fun _ h=>zg
 rw[bZ hw] at hr;clear hw;by_cases hw:i.word=jL
 .rw[zip hw] at hr;have hr:=g hr;subst hr;exact⟨h.tr,h.fr,h.ag,h.sr,h.ask⟩
 rw[bZ hw] at hr;clear hw;by_cases hw:i.word=Af
 .rw[zip hw] at hr;split at hr
  .grind
  .split at hr
   .grind
   .split at hr
    .grind
    .rename_i m' he;have hr:=g hr;subst hr;refine h.enter (fun y hy=>?_) he;obtain⟨k,-,rfl⟩:=a08.1 hy;simp_all [acN]
 rw[bZ hw] at hr;clear hw;by_cases hw:i.word=[114,101,116]
 .rw[zip hw,hx] at hr;simp only at hr;split at hr
  .grind
  .have hr:=g hr;subst hr;exact⟨h.tr,h.fr,h.ag,h.sr,h.ask⟩
 grind
end
section
variable{B told:Nat}{m:Vm}
def aHb{l:List Co}{args:List Sl}{m':Vm}(h:m.enter l args f pc n=O m'):m'.sr=m.sr:=by
 cases l with
 | nil=>cases h
 | cons c l=>have:=(aZN h).symm;grind
def amh{p:Bool×Vm}(h:m.back=O p):p.2.sr.fuel=m.sr.fuel:=by
 unfold Vm.back at h;split at h
 .grind
 .split at h
  .have:=(aZN h).symm;subst this;rfl
  .split at h
   .grind
   .rename_i m' he;have:=(aZN h).symm;subst this;show m'.sr.fuel=_;rw[aHb he];rfl
theorem gA.dec(a:gA B m)(c:m.sr.fuel≠0)(b:m.pc+1<=200000):gA (B-1) { m with sr:=m.sr.dec,pc:=m.pc+1 }/\B-1+1=B:=by
 have d:m.sr.tr.length+m.sr.fuel<=B:=a.cU;have e:=a.nh;exact⟨⟨a.f,a.fr,a.ag,a.marks,a.mono,by show m.sr.tr.length+(m.sr.fuel-1)<=B-1;omega,by show m.bw.length+(m.sr.fuel-1)<=B-1;omega,b,a.vW,a.xA⟩,zo⟩
theorem jD.dec(h:jD told m):jD told { m with sr:=m.sr.dec,pc:=m.pc+1 }:=⟨h.tr,h.fr,h.ag,⟨h.sr.EU,h.sr.ok⟩,h.ask⟩
theorem WM{dK:List Pd}(k:∀ p∈dK,∀ c∈p.clauses,yL c){d:Nat}:∀ (f:Nat) (m:Vm) (p:Bool×Vm),gA B m->jD told m->yJ dK d f m=O (.ok p)->gA B p.2/\jD told p.2/\p.2.sr.fuel<=m.sr.fuel/\(p.1=A->∃ x,p.2.fs[p.2.f]?=O x/\x.ask=A)
 | 0,_,_,_,_,h=>by grind [yJ]
 | f+1,m,p,l,y,h=>by
  rw[yJ] at h;by_cases t:m.sr.fuel=0
  .grind
  rw[bZ t] at h;obtain⟨x,hx⟩:=l.cur;have u:=l.fr _ _ hx;rw[hx] at h;simp only at h;cases n:x.code.ins[m.pc]? with
  | none=>grind
  | some i=>
   rw[n] at h;simp only at h;have K:=(a0r.1 n).1;have hlen:=u.code.len;have a:tV x.code.slots i:=u.code.ins _ (a0I n);obtain⟨o,z⟩:=l.dec t zo;have r:=y.dec;have C:m.sr.dec.fuel<=m.sr.fuel:=Nat.sub_le _ _;by_cases w:i.word=[100,111,110,101]
   .rw[zip w] at h;split at h
    .rename_i D;injection h with h;injection h with h;subst h;exact⟨o.up zo,r,C,fun _=>⟨x,hx,D⟩⟩
    .cases h
   .rw[bZ w] at h;obtain⟨q,s,g⟩| ⟨e,s,g⟩:=Out.bind_some h
    .obtain⟨b,m1⟩:=q;obtain⟨g1,g2⟩:=amd o r.sr.ok hx a k s;have g3:=aG8 r o hx a s;rw[z] at g1;have L:m1.sr.fuel<=m.sr.dec.fuel:=g2;cases b with
     | true=>
      obtain⟨E,F,H,I⟩:=WM k f m1 p g1 g3 g;grind
     | false=>
      simp only[Bool.false_eq_true,if_false] at g;cases j:m1.back with
      | none=>grind
      | some q=>
       rw[j] at g;have g4:=g1.back j;have g5:=g3.back j;have g6:=amh j;obtain⟨b2,m2⟩:=q;have g6:m2.sr.fuel=m1.sr.fuel:=g6;cases b2 with
       | false=>
        grind
       | true=>
        obtain⟨E,F,H,I⟩:=WM k f m2 p g4 g5 g;grind
    grind
def aHc{dK:List Pd}(e:∀ p∈dK,∀ c∈p.clauses,yL c){p:Bool×Vm}(g:gA B m)(i:jD told m)(h:ML dK d f m=O (.ok p)):gA B p.2/\jD told p.2/\p.2.sr.fuel<=m.sr.fuel/\(p.1=A->∃ x,p.2.fs[p.2.f]?=O x/\x.ask=A):=by
 unfold ML at h;by_cases j:0<m.pc
 .rw[zip j] at h;cases a:m.back with
  | none=>grind
  | some q=>
   rw[a] at h;have g4:=g.back a;have g5:=i.back a;have g6:=amh a;obtain⟨b,m1⟩:=q;have g6:m1.sr.fuel=m.sr.fuel:=g6;cases b with
   | false=>
    injection h with h;injection h with h;subst h;exact⟨g4,g5,Nat.le_of_eq g6,fun h=>by cases h⟩
   | true=>
    obtain⟨k,l,o,n⟩:=WM e f m1 p g4 g5 h;exact⟨k,l,zo,n⟩
 grind [WM]
end
structure KvT(Q:List Bs->Prop)(T:List Tok)(f:Nat):Prop where
 Ez:∀ k v d x k' v',Q v->pN T f k v d=O (.ok x k' v')->Q v'
 args:∀ k v d a acc x k' v',Q v->oW T f k v d a acc=O (.ok x k' v')->Q v'
 list:∀ k v d x k' v',Q v->qV T f k v d=O (.ok x k' v')->Q v'
 elems:∀ k v d acc x k' v',Q v->rK T f k v d acc=O (.ok x k' v')->Q v'
 oper:∀ l k v d x k' v',Q v->jt T f l k v d=O (.ok x k' v')->Q v'
 more:∀ l y k v d x k' v',Q v->qx T f l y k v d=O (.ok x k' v')->Q v'
def WN{Q:List Bs->Prop}{T:List Tok}(i:∀ j k v x k' v',(tk T j).kind=2->Q v->zj (tk T j) k v = .ok x k' v'->Q v'):∀ f,KvT Q T f
 | 0=>⟨by simp_all [pN],by simp_all [oW],by simp_all [qV],by simp_all [rK],by simp_all [jt],by simp_all [qx]⟩
 | f+1=>by
  have ih:=WN i f;refine⟨?_,?_,?_,?_,?_,?_⟩
  .intro k v d x k' v' hv h;rw[pN] at h;split at h
   .grind
   split at h
   .grind
   split at h
   .grind
   split at h
   .split at h
    .obtain⟨a,e,v1,c,b⟩:=ee h;obtain⟨rfl,rfl,rfl⟩:=nP b;exact ih.args _ _ _ _ _ _ _ _ hv c
    grind
   split at h
   .grind
   split at h
   .obtain⟨a,e,v1,c,b⟩:=ee h;obtain⟨rfl,rfl,rfl⟩:=nP b;exact ih.oper _ _ _ _ _ _ _ hv c
   split at h
   .exact ih.list _ _ _ _ _ _ hv h
   grind
  .intro k v d a acc x k' v' hv h;rw[oW] at h;obtain⟨y,e,v1,c,b⟩:=ee h;have g:=ih.oper _ _ _ _ _ _ _ hv c;split at b
   .exact ih.args _ _ _ _ _ _ _ _ g b
   grind
  .intro k v d x k' v' hv h;rw[qV] at h;split at h
   .grind
   .obtain⟨all,e,v1,c,b⟩:=ee h;have g:=ih.elems _ _ _ _ _ _ _ hv c;split at b
    .obtain⟨y,o,v2,m,n⟩:=ee b;obtain⟨rfl,rfl,rfl⟩:=nP n;exact ih.oper _ _ _ _ _ _ _ g m
    .obtain⟨rfl,rfl,rfl⟩:=nP b;omega
  .intro k v d acc x k' v' hv h;rw[rK] at h;obtain⟨y,e,v1,c,b⟩:=ee h;have g:=ih.oper _ _ _ _ _ _ _ hv c;split at b
   .exact ih.elems _ _ _ _ _ _ _ g b
   grind
  .intro l k v d x k' v' hv h;rw[jt] at h;split at h
   .exact ih.Ez _ _ _ _ _ _ hv h
   .obtain⟨y,e,v1,c,b⟩:=ee h;exact ih.more _ _ _ _ _ _ _ _ (ih.oper _ _ _ _ _ _ _ hv c) b
  .intro l y k v d x k' v' hv h;rw[qx] at h;split at h
   .grind
   .obtain⟨z,e,v1,c,b⟩:=ee h;exact ih.more _ _ _ _ _ _ _ _ (ih.oper _ _ _ _ _ _ _ hv c) b
structure KvB(Q:List Bs->Prop)(T:List Tok)(f:Nat):Prop where
 lit:∀ k v d x k' v',Q v->np T f k v d=O (.ok x k' v')->Q v'
 lits:∀ k v d acc x k' v',Q v->pO T f k v d acc=O (.ok x k' v')->Q v'
 row:∀ k v d x k' v',Q v->nJ T f k v d=O (.ok x k' v')->Q v'
 rest:∀ k v d x k' v',Q v->pP T f k v d=O (.ok x k' v')->Q v'
 body:∀ k v d x k' v',Q v->ml T f k v d=O (.ok x k' v')->Q v'
def kvB{Q:List Bs->Prop}{T:List Tok}(p:∀ j k v x k' v',(tk T j).kind=2->Q v->zj (tk T j) k v = .ok x k' v'->Q v'):∀ f,KvB Q T f
 | 0=>⟨by simp_all [np],by simp_all [pO],by simp_all [nJ],by simp_all [pP],by simp_all [ml]⟩
 | f+1=>by
  have ih:=kvB p f;refine⟨?_,?_,?_,?_,?_⟩
  .intro k v d x k' v' hv h;rw[np] at h;split at h
   .grind
   split at h
   .grind
   split at h
   .obtain⟨b,n,v1,g,e⟩:=ee h;simp only[aZG,cj.ok.injEq] at e;obtain⟨-,-,rfl⟩:=e;exact ih.lit _ _ _ _ _ _ hv g
   split at h
   .obtain⟨b,n,v1,g,e⟩:=ee h;obtain⟨rfl,rfl,rfl⟩:=nP e;exact ih.body _ _ _ _ _ _ hv g
   .obtain⟨y,n,v1,g,e⟩:=ee h;have m:=(WN p f).oper _ _ _ _ _ _ _ hv g;split at e
    .obtain⟨z,q,v2,o,i⟩:=ee e;simp only[aZG,cj.ok.injEq] at i;obtain⟨-,-,rfl⟩:=i;exact(WN p f).oper _ _ _ _ _ _ _ m o
    grind
  .intro k v d acc x k' v' hv h;rw[pO] at h;obtain⟨y,n,v1,g,e⟩:=ee h;have m:=ih.lit _ _ _ _ _ _ hv g;split at e
   .exact ih.lits _ _ _ _ _ _ _ m e
   grind
  .intro k v d x k' v' hv h;rw[nJ] at h;obtain⟨l,n,v1,g,e⟩:=ee h;simp only[aZG,cj.ok.injEq] at e;obtain⟨-,-,rfl⟩:=e;exact ih.lits _ _ _ _ _ _ _ hv g
  .intro k v d x k' v' hv h;rw[pP] at h;split at h
   .grind
   .exact ih.body _ _ _ _ _ _ hv h
  .intro k v d x k' v' hv h;rw[ml] at h;obtain⟨a,n,v1,g,e⟩:=ee h;have m:=ih.row _ _ _ _ _ _ hv g;split at e
   .obtain⟨b,q,v2,o,i⟩:=ee e;have s:=ih.row _ _ _ _ _ _ m o;split at i
    .obtain⟨c,u,v3,t,r⟩:=ee i;simp only[aZG,cj.ok.injEq] at r;obtain⟨-,-,rfl⟩:=r;exact ih.rest _ _ _ _ _ _ s t
    grind
   .split at e
    .obtain⟨b,q,v2,o,i⟩:=ee e;simp only[aZG,cj.ok.injEq] at i;obtain⟨-,-,rfl⟩:=i;exact ih.rest _ _ _ _ _ _ m o
    grind
def Iv(v:List Bs):Prop:=v.length<=12/\∀ x∈v,x≠[]/\x.length<=9
def acQ{T:List Tok}(b:B9 T)(c:∀ u∈T,u.kind=2->u.text≠[])(j k:Nat)(v:List Bs)(x:Ex)(k':Nat)(v':List Bs)(hk:(tk T j).kind=2)(hv:Iv v)(h:zj (tk T j) k v = .ok x k' v'):Iv v':=by
 have a:=Wt (T:=T) (k:=j) zo;unfold zj at h;split at h
 .grind
 .split at h
  .grind
  .rename_i d;injection h with f g e;subst e;have i:=hv.1;unfold Og at d;refine⟨zg,fun x hx=>?_⟩;rcases aZW.1 hx with hx | hx
   .exact hv.2 x hx
   .simp only[aZU,List.not_mem_nil,or_false] at hx;subst hx;exact⟨c _ a hk,b.len _ a⟩
def aHf{T:List Tok}(a:B9 T)(d:∀ u∈T,u.kind=2->u.text≠[]){b:Bd}{vs:List Bs}(h:uO T = .ok b k vs):Iv vs/\eW vs.length T.length b:=by
 unfold uO at h;split at h
 .rename_i b1 e v1 c;have f:=(kvB (acQ a d) _).body _ _ _ _ _ _ ⟨zs,zs⟩ c;have hk:=((Wv a _).body _ _ _ _ _ _ c).1;split at h
  .rename_i b2 g v2 hm;obtain⟨rfl,rfl,rfl⟩:=nP hm;grind
  .grind
  grind
 .grind
 grind
mutual
def iR:Bd->Nat
 | .mk _ _ args parts=>fH args+js parts+1
 termination_by structural x=>x
def js:List Bd->Nat
 | []=>0
 | x::xs=>iR x+js xs
 termination_by structural x=>x
end
theorem acR(x:Bd):∀ (a:List Bd),js (a++[x])=js a+iR x
 | []=>by simp [js]
 | y::a=>by simp [js,acR x a];omega
theorem amj:∀ (x:Bd),1<=iR x
 | .mk ..=>by simp [iR]
structure BSz(T:List Tok)(f:Nat):Prop where
 lit:∀ k v d x k' v',np T f k v d=O (.ok x k' v')->iR x+2*k<=2*k'
 lits:∀ k v d acc x k' v',pO T f k v d acc=O (.ok x k' v')->js x+2*k<=2*k'+js acc/\(acc.length<x.length)/\(acc.length+1<x.length->js x+2*k+2<=2*k'+js acc)
 row:∀ k v d x k' v',nJ T f k v d=O (.ok x k' v')->iR x+2*k<=2*k'
 rest:∀ k v d x k' v',pP T f k v d=O (.ok x k' v')->iR x+2*k<=2*k'
 body:∀ k v d x k' v',ml T f k v d=O (.ok x k' v')->iR x+2*k<=2*k'
def bSz{T:List Tok}(o:B9 T):∀ f,BSz T f
 | 0=>⟨by grind [np],by grind [pO],by grind [nJ],by grind [pP],by grind [ml]⟩
 | f+1=>by
  have ih:=bSz o f;refine⟨?_,?_,?_,?_,?_⟩
  .intro k v d x k' v' h;rw[np] at h;split at h
   .grind
   split at h
   .simp only[aZG,cj.ok.injEq] at h;obtain⟨rfl,rfl,rfl⟩:=h;grind [iR,js,fH]
   split at h
   .obtain⟨b,j,v1,g,e⟩:=ee h;have g1:=ih.lit _ _ _ _ _ _ g;simp only[aZG,cj.ok.injEq] at e;obtain⟨rfl,rfl,rfl⟩:=e;grind [iR,js,fH]
   split at h
   .obtain⟨b,j,v1,g,e⟩:=ee h;have g1:=ih.body _ _ _ _ _ _ g;obtain⟨rfl,rfl,rfl⟩:=nP e;omega
   .obtain⟨y,j,v1,g,e⟩:=ee h;obtain⟨g1,g2,g3⟩:=(OY o f).oper _ _ _ _ _ _ _ g;have t:=alo y;split at e
    .rename_i c u;obtain⟨z,p,v2,m,i⟩:=ee e;obtain⟨q1,q2,q3⟩:=(OY o f).oper _ _ _ _ _ _ _ m;simp only[aZG,cj.ok.injEq] at i;obtain⟨rfl,rfl,rfl⟩:=i;grind [iR,js,fH]
    .split at e
     .grind
     .split at e
      .grind
      .simp only[aZG,cj.ok.injEq] at e;obtain⟨rfl,rfl,rfl⟩:=e;obtain⟨kind,name,n,w,args⟩:=y;grind [iA,iR,js,Ex.args]
  .intro k v d acc x k' v' h;rw[pO] at h;obtain⟨y,j,v1,g,e⟩:=ee h;have g1:=ih.lit _ _ _ _ _ _ g;split at e
   .obtain⟨q1,q2,q3⟩:=ih.lits _ _ _ _ _ _ _ e;grind [acR,List.length_append,List.length_cons,List.length_nil]
   .simp only[aZG,cj.ok.injEq] at e;obtain⟨rfl,rfl,rfl⟩:=e;grind [acR]
  .intro k v d x k' v' h;rw[nJ] at h;obtain⟨l,j,v1,g,e⟩:=ee h;obtain⟨g1,g2,g3⟩:=ih.lits _ _ _ _ _ _ _ g;simp only[aZG,cj.ok.injEq] at e;obtain⟨rfl,rfl,rfl⟩:=e;simp only[js,List.length_nil] at g1 g2 g3;split
   .grind [js]
   .rename_i B;have:0+1<l.length:=by
     rcases l with _ | ⟨a,_ | ⟨b,r⟩⟩<;>grind
    grind [iR,fH]
  .intro k v d x k' v' h;rw[pP] at h;split at h
   .grind
   .exact ih.body _ _ _ _ _ _ h
  .intro k v d x k' v' h;rw[ml] at h;obtain⟨a,j,v1,g,e⟩:=ee h;have g1:=ih.row _ _ _ _ _ _ g;split at e
   .obtain⟨b,p,v2,m,i⟩:=ee e;have q1:=ih.row _ _ _ _ _ _ m;split at i
    .obtain⟨c,C,v3,s,q⟩:=ee i;have m1:=ih.rest _ _ _ _ _ _ s;simp only[aZG,cj.ok.injEq] at q;obtain⟨rfl,rfl,rfl⟩:=q;grind [iR,js,fH]
    .simp only[aZG,cj.ok.injEq] at i;obtain⟨rfl,rfl,rfl⟩:=i;simp only[iR,js,fH,zl];omega
   .split at e
    .obtain⟨b,p,v2,m,i⟩:=ee e;have q1:=ih.rest _ _ _ _ _ _ m;simp only[aZG,cj.ok.injEq] at i;obtain⟨rfl,rfl,rfl⟩:=i;grind [iR,js,fH]
    grind
mutual
theorem eW.SK {n M b:Nat} (a:M<=b):∀ {x:Bd},eW n M x->eW n b x
 | .mk kind name args parts,hx=>by
  unfold eW at hx ⊢;obtain⟨c,d,e,f,g,h,i,j⟩:=hx;exact⟨c,d,e,f,g,aZL h a,aZL i a,eX.SK a j⟩
 termination_by structural x=>x
theorem eX.SK {n M b:Nat} (a:M<=b):∀ {l:List Bd},eX n M l->eX n b l
 | [],hx=>by simp_all [eX]
 | x::xs,hx=>by
  unfold eX at hx ⊢;exact⟨eW.SK a hx.1,eX.SK a hx.2⟩
 termination_by structural x=>x
end
structure qi(c:Cl):Prop where
 cl:yD 2900 c
 name:c.name.length<=9
 vs:Iv c.vars
 bsz:iR c.body<=5800
theorem aml{T:List Tok}(d:B9 T)(m:∀ u∈T,u.kind=2->u.text≠[])(n:T.length<=2900){a:Nat}{name:Bs}{args:List Ex}{v v':List Bs}{c:Cl}(g:name.length<=9)(hv:Iv v)(hx:fi v.length args)(i:args.length<=4)(j:fH args<=2900)
  (h:Jn T f name args a k v=O (.ok c k' v')):qi c:=by
 unfold Jn at h;split at h
 .grind
 split at h
 .obtain⟨b,p,v1,e,o⟩:=ee h;obtain⟨rfl,rfl,rfl⟩:=nP o;obtain⟨g1,g2,g3,g4⟩:=(Wv d f).body _ _ _ _ _ _ e;have l:=(kvB (acQ d m) f).body _ _ _ _ _ _ hv e;have q:=(bSz d f).body _ _ _ _ _ _ e;exact⟨⟨g1.SK n,fi.mono g2 _ hx,i,j,by have:=l.1;grind⟩,g,l,zg⟩
 .obtain⟨rfl,rfl,rfl⟩:=nP h;exact⟨⟨aGh,hx,i,j,by have:=hv.1;grind⟩,g,hv,by simp [Oh,iR,js,fH]⟩
theorem aHh{T:List Tok}(a:B9 T)(d:∀ u∈T,u.kind=2->u.text≠[])(e:T.length<=2900){v':List Bs}{c:Cl}(h:Ei T f k=O (.ok c k' v')):qi c:=by
 unfold Ei at h;split at h
 .rename_i hk;have g:(tk T k).text.length<=9:=by
   by_cases hlt:k<T.length
   .have:tk T k∈T:=by unfold tk;simp [a0c,hlt]
    exact a.len _ this
   .unfold tk;simp [a0c,hlt]
  split at h
  .obtain⟨l,m,v1,b,i⟩:=ee h;obtain⟨n,o,v2,j,p⟩:=ee i;obtain⟨rfl,rfl,rfl⟩:=nP j;obtain⟨g1,g2,g3,g4,g5⟩:=(OY a f).args _ _ _ _ _ _ _ _ fi.nil b;have hle:=(Wu T f).args _ _ _ _ _ _ _ _ b;have q:=(WN (acQ a d) f).args _ _ _ _ _ _ _ _ ⟨zs,zs⟩ b;grind [fH,aml]
  .exact aml a d e g ⟨zs,zs⟩ fi.nil zs (by simp [fH]) h
 grind
def amm{T:List Tok}(a:B9 T)(b:∀ u∈T,u.kind=2->u.text≠[])(d:T.length<=2900):∀ (f k:Nat) (acc l:List Cl) (k':Nat) (v':List Bs),acc.length<=40->(∀ c∈acc,qi c)->EG T f k acc=O (.ok l k' v')->l.length<=40/\∀ c∈l,qi c
 | 0,k,acc,l,k',v',_,_,h=>by simp_all [EG]
 | f+1,k,acc,l,k',v',g,i,h=>by
  unfold EG at h;split at h
  .grind
  split at h
  .grind
  .obtain⟨c,j,v1,m,e⟩:=ee h;refine amm a b d f _ _ _ _ _ zg (fun x hx=>?_) e;grind [List.mem_singleton,aHh]
def aHi{T:List Tok}(a:B9 T)(b:∀ u∈T,u.kind=2->u.text≠[])(d:T.length<=2900){l:List Cl}{v':List Bs}(h:Ib T = .ok l k' v'):l.length<=40/\∀ c∈l,qi c:=
 amm a b d (T.length+1) 0 [] l k' v' (Nat.zero_le _) zg (by simp_all [ak3])
theorem amn{T:List Tok}(a:B9 T)(d:T.length<=2900){b:Bd}{vs:List Bs}(h:uO T = .ok b k vs):iR b<=5800:=by
 unfold uO at h;split at h
 .rename_i b1 e v1 c;have hk:=((Wv a _).body _ _ _ _ _ _ c).2.2.2;have f:=(bSz a _).body _ _ _ _ _ _ c;grind [nP]
 .grind
 grind
def gN(c:UInt8):Bs->List Bs
 | []=>[[]]
 | x::r=>if x=c then []::gN c r else match gN c r with
  | []=>[[x]]
  | l::ls=>(x::l)::ls
def DE(w:Bs):Option Int:=
 let z:Int:=match w with
  | 45::r=>- num r
  | _=>num w
 if kO z=w/\-9223372036854775808<=z/\z<=9223372036854775807 then O z else V
def j6(w:Bs)(n:Nat):Option Nat:=match DE w with
 | some z=>if 0<=z/\z<n then O z.toNat else V
 | none=>V
def px(w:Bs):Option Bs:=
 match w with
 | []=>V
 | c::r=>if 10<w.length\/digit c=A\/w.all (fun c=>decide (33<=c/\c<=126))=G\/(c=45/\r≠[]) then V else O w
def DG(w:Bs):Option Tm:=match DE w with
 | some z=>O (.int z)
 | none=>(px w).map .atom
def xC(n:Nat):List Bs->Option (List Nat)
 | []=>O []
 | w::r=>match j6 w n,xC n r with
  | some s,O l=>O (s::l)
  | _,_=>V
def mC(slots:Nat):Bs->List Bs->In->Option (In×List Bs)
 | [],ws,i=>O (i,ws)
 | x::r,ws,i=>
  if x=42 then match xC slots ws with
   | some l=>O ({ i with s:=i.s++l },[])
   | none=>V
  else match ws with
   | []=>V
   | w::ws=>
    if x=115 then match j6 w slots with
     | some s=>mC slots r ws { i with s:=i.s++[s] }
     | none=>V
    else if x=99 then match DG w with
     | some t=>mC slots r ws { i with const:=O t }
     | none=>V
    else if x=110 then match px w with
     | some t=>mC slots r ws { i with name:=t }
     | none=>V
    else match j6 w 10000 with
     | some s=>mC slots r ws { i with s:=i.s++[s] }
     | none=>V
def uV(slots:Nat)(ws:List Bs):Option In:=match ws with
 | []=>V
 | w::ws=>match mB w with
  | none=>V
  | some sh=>match mC slots sh ws ⟨w,[],V,[]⟩with
   | some (i,[])=>if ((w=[109,97,107,101]\/w=[115,112,108,105,116])/\i.s.length<2)\/(w=ni/\jG i.name≠i.s.length) then V else O i
   | _=>V
structure Pv where
 dK:List Pd
 open_:Bool
 ask:Option (Co×Nat)
def Gr(l:List Co)(f:Co->Co):List Co:=match l.reverse with
 | []=>[]
 | c::r=>(f c::r).reverse
def Kh(l:List Pd)(f:Pd->Pd):List Pd:=match l.reverse with
 | []=>[]
 | c::r=>(f c::r).reverse
def oy(ws:List Bs)(p:Pv):Option Pv:=
 match ws with
 | [[112,114,101,100],a,b]=>match p.ask,px a,j6 b 64 with
  | none,O a,O b=>if p.dK.any (fun q=>q.name == a && q.arity == b) then V else O { p with dK:=p.dK++[⟨a,b,[]⟩],open_:=false }
  | _,_,_=>V
 | [[99,108,97,117,115,101],a]=>match p.ask,j6 a 65 with
  | none,O a=>if p.dK=[] then V else O { p with dK:=Kh p.dK fun q=>{ q with clauses:=q.clauses++[⟨a,[]⟩] },open_:=true }
  | _,_=>V
 | [[113,117,101,114,121],a,b]=>match p.ask,j6 a 65 with
  | none,O a=>match j6 b (a+1) with
   | some b=>O { p with ask:=O (⟨a,[]⟩,b),open_:=true }
   | none=>V
  | _,_=>V
 | _=>
  if p.ask.isSome/\(ws.head?=O [112,114,101,100]\/ws.head?=O [99,108,97,117,115,101]\/ws.head?=O [113,117,101,114,121]) then V
  else match p.ask with
   | some (c,n)=>match uV c.slots ws with
    | some i=>O { p with ask:=O ({ c with ins:=c.ins++[i] },n) }
    | none=>V
   | none=>if p.open_ then match (Pa p.dK) with
     | some c=>match uV c.slots ws with
      | some i=>O { p with dK:=Kh p.dK fun q=>{ q with clauses:=Gr q.clauses fun c=>{ c with ins:=c.ins++[i] } } }
      | none=>V
     | none=>V
    else V
where
 Pa (l:List Pd):Option Co:=match l.getLast? with
  | some q=>q.clauses.getLast?
  | none=>V
def oO:List Bs->Nat->Pv->Except Nat Pv
 | [],_,p=>.ok p
 | [r],k,p=>if r=[]/\1<k then .ok p else .error k
 | r::rs,k,p=>match oy (gN 32 r) p with
  | none=>.error k
  | some p=>oO rs (k+1) p
def rY(s:Bs):Except (Nat×Nat) (List Pd×Co×Nat):=
 if 65536<s.length then .error (1,0)
 else match oO (gN 10 s) 1 ⟨[],G,V⟩with
  | .error k=>.error (5,k)
  | .ok p=>match p.ask with
   | some (c,n)=>.ok (p.dK,c,n)
   | none=>.error (5,(gN 10 s).length)
end P
