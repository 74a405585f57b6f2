/- A part of one proof (KE4, KE7, ShX5, KV1, KV2, KV3, KV4, KV5). -/
import Derived.Test.YtoegidfbnkaabaaGreatDoorPkIAV
import Derived.Laws.CopyRow
set_option linter.all false
set_option maxRecDepth 100000
set_option maxHeartbeats 8000000
open Option renaming some → O, none → V
open Go renaming Value → Y, World → Z
open Bool renaming true → A, false → G
open Go.Obj renaming cells → ae
open Go.Ending renaming returned → ah
open Go.Value renaming nilIface → ai, iface → aj, tuple → ak, pointer → aq
open Option.some renaming injEq → a07, inj → a1b
open Nat renaming le_refl → a1c
open List renaming getElem?_eq_getElem → a1e
open Go.Instr renaming typeAssert → a1s
open Go.Value renaming ownBlock → a1R
open Go.Proofs.Tryz renaming prog → bbq
open Go.Proofs.Tryz
namespace Go.Proofs.YtoegidfbnkaabaaGreatDoor
open P
open Go.RowKit Sx
variable{D:Nat->Prop}{E:En}{M b base c cb d e f g j k n o pb pc qb so xb:Nat}{X:Y->Z->Prop}{av tv v vv:Y}{cs iL:Array Y}{ug ρ:Nat->Nat}{vars:List Bs}{vs xs:List Y}{w' w1 w2:Z}
mutual
theorem fe.Rg {n M a:Nat} (b:M<=a):∀ {x:Bd},fe n M x->fe n a x
 | .mk kind name args parts,hx=>by
  unfold fe at hx ⊢;obtain⟨c,d,e,f,g,i,j,h⟩:=hx;exact⟨c,d,e,f,g,zo,zo,ff.Rg b h⟩
 termination_by structural x=>x
theorem ff.Rg {n M a:Nat} (b:M<=a):∀ {l:List Bd},ff n M l->ff n a l
 | [],hx=>by unfold ff;trivial
 | x::xs,hx=>by
  unfold ff at hx ⊢;exact⟨fe.Rg b hx.1,ff.Rg b hx.2⟩
 termination_by structural x=>x
end
def P.Y5{s:Bs}{x:Bd}{vs:List Bs}(h:nY vH s = .ok x k vs):Lg vs/\fe vs.length 2900 x:=by
 unfold nY at h;split at h
 .grind
 .split at h
  .grind
  .rename_i T b;have a:=NY b;have d:AP T:=⟨Jc _ _ _ _ (by rw[IU,b]),fun u hu hk=>by
    obtain⟨c,r,e,-⟩:=(a.tok u hu).2.2.1 hk;grind,fun u hu hk=>((a.tok u hu).2.1 hk).2.1⟩
   have i:=a.len;obtain⟨f,g⟩:=aIq d (fun u hu hk=>(a.tok u hu).2.2.2.1 hk) h;exact⟨f,fe.Rg zo g⟩
def JM(w:Z)(xb:Nat)(base:List Cl):Prop:=∃ v vs,w.heap[xb]?=aN #[v] 72/\fJ (fun _=>True) w 79 v vs/\kE (fun _=>True) w vs base
def JM.jn{w w':Z}{xb:Nat}{base:List Cl}(h:JM w xb base)(hk:eR w w'):JM w' xb base:=by
 obtain⟨v,vs,a,b,c⟩:=h;exact⟨v,vs,hk _ _ _ (yM) a,b.jn hk (yM),c.jn hk⟩
def UJ(names:List Bs)(w w':Z)(qb:Nat)(E:En)(st:E.St):Prop:=
 ∃ X:EN E,(JK X/\Y4 X)/\qb≠X.eb/\w.heap.size<=qb/\X.Good 0 st/\∃ ρ,∀ D:Nat->Prop,(∀ b,w.heap.size<=b->D b)->EO X D ρ qb names w' (V,st)
theorem EO.ext{E:En}{X:EN E}(L:JK X){D:Nat->Prop}{ρ:Nat->Nat}{qb:Nat}{names:List Bs}{w w':Z}{q:Qs E}(h:EO X D ρ qb names w q)(a:Ext w w'):EO X D ρ qb names w' q:=by
 obtain⟨⟨L7,b,c⟩,d⟩:=h;exact⟨⟨L7,a.ext _ _ b,c.mono zg (by grind [bB.ext])⟩,(by grind [JK.ext])⟩
theorem UJ.ext{names:List Bs}{w w1 w2:Z}{qb:Nat}{E:En}{st:E.St}(h:UJ names w w1 qb E st)(a:Ext w1 w2):UJ names w w2 qb E st:=by
 obtain⟨X,L,b,c,d,ρ,e⟩:=h;exact⟨X,L,b,c,d,ρ,fun D hD=>(e D hD).ext L.1 a⟩
def afY(w:Z)(s:Bs)(E:Bd->List Bs->En)(st:∀ x vs,(E x vs).St)(e:Ending)(w':Z):Prop:=
 Ext w w'/\match nY vH s with
 | .err c a=>∃ b,e = ah (ak #[aq V,aj 73 (aq (O ⟨b,0,V⟩))])/\w'.heap[b]?=O (ae #[.int .i64 c,.int .i64 a] 77 (0,0))
 | .ok x _ vs=>∃ qb,e = ah (ak #[aq (O ⟨qb,0,V⟩),ai])/\UJ vs w w' qb (E x vs) (st x vs)
def P.aNn{x:Bd}(hx:fe n M x):me M (0*1000000) { Wk.new x n with sr:={ (Wk.new x n).sr with fuel:=0 } }/\lM (Wk.new x n).sr:=
 ⟨⟨⟨⟨Nat.zero_le _,fun i c=>List.mem_range.1 c,zg,trivial⟩,(fun i a h=>by cases h),(fun i a h=>by cases h),(fun i j a b _ h=>by cases h)⟩,(by rw[Nat.zero_mul];exact a1c 0),(by rw[Nat.zero_mul];exact a1c 0)⟩,trivial,trivial⟩
def aNo(s:Bs){w:Z}{base:List Cl}(E:s.length<=100000)(F:Ef w)(hC:mZ w w.heap.size)(hx:JM w xb base)(dj:∀ c∈base,zx M c)(mU:∀ c∈base,c.name.length<=100)(I:base.length<=100000)(hM:M<=100000)(n:2900<=M) :
  Calls bbq 26 #[pp xb,aT s,.bool G] w (afY w s (fun _ vs=>XJ base vs.length) (fun x vs=>Wk.new x vs.length)):=by
 suffices H:∀ R:Ending->Z->Prop,(∀ e w',afY w s (fun _ vs=>XJ base vs.length) (fun x vs=>Wk.new x vs.length) e w'->R e w')->Calls bbq 26 #[pp xb,aT s,.bool G] w R from H _ zg;intro R i;refine aoX ?_;refine bG ?_;refine(apE s w E F hC).mono ?_;rintro e w1 ⟨u,j⟩;have s1:=u.size;unfold afY at i;cases hr:nY vH s with
 | err c a=>
  rw[hr] at j i;obtain⟨b,rfl,h1⟩:=j;refine bG ?_;grind
 | ok x k vs=>
  rw[hr] at j i;obtain⟨b,rfl,-,OL,o,l,m,K,L,N⟩:=j;obtain⟨v,fZ,g1,g2,g3⟩:=hx.jn (eR.eo u);obtain⟨sa,sc,rfl⟩:=g2.sl;refine cO @g1 ?_;refine Calls.mono (aLV g2 g3 (by grind [zx.qT]) I) ?_;rintro e w2 ⟨y,mb,rfl,Mc,Q⟩;have z:=y.ext _ _ K;have p:dP (fun _=>True) w2 (pp o) x:=dP.mono zg (by grind [bB.ext]) _ _ L;refine bG ?_;refine Calls.mono (aL0 zo z p) ?_;rintro e w3 ⟨S,wb,fb,ρ,todo,rfl,sk,q,B⟩;have T:=S.ext _ _ z;have s2:=y.size;have U:=(B (fun _=>True) (fun _ _=>trivial)).cell;have lw:=bh U;refine bG ?_;obtain⟨d,W⟩:=cg (bS (w3.alloc (ae #[aq V] 122)) w3.heap.size (ae #[pp wb] 122));have X:bS (w3.alloc (ae #[aq V] 122)) w3.heap.size (ae (pD #[aq V] 0 (Value.pointer (O ⟨wb,0,V⟩)).cells.toList) 122 (0,0))=d:=by rw[W];rfl
  rw[X];have C:Ext w3 d:=yF;have g4:d.heap[w3.heap.size]?=aN #[pp wb] 122:=yH;have r:=C.ext _ _ T;have s4:=C.size;refine⟨fun w'=>w'.heap[w3.heap.size]?=d.heap[w3.heap.size]?/\w'.heap[b]?=d.heap[b]?,yH,?_⟩;refine cS (pp wb) (fun w' f=>by rw[g4] at f;have g:=f.1;have:=bh g;exact fm g) (cS (pp wb) (fun w' f=>by rw[g4] at f;have g:=f.1;have:=bh g;exact fm g) ?_);rw[jI];refine cS (pq wb 1) (fun w' f=>eV) ?_;rw[jI];refine cS (pq b 3) (fun w' f=>eV) (cS (.slice l vs.length m) (fun w' f=>by rw[r] at f;have g:=f.2;have:=bh g;exact fm g) ?_);refine aNm zk ?_;rw[Wy];refine⟨yH,?_⟩;refine bG ?_;obtain⟨h,oN⟩:=cg (d.drew.alloc (ae #[aj 122 (pp wb),pq wb 1,.func (.func 40) #[] #[pp w3.heap.size],.slice l vs.length m,ai] 121));have uf:Ext d h:=yF;have g5:h.heap[d.heap.size]?=aN #[aj 122 (pp wb),pq wb 1,.func (.func 40) #[] #[pp w3.heap.size],.slice l vs.length m,ai] 121:=yH;have B1:Ext w3 h:=yF;have Dg:Ext w1 h:=yF;have B3:fe vs.length M x:=fe.Rg n (P.Y5 hr).2;rw[<- oN];refine i _ _ ⟨yF,d.heap.size,J,wkX base M vs.length wb mb w3.heap.size (cV fb vs.length vs.length),(by grind [aMW,wkD]),?_,zo,P.aNn B3,ρ,fun D hD=>?_⟩
  .show d.heap.size≠wb;omega
  .have t:fJ (fun _=>True) h 9 (.slice l vs.length m) (vs.map fun s=>aT s):=N.mono zg (by grind [bB.ext]);refine⟨⟨_,g5,t⟩,fun _=>⟨⟨_,_,_,_,(B D (fun b hb=>hD b zo)).ext B1⟩,(by grind [eR.eo,B0.bK,bB.trans,bB.ext]),q.mono zg yH,a1c _,yH⟩⟩
def ap8(k:Int)(w:Z)(c:BN w):Calls bbq 23 #[aj 27 (zi k)] w fun e w'=>Ext w w'/\e = ah (ak #[zi k,zi (-1)]):=by
 refine abG ?_;refine bG ?_;obtain⟨a,i⟩:=cg ((w.alloc (ae #[aq V] 73)).alloc (ae #[zi 0] 27));have d:Ext w a:=yF;have q0:a.heap[w.heap.size]?=aN #[aq V] 73:=yH;have q1:a.heap[w.heap.size+1]?=aN #[zi 0] 27:=yH;rw[size_alloc,<- i];refine(aNi k ⟨w.heap.size,0,V⟩ _ a (c.ext d) (by simp [World.cell?,q0];rfl) (jX q0 0)).mono ?_;rintro e w3 ⟨rfl,j⟩;have f:Ext a w3:=yF;have b:=f.ext _ _ q1;clear j;refine bG ?_;refine(aNd k ⟨w.heap.size+1,0,V⟩ _ w3 ((c.ext d).ext f) (by simp [World.cell?,b];rfl) (jX b 0)).mono ?_;rintro e g ⟨rfl,h⟩;obtain⟨l,m⟩:=cg ((((w3.alloc (ae #[pp (w.heap.size+1)] 78)).alloc (ae #[pq 12 78,pp w3.heap.size,.int .u64 150] 158)).alloc (ae #[pq 12 78,pp w3.heap.size,.int .u64 150] 158)).alloc (ae #[zi k] 27));rw[<- m] at h;have n:Ext w3 l:=yF;have o:=n.ext _ _ b;rw[vq o] at h;have p:Ext w g:=by
  exact yF
 have q4:g.heap[w.heap.size+1]?=aN #[zi k] 27:=by
  exact yH
 refine cO @q4 ?_;exact yF
def aNu{X:EN E}(L:JK X){w:Z}{q i:Qs E}{j:Bs×Nat}(s:EO X D ρ qb vars w q)(hD:∀ b,w.heap.size<=b->D b)(m:¬ D 4)(t:¬ D 0)
  (u:kZ w) (x:BN w) (y:qb≠X.eb) (n:qb≠4) (z:qb≠0) (B:q.1=V->X.Good c q.2) (C:c<=700) (F:∀ nm∈vars,nm≠[]/\nm.length<=3000) (H:vars.length<=12) (hlen:∀ k l,E.told k = .ok l->l.length=vars.length)
  (hr:Jh E vars d f q=O (j,i)) :
  Calls bbq 16 #[pp qb] w fun e w'=>Ma D qb w w'/\e = ah (ak #[aT j.1,zi (j.2:Nat)])/\∃ eQ,EO X D eQ qb vars w' i:=by
 refine aL6 ?_;refine(aMs L s hD m u y n B C F H hlen hr).mono ?_;rintro e w1 ⟨I,rfl,a,g,eQ,r⟩;have K:BN w1:=Ng x fun o M=>I.block _ o M (by
  rintro (⟨h,_⟩| h)<;>grind)
 have N:∀ {w2:Z},Ext w1 w2->Ma D qb w w2:=yF;obtain⟨err,st⟩:=i;simp only at a g;cases err with
 | none=>
  have a:=a J;simp only[F1];refine bG ?_;refine(XB w1).mono ?_;rintro e w2 ⟨p,rfl⟩;refine bG ?_;rw[a];exact⟨yF,J,eQ,r.ext L p⟩
 | some k=>
  have g:=g k J;simp only[F1];refine bG ?_;refine(ap8 k w1 K).mono ?_;rintro e w2 ⟨p,rfl⟩;refine bG ?_;rw[g];exact⟨yF,J,eQ,r.ext L p⟩
open Go.Proofs.YtoegidfbnkaabaaGreatDoor.Sx
section
variable{p0 p1 p2 p3 p4 p5 p6 p7:Y}{w:Z}{R:Ending->Z->Prop}
def aNv:=cz w R [p0] (gd [] [] [] [(1,[17,0,1,2,3,4,5,6,7,8,9,10,11,12,13,14,15,16,17])] [] [] []) func35
def aNw:=cz w R [p0] (gd [(3,[2,23])] [] [(2,14)] [] [] [] [24]) func36
def afZ:=cz w R [p0,p1] (gc [] [(3001,[])] [6,11,12,13]) func75
def aNx:=cz w R [p0,p1,p2] (gd [] [] [(1,17)] [] [] [] []) func211
def aNy:=cz w R [p0] (gd [] [] [(5,7),(10,18)] [(7,[16,0,1,2,3,4,5,6,7,8,9,10,11,12,13,14,15])] [] [] [2,12,31]) func206
def aNz:=cz w R [p0,p1,p2,p3,p4,p5] (gd [] [(2001,[])] [] [(2,[20,0,1,2,3,4,5,6,7,9,10,11,12,13,8,14,15,16,17,18,19]),(3,[22,0,1,2,3,4,5,6,7,8,9,10,11,12,14,15,16,13,17,18,19,20,21])] [] [] [23]) func209
def aNA:=cz w R [p0,p1] (gd [(6,[32]),(19,[99])] [(16000,[92]),(17001,[])] [(16,23),(21,16)] [] [] [] [4,18,33,68,91,92,100]) func212
def aNB:=cz w R [p0,p1] (gd [(3,[5,14])] [(9001,[])] [(12,16)] [(7,[0,0,1,2,3,4,5,6,7,8,9,10,11,12,13,14,15])] [] [] [4,15,48,52]) func215
def Ri:=cz w R [p0,p1] (gd [(14,[88]),(24,[8,128])] [(36001,[]),(46001,[])] [(6,12),(28,8),(37,15)] [(8,[11,0,1,2,3,4,6,7,8,9,5,10,11]),(10,[10,0,1,2,3,4,6,7,5,8,9,10]),(16,[15,0,1,2,3,4,5,6,7,8,9,10,11,12,13,14]),(30,[17,0,1,2,3,4,5,6,7,8,9,10,11,12,13,14,15,16]),(32,[15,0,1,2,3,4,5,6,7,8,9,10,11,12,13,14]),(39,[25,0,1,2,3,4,5,6,7,9,10,11,12,13,14,15,16,17,18,8,19,20,21,22,23,24]),(47,[19,2,3,4,5,6,7,8,9,10,11,12,13,14,15,0,16,17,1,18,19,20,21])] [] [] [4,11,23,24,35,36,49,50,61,62,63,73,74,75,89,116,117,120,121,122,129,147,148,149,166,167,182,183,196,197,198,215,216,241,242,252,253,256,257,258,266]) func207
def aNC:=cz w R [p0] (gd [] [(1000,[13]),(2001,[]),(5001,[]),(9000,[86]),(12000,[96])] [(4,16),(6,16),(9,25)] [] [] [] [2,11,12,13,33,61,85,86,90,94,95,96]) func205
end
def zV(ρ:Nat->Nat)(n:Nat)(w:Z)(v:Y):Sl->Prop
 | .nil=>v = ai
 | .term t=>dR ρ n w v t
 | .level k=>v = aj 201 (.int .i64 (k:Nat))
theorem zV.bK{ρ eQ:Nat->Nat}{n a:Nat}{w w':Z}(hk:eR w w')(hu:eD ρ n eQ a){v:Y}:∀ {y:Sl},zV ρ n w v y->zV eQ a w' v y
 | .nil,h=>h
 | .term _,h=>dR.QL hk hu h
 | .level _,h=>h
def yD(v:Y):Option Tm->Prop
 | none=>v = ai
 | some (.atom s)=>v = aj 171 (.string (bs s))
 | some (.int k)=>v = aj 172 (.int .i64 k)
 | some _=>False
theorem yD.dQ{ρ:Nat->Nat}{n:Nat}{w:Z}{v:Y}:∀ {t:Tm},yD v (O t)->dR ρ n w v t
 | .atom s,h=>by unfold dR dL;exact h
 | .int k,h=>by unfold dR dL;exact h
 | .var _,h=>h.elim
 | .comp _ _,h=>h.elim
abbrev uY(l:List Nat):List Y:=l.map fun k=>zi ((k:Nat):Int)
structure Rj(w:Z)(cur:Array Y)(o:Nat)(i:P.In):Prop where
 word:cur[o]?=O (aT i.word)
 name:cur[o+1]?=O (aT i.name)
 con:∃ cv,cur[o+2]?=O cv/\yD cv i.const
 s:∃ sv,cur[o+3]?=O sv/\fJ (fun _=>True) w 3 sv (uY i.s)
theorem Rj.bK{w:Z}(hk:eR w w'){i:P.In}(h:Rj w iL o i):Rj w' iL o i:=by
 obtain⟨a,b,c,sv,d,e⟩:=h;exact⟨a,b,c,sv,d,e.jn hk (yM)⟩
def F5(w:Z)(cb:Nat)(c:Co):Prop:=∃ insv,w.heap[cb]?=aN #[zi (c.slots:Nat),insv] 196 /\
 ((c.ins=[]/\insv = bX)\/∃ g cap cur,insv = cV g c.ins.length cap/\c.ins.length<=cap/\w.heap[g]?=aN cur 198/\cur.size=cap*4/\∀ (j:Nat) (i:P.In),c.ins[j]?=O i->Rj w cur (j*4) i)
theorem F5.bK{w w':Z}(hk:eR w w'){cb:Nat}{c:Co}(h:F5 w cb c):F5 w' cb c:=by
 obtain⟨insv,b,a⟩:=h;refine⟨insv,hk _ _ _ (yM) b,?_⟩;rcases a with a | ⟨g,cap,cur,a,d,e,f,i⟩
 .exact yH
 .exact .inr ⟨g,cap,cur,a,d,hk _ _ _ (yM) e,f,(by grind [Rj.bK])⟩
def B4(w:Z)(vs:List Y)(cs:List Co):Prop:=vs.length=cs.length/\∀ (j:Nat) (c:Co),cs[j]?=O c->∃ cb,vs[j]?=O (pp cb)/\F5 w cb c
theorem B4.bK{w w':Z}(hk:eR w w'){vs:List Y}{cs:List Co}(h:B4 w vs cs):B4 w' vs cs:=
 ⟨h.1,fun j c a=>let ⟨cb,b,d⟩:=h.2 j c a;(by grind [F5.bK])⟩
def B4.tail{w:Z}{c:Co}{cs:List Co}(h:B4 w (v::vs) (c::cs)):B4 w vs cs:=
 ⟨by have:=h.1;grind,fun j x a=>by simpa using h.2 (j+1) x zg⟩
def UK(w:Z)(pb:Nat)(dO:List Pd):Prop:=∃ l,w.heap[pb]?=O (eO l)/\∀ (name:Bs) (n:Nat),n<80->match fO (P.keyOf name n) l 0 with
 | none=>dO.find? (fun p=>p.name == name && p.arity == n)=V
 | some (_,v)=>∃ p,dO.find? (fun p=>p.name == name && p.arity == n)=O p/\∃ b cap row vs,v = .slice (O ⟨b,0,V⟩) p.clauses.length cap/\p.clauses.length<=cap/\w.heap[b]?=O (ae row 185 (0,0)) /\
  row.toList.take p.clauses.length=vs/\B4 w vs p.clauses
theorem UK.bK{w w':Z}(hk:eR w w'){pb:Nat}(hm:∀ l,w.heap[pb]?=O (eO l)->w'.heap[pb]?=O (eO l)){dO:List Pd}(h:UK w pb dO):UK w' pb dO:=by
 obtain⟨l,d,a⟩:=h;refine⟨l,yH,fun name n c=>?_⟩;have:=a name n c;split at this
 .omega
 .obtain⟨p,g1,b,cap,row,vs,g2,g3,g4,g5,g6⟩:=this;exact⟨p,g1,b,cap,row,vs,g2,g3,hk _ _ _ (yM) g4,g5,g6.bK hk⟩
def qu(w w':Z):Prop:=eR w w'/\∀ (b:Nat) (cs:Array Y),w.heap[b]?=aN cs 20->w'.heap[b]?=aN cs 20
theorem qu.eo{w w':Z}(h:Ext w w'):qu w w':=⟨eR.eo h,(by grind [bB.ext])⟩
theorem qu.trans{a b c:Z}(h:qu a b)(k:qu b c):qu a c:=⟨h.1.trans k.1,fun x cs hx=>k.2 x cs (h.2 x cs hx)⟩
def Dl(ρ:Nat->Nat)(n:Nat)(w:Z)(row:Array Y)(l:List Sl):Prop:=∀ (j:Nat) (y:Sl),l[j]?=O y->∃ v,row[j]?=O v/\zV ρ n w v y
theorem Dl.bK{ρ eQ:Nat->Nat}{n a:Nat}{w w':Z}(hk:eR w w')(hu:eD ρ n eQ a){row:Array Y}{l:List Sl}(h:Dl ρ n w row l):Dl eQ a w' row l:=
 fun j y b=>let ⟨v,c,d⟩:=h j y b;(by grind [zV.bK])
def B5(φ:Nat->Nat):Option Nat->Y
 | none=>aq V
 | some b=>aq (O ⟨φ b,0,V⟩)
structure UL(ρ:Nat->Nat)(n:Nat)(φ ψ:Nat->Nat)(fx:Nat)(w:Z)(i:Nat)(x:Fm):Prop where
 cell:∃ cb,w.heap[φ i]?=aN #[pp cb,cV (ψ i) x.slots.length x.slots.length,zi (x.entry:Nat),B5 φ x.back,zi (x.pc:Nat)] 203/\F5 w cb x.code/\(x.ask=A->cb=fx)
 ask:x.ask=A↔x.back=V
 row:∃ row,w.heap[ψ i]?=aN row 20/\row.size=x.slots.length/\Dl ρ n w row x.slots
structure yE(φ ψ:Nat->Nat)(nf:Nat)(uZ sI:Nat->Nat)(F6:Nat):Prop where
 le:nf<=F6
 ph:∀ i,i<nf->uZ i=φ i
 ps:∀ i,i<nf->sI i=ψ i
theorem yE.refl(φ ψ:Nat->Nat)(n:Nat):yE φ ψ n φ ψ n:=⟨a1c _,zg,zg⟩
theorem UL.bK{ρ eQ:Nat->Nat}{n d:Nat}{φ ψ uZ sI:Nat->Nat}{nf F6 fx:Nat}{w w':Z}(hk:eR w w')(hu:eD ρ n eQ d)(a:yE φ ψ nf uZ sI F6){i:Nat}{x:Fm}(c:i<nf)(e:∀ b,x.back=O b->b<nf)
  (hr:∀ cs:Array Y,w.heap[ψ i]?=aN cs 20->w'.heap[ψ i]?=aN cs 20) (h:UL ρ n φ ψ fx w i x):UL eQ d uZ sI fx w' i x:=by
 obtain⟨⟨cb,f,g,j⟩,k,row,l,m,o⟩:=h;refine⟨⟨cb,?_,g.bK hk,j⟩,k,row,?_,m,o.bK hk hu⟩
 .have p:B5 uZ x.back=B5 φ x.back:=by
   cases hx:x.back with
   | none=>rfl
   | some b=>unfold B5;simp only;rw[a.ph b (e b hx)]
  rw[a.ph i c,a.ps i c,p];exact hk _ _ _ (yM) f
 .rw[a.ps i c];exact hr _ l
def yG(D:Nat->Prop)(ρ:Nat->Nat)(n:Nat)(ψ:Nat->Nat)(nf:Nat)(w:Z)(v:Y)(l:List Sl):Prop:=
 (l=[]/\v = bX)\/∃ b cap row,v = cV b l.length cap/\l.length<=cap/\w.heap[b]?=aN row 20/\row.size=cap/\Dl ρ n w row l/\(∀ i,i<nf->ψ i≠b)/\D b
def UM(ψ:Nat->Nat)(nf:Nat)(w w':Z):Prop:=∀ (b:Nat) (cs:Array Y),(∀ i,i<nf->ψ i≠b)->w.heap[b]?=aN cs 20->w'.heap[b]?=aN cs 20
def qu.toR{w:Z}(h:qu w w'):UM ug pb w w':=fun b cs _ a=>h.2 b cs a
theorem yG.bK{D:Nat->Prop}{ρ eQ:Nat->Nat}{n c:Nat}{φ ψ uZ sI:Nat->Nat}{nf F6:Nat}{w w':Z}(hk:eR w w')(hr:UM ψ nf w w')(hu:eD ρ n eQ c)(e:yE φ ψ nf uZ sI F6)(p:∀ i,nf<=i->i<F6->w.heap.size<=sI i){v:Y}{l:List Sl}(h:yG D ρ n ψ nf w v l):yG D eQ c sI F6 w' v l:=by
 rcases h with h | ⟨b,cap,row,f,g,j,k,m,d,o⟩
 .exact .inl h
 .refine .inr ⟨b,cap,row,f,g,hr _ _ d j,k,m.bK hk hu,fun i q=>?_,o⟩;rcases Nat.lt_or_ge i nf with a | a
  .rw[e.ps i a];exact d i a
  grind
def nF(D:Nat->Prop)(ρ:Nat->Nat)(n:Nat)(φ ψ:Nat->Nat)(nf:Nat)(w:Z):List Y->List Ga->Prop
 | vs,[]=>vs=[]
 | vs,a::r=>∃ b av fZ rest,vs=[.int .i64 (a.mark:Nat),aq (O ⟨φ a.f,0,V⟩),.int .i64 (a.pc:Nat),b,av]++rest/\a.f<nf/\oM w 185 b fZ/\B4 w fZ a.others/\yG D ρ n ψ nf w av a.args/\nF D ρ n φ ψ nf w rest r
theorem nF.bK{D:Nat->Prop}{ρ eQ:Nat->Nat}{n d:Nat}{φ ψ uZ sI:Nat->Nat}{nf F6:Nat}{w w':Z}(hk:eR w w')(hr:UM ψ nf w w')(hu:eD ρ n eQ d)(c:yE φ ψ nf uZ sI F6)(g:∀ i,nf<=i->i<F6->w.heap.size<=sI i):∀ {l:List Ga} {vs:List Y},nF D ρ n φ ψ nf w vs l->nF D eQ d uZ sI F6 w' vs l
 | [],vs,h=>h
 | a::r,vs,⟨j,av,fZ,rest,k,e,m,o,s,p⟩=>⟨j,av,fZ,rest,by rw[c.ph a.f e];exact k,Nat.lt_of_lt_of_le e c.le,m.bK fun b cs q=>hk b cs _ (yM) q,o.bK hk,(by grind [yG.bK]),nF.bK hk hr hu c g p⟩
def nF.len{D:Nat->Prop}{ρ:Nat->Nat}{n:Nat}{φ ψ:Nat->Nat}{nf:Nat}{w:Z}:∀ {l:List Ga} {vs:List Y},nF D ρ n φ ψ nf w vs l->vs.length=l.length*5
 | [],vs,h=>by have h:vs=[]:=h;grind
 | a::r,vs,⟨d,av,fZ,rest,b,_,_,_,_,c⟩=>by
  rw[b,List.length_append,nF.len c];grind
def nF.snoc{D:Nat->Prop}{ρ:Nat->Nat}{n:Nat}{φ ψ:Nat->Nat}{nf:Nat}{w:Z}{a:Ga}{l0:List Y}:∀ {l:List Ga} {vs:List Y},nF D ρ n φ ψ nf w vs l->nF D ρ n φ ψ nf w l0 [a]->nF D ρ n φ ψ nf w (vs++l0) (l++[a])
 | [],vs,h,b=>by have h:vs=[]:=h;grind
 | x::l,vs,⟨c,av,fZ,rest,j,d,e,f,g,i⟩,b=>⟨c,av,fZ,rest++l0,zg,d,e,f,g,nF.snoc i b⟩
theorem nF.take{D:Nat->Prop}{ρ:Nat->Nat}{n:Nat}{φ ψ:Nat->Nat}{nf:Nat}{w:Z}:∀ {l:List Ga} {vs:List Y} (m:Nat),nF D ρ n φ ψ nf w vs l->nF D ρ n φ ψ nf w (vs.take (m*5)) (l.take m)
 | l,vs,0,h=>by simp;rfl
 | [],vs,m+1,h=>by have h:vs=[]:=h;grind
 | a::l,vs,m+1,⟨b,av,fZ,rest,i,c,d,e,f,g⟩=>by
  refine⟨b,av,fZ,rest.take (m*5),?_,c,d,e,f,nF.take m g⟩;grind
theorem nF.at{D:Nat->Prop}{ρ:Nat->Nat}{n:Nat}{φ ψ:Nat->Nat}{nf:Nat}{w:Z}:∀ {l:List Ga} {vs:List Y} (m:Nat) (hm:m<l.length),nF D ρ n φ ψ nf w vs l->∃ b av fZ,(vs.drop (m*5)).take 5=[zi ((l[m]).mark:Nat),pp (φ (l[m]).f),zi ((l[m]).pc:Nat),b,av]/\(l[m]).f<nf /\
   oM w 185 b fZ/\B4 w fZ (l[m]).others/\yG D ρ n ψ nf w av (l[m]).args
 | a::l,vs,0,_,⟨b,av,fZ,rest,d,e,g,h,i,c⟩=>zg
 | a::l,vs,m+1,hm,⟨b,av,fZ,rest,d,e,g,h,i,c⟩=>by
  obtain⟨j,av',k,g1,g2⟩:=nF.at m zg c;grind
abbrev Ie(cb:Nat)(a b av:Y):Array Y:=#[pp cb,.slice V 0 0,zi 0,a,b,av]
def Dp:vS 1 116 (Ie cb tv vv av):=⟨zs,.inr J⟩
structure A9 where
 φ:Nat->Nat
 ψ:Nat->Nat
 vb:Nat
 cb:Nat
 fx:Nat
structure gr(D:Nat->Prop)(ρ:Nat->Nat)(e:A9)(av tv:Y)(dw:List Y)(w:Z)(m:Vm):Prop where
 st:ie D ρ m.n e.vb 1 116 (Ie e.cb (pp (e.φ m.f)) (zi (m.pc:Nat)) av) tv w m.sr
 fl:m.f<m.fs.length
 fs:∀ (i:Nat) (x:Fm),m.fs[i]?=O x->UL ρ m.n e.φ e.ψ e.fx w i x
 bk:∀ (i:Nat) (x:Fm) (b:Nat),m.fs[i]?=O x->x.back=O b->b<m.fs.length
 dp:∀ i,i<m.fs.length->D (e.ψ i)
 inj:∀ i j,i<m.fs.length->j<m.fs.length->e.ψ i=e.ψ j->i=j
 ar:w.ownsRow 0 342 5 av m.bz.length dw
 ag:nF D ρ m.n e.φ e.ψ m.fs.length w dw m.bz
 da:∀ g,av.ownBlock=O g->D g
def Rk(U:Nat)(w w':Z):Prop:=∀ (b:Nat) (cs:Array Y) (T:Nat),T≠U->w.heap[b]?=aN cs T->w'.heap[b]?=aN cs T
theorem af1{U:Nat}{w:Z}(h:Rk U w w'){size:Nat}(a:w.ownsRow base e size v n xs)(c:e≠U):w'.ownsRow base e size v n xs:=by
 refine⟨a.1,?_⟩;rcases a.2 with i | ⟨b,cap,cur,rfl,d,f,g⟩
 .exact yH
 .exact .inr ⟨b,cap,cur,J,d,h _ _ _ c f,g⟩
def ie.af2{T U:Nat}{w:Z}{s:Sr}(h:ie D ρ n pb so T cs tv w s)(hk:Rk U w w')
  (a:180≠U/\89≠U/\91≠U/\87≠U/\T≠U):ie D ρ n pb so T cs tv w' s:=
 ⟨h.sv.bK fun b c t ht d=>hk b c t zo d,h.dv,hk _ _ _ a.2.2.2.2 h.cell,af1 hk h.row a.2.2.2.1,h.dr,h.ds,h.nd,h.lt,h.ok⟩
def ie.Ih{sb T:Nat}{cs':Array Y}{w:Z}{s:Sr}(h:ie D ρ n sb so T cs tv w s)(d:vS so T cs)(hk:∀ b o,b≠sb->w.heap[b]?=O o->w'.heap[b]?=O o)
  (g:w'.heap[sb]?=aN (kJ (cs'.setIfInBounds so tv) so f) T):ie D ρ n sb so T cs' tv w' { s with fuel:=f }:=by
 have i:T≠87/\T≠91/\T≠180/\T≠89:=by rcases d.ty with h | h<;>subst h<;>decide
 have j:∀ {b:Nat} {c:Array Y} {t:Nat},w.heap[b]?=aN c t->t≠T->b≠sb:=fun a ht e=>by
  rw[e,h.cell] at a;grind
 refine⟨h.sv.bK fun b c t ht a=>yH,h.dv,g,⟨h.row.1,?_⟩,h.dr,h.ds,h.nd,h.lt,h.ok⟩;rcases h.row.2 with k | ⟨b,cap,cur,rfl,l,m,p⟩<;>grind
def Dn(D:Nat->Prop)(av:Y)(w:Z)(b:Nat):Prop:=D b/\av.ownBlock≠O b/\∀ cs,w.heap[b]?≠(aN cs 20)
section
variable{D:Nat->Prop}{ρ:Nat->Nat}{e:A9}{av tv:Y}{dw:List Y}{w w':Z}{m:Vm}
theorem gr.cell(h:gr D ρ e av tv dw w m):w.heap[e.vb]?=aN #[pp e.cb,tv,zi (m.sr.fuel:Nat),pp (e.φ m.f),zi (m.pc:Nat),av] 116:=h.st.cell
theorem gr.EF(h:gr D ρ e av tv dw w m)(a:av.ownBlock=O g):∃ cs,w.heap[g]?=aN cs 342:=by
 rcases h.ar.2 with⟨rfl,-⟩| ⟨b,cap,cur,rfl,-,c,-⟩
 .cases a
 grind [a1R,a07]
theorem gr.Y6(h:gr D ρ e av tv dw w m){c:Array Y}{U:Nat}(a:w.heap[g]?=aN c U)(b:U≠342):av.ownBlock≠O g:=(by grind [EF])
def gr.rest(h:gr D ρ e av tv dw w m){f' pc':Nat}{s':Sr}(hk:qu w w')(hu:eD ρ m.n ug pb)(lp:w'.ownsRow 0 342 5 av m.bz.length dw)
  (a:ie D ug pb e.vb 1 116 (Ie e.cb (pp (e.φ f')) (zi (pc':Nat)) av) vv w' s') (c:f'<m.fs.length):gr D ug e av vv dw w' ⟨pb,s',m.fs,f',pc',m.bz⟩:=
 ⟨a,c,fun i x hx=>(h.fs i x hx).bK hk.1 hu (yE.refl _ _ _) (i:=i) (x:=x) zg (fun b d=>h.bk i x b hx d) (hk.2 _),h.bk,h.dp,h.inj,lp,
  h.ag.bK hk.1 hk.toR hu (yE.refl _ _ _) yH,h.da⟩
theorem gr.ext(h:gr D ρ e av tv dw w m)(a:Ext w w'):gr D ρ e av tv dw w' m:=
 h.rest (qu.eo a) (eD.refl _ _) (jY a.ext h.ar) (h.st.ext a) h.fl
def gr.less(h:gr D ρ e av tv dw w m):ie (Dn D av w) ρ m.n e.vb 1 116 (Ie e.cb (pp (e.φ m.f)) (zi (m.pc:Nat)) av) tv w m.sr:=by
 have a:∀ {b:Nat} {c:Array Y} {U:Nat},D b->w.heap[b]?=aN c U->U≠342->U≠20->Dn D av w b:=fun l o p j=>⟨l,h.Y6 o p,yH⟩;refine⟨h.st.sv,fun i k=>?_,h.st.cell,h.st.row,fun g d=>?_,a h.st.ds h.cell zo zo,h.st.nd,h.st.lt,h.st.ok⟩
 .obtain⟨ref,j,-⟩:=h.st.sv.var i k;exact a (h.st.dv i k) j zo zo
 .rcases h.st.row.2 with⟨rfl,-⟩| ⟨r,cap,cur,rfl,-,q,-⟩
  .cases d
  .simp only[a1R,a07] at d;subst d;exact a (h.st.dr _ J) q zo zo
theorem gr.dn(h:gr D ρ e av tv dw w m)(hD:∀ b,w.heap.size<=b->D b):∀ b,w.heap.size<=b->Dn D av w b:=fun b a=>⟨hD b a,(by grind [bh,EF]),yH⟩
def Dn.ap9(a:di (Dn D av w) w w1):qu w w1:=⟨a.toI,fun b cs c=>a.block _ _ c fun hm=>hm.1.2.2 cs c⟩
def gr.store(h:gr D ρ e av tv dw w m){s':Sr}(c:ie (Dn D av w) ρ m.n e.vb 1 116 (Ie e.cb (pp (e.φ m.f)) (zi (m.pc:Nat)) av) vv w' s')(a:di (Dn D av w) w w') :
  gr D ρ e av vv dw w' { m with sr:=s' }/\di D w w':=by
 refine⟨h.rest (Dn.ap9 a) (eD.refl _ _) ⟨h.ar.1,?_⟩ (c.up fun _ h=>h.1) h.fl,a.up fun _ h=>h.1⟩;rcases h.ar.2 with j | ⟨b,cap,cur,rfl,d,g,i⟩
 .exact yH
 .exact .inr ⟨b,cap,cur,J,d,a.block _ _ g (fun hm=>hm.1.2.1 J),i⟩
def gr.fresh(h:gr D ρ e av tv dw w m)(hD:∀ b,w.heap.size<=b->D b)(g:Ext w w')(hv:w'.heap[w.heap.size]?=aN #[ai] 91) :
  ∃ eQ,eD ρ m.n eQ (m.n+1)/\eQ m.n=w.heap.size/\gr D eQ e av tv dw w' { m with n:=m.n+1 }:=by
 obtain⟨eQ,u⟩:∃ eQ:Nat->Nat,eQ=fun i=>if i<m.n then ρ i else w.heap.size:=⟨_,J⟩
 have hu:eD ρ m.n eQ (m.n+1):=⟨zo,zg⟩;have q:eQ m.n=w.heap.size:=yH;have hold:∀ i,i<m.n->ρ i<w.heap.size:=fun i c=>by
  obtain⟨r,a,-⟩:=h.st.sv.var i c;exact yH
 have k:=h.st.ext g;have f:∀ i,i<m.n+1->i<m.n\/i=m.n:=zg;refine⟨eQ,hu,q,h.rest (qu.eo g) hu (jY g.ext h.ar) ?_ h.fl⟩;refine⟨⟨fun i j c s he=>?_,fun i c=>?_⟩,fun i c=>?_,k.cell,?_,h.st.dr,h.st.ds,h.st.nd,fun p d=>Nat.lt_of_lt_of_le (h.st.lt p d) hu.1,h.st.ok⟩
 .rcases f i c with a | rfl<;>rcases f j s with l | rfl
  .rw[hu.2 i a,hu.2 j l] at he;exact h.st.sv.inj i j a l he
  .grind
  .grind
  .rfl
 .rcases f i c with a | rfl
  .obtain⟨r,g1,g2⟩:=k.sv.var i a;refine⟨r,yH,?_⟩;cases o:P.look i m.sr.tr with
   | none=>grind
   | some t=>rw[o] at g2;exact dL.mono zg hu.1 hu.2 (fun _ _ _ _ _ h=>h) t r g2
  .have o:P.look m.n m.sr.tr=none:=P.QA fun hm=>by
    obtain⟨p,d,x⟩:=List.mem_map.1 hm;have:=h.st.lt p d;omega
   exact yH
 .rcases f i c with a | rfl
  .rw[hu.2 i a];exact h.st.dv i a
  grind
 .have e:rI eQ m.sr.tr=rI ρ m.sr.tr:=by
   unfold rI;refine List.map_congr_left fun p d=>?_;rw[hu.2 p.1 (h.st.lt p (List.mem_reverse.1 d))]
  rw[e];exact k.row
def gr.own(h:gr D ρ e av tv dw w m)(i:bB (fun b _=>b=e.vb) w w'){f' pc':Nat}(j:w'.heap[e.vb]?=aN #[pp e.cb,tv,zi (m.sr.fuel:Nat),pp (e.φ f'),zi (pc':Nat),av] 116)
  (k:f'<m.fs.length):gr D ρ e av tv dw w' { m with f:=f',pc:=pc' }/\di D w w':=by
 have a:∀ b o,b≠e.vb->w.heap[b]?=O o->w'.heap[b]?=O o:=(by grind [bB.block]);have l:∀ {b:Nat} {c:Array Y} {t:Nat},w.heap[b]?=aN c t->t≠116->b≠e.vb:=fun a ht e=>by
  rw[e,h.cell] at a;grind
 have d:di D w w':=bB.mono i fun b o g e=>by
  subst e;rw[h.cell] at g;exact⟨h.st.ds,_,_,_,(a1b g).symm,.inr (.inr (.inr (.inr (.inl J))))⟩
 refine⟨h.rest ⟨d.toI,yH⟩ (eD.refl _ _) ⟨h.ar.1,?_⟩ (h.st.Ih Dp a j) k,d⟩;rcases h.ar.2 with n | ⟨b,cap,cur,rfl,p,q,r⟩<;>grind
def gr.LP(h:gr D ρ e av tv dw w m){av':Y}{avs':List Y}{l:List Ga}(hr:w1.ownsRow 0 342 5 av' l.length avs')
  (a:w.grownBy w1 av.ownBlock) (hv:av'.ownBlock=av.ownBlock\/∀ g,av'.ownBlock=O g->D g/\w.heap.size<=g) (s:nF D ρ m.n e.φ e.ψ m.fs.length w avs' l)
  (hw:w2=bS w1 e.vb (ae #[pp e.cb,tv,zi (m.sr.fuel:Nat),pp (e.φ m.f),zi (m.pc:Nat),av'] 116)) :
  gr D ρ e av' tv avs' w2 { m with bz:=l }/\di D w w2/\qu w w2/\w1.heap[e.vb]?=w.heap[e.vb]?:=by
 have t:=h.cell;have p:∀ (b:Nat) (c:Array Y) (U:Nat),U≠342->w.heap[b]?=aN c U->w1.heap[b]?=aN c U:=(by grind [bh,World.grownBy.block,Y6]);have f1:di D w w1:=⟨a.os,a.tape,a.output,a.size,fun b o j hm=>by
  rw[a.block b (bh j) (fun e=>?_)]
  .omega
  .obtain⟨cs,d⟩:=h.EF e.symm;rw[j] at d;exact hm ⟨h.da b e.symm,_,_,_,a1b d,.inr zg⟩⟩
 have s1:ie D ρ m.n e.vb 1 116 (Ie e.cb (pp (e.φ m.f)) (zi (m.pc:Nat)) av) tv w1 m.sr:=h.st.af2 (U:=342) p zo;obtain⟨d,u⟩:=s1.cells Dp (cs':=Ie e.cb (pp (e.φ m.f)) (zi (m.pc:Nat)) av') (f:=m.sr.fuel);have he:bS w1 e.vb (ae (kJ ((Ie e.cb (pp (e.φ m.f)) (zi (m.pc:Nat)) av').setIfInBounds 1 tv) 1 (m.sr.fuel:Nat)) 116 (0,0))=w2:=zg;rw[he] at d u;have q:di D w w2:=yF;have y:=p _ _ _ zd t;have k:qu w w2:=⟨q.toI,yH⟩;refine⟨⟨d,h.fl,fun i x hx=>(h.fs i x hx).bK k.1 (eD.refl _ _) (yE.refl _ _ _) (i:=i) (x:=x) zg (fun b j=>h.bk i x b hx j) yH,h.bk,h.dp,h.inj,?_,s.bK k.1 k.toR (eD.refl _ _) (yE.refl _ _ _) yH,fun g z=>?_⟩,q,k,yH⟩
 .rw[hw];refine Js hr fun e=>?_;rcases hr.2 with⟨r,-⟩| ⟨B,cap,cur,r,-,C,-⟩
  .rw[r] at e;cases e
  grind [a1R,a07]
 grind [da]
def gr.forget(h:gr D ρ e av tv dw w m)(hm:k<=m.bz.length){a:Option Addr}(b:av = .slice a m.bz.length c)
  (hw:w1=bS w e.vb (ae #[pp e.cb,tv,zi (m.sr.fuel:Nat),pp (e.φ m.f),zi (m.pc:Nat),.slice a k c] 116)) :
  gr D ρ e (.slice a k c) tv (dw.take (k*5)) w1 { m with bz:=m.bz.take k }/\di D w w1/\qu w w1:=by
 have n:=h.ag.len;have hr:w.ownsRow 0 342 5 (.slice a k c) k (dw.take (k*5)):=by
  refine⟨zg,?_⟩;rcases h.ar.2 with⟨d,i⟩| ⟨g,cap,cur,d,i,o,p,q,r,s⟩<;>grind
 have j:w.grownBy w av.ownBlock:=⟨J,J,J,a1c _,yH⟩;obtain⟨t,u,x,-⟩:=h.LP (l:=m.bz.take k) (av':=.slice a k c) (avs':=dw.take (k*5)) zg j (.inl (by rw[b];cases a<;>rfl)) (h.ag.take k) hw;exact yF
theorem gr.cur(h:gr D ρ e av tv dw w m):∃ x,m.fs[m.f]?=O x/\UL ρ m.n e.φ e.ψ e.fx w m.f x:=
 ⟨_,a1e h.fl,h.fs _ _ (a1e h.fl)⟩
def gr.aqa(h:gr D ρ e av tv dw w m){row:Array Y}(q:w.heap[e.ψ m.f]?=aN row 20){y:Sl}(C:zV ρ m.n w v y)
  (hw:w1=bS w (e.ψ m.f) (ae (row.setIfInBounds k v) 20 (0,0))):gr D ρ e av tv dw w1 (m.set k y)/\di D w w1:=by
 have r:Rk 20 w w1:=fun b cs T N a=>by
  exact yH
 have d:di D w w1:=⟨by rw[hw];rfl,by rw[hw];rfl,by rw[hw];rfl,yH,fun b o a hm=>by
  by_cases he:b=e.ψ m.f
  .subst he;rw[q] at a;exact absurd ⟨h.dp _ h.fl,_,_,_,(a1b a).symm,.inr (.inr (.inr (.inr (.inr (.inr J)))))⟩ hm
  exact yH⟩
 have E:UM e.ψ m.fs.length w w1:=fun b cs a hx=>by
  grind [jr,fl]
 have p:(m.set k y).fs.length=m.fs.length:=List.length_modify ..;have s:∀ (i:Nat) (x:Fm),(m.set k y).fs[i]?=O x->∃ x0,m.fs[i]?=O x0/\x=if m.f=i then{ x0 with slots:=x0.slots.set k y } else x0:=fun i x hx=>by
  have hx:(m.fs.modify m.f fun x=>{ x with slots:=x.slots.set k y })[i]?=O x:=hx;grind
 refine⟨⟨h.st.af2 r zo,by rw[p];exact h.fl,fun i x hx=>?_,fun i x b hx a=>?_,(by grind [dp]),fun i j g c=>h.inj i j zo zo,af1 r h.ar zo,?_,h.da⟩,d⟩
 .obtain⟨x0,l,he⟩:=s i x hx;have hm:=h.fs i x0 l;have t:i<m.fs.length:=zg;by_cases g:m.f=i
  .rw[zip g] at he;subst g;obtain⟨⟨cb,P,F,H⟩,I,K,z,Q,L⟩:=hm;rw[q] at z;cases z;rw[he];refine⟨⟨cb,?_,F.bK d.toI,H⟩,I,row.setIfInBounds k v,?_,?_,?_⟩
   .exact yH
   .exact yH
   .grind
   .intro j M c;simp only[List.getElem?_set] at c;by_cases B:k=j
    .subst B;rw[zip rfl] at c;split at c
     .rename_i hlt;cases c;exact⟨v,zg,C.bK d.toI (eD.refl _ _)⟩
     grind
    .rw[bI B] at c;obtain⟨u,g1,g2⟩:=L j M c;exact⟨u,zg,g2.bK d.toI (eD.refl _ _)⟩
  .rw[bI g] at he;subst he;exact hm.bK d.toI (eD.refl _ _) (yE.refl _ _ _) t (fun b a=>h.bk i _ b l a) fun cs R=>by
    rw[hw,jr (fun e=>g (h.inj _ _ h.fl t e.symm))];omega
 .obtain⟨x0,l,he⟩:=s i x hx;rw[p];refine h.bk i x0 b l ?_;grind
 .have:=h.ag.bK d.toI E (eD.refl _ _) (yE.refl _ _ _) yH;rw[<- p] at this;exact this
end
def least_some{l:List String}(h:l≠[]):∃ m,Instr.least l=O m:=by
 cases l with
 | nil=>grind
 | cons a l=>exact⟨_,J⟩
def aND{want:Array (String×TypeId)}{got:Array Method}(h:(want.toList.filter fun(name,sig)=>!got.any fun m=>m.name == name && m.sig == sig)≠[]):∃ m,Instr.missingMethod want got=O m:=by
 unfold Instr.missingMethod;obtain⟨l,b⟩:=cg ((want.toList.filter fun(name,sig)=>!got.any fun m=>m.name == name && m.sig == sig).map (·.1));rw[<- b];have c:l≠[]:=by rw[b];simpa using h
 have key:∀ (p:String->Bool)(g:String->String),∃ m,(match l.partition p with | (u,e)=>(Instr.least e <|> Instr.least (u.map g)))=O m:=by
  intro p g;rw[List.partition_eq_filter_filter];by_cases he:l.filter (not ∘ p)=[]
  .rw[he];have hu:l.filter p≠[]:=fun hu=>by
    obtain⟨a,r,rfl⟩:=List.exists_cons_of_ne_nil c;grind
   obtain⟨m,hm⟩:=least_some (l:=(l.filter p).map g) (by simpa using hu);exact ⟨m,hm⟩
  .obtain⟨m,hm⟩:=least_some he;exact ⟨m,by grind⟩
 exact key _ _
def P.vY:Sl->Except jQ Tm
 | .term t=>.ok t
 | _=>.error (.fault 5)
theorem P.af3(m:Vm)(i:P.In)(k:Nat):m.at i k=P.vY (m.slot (i.s.getD k 0)):=by
 grind [Vm.at,P.vY]
def aqb(P:Program)(u t:TypeId):Bool:=match P.underlying u with
 | some (.interface want)=>(match P.info? t with
  | some i=>!(want.toList.filter fun(name,sig)=>!i.methods.any fun m=>m.name == name && m.sig == sig).isEmpty
  | none=>G)
 | _=>G
def aNE:WG bbq 89 201=true:=by
 have h:aqb bbq 89 201=true:=zk;unfold aqb at h;unfold WG;split at h
 .rename_i want hu;split at h
  .rename_i i a;rw[hu,a];obtain⟨m,hm⟩:=aND (want:=want) (got:=i.methods) zg;grind
  grind
 .cases h
abbrev TmP(ρ:Nat->Nat)(n:Nat)(w:Z)(r:Except jQ Tm)(e:Ending):Prop:=match r with
 | .ok t=>∃ v,e = ah v/\dR ρ n w v t
 | .error t=>e=ig t
abbrev UN(v:Y)(r:Except jQ Tm)(e:Ending):Prop:=match r with
 | .ok _=>e = ah v
 | .error t=>e=ig t
def aqd{w:Z}{y:Sl}(p:Y)(h:zV ρ n w v y):Calls bbq 75 #[p,v] w fun e w'=>w'=w/\UN v (P.vY y) e:=by
 have c:∀ {T:Nat} {x:Y},(T=171\/T=172\/T=87\/T=175)->v = aj T x->(∃ t,y = .term t/\dR ρ n w v t)->Calls bbq 75 #[p,v] w fun e w'=>w'=w/\UN v (P.vY y) e:=by
  rintro T x b rfl ⟨t,rfl,ht⟩;have a:∀ {K:Y->Prop} {X:Y->Z->Prop},RD bbq (a1s (aj T x) 20 89 A) w K X=K (ak #[aj T x,.bool A]):=by
   rcases b with rfl | rfl | rfl | rfl<;>exact axg zk x
  refine afZ ?_;rw[a];refine bG ?_;refine⟨fun _ w'=>w'=w,?_,?_⟩
  .exact eV
  .rintro s w' rfl d;exact⟨J,J⟩
 cases y with
 | nil=>
  have h:v = ai:=h;subst h;have a:∀ {K:Y->Prop} {X:Y->Z->Prop},RD bbq (a1s ai 20 89 A) w K X=K (ak #[ai,.bool G]):=axi zk zk;refine afZ ?_;rw[a];refine bG ?_;refine⟨fun _ _=>False,?_,zg⟩;refine bG ?_;rfl
 | level k=>
  have h:v = aj 201 (zi (k:Nat)):=h;subst h;have a:∀ {K:Y->Prop} {X:Y->Z->Prop},RD bbq (a1s (aj 201 (zi (k:Nat))) 20 89 A) w K X=K (ak #[ai,.bool G]):=axh aNE zk _;refine afZ ?_;rw[a];refine bG ?_;refine⟨fun _ _=>False,?_,zg⟩;refine bG ?_;rfl
 | term t=>
  have h:dR ρ n w v t:=h;have f:=h;cases t with
  | var i=>unfold dR dL at h;grind
  | atom s=>unfold dR dL at h;grind
  | int k=>unfold dR dL at h;grind
  | comp s l=>unfold dR dL at h;grind
def UN.toP{w:Z}{y:Sl}{e:Ending}(h:zV ρ n w v y)(hv:UN v (P.vY y) e):TmP ρ n w (P.vY y) e:=by
 cases y with
 | nil=>exact hv
 | level k=>exact hv
 | term t=>exact⟨v,hv,h⟩
structure Bc(w:Z)(g o:Nat)(i:P.In):Prop where
 row:∃ cur,w.heap[g]?=aN cur 198/\o+4<=cur.size/\Rj w cur o i
theorem Bc.bK{w w':Z}(hk:eR w w'){g o:Nat}{i:P.In}(h:Bc w g o i):Bc w' g o i:=by
 obtain⟨cur,a,b,c⟩:=h;exact⟨cur,hk _ _ _ (yM) a,b,c.bK hk⟩
def Mf{w:Z}{l:List Nat}(a:fJ (fun _=>True) w 3 v (uY l))(c:j<l.length) :
  ∃ b cs,v = cV b l.length cs.size/\w.heap[b]?=aN cs 3/\cs[j]?=O (zi ((l[j]:Nat):Int))/\l.length<=cs.size:=by
 obtain⟨b,cs,f,-,d,g⟩:=a.at' (j:=j) (by simpa using c);refine⟨b,cs,zg,d,zg,?_⟩;rcases a with⟨e,-⟩| ⟨h,cs',e,-,i,k,-⟩<;>grind
section
variable{D:Nat->Prop}{ρ:Nat->Nat}{e:A9}{av tv:Y}{dw:List Y}{w w':Z}{m:Vm}
def gr.Rl(h:gr D ρ e av tv dw w m){x:Fm}(hx:m.fs[m.f]?=O x)(hk:k<x.slots.length):∃ row v,w.heap[e.ψ m.f]?=aN row 20/\row.size=x.slots.length/\row[k]?=O v/\zV ρ m.n w v (m.slot k):=by
 obtain⟨-,-,row,b,c,a⟩:=h.fs _ _ hx;have d:m.slot k=x.slots[k]:=by
  grind [Vm.slot,a1e]
 obtain⟨v,g1,g2⟩:=a k x.slots[k] zg;exact yH
def zV.one{n:Nat}{v:Y}:∀ {y:Sl},zV ρ n w v y->v = ai\/∃ t u,v = aj t u
 | .nil,h=>.inl h
 | .level _,h=>.inr ⟨_,_,h⟩
 | .term _,h=>.inr (by obtain⟨a,b,h⟩:=dL.iface h;grind)
def af4(h:gr D ρ e av tv dw w m){x:Fm}(hx:m.fs[m.f]?=O x){i:P.In}(p:Bc w g o i)(hk:k<i.s.length)(q:i.s[k]<x.slots.length)(L:k<=60) :
  Calls bbq 211 #[pp e.vb,pq g o,zi (k:Nat)] w fun c w'=>w'=w.drew/\∃ row v,w.heap[e.ψ m.f]?=aN row 20/\row[i.s[k]]?=O v /\
   zV ρ m.n w v (m.slot i.s[k])/\UN v (P.vY (m.slot i.s[k])) c:=by
 have r:=h.cell;obtain⟨⟨cb,u,-,-⟩,-,-⟩:=h.fs _ _ hx;obtain⟨row,v,hr,M,d,hv⟩:=h.Rl hx q;obtain⟨cur,y,N,-,-,-,sv,z,B⟩:=p;obtain⟨b,cs,rfl,C,E,Q⟩:=Mf B hk;have F:Ext w w.drew:=yF;refine aNx ?_;have H:(k:Int).toNat=k:=zo;have R:(k:Int)<(i.s.length:Nat):=zo;have j:((i.s[k]:Nat):Int).toNat=i.s[k]:=zo;have I:((i.s[k]:Nat):Int)<(x.slots.length:Nat):=zo;have K:=hv.one;rcases K with rfl | ⟨t1,S,rfl⟩;all_goals
  refine dM r u y (zA z (zA C (zA E (zA @H (zA hr (zA d @j)))))) ?_;refine Calls.mono (aqd _ (hv.bK (eR.eo F) (eD.refl _ _))) ?_;rintro c w1 ⟨rfl,a⟩;cases l:P.vY (m.slot i.s[k]) with
  | error t=>
   rw[l] at a;have a:c=ig t:=a;subst a;cases t<;>exact⟨J,_,_,hr,d,hv,J⟩
  | ok t=>
   rw[l] at a;have a:c = ah _:=a;subst a;exact⟨J,_,_,hr,d,hv,J⟩
def Y8(h:gr D ρ e av tv dw w m){x:Fm}(hx:m.fs[m.f]?=O x){i:P.In}(b:Bc w g o i)(hk:k<i.s.length)(c:i.s[k]<x.slots.length)(d:k<=60) :
  Calls bbq 211 #[pp e.vb,pq g o,zi (k:Nat)] w fun a w'=>w'=w.drew/\TmP ρ m.n w' (m.at i k) a:=by
 refine(af4 h hx b hk c d).mono ?_;rintro a w' ⟨rfl,row,v,-,-,hv,j⟩;have l:Ext w w.drew:=yF;have he:m.at i k=P.vY (m.slot i.s[k]):=by
  grind [P.af3,a1e]
 rw[he];exact⟨J,j.toP (hv.bK (eR.eo l) (eD.refl _ _))⟩
end
def aNG:(Tryz.prog.info? 342).map (fun i=>(i.zero,i.size,i.bytes))=O (O (.agg #[zi 0,aq V,zi 0,bX,bX]),5,72):=zk
def aqe{w:Z}(c:w.ownsRow base 342 5 v n xs){m:Nat}{l:List Y}
  (d:w.heap[b]?=aN l.toArray 342) (q:l.length=5) (r:∀ u∈l,u.oneCell'=A)
  (s:n<=900000000) (f:base<=w.heap.size) {K:Y->Z->Prop}
  (h:∀ v' w',w'.ownsRow base 342 5 v' (n+1) (xs++l)->w.grownBy w' v.ownBlock->(v'.ownBlock=v.ownBlock\/∀ k,v'.ownBlock=O k->w.heap.size<=k)->K v' w') :
  WR bbq (Builtin.append_ #[114,114] 114 #[v,cV b 1 m]) w K X:=by
 obtain⟨i,g,a⟩:=Option.map_eq_some_iff.1 aNG;simp only[Prod.mk.injEq] at a;obtain⟨j,o,p⟩:=a;exact Sx.DP (m:=1) (t:=114) (e:=342) zk g j o p J zo c d zo zg zo zo f h
def aNH{w:Z}{t:TypeId}{fr:Nat×Nat}(a:w.heap[g]?=O (ae iL t fr)):w.setRow g cs=bS w g (ae cs t fr):=by
 have hlt:g<w.heap.size:=yH;unfold World.setRow bS
 congr 1
 exact yH
def aNI{w:Z}{K:Y->Z->Prop}:WR bbq (Builtin.copy_ #[200,200] 3 #[.slice (O ⟨g,o,V⟩) n c,bX]) w K X=K (zi 0) w:=
 xR (run_copy_nil (elem:=20) bbq w _ _ _ _ n c zk zk)
def aNJ{w:Z}{row:Array Y}(a:w.heap[g]?=aN iL 20)(f:w.heap[b]?=aN row 20)(hk:k<=row.size)(i:k<=n)(j:n<=iL.size)
  (d:∀ v∈row.toList.take k,v.oneCell'=A) {K:Y->Z->Prop} :
  WR bbq (Builtin.copy_ #[200,200] 3 #[cV g n c,cV b k pb]) w K X=K (zi (k:Nat)) (bS w g (ae (row.toList.take k++iL.toList.drop k).toArray 20 (0,0))):=by
 have e:(row.toList.take k).length=k:=zg;have h:=run_copy_row bbq w 200 200 3 20 g 0 n c ⟨b,0,V⟩ k pb iL 20 (row.toList.take k) zk zk a zg
  (by grind [Addr.add,World.cell?,WalkArith.addr_eq]) zo d
 rw[e,aNH a] at h;simp only[List.take_zero,List.nil_append,Nat.zero_add] at h;exact xR h
section
variable{D:Nat->Prop}{ρ:Nat->Nat}{e:A9}{av tv:Y}{dw:List Y}{w w':Z}{m:Vm}
def gr.aNK(h:gr D ρ e av tv dw w m)(hD:∀ b,w.heap.size<=b->D b)(B:bB (fun b _=>b=e.vb) w w'){fb rb:Nat}{c:Co}{slots:List Sl}{row:Array Y}(P:w.heap.size<=fb)(Q:w.heap.size<=rb)
  (R:w'.heap[fb]?=aN #[pp cb,cV rb slots.length slots.length,zi (n:Nat),pp (e.φ f),zi (pc:Nat)] 203) (C:F5 w' cb c)
  (S:w'.heap[rb]?=aN row 20) (E:row.size=slots.length) (F:Dl ρ m.n w' row slots) (T:f<m.fs.length)
  (U:w'.heap[e.vb]?=aN #[pp e.cb,tv,zi (m.sr.fuel:Nat),pp fb,zi ((0:Nat):Int),av] 116) :
  ∃ φ ψ,gr D ρ ⟨φ,ψ,e.vb,e.cb,e.fx⟩ av tv dw w' { m with fs:=m.fs++[⟨c,slots,n,O f,pc,G⟩],f:=m.fs.length,pc:=0 }/\di D w w':=by
 have g:∀ b o,b≠e.vb->w.heap[b]?=O o->w'.heap[b]?=O o:=(by grind [bB.block]);have W:∀ {b:Nat} {c:Array Y} {t:Nat},w.heap[b]?=aN c t->t≠116->b≠e.vb:=fun g ht e=>by
  rw[e,h.cell] at g;grind
 have s:di D w w':=bB.mono B fun b o u e=>by
  subst e;rw[h.cell] at u;exact⟨h.st.ds,_,_,_,(a1b u).symm,.inr (.inr (.inr (.inr (.inl J))))⟩
 have l:qu w w':=⟨s.toI,yH⟩;obtain⟨uZ,H⟩:∃ uZ:Nat->Nat,uZ=fun i=>if i=m.fs.length then fb else e.φ i:=⟨_,J⟩
 obtain⟨sI,I⟩:∃ sI:Nat->Nat,sI=fun i=>if i=m.fs.length then rb else e.ψ i:=⟨_,J⟩
 have K:uZ m.fs.length=fb:=zg;have L:sI m.fs.length=rb:=zg;have p:∀ i,i<m.fs.length->uZ i=e.φ i:=zg;have d:∀ i,i<m.fs.length->sI i=e.ψ i:=zg;have y:yE e.φ e.ψ m.fs.length uZ sI (m.fs.length+1):=⟨Nat.le_succ _,p,d⟩;have hold:∀ i,i<m.fs.length->e.ψ i<w.heap.size:=fun i a=>by
  obtain⟨-,-,row,X,-⟩:=h.fs i _ (a1e a);exact yH
 have z:∀ (i:Nat) (x:Fm),(m.fs++[⟨c,slots,n,O f,pc,G⟩])[i]?=O x->(i<m.fs.length/\m.fs[i]?=O x)\/(i=m.fs.length/\x=⟨c,slots,n,O f,pc,G⟩):=zg;have q:∀ i,i<(m.fs++[(⟨c,slots,n,O f,pc,G⟩:Fm)]).length->i<m.fs.length\/i=m.fs.length:=zg;have hlen:(m.fs++[(⟨c,slots,n,O f,pc,G⟩:Fm)]).length=m.fs.length+1:=zs;refine⟨uZ,sI,⟨?_,zg,fun i x hx=>?_,fun i x b hx M=>?_,fun i a=>?_,fun i j a N he=>?_,⟨h.ar.1,?_⟩,?_,h.da⟩,s⟩
 .have:=h.st.Ih Dp g (cs':=Ie e.cb (pp (uZ m.fs.length)) (zi ((0:Nat):Int)) av) (f:=m.sr.fuel) (yH);omega
 .rcases z i x hx with⟨a,hx⟩| ⟨rfl,rfl⟩
  .exact(h.fs i x hx).bK l.1 (eD.refl _ _) y a (fun b g=>h.bk i x b hx g) yH
  .refine⟨⟨cb,?_,C,zg⟩,zg,row,yH,E,F⟩;grind [B5]
 .show b<(m.fs++_).length;rw[hlen];rcases z i x hx with⟨a,hx⟩| ⟨rfl,rfl⟩
  .have:=h.bk i x b hx M;omega
  grind
 .rcases q i a with k | rfl
  .grind [dp]
  grind
 .have he:sI i=sI j:=he;rcases q i a with k | rfl<;>rcases q j N with r | rfl
  .rw[d i k,d j r] at he;exact h.inj i j k r he
  .grind
  .grind
  .rfl
 .rcases h.ar.2 with k | ⟨b,cap,cur,rfl,r,h3,h4⟩<;>grind
 .have:=h.ag.bK l.1 l.toR (eD.refl _ _) y yH;grind
end
