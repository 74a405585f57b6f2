/- A part of one proof (KE4, KE7, ShX5, KV1, KV2, KV3, KV4, KV5). -/
import Derived.Test.YtoegidfbnkaabaaGreatDoorPkJAU
import Derived.Laws.CopyRow
set_option linter.all false
set_option maxRecDepth 100000
set_option maxHeartbeats 8000000
open Option renaming some → O, none → V
open Go renaming Value → Y, World → Z
open Bool renaming true → A, false → G
open Go.Obj renaming cells → ae
open Go.Ending renaming returned → ah
open Go.Value renaming nilIface → ai, iface → aj, tuple → ak, pointer → aq
open Option.some renaming injEq → aZG, inj → aZN
open Nat renaming le_refl → aZK
open List renaming getElem?_eq_getElem → aZM
open Go.Instr renaming typeAssert → aZ0
open Go.Value renaming ownBlock → a0q
open Go.Proofs.Tryz renaming prog → a9G
open Go.Proofs.Tryz
namespace Go.Proofs.YtoegidfbnkaabaaGreatDoor
open P
open Go.RowKit Sx
variable{D:Nat->Prop}{E:En}{M b base c cb d e f g j k m n o pb pc qb so xb:Nat}{X:Y->Z->Prop}{av tv v vv:Y}{cs iB:Array Y}{s:Bs}{sX ρ:Nat->Nat}{vars:List Bs}{vs xs:List Y}{w w' w1 w2:Z}
mutual
theorem eW.Qb {n M a:Nat} (b:M<=a):∀ {x:Bd},eW n M x->eW n a x
 | .mk kind name args parts,hx=>by
  unfold eW at hx ⊢;obtain⟨c,d,e,f,g,i,j,h⟩:=hx;exact⟨c,d,e,f,g,zo,zo,eX.Qb b h⟩
 termination_by structural x=>x
theorem eX.Qb {n M a:Nat} (b:M<=a):∀ {l:List Bd},eX n M l->eX n a l
 | [],hx=>by unfold eX;trivial
 | x::xs,hx=>by
  unfold eX at hx ⊢;exact⟨eW.Qb b hx.1,eX.Qb b hx.2⟩
 termination_by structural x=>x
end
def P.X0{x:Bd}{vs:List Bs}(h:xw uO s = .ok x k vs):Iv vs/\eW vs.length 2900 x:=by
 unfold xw at h;split at h
 .grind
 .split at h
  .grind
  .rename_i T b;have a:=Sz b;have d:B9 T:=⟨MG _ _ _ _ (by rw[R9,b]),fun u hu hk=>by
    obtain⟨c,r,e,-⟩:=(a.tok u hu).2.2.1 hk;grind,fun u hu hk=>((a.tok u hu).2.1 hk).2.1⟩
   have i:=a.len;obtain⟨f,g⟩:=aHf d (fun u hu hk=>(a.tok u hu).2.2.2.1 hk) h;exact⟨f,eW.Qb zo g⟩
def IS(w:Z)(xb:Nat)(base:List Cl):Prop:=∃ v vs,w.heap[xb]?=aM #[v] 72/\fK (fun _=>True) w 79 v vs/\j9 (fun _=>True) w vs base
def IS.iT{w w':Z}{xb:Nat}{base:List Cl}(h:IS w xb base)(hk:eH w w'):IS w' xb base:=by
 obtain⟨v,vs,a,b,c⟩:=h;exact⟨v,vs,hk _ _ _ (yM) a,b.iT hk (yM),c.iT hk⟩
def TJ(names:List Bs)(w w':Z)(qb:Nat)(E:En)(st:E.St):Prop:=
 ∃ X:Bi E,(GW X/\Qa X)/\qb≠X.eb/\w.heap.size<=qb/\X.Good 0 st/\∃ ρ,∀ D:Nat->Prop,(∀ b,w.heap.size<=b->D b)->wI X D ρ qb names w' (V,st)
theorem wI.ext{E:En}{X:Bi E}(L:GW X){D:Nat->Prop}{ρ:Nat->Nat}{qb:Nat}{names:List Bs}{w w':Z}{q:Qs E}(h:wI X D ρ qb names w q)(a:Ext w w'):wI X D ρ qb names w' q:=by
 obtain⟨⟨GX,b,c⟩,d⟩:=h;exact⟨⟨GX,a.ext _ _ b,c.mono zg (by grind [bB.ext])⟩,(by grind [GW.ext])⟩
theorem TJ.ext{names:List Bs}{w w1 w2:Z}{qb:Nat}{E:En}{st:E.St}(h:TJ names w w1 qb E st)(a:Ext w1 w2):TJ names w w2 qb E st:=by
 obtain⟨X,L,b,c,d,ρ,e⟩:=h;exact⟨X,L,b,c,d,ρ,fun D hD=>(e D hD).ext L.1 a⟩
def aeR(w:Z)(s:Bs)(E:Bd->List Bs->En)(st:∀ x vs,(E x vs).St)(e:Ending)(w':Z):Prop:=
 Ext w w'/\match xw uO s with
 | .err c a=>∃ b,e = ah (ak #[aq V,aj 73 (aq (O ⟨b,0,V⟩))])/\w'.heap[b]?=O (ae #[.int .i64 c,.int .i64 a] 77 (0,0))
 | .ok x _ vs=>∃ qb,e = ah (ak #[aq (O ⟨qb,0,V⟩),ai])/\TJ vs w w' qb (E x vs) (st x vs)
def P.aLS{x:Bd}(hx:eW n M x):lF M (0*1000000) { Wk.new x n with sr:={ (Wk.new x n).sr with fuel:=0 } }/\lh (Wk.new x n).sr:=
 ⟨⟨⟨⟨Nat.zero_le _,fun i c=>List.mem_range.1 c,zg,trivial⟩,(fun i a h=>by cases h),(fun i a h=>by cases h),(fun i j a b _ h=>by cases h)⟩,(by rw[Nat.zero_mul];exact aZK 0),(by rw[Nat.zero_mul];exact aZK 0)⟩,trivial,trivial⟩
def aLT(s:Bs){base:List Cl}(F:s.length<=100000)(I:Io w)(hC:mw w w.heap.size)(hx:IS w xb base)(dx:∀ c∈base,yD M c)(mm:∀ c∈base,c.name.length<=100)(K:base.length<=100000)(hM:M<=100000)(n:2900<=M) :
  Calls a9G 26 #[pp xb,aT s,.bool G] w (aeR w s (fun _ vs=>WE base vs.length) (fun x vs=>Wk.new x vs.length)):=by
 suffices H:∀ R:Ending->Z->Prop,(∀ e w',aeR w s (fun _ vs=>WE base vs.length) (fun x vs=>Wk.new x vs.length) e w'->R e w')->Calls a9G 26 #[pp xb,aT s,.bool G] w R from H _ zg;intro R i;refine anL ?_;refine bE ?_;refine(aoo s w F I hC).mono ?_;rintro e w1 ⟨y,j⟩;have s1:=y.size;unfold aeR at i;cases hr:xw uO s with
 | err c a=>
  rw[hr] at j i;obtain⟨b,rfl,h1⟩:=j;refine bE ?_;grind
 | ok x k vs=>
  rw[hr] at j i;obtain⟨b,rfl,-,NA,o,l,m,L,N,Q⟩:=j;obtain⟨v,fV,g1,g2,g3⟩:=hx.iT (eH.dZ y);obtain⟨sa,sc,rfl⟩:=g2.sl;refine cH @g1 ?_;refine Calls.mono (aKz g2 g3 (by grind [yD.qg]) K) ?_;rintro e w2 ⟨z,mb,rfl,KT,S⟩;have B:=z.ext _ _ L;have p:dL (fun _=>True) w2 (pp o) x:=dL.mono zg (by grind [bB.ext]) _ _ N;refine bE ?_;refine Calls.mono (aKE zo B p) ?_;rintro e w3 ⟨T,wb,fb,ρ,todo,rfl,rm,q,C⟩;have U:=T.ext _ _ B;have s2:=z.size;have r:=(C (fun _=>True) (fun _ _=>trivial)).cell;have lw:=bg r;refine bE ?_;obtain⟨d,W⟩:=cd (bO (w3.alloc (ae #[aq V] 122)) w3.heap.size (ae #[pp wb] 122));have X:bO (w3.alloc (ae #[aq V] 122)) w3.heap.size (ae (oF #[aq V] 0 (Value.pointer (O ⟨wb,0,V⟩)).cells.toList) 122 (0,0))=d:=by rw[W];rfl
  rw[X];have E:Ext w3 d:=yF;have g4:d.heap[w3.heap.size]?=aM #[pp wb] 122:=yH;have t:=E.ext _ _ U;have s4:=E.size;refine⟨fun w'=>w'.heap[w3.heap.size]?=d.heap[w3.heap.size]?/\w'.heap[b]?=d.heap[b]?,yH,?_⟩;refine cO (pp wb) (fun w' f=>by rw[g4] at f;have g:=f.1;have:=bg g;exact fa g) (cO (pp wb) (fun w' f=>by rw[g4] at f;have g:=f.1;have:=bg g;exact fa g) ?_);rw[ju];refine cO (pq wb 1) (fun w' f=>eR) ?_;rw[ju];refine cO (pq b 3) (fun w' f=>eR) (cO (.slice l vs.length m) (fun w' f=>by rw[t] at f;have g:=f.2;have:=bg g;exact fa g) ?_);refine aLR zk ?_;rw[Vx];refine⟨yH,?_⟩;refine bE ?_;obtain⟨h,nZ⟩:=cd (d.drew.alloc (ae #[aj 122 (pp wb),pq wb 1,.func (.func 40) #[] #[pp w3.heap.size],.slice l vs.length m,ai] 121));have ud:Ext d h:=yF;have g5:h.heap[d.heap.size]?=aM #[aj 122 (pp wb),pq wb 1,.func (.func 40) #[] #[pp w3.heap.size],.slice l vs.length m,ai] 121:=yH;have Bg:Ext w3 h:=yF;have Nb:Ext w1 h:=yF;have Bj:eW vs.length M x:=eW.Qb n (P.X0 hr).2;rw[<- nZ];refine i _ _ ⟨yF,d.heap.size,J,wkX base M vs.length wb mb w3.heap.size (cR fb vs.length vs.length),(by grind [aLr,wkD]),?_,zo,P.aLS Bj,ρ,fun D hD=>?_⟩
  .show d.heap.size≠wb;omega
  .have u:fK (fun _=>True) h 9 (.slice l vs.length m) (vs.map fun s=>aT s):=Q.mono zg (by grind [bB.ext]);refine⟨⟨_,g5,u⟩,fun _=>⟨⟨_,_,_,_,(C D (fun b hb=>hD b zo)).ext Bg⟩,(by grind [eH.dZ,Bf.bH,bB.trans,bB.ext]),q.mono zg yH,aZK _,yH⟩⟩
def aoO(k:Int)(w:Z)(c:Ca w):Calls a9G 23 #[aj 27 (zi k)] w fun e w'=>Ext w w'/\e = ah (ak #[zi k,zi (-1)]):=by
 refine aaG ?_;refine bE ?_;obtain⟨a,i⟩:=cd ((w.alloc (ae #[aq V] 73)).alloc (ae #[zi 0] 27));have d:Ext w a:=yF;have q0:a.heap[w.heap.size]?=aM #[aq V] 73:=yH;have q1:a.heap[w.heap.size+1]?=aM #[zi 0] 27:=yH;rw[size_alloc,<- i];refine(aLN k ⟨w.heap.size,0,V⟩ _ a (c.ext d) (by simp [World.cell?,q0];rfl) (jH q0 0)).mono ?_;rintro e w3 ⟨rfl,j⟩;have f:Ext a w3:=yF;have b:=f.ext _ _ q1;clear j;refine bE ?_;refine(aLI k ⟨w.heap.size+1,0,V⟩ _ w3 ((c.ext d).ext f) (by simp [World.cell?,b];rfl) (jH b 0)).mono ?_;rintro e g ⟨rfl,h⟩;obtain⟨l,m⟩:=cd ((((w3.alloc (ae #[pp (w.heap.size+1)] 78)).alloc (ae #[pq 12 78,pp w3.heap.size,.int .u64 150] 158)).alloc (ae #[pq 12 78,pp w3.heap.size,.int .u64 150] 158)).alloc (ae #[zi k] 27));rw[<- m] at h;have n:Ext w3 l:=yF;have o:=n.ext _ _ b;rw[uD o] at h;have p:Ext w g:=by
  exact yF
 have q4:g.heap[w.heap.size+1]?=aM #[zi k] 27:=by
  exact yH
 refine cH @q4 ?_;exact yF
def aoP{ru:Bs×Nat}{X:Bi E}(L:GW X){q i:Qs E}(r:wI X D ρ qb vars w q)(hD:∀ b,w.heap.size<=b->D b)(j:¬ D 4)(s:¬ D 0)
  (t:lH w) (u:Ca w) (x:qb≠X.eb) (m:qb≠4) (y:qb≠0) (z:q.1=V->X.Good c q.2) (B:c<=700) (C:∀ nm∈vars,nm≠[]/\nm.length<=3000) (F:vars.length<=12) (hlen:∀ k l,E.told k = .ok l->l.length=vars.length)
  (hr:DB E vars d f q=O (ru,i)) :
  Calls a9G 16 #[pp qb] w fun e w'=>KR D qb w w'/\e = ah (ak #[aT ru.1,zi (ru.2:Nat)])/\∃ eG,wI X D eG qb vars w' i:=by
 refine aKL ?_;refine(aKW L r hD j t x m z B C F hlen hr).mono ?_;rintro e w1 ⟨H,rfl,a,g,eG,p⟩;have I:Ca w1:=LX u fun o K=>H.block _ o K (by
  rintro (⟨h,_⟩| h)<;>grind)
 have M:∀ {w2:Z},Ext w1 w2->KR D qb w w2:=yF;obtain⟨err,st⟩:=i;simp only at a g;cases err with
 | none=>
  have a:=a J;simp only[Ff];refine bE ?_;refine(acz w1).mono ?_;rintro e w2 ⟨n,rfl⟩;refine bE ?_;rw[a];exact⟨yF,J,eG,p.ext L n⟩
 | some k=>
  have g:=g k J;simp only[Ff];refine bE ?_;refine(aoO k w1 I).mono ?_;rintro e w2 ⟨n,rfl⟩;refine bE ?_;rw[g];exact⟨yF,J,eG,p.ext L n⟩
open Go.Proofs.YtoegidfbnkaabaaGreatDoor.Sx
section
variable{p0 p1 p2 p3 p4 p5 p6 p7:Y}{w:Z}{R:Ending->Z->Prop}
def aLZ:=cz w R [p0] (gd [] [] [] [(1,[17,0,1,2,3,4,5,6,7,8,9,10,11,12,13,14,15,16,17])] [] [] []) func35
def aL0:=cz w R [p0] (gd [(3,[2,23])] [] [(2,14)] [] [] [] [24]) func36
def aeS:=cz w R [p0,p1] (gc [] [(3001,[])] [6,11,12,13]) func75
def aL1:=cz w R [p0,p1,p2] (gd [] [] [(1,17)] [] [] [] []) func211
def aL2:=cz w R [p0] (gd [] [] [(5,7),(10,18)] [(7,[16,0,1,2,3,4,5,6,7,8,9,10,11,12,13,14,15])] [] [] [2,12,31]) func206
def aL3:=cz w R [p0,p1,p2,p3,p4,p5] (gd [] [(2001,[])] [] [(2,[20,0,1,2,3,4,5,6,7,9,10,11,12,13,8,14,15,16,17,18,19]),(3,[22,0,1,2,3,4,5,6,7,8,9,10,11,12,14,15,16,13,17,18,19,20,21])] [] [] [23]) func209
def aL4:=cz w R [p0,p1] (gd [(6,[32]),(19,[99])] [(16000,[92]),(17001,[])] [(16,23),(21,16)] [] [] [] [4,18,33,68,91,92,100]) func212
def aL5:=cz w R [p0,p1] (gd [(3,[5,14])] [(9001,[])] [(12,16)] [(7,[0,0,1,2,3,4,5,6,7,8,9,10,11,12,13,14,15])] [] [] [4,15,48,52]) func215
def Qd:=cz w R [p0,p1] (gd [(14,[88]),(24,[8,128])] [(36001,[]),(46001,[])] [(6,12),(28,8),(37,15)] [(8,[11,0,1,2,3,4,6,7,8,9,5,10,11]),(10,[10,0,1,2,3,4,6,7,5,8,9,10]),(16,[15,0,1,2,3,4,5,6,7,8,9,10,11,12,13,14]),(30,[17,0,1,2,3,4,5,6,7,8,9,10,11,12,13,14,15,16]),(32,[15,0,1,2,3,4,5,6,7,8,9,10,11,12,13,14]),(39,[25,0,1,2,3,4,5,6,7,9,10,11,12,13,14,15,16,17,18,8,19,20,21,22,23,24]),(47,[19,2,3,4,5,6,7,8,9,10,11,12,13,14,15,0,16,17,1,18,19,20,21])] [] [] [4,11,23,24,35,36,49,50,61,62,63,73,74,75,89,116,117,120,121,122,129,147,148,149,166,167,182,183,196,197,198,215,216,241,242,252,253,256,257,258,266]) func207
def aL6:=cz w R [p0] (gd [] [(1000,[13]),(2001,[]),(5001,[]),(9000,[86]),(12000,[96])] [(4,16),(6,16),(9,25)] [] [] [] [2,11,12,13,33,61,85,86,90,94,95,96]) func205
end
def yW(ρ:Nat->Nat)(n:Nat)(w:Z)(v:Y):Sl->Prop
 | .nil=>v = ai
 | .term t=>dM ρ n w v t
 | .level k=>v = aj 201 (.int .i64 (k:Nat))
theorem yW.bH{ρ eG:Nat->Nat}{n a:Nat}{w w':Z}(hk:eH w w')(hu:eg ρ n eG a){v:Y}:∀ {y:Sl},yW ρ n w v y->yW eG a w' v y
 | .nil,h=>h
 | .term _,h=>dM.PF hk hu h
 | .level _,h=>h
def xO(v:Y):Option Tm->Prop
 | none=>v = ai
 | some (.atom s)=>v = aj 171 (.string (bs s))
 | some (.int k)=>v = aj 172 (.int .i64 k)
 | some _=>False
theorem xO.eh{ρ:Nat->Nat}{n:Nat}{w:Z}{v:Y}:∀ {t:Tm},xO v (O t)->dM ρ n w v t
 | .atom s,h=>by unfold dM dI;exact h
 | .int k,h=>by unfold dM dI;exact h
 | .var _,h=>h.elim
 | .comp _ _,h=>h.elim
abbrev um(l:List Nat):List Y:=l.map fun k=>zi ((k:Nat):Int)
structure Qe(w:Z)(cur:Array Y)(o:Nat)(i:P.In):Prop where
 word:cur[o]?=O (aT i.word)
 name:cur[o+1]?=O (aT i.name)
 con:∃ cv,cur[o+2]?=O cv/\xO cv i.const
 s:∃ sv,cur[o+3]?=O sv/\fK (fun _=>True) w 3 sv (um i.s)
theorem Qe.bH(hk:eH w w'){i:P.In}(h:Qe w iB o i):Qe w' iB o i:=by
 obtain⟨a,b,c,sv,d,e⟩:=h;exact⟨a,b,c,sv,d,e.iT hk (yM)⟩
def Fj(w:Z)(cb:Nat)(c:Co):Prop:=∃ insv,w.heap[cb]?=aM #[zi (c.slots:Nat),insv] 196 /\
 ((c.ins=[]/\insv = bV)\/∃ g cap cur,insv = cR g c.ins.length cap/\c.ins.length<=cap/\w.heap[g]?=aM cur 198/\cur.size=cap*4/\∀ (j:Nat) (i:P.In),c.ins[j]?=O i->Qe w cur (j*4) i)
theorem Fj.bH{w w':Z}(hk:eH w w'){cb:Nat}{c:Co}(h:Fj w cb c):Fj w' cb c:=by
 obtain⟨insv,b,a⟩:=h;refine⟨insv,hk _ _ _ (yM) b,?_⟩;rcases a with a | ⟨g,cap,cur,a,d,e,f,i⟩
 .exact yH
 .exact .inr ⟨g,cap,cur,a,d,hk _ _ _ (yM) e,f,(by grind [Qe.bH])⟩
def Bk(w:Z)(vs:List Y)(cs:List Co):Prop:=vs.length=cs.length/\∀ (j:Nat) (c:Co),cs[j]?=O c->∃ cb,vs[j]?=O (pp cb)/\Fj w cb c
theorem Bk.bH{w w':Z}(hk:eH w w'){vs:List Y}{cs:List Co}(h:Bk w vs cs):Bk w' vs cs:=
 ⟨h.1,fun j c a=>let ⟨cb,b,d⟩:=h.2 j c a;(by grind [Fj.bH])⟩
def Bk.tail{c:Co}{cs:List Co}(h:Bk w (v::vs) (c::cs)):Bk w vs cs:=
 ⟨by have:=h.1;grind,fun j x a=>by simpa using h.2 (j+1) x zg⟩
def TK(w:Z)(pb:Nat)(dK:List Pd):Prop:=∃ l,w.heap[pb]?=O (eI l)/\∀ (name:Bs) (n:Nat),n<80->match fL (P.keyOf name n) l 0 with
 | none=>dK.find? (fun p=>p.name == name && p.arity == n)=V
 | some (_,v)=>∃ p,dK.find? (fun p=>p.name == name && p.arity == n)=O p/\∃ b cap row vs,v = .slice (O ⟨b,0,V⟩) p.clauses.length cap/\p.clauses.length<=cap/\w.heap[b]?=O (ae row 185 (0,0)) /\
  row.toList.take p.clauses.length=vs/\Bk w vs p.clauses
theorem TK.bH{w w':Z}(hk:eH w w'){pb:Nat}(hm:∀ l,w.heap[pb]?=O (eI l)->w'.heap[pb]?=O (eI l)){dK:List Pd}(h:TK w pb dK):TK w' pb dK:=by
 obtain⟨l,d,a⟩:=h;refine⟨l,yH,fun name n c=>?_⟩;have:=a name n c;split at this
 .omega
 .obtain⟨p,g1,b,cap,row,vs,g2,g3,g4,g5,g6⟩:=this;exact⟨p,g1,b,cap,row,vs,g2,g3,hk _ _ _ (yM) g4,g5,g6.bH hk⟩
def pF(w w':Z):Prop:=eH w w'/\∀ (b:Nat) (cs:Array Y),w.heap[b]?=aM cs 20->w'.heap[b]?=aM cs 20
theorem pF.dZ{w w':Z}(h:Ext w w'):pF w w':=⟨eH.dZ h,(by grind [bB.ext])⟩
theorem pF.trans{a b c:Z}(h:pF a b)(k:pF b c):pF a c:=⟨h.1.trans k.1,fun x cs hx=>k.2 x cs (h.2 x cs hx)⟩
def Cw(ρ:Nat->Nat)(n:Nat)(w:Z)(row:Array Y)(l:List Sl):Prop:=∀ (j:Nat) (y:Sl),l[j]?=O y->∃ v,row[j]?=O v/\yW ρ n w v y
theorem Cw.bH{ρ eG:Nat->Nat}{n a:Nat}{w w':Z}(hk:eH w w')(hu:eg ρ n eG a){row:Array Y}{l:List Sl}(h:Cw ρ n w row l):Cw eG a w' row l:=
 fun j y b=>let ⟨v,c,d⟩:=h j y b;(by grind [yW.bH])
def Bl(φ:Nat->Nat):Option Nat->Y
 | none=>aq V
 | some b=>aq (O ⟨φ b,0,V⟩)
structure TL(ρ:Nat->Nat)(n:Nat)(φ ψ:Nat->Nat)(fm:Nat)(w:Z)(i:Nat)(x:Fm):Prop where
 cell:∃ cb,w.heap[φ i]?=aM #[pp cb,cR (ψ i) x.slots.length x.slots.length,zi (x.entry:Nat),Bl φ x.back,zi (x.pc:Nat)] 203/\Fj w cb x.code/\(x.ask=A->cb=fm)
 ask:x.ask=A↔x.back=V
 row:∃ row,w.heap[ψ i]?=aM row 20/\row.size=x.slots.length/\Cw ρ n w row x.slots
structure xP(φ ψ:Nat->Nat)(nf:Nat)(uo rz:Nat->Nat)(Fk:Nat):Prop where
 le:nf<=Fk
 ph:∀ i,i<nf->uo i=φ i
 ps:∀ i,i<nf->rz i=ψ i
theorem xP.refl(φ ψ:Nat->Nat)(n:Nat):xP φ ψ n φ ψ n:=⟨aZK _,zg,zg⟩
theorem TL.bH{ρ eG:Nat->Nat}{n d:Nat}{φ ψ uo rz:Nat->Nat}{nf Fk fm:Nat}{w w':Z}(hk:eH w w')(hu:eg ρ n eG d)(a:xP φ ψ nf uo rz Fk){i:Nat}{x:Fm}(c:i<nf)(e:∀ b,x.back=O b->b<nf)
  (hr:∀ cs:Array Y,w.heap[ψ i]?=aM cs 20->w'.heap[ψ i]?=aM cs 20) (h:TL ρ n φ ψ fm w i x):TL eG d uo rz fm w' i x:=by
 obtain⟨⟨cb,f,g,j⟩,k,row,l,m,o⟩:=h;refine⟨⟨cb,?_,g.bH hk,j⟩,k,row,?_,m,o.bH hk hu⟩
 .have p:Bl uo x.back=Bl φ x.back:=by
   cases hx:x.back with
   | none=>rfl
   | some b=>unfold Bl;simp only;rw[a.ph b (e b hx)]
  rw[a.ph i c,a.ps i c,p];exact hk _ _ _ (yM) f
 .rw[a.ps i c];exact hr _ l
def xQ(D:Nat->Prop)(ρ:Nat->Nat)(n:Nat)(ψ:Nat->Nat)(nf:Nat)(w:Z)(v:Y)(l:List Sl):Prop:=
 (l=[]/\v = bV)\/∃ b cap row,v = cR b l.length cap/\l.length<=cap/\w.heap[b]?=aM row 20/\row.size=cap/\Cw ρ n w row l/\(∀ i,i<nf->ψ i≠b)/\D b
def TM(ψ:Nat->Nat)(nf:Nat)(w w':Z):Prop:=∀ (b:Nat) (cs:Array Y),(∀ i,i<nf->ψ i≠b)->w.heap[b]?=aM cs 20->w'.heap[b]?=aM cs 20
def pF.toR(h:pF w w'):TM sX pb w w':=fun b cs _ a=>h.2 b cs a
theorem xQ.bH{D:Nat->Prop}{ρ eG:Nat->Nat}{n c:Nat}{φ ψ uo rz:Nat->Nat}{nf Fk:Nat}{w w':Z}(hk:eH w w')(hr:TM ψ nf w w')(hu:eg ρ n eG c)(e:xP φ ψ nf uo rz Fk)(p:∀ i,nf<=i->i<Fk->w.heap.size<=rz i){v:Y}{l:List Sl}(h:xQ D ρ n ψ nf w v l):xQ D eG c rz Fk w' v l:=by
 rcases h with h | ⟨b,cap,row,f,g,j,k,m,d,o⟩
 .exact .inl h
 .refine .inr ⟨b,cap,row,f,g,hr _ _ d j,k,m.bH hk hu,fun i q=>?_,o⟩;rcases Nat.lt_or_ge i nf with a | a
  .rw[e.ps i a];exact d i a
  grind
def mU(D:Nat->Prop)(ρ:Nat->Nat)(n:Nat)(φ ψ:Nat->Nat)(nf:Nat)(w:Z):List Y->List Ga->Prop
 | vs,[]=>vs=[]
 | vs,a::r=>∃ b av fV rest,vs=[.int .i64 (a.mark:Nat),aq (O ⟨φ a.f,0,V⟩),.int .i64 (a.pc:Nat),b,av]++rest/\a.f<nf/\nY w 185 b fV/\Bk w fV a.others/\xQ D ρ n ψ nf w av a.args/\mU D ρ n φ ψ nf w rest r
theorem mU.bH{D:Nat->Prop}{ρ eG:Nat->Nat}{n d:Nat}{φ ψ uo rz:Nat->Nat}{nf Fk:Nat}{w w':Z}(hk:eH w w')(hr:TM ψ nf w w')(hu:eg ρ n eG d)(c:xP φ ψ nf uo rz Fk)(g:∀ i,nf<=i->i<Fk->w.heap.size<=rz i):∀ {l:List Ga} {vs:List Y},mU D ρ n φ ψ nf w vs l->mU D eG d uo rz Fk w' vs l
 | [],vs,h=>h
 | a::r,vs,⟨j,av,fV,rest,k,e,m,o,s,p⟩=>⟨j,av,fV,rest,by rw[c.ph a.f e];exact k,Nat.lt_of_lt_of_le e c.le,m.bH fun b cs q=>hk b cs _ (yM) q,o.bH hk,(by grind [xQ.bH]),mU.bH hk hr hu c g p⟩
def mU.len{D:Nat->Prop}{ρ:Nat->Nat}{n:Nat}{φ ψ:Nat->Nat}{nf:Nat}{w:Z}:∀ {l:List Ga} {vs:List Y},mU D ρ n φ ψ nf w vs l->vs.length=l.length*5
 | [],vs,h=>by have h:vs=[]:=h;grind
 | a::r,vs,⟨d,av,fV,rest,b,_,_,_,_,c⟩=>by
  rw[b,List.length_append,mU.len c];grind
def mU.snoc{D:Nat->Prop}{ρ:Nat->Nat}{n:Nat}{φ ψ:Nat->Nat}{nf:Nat}{w:Z}{a:Ga}{l0:List Y}:∀ {l:List Ga} {vs:List Y},mU D ρ n φ ψ nf w vs l->mU D ρ n φ ψ nf w l0 [a]->mU D ρ n φ ψ nf w (vs++l0) (l++[a])
 | [],vs,h,b=>by have h:vs=[]:=h;grind
 | x::l,vs,⟨c,av,fV,rest,j,d,e,f,g,i⟩,b=>⟨c,av,fV,rest++l0,zg,d,e,f,g,mU.snoc i b⟩
theorem mU.take{D:Nat->Prop}{ρ:Nat->Nat}{n:Nat}{φ ψ:Nat->Nat}{nf:Nat}{w:Z}:∀ {l:List Ga} {vs:List Y} (m:Nat),mU D ρ n φ ψ nf w vs l->mU D ρ n φ ψ nf w (vs.take (m*5)) (l.take m)
 | l,vs,0,h=>by simp;rfl
 | [],vs,m+1,h=>by have h:vs=[]:=h;grind
 | a::l,vs,m+1,⟨b,av,fV,rest,i,c,d,e,f,g⟩=>by
  refine⟨b,av,fV,rest.take (m*5),?_,c,d,e,f,mU.take m g⟩;grind
theorem mU.at{D:Nat->Prop}{ρ:Nat->Nat}{n:Nat}{φ ψ:Nat->Nat}{nf:Nat}{w:Z}:∀ {l:List Ga} {vs:List Y} (m:Nat) (hm:m<l.length),mU D ρ n φ ψ nf w vs l->∃ b av fV,(vs.drop (m*5)).take 5=[zi ((l[m]).mark:Nat),pp (φ (l[m]).f),zi ((l[m]).pc:Nat),b,av]/\(l[m]).f<nf /\
   nY w 185 b fV/\Bk w fV (l[m]).others/\xQ D ρ n ψ nf w av (l[m]).args
 | a::l,vs,0,_,⟨b,av,fV,rest,d,e,g,h,i,c⟩=>zg
 | a::l,vs,m+1,hm,⟨b,av,fV,rest,d,e,g,h,i,c⟩=>by
  obtain⟨j,av',k,g1,g2⟩:=mU.at m zg c;grind
abbrev G0(cb:Nat)(a b av:Y):Array Y:=#[pp cb,.slice V 0 0,zi 0,a,b,av]
def Cx:uZ 1 116 (G0 cb tv vv av):=⟨zs,.inr J⟩
structure Aq where
 φ:Nat->Nat
 ψ:Nat->Nat
 vb:Nat
 cb:Nat
 fm:Nat
structure fZ(D:Nat->Prop)(ρ:Nat->Nat)(e:Aq)(av tv:Y)(di:List Y)(w:Z)(m:Vm):Prop where
 st:gQ D ρ m.n e.vb 1 116 (G0 e.cb (pp (e.φ m.f)) (zi (m.pc:Nat)) av) tv w m.sr
 fl:m.f<m.fs.length
 fs:∀ (i:Nat) (x:Fm),m.fs[i]?=O x->TL ρ m.n e.φ e.ψ e.fm w i x
 bk:∀ (i:Nat) (x:Fm) (b:Nat),m.fs[i]?=O x->x.back=O b->b<m.fs.length
 dp:∀ i,i<m.fs.length->D (e.ψ i)
 inj:∀ i j,i<m.fs.length->j<m.fs.length->e.ψ i=e.ψ j->i=j
 ar:w.ownsRow 0 342 5 av m.bw.length di
 ag:mU D ρ m.n e.φ e.ψ m.fs.length w di m.bw
 da:∀ g,av.ownBlock=O g->D g
def Qf(U:Nat)(w w':Z):Prop:=∀ (b:Nat) (cs:Array Y) (T:Nat),T≠U->w.heap[b]?=aM cs T->w'.heap[b]?=aM cs T
theorem aeU{U:Nat}(h:Qf U w w'){size:Nat}(a:w.ownsRow base e size v n xs)(c:e≠U):w'.ownsRow base e size v n xs:=by
 refine⟨a.1,?_⟩;rcases a.2 with i | ⟨b,cap,cur,rfl,d,f,g⟩
 .exact yH
 .exact .inr ⟨b,cap,cur,J,d,h _ _ _ c f,g⟩
def gQ.aeV{T U:Nat}{s:Sr}(h:gQ D ρ n pb so T cs tv w s)(hk:Qf U w w')
  (a:180≠U/\89≠U/\91≠U/\87≠U/\T≠U):gQ D ρ n pb so T cs tv w' s:=
 ⟨h.sv.bH fun b c t ht d=>hk b c t zo d,h.dv,hk _ _ _ a.2.2.2.2 h.cell,aeU hk h.row a.2.2.2.1,h.dr,h.ds,h.nd,h.lt,h.ok⟩
def gQ.G2{sb T:Nat}{cs':Array Y}{s:Sr}(h:gQ D ρ n sb so T cs tv w s)(d:uZ so T cs)(hk:∀ b o,b≠sb->w.heap[b]?=O o->w'.heap[b]?=O o)
  (g:w'.heap[sb]?=aM (kg (cs'.setIfInBounds so tv) so f) T):gQ D ρ n sb so T cs' tv w' { s with fuel:=f }:=by
 have i:T≠87/\T≠91/\T≠180/\T≠89:=by rcases d.ty with h | h<;>subst h<;>decide
 have j:∀ {b:Nat} {c:Array Y} {t:Nat},w.heap[b]?=aM c t->t≠T->b≠sb:=fun a ht e=>by
  rw[e,h.cell] at a;grind
 refine⟨h.sv.bH fun b c t ht a=>yH,h.dv,g,⟨h.row.1,?_⟩,h.dr,h.ds,h.nd,h.lt,h.ok⟩;rcases h.row.2 with k | ⟨b,cap,cur,rfl,l,m,p⟩<;>grind
def Dn(D:Nat->Prop)(av:Y)(w:Z)(b:Nat):Prop:=D b/\av.ownBlock≠O b/\∀ cs,w.heap[b]?≠(aM cs 20)
section
variable{D:Nat->Prop}{ρ:Nat->Nat}{e:Aq}{av tv:Y}{di:List Y}{w w':Z}{m:Vm}
theorem fZ.cell(h:fZ D ρ e av tv di w m):w.heap[e.vb]?=aM #[pp e.cb,tv,zi (m.sr.fuel:Nat),pp (e.φ m.f),zi (m.pc:Nat),av] 116:=h.st.cell
theorem fZ.DV(h:fZ D ρ e av tv di w m)(a:av.ownBlock=O g):∃ cs,w.heap[g]?=aM cs 342:=by
 rcases h.ar.2 with⟨rfl,-⟩| ⟨b,cap,cur,rfl,-,c,-⟩
 .cases a
 grind [a0q,aZG]
theorem fZ.X1(h:fZ D ρ e av tv di w m){c:Array Y}{U:Nat}(a:w.heap[g]?=aM c U)(b:U≠342):av.ownBlock≠O g:=(by grind [DV])
def fZ.rest(h:fZ D ρ e av tv di w m){f' pc':Nat}{s':Sr}(hk:pF w w')(hu:eg ρ m.n sX pb)(kL:w'.ownsRow 0 342 5 av m.bw.length di)
  (a:gQ D sX pb e.vb 1 116 (G0 e.cb (pp (e.φ f')) (zi (pc':Nat)) av) vv w' s') (c:f'<m.fs.length):fZ D sX e av vv di w' ⟨pb,s',m.fs,f',pc',m.bw⟩:=
 ⟨a,c,fun i x hx=>(h.fs i x hx).bH hk.1 hu (xP.refl _ _ _) (i:=i) (x:=x) zg (fun b d=>h.bk i x b hx d) (hk.2 _),h.bk,h.dp,h.inj,kL,
  h.ag.bH hk.1 hk.toR hu (xP.refl _ _ _) yH,h.da⟩
theorem fZ.ext(h:fZ D ρ e av tv di w m)(a:Ext w w'):fZ D ρ e av tv di w' m:=
 h.rest (pF.dZ a) (eg.refl _ _) (jJ a.ext h.ar) (h.st.ext a) h.fl
def fZ.less(h:fZ D ρ e av tv di w m):gQ (Dn D av w) ρ m.n e.vb 1 116 (G0 e.cb (pp (e.φ m.f)) (zi (m.pc:Nat)) av) tv w m.sr:=by
 have a:∀ {b:Nat} {c:Array Y} {U:Nat},D b->w.heap[b]?=aM c U->U≠342->U≠20->Dn D av w b:=fun l o p j=>⟨l,h.X1 o p,yH⟩;refine⟨h.st.sv,fun i k=>?_,h.st.cell,h.st.row,fun g d=>?_,a h.st.ds h.cell zo zo,h.st.nd,h.st.lt,h.st.ok⟩
 .obtain⟨ref,j,-⟩:=h.st.sv.var i k;exact a (h.st.dv i k) j zo zo
 .rcases h.st.row.2 with⟨rfl,-⟩| ⟨r,cap,cur,rfl,-,q,-⟩
  .cases d
  .simp only[a0q,aZG] at d;subst d;exact a (h.st.dr _ J) q zo zo
theorem fZ.dn(h:fZ D ρ e av tv di w m)(hD:∀ b,w.heap.size<=b->D b):∀ b,w.heap.size<=b->Dn D av w b:=fun b a=>⟨hD b a,(by grind [bg,DV]),yH⟩
def Dn.aoQ(a:dc (Dn D av w) w w1):pF w w1:=⟨a.toI,fun b cs c=>a.block _ _ c fun hm=>hm.1.2.2 cs c⟩
def fZ.store(h:fZ D ρ e av tv di w m){s':Sr}(c:gQ (Dn D av w) ρ m.n e.vb 1 116 (G0 e.cb (pp (e.φ m.f)) (zi (m.pc:Nat)) av) vv w' s')(a:dc (Dn D av w) w w') :
  fZ D ρ e av vv di w' { m with sr:=s' }/\dc D w w':=by
 refine⟨h.rest (Dn.aoQ a) (eg.refl _ _) ⟨h.ar.1,?_⟩ (c.up fun _ h=>h.1) h.fl,a.up fun _ h=>h.1⟩;rcases h.ar.2 with j | ⟨b,cap,cur,rfl,d,g,i⟩
 .exact yH
 .exact .inr ⟨b,cap,cur,J,d,a.block _ _ g (fun hm=>hm.1.2.1 J),i⟩
def fZ.fresh(h:fZ D ρ e av tv di w m)(hD:∀ b,w.heap.size<=b->D b)(g:Ext w w')(hv:w'.heap[w.heap.size]?=aM #[ai] 91) :
  ∃ eG,eg ρ m.n eG (m.n+1)/\eG m.n=w.heap.size/\fZ D eG e av tv di w' { m with n:=m.n+1 }:=by
 obtain⟨eG,u⟩:∃ eG:Nat->Nat,eG=fun i=>if i<m.n then ρ i else w.heap.size:=⟨_,J⟩
 have hu:eg ρ m.n eG (m.n+1):=⟨zo,zg⟩;have q:eG m.n=w.heap.size:=yH;have hold:∀ i,i<m.n->ρ i<w.heap.size:=fun i c=>by
  obtain⟨r,a,-⟩:=h.st.sv.var i c;exact yH
 have k:=h.st.ext g;have f:∀ i,i<m.n+1->i<m.n\/i=m.n:=zg;refine⟨eG,hu,q,h.rest (pF.dZ g) hu (jJ g.ext h.ar) ?_ h.fl⟩;refine⟨⟨fun i j c s he=>?_,fun i c=>?_⟩,fun i c=>?_,k.cell,?_,h.st.dr,h.st.ds,h.st.nd,fun p d=>Nat.lt_of_lt_of_le (h.st.lt p d) hu.1,h.st.ok⟩
 .rcases f i c with a | rfl<;>rcases f j s with l | rfl
  .rw[hu.2 i a,hu.2 j l] at he;exact h.st.sv.inj i j a l he
  .grind
  .grind
  .rfl
 .rcases f i c with a | rfl
  .obtain⟨r,g1,g2⟩:=k.sv.var i a;refine⟨r,yH,?_⟩;cases o:P.look i m.sr.tr with
   | none=>grind
   | some t=>rw[o] at g2;exact dI.mono zg hu.1 hu.2 (fun _ _ _ _ _ h=>h) t r g2
  .have o:P.look m.n m.sr.tr=none:=P.Ps fun hm=>by
    obtain⟨p,d,x⟩:=List.mem_map.1 hm;have:=h.st.lt p d;omega
   exact yH
 .rcases f i c with a | rfl
  .rw[hu.2 i a];exact h.st.dv i a
  grind
 .have e:qM eG m.sr.tr=qM ρ m.sr.tr:=by
   unfold qM;refine List.map_congr_left fun p d=>?_;rw[hu.2 p.1 (h.st.lt p (List.mem_reverse.1 d))]
  rw[e];exact k.row
def fZ.own(h:fZ D ρ e av tv di w m)(i:bB (fun b _=>b=e.vb) w w'){f' pc':Nat}(j:w'.heap[e.vb]?=aM #[pp e.cb,tv,zi (m.sr.fuel:Nat),pp (e.φ f'),zi (pc':Nat),av] 116)
  (k:f'<m.fs.length):fZ D ρ e av tv di w' { m with f:=f',pc:=pc' }/\dc D w w':=by
 have a:∀ b o,b≠e.vb->w.heap[b]?=O o->w'.heap[b]?=O o:=(by grind [bB.block]);have l:∀ {b:Nat} {c:Array Y} {t:Nat},w.heap[b]?=aM c t->t≠116->b≠e.vb:=fun a ht e=>by
  rw[e,h.cell] at a;grind
 have d:dc D w w':=bB.mono i fun b o g e=>by
  subst e;rw[h.cell] at g;exact⟨h.st.ds,_,_,_,(aZN g).symm,.inr (.inr (.inr (.inr (.inl J))))⟩
 refine⟨h.rest ⟨d.toI,yH⟩ (eg.refl _ _) ⟨h.ar.1,?_⟩ (h.st.G2 Cx a j) k,d⟩;rcases h.ar.2 with n | ⟨b,cap,cur,rfl,p,q,r⟩<;>grind
def fZ.KI(h:fZ D ρ e av tv di w m){av':Y}{avs':List Y}{l:List Ga}(hr:w1.ownsRow 0 342 5 av' l.length avs')
  (a:w.grownBy w1 av.ownBlock) (hv:av'.ownBlock=av.ownBlock\/∀ g,av'.ownBlock=O g->D g/\w.heap.size<=g) (s:mU D ρ m.n e.φ e.ψ m.fs.length w avs' l)
  (hw:w2=bO w1 e.vb (ae #[pp e.cb,tv,zi (m.sr.fuel:Nat),pp (e.φ m.f),zi (m.pc:Nat),av'] 116)) :
  fZ D ρ e av' tv avs' w2 { m with bw:=l }/\dc D w w2/\pF w w2/\w1.heap[e.vb]?=w.heap[e.vb]?:=by
 have t:=h.cell;have p:∀ (b:Nat) (c:Array Y) (U:Nat),U≠342->w.heap[b]?=aM c U->w1.heap[b]?=aM c U:=(by grind [bg,World.grownBy.block,X1]);have f1:dc D w w1:=⟨a.os,a.tape,a.output,a.size,fun b o j hm=>by
  rw[a.block b (bg j) (fun e=>?_)]
  .omega
  .obtain⟨cs,d⟩:=h.DV e.symm;rw[j] at d;exact hm ⟨h.da b e.symm,_,_,_,aZN d,.inr zg⟩⟩
 have s1:gQ D ρ m.n e.vb 1 116 (G0 e.cb (pp (e.φ m.f)) (zi (m.pc:Nat)) av) tv w1 m.sr:=h.st.aeV (U:=342) p zo;obtain⟨d,u⟩:=s1.cells Cx (cs':=G0 e.cb (pp (e.φ m.f)) (zi (m.pc:Nat)) av') (f:=m.sr.fuel);have he:bO w1 e.vb (ae (kg ((G0 e.cb (pp (e.φ m.f)) (zi (m.pc:Nat)) av').setIfInBounds 1 tv) 1 (m.sr.fuel:Nat)) 116 (0,0))=w2:=zg;rw[he] at d u;have q:dc D w w2:=yF;have y:=p _ _ _ zd t;have k:pF w w2:=⟨q.toI,yH⟩;refine⟨⟨d,h.fl,fun i x hx=>(h.fs i x hx).bH k.1 (eg.refl _ _) (xP.refl _ _ _) (i:=i) (x:=x) zg (fun b j=>h.bk i x b hx j) yH,h.bk,h.dp,h.inj,?_,s.bH k.1 k.toR (eg.refl _ _) (xP.refl _ _ _) yH,fun g z=>?_⟩,q,k,yH⟩
 .rw[hw];refine Iz hr fun e=>?_;rcases hr.2 with⟨r,-⟩| ⟨B,cap,cur,r,-,C,-⟩
  .rw[r] at e;cases e
  grind [a0q,aZG]
 grind [da]
def fZ.forget(h:fZ D ρ e av tv di w m)(hm:k<=m.bw.length){a:Option Addr}(b:av = .slice a m.bw.length c)
  (hw:w1=bO w e.vb (ae #[pp e.cb,tv,zi (m.sr.fuel:Nat),pp (e.φ m.f),zi (m.pc:Nat),.slice a k c] 116)) :
  fZ D ρ e (.slice a k c) tv (di.take (k*5)) w1 { m with bw:=m.bw.take k }/\dc D w w1/\pF w w1:=by
 have n:=h.ag.len;have hr:w.ownsRow 0 342 5 (.slice a k c) k (di.take (k*5)):=by
  refine⟨zg,?_⟩;rcases h.ar.2 with⟨d,i⟩| ⟨g,cap,cur,d,i,o,p,q,r,s⟩<;>grind
 have j:w.grownBy w av.ownBlock:=⟨J,J,J,aZK _,yH⟩;obtain⟨t,u,x,-⟩:=h.KI (l:=m.bw.take k) (av':=.slice a k c) (avs':=di.take (k*5)) zg j (.inl (by rw[b];cases a<;>rfl)) (h.ag.take k) hw;exact yF
theorem fZ.cur(h:fZ D ρ e av tv di w m):∃ x,m.fs[m.f]?=O x/\TL ρ m.n e.φ e.ψ e.fm w m.f x:=
 ⟨_,aZM h.fl,h.fs _ _ (aZM h.fl)⟩
def fZ.aoR(h:fZ D ρ e av tv di w m){row:Array Y}(q:w.heap[e.ψ m.f]?=aM row 20){y:Sl}(C:yW ρ m.n w v y)
  (hw:w1=bO w (e.ψ m.f) (ae (row.setIfInBounds k v) 20 (0,0))):fZ D ρ e av tv di w1 (m.set k y)/\dc D w w1:=by
 have r:Qf 20 w w1:=fun b cs T N a=>by
  exact yH
 have d:dc D w w1:=⟨by rw[hw];rfl,by rw[hw];rfl,by rw[hw];rfl,yH,fun b o a hm=>by
  by_cases he:b=e.ψ m.f
  .subst he;rw[q] at a;exact absurd ⟨h.dp _ h.fl,_,_,_,(aZN a).symm,.inr (.inr (.inr (.inr (.inr (.inr J)))))⟩ hm
  exact yH⟩
 have E:TM e.ψ m.fs.length w w1:=fun b cs a hx=>by
  grind [iY,fl]
 have p:(m.set k y).fs.length=m.fs.length:=List.length_modify ..;have s:∀ (i:Nat) (x:Fm),(m.set k y).fs[i]?=O x->∃ x0,m.fs[i]?=O x0/\x=if m.f=i then{ x0 with slots:=x0.slots.set k y } else x0:=fun i x hx=>by
  have hx:(m.fs.modify m.f fun x=>{ x with slots:=x.slots.set k y })[i]?=O x:=hx;grind
 refine⟨⟨h.st.aeV r zo,by rw[p];exact h.fl,fun i x hx=>?_,fun i x b hx a=>?_,(by grind [dp]),fun i j g c=>h.inj i j zo zo,aeU r h.ar zo,?_,h.da⟩,d⟩
 .obtain⟨x0,l,he⟩:=s i x hx;have hm:=h.fs i x0 l;have t:i<m.fs.length:=zg;by_cases g:m.f=i
  .rw[zip g] at he;subst g;obtain⟨⟨cb,P,F,H⟩,I,K,z,Q,L⟩:=hm;rw[q] at z;cases z;rw[he];refine⟨⟨cb,?_,F.bH d.toI,H⟩,I,row.setIfInBounds k v,?_,?_,?_⟩
   .exact yH
   .exact yH
   .grind
   .intro j M c;simp only[List.getElem?_set] at c;by_cases B:k=j
    .subst B;rw[zip rfl] at c;split at c
     .rename_i hlt;cases c;exact⟨v,zg,C.bH d.toI (eg.refl _ _)⟩
     grind
    .rw[bZ B] at c;obtain⟨u,g1,g2⟩:=L j M c;exact⟨u,zg,g2.bH d.toI (eg.refl _ _)⟩
  .rw[bZ g] at he;subst he;exact hm.bH d.toI (eg.refl _ _) (xP.refl _ _ _) t (fun b a=>h.bk i _ b l a) fun cs R=>by
    rw[hw,iY (fun e=>g (h.inj _ _ h.fl t e.symm))];omega
 .obtain⟨x0,l,he⟩:=s i x hx;rw[p];refine h.bk i x0 b l ?_;grind
 .have:=h.ag.bH d.toI E (eg.refl _ _) (xP.refl _ _ _) yH;rw[<- p] at this;exact this
end
def least_some{l:List String}(h:l≠[]):∃ m,Instr.least l=O m:=by
 cases l with
 | nil=>grind
 | cons a l=>exact⟨_,J⟩
def aL7{want:Array (String×TypeId)}{got:Array Method}(h:(want.toList.filter fun(name,sig)=>!got.any fun m=>m.name == name && m.sig == sig)≠[]):∃ m,Instr.missingMethod want got=O m:=by
 unfold Instr.missingMethod;obtain⟨l,b⟩:=cd ((want.toList.filter fun(name,sig)=>!got.any fun m=>m.name == name && m.sig == sig).map (·.1));rw[<- b];have c:l≠[]:=by rw[b];simpa using h
 have key:∀ (p:String->Bool)(g:String->String),∃ m,(match l.partition p with | (u,e)=>(Instr.least e <|> Instr.least (u.map g)))=O m:=by
  intro p g;rw[List.partition_eq_filter_filter];by_cases he:l.filter (not ∘ p)=[]
  .rw[he];have hu:l.filter p≠[]:=fun hu=>by
    obtain⟨a,r,rfl⟩:=List.exists_cons_of_ne_nil c;grind
   obtain⟨m,hm⟩:=least_some (l:=(l.filter p).map g) (by simpa using hu);exact ⟨m,hm⟩
  .obtain⟨m,hm⟩:=least_some he;exact ⟨m,by grind⟩
 exact key _ _
def P.vi:Sl->Except jB Tm
 | .term t=>.ok t
 | _=>.error (.fault 5)
theorem P.aeW(m:Vm)(i:P.In)(k:Nat):m.at i k=P.vi (m.slot (i.s.getD k 0)):=by
 grind [Vm.at,P.vi]
def aoS(P:Program)(u t:TypeId):Bool:=match P.underlying u with
 | some (.interface want)=>(match P.info? t with
  | some i=>!(want.toList.filter fun(name,sig)=>!i.methods.any fun m=>m.name == name && m.sig == sig).isEmpty
  | none=>G)
 | _=>G
def aL8:VD a9G 89 201=true:=by
 have h:aoS a9G 89 201=true:=zk;unfold aoS at h;unfold VD;split at h
 .rename_i want hu;split at h
  .rename_i i a;rw[hu,a];obtain⟨m,hm⟩:=aL7 (want:=want) (got:=i.methods) zg;grind
  grind
 .cases h
abbrev TmP(ρ:Nat->Nat)(n:Nat)(w:Z)(r:Except jB Tm)(e:Ending):Prop:=match r with
 | .ok t=>∃ v,e = ah v/\dM ρ n w v t
 | .error t=>e=gR t
abbrev TN(v:Y)(r:Except jB Tm)(e:Ending):Prop:=match r with
 | .ok _=>e = ah v
 | .error t=>e=gR t
def aoU{y:Sl}(p:Y)(h:yW ρ n w v y):Calls a9G 75 #[p,v] w fun e w'=>w'=w/\TN v (P.vi y) e:=by
 have c:∀ {T:Nat} {x:Y},(T=171\/T=172\/T=87\/T=175)->v = aj T x->(∃ t,y = .term t/\dM ρ n w v t)->Calls a9G 75 #[p,v] w fun e w'=>w'=w/\TN v (P.vi y) e:=by
  rintro T x b rfl ⟨t,rfl,ht⟩;have a:∀ {K:Y->Prop} {X:Y->Z->Prop},RD a9G (aZ0 (aj T x) 20 89 A) w K X=K (ak #[aj T x,.bool A]):=by
   rcases b with rfl | rfl | rfl | rfl<;>exact av0 zk x
  refine aeS ?_;rw[a];refine bE ?_;refine⟨fun _ w'=>w'=w,?_,?_⟩
  .exact eR
  .rintro s w' rfl d;exact⟨J,J⟩
 cases y with
 | nil=>
  have h:v = ai:=h;subst h;have a:∀ {K:Y->Prop} {X:Y->Z->Prop},RD a9G (aZ0 ai 20 89 A) w K X=K (ak #[ai,.bool G]):=av5 zk zk;refine aeS ?_;rw[a];refine bE ?_;refine⟨fun _ _=>False,?_,zg⟩;refine bE ?_;rfl
 | level k=>
  have h:v = aj 201 (zi (k:Nat)):=h;subst h;have a:∀ {K:Y->Prop} {X:Y->Z->Prop},RD a9G (aZ0 (aj 201 (zi (k:Nat))) 20 89 A) w K X=K (ak #[ai,.bool G]):=av4 aL8 zk _;refine aeS ?_;rw[a];refine bE ?_;refine⟨fun _ _=>False,?_,zg⟩;refine bE ?_;rfl
 | term t=>
  have h:dM ρ n w v t:=h;have f:=h;cases t with
  | var i=>unfold dM dI at h;grind
  | atom s=>unfold dM dI at h;grind
  | int k=>unfold dM dI at h;grind
  | comp s l=>unfold dM dI at h;grind
def TN.toP{y:Sl}{e:Ending}(h:yW ρ n w v y)(hv:TN v (P.vi y) e):TmP ρ n w (P.vi y) e:=by
 cases y with
 | nil=>exact hv
 | level k=>exact hv
 | term t=>exact⟨v,hv,h⟩
structure Au(w:Z)(g o:Nat)(i:P.In):Prop where
 row:∃ cur,w.heap[g]?=aM cur 198/\o+4<=cur.size/\Qe w cur o i
theorem Au.bH{w w':Z}(hk:eH w w'){g o:Nat}{i:P.In}(h:Au w g o i):Au w' g o i:=by
 obtain⟨cur,a,b,c⟩:=h;exact⟨cur,hk _ _ _ (yM) a,b,c.bH hk⟩
def KW{l:List Nat}(a:fK (fun _=>True) w 3 v (um l))(c:j<l.length) :
  ∃ b cs,v = cR b l.length cs.size/\w.heap[b]?=aM cs 3/\cs[j]?=O (zi ((l[j]:Nat):Int))/\l.length<=cs.size:=by
 obtain⟨b,cs,f,-,d,g⟩:=a.at' (j:=j) (by simpa using c);refine⟨b,cs,zg,d,zg,?_⟩;rcases a with⟨e,-⟩| ⟨h,cs',e,-,i,k,-⟩<;>grind
section
variable{D:Nat->Prop}{ρ:Nat->Nat}{e:Aq}{av tv:Y}{di:List Y}{w w':Z}{m:Vm}
def fZ.Qg(h:fZ D ρ e av tv di w m){x:Fm}(hx:m.fs[m.f]?=O x)(hk:k<x.slots.length):∃ row v,w.heap[e.ψ m.f]?=aM row 20/\row.size=x.slots.length/\row[k]?=O v/\yW ρ m.n w v (m.slot k):=by
 obtain⟨-,-,row,b,c,a⟩:=h.fs _ _ hx;have d:m.slot k=x.slots[k]:=by
  grind [Vm.slot,aZM]
 obtain⟨v,g1,g2⟩:=a k x.slots[k] zg;exact yH
def yW.one{n:Nat}{v:Y}:∀ {y:Sl},yW ρ n w v y->v = ai\/∃ t u,v = aj t u
 | .nil,h=>.inl h
 | .level _,h=>.inr ⟨_,_,h⟩
 | .term _,h=>.inr (by obtain⟨a,b,h⟩:=dI.iface h;grind)
def aeX(h:fZ D ρ e av tv di w m){x:Fm}(hx:m.fs[m.f]?=O x){i:P.In}(p:Au w g o i)(hk:k<i.s.length)(q:i.s[k]<x.slots.length)(L:k<=60) :
  Calls a9G 211 #[pp e.vb,pq g o,zi (k:Nat)] w fun c w'=>w'=w.drew/\∃ row v,w.heap[e.ψ m.f]?=aM row 20/\row[i.s[k]]?=O v /\
   yW ρ m.n w v (m.slot i.s[k])/\TN v (P.vi (m.slot i.s[k])) c:=by
 have r:=h.cell;obtain⟨⟨cb,u,-,-⟩,-,-⟩:=h.fs _ _ hx;obtain⟨row,v,hr,M,d,hv⟩:=h.Qg hx q;obtain⟨cur,y,N,-,-,-,sv,z,B⟩:=p;obtain⟨b,cs,rfl,C,E,Q⟩:=KW B hk;have F:Ext w w.drew:=yF;refine aL1 ?_;have H:(k:Int).toNat=k:=zo;have R:(k:Int)<(i.s.length:Nat):=zo;have j:((i.s[k]:Nat):Int).toNat=i.s[k]:=zo;have I:((i.s[k]:Nat):Int)<(x.slots.length:Nat):=zo;have K:=hv.one;rcases K with rfl | ⟨t1,S,rfl⟩;all_goals
  refine dH r u y (zA z (zA C (zA E (zA @H (zA hr (zA d @j)))))) ?_;refine Calls.mono (aoU _ (hv.bH (eH.dZ F) (eg.refl _ _))) ?_;rintro c w1 ⟨rfl,a⟩;cases l:P.vi (m.slot i.s[k]) with
  | error t=>
   rw[l] at a;have a:c=gR t:=a;subst a;cases t<;>exact⟨J,_,_,hr,d,hv,J⟩
  | ok t=>
   rw[l] at a;have a:c = ah _:=a;subst a;exact⟨J,_,_,hr,d,hv,J⟩
def X4(h:fZ D ρ e av tv di w m){x:Fm}(hx:m.fs[m.f]?=O x){i:P.In}(b:Au w g o i)(hk:k<i.s.length)(c:i.s[k]<x.slots.length)(d:k<=60) :
  Calls a9G 211 #[pp e.vb,pq g o,zi (k:Nat)] w fun a w'=>w'=w.drew/\TmP ρ m.n w' (m.at i k) a:=by
 refine(aeX h hx b hk c d).mono ?_;rintro a w' ⟨rfl,row,v,-,-,hv,j⟩;have l:Ext w w.drew:=yF;have he:m.at i k=P.vi (m.slot i.s[k]):=by
  grind [P.aeW,aZM]
 rw[he];exact⟨J,j.toP (hv.bH (eH.dZ l) (eg.refl _ _))⟩
end
def aMa:(Tryz.prog.info? 342).map (fun i=>(i.zero,i.size,i.bytes))=O (O (.agg #[zi 0,aq V,zi 0,bV,bV]),5,72):=zk
def aoV(c:w.ownsRow base 342 5 v n xs){l:List Y}
  (d:w.heap[b]?=aM l.toArray 342) (q:l.length=5) (r:∀ u∈l,u.oneCell'=A)
  (s:n<=900000000) (f:base<=w.heap.size) {K:Y->Z->Prop}
  (h:∀ v' w',w'.ownsRow base 342 5 v' (n+1) (xs++l)->w.grownBy w' v.ownBlock->(v'.ownBlock=v.ownBlock\/∀ k,v'.ownBlock=O k->w.heap.size<=k)->K v' w') :
  WR a9G (Builtin.append_ #[114,114] 114 #[v,cR b 1 m]) w K X:=by
 obtain⟨i,g,a⟩:=Option.map_eq_some_iff.1 aMa;simp only[Prod.mk.injEq] at a;obtain⟨j,o,p⟩:=a;exact Sx.C3 (m:=1) (t:=114) (e:=342) zk g j o p J zo c d zo zg zo zo f h
def aMb{t:TypeId}{fr:Nat×Nat}(a:w.heap[g]?=O (ae iB t fr)):w.setRow g cs=bO w g (ae cs t fr):=by
 have hlt:g<w.heap.size:=yH;unfold World.setRow bO
 congr 1
 exact yH
def aMc{K:Y->Z->Prop}:WR a9G (Builtin.copy_ #[200,200] 3 #[.slice (O ⟨g,o,V⟩) n c,bV]) w K X=K (zi 0) w:=
 wU (run_copy_nil (elem:=20) a9G w _ _ _ _ n c zk zk)
def aMd{row:Array Y}(a:w.heap[g]?=aM iB 20)(f:w.heap[b]?=aM row 20)(hk:k<=row.size)(i:k<=n)(j:n<=iB.size)
  (d:∀ v∈row.toList.take k,v.oneCell'=A) {K:Y->Z->Prop} :
  WR a9G (Builtin.copy_ #[200,200] 3 #[cR g n c,cR b k pb]) w K X=K (zi (k:Nat)) (bO w g (ae (row.toList.take k++iB.toList.drop k).toArray 20 (0,0))):=by
 have e:(row.toList.take k).length=k:=zg;have h:=run_copy_row a9G w 200 200 3 20 g 0 n c ⟨b,0,V⟩ k pb iB 20 (row.toList.take k) zk zk a zg
  (by grind [Addr.add,World.cell?,WalkArith.addr_eq]) zo d
 rw[e,aMb a] at h;simp only[List.take_zero,List.nil_append,Nat.zero_add] at h;exact wU h
section
variable{D:Nat->Prop}{ρ:Nat->Nat}{e:Aq}{av tv:Y}{di:List Y}{w w':Z}{m:Vm}
def fZ.aMe(h:fZ D ρ e av tv di w m)(hD:∀ b,w.heap.size<=b->D b)(B:bB (fun b _=>b=e.vb) w w'){fb rb:Nat}{c:Co}{slots:List Sl}{row:Array Y}(P:w.heap.size<=fb)(Q:w.heap.size<=rb)
  (R:w'.heap[fb]?=aM #[pp cb,cR rb slots.length slots.length,zi (n:Nat),pp (e.φ f),zi (pc:Nat)] 203) (C:Fj w' cb c)
  (S:w'.heap[rb]?=aM row 20) (E:row.size=slots.length) (F:Cw ρ m.n w' row slots) (T:f<m.fs.length)
  (U:w'.heap[e.vb]?=aM #[pp e.cb,tv,zi (m.sr.fuel:Nat),pp fb,zi ((0:Nat):Int),av] 116) :
  ∃ φ ψ,fZ D ρ ⟨φ,ψ,e.vb,e.cb,e.fm⟩ av tv di w' { m with fs:=m.fs++[⟨c,slots,n,O f,pc,G⟩],f:=m.fs.length,pc:=0 }/\dc D w w':=by
 have g:∀ b o,b≠e.vb->w.heap[b]?=O o->w'.heap[b]?=O o:=(by grind [bB.block]);have W:∀ {b:Nat} {c:Array Y} {t:Nat},w.heap[b]?=aM c t->t≠116->b≠e.vb:=fun g ht e=>by
  rw[e,h.cell] at g;grind
 have s:dc D w w':=bB.mono B fun b o u e=>by
  subst e;rw[h.cell] at u;exact⟨h.st.ds,_,_,_,(aZN u).symm,.inr (.inr (.inr (.inr (.inl J))))⟩
 have l:pF w w':=⟨s.toI,yH⟩;obtain⟨uo,H⟩:∃ uo:Nat->Nat,uo=fun i=>if i=m.fs.length then fb else e.φ i:=⟨_,J⟩
 obtain⟨rz,I⟩:∃ rz:Nat->Nat,rz=fun i=>if i=m.fs.length then rb else e.ψ i:=⟨_,J⟩
 have K:uo m.fs.length=fb:=zg;have L:rz m.fs.length=rb:=zg;have p:∀ i,i<m.fs.length->uo i=e.φ i:=zg;have d:∀ i,i<m.fs.length->rz i=e.ψ i:=zg;have y:xP e.φ e.ψ m.fs.length uo rz (m.fs.length+1):=⟨Nat.le_succ _,p,d⟩;have hold:∀ i,i<m.fs.length->e.ψ i<w.heap.size:=fun i a=>by
  obtain⟨-,-,row,X,-⟩:=h.fs i _ (aZM a);exact yH
 have z:∀ (i:Nat) (x:Fm),(m.fs++[⟨c,slots,n,O f,pc,G⟩])[i]?=O x->(i<m.fs.length/\m.fs[i]?=O x)\/(i=m.fs.length/\x=⟨c,slots,n,O f,pc,G⟩):=zg;have q:∀ i,i<(m.fs++[(⟨c,slots,n,O f,pc,G⟩:Fm)]).length->i<m.fs.length\/i=m.fs.length:=zg;have hlen:(m.fs++[(⟨c,slots,n,O f,pc,G⟩:Fm)]).length=m.fs.length+1:=zs;refine⟨uo,rz,⟨?_,zg,fun i x hx=>?_,fun i x b hx M=>?_,fun i a=>?_,fun i j a N he=>?_,⟨h.ar.1,?_⟩,?_,h.da⟩,s⟩
 .have:=h.st.G2 Cx g (cs':=G0 e.cb (pp (uo m.fs.length)) (zi ((0:Nat):Int)) av) (f:=m.sr.fuel) (yH);omega
 .rcases z i x hx with⟨a,hx⟩| ⟨rfl,rfl⟩
  .exact(h.fs i x hx).bH l.1 (eg.refl _ _) y a (fun b g=>h.bk i x b hx g) yH
  .refine⟨⟨cb,?_,C,zg⟩,zg,row,yH,E,F⟩;grind [Bl]
 .show b<(m.fs++_).length;rw[hlen];rcases z i x hx with⟨a,hx⟩| ⟨rfl,rfl⟩
  .have:=h.bk i x b hx M;omega
  grind
 .rcases q i a with k | rfl
  .grind [dp]
  grind
 .have he:rz i=rz j:=he;rcases q i a with k | rfl<;>rcases q j N with r | rfl
  .rw[d i k,d j r] at he;exact h.inj i j k r he
  .grind
  .grind
  .rfl
 .rcases h.ar.2 with k | ⟨b,cap,cur,rfl,r,h3,h4⟩<;>grind
 .have:=h.ag.bH l.1 l.toR (eg.refl _ _) y yH;grind
end
