/- A part of one proof (KE4, KE7, ShX5, KV1, KV2, KV3, KV4, KV5). -/
import Derived.Test.YtoegidfbnkaabaaGreatDoorPkKAV
import Derived.Laws.CopyRow
set_option linter.all false
set_option maxRecDepth 100000
set_option maxHeartbeats 8000000
open Option renaming some → O, none → V
open Go renaming Value → Y, World → Z
open Bool renaming true → A, false → ae
open Go.Obj renaming cells → ah
open Go.Ending renaming returned → ai
open Go.Value renaming nilIface → aj, iface → ak, tuple → aq, pointer → au
open Option.some renaming injEq → a0z, inj → a0G
open Nat renaming le_refl → a0D
open List renaming getElem?_eq_getElem → a0F
open Go.Instr renaming typeAssert → a0T
open Go.Value renaming ownBlock → a1k
open Go.Proofs.Tryz renaming prog → baC
open Go.Proofs.Tryz
namespace Go.Proofs.YtoegidfbnkaabaaGreatDoor
open P
open Go.RowKit Sx
variable{D:Nat->Prop}{E:En}{M b base c cb d e f g j k m n o pb pc qb so xb:Nat}{X:Y->Z->Prop}{av tv v vv:Y}{cs iK:Array Y}{s:Bs}{tS ρ:Nat->Nat}{vars:List Bs}{vs xs:List Y}{w w' w1 w2:Z}
mutual
theorem eY.QB {n M a:Nat} (b:M<=a):∀ {x:Bd},eY n M x->eY n a x
 | .mk kind name args parts,hx=>by
  unfold eY at hx ⊢;obtain⟨c,d,e,f,g,i,j,h⟩:=hx;exact⟨c,d,e,f,g,zo,zo,fc.QB b h⟩
 termination_by structural x=>x
theorem fc.QB {n M a:Nat} (b:M<=a):∀ {l:List Bd},fc n M l->fc n a l
 | [],hx=>by unfold fc;trivial
 | x::xs,hx=>by
  unfold fc at hx ⊢;exact⟨eY.QB b hx.1,fc.QB b hx.2⟩
 termination_by structural x=>x
end
def P.Ua{x:Bd}{vs:List Bs}(h:sK q8 s = .ok x k vs):IH vs/\eY vs.length 2900 x:=by
 unfold sK at h;split at h
 .grind
 .split at h
  .grind
  .rename_i T b;have a:=SX b;have d:Cq T:=⟨MZ _ _ _ _ (by rw[Sw,b]),fun u hu hk=>by
    obtain⟨c,r,e,-⟩:=(a.tok u hu).2.2.1 hk;grind,fun u hu hk=>((a.tok u hu).2.1 hk).2.1⟩
   have i:=a.len;obtain⟨f,g⟩:=aIj d (fun u hu hk=>(a.tok u hu).2.2.2.1 hk) h;exact⟨f,eY.QB zo g⟩
def I3(w:Z)(xb:Nat)(base:List Cl):Prop:=∃ v vs,w.heap[xb]?=aP #[v] 72/\fO (fun _=>True) w 79 v vs/\kr (fun _=>True) w vs base
def I3.iJ{w w':Z}{xb:Nat}{base:List Cl}(h:I3 w xb base)(hk:eM w w'):I3 w' xb base:=by
 obtain⟨v,vs,a,b,c⟩:=h;exact⟨v,vs,hk _ _ _ (yM) a,b.iJ hk (yM),c.iJ hk⟩
def Ub(names:List Bs)(w w':Z)(qb:Nat)(E:En)(st:E.St):Prop:=
 ∃ X:By E,(Hb X/\QA X)/\qb≠X.eb/\w.heap.size<=qb/\X.Good 0 st/\∃ ρ,∀ D:Nat->Prop,(∀ b,w.heap.size<=b->D b)->xo X D ρ qb names w' (V,st)
theorem xo.ext{E:En}{X:By E}(L:Hb X){D:Nat->Prop}{ρ:Nat->Nat}{qb:Nat}{names:List Bs}{w w':Z}{q:Qs E}(h:xo X D ρ qb names w q)(a:Ext w w'):xo X D ρ qb names w' q:=by
 obtain⟨⟨Hc,b,c⟩,d⟩:=h;exact⟨⟨Hc,a.ext _ _ b,c.mono zg (by grind [bD.ext])⟩,(by grind [Hb.ext])⟩
theorem Ub.ext{names:List Bs}{w w1 w2:Z}{qb:Nat}{E:En}{st:E.St}(h:Ub names w w1 qb E st)(a:Ext w1 w2):Ub names w w2 qb E st:=by
 obtain⟨X,L,b,c,d,ρ,e⟩:=h;exact⟨X,L,b,c,d,ρ,fun D hD=>(e D hD).ext L.1 a⟩
def aft(w:Z)(s:Bs)(E:Bd->List Bs->En)(st:∀ x vs,(E x vs).St)(e:Ending)(w':Z):Prop:=
 Ext w w'/\match sK q8 s with
 | .err c a=>∃ b,e = ai (aq #[au V,ak 73 (au (O ⟨b,0,V⟩))])/\w'.heap[b]?=O (ah #[.int .i64 c,.int .i64 a] 77 (0,0))
 | .ok x _ vs=>∃ qb,e = ai (aq #[au (O ⟨qb,0,V⟩),aj])/\Ub vs w w' qb (E x vs) (st x vs)
def P.apK{x:Bd}(hx:eY n M x):kP M (0*1000000) { Wk.new x n with sr:={ (Wk.new x n).sr with fuel:=0 } }/\jC (Wk.new x n).sr:=
 ⟨⟨⟨⟨Nat.zero_le _,fun i c=>List.mem_range.1 c,zg,trivial⟩,(fun i a h=>by cases h),(fun i a h=>by cases h),(fun i j a b _ h=>by cases h)⟩,(by rw[Nat.zero_mul];exact a0D 0),(by rw[Nat.zero_mul];exact a0D 0)⟩,trivial,trivial⟩
def aMY(s:Bs){base:List Cl}(F:s.length<=100000)(G:Iz w)(hC:mP w w.heap.size)(hx:I3 w xb base)(dj:∀ c∈base,sN M c)(my:∀ c∈base,c.name.length<=100)(I:base.length<=100000)(hM:M<=100000)(n:2900<=M) :
  Calls baC 26 #[pp xb,aW s,.bool ae] w (aft w s (fun _ vs=>Pq base vs.length) (fun x vs=>Wk.new x vs.length)):=by
 suffices H:∀ R:Ending->Z->Prop,(∀ e w',aft w s (fun _ vs=>Pq base vs.length) (fun x vs=>Wk.new x vs.length) e w'->R e w')->Calls baC 26 #[pp xb,aW s,.bool ae] w R from H _ zg;intro R i;refine aoE ?_;refine bF ?_;refine(apk s w F G hC).mono ?_;rintro e w1 ⟨y,j⟩;have s1:=y.size;unfold aft at i;cases hr:sK q8 s with
 | err c a=>
  rw[hr] at j i;obtain⟨b,rfl,h1⟩:=j;refine bF ?_;grind
 | ok x k vs=>
  rw[hr] at j i;obtain⟨b,rfl,-,I4,o,l,m,K,L,N⟩:=j;obtain⟨v,fX,g1,g2,g3⟩:=hx.iJ (eM.ed y);obtain⟨sa,sc,rfl⟩:=g2.sl;refine cM @g1 ?_;refine Calls.mono (aLF g2 g3 (by grind [sN.qC]) I) ?_;rintro e w2 ⟨z,mb,rfl,La,Q⟩;have B:=z.ext _ _ K;have p:dM (fun _=>True) w2 (pp o) x:=dM.mono zg (by grind [bD.ext]) _ _ L;refine bF ?_;refine Calls.mono (aLK zo B p) ?_;rintro e w3 ⟨S,wb,fb,ρ,todo,rfl,rK,q,C⟩;have T:=S.ext _ _ B;have s2:=z.size;have r:=(C (fun _=>True) (fun _ _=>trivial)).cell;have lw:=bn r;refine bF ?_;obtain⟨d,U⟩:=ck (bT (w3.alloc (ah #[au V] 122)) w3.heap.size (ah #[pp wb] 122));have W:bT (w3.alloc (ah #[au V] 122)) w3.heap.size (ah (oV #[au V] 0 (Value.pointer (O ⟨wb,0,V⟩)).cells.toList) 122 (0,0))=d:=by rw[U];rfl
  rw[W];have E:Ext w3 d:=yF;have g4:d.heap[w3.heap.size]?=aP #[pp wb] 122:=yH;have t:=E.ext _ _ T;have s4:=E.size;refine⟨fun w'=>w'.heap[w3.heap.size]?=d.heap[w3.heap.size]?/\w'.heap[b]?=d.heap[b]?,yH,?_⟩;refine cR (pp wb) (fun w' f=>by rw[g4] at f;have g:=f.1;have:=bn g;exact fj g) (cR (pp wb) (fun w' f=>by rw[g4] at f;have g:=f.1;have:=bn g;exact fj g) ?_);rw[jF];refine cR (pq wb 1) (fun w' f=>eS) ?_;rw[jF];refine cR (pq b 3) (fun w' f=>eS) (cR (.slice l vs.length m) (fun w' f=>by rw[t] at f;have g:=f.2;have:=bn g;exact fj g) ?_);refine aMX zk ?_;rw[VV];refine⟨yH,?_⟩;refine bF ?_;obtain⟨h,X⟩:=ck (d.drew.alloc (ah #[ak 122 (pp wb),pq wb 1,.func (.func 40) #[] #[pp w3.heap.size],.slice l vs.length m,aj] 121));have rq:Ext d h:=yF;have g5:h.heap[d.heap.size]?=aP #[ak 122 (pp wb),pq wb 1,.func (.func 40) #[] #[pp w3.heap.size],.slice l vs.length m,aj] 121:=yH;have Bw:Ext w3 h:=yF;have NG:Ext w1 h:=yF;have yl:eY vs.length M x:=eY.QB n (P.Ua hr).2;rw[<- X];refine i _ _ ⟨yF,d.heap.size,J,wkX base M vs.length wb mb w3.heap.size (cU fb vs.length vs.length),(by grind [aMx,wkD]),?_,zo,P.apK yl,ρ,fun D hD=>?_⟩
  .show d.heap.size≠wb;omega
  .have u:fO (fun _=>True) h 9 (.slice l vs.length m) (vs.map fun s=>aW s):=N.mono zg (by grind [bD.ext]);refine⟨⟨_,g5,u⟩,fun _=>⟨⟨_,_,_,_,(C D (fun b hb=>hD b zo)).ext Bw⟩,(by grind [eM.ed,Bv.bJ,bD.trans,bD.ext]),q.mono zg yH,a0D _,yH⟩⟩
def apM(k:Int)(w:Z)(c:Cr w):Calls baC 23 #[ak 27 (zi k)] w fun e w'=>Ext w w'/\e = ai (aq #[zi k,zi (-1)]):=by
 refine aa6 ?_;refine bF ?_;obtain⟨a,i⟩:=ck ((w.alloc (ah #[au V] 73)).alloc (ah #[zi 0] 27));have d:Ext w a:=yF;have q0:a.heap[w.heap.size]?=aP #[au V] 73:=yH;have q1:a.heap[w.heap.size+1]?=aP #[zi 0] 27:=yH;rw[size_alloc,<- i];refine(aMT k ⟨w.heap.size,0,V⟩ _ a (c.ext d) (by simp [World.cell?,q0];rfl) (jO q0 0)).mono ?_;rintro e w3 ⟨rfl,j⟩;have f:Ext a w3:=yF;have b:=f.ext _ _ q1;clear j;refine bF ?_;refine(aMO k ⟨w.heap.size+1,0,V⟩ _ w3 ((c.ext d).ext f) (by simp [World.cell?,b];rfl) (jO b 0)).mono ?_;rintro e g ⟨rfl,h⟩;obtain⟨l,m⟩:=ck ((((w3.alloc (ah #[pp (w.heap.size+1)] 78)).alloc (ah #[pq 12 78,pp w3.heap.size,.int .u64 150] 158)).alloc (ah #[pq 12 78,pp w3.heap.size,.int .u64 150] 158)).alloc (ah #[zi k] 27));rw[<- m] at h;have n:Ext w3 l:=yF;have o:=n.ext _ _ b;rw[uZ o] at h;have p:Ext w g:=by
  exact yF
 have q4:g.heap[w.heap.size+1]?=aP #[zi k] 27:=by
  exact yH
 refine cM @q4 ?_;exact yF
def apN{rP:Bs×Nat}{X:By E}(L:Hb X){q i:Qs E}(r:xo X D ρ qb vars w q)(hD:∀ b,w.heap.size<=b->D b)(j:¬ D 4)(s:¬ D 0)
  (t:lP w) (u:Cr w) (x:qb≠X.eb) (m:qb≠4) (y:qb≠0) (z:q.1=V->X.Good c q.2) (B:c<=700) (C:∀ nm∈vars,nm≠[]/\nm.length<=3000) (F:vars.length<=12) (hlen:∀ k l,E.told k = .ok l->l.length=vars.length)
  (hr:xe E vars d f q=O (rP,i)) :
  Calls baC 16 #[pp qb] w fun e w'=>K8 D qb w w'/\e = ai (aq #[aW rP.1,zi (rP.2:Nat)])/\∃ eO,xo X D eO qb vars w' i:=by
 refine aLR ?_;refine(aL2 L r hD j t x m z B C F hlen hr).mono ?_;rintro e w1 ⟨G,rfl,a,g,eO,p⟩;have H:Cr w1:=Mo u fun o I=>G.block _ o I (by
  rintro (⟨h,_⟩| h)<;>grind)
 have K:∀ {w2:Z},Ext w1 w2->K8 D qb w w2:=yF;obtain⟨err,st⟩:=i;simp only at a g;cases err with
 | none=>
  have a:=a J;simp only[Fy];refine bF ?_;refine(acY w1).mono ?_;rintro e w2 ⟨n,rfl⟩;refine bF ?_;rw[a];exact⟨yF,J,eO,p.ext L n⟩
 | some k=>
  have g:=g k J;simp only[Fy];refine bF ?_;refine(apM k w1 H).mono ?_;rintro e w2 ⟨n,rfl⟩;refine bF ?_;rw[g];exact⟨yF,J,eO,p.ext L n⟩
open Go.Proofs.YtoegidfbnkaabaaGreatDoor.Sx
section
variable{p0 p1 p2 p3 p4 p5 p6 p7:Y}{w:Z}{R:Ending->Z->Prop}
def aM4:=cz w R [p0] (gd [] [] [] [(1,[17,0,1,2,3,4,5,6,7,8,9,10,11,12,13,14,15,16,17])] [] [] []) func35
def aM5:=cz w R [p0] (gd [(3,[2,23])] [] [(2,14)] [] [] [] [24]) func36
def afu:=cz w R [p0,p1] (gc [] [(3001,[])] [6,11,12,13]) func75
def aM6:=cz w R [p0,p1,p2] (gd [] [] [(1,17)] [] [] [] []) func211
def aM7:=cz w R [p0] (gd [] [] [(5,7),(10,18)] [(7,[16,0,1,2,3,4,5,6,7,8,9,10,11,12,13,14,15])] [] [] [2,12,31]) func206
def aM8:=cz w R [p0,p1,p2,p3,p4,p5] (gd [] [(2001,[])] [] [(2,[20,0,1,2,3,4,5,6,7,9,10,11,12,13,8,14,15,16,17,18,19]),(3,[22,0,1,2,3,4,5,6,7,8,9,10,11,12,14,15,16,13,17,18,19,20,21])] [] [] [23]) func209
def aM9:=cz w R [p0,p1] (gd [(6,[32]),(19,[99])] [(16000,[92]),(17001,[])] [(16,23),(21,16)] [] [] [] [4,18,33,68,91,92,100]) func212
def aNa:=cz w R [p0,p1] (gd [(3,[5,14])] [(9001,[])] [(12,16)] [(7,[0,0,1,2,3,4,5,6,7,8,9,10,11,12,13,14,15])] [] [] [4,15,48,52]) func215
def QD:=cz w R [p0,p1] (gd [(14,[88]),(24,[8,128])] [(36001,[]),(46001,[])] [(6,12),(28,8),(37,15)] [(8,[11,0,1,2,3,4,6,7,8,9,5,10,11]),(10,[10,0,1,2,3,4,6,7,5,8,9,10]),(16,[15,0,1,2,3,4,5,6,7,8,9,10,11,12,13,14]),(30,[17,0,1,2,3,4,5,6,7,8,9,10,11,12,13,14,15,16]),(32,[15,0,1,2,3,4,5,6,7,8,9,10,11,12,13,14]),(39,[25,0,1,2,3,4,5,6,7,9,10,11,12,13,14,15,16,17,18,8,19,20,21,22,23,24]),(47,[19,2,3,4,5,6,7,8,9,10,11,12,13,14,15,0,16,17,1,18,19,20,21])] [] [] [4,11,23,24,35,36,49,50,61,62,63,73,74,75,89,116,117,120,121,122,129,147,148,149,166,167,182,183,196,197,198,215,216,241,242,252,253,256,257,258,266]) func207
def aNb:=cz w R [p0] (gd [] [(1000,[13]),(2001,[]),(5001,[]),(9000,[86]),(12000,[96])] [(4,16),(6,16),(9,25)] [] [] [] [2,11,12,13,33,61,85,86,90,94,95,96]) func205
end
def zm(ρ:Nat->Nat)(n:Nat)(w:Z)(v:Y):Sl->Prop
 | .nil=>v = aj
 | .term t=>dN ρ n w v t
 | .level k=>v = ak 201 (.int .i64 (k:Nat))
theorem zm.bJ{ρ eO:Nat->Nat}{n a:Nat}{w w':Z}(hk:eM w w')(hu:eC ρ n eO a){v:Y}:∀ {y:Sl},zm ρ n w v y->zm eO a w' v y
 | .nil,h=>h
 | .term _,h=>dN.P4 hk hu h
 | .level _,h=>h
def ym(v:Y):Option Tm->Prop
 | none=>v = aj
 | some (.atom s)=>v = ak 171 (.string (bs s))
 | some (.int k)=>v = ak 172 (.int .i64 k)
 | some _=>False
theorem ym.eD{ρ:Nat->Nat}{n:Nat}{w:Z}{v:Y}:∀ {t:Tm},ym v (O t)->dN ρ n w v t
 | .atom s,h=>by unfold dN dK;exact h
 | .int k,h=>by unfold dN dK;exact h
 | .var _,h=>h.elim
 | .comp _ _,h=>h.elim
abbrev uO(l:List Nat):List Y:=l.map fun k=>zi ((k:Nat):Int)
structure QE(w:Z)(cur:Array Y)(o:Nat)(i:P.In):Prop where
 word:cur[o]?=O (aW i.word)
 name:cur[o+1]?=O (aW i.name)
 con:∃ cv,cur[o+2]?=O cv/\ym cv i.const
 s:∃ sv,cur[o+3]?=O sv/\fO (fun _=>True) w 3 sv (uO i.s)
theorem QE.bJ(hk:eM w w'){i:P.In}(h:QE w iK o i):QE w' iK o i:=by
 obtain⟨a,b,c,sv,d,e⟩:=h;exact⟨a,b,c,sv,d,e.iJ hk (yM)⟩
def FC(w:Z)(cb:Nat)(c:Co):Prop:=∃ insv,w.heap[cb]?=aP #[zi (c.slots:Nat),insv] 196 /\
 ((c.ins=[]/\insv = b9)\/∃ g cap cur,insv = cU g c.ins.length cap/\c.ins.length<=cap/\w.heap[g]?=aP cur 198/\cur.size=cap*4/\∀ (j:Nat) (i:P.In),c.ins[j]?=O i->QE w cur (j*4) i)
theorem FC.bJ{w w':Z}(hk:eM w w'){cb:Nat}{c:Co}(h:FC w cb c):FC w' cb c:=by
 obtain⟨insv,b,a⟩:=h;refine⟨insv,hk _ _ _ (yM) b,?_⟩;rcases a with a | ⟨g,cap,cur,a,d,e,f,i⟩
 .exact yH
 .exact .inr ⟨g,cap,cur,a,d,hk _ _ _ (yM) e,f,(by grind [QE.bJ])⟩
def Bz(w:Z)(vs:List Y)(cs:List Co):Prop:=vs.length=cs.length/\∀ (j:Nat) (c:Co),cs[j]?=O c->∃ cb,vs[j]?=O (pp cb)/\FC w cb c
theorem Bz.bJ{w w':Z}(hk:eM w w'){vs:List Y}{cs:List Co}(h:Bz w vs cs):Bz w' vs cs:=
 ⟨h.1,fun j c a=>let ⟨cb,b,d⟩:=h.2 j c a;(by grind [FC.bJ])⟩
def Bz.tail{c:Co}{cs:List Co}(h:Bz w (v::vs) (c::cs)):Bz w vs cs:=
 ⟨by have:=h.1;grind,fun j x a=>by simpa using h.2 (j+1) x zg⟩
def Uc(w:Z)(pb:Nat)(preds:List Pd):Prop:=∃ l,w.heap[pb]?=O (eP l)/\∀ (name:Bs) (n:Nat),n<80->match fP (P.keyOf name n) l 0 with
 | none=>preds.find? (fun p=>p.name == name && p.arity == n)=V
 | some (_,v)=>∃ p,preds.find? (fun p=>p.name == name && p.arity == n)=O p/\∃ b cap row vs,v = .slice (O ⟨b,0,V⟩) p.clauses.length cap/\p.clauses.length<=cap/\w.heap[b]?=O (ah row 185 (0,0)) /\
  row.toList.take p.clauses.length=vs/\Bz w vs p.clauses
theorem Uc.bJ{w w':Z}(hk:eM w w'){pb:Nat}(hm:∀ l,w.heap[pb]?=O (eP l)->w'.heap[pb]?=O (eP l)){preds:List Pd}(h:Uc w pb preds):Uc w' pb preds:=by
 obtain⟨l,d,a⟩:=h;refine⟨l,yH,fun name n c=>?_⟩;have:=a name n c;split at this
 .omega
 .obtain⟨p,g1,b,cap,row,vs,g2,g3,g4,g5,g6⟩:=this;exact⟨p,g1,b,cap,row,vs,g2,g3,hk _ _ _ (yM) g4,g5,g6.bJ hk⟩
def pZ(w w':Z):Prop:=eM w w'/\∀ (b:Nat) (cs:Array Y),w.heap[b]?=aP cs 20->w'.heap[b]?=aP cs 20
theorem pZ.ed{w w':Z}(h:Ext w w'):pZ w w':=⟨eM.ed h,(by grind [bD.ext])⟩
theorem pZ.trans{a b c:Z}(h:pZ a b)(k:pZ b c):pZ a c:=⟨h.1.trans k.1,fun x cs hx=>k.2 x cs (h.2 x cs hx)⟩
def CT(ρ:Nat->Nat)(n:Nat)(w:Z)(row:Array Y)(l:List Sl):Prop:=∀ (j:Nat) (y:Sl),l[j]?=O y->∃ v,row[j]?=O v/\zm ρ n w v y
theorem CT.bJ{ρ eO:Nat->Nat}{n a:Nat}{w w':Z}(hk:eM w w')(hu:eC ρ n eO a){row:Array Y}{l:List Sl}(h:CT ρ n w row l):CT eO a w' row l:=
 fun j y b=>let ⟨v,c,d⟩:=h j y b;(by grind [zm.bJ])
def BA(φ:Nat->Nat):Option Nat->Y
 | none=>au V
 | some b=>au (O ⟨φ b,0,V⟩)
structure Ud(ρ:Nat->Nat)(n:Nat)(φ ψ:Nat->Nat)(fA:Nat)(w:Z)(i:Nat)(x:Fm):Prop where
 cell:∃ cb,w.heap[φ i]?=aP #[pp cb,cU (ψ i) x.slots.length x.slots.length,zi (x.entry:Nat),BA φ x.back,zi (x.pc:Nat)] 203/\FC w cb x.code/\(x.ask=A->cb=fA)
 ask:x.ask=A↔x.back=V
 row:∃ row,w.heap[ψ i]?=aP row 20/\row.size=x.slots.length/\CT ρ n w row x.slots
structure yn(φ ψ:Nat->Nat)(nf:Nat)(uP rS:Nat->Nat)(FD:Nat):Prop where
 le:nf<=FD
 ph:∀ i,i<nf->uP i=φ i
 ps:∀ i,i<nf->rS i=ψ i
theorem yn.refl(φ ψ:Nat->Nat)(n:Nat):yn φ ψ n φ ψ n:=⟨a0D _,zg,zg⟩
theorem Ud.bJ{ρ eO:Nat->Nat}{n d:Nat}{φ ψ uP rS:Nat->Nat}{nf FD fA:Nat}{w w':Z}(hk:eM w w')(hu:eC ρ n eO d)(a:yn φ ψ nf uP rS FD){i:Nat}{x:Fm}(c:i<nf)(e:∀ b,x.back=O b->b<nf)
  (hr:∀ cs:Array Y,w.heap[ψ i]?=aP cs 20->w'.heap[ψ i]?=aP cs 20) (h:Ud ρ n φ ψ fA w i x):Ud eO d uP rS fA w' i x:=by
 obtain⟨⟨cb,f,g,j⟩,k,row,l,m,o⟩:=h;refine⟨⟨cb,?_,g.bJ hk,j⟩,k,row,?_,m,o.bJ hk hu⟩
 .have p:BA uP x.back=BA φ x.back:=by
   cases hx:x.back with
   | none=>rfl
   | some b=>unfold BA;simp only;rw[a.ph b (e b hx)]
  rw[a.ph i c,a.ps i c,p];exact hk _ _ _ (yM) f
 .rw[a.ps i c];exact hr _ l
def yo(D:Nat->Prop)(ρ:Nat->Nat)(n:Nat)(ψ:Nat->Nat)(nf:Nat)(w:Z)(v:Y)(l:List Sl):Prop:=
 (l=[]/\v = b9)\/∃ b cap row,v = cU b l.length cap/\l.length<=cap/\w.heap[b]?=aP row 20/\row.size=cap/\CT ρ n w row l/\(∀ i,i<nf->ψ i≠b)/\D b
def Ue(ψ:Nat->Nat)(nf:Nat)(w w':Z):Prop:=∀ (b:Nat) (cs:Array Y),(∀ i,i<nf->ψ i≠b)->w.heap[b]?=aP cs 20->w'.heap[b]?=aP cs 20
def pZ.toR(h:pZ w w'):Ue tS pb w w':=fun b cs _ a=>h.2 b cs a
theorem yo.bJ{D:Nat->Prop}{ρ eO:Nat->Nat}{n c:Nat}{φ ψ uP rS:Nat->Nat}{nf FD:Nat}{w w':Z}(hk:eM w w')(hr:Ue ψ nf w w')(hu:eC ρ n eO c)(e:yn φ ψ nf uP rS FD)(p:∀ i,nf<=i->i<FD->w.heap.size<=rS i){v:Y}{l:List Sl}(h:yo D ρ n ψ nf w v l):yo D eO c rS FD w' v l:=by
 rcases h with h | ⟨b,cap,row,f,g,j,k,m,d,o⟩
 .exact .inl h
 .refine .inr ⟨b,cap,row,f,g,hr _ _ d j,k,m.bJ hk hu,fun i q=>?_,o⟩;rcases Nat.lt_or_ge i nf with a | a
  .rw[e.ps i a];exact d i a
  grind
def ny(D:Nat->Prop)(ρ:Nat->Nat)(n:Nat)(φ ψ:Nat->Nat)(nf:Nat)(w:Z):List Y->List Ga->Prop
 | vs,[]=>vs=[]
 | vs,a::r=>∃ b av fX rest,vs=[.int .i64 (a.mark:Nat),au (O ⟨φ a.f,0,V⟩),.int .i64 (a.pc:Nat),b,av]++rest/\a.f<nf/\ou w 185 b fX/\Bz w fX a.others/\yo D ρ n ψ nf w av a.args/\ny D ρ n φ ψ nf w rest r
theorem ny.bJ{D:Nat->Prop}{ρ eO:Nat->Nat}{n d:Nat}{φ ψ uP rS:Nat->Nat}{nf FD:Nat}{w w':Z}(hk:eM w w')(hr:Ue ψ nf w w')(hu:eC ρ n eO d)(c:yn φ ψ nf uP rS FD)(g:∀ i,nf<=i->i<FD->w.heap.size<=rS i):∀ {l:List Ga} {vs:List Y},ny D ρ n φ ψ nf w vs l->ny D eO d uP rS FD w' vs l
 | [],vs,h=>h
 | a::r,vs,⟨j,av,fX,rest,k,e,m,o,s,p⟩=>⟨j,av,fX,rest,by rw[c.ph a.f e];exact k,Nat.lt_of_lt_of_le e c.le,m.bJ fun b cs q=>hk b cs _ (yM) q,o.bJ hk,(by grind [yo.bJ]),ny.bJ hk hr hu c g p⟩
def ny.len{D:Nat->Prop}{ρ:Nat->Nat}{n:Nat}{φ ψ:Nat->Nat}{nf:Nat}{w:Z}:∀ {l:List Ga} {vs:List Y},ny D ρ n φ ψ nf w vs l->vs.length=l.length*5
 | [],vs,h=>by have h:vs=[]:=h;grind
 | a::r,vs,⟨d,av,fX,rest,b,_,_,_,_,c⟩=>by
  rw[b,List.length_append,ny.len c];grind
def ny.snoc{D:Nat->Prop}{ρ:Nat->Nat}{n:Nat}{φ ψ:Nat->Nat}{nf:Nat}{w:Z}{a:Ga}{l0:List Y}:∀ {l:List Ga} {vs:List Y},ny D ρ n φ ψ nf w vs l->ny D ρ n φ ψ nf w l0 [a]->ny D ρ n φ ψ nf w (vs++l0) (l++[a])
 | [],vs,h,b=>by have h:vs=[]:=h;grind
 | x::l,vs,⟨c,av,fX,rest,j,d,e,f,g,i⟩,b=>⟨c,av,fX,rest++l0,zg,d,e,f,g,ny.snoc i b⟩
theorem ny.take{D:Nat->Prop}{ρ:Nat->Nat}{n:Nat}{φ ψ:Nat->Nat}{nf:Nat}{w:Z}:∀ {l:List Ga} {vs:List Y} (m:Nat),ny D ρ n φ ψ nf w vs l->ny D ρ n φ ψ nf w (vs.take (m*5)) (l.take m)
 | l,vs,0,h=>by simp;rfl
 | [],vs,m+1,h=>by have h:vs=[]:=h;grind
 | a::l,vs,m+1,⟨b,av,fX,rest,i,c,d,e,f,g⟩=>by
  refine⟨b,av,fX,rest.take (m*5),?_,c,d,e,f,ny.take m g⟩;grind
theorem ny.at{D:Nat->Prop}{ρ:Nat->Nat}{n:Nat}{φ ψ:Nat->Nat}{nf:Nat}{w:Z}:∀ {l:List Ga} {vs:List Y} (m:Nat) (hm:m<l.length),ny D ρ n φ ψ nf w vs l->∃ b av fX,(vs.drop (m*5)).take 5=[zi ((l[m]).mark:Nat),pp (φ (l[m]).f),zi ((l[m]).pc:Nat),b,av]/\(l[m]).f<nf /\
   ou w 185 b fX/\Bz w fX (l[m]).others/\yo D ρ n ψ nf w av (l[m]).args
 | a::l,vs,0,_,⟨b,av,fX,rest,d,e,g,h,i,c⟩=>zg
 | a::l,vs,m+1,hm,⟨b,av,fX,rest,d,e,g,h,i,c⟩=>by
  obtain⟨j,av',k,g1,g2⟩:=ny.at m zg c;grind
abbrev Hf(cb:Nat)(a b av:Y):Array Y:=#[pp cb,.slice V 0 0,zi 0,a,b,av]
def CU:vH 1 116 (Hf cb tv vv av):=⟨zs,.inr J⟩
structure AF where
 φ:Nat->Nat
 ψ:Nat->Nat
 vb:Nat
 cb:Nat
 fA:Nat
structure gr(D:Nat->Prop)(ρ:Nat->Nat)(e:AF)(av tv:Y)(dk:List Y)(w:Z)(m:Vm):Prop where
 st:gV D ρ m.n e.vb 1 116 (Hf e.cb (pp (e.φ m.f)) (zi (m.pc:Nat)) av) tv w m.sr
 fl:m.f<m.fs.length
 fs:∀ (i:Nat) (x:Fm),m.fs[i]?=O x->Ud ρ m.n e.φ e.ψ e.fA w i x
 bk:∀ (i:Nat) (x:Fm) (b:Nat),m.fs[i]?=O x->x.back=O b->b<m.fs.length
 dp:∀ i,i<m.fs.length->D (e.ψ i)
 inj:∀ i j,i<m.fs.length->j<m.fs.length->e.ψ i=e.ψ j->i=j
 ar:w.ownsRow 0 342 5 av m.br.length dk
 ag:ny D ρ m.n e.φ e.ψ m.fs.length w dk m.br
 da:∀ g,av.ownBlock=O g->D g
def QF(U:Nat)(w w':Z):Prop:=∀ (b:Nat) (cs:Array Y) (T:Nat),T≠U->w.heap[b]?=aP cs T->w'.heap[b]?=aP cs T
theorem afw{U:Nat}(h:QF U w w'){size:Nat}(a:w.ownsRow base e size v n xs)(c:e≠U):w'.ownsRow base e size v n xs:=by
 refine⟨a.1,?_⟩;rcases a.2 with i | ⟨b,cap,cur,rfl,d,f,g⟩
 .exact yH
 .exact .inr ⟨b,cap,cur,J,d,h _ _ _ c f,g⟩
def gV.afx{T U:Nat}{s:Sr}(h:gV D ρ n pb so T cs tv w s)(hk:QF U w w')
  (a:180≠U/\89≠U/\91≠U/\87≠U/\T≠U):gV D ρ n pb so T cs tv w' s:=
 ⟨h.sv.bJ fun b c t ht d=>hk b c t zo d,h.dv,hk _ _ _ a.2.2.2.2 h.cell,afw hk h.row a.2.2.2.1,h.dr,h.ds,h.nd,h.lt,h.ok⟩
def gV.Hh{sb T:Nat}{cs':Array Y}{s:Sr}(h:gV D ρ n sb so T cs tv w s)(d:vH so T cs)(hk:∀ b o,b≠sb->w.heap[b]?=O o->w'.heap[b]?=O o)
  (g:w'.heap[sb]?=aP (ky (cs'.setIfInBounds so tv) so f) T):gV D ρ n sb so T cs' tv w' { s with fuel:=f }:=by
 have i:T≠87/\T≠91/\T≠180/\T≠89:=by rcases d.ty with h | h<;>subst h<;>decide
 have j:∀ {b:Nat} {c:Array Y} {t:Nat},w.heap[b]?=aP c t->t≠T->b≠sb:=fun a ht e=>by
  rw[e,h.cell] at a;grind
 refine⟨h.sv.bJ fun b c t ht a=>yH,h.dv,g,⟨h.row.1,?_⟩,h.dr,h.ds,h.nd,h.lt,h.ok⟩;rcases h.row.2 with k | ⟨b,cap,cur,rfl,l,m,p⟩<;>grind
def Dn(D:Nat->Prop)(av:Y)(w:Z)(b:Nat):Prop:=D b/\av.ownBlock≠O b/\∀ cs,w.heap[b]?≠(aP cs 20)
section
variable{D:Nat->Prop}{ρ:Nat->Nat}{e:AF}{av tv:Y}{dk:List Y}{w w':Z}{m:Vm}
theorem gr.cell(h:gr D ρ e av tv dk w m):w.heap[e.vb]?=aP #[pp e.cb,tv,zi (m.sr.fuel:Nat),pp (e.φ m.f),zi (m.pc:Nat),av] 116:=h.st.cell
theorem gr.Eg(h:gr D ρ e av tv dk w m)(a:av.ownBlock=O g):∃ cs,w.heap[g]?=aP cs 342:=by
 rcases h.ar.2 with⟨rfl,-⟩| ⟨b,cap,cur,rfl,-,c,-⟩
 .cases a
 grind [a1k,a0z]
theorem gr.Yv(h:gr D ρ e av tv dk w m){c:Array Y}{U:Nat}(a:w.heap[g]?=aP c U)(b:U≠342):av.ownBlock≠O g:=(by grind [Eg])
def gr.rest(h:gr D ρ e av tv dk w m){f' pc':Nat}{s':Sr}(hk:pZ w w')(hu:eC ρ m.n tS pb)(kU:w'.ownsRow 0 342 5 av m.br.length dk)
  (a:gV D tS pb e.vb 1 116 (Hf e.cb (pp (e.φ f')) (zi (pc':Nat)) av) vv w' s') (c:f'<m.fs.length):gr D tS e av vv dk w' ⟨pb,s',m.fs,f',pc',m.br⟩:=
 ⟨a,c,fun i x hx=>(h.fs i x hx).bJ hk.1 hu (yn.refl _ _ _) (i:=i) (x:=x) zg (fun b d=>h.bk i x b hx d) (hk.2 _),h.bk,h.dp,h.inj,kU,
  h.ag.bJ hk.1 hk.toR hu (yn.refl _ _ _) yH,h.da⟩
theorem gr.ext(h:gr D ρ e av tv dk w m)(a:Ext w w'):gr D ρ e av tv dk w' m:=
 h.rest (pZ.ed a) (eC.refl _ _) (jQ a.ext h.ar) (h.st.ext a) h.fl
def gr.less(h:gr D ρ e av tv dk w m):gV (Dn D av w) ρ m.n e.vb 1 116 (Hf e.cb (pp (e.φ m.f)) (zi (m.pc:Nat)) av) tv w m.sr:=by
 have a:∀ {b:Nat} {c:Array Y} {U:Nat},D b->w.heap[b]?=aP c U->U≠342->U≠20->Dn D av w b:=fun l o p j=>⟨l,h.Yv o p,yH⟩;refine⟨h.st.sv,fun i k=>?_,h.st.cell,h.st.row,fun g d=>?_,a h.st.ds h.cell zo zo,h.st.nd,h.st.lt,h.st.ok⟩
 .obtain⟨ref,j,-⟩:=h.st.sv.var i k;exact a (h.st.dv i k) j zo zo
 .rcases h.st.row.2 with⟨rfl,-⟩| ⟨r,cap,cur,rfl,-,q,-⟩
  .cases d
  .simp only[a1k,a0z] at d;subst d;exact a (h.st.dr _ J) q zo zo
theorem gr.dn(h:gr D ρ e av tv dk w m)(hD:∀ b,w.heap.size<=b->D b):∀ b,w.heap.size<=b->Dn D av w b:=fun b a=>⟨hD b a,(by grind [bn,Eg]),yH⟩
def Dn.apO(a:di (Dn D av w) w w1):pZ w w1:=⟨a.toI,fun b cs c=>a.block _ _ c fun hm=>hm.1.2.2 cs c⟩
def gr.store(h:gr D ρ e av tv dk w m){s':Sr}(c:gV (Dn D av w) ρ m.n e.vb 1 116 (Hf e.cb (pp (e.φ m.f)) (zi (m.pc:Nat)) av) vv w' s')(a:di (Dn D av w) w w') :
  gr D ρ e av vv dk w' { m with sr:=s' }/\di D w w':=by
 refine⟨h.rest (Dn.apO a) (eC.refl _ _) ⟨h.ar.1,?_⟩ (c.up fun _ h=>h.1) h.fl,a.up fun _ h=>h.1⟩;rcases h.ar.2 with j | ⟨b,cap,cur,rfl,d,g,i⟩
 .exact yH
 .exact .inr ⟨b,cap,cur,J,d,a.block _ _ g (fun hm=>hm.1.2.1 J),i⟩
def gr.fresh(h:gr D ρ e av tv dk w m)(hD:∀ b,w.heap.size<=b->D b)(g:Ext w w')(hv:w'.heap[w.heap.size]?=aP #[aj] 91) :
  ∃ eO,eC ρ m.n eO (m.n+1)/\eO m.n=w.heap.size/\gr D eO e av tv dk w' { m with n:=m.n+1 }:=by
 obtain⟨eO,u⟩:∃ eO:Nat->Nat,eO=fun i=>if i<m.n then ρ i else w.heap.size:=⟨_,J⟩
 have hu:eC ρ m.n eO (m.n+1):=⟨zo,zg⟩;have q:eO m.n=w.heap.size:=yH;have hold:∀ i,i<m.n->ρ i<w.heap.size:=fun i c=>by
  obtain⟨r,a,-⟩:=h.st.sv.var i c;exact yH
 have k:=h.st.ext g;have f:∀ i,i<m.n+1->i<m.n\/i=m.n:=zg;refine⟨eO,hu,q,h.rest (pZ.ed g) hu (jQ g.ext h.ar) ?_ h.fl⟩;refine⟨⟨fun i j c s he=>?_,fun i c=>?_⟩,fun i c=>?_,k.cell,?_,h.st.dr,h.st.ds,h.st.nd,fun p d=>Nat.lt_of_lt_of_le (h.st.lt p d) hu.1,h.st.ok⟩
 .rcases f i c with a | rfl<;>rcases f j s with l | rfl
  .rw[hu.2 i a,hu.2 j l] at he;exact h.st.sv.inj i j a l he
  .grind
  .grind
  .rfl
 .rcases f i c with a | rfl
  .obtain⟨r,g1,g2⟩:=k.sv.var i a;refine⟨r,yH,?_⟩;cases o:P.look i m.sr.tr with
   | none=>grind
   | some t=>rw[o] at g2;exact dK.mono zg hu.1 hu.2 (fun _ _ _ _ _ h=>h) t r g2
  .have o:P.look m.n m.sr.tr=none:=P.PS fun hm=>by
    obtain⟨p,d,x⟩:=List.mem_map.1 hm;have:=h.st.lt p d;omega
   exact yH
 .rcases f i c with a | rfl
  .rw[hu.2 i a];exact h.st.dv i a
  grind
 .have e:rp eO m.sr.tr=rp ρ m.sr.tr:=by
   unfold rp;refine List.map_congr_left fun p d=>?_;rw[hu.2 p.1 (h.st.lt p (List.mem_reverse.1 d))]
  rw[e];exact k.row
def gr.own(h:gr D ρ e av tv dk w m)(i:bD (fun b _=>b=e.vb) w w'){f' pc':Nat}(j:w'.heap[e.vb]?=aP #[pp e.cb,tv,zi (m.sr.fuel:Nat),pp (e.φ f'),zi (pc':Nat),av] 116)
  (k:f'<m.fs.length):gr D ρ e av tv dk w' { m with f:=f',pc:=pc' }/\di D w w':=by
 have a:∀ b o,b≠e.vb->w.heap[b]?=O o->w'.heap[b]?=O o:=(by grind [bD.block]);have l:∀ {b:Nat} {c:Array Y} {t:Nat},w.heap[b]?=aP c t->t≠116->b≠e.vb:=fun a ht e=>by
  rw[e,h.cell] at a;grind
 have d:di D w w':=bD.mono i fun b o g e=>by
  subst e;rw[h.cell] at g;exact⟨h.st.ds,_,_,_,(a0G g).symm,.inr (.inr (.inr (.inr (.inl J))))⟩
 refine⟨h.rest ⟨d.toI,yH⟩ (eC.refl _ _) ⟨h.ar.1,?_⟩ (h.st.Hh CU a j) k,d⟩;rcases h.ar.2 with n | ⟨b,cap,cur,rfl,p,q,r⟩<;>grind
def gr.KY(h:gr D ρ e av tv dk w m){av':Y}{avs':List Y}{l:List Ga}(hr:w1.ownsRow 0 342 5 av' l.length avs')
  (a:w.grownBy w1 av.ownBlock) (hv:av'.ownBlock=av.ownBlock\/∀ g,av'.ownBlock=O g->D g/\w.heap.size<=g) (s:ny D ρ m.n e.φ e.ψ m.fs.length w avs' l)
  (hw:w2=bT w1 e.vb (ah #[pp e.cb,tv,zi (m.sr.fuel:Nat),pp (e.φ m.f),zi (m.pc:Nat),av'] 116)) :
  gr D ρ e av' tv avs' w2 { m with br:=l }/\di D w w2/\pZ w w2/\w1.heap[e.vb]?=w.heap[e.vb]?:=by
 have t:=h.cell;have p:∀ (b:Nat) (c:Array Y) (U:Nat),U≠342->w.heap[b]?=aP c U->w1.heap[b]?=aP c U:=(by grind [bn,World.grownBy.block,Yv]);have f1:di D w w1:=⟨a.os,a.tape,a.output,a.size,fun b o j hm=>by
  rw[a.block b (bn j) (fun e=>?_)]
  .omega
  .obtain⟨cs,d⟩:=h.Eg e.symm;rw[j] at d;exact hm ⟨h.da b e.symm,_,_,_,a0G d,.inr zg⟩⟩
 have s1:gV D ρ m.n e.vb 1 116 (Hf e.cb (pp (e.φ m.f)) (zi (m.pc:Nat)) av) tv w1 m.sr:=h.st.afx (U:=342) p zo;obtain⟨d,u⟩:=s1.cells CU (cs':=Hf e.cb (pp (e.φ m.f)) (zi (m.pc:Nat)) av') (f:=m.sr.fuel);have he:bT w1 e.vb (ah (ky ((Hf e.cb (pp (e.φ m.f)) (zi (m.pc:Nat)) av').setIfInBounds 1 tv) 1 (m.sr.fuel:Nat)) 116 (0,0))=w2:=zg;rw[he] at d u;have q:di D w w2:=yF;have y:=p _ _ _ zd t;have k:pZ w w2:=⟨q.toI,yH⟩;refine⟨⟨d,h.fl,fun i x hx=>(h.fs i x hx).bJ k.1 (eC.refl _ _) (yn.refl _ _ _) (i:=i) (x:=x) zg (fun b j=>h.bk i x b hx j) yH,h.bk,h.dp,h.inj,?_,s.bJ k.1 k.toR (eC.refl _ _) (yn.refl _ _ _) yH,fun g z=>?_⟩,q,k,yH⟩
 .rw[hw];refine IK hr fun e=>?_;rcases hr.2 with⟨r,-⟩| ⟨B,cap,cur,r,-,C,-⟩
  .rw[r] at e;cases e
  grind [a1k,a0z]
 grind [da]
def gr.forget(h:gr D ρ e av tv dk w m)(hm:k<=m.br.length){a:Option Addr}(b:av = .slice a m.br.length c)
  (hw:w1=bT w e.vb (ah #[pp e.cb,tv,zi (m.sr.fuel:Nat),pp (e.φ m.f),zi (m.pc:Nat),.slice a k c] 116)) :
  gr D ρ e (.slice a k c) tv (dk.take (k*5)) w1 { m with br:=m.br.take k }/\di D w w1/\pZ w w1:=by
 have n:=h.ag.len;have hr:w.ownsRow 0 342 5 (.slice a k c) k (dk.take (k*5)):=by
  refine⟨zg,?_⟩;rcases h.ar.2 with⟨d,i⟩| ⟨g,cap,cur,d,i,o,p,q,r,s⟩<;>grind
 have j:w.grownBy w av.ownBlock:=⟨J,J,J,a0D _,yH⟩;obtain⟨t,u,x,-⟩:=h.KY (l:=m.br.take k) (av':=.slice a k c) (avs':=dk.take (k*5)) zg j (.inl (by rw[b];cases a<;>rfl)) (h.ag.take k) hw;exact yF
theorem gr.cur(h:gr D ρ e av tv dk w m):∃ x,m.fs[m.f]?=O x/\Ud ρ m.n e.φ e.ψ e.fA w m.f x:=
 ⟨_,a0F h.fl,h.fs _ _ (a0F h.fl)⟩
def gr.apP(h:gr D ρ e av tv dk w m){row:Array Y}(q:w.heap[e.ψ m.f]?=aP row 20){y:Sl}(C:zm ρ m.n w v y)
  (hw:w1=bT w (e.ψ m.f) (ah (row.setIfInBounds k v) 20 (0,0))):gr D ρ e av tv dk w1 (m.set k y)/\di D w w1:=by
 have r:QF 20 w w1:=fun b cs T M a=>by
  exact yH
 have d:di D w w1:=⟨by rw[hw];rfl,by rw[hw];rfl,by rw[hw];rfl,yH,fun b o a hm=>by
  by_cases he:b=e.ψ m.f
  .subst he;rw[q] at a;exact absurd ⟨h.dp _ h.fl,_,_,_,(a0G a).symm,.inr (.inr (.inr (.inr (.inr (.inr J)))))⟩ hm
  exact yH⟩
 have E:Ue e.ψ m.fs.length w w1:=fun b cs a hx=>by
  grind [jh,fl]
 have p:(m.set k y).fs.length=m.fs.length:=List.length_modify ..;have s:∀ (i:Nat) (x:Fm),(m.set k y).fs[i]?=O x->∃ x0,m.fs[i]?=O x0/\x=if m.f=i then{ x0 with slots:=x0.slots.set k y } else x0:=fun i x hx=>by
  have hx:(m.fs.modify m.f fun x=>{ x with slots:=x.slots.set k y })[i]?=O x:=hx;grind
 refine⟨⟨h.st.afx r zo,by rw[p];exact h.fl,fun i x hx=>?_,fun i x b hx a=>?_,(by grind [dp]),fun i j g c=>h.inj i j zo zo,afw r h.ar zo,?_,h.da⟩,d⟩
 .obtain⟨x0,l,he⟩:=s i x hx;have hm:=h.fs i x0 l;have t:i<m.fs.length:=zg;by_cases g:m.f=i
  .rw[zip g] at he;subst g;obtain⟨⟨cb,N,F,G⟩,H,I,z,P,K⟩:=hm;rw[q] at z;cases z;rw[he];refine⟨⟨cb,?_,F.bJ d.toI,G⟩,H,row.setIfInBounds k v,?_,?_,?_⟩
   .exact yH
   .exact yH
   .grind
   .intro j L c;simp only[List.getElem?_set] at c;by_cases B:k=j
    .subst B;rw[zip rfl] at c;split at c
     .rename_i hlt;cases c;exact⟨v,zg,C.bJ d.toI (eC.refl _ _)⟩
     grind
    .rw[bO B] at c;obtain⟨u,g1,g2⟩:=K j L c;exact⟨u,zg,g2.bJ d.toI (eC.refl _ _)⟩
  .rw[bO g] at he;subst he;exact hm.bJ d.toI (eC.refl _ _) (yn.refl _ _ _) t (fun b a=>h.bk i _ b l a) fun cs Q=>by
    rw[hw,jh (fun e=>g (h.inj _ _ h.fl t e.symm))];omega
 .obtain⟨x0,l,he⟩:=s i x hx;rw[p];refine h.bk i x0 b l ?_;grind
 .have:=h.ag.bJ d.toI E (eC.refl _ _) (yn.refl _ _ _) yH;rw[<- p] at this;exact this
end
def least_some{l:List String}(h:l≠[]):∃ m,Instr.least l=O m:=by
 cases l with
 | nil=>grind
 | cons a l=>exact⟨_,J⟩
def aNc{want:Array (String×TypeId)}{got:Array Method}(h:(want.toList.filter fun(name,sig)=>!got.any fun m=>m.name == name && m.sig == sig)≠[]):∃ m,Instr.missingMethod want got=O m:=by
 unfold Instr.missingMethod;obtain⟨l,b⟩:=ck ((want.toList.filter fun(name,sig)=>!got.any fun m=>m.name == name && m.sig == sig).map (·.1));rw[<- b];have c:l≠[]:=by rw[b];simpa using h
 have key:∀ (p:String->Bool)(g:String->String),∃ m,(match l.partition p with | (u,e)=>(Instr.least e <|> Instr.least (u.map g)))=O m:=by
  intro p g;rw[List.partition_eq_filter_filter];by_cases he:l.filter (not ∘ p)=[]
  .rw[he];have hu:l.filter p≠[]:=fun hu=>by
    obtain⟨a,r,rfl⟩:=List.exists_cons_of_ne_nil c;grind
   obtain⟨m,hm⟩:=least_some (l:=(l.filter p).map g) (by simpa using hu);exact ⟨m,hm⟩
  .obtain⟨m,hm⟩:=least_some he;exact ⟨m,by grind⟩
 exact key _ _
def P.vN:Sl->Except iM Tm
 | .term t=>.ok t
 | _=>.error (.fault 5)
theorem P.afy(m:Vm)(i:P.In)(k:Nat):m.at i k=P.vN (m.slot (i.s.getD k 0)):=by
 grind [Vm.at,P.vN]
def apQ(P:Program)(u t:TypeId):Bool:=match P.underlying u with
 | some (.interface want)=>(match P.info? t with
  | some i=>!(want.toList.filter fun(name,sig)=>!i.methods.any fun m=>m.name == name && m.sig == sig).isEmpty
  | none=>ae)
 | _=>ae
def aNd:V2 baC 89 201=true:=by
 have h:apQ baC 89 201=true:=zk;unfold apQ at h;unfold V2;split at h
 .rename_i want hu;split at h
  .rename_i i a;rw[hu,a];obtain⟨m,hm⟩:=aNc (want:=want) (got:=i.methods) zg;grind
  grind
 .cases h
abbrev TmP(ρ:Nat->Nat)(n:Nat)(w:Z)(r:Except iM Tm)(e:Ending):Prop:=match r with
 | .ok t=>∃ v,e = ai v/\dN ρ n w v t
 | .error t=>e=gW t
abbrev Uf(v:Y)(r:Except iM Tm)(e:Ending):Prop:=match r with
 | .ok _=>e = ai v
 | .error t=>e=gW t
def apS{y:Sl}(p:Y)(h:zm ρ n w v y):Calls baC 75 #[p,v] w fun e w'=>w'=w/\Uf v (P.vN y) e:=by
 have c:∀ {T:Nat} {x:Y},(T=171\/T=172\/T=87\/T=175)->v = ak T x->(∃ t,y = .term t/\dN ρ n w v t)->Calls baC 75 #[p,v] w fun e w'=>w'=w/\Uf v (P.vN y) e:=by
  rintro T x b rfl ⟨t,rfl,ht⟩;have a:∀ {K:Y->Prop} {X:Y->Z->Prop},RD baC (a0T (ak T x) 20 89 A) w K X=K (aq #[ak T x,.bool A]):=by
   rcases b with rfl | rfl | rfl | rfl<;>exact awX zk x
  refine afu ?_;rw[a];refine bF ?_;refine⟨fun _ w'=>w'=w,?_,?_⟩
  .exact eS
  .rintro s w' rfl d;exact⟨J,J⟩
 cases y with
 | nil=>
  have h:v = aj:=h;subst h;have a:∀ {K:Y->Prop} {X:Y->Z->Prop},RD baC (a0T aj 20 89 A) w K X=K (aq #[aj,.bool ae]):=awZ zk zk;refine afu ?_;rw[a];refine bF ?_;refine⟨fun _ _=>False,?_,zg⟩;refine bF ?_;rfl
 | level k=>
  have h:v = ak 201 (zi (k:Nat)):=h;subst h;have a:∀ {K:Y->Prop} {X:Y->Z->Prop},RD baC (a0T (ak 201 (zi (k:Nat))) 20 89 A) w K X=K (aq #[aj,.bool ae]):=awY aNd zk _;refine afu ?_;rw[a];refine bF ?_;refine⟨fun _ _=>False,?_,zg⟩;refine bF ?_;rfl
 | term t=>
  have h:dN ρ n w v t:=h;have f:=h;cases t with
  | var i=>unfold dN dK at h;grind
  | atom s=>unfold dN dK at h;grind
  | int k=>unfold dN dK at h;grind
  | comp s l=>unfold dN dK at h;grind
def Uf.toP{y:Sl}{e:Ending}(h:zm ρ n w v y)(hv:Uf v (P.vN y) e):TmP ρ n w (P.vN y) e:=by
 cases y with
 | nil=>exact hv
 | level k=>exact hv
 | term t=>exact⟨v,hv,h⟩
structure AI(w:Z)(g o:Nat)(i:P.In):Prop where
 row:∃ cur,w.heap[g]?=aP cur 198/\o+4<=cur.size/\QE w cur o i
theorem AI.bJ{w w':Z}(hk:eM w w'){g o:Nat}{i:P.In}(h:AI w g o i):AI w' g o i:=by
 obtain⟨cur,a,b,c⟩:=h;exact⟨cur,hk _ _ _ (yM) a,b,c.bJ hk⟩
def Ld{l:List Nat}(a:fO (fun _=>True) w 3 v (uO l))(c:j<l.length) :
  ∃ b cs,v = cU b l.length cs.size/\w.heap[b]?=aP cs 3/\cs[j]?=O (zi ((l[j]:Nat):Int))/\l.length<=cs.size:=by
 obtain⟨b,cs,f,-,d,g⟩:=a.at' (j:=j) (by simpa using c);refine⟨b,cs,zg,d,zg,?_⟩;rcases a with⟨e,-⟩| ⟨h,cs',e,-,i,k,-⟩<;>grind
section
variable{D:Nat->Prop}{ρ:Nat->Nat}{e:AF}{av tv:Y}{dk:List Y}{w w':Z}{m:Vm}
def gr.QG(h:gr D ρ e av tv dk w m){x:Fm}(hx:m.fs[m.f]?=O x)(hk:k<x.slots.length):∃ row v,w.heap[e.ψ m.f]?=aP row 20/\row.size=x.slots.length/\row[k]?=O v/\zm ρ m.n w v (m.slot k):=by
 obtain⟨-,-,row,b,c,a⟩:=h.fs _ _ hx;have d:m.slot k=x.slots[k]:=by
  grind [Vm.slot,a0F]
 obtain⟨v,g1,g2⟩:=a k x.slots[k] zg;exact yH
def zm.one{n:Nat}{v:Y}:∀ {y:Sl},zm ρ n w v y->v = aj\/∃ t u,v = ak t u
 | .nil,h=>.inl h
 | .level _,h=>.inr ⟨_,_,h⟩
 | .term _,h=>.inr (by obtain⟨a,b,h⟩:=dK.iface h;grind)
def afz(h:gr D ρ e av tv dk w m){x:Fm}(hx:m.fs[m.f]?=O x){i:P.In}(p:AI w g o i)(hk:k<i.s.length)(q:i.s[k]<x.slots.length)(K:k<=60) :
  Calls baC 211 #[pp e.vb,pq g o,zi (k:Nat)] w fun c w'=>w'=w.drew/\∃ row v,w.heap[e.ψ m.f]?=aP row 20/\row[i.s[k]]?=O v /\
   zm ρ m.n w v (m.slot i.s[k])/\Uf v (P.vN (m.slot i.s[k])) c:=by
 have r:=h.cell;obtain⟨⟨cb,u,-,-⟩,-,-⟩:=h.fs _ _ hx;obtain⟨row,v,hr,L,d,hv⟩:=h.QG hx q;obtain⟨cur,y,M,-,-,-,sv,z,B⟩:=p;obtain⟨b,cs,rfl,C,E,N⟩:=Ld B hk;have F:Ext w w.drew:=yF;refine aM6 ?_;have G:(k:Int).toNat=k:=zo;have Q:(k:Int)<(i.s.length:Nat):=zo;have j:((i.s[k]:Nat):Int).toNat=i.s[k]:=zo;have H:((i.s[k]:Nat):Int)<(x.slots.length:Nat):=zo;have I:=hv.one;rcases I with rfl | ⟨t1,R,rfl⟩;all_goals
  refine dL r u y (zA z (zA C (zA E (zA @G (zA hr (zA d @j)))))) ?_;refine Calls.mono (apS _ (hv.bJ (eM.ed F) (eC.refl _ _))) ?_;rintro c w1 ⟨rfl,a⟩;cases l:P.vN (m.slot i.s[k]) with
  | error t=>
   rw[l] at a;have a:c=gW t:=a;subst a;cases t<;>exact⟨J,_,_,hr,d,hv,J⟩
  | ok t=>
   rw[l] at a;have a:c = ai _:=a;subst a;exact⟨J,_,_,hr,d,hv,J⟩
def Yx(h:gr D ρ e av tv dk w m){x:Fm}(hx:m.fs[m.f]?=O x){i:P.In}(b:AI w g o i)(hk:k<i.s.length)(c:i.s[k]<x.slots.length)(d:k<=60) :
  Calls baC 211 #[pp e.vb,pq g o,zi (k:Nat)] w fun a w'=>w'=w.drew/\TmP ρ m.n w' (m.at i k) a:=by
 refine(afz h hx b hk c d).mono ?_;rintro a w' ⟨rfl,row,v,-,-,hv,j⟩;have l:Ext w w.drew:=yF;have he:m.at i k=P.vN (m.slot i.s[k]):=by
  grind [P.afy,a0F]
 rw[he];exact⟨J,j.toP (hv.bJ (eM.ed l) (eC.refl _ _))⟩
end
def aNf:(Tryz.prog.info? 342).map (fun i=>(i.zero,i.size,i.bytes))=O (O (.agg #[zi 0,au V,zi 0,b9,b9]),5,72):=zk
def apT(c:w.ownsRow base 342 5 v n xs){l:List Y}
  (d:w.heap[b]?=aP l.toArray 342) (q:l.length=5) (r:∀ u∈l,u.oneCell'=A)
  (s:n<=900000000) (f:base<=w.heap.size) {K:Y->Z->Prop}
  (h:∀ v' w',w'.ownsRow base 342 5 v' (n+1) (xs++l)->w.grownBy w' v.ownBlock->(v'.ownBlock=v.ownBlock\/∀ k,v'.ownBlock=O k->w.heap.size<=k)->K v' w') :
  WR baC (Builtin.append_ #[114,114] 114 #[v,cU b 1 m]) w K X:=by
 obtain⟨i,g,a⟩:=Option.map_eq_some_iff.1 aNf;simp only[Prod.mk.injEq] at a;obtain⟨j,o,p⟩:=a;exact Sx.Dr (m:=1) (t:=114) (e:=342) zk g j o p J zo c d zo zg zo zo f h
def aNg{t:TypeId}{fr:Nat×Nat}(a:w.heap[g]?=O (ah iK t fr)):w.setRow g cs=bT w g (ah cs t fr):=by
 have hlt:g<w.heap.size:=yH;unfold World.setRow bT
 congr 1
 exact yH
def aNh{K:Y->Z->Prop}:WR baC (Builtin.copy_ #[200,200] 3 #[.slice (O ⟨g,o,V⟩) n c,b9]) w K X=K (zi 0) w:=
 xB (run_copy_nil (elem:=20) baC w _ _ _ _ n c zk zk)
def aNi{row:Array Y}(a:w.heap[g]?=aP iK 20)(f:w.heap[b]?=aP row 20)(hk:k<=row.size)(i:k<=n)(j:n<=iK.size)
  (d:∀ v∈row.toList.take k,v.oneCell'=A) {K:Y->Z->Prop} :
  WR baC (Builtin.copy_ #[200,200] 3 #[cU g n c,cU b k pb]) w K X=K (zi (k:Nat)) (bT w g (ah (row.toList.take k++iK.toList.drop k).toArray 20 (0,0))):=by
 have e:(row.toList.take k).length=k:=zg;have h:=run_copy_row baC w 200 200 3 20 g 0 n c ⟨b,0,V⟩ k pb iK 20 (row.toList.take k) zk zk a zg
  (by grind [Addr.add,World.cell?,WalkArith.addr_eq]) zo d
 rw[e,aNg a] at h;simp only[List.take_zero,List.nil_append,Nat.zero_add] at h;exact xB h
section
variable{D:Nat->Prop}{ρ:Nat->Nat}{e:AF}{av tv:Y}{dk:List Y}{w w':Z}{m:Vm}
def gr.aNj(h:gr D ρ e av tv dk w m)(hD:∀ b,w.heap.size<=b->D b)(B:bD (fun b _=>b=e.vb) w w'){fb rb:Nat}{c:Co}{slots:List Sl}{row:Array Y}(N:w.heap.size<=fb)(P:w.heap.size<=rb)
  (Q:w'.heap[fb]?=aP #[pp cb,cU rb slots.length slots.length,zi (n:Nat),pp (e.φ f),zi (pc:Nat)] 203) (C:FC w' cb c)
  (R:w'.heap[rb]?=aP row 20) (E:row.size=slots.length) (F:CT ρ m.n w' row slots) (S:f<m.fs.length)
  (T:w'.heap[e.vb]?=aP #[pp e.cb,tv,zi (m.sr.fuel:Nat),pp fb,zi ((0:Nat):Int),av] 116) :
  ∃ φ ψ,gr D ρ ⟨φ,ψ,e.vb,e.cb,e.fA⟩ av tv dk w' { m with fs:=m.fs++[⟨c,slots,n,O f,pc,ae⟩],f:=m.fs.length,pc:=0 }/\di D w w':=by
 have g:∀ b o,b≠e.vb->w.heap[b]?=O o->w'.heap[b]?=O o:=(by grind [bD.block]);have U:∀ {b:Nat} {c:Array Y} {t:Nat},w.heap[b]?=aP c t->t≠116->b≠e.vb:=fun g ht e=>by
  rw[e,h.cell] at g;grind
 have s:di D w w':=bD.mono B fun b o u e=>by
  subst e;rw[h.cell] at u;exact⟨h.st.ds,_,_,_,(a0G u).symm,.inr (.inr (.inr (.inr (.inl J))))⟩
 have l:pZ w w':=⟨s.toI,yH⟩;obtain⟨uP,G⟩:∃ uP:Nat->Nat,uP=fun i=>if i=m.fs.length then fb else e.φ i:=⟨_,J⟩
 obtain⟨rS,H⟩:∃ rS:Nat->Nat,rS=fun i=>if i=m.fs.length then rb else e.ψ i:=⟨_,J⟩
 have I:uP m.fs.length=fb:=zg;have K:rS m.fs.length=rb:=zg;have p:∀ i,i<m.fs.length->uP i=e.φ i:=zg;have d:∀ i,i<m.fs.length->rS i=e.ψ i:=zg;have y:yn e.φ e.ψ m.fs.length uP rS (m.fs.length+1):=⟨Nat.le_succ _,p,d⟩;have hold:∀ i,i<m.fs.length->e.ψ i<w.heap.size:=fun i a=>by
  obtain⟨-,-,row,W,-⟩:=h.fs i _ (a0F a);exact yH
 have z:∀ (i:Nat) (x:Fm),(m.fs++[⟨c,slots,n,O f,pc,ae⟩])[i]?=O x->(i<m.fs.length/\m.fs[i]?=O x)\/(i=m.fs.length/\x=⟨c,slots,n,O f,pc,ae⟩):=zg;have q:∀ i,i<(m.fs++[(⟨c,slots,n,O f,pc,ae⟩:Fm)]).length->i<m.fs.length\/i=m.fs.length:=zg;have hlen:(m.fs++[(⟨c,slots,n,O f,pc,ae⟩:Fm)]).length=m.fs.length+1:=zs;refine⟨uP,rS,⟨?_,zg,fun i x hx=>?_,fun i x b hx L=>?_,fun i a=>?_,fun i j a M he=>?_,⟨h.ar.1,?_⟩,?_,h.da⟩,s⟩
 .have:=h.st.Hh CU g (cs':=Hf e.cb (pp (uP m.fs.length)) (zi ((0:Nat):Int)) av) (f:=m.sr.fuel) (yH);omega
 .rcases z i x hx with⟨a,hx⟩| ⟨rfl,rfl⟩
  .exact(h.fs i x hx).bJ l.1 (eC.refl _ _) y a (fun b g=>h.bk i x b hx g) yH
  .refine⟨⟨cb,?_,C,zg⟩,zg,row,yH,E,F⟩;grind [BA]
 .show b<(m.fs++_).length;rw[hlen];rcases z i x hx with⟨a,hx⟩| ⟨rfl,rfl⟩
  .have:=h.bk i x b hx L;omega
  grind
 .rcases q i a with k | rfl
  .grind [dp]
  grind
 .have he:rS i=rS j:=he;rcases q i a with k | rfl<;>rcases q j M with r | rfl
  .rw[d i k,d j r] at he;exact h.inj i j k r he
  .grind
  .grind
  .rfl
 .rcases h.ar.2 with k | ⟨b,cap,cur,rfl,r,X,h4⟩<;>grind
 .have:=h.ag.bJ l.1 l.toR (eC.refl _ _) y yH;grind
end
