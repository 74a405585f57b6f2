/- A part of one proof (KD0, PK2, PK3, KE4, KE7, ShX5, KV1, KV2, KV3, KV4, KV5). -/
import Derived.Test.YtoegidfbnkaabaaGreatDoorPkLAU
import Derived.Laws.CopyRow
set_option linter.all false
set_option maxRecDepth 100000
set_option maxHeartbeats 8000000
open Option renaming some → O, none → V
open Go renaming Value → Y, World → Z
open Bool renaming true → A, false → G
open Go.Obj renaming cells → ae
open Go.Ending renaming returned → ah
open Go.Value renaming nilIface → ai, iface → aj, tuple → ak, pointer → aq
open Option.some renaming injEq → a1o, inj → a1w
open Go.Calls renaming mono → a1r
open Nat renaming le_refl → a1s
open List renaming getElem?_eq_getElem → a1u
open Go.Instr renaming typeAssert → a1J
open Go.Value renaming ownBlock → a2f
open Go.Proofs.Tryz renaming prog → bbD
open Go.Proofs.Tryz
namespace Go.Proofs.YtoegidfbnkaabaaGreatDoor
open P
open Go.RowKit Sx
variable{D:Nat->Prop}{E:En}{K:Y->Prop}{M b base c cb d e f g j k m n o pb pc qb so xb:Nat}{X:Y->Z->Prop}{av tv v vv:Y}{cs iB:Array Y}{s:Bs}{ud ρ:Nat->Nat}{vars:List Bs}{vs xs:List Y}{w w' w1 w2:Z}
structure QW(D:Nat->Prop)(w w':Z):Prop where
 FN:eO w w'
 own:∀ (b:Nat) (o:Obj),D b->w.heap[b]?=O o->w'.heap[b]?=O o
 map:∀ (b:Nat) (es:Array MapEntry) (c:Nat),w.heap[b]?=O (.map es c)->w'.heap[b]?=O (.map es c)
structure YT{E:En}(X:Ez E):Prop where
 bJ:∀ {D ρ w w' s},X.Mem D ρ w s->QW D w w'->X.Mem D ρ w' s
 cut:∀ {D D':Nat->Prop} {ρ w s},X.Mem D ρ w s->(∀ b,b<w.heap.size->D b->D' b)->X.Mem D' ρ w s
def afH{size:Nat}(a:w.ownsRow base e size v n xs)(c:∀ g,v.ownBlock=O g->D g)(hk:∀ b o,D b->w.heap[b]?=O o->w'.heap[b]?=O o):w'.ownsRow base e size v n xs:=by
 refine⟨a.1,?_⟩;rcases a.2 with i | ⟨b,cap,cur,rfl,d,f,h⟩
 .exact yH
 .exact .inr ⟨b,cap,cur,J,d,hk _ _ (c b J) f,h⟩
def afI{size:Nat}(a:w.ownsRow base e size v n xs)(c:v.ownBlock=O g):g<w.heap.size:=by
 rcases a.2 with⟨rfl,-⟩| ⟨b,cap,cur,rfl,-,d,-⟩
 .cases c
 grind [a2f,a1o,bg]
def gO.Oi{T:Nat}{s:Sr}(h:gO D ρ n pb so T cs tv w s)(hk:QW D w w'):gO D ρ n pb so T cs tv w' s:=
 ⟨⟨h.sv.inj,fun i hi=>by
  obtain⟨ref,c,a⟩:=h.sv.var i hi;refine⟨ref,hk.own _ _ (h.dv i hi) c,?_⟩;split at a
  .rename_i b;simpa [b] using a
  .rename_i t b;exact dI.bJ a hk.FN.toT⟩,h.dv,hk.own _ _ h.ds h.cell,afH h.row h.dr hk.own,h.dr,h.ds,h.nd,h.lt,h.ok⟩
def gO.Oj{D':Nat->Prop}{T:Nat}{s:Sr}(h:gO D ρ n pb so T cs tv w s)(a:∀ b,b<w.heap.size->D b->D' b):gO D' ρ n pb so T cs tv w s:=
 ⟨h.sv,fun i hi=>by
  obtain⟨ref,d,-⟩:=h.sv.var i hi;grind [bg,dv],h.cell,h.row,fun g c=>a _ (afI h.row c) (h.dr g c),a _ (bg h.cell) h.ds,h.nd,h.lt,h.ok⟩
theorem wkD(base:List Cl)(M nv wb mb xb:Nat)(vv:Y):YT (wkX base M nv wb mb xb vv) where
 bJ:=by
  rintro D ρ w w' s ⟨⟨todo,av,tv,di,h⟩,h2,h3,h4,h5⟩ hk;exact⟨⟨todo,av,tv,di,h.st.Oi hk,h.td.bJ hk.FN (eu.refl _ _),afH h.ar h.da hk.own,h.ag.bJ hk.FN (eu.refl _ _),h.da⟩,
   (by grind [BM.bJ,QW.FN,QW.map]),h3.iX hk.FN (yM),h4,hk.FN _ _ _ (yM) h5⟩
 cut:=by
  rintro D D' ρ w s ⟨⟨todo,av,tv,di,h⟩,h2,h3,h4,h5⟩ hd;exact⟨⟨todo,av,tv,di,h.st.Oj hd,h.td,h.ar,h.ag,fun g hg=>hd _ (afI h.ar hg) (h.da g hg)⟩,h2,h3,h4,h5⟩
def aMR(z:Array Y):∀ (n:Nat),(madeCells z n).size=n:=by
 grind [madeCells]
def aMS(n:Nat)(h:n<=100)(w:Z):Calls bbD 77 #[zi (n:Nat)] w fun e w'=>Ext w w'/\∃ b,e = ah (cS b n n):=by
 refine aoK ?_;refine bH ?_;refine⟨fun m z w'=>∃ (j:Nat) (cs:Array Y),z 9=zi (j:Nat)/\j<=n/\m=n-j/\Ext w w'/\w'.heap[w.heap.size]?=aO cs 89/\cs.size=n,
  ⟨_,0,_,J,Nat.zero_le _,J,(bB.refl _ _).alloc _,sK J,by rw[aMR]⟩,?_⟩
 intro m z d w1 c;refine toPr ?_;obtain⟨j,cs,a,i,rfl,k,g1,l⟩:=c;have o:=bg g1;by_cases hlt:j<n
 .have p:(j:Int)<(n:Int):=zo;have f:(j:Int).toNat=j:=zo;refine jc a @f @g1 ?_;exact⟨_,zo,j+1,_,zs,zo,J,yF,J,yH⟩
 .have g:j=n:=zo;subst g;refine cJ a ?_;exact yH
def rS{j:Option Addr}(p:n<=12)(f:w.heap[b]?=aO #[aT [],bW,pp xb,.slice j n pb] 86) :
  Calls bbD 38 #[.map (O m),pp b] w fun e w'=>Ext w w'/\∃ q o,e = ah (pp q)/\w'.heap[q]?=aO o 130:=by
 refine aoL ?_;refine cJ f ?_;refine a1r (aMS n zo w) ?_;rintro e w1 ⟨c,fb,rfl⟩;have d:=c.ext _ _ f;have r:=bg d;refine cJ d ?_;obtain⟨w2,k⟩:=cg (w1.alloc (ae #[.map (O m),bW,zi 0,aq V,bW,cS fb n n] 130));have l:w1.alloc (ae (Value.agg #[.map (O m),bW,zi 0,aq V,bW,cS fb n n]).cells 130 (0,0))=w2:=k.symm;rw[l];have g:Ext w1 w2:=yF;have g2:w2.heap[w1.heap.size]?=aO #[.map (O m),bW,zi 0,aq V,bW,cS fb n n] 130:=yH;have h:=g.ext _ _ d;have s:=bg g2;refine⟨fun w'=>w'.heap[b]?=w2.heap[b]?,J,?_⟩;rw[jx];refine cQ (pq b 2) (fun w' a=>by rw[h] at a;exact fh a) (cQ (pp xb) (fun w' a=>by rw[h] at a;have:=bg a;exact fh a) ?_);refine cJ @g2 ?_;have i:Ext w2 (w2.drew.alloc (ae #[pp xb,cS fb n n,zi 0,aq V] 207)):=yF;have s1:=c.size;exact⟨bB.bQ (M:=fun _ _=>False) ((c.trans g).trans i) (.inr s1),_,_,J,qz J (bg (i.ext _ _ g2))⟩
def aMT{P:Program}{T:TypeId}(h:JY P T=A){S:Z->Prop}(hk:K (aj T v)):uY P (Instr.makeInterface T v) S K:=by
 refine⟨aj T v,fun w _=>?_,hk⟩;unfold JY at h;unfold Instr.makeInterface underlying;simp only[Sem.run_bind,program,Sem.run,Result.andThen_ok];grind [Sem.run_pure,Result.andThen_ok]
mutual
theorem eX.QX {n M a:Nat} (b:M<=a):∀ {x:Bd},eX n M x->eX n a x
 | .mk kind name args parts,hx=>by
  unfold eX at hx ⊢;obtain⟨c,d,e,f,g,i,j,h⟩:=hx;exact⟨c,d,e,f,g,zo,zo,eY.QX b h⟩
 termination_by structural x=>x
theorem eY.QX {n M a:Nat} (b:M<=a):∀ {l:List Bd},eY n M l->eY n a l
 | [],hx=>by unfold eY;trivial
 | x::xs,hx=>by
  unfold eY at hx ⊢;exact⟨eX.QX b hx.1,eY.QX b hx.2⟩
 termination_by structural x=>x
end
def P.YU{x:Bd}{vs:List Bs}(h:tU rP s = .ok x k vs):KN vs/\eX vs.length 2900 x:=by
 unfold tU at h;split at h
 .grind
 .split at h
  .grind
  .rename_i T b;have a:=Tt b;have d:CH T:=⟨Nt _ _ _ _ (by rw[S6,b]),fun u hu hk=>by
    obtain⟨c,r,e,-⟩:=(a.tok u hu).2.2.1 hk;grind,fun u hu hk=>((a.tok u hu).2.1 hk).2.1⟩
   have i:=a.len;obtain⟨f,g⟩:=aIi d (fun u hu hk=>(a.tok u hu).2.2.2.1 hk) h;exact⟨f,eX.QX zo g⟩
def Jj(w:Z)(xb:Nat)(base:List Cl):Prop:=∃ v vs,w.heap[xb]?=aO #[v] 72/\fJ (fun _=>True) w 79 v vs/\km (fun _=>True) w vs base
def Jj.iX{w w':Z}{xb:Nat}{base:List Cl}(h:Jj w xb base)(hk:eO w w'):Jj w' xb base:=by
 obtain⟨v,vs,a,b,c⟩:=h;exact⟨v,vs,hk _ _ _ (yM) a,b.iX hk (yM),c.iX hk⟩
def UB(names:List Bs)(w w':Z)(qb:Nat)(E:En)(st:E.St):Prop:=
 ∃ X:Ez E,(Jh X/\YT X)/\qb≠X.eb/\w.heap.size<=qb/\X.Good 0 st/\∃ ρ,∀ D:Nat->Prop,(∀ b,w.heap.size<=b->D b)->EA X D ρ qb names w' (V,st)
theorem EA.ext{E:En}{X:Ez E}(L:Jh X){D:Nat->Prop}{ρ:Nat->Nat}{qb:Nat}{names:List Bs}{w w':Z}{q:Qs E}(h:EA X D ρ qb names w q)(a:Ext w w'):EA X D ρ qb names w' q:=by
 obtain⟨⟨Lu,b,c⟩,d⟩:=h;exact⟨⟨Lu,a.ext _ _ b,c.mono zg (by grind [bB.ext])⟩,(by grind [Jh.ext])⟩
theorem UB.ext{names:List Bs}{w w1 w2:Z}{qb:Nat}{E:En}{st:E.St}(h:UB names w w1 qb E st)(a:Ext w1 w2):UB names w w2 qb E st:=by
 obtain⟨X,L,b,c,d,ρ,e⟩:=h;exact⟨X,L,b,c,d,ρ,fun D hD=>(e D hD).ext L.1 a⟩
def afJ(w:Z)(s:Bs)(E:Bd->List Bs->En)(st:∀ x vs,(E x vs).St)(e:Ending)(w':Z):Prop:=
 Ext w w'/\match tU rP s with
 | .err c a=>∃ b,e = ah (ak #[aq V,aj 73 (aq (O ⟨b,0,V⟩))])/\w'.heap[b]?=O (ae #[.int .i64 c,.int .i64 a] 77 (0,0))
 | .ok x _ vs=>∃ qb,e = ah (ak #[aq (O ⟨qb,0,V⟩),ai])/\UB vs w w' qb (E x vs) (st x vs)
def P.aMU{x:Bd}(hx:eX n M x):lW M (0*1000000) { Wk.new x n with sr:={ (Wk.new x n).sr with fuel:=0 } }/\lH (Wk.new x n).sr:=
 ⟨⟨⟨⟨Nat.zero_le _,fun i hi=>List.mem_range.1 hi,zg,trivial⟩,(fun i a h=>by cases h),(fun i a h=>by cases h),(fun i j a b _ h=>by cases h)⟩,(by rw[Nat.zero_mul];exact a1s 0),(by rw[Nat.zero_mul];exact a1s 0)⟩,trivial,trivial⟩
def aMV(s:Bs){base:List Cl}(F:s.length<=100000)(I:IN w)(hC:mY w w.heap.size)(hx:Jj w xb base)(dA:∀ c∈base,y8 M c)(mT:∀ c∈base,c.name.length<=100)(K:base.length<=100000)(hM:M<=100000)(n:2900<=M) :
  Calls bbD 26 #[pp xb,aT s,.bool G] w (afJ w s (fun _ vs=>KM base vs.length) (fun x vs=>Wk.new x vs.length)):=by
 suffices H:∀ R:Ending->Z->Prop,(∀ e w',afJ w s (fun _ vs=>KM base vs.length) (fun x vs=>Wk.new x vs.length) e w'->R e w')->Calls bbD 26 #[pp xb,aT s,.bool G] w R from H _ zg;intro R i;refine aoM ?_;refine bH ?_;refine(aps s w F I hC).mono ?_;rintro e w1 ⟨y,j⟩;have s1:=y.size;unfold afJ at i;cases hr:tU rP s with
 | err c a=>
  rw[hr] at j i;obtain⟨b,rfl,h1⟩:=j;refine bH ?_;grind
 | ok x k vs=>
  rw[hr] at j i;obtain⟨b,rfl,-,Ol,o,l,m,L,N,Q⟩:=j;obtain⟨v,fV,g1,g2,g3⟩:=hx.iX (eO.ed y);obtain⟨sa,sc,rfl⟩:=g2.sl;refine cJ @g1 ?_;refine a1r (aLB g2 g3 (by grind [y8.qL]) K) ?_;rintro e w2 ⟨z,mb,rfl,Jk,S⟩;have B:=z.ext _ _ L;have p:dJ (fun _=>True) w2 (pp o) x:=dJ.mono zg (by grind [bB.ext]) _ _ N;refine bH ?_;refine a1r (aLG zo B p) ?_;rintro e w3 ⟨T,wb,fb,ρ,todo,rfl,rW,q,C⟩;have U:=T.ext _ _ B;have s2:=z.size;have r:=(C (fun _=>True) (fun _ _=>trivial)).cell;have lw:=bg r;refine bH ?_;obtain⟨d,W⟩:=cg (bQ (w3.alloc (ae #[aq V] 122)) w3.heap.size (ae #[pp wb] 122));have X:bQ (w3.alloc (ae #[aq V] 122)) w3.heap.size (ae (po #[aq V] 0 (Value.pointer (O ⟨wb,0,V⟩)).cells.toList) 122 (0,0))=d:=by rw[W];rfl
  rw[X];have E:Ext w3 d:=yF;have g4:d.heap[w3.heap.size]?=aO #[pp wb] 122:=yH;have t:=E.ext _ _ U;have s4:=E.size;refine⟨fun w'=>w'.heap[w3.heap.size]?=d.heap[w3.heap.size]?/\w'.heap[b]?=d.heap[b]?,yH,?_⟩;refine cQ (pp wb) (fun w' f=>by rw[g4] at f;have g:=f.1;have:=bg g;exact fh g) (cQ (pp wb) (fun w' f=>by rw[g4] at f;have g:=f.1;have:=bg g;exact fh g) ?_);rw[jx];refine cQ (pq wb 1) (fun w' f=>eT) ?_;rw[jx];refine cQ (pq b 3) (fun w' f=>eT) (cQ (.slice l vs.length m) (fun w' f=>by rw[t] at f;have g:=f.2;have:=bg g;exact fh g) ?_);refine aMT zk ?_;rw[Wx];refine⟨yH,?_⟩;refine bH ?_;obtain⟨h,nE⟩:=cg (d.drew.alloc (ae #[aj 122 (pp wb),pq wb 1,.func (.func 40) #[] #[pp w3.heap.size],.slice l vs.length m,ai] 121));have tY:Ext d h:=yF;have g5:h.heap[d.heap.size]?=aO #[aj 122 (pp wb),pq wb 1,.func (.func 40) #[] #[pp w3.heap.size],.slice l vs.length m,ai] 121:=yH;have BN:Ext w3 h:=yF;have N4:Ext w1 h:=yF;have BP:eX vs.length M x:=eX.QX n (P.YU hr).2;rw[<- nE];refine i _ _ ⟨yF,d.heap.size,J,wkX base M vs.length wb mb w3.heap.size (cS fb vs.length vs.length),(by grind [aMt,wkD]),?_,zo,P.aMU BP,ρ,fun D hD=>?_⟩
  .show d.heap.size≠wb;omega
  .have u:fJ (fun _=>True) h 9 (.slice l vs.length m) (vs.map fun s=>aT s):=Q.mono zg (by grind [bB.ext]);refine⟨⟨_,g5,u⟩,fun _=>⟨⟨_,_,_,_,(C D (fun b hb=>hD b zo)).ext BN⟩,(by grind [eO.ed,BM.bJ,bB.trans,bB.ext]),q.mono zg yH,a1s _,yH⟩⟩
def apS(k:Int)(w:Z)(c:CJ w):Calls bbD 23 #[aj 27 (zi k)] w fun e w'=>Ext w w'/\e = ah (ak #[zi k,zi (-1)]):=by
 refine abx ?_;refine bH ?_;obtain⟨a,i⟩:=cg ((w.alloc (ae #[aq V] 73)).alloc (ae #[zi 0] 27));have d:Ext w a:=yF;have q0:a.heap[w.heap.size]?=aO #[aq V] 73:=yH;have q1:a.heap[w.heap.size+1]?=aO #[zi 0] 27:=yH;rw[size_alloc,<- i];refine(aMP k ⟨w.heap.size,0,V⟩ _ a (c.ext d) (by simp [World.cell?,q0];rfl) (jJ q0 0)).mono ?_;rintro e w3 ⟨rfl,j⟩;have f:Ext a w3:=yF;have b:=f.ext _ _ q1;clear j;refine bH ?_;refine(aMK k ⟨w.heap.size+1,0,V⟩ _ w3 ((c.ext d).ext f) (by simp [World.cell?,b];rfl) (jJ b 0)).mono ?_;rintro e g ⟨rfl,h⟩;obtain⟨l,m⟩:=cg ((((w3.alloc (ae #[pp (w.heap.size+1)] 78)).alloc (ae #[pq 12 78,pp w3.heap.size,.int .u64 150] 158)).alloc (ae #[pq 12 78,pp w3.heap.size,.int .u64 150] 158)).alloc (ae #[zi k] 27));rw[<- m] at h;have n:Ext w3 l:=yF;have o:=n.ext _ _ b;rw[vg o] at h;have p:Ext w g:=by
  exact yF
 have q4:g.heap[w.heap.size+1]?=aO #[zi k] 27:=by
  exact yH
 refine cJ @q4 ?_;exact yF
def aM1{X:Ez E}(L:Jh X){q i:Qs E}{j:Bs×Nat}(s:EA X D ρ qb vars w q)(hD:∀ b,w.heap.size<=b->D b)(m:¬ D 4)(t:¬ D 0)
  (u:lZ w) (x:CJ w) (y:qb≠X.eb) (n:qb≠4) (z:qb≠0) (B:q.1=V->X.Good c q.2) (C:c<=700) (F:∀ nm∈vars,nm≠[]/\nm.length<=3000) (H:vars.length<=12) (hlen:∀ k l,E.told k = .ok l->l.length=vars.length)
  (hr:AK E vars d f q=O (j,i)) :
  Calls bbD 16 #[pp qb] w fun e w'=>Lv D qb w w'/\e = ah (ak #[aT j.1,zi (j.2:Nat)])/\∃ eM,EA X D eM qb vars w' i:=by
 refine aLN ?_;refine(aLY L s hD m u y n B C F H hlen hr).mono ?_;rintro e w1 ⟨I,rfl,a,g,eM,r⟩;have K:CJ w1:=MI x fun o M=>I.block _ o M (by
  rintro (⟨h,_⟩| h)<;>grind)
 have N:∀ {w2:Z},Ext w1 w2->Lv D qb w w2:=yF;obtain⟨err,st⟩:=i;simp only at a g;cases err with
 | none=>
  have a:=a J;simp only[FK];refine bH ?_;refine(adq w1).mono ?_;rintro e w2 ⟨p,rfl⟩;refine bH ?_;rw[a];exact⟨yF,J,eM,r.ext L p⟩
 | some k=>
  have g:=g k J;simp only[FK];refine bH ?_;refine(apS k w1 K).mono ?_;rintro e w2 ⟨p,rfl⟩;refine bH ?_;rw[g];exact⟨yF,J,eM,r.ext L p⟩
open Go.Proofs.YtoegidfbnkaabaaGreatDoor.Sx
section
variable{p0 p1 p2 p3 p4 p5 p6 p7:Y}{w:Z}{R:Ending->Z->Prop}
def aM2:=cz w R [p0] (gd [] [] [] [(1,[17,0,1,2,3,4,5,6,7,8,9,10,11,12,13,14,15,16,17])] [] [] []) func35
def aM3:=cz w R [p0] (gd [(3,[2,23])] [] [(2,14)] [] [] [] [24]) func36
def afK:=cz w R [p0,p1] (gc [] [(3001,[])] [6,11,12,13]) func75
def aM4:=cz w R [p0,p1,p2] (gd [] [] [(1,17)] [] [] [] []) func211
def aM5:=cz w R [p0] (gd [] [] [(5,7),(10,18)] [(7,[16,0,1,2,3,4,5,6,7,8,9,10,11,12,13,14,15])] [] [] [2,12,31]) func206
def aM6:=cz w R [p0,p1,p2,p3,p4,p5] (gd [] [(2001,[])] [] [(2,[20,0,1,2,3,4,5,6,7,9,10,11,12,13,8,14,15,16,17,18,19]),(3,[22,0,1,2,3,4,5,6,7,8,9,10,11,12,14,15,16,13,17,18,19,20,21])] [] [] [23]) func209
def aM7:=cz w R [p0,p1] (gd [(6,[32]),(19,[99])] [(16000,[92]),(17001,[])] [(16,23),(21,16)] [] [] [] [4,18,33,68,91,92,100]) func212
def aM8:=cz w R [p0,p1] (gd [(3,[5,14])] [(9001,[])] [(12,16)] [(7,[0,0,1,2,3,4,5,6,7,8,9,10,11,12,13,14,15])] [] [] [4,15,48,52]) func215
def QZ:=cz w R [p0,p1] (gd [(14,[88]),(24,[8,128])] [(36001,[]),(46001,[])] [(6,12),(28,8),(37,15)] [(8,[11,0,1,2,3,4,6,7,8,9,5,10,11]),(10,[10,0,1,2,3,4,6,7,5,8,9,10]),(16,[15,0,1,2,3,4,5,6,7,8,9,10,11,12,13,14]),(30,[17,0,1,2,3,4,5,6,7,8,9,10,11,12,13,14,15,16]),(32,[15,0,1,2,3,4,5,6,7,8,9,10,11,12,13,14]),(39,[25,0,1,2,3,4,5,6,7,9,10,11,12,13,14,15,16,17,18,8,19,20,21,22,23,24]),(47,[19,2,3,4,5,6,7,8,9,10,11,12,13,14,15,0,16,17,1,18,19,20,21])] [] [] [4,11,23,24,35,36,49,50,61,62,63,73,74,75,89,116,117,120,121,122,129,147,148,149,166,167,182,183,196,197,198,215,216,241,242,252,253,256,257,258,266]) func207
def aM9:=cz w R [p0] (gd [] [(1000,[13]),(2001,[]),(5001,[]),(9000,[86]),(12000,[96])] [(4,16),(6,16),(9,25)] [] [] [] [2,11,12,13,33,61,85,86,90,94,95,96]) func205
end
def zx(ρ:Nat->Nat)(n:Nat)(w:Z)(v:Y):Sl->Prop
 | .nil=>v = ai
 | .term t=>dK ρ n w v t
 | .level k=>v = aj 201 (.int .i64 (k:Nat))
theorem zx.bJ{ρ eM:Nat->Nat}{n a:Nat}{w w':Z}(hk:eO w w')(hu:eu ρ n eM a){v:Y}:∀ {y:Sl},zx ρ n w v y->zx eM a w' v y
 | .nil,h=>h
 | .term _,h=>dK.Qr hk hu h
 | .level _,h=>h
def yn(v:Y):Option Tm->Prop
 | none=>v = ai
 | some (.atom s)=>v = aj 171 (.string (bs s))
 | some (.int k)=>v = aj 172 (.int .i64 k)
 | some _=>False
theorem yn.dZ{ρ:Nat->Nat}{n:Nat}{w:Z}{v:Y}:∀ {t:Tm},yn v (O t)->dK ρ n w v t
 | .atom s,h=>by unfold dK dI;exact h
 | .int k,h=>by unfold dK dI;exact h
 | .var _,h=>h.elim
 | .comp _ _,h=>h.elim
abbrev uS(l:List Nat):List Y:=l.map fun k=>zi ((k:Nat):Int)
structure Q0(w:Z)(cur:Array Y)(o:Nat)(i:P.In):Prop where
 word:cur[o]?=O (aT i.word)
 name:cur[o+1]?=O (aT i.name)
 con:∃ cv,cur[o+2]?=O cv/\yn cv i.const
 s:∃ sv,cur[o+3]?=O sv/\fJ (fun _=>True) w 3 sv (uS i.s)
theorem Q0.bJ(hk:eO w w'){i:P.In}(h:Q0 w iB o i):Q0 w' iB o i:=by
 obtain⟨a,b,c,sv,d,e⟩:=h;exact⟨a,b,c,sv,d,e.iX hk (yM)⟩
def FO(w:Z)(cb:Nat)(c:Co):Prop:=∃ insv,w.heap[cb]?=aO #[zi (c.slots:Nat),insv] 196 /\
 ((c.ins=[]/\insv = bW)\/∃ g cap cur,insv = cS g c.ins.length cap/\c.ins.length<=cap/\w.heap[g]?=aO cur 198/\cur.size=cap*4/\∀ (j:Nat) (i:P.In),c.ins[j]?=O i->Q0 w cur (j*4) i)
theorem FO.bJ{w w':Z}(hk:eO w w'){cb:Nat}{c:Co}(h:FO w cb c):FO w' cb c:=by
 obtain⟨insv,b,a⟩:=h;refine⟨insv,hk _ _ _ (yM) b,?_⟩;rcases a with a | ⟨g,cap,cur,a,d,e,f,i⟩
 .exact yH
 .exact .inr ⟨g,cap,cur,a,d,hk _ _ _ (yM) e,f,(by grind [Q0.bJ])⟩
def BQ(w:Z)(vs:List Y)(cs:List Co):Prop:=vs.length=cs.length/\∀ (j:Nat) (c:Co),cs[j]?=O c->∃ cb,vs[j]?=O (pp cb)/\FO w cb c
theorem BQ.bJ{w w':Z}(hk:eO w w'){vs:List Y}{cs:List Co}(h:BQ w vs cs):BQ w' vs cs:=
 ⟨h.1,fun j c a=>let ⟨cb,b,d⟩:=h.2 j c a;(by grind [FO.bJ])⟩
def BQ.tail{c:Co}{cs:List Co}(h:BQ w (v::vs) (c::cs)):BQ w vs cs:=
 ⟨by have:=h.1;grind,fun j x a=>by simpa using h.2 (j+1) x zg⟩
def UC(w:Z)(pb:Nat)(dG:List Pd):Prop:=∃ l,w.heap[pb]?=O (eJ l)/\∀ (name:Bs) (n:Nat),n<80->match fL (P.keyOf name n) l 0 with
 | none=>dG.find? (fun p=>p.name == name && p.arity == n)=V
 | some (_,v)=>∃ p,dG.find? (fun p=>p.name == name && p.arity == n)=O p/\∃ b cap row vs,v = .slice (O ⟨b,0,V⟩) p.clauses.length cap/\p.clauses.length<=cap/\w.heap[b]?=O (ae row 185 (0,0)) /\
  row.toList.take p.clauses.length=vs/\BQ w vs p.clauses
theorem UC.bJ{w w':Z}(hk:eO w w'){pb:Nat}(hm:∀ l,w.heap[pb]?=O (eJ l)->w'.heap[pb]?=O (eJ l)){dG:List Pd}(h:UC w pb dG):UC w' pb dG:=by
 obtain⟨l,d,a⟩:=h;refine⟨l,yH,fun name n c=>?_⟩;have:=a name n c;split at this
 .omega
 .obtain⟨p,g1,b,cap,row,vs,g2,g3,g4,g5,g6⟩:=this;exact⟨p,g1,b,cap,row,vs,g2,g3,hk _ _ _ (yM) g4,g5,g6.bJ hk⟩
def qi(w w':Z):Prop:=eO w w'/\∀ (b:Nat) (cs:Array Y),w.heap[b]?=aO cs 20->w'.heap[b]?=aO cs 20
theorem qi.ed{w w':Z}(h:Ext w w'):qi w w':=⟨eO.ed h,(by grind [bB.ext])⟩
theorem qi.trans{a b c:Z}(h:qi a b)(k:qi b c):qi a c:=⟨h.1.trans k.1,fun x cs hx=>k.2 x cs (h.2 x cs hx)⟩
def C9(ρ:Nat->Nat)(n:Nat)(w:Z)(row:Array Y)(l:List Sl):Prop:=∀ (j:Nat) (y:Sl),l[j]?=O y->∃ v,row[j]?=O v/\zx ρ n w v y
theorem C9.bJ{ρ eM:Nat->Nat}{n a:Nat}{w w':Z}(hk:eO w w')(hu:eu ρ n eM a){row:Array Y}{l:List Sl}(h:C9 ρ n w row l):C9 eM a w' row l:=
 fun j y b=>let ⟨v,c,d⟩:=h j y b;(by grind [zx.bJ])
def BR(φ:Nat->Nat):Option Nat->Y
 | none=>aq V
 | some b=>aq (O ⟨φ b,0,V⟩)
structure UD(ρ:Nat->Nat)(n:Nat)(φ ψ:Nat->Nat)(fk:Nat)(w:Z)(i:Nat)(x:Fm):Prop where
 cell:∃ cb,w.heap[φ i]?=aO #[pp cb,cS (ψ i) x.slots.length x.slots.length,zi (x.entry:Nat),BR φ x.back,zi (x.pc:Nat)] 203/\FO w cb x.code/\(x.ask=A->cb=fk)
 ask:x.ask=A↔x.back=V
 row:∃ row,w.heap[ψ i]?=aO row 20/\row.size=x.slots.length/\C9 ρ n w row x.slots
structure yo(φ ψ:Nat->Nat)(nf:Nat)(uT se:Nat->Nat)(FP:Nat):Prop where
 le:nf<=FP
 ph:∀ i,i<nf->uT i=φ i
 ps:∀ i,i<nf->se i=ψ i
theorem yo.refl(φ ψ:Nat->Nat)(n:Nat):yo φ ψ n φ ψ n:=⟨a1s _,zg,zg⟩
theorem UD.bJ{ρ eM:Nat->Nat}{n c:Nat}{φ ψ uT se:Nat->Nat}{nf FP fk:Nat}{w w':Z}(hk:eO w w')(hu:eu ρ n eM c)(a:yo φ ψ nf uT se FP){i:Nat}{x:Fm}(hi:i<nf)(d:∀ b,x.back=O b->b<nf)
  (hr:∀ cs:Array Y,w.heap[ψ i]?=aO cs 20->w'.heap[ψ i]?=aO cs 20) (h:UD ρ n φ ψ fk w i x):UD eM c uT se fk w' i x:=by
 obtain⟨⟨cb,e,f,g⟩,j,row,k,l,m⟩:=h;refine⟨⟨cb,?_,f.bJ hk,g⟩,j,row,?_,l,m.bJ hk hu⟩
 .have o:BR uT x.back=BR φ x.back:=by
   cases hx:x.back with
   | none=>rfl
   | some b=>unfold BR;simp only;rw[a.ph b (d b hx)]
  rw[a.ph i hi,a.ps i hi,o];exact hk _ _ _ (yM) e
 .rw[a.ps i hi];exact hr _ k
def yp(D:Nat->Prop)(ρ:Nat->Nat)(n:Nat)(ψ:Nat->Nat)(nf:Nat)(w:Z)(v:Y)(l:List Sl):Prop:=
 (l=[]/\v = bW)\/∃ b cap row,v = cS b l.length cap/\l.length<=cap/\w.heap[b]?=aO row 20/\row.size=cap/\C9 ρ n w row l/\(∀ i,i<nf->ψ i≠b)/\D b
def UE(ψ:Nat->Nat)(nf:Nat)(w w':Z):Prop:=∀ (b:Nat) (cs:Array Y),(∀ i,i<nf->ψ i≠b)->w.heap[b]?=aO cs 20->w'.heap[b]?=aO cs 20
def qi.toR(h:qi w w'):UE ud pb w w':=fun b cs _ a=>h.2 b cs a
theorem yp.bJ{D:Nat->Prop}{ρ eM:Nat->Nat}{n c:Nat}{φ ψ uT se:Nat->Nat}{nf FP:Nat}{w w':Z}(hk:eO w w')(hr:UE ψ nf w w')(hu:eu ρ n eM c)(e:yo φ ψ nf uT se FP)(p:∀ i,nf<=i->i<FP->w.heap.size<=se i){v:Y}{l:List Sl}(h:yp D ρ n ψ nf w v l):yp D eM c se FP w' v l:=by
 rcases h with h | ⟨b,cap,row,f,g,j,k,m,d,o⟩
 .exact .inl h
 .refine .inr ⟨b,cap,row,f,g,hr _ _ d j,k,m.bJ hk hu,fun i hi=>?_,o⟩;rcases Nat.lt_or_ge i nf with a | a
  .rw[e.ps i a];exact d i a
  grind
def nF(D:Nat->Prop)(ρ:Nat->Nat)(n:Nat)(φ ψ:Nat->Nat)(nf:Nat)(w:Z):List Y->List Ga->Prop
 | vs,[]=>vs=[]
 | vs,a::r=>∃ b av fV rest,vs=[.int .i64 (a.mark:Nat),aq (O ⟨φ a.f,0,V⟩),.int .i64 (a.pc:Nat),b,av]++rest/\a.f<nf/\oK w 185 b fV/\BQ w fV a.others/\yp D ρ n ψ nf w av a.args/\nF D ρ n φ ψ nf w rest r
theorem nF.bJ{D:Nat->Prop}{ρ eM:Nat->Nat}{n d:Nat}{φ ψ uT se:Nat->Nat}{nf FP:Nat}{w w':Z}(hk:eO w w')(hr:UE ψ nf w w')(hu:eu ρ n eM d)(c:yo φ ψ nf uT se FP)(g:∀ i,nf<=i->i<FP->w.heap.size<=se i):∀ {l:List Ga} {vs:List Y},nF D ρ n φ ψ nf w vs l->nF D eM d uT se FP w' vs l
 | [],vs,h=>h
 | a::r,vs,⟨j,av,fV,rest,k,e,m,o,s,p⟩=>⟨j,av,fV,rest,by rw[c.ph a.f e];exact k,Nat.lt_of_lt_of_le e c.le,m.bJ fun b cs q=>hk b cs _ (yM) q,o.bJ hk,(by grind [yp.bJ]),nF.bJ hk hr hu c g p⟩
def nF.len{D:Nat->Prop}{ρ:Nat->Nat}{n:Nat}{φ ψ:Nat->Nat}{nf:Nat}{w:Z}:∀ {l:List Ga} {vs:List Y},nF D ρ n φ ψ nf w vs l->vs.length=l.length*5
 | [],vs,h=>by have h:vs=[]:=h;grind
 | a::r,vs,⟨d,av,fV,rest,b,_,_,_,_,c⟩=>by
  rw[b,List.length_append,nF.len c];grind
def nF.snoc{D:Nat->Prop}{ρ:Nat->Nat}{n:Nat}{φ ψ:Nat->Nat}{nf:Nat}{w:Z}{a:Ga}{l0:List Y}:∀ {l:List Ga} {vs:List Y},nF D ρ n φ ψ nf w vs l->nF D ρ n φ ψ nf w l0 [a]->nF D ρ n φ ψ nf w (vs++l0) (l++[a])
 | [],vs,h,b=>by have h:vs=[]:=h;grind
 | x::l,vs,⟨c,av,fV,rest,j,d,e,f,g,i⟩,b=>⟨c,av,fV,rest++l0,zg,d,e,f,g,nF.snoc i b⟩
theorem nF.take{D:Nat->Prop}{ρ:Nat->Nat}{n:Nat}{φ ψ:Nat->Nat}{nf:Nat}{w:Z}:∀ {l:List Ga} {vs:List Y} (m:Nat),nF D ρ n φ ψ nf w vs l->nF D ρ n φ ψ nf w (vs.take (m*5)) (l.take m)
 | l,vs,0,h=>by simp;rfl
 | [],vs,m+1,h=>by have h:vs=[]:=h;grind
 | a::l,vs,m+1,⟨b,av,fV,rest,i,c,d,e,f,g⟩=>by
  refine⟨b,av,fV,rest.take (m*5),?_,c,d,e,f,nF.take m g⟩;grind
theorem nF.at{D:Nat->Prop}{ρ:Nat->Nat}{n:Nat}{φ ψ:Nat->Nat}{nf:Nat}{w:Z}:∀ {l:List Ga} {vs:List Y} (m:Nat) (hm:m<l.length),nF D ρ n φ ψ nf w vs l->∃ b av fV,(vs.drop (m*5)).take 5=[zi ((l[m]).mark:Nat),pp (φ (l[m]).f),zi ((l[m]).pc:Nat),b,av]/\(l[m]).f<nf /\
   oK w 185 b fV/\BQ w fV (l[m]).others/\yp D ρ n ψ nf w av (l[m]).args
 | a::l,vs,0,_,⟨b,av,fV,rest,d,e,g,h,i,c⟩=>zg
 | a::l,vs,m+1,hm,⟨b,av,fV,rest,d,e,g,h,i,c⟩=>by
  obtain⟨j,av',k,g1,g2⟩:=nF.at m zg c;grind
abbrev Ho(cb:Nat)(a b av:Y):Array Y:=#[pp cb,.slice V 0 0,zi 0,a,b,av]
def Da:vF 1 116 (Ho cb tv vv av):=⟨zs,.inr J⟩
structure AX where
 φ:Nat->Nat
 ψ:Nat->Nat
 vb:Nat
 cb:Nat
 fk:Nat
structure gi(D:Nat->Prop)(ρ:Nat->Nat)(e:AX)(av tv:Y)(di:List Y)(w:Z)(m:Vm):Prop where
 st:gO D ρ m.n e.vb 1 116 (Ho e.cb (pp (e.φ m.f)) (zi (m.pc:Nat)) av) tv w m.sr
 fl:m.f<m.fs.length
 fs:∀ (i:Nat) (x:Fm),m.fs[i]?=O x->UD ρ m.n e.φ e.ψ e.fk w i x
 bk:∀ (i:Nat) (x:Fm) (b:Nat),m.fs[i]?=O x->x.back=O b->b<m.fs.length
 dp:∀ i,i<m.fs.length->D (e.ψ i)
 inj:∀ i j,i<m.fs.length->j<m.fs.length->e.ψ i=e.ψ j->i=j
 ar:w.ownsRow 0 342 5 av m.bw.length di
 ag:nF D ρ m.n e.φ e.ψ m.fs.length w di m.bw
 da:∀ g,av.ownBlock=O g->D g
def Q1(U:Nat)(w w':Z):Prop:=∀ (b:Nat) (cs:Array Y) (T:Nat),T≠U->w.heap[b]?=aO cs T->w'.heap[b]?=aO cs T
theorem afM{U:Nat}(h:Q1 U w w'){size:Nat}(a:w.ownsRow base e size v n xs)(c:e≠U):w'.ownsRow base e size v n xs:=by
 refine⟨a.1,?_⟩;rcases a.2 with i | ⟨b,cap,cur,rfl,d,f,g⟩
 .exact yH
 .exact .inr ⟨b,cap,cur,J,d,h _ _ _ c f,g⟩
def gO.afN{T U:Nat}{s:Sr}(h:gO D ρ n pb so T cs tv w s)(hk:Q1 U w w')
  (a:180≠U/\89≠U/\91≠U/\87≠U/\T≠U):gO D ρ n pb so T cs tv w' s:=
 ⟨h.sv.bJ fun b c t ht d=>hk b c t zo d,h.dv,hk _ _ _ a.2.2.2.2 h.cell,afM hk h.row a.2.2.2.1,h.dr,h.ds,h.nd,h.lt,h.ok⟩
def gO.Hr{sb T:Nat}{cs':Array Y}{s:Sr}(h:gO D ρ n sb so T cs tv w s)(d:vF so T cs)(hk:∀ b o,b≠sb->w.heap[b]?=O o->w'.heap[b]?=O o)
  (g:w'.heap[sb]?=aO (kr (cs'.setIfInBounds so tv) so f) T):gO D ρ n sb so T cs' tv w' { s with fuel:=f }:=by
 have i:T≠87/\T≠91/\T≠180/\T≠89:=by rcases d.ty with h | h<;>subst h<;>decide
 have j:∀ {b:Nat} {c:Array Y} {t:Nat},w.heap[b]?=aO c t->t≠T->b≠sb:=fun a ht e=>by
  rw[e,h.cell] at a;grind
 refine⟨h.sv.bJ fun b c t ht a=>yH,h.dv,g,⟨h.row.1,?_⟩,h.dr,h.ds,h.nd,h.lt,h.ok⟩;rcases h.row.2 with k | ⟨b,cap,cur,rfl,l,m,p⟩<;>grind
def Dn(D:Nat->Prop)(av:Y)(w:Z)(b:Nat):Prop:=D b/\av.ownBlock≠O b/\∀ cs,w.heap[b]?≠(aO cs 20)
section
variable{D:Nat->Prop}{ρ:Nat->Nat}{e:AX}{av tv:Y}{di:List Y}{w w':Z}{m:Vm}
theorem gi.cell(h:gi D ρ e av tv di w m):w.heap[e.vb]?=aO #[pp e.cb,tv,zi (m.sr.fuel:Nat),pp (e.φ m.f),zi (m.pc:Nat),av] 116:=h.st.cell
theorem gi.Ep(h:gi D ρ e av tv di w m)(a:av.ownBlock=O g):∃ cs,w.heap[g]?=aO cs 342:=by
 rcases h.ar.2 with⟨rfl,-⟩| ⟨b,cap,cur,rfl,-,c,-⟩
 .cases a
 grind [a2f,a1o]
theorem gi.YV(h:gi D ρ e av tv di w m){c:Array Y}{U:Nat}(a:w.heap[g]?=aO c U)(b:U≠342):av.ownBlock≠O g:=(by grind [Ep])
def gi.rest(h:gi D ρ e av tv di w m){f' pc':Nat}{s':Sr}(hk:qi w w')(hu:eu ρ m.n ud pb)(ll:w'.ownsRow 0 342 5 av m.bw.length di)
  (a:gO D ud pb e.vb 1 116 (Ho e.cb (pp (e.φ f')) (zi (pc':Nat)) av) vv w' s') (c:f'<m.fs.length):gi D ud e av vv di w' ⟨pb,s',m.fs,f',pc',m.bw⟩:=
 ⟨a,c,fun i x hx=>(h.fs i x hx).bJ hk.1 hu (yo.refl _ _ _) (i:=i) (x:=x) zg (fun b d=>h.bk i x b hx d) (hk.2 _),h.bk,h.dp,h.inj,ll,
  h.ag.bJ hk.1 hk.toR hu (yo.refl _ _ _) yH,h.da⟩
theorem gi.ext(h:gi D ρ e av tv di w m)(a:Ext w w'):gi D ρ e av tv di w' m:=
 h.rest (qi.ed a) (eu.refl _ _) (jL a.ext h.ar) (h.st.ext a) h.fl
def gi.less(h:gi D ρ e av tv di w m):gO (Dn D av w) ρ m.n e.vb 1 116 (Ho e.cb (pp (e.φ m.f)) (zi (m.pc:Nat)) av) tv w m.sr:=by
 have a:∀ {b:Nat} {c:Array Y} {U:Nat},D b->w.heap[b]?=aO c U->U≠342->U≠20->Dn D av w b:=fun k l o j=>⟨k,h.YV l o,yH⟩;refine⟨h.st.sv,fun i hi=>?_,h.st.cell,h.st.row,fun g d=>?_,a h.st.ds h.cell zo zo,h.st.nd,h.st.lt,h.st.ok⟩
 .obtain⟨ref,j,-⟩:=h.st.sv.var i hi;exact a (h.st.dv i hi) j zo zo
 .rcases h.st.row.2 with⟨rfl,-⟩| ⟨q,cap,cur,rfl,-,p,-⟩
  .cases d
  .simp only[a2f,a1o] at d;subst d;exact a (h.st.dr _ J) p zo zo
theorem gi.dn(h:gi D ρ e av tv di w m)(hD:∀ b,w.heap.size<=b->D b):∀ b,w.heap.size<=b->Dn D av w b:=fun b a=>⟨hD b a,(by grind [bg,Ep]),yH⟩
def Dn.apT(a:dc (Dn D av w) w w1):qi w w1:=⟨a.toI,fun b cs c=>a.block _ _ c fun hm=>hm.1.2.2 cs c⟩
def gi.store(h:gi D ρ e av tv di w m){s':Sr}(c:gO (Dn D av w) ρ m.n e.vb 1 116 (Ho e.cb (pp (e.φ m.f)) (zi (m.pc:Nat)) av) vv w' s')(a:dc (Dn D av w) w w') :
  gi D ρ e av vv di w' { m with sr:=s' }/\dc D w w':=by
 refine⟨h.rest (Dn.apT a) (eu.refl _ _) ⟨h.ar.1,?_⟩ (c.up fun _ h=>h.1) h.fl,a.up fun _ h=>h.1⟩;rcases h.ar.2 with j | ⟨b,cap,cur,rfl,d,g,i⟩
 .exact yH
 .exact .inr ⟨b,cap,cur,J,d,a.block _ _ g (fun hm=>hm.1.2.1 J),i⟩
def gi.fresh(h:gi D ρ e av tv di w m)(hD:∀ b,w.heap.size<=b->D b)(f:Ext w w')(hv:w'.heap[w.heap.size]?=aO #[ai] 91) :
  ∃ eM,eu ρ m.n eM (m.n+1)/\eM m.n=w.heap.size/\gi D eM e av tv di w' { m with n:=m.n+1 }:=by
 obtain⟨eM,s⟩:∃ eM:Nat->Nat,eM=fun i=>if i<m.n then ρ i else w.heap.size:=⟨_,J⟩
 have hu:eu ρ m.n eM (m.n+1):=⟨zo,zg⟩;have o:eM m.n=w.heap.size:=yH;have hold:∀ i,i<m.n->ρ i<w.heap.size:=fun i hi=>by
  obtain⟨r,a,-⟩:=h.st.sv.var i hi;exact yH
 have g:=h.st.ext f;have d:∀ i,i<m.n+1->i<m.n\/i=m.n:=zg;refine⟨eM,hu,o,h.rest (qi.ed f) hu (jL f.ext h.ar) ?_ h.fl⟩;refine⟨⟨fun i j hi q he=>?_,fun i hi=>?_⟩,fun i hi=>?_,g.cell,?_,h.st.dr,h.st.ds,h.st.nd,fun p c=>Nat.lt_of_lt_of_le (h.st.lt p c) hu.1,h.st.ok⟩
 .rcases d i hi with a | rfl<;>rcases d j q with k | rfl
  .rw[hu.2 i a,hu.2 j k] at he;exact h.st.sv.inj i j a k he
  .grind
  .grind
  .rfl
 .rcases d i hi with a | rfl
  .obtain⟨r,g1,g2⟩:=g.sv.var i a;refine⟨r,yH,?_⟩;cases l:P.look i m.sr.tr with
   | none=>grind
   | some t=>rw[l] at g2;exact dI.mono zg hu.1 hu.2 (fun _ _ _ _ _ h=>h) t r g2
  .have l:P.look m.n m.sr.tr=none:=P.Qg fun hm=>by
    obtain⟨p,c,u⟩:=List.mem_map.1 hm;have:=h.st.lt p c;omega
   exact yH
 .rcases d i hi with a | rfl
  .rw[hu.2 i a];exact h.st.dv i a
  grind
 .have e:rz eM m.sr.tr=rz ρ m.sr.tr:=by
   unfold rz;refine List.map_congr_left fun p c=>?_;rw[hu.2 p.1 (h.st.lt p (List.mem_reverse.1 c))]
  rw[e];exact g.row
def gi.own(h:gi D ρ e av tv di w m)(i:bB (fun b _=>b=e.vb) w w'){f' pc':Nat}(j:w'.heap[e.vb]?=aO #[pp e.cb,tv,zi (m.sr.fuel:Nat),pp (e.φ f'),zi (pc':Nat),av] 116)
  (k:f'<m.fs.length):gi D ρ e av tv di w' { m with f:=f',pc:=pc' }/\dc D w w':=by
 have a:∀ b o,b≠e.vb->w.heap[b]?=O o->w'.heap[b]?=O o:=(by grind [bB.block]);have l:∀ {b:Nat} {c:Array Y} {t:Nat},w.heap[b]?=aO c t->t≠116->b≠e.vb:=fun a ht e=>by
  rw[e,h.cell] at a;grind
 have d:dc D w w':=bB.mono i fun b o g e=>by
  subst e;rw[h.cell] at g;exact⟨h.st.ds,_,_,_,(a1w g).symm,.inr (.inr (.inr (.inr (.inl J))))⟩
 refine⟨h.rest ⟨d.toI,yH⟩ (eu.refl _ _) ⟨h.ar.1,?_⟩ (h.st.Hr Da a j) k,d⟩;rcases h.ar.2 with n | ⟨b,cap,cur,rfl,p,q,r⟩<;>grind
def gi.Ll(h:gi D ρ e av tv di w m){av':Y}{avs':List Y}{l:List Ga}(hr:w1.ownsRow 0 342 5 av' l.length avs')
  (a:w.grownBy w1 av.ownBlock) (hv:av'.ownBlock=av.ownBlock\/∀ g,av'.ownBlock=O g->D g/\w.heap.size<=g) (s:nF D ρ m.n e.φ e.ψ m.fs.length w avs' l)
  (hw:w2=bQ w1 e.vb (ae #[pp e.cb,tv,zi (m.sr.fuel:Nat),pp (e.φ m.f),zi (m.pc:Nat),av'] 116)) :
  gi D ρ e av' tv avs' w2 { m with bw:=l }/\dc D w w2/\qi w w2/\w1.heap[e.vb]?=w.heap[e.vb]?:=by
 have t:=h.cell;have p:∀ (b:Nat) (c:Array Y) (U:Nat),U≠342->w.heap[b]?=aO c U->w1.heap[b]?=aO c U:=(by grind [bg,World.grownBy.block,YV]);have f1:dc D w w1:=⟨a.os,a.tape,a.output,a.size,fun b o j hm=>by
  rw[a.block b (bg j) (fun e=>?_)]
  .omega
  .obtain⟨cs,d⟩:=h.Ep e.symm;rw[j] at d;exact hm ⟨h.da b e.symm,_,_,_,a1w d,.inr zg⟩⟩
 have s1:gO D ρ m.n e.vb 1 116 (Ho e.cb (pp (e.φ m.f)) (zi (m.pc:Nat)) av) tv w1 m.sr:=h.st.afN (U:=342) p zo;obtain⟨d,u⟩:=s1.cells Da (cs':=Ho e.cb (pp (e.φ m.f)) (zi (m.pc:Nat)) av') (f:=m.sr.fuel);have he:bQ w1 e.vb (ae (kr ((Ho e.cb (pp (e.φ m.f)) (zi (m.pc:Nat)) av').setIfInBounds 1 tv) 1 (m.sr.fuel:Nat)) 116 (0,0))=w2:=zg;rw[he] at d u;have q:dc D w w2:=yF;have y:=p _ _ _ zd t;have k:qi w w2:=⟨q.toI,yH⟩;refine⟨⟨d,h.fl,fun i x hx=>(h.fs i x hx).bJ k.1 (eu.refl _ _) (yo.refl _ _ _) (i:=i) (x:=x) zg (fun b j=>h.bk i x b hx j) yH,h.bk,h.dp,h.inj,?_,s.bJ k.1 k.toR (eu.refl _ _) (yo.refl _ _ _) yH,fun g z=>?_⟩,q,k,yH⟩
 .rw[hw];refine I2 hr fun e=>?_;rcases hr.2 with⟨r,-⟩| ⟨B,cap,cur,r,-,C,-⟩
  .rw[r] at e;cases e
  grind [a2f,a1o]
 grind [da]
def gi.forget(h:gi D ρ e av tv di w m)(hm:k<=m.bw.length){a:Option Addr}(b:av = .slice a m.bw.length c)
  (hw:w1=bQ w e.vb (ae #[pp e.cb,tv,zi (m.sr.fuel:Nat),pp (e.φ m.f),zi (m.pc:Nat),.slice a k c] 116)) :
  gi D ρ e (.slice a k c) tv (di.take (k*5)) w1 { m with bw:=m.bw.take k }/\dc D w w1/\qi w w1:=by
 have n:=h.ag.len;have hr:w.ownsRow 0 342 5 (.slice a k c) k (di.take (k*5)):=by
  refine⟨zg,?_⟩;rcases h.ar.2 with⟨d,i⟩| ⟨g,cap,cur,d,i,o,p,q,r,s⟩<;>grind
 have j:w.grownBy w av.ownBlock:=⟨J,J,J,a1s _,yH⟩;obtain⟨t,u,x,-⟩:=h.Ll (l:=m.bw.take k) (av':=.slice a k c) (avs':=di.take (k*5)) zg j (.inl (by rw[b];cases a<;>rfl)) (h.ag.take k) hw;exact yF
theorem gi.cur(h:gi D ρ e av tv di w m):∃ x,m.fs[m.f]?=O x/\UD ρ m.n e.φ e.ψ e.fk w m.f x:=
 ⟨_,a1u h.fl,h.fs _ _ (a1u h.fl)⟩
def gi.apU(h:gi D ρ e av tv di w m){row:Array Y}(p:w.heap[e.ψ m.f]?=aO row 20){y:Sl}(B:zx ρ m.n w v y)
  (hw:w1=bQ w (e.ψ m.f) (ae (row.setIfInBounds k v) 20 (0,0))):gi D ρ e av tv di w1 (m.set k y)/\dc D w w1:=by
 have q:Q1 20 w w1:=fun b cs T M a=>by
  exact yH
 have d:dc D w w1:=⟨by rw[hw];rfl,by rw[hw];rfl,by rw[hw];rfl,yH,fun b o a hm=>by
  by_cases he:b=e.ψ m.f
  .subst he;rw[p] at a;exact absurd ⟨h.dp _ h.fl,_,_,_,(a1w a).symm,.inr (.inr (.inr (.inr (.inr (.inr J)))))⟩ hm
  exact yH⟩
 have C:UE e.ψ m.fs.length w w1:=fun b cs a hx=>by
  grind [jb,fl]
 have l:(m.set k y).fs.length=m.fs.length:=List.length_modify ..;have r:∀ (i:Nat) (x:Fm),(m.set k y).fs[i]?=O x->∃ x0,m.fs[i]?=O x0/\x=if m.f=i then{ x0 with slots:=x0.slots.set k y } else x0:=fun i x hx=>by
  have hx:(m.fs.modify m.f fun x=>{ x with slots:=x.slots.set k y })[i]?=O x:=hx;grind
 refine⟨⟨h.st.afN q zo,by rw[l];exact h.fl,fun i x hx=>?_,fun i x b hx a=>?_,(by grind [dp]),fun i j hi c=>h.inj i j zo zo,afM q h.ar zo,?_,h.da⟩,d⟩
 .obtain⟨x0,g,he⟩:=r i x hx;have hm:=h.fs i x0 g;have s:i<m.fs.length:=zg;by_cases hi:m.f=i
  .rw[zip hi] at he;subst hi;obtain⟨⟨cb,N,E,F⟩,H,I,t,P,K⟩:=hm;rw[p] at t;cases t;rw[he];refine⟨⟨cb,?_,E.bJ d.toI,F⟩,H,row.setIfInBounds k v,?_,?_,?_⟩
   .exact yH
   .exact yH
   .grind
   .intro j L c;simp only[List.getElem?_set] at c;by_cases z:k=j
    .subst z;rw[zip rfl] at c;split at c
     .rename_i hlt;cases c;exact⟨v,zg,B.bJ d.toI (eu.refl _ _)⟩
     grind
    .rw[bM z] at c;obtain⟨u,g1,g2⟩:=K j L c;exact⟨u,zg,g2.bJ d.toI (eu.refl _ _)⟩
  .rw[bM hi] at he;subst he;exact hm.bJ d.toI (eu.refl _ _) (yo.refl _ _ _) s (fun b a=>h.bk i _ b g a) fun cs Q=>by
    rw[hw,jb (fun e=>hi (h.inj _ _ h.fl s e.symm))];omega
 .obtain⟨x0,g,he⟩:=r i x hx;rw[l];refine h.bk i x0 b g ?_;grind
 .have:=h.ag.bJ d.toI C (eu.refl _ _) (yo.refl _ _ _) yH;rw[<- l] at this;exact this
end
def least_some{l:List String}(h:l≠[]):∃ m,Instr.least l=O m:=by
 cases l with
 | nil=>grind
 | cons a l=>exact⟨_,J⟩
def aNa{want:Array (String×TypeId)}{got:Array Method}(h:(want.toList.filter fun(name,sig)=>!got.any fun m=>m.name == name && m.sig == sig)≠[]):∃ m,Instr.missingMethod want got=O m:=by
 unfold Instr.missingMethod;obtain⟨l,b⟩:=cg ((want.toList.filter fun(name,sig)=>!got.any fun m=>m.name == name && m.sig == sig).map (·.1));rw[<- b];have c:l≠[]:=by rw[b];simpa using h
 have key:∀ (p:String->Bool)(g:String->String),∃ m,(match l.partition p with | (u,e)=>(Instr.least e <|> Instr.least (u.map g)))=O m:=by
  intro p g;rw[List.partition_eq_filter_filter];by_cases he:l.filter (not ∘ p)=[]
  .rw[he];have hu:l.filter p≠[]:=fun hu=>by
    obtain⟨a,r,rfl⟩:=List.exists_cons_of_ne_nil c;grind
   obtain⟨m,hm⟩:=least_some (l:=(l.filter p).map g) (by simpa using hu);exact ⟨m,hm⟩
  .obtain⟨m,hm⟩:=least_some he;exact ⟨m,by grind⟩
 exact key _ _
def P.vL:Sl->Except jE Tm
 | .term t=>.ok t
 | _=>.error (.fault 5)
theorem P.afO(m:Vm)(i:P.In)(k:Nat):m.at i k=P.vL (m.slot (i.s.getD k 0)):=by
 grind [Vm.at,P.vL]
def apV(P:Program)(u t:TypeId):Bool:=match P.underlying u with
 | some (.interface want)=>(match P.info? t with
  | some i=>!(want.toList.filter fun(name,sig)=>!i.methods.any fun m=>m.name == name && m.sig == sig).isEmpty
  | none=>G)
 | _=>G
def aNb:WD bbD 89 201=true:=by
 have h:apV bbD 89 201=true:=zk;unfold apV at h;unfold WD;split at h
 .rename_i want hu;split at h
  .rename_i i hi;rw[hu,hi];obtain⟨m,hm⟩:=aNa (want:=want) (got:=i.methods) zg;grind
  grind
 .cases h
abbrev TmP(ρ:Nat->Nat)(n:Nat)(w:Z)(r:Except jE Tm)(e:Ending):Prop:=match r with
 | .ok t=>∃ v,e = ah v/\dK ρ n w v t
 | .error t=>e=gP t
abbrev UF(v:Y)(r:Except jE Tm)(e:Ending):Prop:=match r with
 | .ok _=>e = ah v
 | .error t=>e=gP t
def apX{y:Sl}(p:Y)(h:zx ρ n w v y):Calls bbD 75 #[p,v] w fun e w'=>w'=w/\UF v (P.vL y) e:=by
 have c:∀ {T:Nat} {x:Y},(T=171\/T=172\/T=87\/T=175)->v = aj T x->(∃ t,y = .term t/\dK ρ n w v t)->Calls bbD 75 #[p,v] w fun e w'=>w'=w/\UF v (P.vL y) e:=by
  rintro T x b rfl ⟨t,rfl,ht⟩;have a:∀ {K:Y->Prop} {X:Y->Z->Prop},RD bbD (a1J (aj T x) 20 89 A) w K X=K (ak #[aj T x,.bool A]):=by
   rcases b with rfl | rfl | rfl | rfl<;>exact aw7 zk x
  refine afK ?_;rw[a];refine bH ?_;refine⟨fun _ w'=>w'=w,?_,?_⟩
  .exact eT
  .rintro s w' rfl d;exact⟨J,J⟩
 cases y with
 | nil=>
  have h:v = ai:=h;subst h;have a:∀ {K:Y->Prop} {X:Y->Z->Prop},RD bbD (a1J ai 20 89 A) w K X=K (ak #[ai,.bool G]):=aw9 zk zk;refine afK ?_;rw[a];refine bH ?_;refine⟨fun _ _=>False,?_,zg⟩;refine bH ?_;rfl
 | level k=>
  have h:v = aj 201 (zi (k:Nat)):=h;subst h;have a:∀ {K:Y->Prop} {X:Y->Z->Prop},RD bbD (a1J (aj 201 (zi (k:Nat))) 20 89 A) w K X=K (ak #[ai,.bool G]):=aw8 aNb zk _;refine afK ?_;rw[a];refine bH ?_;refine⟨fun _ _=>False,?_,zg⟩;refine bH ?_;rfl
 | term t=>
  have h:dK ρ n w v t:=h;have f:=h;cases t with
  | var i=>unfold dK dI at h;grind
  | atom s=>unfold dK dI at h;grind
  | int k=>unfold dK dI at h;grind
  | comp s l=>unfold dK dI at h;grind
def UF.toP{y:Sl}{e:Ending}(h:zx ρ n w v y)(hv:UF v (P.vL y) e):TmP ρ n w (P.vL y) e:=by
 cases y with
 | nil=>exact hv
 | level k=>exact hv
 | term t=>exact⟨v,hv,h⟩
structure A2(w:Z)(g o:Nat)(i:P.In):Prop where
 row:∃ cur,w.heap[g]?=aO cur 198/\o+4<=cur.size/\Q0 w cur o i
theorem A2.bJ{w w':Z}(hk:eO w w'){g o:Nat}{i:P.In}(h:A2 w g o i):A2 w' g o i:=by
 obtain⟨cur,a,b,c⟩:=h;exact⟨cur,hk _ _ _ (yM) a,b,c.bJ hk⟩
def Lz{l:List Nat}(a:fJ (fun _=>True) w 3 v (uS l))(c:j<l.length) :
  ∃ b cs,v = cS b l.length cs.size/\w.heap[b]?=aO cs 3/\cs[j]?=O (zi ((l[j]:Nat):Int))/\l.length<=cs.size:=by
 obtain⟨b,cs,f,-,d,g⟩:=a.at' (j:=j) (by simpa using c);refine⟨b,cs,zg,d,zg,?_⟩;rcases a with⟨e,-⟩| ⟨h,cs',e,-,i,k,-⟩<;>grind
section
variable{D:Nat->Prop}{ρ:Nat->Nat}{e:AX}{av tv:Y}{di:List Y}{w w':Z}{m:Vm}
def gi.Q2(h:gi D ρ e av tv di w m){x:Fm}(hx:m.fs[m.f]?=O x)(hk:k<x.slots.length):∃ row v,w.heap[e.ψ m.f]?=aO row 20/\row.size=x.slots.length/\row[k]?=O v/\zx ρ m.n w v (m.slot k):=by
 obtain⟨-,-,row,b,c,a⟩:=h.fs _ _ hx;have d:m.slot k=x.slots[k]:=by
  grind [Vm.slot,a1u]
 obtain⟨v,g1,g2⟩:=a k x.slots[k] zg;exact yH
def zx.one{n:Nat}{v:Y}:∀ {y:Sl},zx ρ n w v y->v = ai\/∃ t u,v = aj t u
 | .nil,h=>.inl h
 | .level _,h=>.inr ⟨_,_,h⟩
 | .term _,h=>.inr (by obtain⟨a,b,h⟩:=dI.iface h;grind)
def afP(h:gi D ρ e av tv di w m){x:Fm}(hx:m.fs[m.f]?=O x){i:P.In}(hi:A2 w g o i)(hk:k<i.s.length)(p:i.s[k]<x.slots.length)(K:k<=60) :
  Calls bbD 211 #[pp e.vb,pq g o,zi (k:Nat)] w fun c w'=>w'=w.drew/\∃ row v,w.heap[e.ψ m.f]?=aO row 20/\row[i.s[k]]?=O v /\
   zx ρ m.n w v (m.slot i.s[k])/\UF v (P.vL (m.slot i.s[k])) c:=by
 have q:=h.cell;obtain⟨⟨cb,r,-,-⟩,-,-⟩:=h.fs _ _ hx;obtain⟨row,v,hr,L,d,hv⟩:=h.Q2 hx p;obtain⟨cur,u,M,-,-,-,sv,y,z⟩:=hi;obtain⟨b,cs,rfl,B,C,N⟩:=Lz z hk;have E:Ext w w.drew:=yF;refine aM4 ?_;have F:(k:Int).toNat=k:=zo;have Q:(k:Int)<(i.s.length:Nat):=zo;have j:((i.s[k]:Nat):Int).toNat=i.s[k]:=zo;have H:((i.s[k]:Nat):Int)<(x.slots.length:Nat):=zo;have I:=hv.one;rcases I with rfl | ⟨t1,R,rfl⟩;all_goals
  refine dB q r u (zA y (zA B (zA C (zA @F (zA hr (zA d @j)))))) ?_;refine a1r (apX _ (hv.bJ (eO.ed E) (eu.refl _ _))) ?_;rintro c w1 ⟨rfl,a⟩;cases l:P.vL (m.slot i.s[k]) with
  | error t=>
   rw[l] at a;have a:c=gP t:=a;subst a;cases t<;>exact⟨J,_,_,hr,d,hv,J⟩
  | ok t=>
   rw[l] at a;have a:c = ah _:=a;subst a;exact⟨J,_,_,hr,d,hv,J⟩
def YX(h:gi D ρ e av tv di w m){x:Fm}(hx:m.fs[m.f]?=O x){i:P.In}(hi:A2 w g o i)(hk:k<i.s.length)(b:i.s[k]<x.slots.length)(c:k<=60) :
  Calls bbD 211 #[pp e.vb,pq g o,zi (k:Nat)] w fun a w'=>w'=w.drew/\TmP ρ m.n w' (m.at i k) a:=by
 refine(afP h hx hi hk b c).mono ?_;rintro a w' ⟨rfl,row,v,-,-,hv,d⟩;have j:Ext w w.drew:=yF;have he:m.at i k=P.vL (m.slot i.s[k]):=by
  grind [P.afO,a1u]
 rw[he];exact⟨J,d.toP (hv.bJ (eO.ed j) (eu.refl _ _))⟩
end
def aNd:(Tryz.prog.info? 342).map (fun i=>(i.zero,i.size,i.bytes))=O (O (.agg #[zi 0,aq V,zi 0,bW,bW]),5,72):=zk
def apY(c:w.ownsRow base 342 5 v n xs){l:List Y}
  (d:w.heap[b]?=aO l.toArray 342) (p:l.length=5) (q:∀ u∈l,u.oneCell'=A)
  (r:n<=900000000) (f:base<=w.heap.size) {K:Y->Z->Prop}
  (h:∀ v' w',w'.ownsRow base 342 5 v' (n+1) (xs++l)->w.grownBy w' v.ownBlock->(v'.ownBlock=v.ownBlock\/∀ k,v'.ownBlock=O k->w.heap.size<=k)->K v' w') :
  WR bbD (Builtin.append_ #[114,114] 114 #[v,cS b 1 m]) w K X:=by
 obtain⟨i,hi,a⟩:=Option.map_eq_some_iff.1 aNd;simp only[Prod.mk.injEq] at a;obtain⟨g,j,o⟩:=a;exact Sx.DC (m:=1) (t:=114) (e:=342) zk hi g j o J zo c d zo zg zo zo f h
def aNe{t:TypeId}{fr:Nat×Nat}(a:w.heap[g]?=O (ae iB t fr)):w.setRow g cs=bQ w g (ae cs t fr):=by
 have hlt:g<w.heap.size:=yH;unfold World.setRow bQ
 congr 1
 exact yH
def aNf{K:Y->Z->Prop}:WR bbD (Builtin.copy_ #[200,200] 3 #[.slice (O ⟨g,o,V⟩) n c,bW]) w K X=K (zi 0) w:=
 xF (run_copy_nil (elem:=20) bbD w _ _ _ _ n c zk zk)
def aNg{row:Array Y}(a:w.heap[g]?=aO iB 20)(f:w.heap[b]?=aO row 20)(hk:k<=row.size)(i:k<=n)(j:n<=iB.size)
  (d:∀ v∈row.toList.take k,v.oneCell'=A) {K:Y->Z->Prop} :
  WR bbD (Builtin.copy_ #[200,200] 3 #[cS g n c,cS b k pb]) w K X=K (zi (k:Nat)) (bQ w g (ae (row.toList.take k++iB.toList.drop k).toArray 20 (0,0))):=by
 have e:(row.toList.take k).length=k:=zg;have h:=run_copy_row bbD w 200 200 3 20 g 0 n c ⟨b,0,V⟩ k pb iB 20 (row.toList.take k) zk zk a zg
  (by grind [Addr.add,World.cell?,WalkArith.addr_eq]) zo d
 rw[e,aNe a] at h;simp only[List.take_zero,List.nil_append,Nat.zero_add] at h;exact xF h
section
variable{D:Nat->Prop}{ρ:Nat->Nat}{e:AX}{av tv:Y}{di:List Y}{w w':Z}{m:Vm}
def gi.aNh(h:gi D ρ e av tv di w m)(hD:∀ b,w.heap.size<=b->D b)(z:bB (fun b _=>b=e.vb) w w'){fb rb:Nat}{c:Co}{slots:List Sl}{row:Array Y}(N:w.heap.size<=fb)(P:w.heap.size<=rb)
  (Q:w'.heap[fb]?=aO #[pp cb,cS rb slots.length slots.length,zi (n:Nat),pp (e.φ f),zi (pc:Nat)] 203) (B:FO w' cb c)
  (R:w'.heap[rb]?=aO row 20) (C:row.size=slots.length) (E:C9 ρ m.n w' row slots) (S:f<m.fs.length)
  (T:w'.heap[e.vb]?=aO #[pp e.cb,tv,zi (m.sr.fuel:Nat),pp fb,zi ((0:Nat):Int),av] 116) :
  ∃ φ ψ,gi D ρ ⟨φ,ψ,e.vb,e.cb,e.fk⟩ av tv di w' { m with fs:=m.fs++[⟨c,slots,n,O f,pc,G⟩],f:=m.fs.length,pc:=0 }/\dc D w w':=by
 have d:∀ b o,b≠e.vb->w.heap[b]?=O o->w'.heap[b]?=O o:=(by grind [bB.block]);have U:∀ {b:Nat} {c:Array Y} {t:Nat},w.heap[b]?=aO c t->t≠116->b≠e.vb:=fun d ht e=>by
  rw[e,h.cell] at d;grind
 have r:dc D w w':=bB.mono z fun b o s e=>by
  subst e;rw[h.cell] at s;exact⟨h.st.ds,_,_,_,(a1w s).symm,.inr (.inr (.inr (.inr (.inl J))))⟩
 have k:qi w w':=⟨r.toI,yH⟩;obtain⟨uT,F⟩:∃ uT:Nat->Nat,uT=fun i=>if i=m.fs.length then fb else e.φ i:=⟨_,J⟩
 obtain⟨se,H⟩:∃ se:Nat->Nat,se=fun i=>if i=m.fs.length then rb else e.ψ i:=⟨_,J⟩
 have I:uT m.fs.length=fb:=zg;have K:se m.fs.length=rb:=zg;have l:∀ i,i<m.fs.length->uT i=e.φ i:=zg;have a:∀ i,i<m.fs.length->se i=e.ψ i:=zg;have u:yo e.φ e.ψ m.fs.length uT se (m.fs.length+1):=⟨Nat.le_succ _,l,a⟩;have hold:∀ i,i<m.fs.length->e.ψ i<w.heap.size:=fun i hi=>by
  obtain⟨-,-,row,W,-⟩:=h.fs i _ (a1u hi);exact yH
 have y:∀ (i:Nat) (x:Fm),(m.fs++[⟨c,slots,n,O f,pc,G⟩])[i]?=O x->(i<m.fs.length/\m.fs[i]?=O x)\/(i=m.fs.length/\x=⟨c,slots,n,O f,pc,G⟩):=zg;have p:∀ i,i<(m.fs++[(⟨c,slots,n,O f,pc,G⟩:Fm)]).length->i<m.fs.length\/i=m.fs.length:=zg;have hlen:(m.fs++[(⟨c,slots,n,O f,pc,G⟩:Fm)]).length=m.fs.length+1:=zs;refine⟨uT,se,⟨?_,zg,fun i x hx=>?_,fun i x b hx L=>?_,fun i hi=>?_,fun i j hi M he=>?_,⟨h.ar.1,?_⟩,?_,h.da⟩,r⟩
 .have:=h.st.Hr Da d (cs':=Ho e.cb (pp (uT m.fs.length)) (zi ((0:Nat):Int)) av) (f:=m.sr.fuel) (yH);omega
 .rcases y i x hx with⟨hi,hx⟩| ⟨rfl,rfl⟩
  .exact(h.fs i x hx).bJ k.1 (eu.refl _ _) u hi (fun b d=>h.bk i x b hx d) yH
  .refine⟨⟨cb,?_,B,zg⟩,zg,row,yH,C,E⟩;grind [BR]
 .show b<(m.fs++_).length;rw[hlen];rcases y i x hx with⟨hi,hx⟩| ⟨rfl,rfl⟩
  .have:=h.bk i x b hx L;omega
  grind
 .rcases p i hi with g | rfl
  .grind [dp]
  grind
 .have he:se i=se j:=he;rcases p i hi with g | rfl<;>rcases p j M with q | rfl
  .rw[a i g,a j q] at he;exact h.inj i j g q he
  .grind
  .grind
  .rfl
 .rcases h.ar.2 with g | ⟨b,cap,cur,rfl,q,X,h4⟩<;>grind
 .have:=h.ag.bJ k.1 k.toR (eu.refl _ _) u yH;grind
end
