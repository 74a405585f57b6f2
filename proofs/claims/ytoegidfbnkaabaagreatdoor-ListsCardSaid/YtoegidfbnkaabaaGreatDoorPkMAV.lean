/- A part of one proof (KD0, PK2, PK3, KE4, KE7, ShX5, KV1, KV2, KV3, KV4, KV5). -/
import Derived.Test.YtoegidfbnkaabaaGreatDoorPkMAU
import Derived.Laws.CopyRow
set_option linter.all false
set_option maxRecDepth 100000
set_option maxHeartbeats 8000000
open Option renaming some → O, none → V
open Go renaming Value → Y, World → Z
open Bool renaming true → G, false → ae
open Go.Obj renaming cells → ah
open Go.Ending renaming returned → ai
open Go.Value renaming nilIface → aj, iface → ak, tuple → aq, pointer → au
open Option.some renaming injEq → a3I, inj → a3R
open Go.Calls renaming mono → a3L
open Nat renaming le_refl → a3O
open List renaming getElem?_eq_getElem → a3P
open Go.Instr renaming typeAssert → a38
open Go.Value renaming ownBlock → a4w
open Go.Proofs.Tryz renaming prog → bdQ
open Go.Proofs.Tryz
namespace Go.Proofs.YtoegidfbnkaabaaGreatDoor
open P
open Go.RowKit Sx
variable{D:Nat->Prop}{E:En}{K:Y->Prop}{M b base c cb d e f g j k m n o pb pc qb so xb:Nat}{X:Y->Z->Prop}{av tv v vv:Y}{cs iF:Array Y}{s:Bs}{ur ρ:Nat->Nat}{vars:List Bs}{vs xs:List Y}{w w' w1 w2:Z}
structure OW(D:Nat->Prop)(w w':Z):Prop where
 Gi:eJ w w'
 own:∀ (b:Nat) (o:Obj),D b->w.heap[b]?=O o->w'.heap[b]?=O o
 map:∀ (b:Nat) (es:Array MapEntry) (c:Nat),w.heap[b]?=O (.map es c)->w'.heap[b]?=O (.map es c)
structure Vv{E:En}(X:Dv E):Prop where
 bL:∀ {D ρ w w' s},X.Mem D ρ w s->OW D w w'->X.Mem D ρ w' s
 cut:∀ {D D':Nat->Prop} {ρ w s},X.Mem D ρ w s->(∀ b,b<w.heap.size->D b->D' b)->X.Mem D' ρ w s
def agQ{size:Nat}(a:w.ownsRow base e size v n xs)(c:∀ g,v.ownBlock=O g->D g)(hk:∀ b o,D b->w.heap[b]?=O o->w'.heap[b]?=O o):w'.ownsRow base e size v n xs:=by
 refine⟨a.1,?_⟩;rcases a.2 with i | ⟨b,cap,cur,rfl,d,f,h⟩
 .exact yH
 .exact .inr ⟨b,cap,cur,J,d,hk _ _ (c b J) f,h⟩
def agR{size:Nat}(a:w.ownsRow base e size v n xs)(c:v.ownBlock=O g):g<w.heap.size:=by
 rcases a.2 with⟨rfl,-⟩| ⟨b,cap,cur,rfl,-,d,-⟩
 .cases c
 grind [a4w,a3I,bn]
def gV.OX{T:Nat}{s:Sr}(h:gV D ρ n pb so T cs tv w s)(hk:OW D w w'):gV D ρ n pb so T cs tv w' s:=
 ⟨⟨h.sv.inj,fun i hi=>by
  obtain⟨ref,c,a⟩:=h.sv.var i hi;refine⟨ref,hk.own _ _ (h.dv i hi) c,?_⟩;split at a
  .rename_i b;simpa [b] using a
  .rename_i t b;exact dK.bL a hk.Gi.toT⟩,h.dv,hk.own _ _ h.ds h.cell,agQ h.row h.dr hk.own,h.dr,h.ds,h.nd,h.lt,h.ok⟩
def gV.OY{D':Nat->Prop}{T:Nat}{s:Sr}(h:gV D ρ n pb so T cs tv w s)(a:∀ b,b<w.heap.size->D b->D' b):gV D' ρ n pb so T cs tv w s:=
 ⟨h.sv,fun i hi=>by
  obtain⟨ref,d,-⟩:=h.sv.var i hi;grind [bn,dv],h.cell,h.row,fun g c=>a _ (agR h.row c) (h.dr g c),a _ (bn h.cell) h.ds,h.nd,h.lt,h.ok⟩
theorem wkD(base:List Cl)(M nv wb mb xb:Nat)(vv:Y):Vv (wkX base M nv wb mb xb vv) where
 bL:=by
  rintro D ρ w w' s ⟨⟨todo,av,tv,dk,h⟩,h2,h3,h4,h5⟩ hk;exact⟨⟨todo,av,tv,dk,h.st.OX hk,h.td.bL hk.Gi (eu.refl _ _),agQ h.ar h.da hk.own,h.ag.bL hk.Gi (eu.refl _ _),h.da⟩,
   (by grind [B1.bL,OW.Gi,OW.map]),h3.iS hk.Gi (yM),h4,hk.Gi _ _ _ (yM) h5⟩
 cut:=by
  rintro D D' ρ w s ⟨⟨todo,av,tv,dk,h⟩,h2,h3,h4,h5⟩ hd;exact⟨⟨todo,av,tv,dk,h.st.OY hd,h.td,h.ar,h.ag,fun g hg=>hd _ (agR h.ar hg) (h.da g hg)⟩,h2,h3,h4,h5⟩
def aOp(z:Array Y):∀ (n:Nat),(madeCells z n).size=n:=by
 grind [madeCells]
def aOq(n:Nat)(h:n<=100)(w:Z):Calls bdQ 77 #[zi (n:Nat)] w fun e w'=>Ext w w'/\∃ b,e = ai (cS b n n):=by
 refine ap7 ?_;refine bG ?_;refine⟨fun m z w'=>∃ (j:Nat) (cs:Array Y),z 9=zi (j:Nat)/\j<=n/\m=n-j/\Ext w w'/\w'.heap[w.heap.size]?=aO cs 89/\cs.size=n,
  ⟨_,0,_,J,Nat.zero_le _,J,(bD.refl _ _).alloc _,tW J,by rw[aOp]⟩,?_⟩
 intro m z d w1 c;refine toPr ?_;obtain⟨j,cs,a,i,rfl,k,g1,l⟩:=c;have o:=bn g1;by_cases hlt:j<n
 .have p:(j:Int)<(n:Int):=zo;have f:(j:Int).toNat=j:=zo;refine jh a @f @g1 ?_;exact⟨_,zo,j+1,_,zs,zo,J,yF,J,yH⟩
 .have g:j=n:=zo;subst g;refine cJ a ?_;exact yH
def oe{j:Option Addr}(p:n<=12)(f:w.heap[b]?=aO #[aW [],bW,pp xb,.slice j n pb] 86) :
  Calls bdQ 38 #[.map (O m),pp b] w fun e w'=>Ext w w'/\∃ q o,e = ai (pp q)/\w'.heap[q]?=aO o 130:=by
 refine ap8 ?_;refine cJ f ?_;refine a3L (aOq n zo w) ?_;rintro e w1 ⟨c,fb,rfl⟩;have d:=c.ext _ _ f;have r:=bn d;refine cJ d ?_;obtain⟨w2,k⟩:=cj (w1.alloc (ah #[.map (O m),bW,zi 0,au V,bW,cS fb n n] 130));have l:w1.alloc (ah (Value.agg #[.map (O m),bW,zi 0,au V,bW,cS fb n n]).cells 130 (0,0))=w2:=k.symm;rw[l];have g:Ext w1 w2:=yF;have g2:w2.heap[w1.heap.size]?=aO #[.map (O m),bW,zi 0,au V,bW,cS fb n n] 130:=yH;have h:=g.ext _ _ d;have s:=bn g2;refine⟨fun w'=>w'.heap[b]?=w2.heap[b]?,J,?_⟩;rw[jI];refine cQ (pq b 2) (fun w' a=>by rw[h] at a;exact eV a) (cQ (pp xb) (fun w' a=>by rw[h] at a;have:=bn a;exact eV a) ?_);refine cJ @g2 ?_;have i:Ext w2 (w2.drew.alloc (ah #[pp xb,cS fb n n,zi 0,au V] 207)):=yF;have s1:=c.size;exact⟨bD.bR (M:=fun _ _=>False) ((c.trans g).trans i) (.inr s1),_,_,J,qI J (bn (i.ext _ _ g2))⟩
def aOr{P:Program}{T:TypeId}(h:Kt P T=G){S:Z->Prop}(hk:K (ak T v)):vq P (Instr.makeInterface T v) S K:=by
 refine⟨ak T v,fun w _=>?_,hk⟩;unfold Kt at h;unfold Instr.makeInterface underlying;simp only[Sem.run_bind,program,Sem.run,Result.andThen_ok];grind [Sem.run_pure,Result.andThen_ok]
mutual
theorem eZ.RM {n M a:Nat} (b:M<=a):∀ {x:Bd},eZ n M x->eZ n a x
 | .mk kind name args parts,hx=>by
  unfold eZ at hx ⊢;obtain⟨c,d,e,f,g,i,j,h⟩:=hx;exact⟨c,d,e,f,g,zo,zo,fa.RM b h⟩
 termination_by structural x=>x
theorem fa.RM {n M a:Nat} (b:M<=a):∀ {l:List Bd},fa n M l->fa n a l
 | [],hx=>by unfold fa;trivial
 | x::xs,hx=>by
  unfold fa at hx ⊢;exact⟨eZ.RM b hx.1,fa.RM b hx.2⟩
 termination_by structural x=>x
end
def P.ZJ{x:Bd}{vs:List Bs}(h:ry qg s = .ok x k vs):Lk vs/\eZ vs.length 2900 x:=by
 unfold ry at h;split at h
 .grind
 .split at h
  .grind
  .rename_i T b;have a:=Ul b;have d:C7 T:=⟨N8 _ _ _ _ (by rw[TV,b]),fun u hu hk=>by
    obtain⟨c,r,e,-⟩:=(a.tok u hu).2.2.1 hk;grind,fun u hu hk=>((a.tok u hu).2.1 hk).2.1⟩
   have i:=a.len;obtain⟨f,g⟩:=aJO d (fun u hu hk=>(a.tok u hu).2.2.2.1 hk) h;exact⟨f,eZ.RM zo g⟩
def EZ(w:Z)(xb:Nat)(base:List Cl):Prop:=∃ v vs,w.heap[xb]?=aO #[v] 72/\fO (fun _=>True) w 79 v vs/\ky (fun _=>True) w vs base
def EZ.iS{w w':Z}{xb:Nat}{base:List Cl}(h:EZ w xb base)(hk:eJ w w'):EZ w' xb base:=by
 obtain⟨v,vs,a,b,c⟩:=h;exact⟨v,vs,hk _ _ _ (yM) a,b.iS hk (yM),c.iS hk⟩
def Vw(names:List Bs)(w w':Z)(qb:Nat)(E:En)(st:E.St):Prop:=
 ∃ X:Dv E,(JP X/\Vv X)/\qb≠X.eb/\w.heap.size<=qb/\X.Good 0 st/\∃ ρ,∀ D:Nat->Prop,(∀ b,w.heap.size<=b->D b)->yz X D ρ qb names w' (V,st)
theorem yz.ext{E:En}{X:Dv E}(L:JP X){D:Nat->Prop}{ρ:Nat->Nat}{qb:Nat}{names:List Bs}{w w':Z}{q:Qs E}(h:yz X D ρ qb names w q)(a:Ext w w'):yz X D ρ qb names w' q:=by
 obtain⟨⟨Ij,b,c⟩,d⟩:=h;exact⟨⟨Ij,a.ext _ _ b,c.mono zg (by grind [bD.ext])⟩,(by grind [JP.ext])⟩
theorem Vw.ext{names:List Bs}{w w1 w2:Z}{qb:Nat}{E:En}{st:E.St}(h:Vw names w w1 qb E st)(a:Ext w1 w2):Vw names w w2 qb E st:=by
 obtain⟨X,L,b,c,d,ρ,e⟩:=h;exact⟨X,L,b,c,d,ρ,fun D hD=>(e D hD).ext L.1 a⟩
def agS(w:Z)(s:Bs)(E:Bd->List Bs->En)(st:∀ x vs,(E x vs).St)(e:Ending)(w':Z):Prop:=
 Ext w w'/\match ry qg s with
 | .err c a=>∃ b,e = ai (aq #[au V,ak 73 (au (O ⟨b,0,V⟩))])/\w'.heap[b]?=O (ah #[.int .i64 c,.int .i64 a] 77 (0,0))
 | .ok x _ vs=>∃ qb,e = ai (aq #[au (O ⟨qb,0,V⟩),aj])/\Vw vs w w' qb (E x vs) (st x vs)
def P.aOs{x:Bd}(hx:eZ n M x):mh M (0*1000000) { Wk.new x n with sr:={ (Wk.new x n).sr with fuel:=0 } }/\lO (Wk.new x n).sr:=
 ⟨⟨⟨⟨Nat.zero_le _,fun i hi=>List.mem_range.1 hi,zg,trivial⟩,(fun i a h=>by cases h),(fun i a h=>by cases h),(fun i j a b _ h=>by cases h)⟩,(by rw[Nat.zero_mul];exact a3O 0),(by rw[Nat.zero_mul];exact a3O 0)⟩,trivial,trivial⟩
def aOt(s:Bs){base:List Cl}(E:s.length<=100000)(F:Jp w)(hC:nk w w.heap.size)(hx:EZ w xb base)(dx:∀ c∈base,zw M c)(mY:∀ c∈base,c.name.length<=100)(I:base.length<=100000)(hM:M<=100000)(n:2900<=M) :
  Calls bdQ 26 #[pp xb,aW s,.bool ae] w (agS w s (fun _ vs=>Lj base vs.length) (fun x vs=>Wk.new x vs.length)):=by
 suffices H:∀ R:Ending->Z->Prop,(∀ e w',agS w s (fun _ vs=>Lj base vs.length) (fun x vs=>Wk.new x vs.length) e w'->R e w')->Calls bdQ 26 #[pp xb,aW s,.bool ae] w R from H _ zg;intro R i;refine ap9 ?_;refine bG ?_;refine(aqL s w E F hC).mono ?_;rintro e w1 ⟨y,j⟩;have s1:=y.size;unfold agS at i;cases hr:ry qg s with
 | err c a=>
  rw[hr] at j i;obtain⟨b,rfl,h1⟩:=j;refine bG ?_;grind
 | ok x k vs=>
  rw[hr] at j i;obtain⟨b,rfl,-,OZ,o,l,m,K,L,N⟩:=j;obtain⟨v,fX,g1,g2,g3⟩:=hx.iS (eJ.ea y);obtain⟨sa,sc,rfl⟩:=g2.sl;refine cJ @g1 ?_;refine a3L (aM9 g2 g3 (by grind [zw.qQ]) I) ?_;rintro e w2 ⟨z,mb,rfl,Mg,Q⟩;have A:=z.ext _ _ K;have p:dL (fun _=>True) w2 (pp o) x:=dL.mono zg (by grind [bD.ext]) _ _ L;refine bG ?_;refine a3L (aNe zo A p) ?_;rintro e w3 ⟨S,wb,fb,ρ,todo,rfl,rZ,q,B⟩;have T:=S.ext _ _ A;have s2:=z.size;have r:=(B (fun _=>True) (fun _ _=>trivial)).cell;have lw:=bn r;refine bG ?_;obtain⟨d,U⟩:=cj (bR (w3.alloc (ah #[au V] 122)) w3.heap.size (ah #[pp wb] 122));have W:bR (w3.alloc (ah #[au V] 122)) w3.heap.size (ah (pF #[au V] 0 (Value.pointer (O ⟨wb,0,V⟩)).cells.toList) 122 (0,0))=d:=by rw[U];rfl
  rw[W];have C:Ext w3 d:=yF;have g4:d.heap[w3.heap.size]?=aO #[pp wb] 122:=yH;have t:=C.ext _ _ T;have s4:=C.size;refine⟨fun w'=>w'.heap[w3.heap.size]?=d.heap[w3.heap.size]?/\w'.heap[b]?=d.heap[b]?,yH,?_⟩;refine cQ (pp wb) (fun w' f=>by rw[g4] at f;have g:=f.1;have:=bn g;exact eV g) (cQ (pp wb) (fun w' f=>by rw[g4] at f;have g:=f.1;have:=bn g;exact eV g) ?_);rw[jI];refine cQ (pq wb 1) (fun w' f=>eR) ?_;rw[jI];refine cQ (pq b 3) (fun w' f=>eR) (cQ (.slice l vs.length m) (fun w' f=>by rw[t] at f;have g:=f.2;have:=bn g;exact eV g) ?_);refine aOr zk ?_;rw[Xu];refine⟨yH,?_⟩;refine bG ?_;obtain⟨h,X⟩:=cj (d.drew.alloc (ah #[ak 122 (pp wb),pq wb 1,.func (.func 40) #[] #[pp w3.heap.size],.slice l vs.length m,aj] 121));have uo:Ext d h:=yF;have g5:h.heap[d.heap.size]?=aO #[ak 122 (pp wb),pq wb 1,.func (.func 40) #[] #[pp w3.heap.size],.slice l vs.length m,aj] 121:=yH;have B2:Ext w3 h:=yF;have OH:Ext w1 h:=yF;have B4:eZ vs.length M x:=eZ.RM n (P.ZJ hr).2;rw[<- X];refine i _ _ ⟨yF,d.heap.size,J,wkX base M vs.length wb mb w3.heap.size (cS fb vs.length vs.length),(by grind [aN1,wkD]),?_,zo,P.aOs B4,ρ,fun D hD=>?_⟩
  .show d.heap.size≠wb;omega
  .have u:fO (fun _=>True) h 9 (.slice l vs.length m) (vs.map fun s=>aW s):=N.mono zg (by grind [bD.ext]);refine⟨⟨_,g5,u⟩,fun _=>⟨⟨_,_,_,_,(B D (fun b hb=>hD b zo)).ext B2⟩,(by grind [eJ.ea,B1.bL,bD.trans,bD.ext]),q.mono zg yH,a3O _,yH⟩⟩
def arb(k:Int)(w:Z)(c:C8 w):Calls bdQ 23 #[ak 27 (zi k)] w fun e w'=>Ext w w'/\e = ai (aq #[zi k,zi (-1)]):=by
 refine acI ?_;refine bG ?_;obtain⟨a,i⟩:=cj ((w.alloc (ah #[au V] 73)).alloc (ah #[zi 0] 27));have d:Ext w a:=yF;have q0:a.heap[w.heap.size]?=aO #[au V] 73:=yH;have q1:a.heap[w.heap.size+1]?=aO #[zi 0] 27:=yH;rw[size_alloc,<- i];refine(aOn k ⟨w.heap.size,0,V⟩ _ a (c.ext d) (by simp [World.cell?,q0];rfl) (jV q0 0)).mono ?_;rintro e w3 ⟨rfl,j⟩;have f:Ext a w3:=yF;have b:=f.ext _ _ q1;clear j;refine bG ?_;refine(aOi k ⟨w.heap.size+1,0,V⟩ _ w3 ((c.ext d).ext f) (by simp [World.cell?,b];rfl) (jV b 0)).mono ?_;rintro e g ⟨rfl,h⟩;obtain⟨l,m⟩:=cj ((((w3.alloc (ah #[pp (w.heap.size+1)] 78)).alloc (ah #[pq 12 78,pp w3.heap.size,.int .u64 150] 158)).alloc (ah #[pq 12 78,pp w3.heap.size,.int .u64 150] 158)).alloc (ah #[zi k] 27));rw[<- m] at h;have n:Ext w3 l:=yF;have o:=n.ext _ _ b;rw[vz o] at h;have p:Ext w g:=by
  exact yF
 have q4:g.heap[w.heap.size+1]?=aO #[zi k] 27:=by
  exact yH
 refine cJ @q4 ?_;exact yF
def aOz{X:Dv E}(L:JP X){q q':Qs E}{i:Bs×Nat}(r:yz X D ρ qb vars w q)(hD:∀ b,w.heap.size<=b->D b)(j:¬ D 4)(s:¬ D 0)
  (t:mj w) (u:C8 w) (x:qb≠X.eb) (m:qb≠4) (y:qb≠0) (z:q.1=V->X.Good c q.2) (A:c<=700) (B:∀ nm∈vars,nm≠[]/\nm.length<=3000) (C:vars.length<=12) (hlen:∀ k l,E.told k = .ok l->l.length=vars.length)
  (hr:Hr E vars d f q=O (i,q')) :
  Calls bdQ 16 #[pp qb] w fun e w'=>Me D qb w w'/\e = ai (aq #[aW i.1,zi (i.2:Nat)])/\∃ eP,yz X D eP qb vars w' q':=by
 refine aNl ?_;refine(aNw L r hD j t x m z A B C hlen hr).mono ?_;rintro e w1 ⟨F,rfl,a,g,eP,p⟩;have H:C8 w1:=Ns u fun o I=>F.block _ o I (by
  rintro (⟨h,_⟩| h)<;>grind)
 have K:∀ {w2:Z},Ext w1 w2->Me D qb w w2:=yF;obtain⟨err,st⟩:=q';simp only at a g;cases err with
 | none=>
  have a:=a J;simp only[Gf];refine bG ?_;refine(aeD w1).mono ?_;rintro e w2 ⟨n,rfl⟩;refine bG ?_;rw[a];exact⟨yF,J,eP,p.ext L n⟩
 | some k=>
  have g:=g k J;simp only[Gf];refine bG ?_;refine(arb k w1 H).mono ?_;rintro e w2 ⟨n,rfl⟩;refine bG ?_;rw[g];exact⟨yF,J,eP,p.ext L n⟩
open Go.Proofs.YtoegidfbnkaabaaGreatDoor.Sx
section
variable{p0 p1 p2 p3 p4 p5 p6 p7:Y}{w:Z}{R:Ending->Z->Prop}
def aOA:=cz w R [p0] (gd [] [] [] [(1,[17,0,1,2,3,4,5,6,7,8,9,10,11,12,13,14,15,16,17])] [] [] []) func35
def aOB:=cz w R [p0] (gd [(3,[2,23])] [] [(2,14)] [] [] [] [24]) func36
def agT:=cz w R [p0,p1] (gc [] [(3001,[])] [6,11,12,13]) func75
def aOC:=cz w R [p0,p1,p2] (gd [] [] [(1,17)] [] [] [] []) func211
def aOD:=cz w R [p0] (gd [] [] [(5,7),(10,18)] [(7,[16,0,1,2,3,4,5,6,7,8,9,10,11,12,13,14,15])] [] [] [2,12,31]) func206
def aOE:=cz w R [p0,p1,p2,p3,p4,p5] (gd [] [(2001,[])] [] [(2,[20,0,1,2,3,4,5,6,7,9,10,11,12,13,8,14,15,16,17,18,19]),(3,[22,0,1,2,3,4,5,6,7,8,9,10,11,12,14,15,16,13,17,18,19,20,21])] [] [] [23]) func209
def aOF:=cz w R [p0,p1] (gd [(6,[32]),(19,[99])] [(16000,[92]),(17001,[])] [(16,23),(21,16)] [] [] [] [4,18,33,68,91,92,100]) func212
def aOG:=cz w R [p0,p1] (gd [(3,[5,14])] [(9001,[])] [(12,16)] [(7,[0,0,1,2,3,4,5,6,7,8,9,10,11,12,13,14,15])] [] [] [4,15,48,52]) func215
def RO:=cz w R [p0,p1] (gd [(14,[88]),(24,[8,128])] [(36001,[]),(46001,[])] [(6,12),(28,8),(37,15)] [(8,[11,0,1,2,3,4,6,7,8,9,5,10,11]),(10,[10,0,1,2,3,4,6,7,5,8,9,10]),(16,[15,0,1,2,3,4,5,6,7,8,9,10,11,12,13,14]),(30,[17,0,1,2,3,4,5,6,7,8,9,10,11,12,13,14,15,16]),(32,[15,0,1,2,3,4,5,6,7,8,9,10,11,12,13,14]),(39,[25,0,1,2,3,4,5,6,7,9,10,11,12,13,14,15,16,17,18,8,19,20,21,22,23,24]),(47,[19,2,3,4,5,6,7,8,9,10,11,12,13,14,15,0,16,17,1,18,19,20,21])] [] [] [4,11,23,24,35,36,49,50,61,62,63,73,74,75,89,116,117,120,121,122,129,147,148,149,166,167,182,183,196,197,198,215,216,241,242,252,253,256,257,258,266]) func207
def aOH:=cz w R [p0] (gd [] [(1000,[13]),(2001,[]),(5001,[]),(9000,[86]),(12000,[96])] [(4,16),(6,16),(9,25)] [] [] [] [2,11,12,13,33,61,85,86,90,94,95,96]) func205
end
def Aa(ρ:Nat->Nat)(n:Nat)(w:Z)(v:Y):Sl->Prop
 | .nil=>v = aj
 | .term t=>dO ρ n w v t
 | .level k=>v = ak 201 (.int .i64 (k:Nat))
theorem Aa.bL{ρ eP:Nat->Nat}{n a:Nat}{w w':Z}(hk:eJ w w')(hu:eu ρ n eP a){v:Y}:∀ {y:Sl},Aa ρ n w v y->Aa eP a w' v y
 | .nil,h=>h
 | .term _,h=>dO.Rf hk hu h
 | .level _,h=>h
def yA(v:Y):Option Tm->Prop
 | none=>v = aj
 | some (.atom s)=>v = ak 171 (.string (bs s))
 | some (.int k)=>v = ak 172 (.int .i64 k)
 | some _=>False
theorem yA.ee{ρ:Nat->Nat}{n:Nat}{w:Z}{v:Y}:∀ {t:Tm},yA v (O t)->dO ρ n w v t
 | .atom s,h=>by unfold dO dK;exact h
 | .int k,h=>by unfold dO dK;exact h
 | .var _,h=>h.elim
 | .comp _ _,h=>h.elim
abbrev vi(l:List Nat):List Y:=l.map fun k=>zi ((k:Nat):Int)
structure RP(w:Z)(cur:Array Y)(o:Nat)(i:P.In):Prop where
 word:cur[o]?=O (aW i.word)
 name:cur[o+1]?=O (aW i.name)
 con:∃ cv,cur[o+2]?=O cv/\yA cv i.const
 s:∃ sv,cur[o+3]?=O sv/\fO (fun _=>True) w 3 sv (vi i.s)
theorem RP.bL(hk:eJ w w'){i:P.In}(h:RP w iF o i):RP w' iF o i:=by
 obtain⟨a,b,c,sv,d,e⟩:=h;exact⟨a,b,c,sv,d,e.iS hk (yM)⟩
def Gj(w:Z)(cb:Nat)(c:Co):Prop:=∃ insv,w.heap[cb]?=aO #[zi (c.slots:Nat),insv] 196 /\
 ((c.ins=[]/\insv = bW)\/∃ g cap cur,insv = cS g c.ins.length cap/\c.ins.length<=cap/\w.heap[g]?=aO cur 198/\cur.size=cap*4/\∀ (j:Nat) (i:P.In),c.ins[j]?=O i->RP w cur (j*4) i)
theorem Gj.bL{w w':Z}(hk:eJ w w'){cb:Nat}{c:Co}(h:Gj w cb c):Gj w' cb c:=by
 obtain⟨insv,b,a⟩:=h;refine⟨insv,hk _ _ _ (yM) b,?_⟩;rcases a with a | ⟨g,cap,cur,a,d,e,f,i⟩
 .exact yH
 .exact .inr ⟨g,cap,cur,a,d,hk _ _ _ (yM) e,f,(by grind [RP.bL])⟩
def B5(w:Z)(vs:List Y)(cs:List Co):Prop:=vs.length=cs.length/\∀ (j:Nat) (c:Co),cs[j]?=O c->∃ cb,vs[j]?=O (pp cb)/\Gj w cb c
theorem B5.bL{w w':Z}(hk:eJ w w'){vs:List Y}{cs:List Co}(h:B5 w vs cs):B5 w' vs cs:=
 ⟨h.1,fun j c a=>let ⟨cb,b,d⟩:=h.2 j c a;(by grind [Gj.bL])⟩
def B5.tail{c:Co}{cs:List Co}(h:B5 w (v::vs) (c::cs)):B5 w vs cs:=
 ⟨by have:=h.1;grind,fun j x a=>by simpa using h.2 (j+1) x zg⟩
def Vx(w:Z)(pb:Nat)(dJ:List Pd):Prop:=∃ l,w.heap[pb]?=O (eM l)/\∀ (name:Bs) (n:Nat),n<80->match fQ (P.keyOf name n) l 0 with
 | none=>dJ.find? (fun p=>p.name == name && p.arity == n)=V
 | some (_,v)=>∃ p,dJ.find? (fun p=>p.name == name && p.arity == n)=O p/\∃ b cap row vs,v = .slice (O ⟨b,0,V⟩) p.clauses.length cap/\p.clauses.length<=cap/\w.heap[b]?=O (ah row 185 (0,0)) /\
  row.toList.take p.clauses.length=vs/\B5 w vs p.clauses
theorem Vx.bL{w w':Z}(hk:eJ w w'){pb:Nat}(hm:∀ l,w.heap[pb]?=O (eM l)->w'.heap[pb]?=O (eM l)){dJ:List Pd}(h:Vx w pb dJ):Vx w' pb dJ:=by
 obtain⟨l,d,a⟩:=h;refine⟨l,yH,fun name n c=>?_⟩;have:=a name n c;split at this
 .omega
 .obtain⟨p,g1,b,cap,row,vs,g2,g3,g4,g5,g6⟩:=this;exact⟨p,g1,b,cap,row,vs,g2,g3,hk _ _ _ (yM) g4,g5,g6.bL hk⟩
def qq(w w':Z):Prop:=eJ w w'/\∀ (b:Nat) (cs:Array Y),w.heap[b]?=aO cs 20->w'.heap[b]?=aO cs 20
theorem qq.ea{w w':Z}(h:Ext w w'):qq w w':=⟨eJ.ea h,(by grind [bD.ext])⟩
theorem qq.trans{a b c:Z}(h:qq a b)(k:qq b c):qq a c:=⟨h.1.trans k.1,fun x cs hx=>k.2 x cs (h.2 x cs hx)⟩
def Dx(ρ:Nat->Nat)(n:Nat)(w:Z)(row:Array Y)(l:List Sl):Prop:=∀ (j:Nat) (y:Sl),l[j]?=O y->∃ v,row[j]?=O v/\Aa ρ n w v y
theorem Dx.bL{ρ eP:Nat->Nat}{n a:Nat}{w w':Z}(hk:eJ w w')(hu:eu ρ n eP a){row:Array Y}{l:List Sl}(h:Dx ρ n w row l):Dx eP a w' row l:=
 fun j y b=>let ⟨v,c,d⟩:=h j y b;(by grind [Aa.bL])
def B6(φ:Nat->Nat):Option Nat->Y
 | none=>au V
 | some b=>au (O ⟨φ b,0,V⟩)
structure Vy(ρ:Nat->Nat)(n:Nat)(φ ψ:Nat->Nat)(fw:Nat)(w:Z)(i:Nat)(x:Fm):Prop where
 cell:∃ cb,w.heap[φ i]?=aO #[pp cb,cS (ψ i) x.slots.length x.slots.length,zi (x.entry:Nat),B6 φ x.back,zi (x.pc:Nat)] 203/\Gj w cb x.code/\(x.ask=G->cb=fw)
 ask:x.ask=G↔x.back=V
 row:∃ row,w.heap[ψ i]?=aO row 20/\row.size=x.slots.length/\Dx ρ n w row x.slots
structure yB(φ ψ:Nat->Nat)(nf:Nat)(vj sw:Nat->Nat)(Gk:Nat):Prop where
 le:nf<=Gk
 ph:∀ i,i<nf->vj i=φ i
 ps:∀ i,i<nf->sw i=ψ i
theorem yB.refl(φ ψ:Nat->Nat)(n:Nat):yB φ ψ n φ ψ n:=⟨a3O _,zg,zg⟩
theorem Vy.bL{ρ eP:Nat->Nat}{n c:Nat}{φ ψ vj sw:Nat->Nat}{nf Gk fw:Nat}{w w':Z}(hk:eJ w w')(hu:eu ρ n eP c)(a:yB φ ψ nf vj sw Gk){i:Nat}{x:Fm}(hi:i<nf)(d:∀ b,x.back=O b->b<nf)
  (hr:∀ cs:Array Y,w.heap[ψ i]?=aO cs 20->w'.heap[ψ i]?=aO cs 20) (h:Vy ρ n φ ψ fw w i x):Vy eP c vj sw fw w' i x:=by
 obtain⟨⟨cb,e,f,g⟩,j,row,k,l,m⟩:=h;refine⟨⟨cb,?_,f.bL hk,g⟩,j,row,?_,l,m.bL hk hu⟩
 .have o:B6 vj x.back=B6 φ x.back:=by
   cases hx:x.back with
   | none=>rfl
   | some b=>unfold B6;simp only;rw[a.ph b (d b hx)]
  rw[a.ph i hi,a.ps i hi,o];exact hk _ _ _ (yM) e
 .rw[a.ps i hi];exact hr _ k
def yC(D:Nat->Prop)(ρ:Nat->Nat)(n:Nat)(ψ:Nat->Nat)(nf:Nat)(w:Z)(v:Y)(l:List Sl):Prop:=
 (l=[]/\v = bW)\/∃ b cap row,v = cS b l.length cap/\l.length<=cap/\w.heap[b]?=aO row 20/\row.size=cap/\Dx ρ n w row l/\(∀ i,i<nf->ψ i≠b)/\D b
def Vz(ψ:Nat->Nat)(nf:Nat)(w w':Z):Prop:=∀ (b:Nat) (cs:Array Y),(∀ i,i<nf->ψ i≠b)->w.heap[b]?=aO cs 20->w'.heap[b]?=aO cs 20
def qq.toR(h:qq w w'):Vz ur pb w w':=fun b cs _ a=>h.2 b cs a
theorem yC.bL{D:Nat->Prop}{ρ eP:Nat->Nat}{n c:Nat}{φ ψ vj sw:Nat->Nat}{nf Gk:Nat}{w w':Z}(hk:eJ w w')(hr:Vz ψ nf w w')(hu:eu ρ n eP c)(e:yB φ ψ nf vj sw Gk)(p:∀ i,nf<=i->i<Gk->w.heap.size<=sw i){v:Y}{l:List Sl}(h:yC D ρ n ψ nf w v l):yC D eP c sw Gk w' v l:=by
 rcases h with h | ⟨b,cap,row,f,g,j,k,m,d,o⟩
 .exact .inl h
 .refine .inr ⟨b,cap,row,f,g,hr _ _ d j,k,m.bL hk hu,fun i hi=>?_,o⟩;rcases Nat.lt_or_ge i nf with a | a
  .rw[e.ps i a];exact d i a
  grind
def nJ(D:Nat->Prop)(ρ:Nat->Nat)(n:Nat)(φ ψ:Nat->Nat)(nf:Nat)(w:Z):List Y->List Ga->Prop
 | vs,[]=>vs=[]
 | vs,a::r=>∃ b av fX rest,vs=[.int .i64 (a.mark:Nat),au (O ⟨φ a.f,0,V⟩),.int .i64 (a.pc:Nat),b,av]++rest/\a.f<nf/\oN w 185 b fX/\B5 w fX a.others/\yC D ρ n ψ nf w av a.args/\nJ D ρ n φ ψ nf w rest r
theorem nJ.bL{D:Nat->Prop}{ρ eP:Nat->Nat}{n d:Nat}{φ ψ vj sw:Nat->Nat}{nf Gk:Nat}{w w':Z}(hk:eJ w w')(hr:Vz ψ nf w w')(hu:eu ρ n eP d)(c:yB φ ψ nf vj sw Gk)(g:∀ i,nf<=i->i<Gk->w.heap.size<=sw i):∀ {l:List Ga} {vs:List Y},nJ D ρ n φ ψ nf w vs l->nJ D eP d vj sw Gk w' vs l
 | [],vs,h=>h
 | a::r,vs,⟨j,av,fX,rest,k,e,m,o,s,p⟩=>⟨j,av,fX,rest,by rw[c.ph a.f e];exact k,Nat.lt_of_lt_of_le e c.le,m.bL fun b cs q=>hk b cs _ (yM) q,o.bL hk,(by grind [yC.bL]),nJ.bL hk hr hu c g p⟩
def nJ.len{D:Nat->Prop}{ρ:Nat->Nat}{n:Nat}{φ ψ:Nat->Nat}{nf:Nat}{w:Z}:∀ {l:List Ga} {vs:List Y},nJ D ρ n φ ψ nf w vs l->vs.length=l.length*5
 | [],vs,h=>by have h:vs=[]:=h;grind
 | a::r,vs,⟨d,av,fX,rest,b,_,_,_,_,c⟩=>by
  rw[b,List.length_append,nJ.len c];grind
def nJ.snoc{D:Nat->Prop}{ρ:Nat->Nat}{n:Nat}{φ ψ:Nat->Nat}{nf:Nat}{w:Z}{a:Ga}{l0:List Y}:∀ {l:List Ga} {vs:List Y},nJ D ρ n φ ψ nf w vs l->nJ D ρ n φ ψ nf w l0 [a]->nJ D ρ n φ ψ nf w (vs++l0) (l++[a])
 | [],vs,h,b=>by have h:vs=[]:=h;grind
 | x::l,vs,⟨c,av,fX,rest,j,d,e,f,g,i⟩,b=>⟨c,av,fX,rest++l0,zg,d,e,f,g,nJ.snoc i b⟩
theorem nJ.take{D:Nat->Prop}{ρ:Nat->Nat}{n:Nat}{φ ψ:Nat->Nat}{nf:Nat}{w:Z}:∀ {l:List Ga} {vs:List Y} (m:Nat),nJ D ρ n φ ψ nf w vs l->nJ D ρ n φ ψ nf w (vs.take (m*5)) (l.take m)
 | l,vs,0,h=>by simp;rfl
 | [],vs,m+1,h=>by have h:vs=[]:=h;grind
 | a::l,vs,m+1,⟨b,av,fX,rest,i,c,d,e,f,g⟩=>by
  refine⟨b,av,fX,rest.take (m*5),?_,c,d,e,f,nJ.take m g⟩;grind
theorem nJ.at{D:Nat->Prop}{ρ:Nat->Nat}{n:Nat}{φ ψ:Nat->Nat}{nf:Nat}{w:Z}:∀ {l:List Ga} {vs:List Y} (m:Nat) (hm:m<l.length),nJ D ρ n φ ψ nf w vs l->∃ b av fX,(vs.drop (m*5)).take 5=[zi ((l[m]).mark:Nat),pp (φ (l[m]).f),zi ((l[m]).pc:Nat),b,av]/\(l[m]).f<nf /\
   oN w 185 b fX/\B5 w fX (l[m]).others/\yC D ρ n ψ nf w av (l[m]).args
 | a::l,vs,0,_,⟨b,av,fX,rest,d,e,g,h,i,c⟩=>zg
 | a::l,vs,m+1,hm,⟨b,av,fX,rest,d,e,g,h,i,c⟩=>by
  obtain⟨j,av',k,g1,g2⟩:=nJ.at m zg c;grind
abbrev Im(cb:Nat)(a b av:Y):Array Y:=#[pp cb,.slice V 0 0,zi 0,a,b,av]
def Dy:vU 1 116 (Im cb tv vv av):=⟨zs,.inr J⟩
structure Bb where
 φ:Nat->Nat
 ψ:Nat->Nat
 vb:Nat
 cb:Nat
 fw:Nat
structure gm(D:Nat->Prop)(ρ:Nat->Nat)(e:Bb)(av tv:Y)(dk:List Y)(w:Z)(m:Vm):Prop where
 st:gV D ρ m.n e.vb 1 116 (Im e.cb (pp (e.φ m.f)) (zi (m.pc:Nat)) av) tv w m.sr
 fl:m.f<m.fs.length
 fs:∀ (i:Nat) (x:Fm),m.fs[i]?=O x->Vy ρ m.n e.φ e.ψ e.fw w i x
 bk:∀ (i:Nat) (x:Fm) (b:Nat),m.fs[i]?=O x->x.back=O b->b<m.fs.length
 dp:∀ i,i<m.fs.length->D (e.ψ i)
 inj:∀ i j,i<m.fs.length->j<m.fs.length->e.ψ i=e.ψ j->i=j
 ar:w.ownsRow 0 342 5 av m.bz.length dk
 ag:nJ D ρ m.n e.φ e.ψ m.fs.length w dk m.bz
 da:∀ g,av.ownBlock=O g->D g
def RQ(U:Nat)(w w':Z):Prop:=∀ (b:Nat) (cs:Array Y) (T:Nat),T≠U->w.heap[b]?=aO cs T->w'.heap[b]?=aO cs T
theorem agV{U:Nat}(h:RQ U w w'){size:Nat}(a:w.ownsRow base e size v n xs)(c:e≠U):w'.ownsRow base e size v n xs:=by
 refine⟨a.1,?_⟩;rcases a.2 with i | ⟨b,cap,cur,rfl,d,f,g⟩
 .exact yH
 .exact .inr ⟨b,cap,cur,J,d,h _ _ _ c f,g⟩
def gV.agW{T U:Nat}{s:Sr}(h:gV D ρ n pb so T cs tv w s)(hk:RQ U w w')
  (a:180≠U/\89≠U/\91≠U/\87≠U/\T≠U):gV D ρ n pb so T cs tv w' s:=
 ⟨h.sv.bL fun b c t ht d=>hk b c t zo d,h.dv,hk _ _ _ a.2.2.2.2 h.cell,agV hk h.row a.2.2.2.1,h.dr,h.ds,h.nd,h.lt,h.ok⟩
def gV.Ip{sb T:Nat}{cs':Array Y}{s:Sr}(h:gV D ρ n sb so T cs tv w s)(d:vU so T cs)(hk:∀ b o,b≠sb->w.heap[b]?=O o->w'.heap[b]?=O o)
  (g:w'.heap[sb]?=aO (kB (cs'.setIfInBounds so tv) so f) T):gV D ρ n sb so T cs' tv w' { s with fuel:=f }:=by
 have i:T≠87/\T≠91/\T≠180/\T≠89:=by rcases d.ty with h | h<;>subst h<;>decide
 have j:∀ {b:Nat} {c:Array Y} {t:Nat},w.heap[b]?=aO c t->t≠T->b≠sb:=fun a ht e=>by
  rw[e,h.cell] at a;grind
 refine⟨h.sv.bL fun b c t ht a=>yH,h.dv,g,⟨h.row.1,?_⟩,h.dr,h.ds,h.nd,h.lt,h.ok⟩;rcases h.row.2 with k | ⟨b,cap,cur,rfl,l,m,p⟩<;>grind
def Dn(D:Nat->Prop)(av:Y)(w:Z)(b:Nat):Prop:=D b/\av.ownBlock≠O b/\∀ cs,w.heap[b]?≠(aO cs 20)
section
variable{D:Nat->Prop}{ρ:Nat->Nat}{e:Bb}{av tv:Y}{dk:List Y}{w w':Z}{m:Vm}
theorem gm.cell(h:gm D ρ e av tv dk w m):w.heap[e.vb]?=aO #[pp e.cb,tv,zi (m.sr.fuel:Nat),pp (e.φ m.f),zi (m.pc:Nat),av] 116:=h.st.cell
theorem gm.ES(h:gm D ρ e av tv dk w m)(a:av.ownBlock=O g):∃ cs,w.heap[g]?=aO cs 342:=by
 rcases h.ar.2 with⟨rfl,-⟩| ⟨b,cap,cur,rfl,-,c,-⟩
 .cases a
 grind [a4w,a3I]
theorem gm.ZK(h:gm D ρ e av tv dk w m){c:Array Y}{U:Nat}(a:w.heap[g]?=aO c U)(b:U≠342):av.ownBlock≠O g:=(by grind [ES])
def gm.rest(h:gm D ρ e av tv dk w m){f' pc':Nat}{s':Sr}(hk:qq w w')(hu:eu ρ m.n ur pb)(lu:w'.ownsRow 0 342 5 av m.bz.length dk)
  (a:gV D ur pb e.vb 1 116 (Im e.cb (pp (e.φ f')) (zi (pc':Nat)) av) vv w' s') (c:f'<m.fs.length):gm D ur e av vv dk w' ⟨pb,s',m.fs,f',pc',m.bz⟩:=
 ⟨a,c,fun i x hx=>(h.fs i x hx).bL hk.1 hu (yB.refl _ _ _) (i:=i) (x:=x) zg (fun b d=>h.bk i x b hx d) (hk.2 _),h.bk,h.dp,h.inj,lu,
  h.ag.bL hk.1 hk.toR hu (yB.refl _ _ _) yH,h.da⟩
theorem gm.ext(h:gm D ρ e av tv dk w m)(a:Ext w w'):gm D ρ e av tv dk w' m:=
 h.rest (qq.ea a) (eu.refl _ _) (jK a.ext h.ar) (h.st.ext a) h.fl
def gm.less(h:gm D ρ e av tv dk w m):gV (Dn D av w) ρ m.n e.vb 1 116 (Im e.cb (pp (e.φ m.f)) (zi (m.pc:Nat)) av) tv w m.sr:=by
 have a:∀ {b:Nat} {c:Array Y} {U:Nat},D b->w.heap[b]?=aO c U->U≠342->U≠20->Dn D av w b:=fun k l o j=>⟨k,h.ZK l o,yH⟩;refine⟨h.st.sv,fun i hi=>?_,h.st.cell,h.st.row,fun g d=>?_,a h.st.ds h.cell zo zo,h.st.nd,h.st.lt,h.st.ok⟩
 .obtain⟨ref,j,-⟩:=h.st.sv.var i hi;exact a (h.st.dv i hi) j zo zo
 .rcases h.st.row.2 with⟨rfl,-⟩| ⟨q,cap,cur,rfl,-,p,-⟩
  .cases d
  .simp only[a4w,a3I] at d;subst d;exact a (h.st.dr _ J) p zo zo
theorem gm.dn(h:gm D ρ e av tv dk w m)(hD:∀ b,w.heap.size<=b->D b):∀ b,w.heap.size<=b->Dn D av w b:=fun b a=>⟨hD b a,(by grind [bn,ES]),yH⟩
def Dn.arc(a:dc (Dn D av w) w w1):qq w w1:=⟨a.toI,fun b cs c=>a.block _ _ c fun hm=>hm.1.2.2 cs c⟩
def gm.store(h:gm D ρ e av tv dk w m){s':Sr}(c:gV (Dn D av w) ρ m.n e.vb 1 116 (Im e.cb (pp (e.φ m.f)) (zi (m.pc:Nat)) av) vv w' s')(a:dc (Dn D av w) w w') :
  gm D ρ e av vv dk w' { m with sr:=s' }/\dc D w w':=by
 refine⟨h.rest (Dn.arc a) (eu.refl _ _) ⟨h.ar.1,?_⟩ (c.up fun _ h=>h.1) h.fl,a.up fun _ h=>h.1⟩;rcases h.ar.2 with j | ⟨b,cap,cur,rfl,d,g,i⟩
 .exact yH
 .exact .inr ⟨b,cap,cur,J,d,a.block _ _ g (fun hm=>hm.1.2.1 J),i⟩
def gm.fresh(h:gm D ρ e av tv dk w m)(hD:∀ b,w.heap.size<=b->D b)(f:Ext w w')(hv:w'.heap[w.heap.size]?=aO #[aj] 91) :
  ∃ eP,eu ρ m.n eP (m.n+1)/\eP m.n=w.heap.size/\gm D eP e av tv dk w' { m with n:=m.n+1 }:=by
 obtain⟨eP,s⟩:∃ eP:Nat->Nat,eP=fun i=>if i<m.n then ρ i else w.heap.size:=⟨_,J⟩
 have hu:eu ρ m.n eP (m.n+1):=⟨zo,zg⟩;have o:eP m.n=w.heap.size:=yH;have hold:∀ i,i<m.n->ρ i<w.heap.size:=fun i hi=>by
  obtain⟨r,a,-⟩:=h.st.sv.var i hi;exact yH
 have g:=h.st.ext f;have d:∀ i,i<m.n+1->i<m.n\/i=m.n:=zg;refine⟨eP,hu,o,h.rest (qq.ea f) hu (jK f.ext h.ar) ?_ h.fl⟩;refine⟨⟨fun i j hi q he=>?_,fun i hi=>?_⟩,fun i hi=>?_,g.cell,?_,h.st.dr,h.st.ds,h.st.nd,fun p c=>Nat.lt_of_lt_of_le (h.st.lt p c) hu.1,h.st.ok⟩
 .rcases d i hi with a | rfl<;>rcases d j q with k | rfl
  .rw[hu.2 i a,hu.2 j k] at he;exact h.st.sv.inj i j a k he
  .grind
  .grind
  .rfl
 .rcases d i hi with a | rfl
  .obtain⟨r,g1,g2⟩:=g.sv.var i a;refine⟨r,yH,?_⟩;cases l:P.look i m.sr.tr with
   | none=>grind
   | some t=>rw[l] at g2;exact dK.mono zg hu.1 hu.2 (fun _ _ _ _ _ h=>h) t r g2
  .have l:P.look m.n m.sr.tr=none:=P.Q4 fun hm=>by
    obtain⟨p,c,u⟩:=List.mem_map.1 hm;have:=h.st.lt p c;omega
   exact yH
 .rcases d i hi with a | rfl
  .rw[hu.2 i a];exact h.st.dv i a
  grind
 .have e:rG eP m.sr.tr=rG ρ m.sr.tr:=by
   unfold rG;refine List.map_congr_left fun p c=>?_;rw[hu.2 p.1 (h.st.lt p (List.mem_reverse.1 c))]
  rw[e];exact g.row
def gm.own(h:gm D ρ e av tv dk w m)(i:bD (fun b _=>b=e.vb) w w'){f' pc':Nat}(j:w'.heap[e.vb]?=aO #[pp e.cb,tv,zi (m.sr.fuel:Nat),pp (e.φ f'),zi (pc':Nat),av] 116)
  (k:f'<m.fs.length):gm D ρ e av tv dk w' { m with f:=f',pc:=pc' }/\dc D w w':=by
 have a:∀ b o,b≠e.vb->w.heap[b]?=O o->w'.heap[b]?=O o:=(by grind [bD.block]);have l:∀ {b:Nat} {c:Array Y} {t:Nat},w.heap[b]?=aO c t->t≠116->b≠e.vb:=fun a ht e=>by
  rw[e,h.cell] at a;grind
 have d:dc D w w':=bD.mono i fun b o g e=>by
  subst e;rw[h.cell] at g;exact⟨h.st.ds,_,_,_,(a3R g).symm,.inr (.inr (.inr (.inr (.inl J))))⟩
 refine⟨h.rest ⟨d.toI,yH⟩ (eu.refl _ _) ⟨h.ar.1,?_⟩ (h.st.Ip Dy a j) k,d⟩;rcases h.ar.2 with n | ⟨b,cap,cur,rfl,p,q,r⟩<;>grind
def gm.LX(h:gm D ρ e av tv dk w m){av':Y}{avs':List Y}{l:List Ga}(hr:w1.ownsRow 0 342 5 av' l.length avs')
  (a:w.grownBy w1 av.ownBlock) (hv:av'.ownBlock=av.ownBlock\/∀ g,av'.ownBlock=O g->D g/\w.heap.size<=g) (s:nJ D ρ m.n e.φ e.ψ m.fs.length w avs' l)
  (hw:w2=bR w1 e.vb (ah #[pp e.cb,tv,zi (m.sr.fuel:Nat),pp (e.φ m.f),zi (m.pc:Nat),av'] 116)) :
  gm D ρ e av' tv avs' w2 { m with bz:=l }/\dc D w w2/\qq w w2/\w1.heap[e.vb]?=w.heap[e.vb]?:=by
 have t:=h.cell;have p:∀ (b:Nat) (c:Array Y) (U:Nat),U≠342->w.heap[b]?=aO c U->w1.heap[b]?=aO c U:=(by grind [bn,World.grownBy.block,ZK]);have f1:dc D w w1:=⟨a.os,a.tape,a.output,a.size,fun b o j hm=>by
  rw[a.block b (bn j) (fun e=>?_)]
  .omega
  .obtain⟨cs,d⟩:=h.ES e.symm;rw[j] at d;exact hm ⟨h.da b e.symm,_,_,_,a3R d,.inr zg⟩⟩
 have s1:gV D ρ m.n e.vb 1 116 (Im e.cb (pp (e.φ m.f)) (zi (m.pc:Nat)) av) tv w1 m.sr:=h.st.agW (U:=342) p zo;obtain⟨d,u⟩:=s1.cells Dy (cs':=Im e.cb (pp (e.φ m.f)) (zi (m.pc:Nat)) av') (f:=m.sr.fuel);have he:bR w1 e.vb (ah (kB ((Im e.cb (pp (e.φ m.f)) (zi (m.pc:Nat)) av').setIfInBounds 1 tv) 1 (m.sr.fuel:Nat)) 116 (0,0))=w2:=zg;rw[he] at d u;have q:dc D w w2:=yF;have y:=p _ _ _ zd t;have k:qq w w2:=⟨q.toI,yH⟩;refine⟨⟨d,h.fl,fun i x hx=>(h.fs i x hx).bL k.1 (eu.refl _ _) (yB.refl _ _ _) (i:=i) (x:=x) zg (fun b j=>h.bk i x b hx j) yH,h.bk,h.dp,h.inj,?_,s.bL k.1 k.toR (eu.refl _ _) (yB.refl _ _ _) yH,fun g z=>?_⟩,q,k,yH⟩
 .rw[hw];refine Jy hr fun e=>?_;rcases hr.2 with⟨r,-⟩| ⟨A,cap,cur,r,-,B,-⟩
  .rw[r] at e;cases e
  grind [a4w,a3I]
 grind [da]
def gm.forget(h:gm D ρ e av tv dk w m)(hm:k<=m.bz.length){a:Option Addr}(b:av = .slice a m.bz.length c)
  (hw:w1=bR w e.vb (ah #[pp e.cb,tv,zi (m.sr.fuel:Nat),pp (e.φ m.f),zi (m.pc:Nat),.slice a k c] 116)) :
  gm D ρ e (.slice a k c) tv (dk.take (k*5)) w1 { m with bz:=m.bz.take k }/\dc D w w1/\qq w w1:=by
 have n:=h.ag.len;have hr:w.ownsRow 0 342 5 (.slice a k c) k (dk.take (k*5)):=by
  refine⟨zg,?_⟩;rcases h.ar.2 with⟨d,i⟩| ⟨g,cap,cur,d,i,o,p,q,r,s⟩<;>grind
 have j:w.grownBy w av.ownBlock:=⟨J,J,J,a3O _,yH⟩;obtain⟨t,u,x,-⟩:=h.LX (l:=m.bz.take k) (av':=.slice a k c) (avs':=dk.take (k*5)) zg j (.inl (by rw[b];cases a<;>rfl)) (h.ag.take k) hw;exact yF
theorem gm.cur(h:gm D ρ e av tv dk w m):∃ x,m.fs[m.f]?=O x/\Vy ρ m.n e.φ e.ψ e.fw w m.f x:=
 ⟨_,a3P h.fl,h.fs _ _ (a3P h.fl)⟩
def gm.ard(h:gm D ρ e av tv dk w m){row:Array Y}(p:w.heap[e.ψ m.f]?=aO row 20){y:Sl}(A:Aa ρ m.n w v y)
  (hw:w1=bR w (e.ψ m.f) (ah (row.setIfInBounds k v) 20 (0,0))):gm D ρ e av tv dk w1 (m.set k y)/\dc D w w1:=by
 have q:RQ 20 w w1:=fun b cs T L a=>by
  exact yH
 have d:dc D w w1:=⟨by rw[hw];rfl,by rw[hw];rfl,by rw[hw];rfl,yH,fun b o a hm=>by
  by_cases he:b=e.ψ m.f
  .subst he;rw[p] at a;exact absurd ⟨h.dp _ h.fl,_,_,_,(a3R a).symm,.inr (.inr (.inr (.inr (.inr (.inr J)))))⟩ hm
  exact yH⟩
 have B:Vz e.ψ m.fs.length w w1:=fun b cs a hx=>by
  grind [jg,fl]
 have l:(m.set k y).fs.length=m.fs.length:=List.length_modify ..;have r:∀ (i:Nat) (x:Fm),(m.set k y).fs[i]?=O x->∃ x0,m.fs[i]?=O x0/\x=if m.f=i then{ x0 with slots:=x0.slots.set k y } else x0:=fun i x hx=>by
  have hx:(m.fs.modify m.f fun x=>{ x with slots:=x.slots.set k y })[i]?=O x:=hx;grind
 refine⟨⟨h.st.agW q zo,by rw[l];exact h.fl,fun i x hx=>?_,fun i x b hx a=>?_,(by grind [dp]),fun i j hi c=>h.inj i j zo zo,agV q h.ar zo,?_,h.da⟩,d⟩
 .obtain⟨x0,g,he⟩:=r i x hx;have hm:=h.fs i x0 g;have s:i<m.fs.length:=zg;by_cases hi:m.f=i
  .rw[zip hi] at he;subst hi;obtain⟨⟨cb,M,C,E⟩,F,H,t,N,I⟩:=hm;rw[p] at t;cases t;rw[he];refine⟨⟨cb,?_,C.bL d.toI,E⟩,F,row.setIfInBounds k v,?_,?_,?_⟩
   .exact yH
   .exact yH
   .grind
   .intro j K c;simp only[List.getElem?_set] at c;by_cases z:k=j
    .subst z;rw[zip rfl] at c;split at c
     .rename_i hlt;cases c;exact⟨v,zg,A.bL d.toI (eu.refl _ _)⟩
     grind
    .rw[bU z] at c;obtain⟨u,g1,g2⟩:=I j K c;exact⟨u,zg,g2.bL d.toI (eu.refl _ _)⟩
  .rw[bU hi] at he;subst he;exact hm.bL d.toI (eu.refl _ _) (yB.refl _ _ _) s (fun b a=>h.bk i _ b g a) fun cs P=>by
    rw[hw,jg (fun e=>hi (h.inj _ _ h.fl s e.symm))];omega
 .obtain⟨x0,g,he⟩:=r i x hx;rw[l];refine h.bk i x0 b g ?_;grind
 .have:=h.ag.bL d.toI B (eu.refl _ _) (yB.refl _ _ _) yH;rw[<- l] at this;exact this
end
def least_some{l:List String}(h:l≠[]):∃ m,Instr.least l=O m:=by
 cases l with
 | nil=>grind
 | cons a l=>exact⟨_,J⟩
def aOI{want:Array (String×TypeId)}{got:Array Method}(h:(want.toList.filter fun(name,sig)=>!got.any fun m=>m.name == name && m.sig == sig)≠[]):∃ m,Instr.missingMethod want got=O m:=by
 unfold Instr.missingMethod;obtain⟨l,b⟩:=cj ((want.toList.filter fun(name,sig)=>!got.any fun m=>m.name == name && m.sig == sig).map (·.1));rw[<- b];have c:l≠[]:=by rw[b];simpa using h
 have key:∀ (p:String->Bool)(g:String->String),∃ m,(match l.partition p with | (u,e)=>(Instr.least e <|> Instr.least (u.map g)))=O m:=by
  intro p g;rw[List.partition_eq_filter_filter];by_cases he:l.filter (not ∘ p)=[]
  .rw[he];have hu:l.filter p≠[]:=fun hu=>by
    obtain⟨a,r,rfl⟩:=List.exists_cons_of_ne_nil c;grind
   obtain⟨m,hm⟩:=least_some (l:=(l.filter p).map g) (by simpa using hu);exact ⟨m,hm⟩
  .obtain⟨m,hm⟩:=least_some he;exact ⟨m,by grind⟩
 exact key _ _
def P.v8:Sl->Except jP Tm
 | .term t=>.ok t
 | _=>.error (.fault 5)
theorem P.agX(m:Vm)(i:P.In)(k:Nat):m.at i k=P.v8 (m.slot (i.s.getD k 0)):=by
 grind [Vm.at,P.v8]
def are(P:Program)(u t:TypeId):Bool:=match P.underlying u with
 | some (.interface want)=>(match P.info? t with
  | some i=>!(want.toList.filter fun(name,sig)=>!i.methods.any fun m=>m.name == name && m.sig == sig).isEmpty
  | none=>ae)
 | _=>ae
def aOJ:XA bdQ 89 201=true:=by
 have h:are bdQ 89 201=true:=zk;unfold are at h;unfold XA;split at h
 .rename_i want hu;split at h
  .rename_i i hi;rw[hu,hi];obtain⟨m,hm⟩:=aOI (want:=want) (got:=i.methods) zg;grind
  grind
 .cases h
abbrev TmP(ρ:Nat->Nat)(n:Nat)(w:Z)(r:Except jP Tm)(e:Ending):Prop:=match r with
 | .ok t=>∃ v,e = ai v/\dO ρ n w v t
 | .error t=>e=gW t
abbrev VA(v:Y)(r:Except jP Tm)(e:Ending):Prop:=match r with
 | .ok _=>e = ai v
 | .error t=>e=gW t
def arh{y:Sl}(p:Y)(h:Aa ρ n w v y):Calls bdQ 75 #[p,v] w fun e w'=>w'=w/\VA v (P.v8 y) e:=by
 have c:∀ {T:Nat} {x:Y},(T=171\/T=172\/T=87\/T=175)->v = ak T x->(∃ t,y = .term t/\dO ρ n w v t)->Calls bdQ 75 #[p,v] w fun e w'=>w'=w/\VA v (P.v8 y) e:=by
  rintro T x b rfl ⟨t,rfl,ht⟩;have a:∀ {K:Y->Prop} {X:Y->Z->Prop},RD bdQ (a38 (ak T x) 20 89 G) w K X=K (aq #[ak T x,.bool G]):=by
   rcases b with rfl | rfl | rfl | rfl<;>exact ayC zk x
  refine agT ?_;rw[a];refine bG ?_;refine⟨fun _ w'=>w'=w,?_,?_⟩
  .exact eR
  .rintro s w' rfl d;exact⟨J,J⟩
 cases y with
 | nil=>
  have h:v = aj:=h;subst h;have a:∀ {K:Y->Prop} {X:Y->Z->Prop},RD bdQ (a38 aj 20 89 G) w K X=K (aq #[aj,.bool ae]):=ayE zk zk;refine agT ?_;rw[a];refine bG ?_;refine⟨fun _ _=>False,?_,zg⟩;refine bG ?_;rfl
 | level k=>
  have h:v = ak 201 (zi (k:Nat)):=h;subst h;have a:∀ {K:Y->Prop} {X:Y->Z->Prop},RD bdQ (a38 (ak 201 (zi (k:Nat))) 20 89 G) w K X=K (aq #[aj,.bool ae]):=ayD aOJ zk _;refine agT ?_;rw[a];refine bG ?_;refine⟨fun _ _=>False,?_,zg⟩;refine bG ?_;rfl
 | term t=>
  have h:dO ρ n w v t:=h;have f:=h;cases t with
  | var i=>unfold dO dK at h;grind
  | atom s=>unfold dO dK at h;grind
  | int k=>unfold dO dK at h;grind
  | comp s l=>unfold dO dK at h;grind
def VA.toP{y:Sl}{e:Ending}(h:Aa ρ n w v y)(hv:VA v (P.v8 y) e):TmP ρ n w (P.v8 y) e:=by
 cases y with
 | nil=>exact hv
 | level k=>exact hv
 | term t=>exact⟨v,hv,h⟩
structure Bf(w:Z)(g o:Nat)(i:P.In):Prop where
 row:∃ cur,w.heap[g]?=aO cur 198/\o+4<=cur.size/\RP w cur o i
theorem Bf.bL{w w':Z}(hk:eJ w w'){g o:Nat}{i:P.In}(h:Bf w g o i):Bf w' g o i:=by
 obtain⟨cur,a,b,c⟩:=h;exact⟨cur,hk _ _ _ (yM) a,b,c.bL hk⟩
def Mj{l:List Nat}(a:fO (fun _=>True) w 3 v (vi l))(c:j<l.length) :
  ∃ b cs,v = cS b l.length cs.size/\w.heap[b]?=aO cs 3/\cs[j]?=O (zi ((l[j]:Nat):Int))/\l.length<=cs.size:=by
 obtain⟨b,cs,f,-,d,g⟩:=a.at' (j:=j) (by simpa using c);refine⟨b,cs,zg,d,zg,?_⟩;rcases a with⟨e,-⟩| ⟨h,cs',e,-,i,k,-⟩<;>grind
section
variable{D:Nat->Prop}{ρ:Nat->Nat}{e:Bb}{av tv:Y}{dk:List Y}{w w':Z}{m:Vm}
def gm.RR(h:gm D ρ e av tv dk w m){x:Fm}(hx:m.fs[m.f]?=O x)(hk:k<x.slots.length):∃ row v,w.heap[e.ψ m.f]?=aO row 20/\row.size=x.slots.length/\row[k]?=O v/\Aa ρ m.n w v (m.slot k):=by
 obtain⟨-,-,row,b,c,a⟩:=h.fs _ _ hx;have d:m.slot k=x.slots[k]:=by
  grind [Vm.slot,a3P]
 obtain⟨v,g1,g2⟩:=a k x.slots[k] zg;exact yH
def Aa.one{n:Nat}{v:Y}:∀ {y:Sl},Aa ρ n w v y->v = aj\/∃ t u,v = ak t u
 | .nil,h=>.inl h
 | .level _,h=>.inr ⟨_,_,h⟩
 | .term _,h=>.inr (by obtain⟨a,b,h⟩:=dK.iface h;grind)
def agY(h:gm D ρ e av tv dk w m){x:Fm}(hx:m.fs[m.f]?=O x){i:P.In}(hi:Bf w g o i)(hk:k<i.s.length)(p:i.s[k]<x.slots.length)(I:k<=60) :
  Calls bdQ 211 #[pp e.vb,pq g o,zi (k:Nat)] w fun c w'=>w'=w.drew/\∃ row v,w.heap[e.ψ m.f]?=aO row 20/\row[i.s[k]]?=O v /\
   Aa ρ m.n w v (m.slot i.s[k])/\VA v (P.v8 (m.slot i.s[k])) c:=by
 have q:=h.cell;obtain⟨⟨cb,r,-,-⟩,-,-⟩:=h.fs _ _ hx;obtain⟨row,v,hr,K,d,hv⟩:=h.RR hx p;obtain⟨cur,u,L,-,-,-,sv,y,z⟩:=hi;obtain⟨b,cs,rfl,A,B,M⟩:=Mj z hk;have C:Ext w w.drew:=yF;refine aOC ?_;have E:(k:Int).toNat=k:=zo;have N:(k:Int)<(i.s.length:Nat):=zo;have j:((i.s[k]:Nat):Int).toNat=i.s[k]:=zo;have F:((i.s[k]:Nat):Int)<(x.slots.length:Nat):=zo;have H:=hv.one;rcases H with rfl | ⟨t1,Q,rfl⟩;all_goals
  refine dG q r u (zA y (zA A (zA B (zA @E (zA hr (zA d @j)))))) ?_;refine a3L (arh _ (hv.bL (eJ.ea C) (eu.refl _ _))) ?_;rintro c w1 ⟨rfl,a⟩;cases l:P.v8 (m.slot i.s[k]) with
  | error t=>
   rw[l] at a;have a:c=gW t:=a;subst a;cases t<;>exact⟨J,_,_,hr,d,hv,J⟩
  | ok t=>
   rw[l] at a;have a:c = ai _:=a;subst a;exact⟨J,_,_,hr,d,hv,J⟩
def ZM(h:gm D ρ e av tv dk w m){x:Fm}(hx:m.fs[m.f]?=O x){i:P.In}(hi:Bf w g o i)(hk:k<i.s.length)(b:i.s[k]<x.slots.length)(c:k<=60) :
  Calls bdQ 211 #[pp e.vb,pq g o,zi (k:Nat)] w fun a w'=>w'=w.drew/\TmP ρ m.n w' (m.at i k) a:=by
 refine(agY h hx hi hk b c).mono ?_;rintro a w' ⟨rfl,row,v,-,-,hv,d⟩;have j:Ext w w.drew:=yF;have he:m.at i k=P.v8 (m.slot i.s[k]):=by
  grind [P.agX,a3P]
 rw[he];exact⟨J,d.toP (hv.bL (eJ.ea j) (eu.refl _ _))⟩
end
def aOL:(Tryz.prog.info? 342).map (fun i=>(i.zero,i.size,i.bytes))=O (O (.agg #[zi 0,au V,zi 0,bW,bW]),5,72):=zk
def ari(c:w.ownsRow base 342 5 v n xs){l:List Y}
  (d:w.heap[b]?=aO l.toArray 342) (p:l.length=5) (q:∀ u∈l,u.oneCell'=G)
  (r:n<=900000000) (f:base<=w.heap.size) {K:Y->Z->Prop}
  (h:∀ v' w',w'.ownsRow base 342 5 v' (n+1) (xs++l)->w.grownBy w' v.ownBlock->(v'.ownBlock=v.ownBlock\/∀ k,v'.ownBlock=O k->w.heap.size<=k)->K v' w') :
  WR bdQ (Builtin.append_ #[114,114] 114 #[v,cS b 1 m]) w K X:=by
 obtain⟨i,hi,a⟩:=Option.map_eq_some_iff.1 aOL;simp only[Prod.mk.injEq] at a;obtain⟨g,j,o⟩:=a;exact Sx.DY (m:=1) (t:=114) (e:=342) zk hi g j o J zo c d zo zg zo zo f h
def aOM{t:TypeId}{fr:Nat×Nat}(a:w.heap[g]?=O (ah iF t fr)):w.setRow g cs=bR w g (ah cs t fr):=by
 have hlt:g<w.heap.size:=yH;unfold World.setRow bR
 congr 1
 exact yH
def aON{K:Y->Z->Prop}:WR bdQ (Builtin.copy_ #[200,200] 3 #[.slice (O ⟨g,o,V⟩) n c,bW]) w K X=K (zi 0) w:=
 vw (run_copy_nil (elem:=20) bdQ w _ _ _ _ n c zk zk)
def aOO{row:Array Y}(a:w.heap[g]?=aO iF 20)(f:w.heap[b]?=aO row 20)(hk:k<=row.size)(i:k<=n)(j:n<=iF.size)
  (d:∀ v∈row.toList.take k,v.oneCell'=G) {K:Y->Z->Prop} :
  WR bdQ (Builtin.copy_ #[200,200] 3 #[cS g n c,cS b k pb]) w K X=K (zi (k:Nat)) (bR w g (ah (row.toList.take k++iF.toList.drop k).toArray 20 (0,0))):=by
 have e:(row.toList.take k).length=k:=zg;have h:=run_copy_row bdQ w 200 200 3 20 g 0 n c ⟨b,0,V⟩ k pb iF 20 (row.toList.take k) zk zk a zg
  (by grind [Addr.add,World.cell?,WalkArith.addr_eq]) zo d
 rw[e,aOM a] at h;simp only[List.take_zero,List.nil_append,Nat.zero_add] at h;exact vw h
section
variable{D:Nat->Prop}{ρ:Nat->Nat}{e:Bb}{av tv:Y}{dk:List Y}{w w':Z}{m:Vm}
def gm.aOP(h:gm D ρ e av tv dk w m)(hD:∀ b,w.heap.size<=b->D b)(z:bD (fun b _=>b=e.vb) w w'){fb rb:Nat}{c:Co}{slots:List Sl}{row:Array Y}(M:w.heap.size<=fb)(N:w.heap.size<=rb)
  (P:w'.heap[fb]?=aO #[pp cb,cS rb slots.length slots.length,zi (n:Nat),pp (e.φ f),zi (pc:Nat)] 203) (A:Gj w' cb c)
  (Q:w'.heap[rb]?=aO row 20) (B:row.size=slots.length) (C:Dx ρ m.n w' row slots) (R:f<m.fs.length)
  (S:w'.heap[e.vb]?=aO #[pp e.cb,tv,zi (m.sr.fuel:Nat),pp fb,zi ((0:Nat):Int),av] 116) :
  ∃ φ ψ,gm D ρ ⟨φ,ψ,e.vb,e.cb,e.fw⟩ av tv dk w' { m with fs:=m.fs++[⟨c,slots,n,O f,pc,ae⟩],f:=m.fs.length,pc:=0 }/\dc D w w':=by
 have d:∀ b o,b≠e.vb->w.heap[b]?=O o->w'.heap[b]?=O o:=(by grind [bD.block]);have T:∀ {b:Nat} {c:Array Y} {t:Nat},w.heap[b]?=aO c t->t≠116->b≠e.vb:=fun d ht e=>by
  rw[e,h.cell] at d;grind
 have r:dc D w w':=bD.mono z fun b o s e=>by
  subst e;rw[h.cell] at s;exact⟨h.st.ds,_,_,_,(a3R s).symm,.inr (.inr (.inr (.inr (.inl J))))⟩
 have k:qq w w':=⟨r.toI,yH⟩;obtain⟨vj,E⟩:∃ vj:Nat->Nat,vj=fun i=>if i=m.fs.length then fb else e.φ i:=⟨_,J⟩
 obtain⟨sw,F⟩:∃ sw:Nat->Nat,sw=fun i=>if i=m.fs.length then rb else e.ψ i:=⟨_,J⟩
 have H:vj m.fs.length=fb:=zg;have I:sw m.fs.length=rb:=zg;have l:∀ i,i<m.fs.length->vj i=e.φ i:=zg;have a:∀ i,i<m.fs.length->sw i=e.ψ i:=zg;have u:yB e.φ e.ψ m.fs.length vj sw (m.fs.length+1):=⟨Nat.le_succ _,l,a⟩;have hold:∀ i,i<m.fs.length->e.ψ i<w.heap.size:=fun i hi=>by
  obtain⟨-,-,row,U,-⟩:=h.fs i _ (a3P hi);exact yH
 have y:∀ (i:Nat) (x:Fm),(m.fs++[⟨c,slots,n,O f,pc,ae⟩])[i]?=O x->(i<m.fs.length/\m.fs[i]?=O x)\/(i=m.fs.length/\x=⟨c,slots,n,O f,pc,ae⟩):=zg;have p:∀ i,i<(m.fs++[(⟨c,slots,n,O f,pc,ae⟩:Fm)]).length->i<m.fs.length\/i=m.fs.length:=zg;have hlen:(m.fs++[(⟨c,slots,n,O f,pc,ae⟩:Fm)]).length=m.fs.length+1:=zs;refine⟨vj,sw,⟨?_,zg,fun i x hx=>?_,fun i x b hx K=>?_,fun i hi=>?_,fun i j hi L he=>?_,⟨h.ar.1,?_⟩,?_,h.da⟩,r⟩
 .have:=h.st.Ip Dy d (cs':=Im e.cb (pp (vj m.fs.length)) (zi ((0:Nat):Int)) av) (f:=m.sr.fuel) (yH);omega
 .rcases y i x hx with⟨hi,hx⟩| ⟨rfl,rfl⟩
  .exact(h.fs i x hx).bL k.1 (eu.refl _ _) u hi (fun b d=>h.bk i x b hx d) yH
  .refine⟨⟨cb,?_,A,zg⟩,zg,row,yH,B,C⟩;grind [B6]
 .show b<(m.fs++_).length;rw[hlen];rcases y i x hx with⟨hi,hx⟩| ⟨rfl,rfl⟩
  .have:=h.bk i x b hx K;omega
  grind
 .rcases p i hi with g | rfl
  .grind [dp]
  grind
 .have he:sw i=sw j:=he;rcases p i hi with g | rfl<;>rcases p j L with q | rfl
  .rw[a i g,a j q] at he;exact h.inj i j g q he
  .grind
  .grind
  .rfl
 .rcases h.ar.2 with g | ⟨b,cap,cur,rfl,q,W,X⟩<;>grind
 .have:=h.ag.bL k.1 k.toR (eu.refl _ _) u yH;grind
end
