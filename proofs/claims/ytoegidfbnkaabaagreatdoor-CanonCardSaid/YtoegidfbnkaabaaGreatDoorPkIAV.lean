/- A part of one proof (KE2, KE3, KE5, KE6, KD0, PK2, PK3). -/
import Derived.Test.YtoegidfbnkaabaaGreatDoorPkIAU
import Derived.WalkKit
import Derived.LaidEql
import Derived.Stop.Asserts
import Derived.RowKitTokens
set_option linter.all false
set_option maxRecDepth 100000
set_option maxHeartbeats 8000000
open Option renaming some → O, none → V
open Go renaming Value → Y, World → Z
open Bool renaming true → A, false → G
open Go.Obj renaming cells → ae
open Go.Ending renaming returned → ah
open Go.Value renaming nilIface → ai, iface → aj, tuple → ak, pointer → aq
open Option.some renaming injEq → a07
open Go.Calls renaming mono → a1a
open List renaming drop_eq_getElem_cons → a1h, length_cons → a1i, length_nil → a1v
open Go.Sem renaming run_bind → a1m
open Go.Instr renaming typeAssert → a1s
open Prod.mk renaming injEq → a1z
open Go.World renaming cell?_alloc_lt → a1L, cell? → a1M, frozen?_alloc_old → a2g
open Go.Result renaming andThen → a16
open Array renaming getElem?_eq_none → a26, setIfInBounds_setIfInBounds → a4j
open Go.Ending.panicked renaming injEq → a5M
open Go.Proofs.Tryz renaming prog → bbp
open Go.Proofs.Tryz
namespace Go.Proofs.YtoegidfbnkaabaaGreatDoor
open P
open Go.RowKit Sx
variable{D:Nat->Prop}{E:En}{R:Ending->Z->Prop}{S av buf iv nm o4 o5 tv v vv:Y}{base c cap d e f k' n pb qb so wb:Nat}{cs:Array Y}{out:Bs}{res:Z->Prop}{vars:List Bs}{w':Z}{xs:List Y}{ρ:Nat->Nat}
def apM{w:Z}(h:tJ w wb S nm out):Calls bbp 43 #[pp wb] w fun e w'=>e = ah (zi (out.length:Nat))/\w'=w:=by
 obtain⟨f,buf,g,b,d⟩:=h;obtain⟨a,c,rfl⟩:=il d;refine aMf ?_;exact fm b
def H8(eb:Nat)(w w':Z):Prop:=(∀ (b:Nat) (cs:Array Y) (T:Nat),b≠eb->T≠9->T≠57->w.heap[b]?=aN cs T->w'.heap[b]?=aN cs T) /\
 ∀ (b:Nat) (es:Array MapEntry) (c:Nat),b≠eb->w.heap[b]?=O (.map es c)->w'.heap[b]?=O (.map es c)
theorem H8.of{w:Z}(h:∀ b o,b≠pb->w.heap[b]?=O o->w'.heap[b]?=O o):H8 pb w w':=⟨yH,yH⟩
structure EN(E:En) where
 T:Nat
 pT:Nat
 fN:Nat
 fT:Nat
 eb:Nat
 tf:Array Y
 tc:Array Y
 Mem:(Nat->Prop)->(Nat->Nat)->Z->E.St->Prop
 Good:Nat->E.St->Prop
structure JK{E:En}(X:EN E):Prop where
 st:∀ {D ρ w s},X.Mem D ρ w s->∃ cs tv,vS 1 X.T cs/\ie D ρ (E.nv s) X.eb 1 X.T cs tv w (E.sr s)
 ext:∀ {D ρ w w' s},X.Mem D ρ w s->Ext w w'->X.Mem D ρ w' s
 fuel:∀ {D ρ w w' s C f},X.Mem D ρ w s->w.heap[X.eb]?=aN C X.T->H8 X.eb w w'->w'.heap[X.eb]?=aN (kJ C 1 ((f:Nat):Int)) X.T->X.Mem D ρ w' (E.fu s f)
 apN:∀ s f,E.sr (E.fu s f)=⟨(E.sr s).tr,f⟩
 afB:∀ s f,E.told (E.fu s f)=E.told s
 next:∀ {D ρ w s c d f r},X.Mem D ρ w (E.fu s 1000000)->(∀ b,w.heap.size<=b->D b)->X.Good c s->c<=700->E.nx d f (E.fu s 1000000)=O r ->
  Calls bbp X.fN #[pp X.eb] w (EPost D w (fun p e w'=>e = ah (.bool p.1)/\∃ eQ,X.Mem D eQ w' p.2) r)
 Fe:∀ {s c d f k},X.Good c s->c<=700->ng (E.sr s).tr->E.nx d f (E.fu s 1000000)=O (.ok (A,k))->(E.sr k).fuel<=1000000/\∀ f',X.Good (c+1) (E.fu k f')
 told:∀ {D ρ w s},X.Mem D ρ w s->(∃ c f,X.Good c (E.fu s f))->Calls bbp X.fT (X.tf++#[]++X.tc) w fun e w'=>Ext w w'/\match E.told s with
  | .ok l=>∃ v us,e = ah v/\fJ (fun _=>True) w' 89 v us/\qp ρ (E.nv s) w' us l
  | .error t=>e=ig t
 afC:∀ {s c l},X.Good c s->E.told s = .ok l->jy l
 afD:∀ w,(method (Tryz.prog.types.size+Made.depth) X.pT (pp X.eb) "Next").run bbp w = .ok (X.fN,pp X.eb) w
 cN:Ai bbp X.fN=A
 cT:Ai bbp X.fT=A
def F1:Option Nat->Y
 | none=>ai
 | some k=>aj 27 (.int .i64 (k:Nat))
abbrev YV(X:EN E)(L7:Y)(err:Option Nat):Array Y:=#[aj X.pT (pp X.eb),pq X.eb 1,.func (.func X.fT) X.tf X.tc,L7,F1 err]
structure EO{E:En}(X:EN E)(D:Nat->Prop)(ρ:Nat->Nat)(qb:Nat)(names:List Bs)(w:Z)(q:Qs E):Prop where
 cell:∃ L7,w.heap[qb]?=aN (YV X L7 q.1) 121/\fJ (fun _=>True) w 9 L7 (names.map fun s=>aT s)
 live:q.1=V->X.Mem D ρ w q.2
abbrev Ma(D:Nat->Prop)(qb:Nat)(w w':Z):Prop:=bB (fun b o=>EM D b o\/b=qb) w w'
def afG{w:Z}(h:res w) :
  LV bbp res R [{ target:=.fn (.func 42) #[tv,vv,av],args:=#[]++#[] }] .returning w:=by
 refine Cj zk zs ((aMb tv vv av w).mono ?_);rintro e a w' ⟨rfl,rfl,rfl⟩;exact h
def aMr{w:Z}(h:OD w qb pb cap k' tv vv av o4 iv o5 buf)(t:jQ){d:List PanicEntry}(ht:ig t = .panicked d)
  (j:∀ w',bB (fun b _=>b=qb\/b=cap\/b=k') w w'->OD w' qb pb cap k' tv vv av o4 (F1 (O t.no)) (aT []) (F1 (O t.no))->res w') :
  LV bbp res R [{ target:=.fn (.func 42) #[pp pb,pp cap,pp k'],args:=#[]++#[] }] (.panicking d) w:=by
 have key:∀ {w0:Z} (k:Nat),OD w0 qb pb cap k' tv vv av o4 iv o5 buf->Ext w w0->k=t.no ->
   res (bS (bS (bS w0 qb (ae #[tv,vv,av,o4,F1 (O k)] 121)) cap (ae #[aT []] 9 (0,0))) k' (ae #[F1 (O k)] 57)):=by
  intro w0 k f a hk;subst hk;obtain⟨g,x,l,i,m,n,p⟩:=f;have y:=bh g;have z:=bh i;refine j _ ⟨a.os,a.tape,a.output,by rw[vp,vp,vp];exact a.size,fun b o q c=>?_⟩ ⟨?_,?_,?_,?_,m,n,p⟩
  .rw[jr (fun e=>c (.inr (.inr e))),jr (fun e=>c (.inr (.inl e))),jr (fun e=>c (.inl e))];exact a.ext _ _ q
  .exact yH
  .exact yH
  .exact yH
  exact yH
 cases t with
 | fault e=>
  simp only[ig,a5M] at ht;subst ht;refine Cj zk zs ((aMc h (e:Nat) []).mono ?_);rintro e' r w' ⟨rfl,rfl,rfl⟩;exact key e h yF J
 | Eg=>
  simp only[ig,Od,a5M] at ht;subst ht;refine Cj zk zs ((aMd h []).mono ?_);rintro e' r w' ⟨rfl,rfl,w0,B,rfl⟩;have s:Ext w w0:=yF;obtain⟨g,f,l,i,u⟩:=h;exact key 11 ⟨yH,yH,yH,yH,u⟩ s J
def aMs{X:EN E}(L:JK X){w:Z}{q S:Qs E}{uX:Bs×Nat}(hq:EO X D ρ qb vars w q)(hD:∀ b,w.heap.size<=b->D b)(hDg:¬ D 4)
  (hP:kZ w) (EP:qb≠X.eb) (hqg:qb≠4) (hg:q.1=V->X.Good c q.2) (hc:c<=700) (mU:∀ nm∈vars,nm≠[]/\nm.length<=3000) (hn:vars.length<=12) (hlen:∀ k l,E.told k = .ok l->l.length=vars.length)
  (hr:Jh E vars d f q=O (uX,S)) :
  Calls bbp 27 #[pp qb] w fun e w'=>Ma D qb w w'/\e = ah (ak #[aT uX.1,F1 S.1])/\(S.1=V->uX.2=0)/\(∀ k,S.1=O k->uX.2=k)/\∃ eQ,EO X D eQ qb vars w' S:=by
 suffices H:∀ R:Ending->Z->Prop,(∀ e w',Ma D qb w w'/\e = ah (ak #[aT uX.1,F1 S.1])/\(S.1=V->uX.2=0)/\(∀ k,S.1=O k->uX.2=k)/\(∃ eQ,EO X D eQ qb vars w' S)->R e w') ->
   Calls bbp 27 #[pp qb] w R from H _ yF
 intro R hR;obtain⟨⟨L7,JL,UH⟩,Wj⟩:=hq;obtain⟨err,st⟩:=q;simp only at JL Wj hg;refine aL7 ?_;have lq:=bh JL;obtain⟨na,I,nc,rfl⟩:∃ a n c,L7 = .slice a n c:=by rcases UH with⟨-,rfl⟩| ⟨b,cs,rfl,-⟩<;>exact zg
 obtain⟨K,rA⟩:=cg (((w.alloc (ae #[pp qb] 35)).alloc (ae #[aT []] 9 (0,0))).alloc (ae #[ai] 57));have sA:K.heap.size=w.heap.size+3:=yH;have zp:Ext w K:=yF;have k0:K.heap[w.heap.size]?=aN #[pp qb] 35:=yH;have k1:K.heap[w.heap.size+1]?=aN #[aT []] 9:=yH;have k2:K.heap[w.heap.size+2]?=aN #[ai] 57:=yH;have OE:=zp.ext _ _ JL;obtain⟨b0,hb0⟩:=cg w.heap.size;cases err with
 | some k=>
  simp only[Jh,a07,a1z] at hr;obtain⟨rfl,rfl⟩:=hr;have JL:w.heap[qb]?=aN #[aj X.pT (pp X.eb),pq X.eb 1,.func (.func X.fT) X.tf X.tc,.slice na I nc,aj 27 (zi (k:Nat))] 121:=JL;have OE:K.heap[qb]?=aN #[aj X.pT (pp X.eb),pq X.eb 1,.func (.func X.fT) X.tf X.tc,.slice na I nc,aj 27 (zi (k:Nat))] 121:=OE;refine cO JL ?_;rw[<- rA,size_alloc,size_alloc,size_alloc];have l1:=bh k1;have l2:=bh k2;refine⟨fun w'=>w'.heap[w.heap.size]?=K.heap[w.heap.size]?/\w'.heap[qb]?=K.heap[qb]?,yH,?_⟩;refine cS (pp qb) (fun w' hS=>by have B:=hS.1;rw[k0] at B;have:=bh B;exact fm B) ?_;rw[jI];refine cS (pq qb 4) (fun w' hS=>eV) ?_;refine cS (aj 27 (zi (k:Nat))) (fun w' hS=>by have B:=hS.2;rw[OE] at B;have:=bh B;exact fm B) ?_;refine dF @k1 @k2 ?_;obtain⟨g,y⟩:=cg (bS (bS K.drew (w.heap.size+1) (ae #[aT []] 9 (0,0))) (w.heap.size+1+1) (ae #[aj 27 (zi (k:Nat))] 57));rw[<- y];have Xy:Ext w g:=yF;exact hR _ _ ⟨yF,J,zg,zg,ρ,⟨_,yH,UH.mono zg yH⟩,zg⟩
 | none=>
  have JL:w.heap[qb]?=aN #[aj X.pT (pp X.eb),pq X.eb 1,.func (.func X.fT) X.tf X.tc,.slice na I nc,ai] 121:=JL;have OE:K.heap[qb]?=aN #[aj X.pT (pp X.eb),pq X.eb 1,.func (.func X.fT) X.tf X.tc,.slice na I nc,ai] 121:=OE;have hM:=L.ext (Wj J) zp;have hg:=hg J;obtain⟨cs,tv,YW,gY⟩:=L.st hM;have F2:=gY.cell;have jh:=YW.sz;have hT:X.T≠35/\X.T≠9/\X.T≠57/\X.T≠121:=by rcases YW.ty with h | h<;>rw[h]<;>decide
  obtain⟨C,hC⟩:=cg (kJ (cs.setIfInBounds 1 tv) 1 ((E.sr st).fuel:Int));rw[<- hC] at F2;have hCs:C.size=cs.size:=zg;have le:=bh F2;refine cO JL ?_;rw[<- rA,size_alloc,size_alloc,size_alloc];have h2C:2<C.size:=zo;obtain⟨x2,rX⟩:∃ x2,C[2]?=O x2:=⟨_,Array.getElem?_eq_getElem h2C⟩;have aXq:X.eb≠qb:=zo;have aXr:X.eb≠w.heap.size:=yH;have aMu:X.eb≠w.heap.size+1:=yH;have aMv:X.eb≠w.heap.size+2:=yH;obtain⟨wF,F3⟩:=cg (bS K X.eb (ae (kJ C 1 1000000) X.T (0,0)));have ew:bS K X.eb (ae (C.setIfInBounds 2 (zi 1000000)) X.T (0,0))=wF:=F3.symm;refine jk F2 @k0 OE ?_;rw[ew];have hZ:∀ {g:Z},bB (fun b o=>EM D b o\/b=qb\/w.heap.size<=b) w g->Ma D qb w g:=(by grind [bB.mono,bh]);have hZe:∀ {a b:Z},di D a b->bB (fun b o=>EM D b o\/b=qb\/w.heap.size<=b) a b:=(by grind [bB.mono]);have hZx:∀ {a b:Z},Ext a b->bB (fun b o=>EM D b o\/b=qb\/w.heap.size<=b) a b:=yF;have hEF:di D K wF:=⟨by rw[F3];rfl,by rw[F3];rfl,by rw[F3];rfl,yH,fun b o M hm=>by
   by_cases e:b=X.eb
   .subst e;rw[F2] at M;exact absurd ⟨gY.ds,_,_,_,(Option.some.inj M).symm,YW.mu⟩ hm
   exact yH⟩
  have hMF:X.Mem D ρ wF (E.fu st 1000000):=L.fuel hM F2 (by grind [H8.of,jr]) (yH);have sF:wF.heap.size=w.heap.size+3:=yH;have hDF:∀ b,wF.heap.size<=b->D b:=yH;have mq:¬ lN 121/\¬ lN 35/\¬ lN 9/\¬ lN 57:=by grind [lN]
  obtain⟨r,hx,YY⟩:∃ r,E.nx d f (E.fu st 1000000)=O r/\True:=by
   cases hx:E.nx d f (E.fu st 1000000) with
   | none=>grind [Jh]
   | some r=>grind
  simp only[Jh,hx] at hr;refine⟨X.fN,_,L.afD _,L.cN,?_⟩;refine a1a (L.next hMF hDF hg hc hx) ?_;rintro e w1 ⟨dE,hp⟩;have YZ:di D K w1:=yF;have s1:=dE.size;have j0:w1.heap[w.heap.size]?=aN #[pp qb] 35:=YZ.bK mq.2.1 k0;have j1:w1.heap[w.heap.size+1]?=aN #[aT []] 9:=YZ.bK mq.2.2.1 k1;have j2:w1.heap[w.heap.size+2]?=aN #[ai] 57:=YZ.bK mq.2.2.2 k2;have jq:w1.heap[qb]?=aN #[aj X.pT (pp X.eb),pq X.eb 1,.func (.func X.fT) X.tf X.tc,.slice na I nc,ai] 121:=YZ.bK mq.1 OE;have hZ1:bB (fun b o=>EM D b o\/b=qb\/w.heap.size<=b) w w1:=yF;have aMA:fJ (fun _=>True) w1 9 (.slice na I nc) (vars.map fun s=>aT s):=UH.mono zg (by grind [di.bK,bB.ext]);have lj0:=bh j0;have lj1:=bh j1;have lj2:=bh j2;have ljq:=bh jq;have IV:∀ {g:Z} {k:Nat} {s':E.St},bB (fun b o=>EM D b o\/b=qb\/w.heap.size<=b) w g->g.heap[qb]?=aN #[aj X.pT (pp X.eb),pq X.eb 1,.func (.func X.fT) X.tf X.tc,.slice na I nc,F1 (O k)] 121 ->
    Ma D qb w g/\∃ eQ,EO X D eQ qb vars g (O k,s'):=fun{g k s'} hf hq=>by
   refine⟨hZ hf,ρ,⟨_,hq,?_⟩,zg⟩;refine UH.mono zg fun b cs _ M=>hf.block b _ M ?_;rintro (⟨_,_,_,_,h1,h2⟩| h | h)<;>grind
  have afI:∀ {t:jQ} {ch:List PanicEntry} {W:Z} {s':E.St},ig t = .panicked ch->uX=([],t.no)->S=(O t.no,s')->bB (fun b o=>EM D b o\/b=qb\/w.heap.size<=b) w W->OD W qb w.heap.size (w.heap.size+1) (w.heap.size+1+1) (aj X.pT (pp X.eb)) (pq X.eb 1) (.func (.func X.fT) X.tf X.tc) (.slice na I nc) ai (.string (bs [])) ai ->
    LV bbp (fun g=>RD bbp (Instr.loadAt 9 (pp (w.heap.size+1))) g (fun r1=>RD bbp (Instr.loadAt 57 (pp (w.heap.size+1+1))) g
     (fun r2=>R (ah (ak #[r1,r2])) g) NX) NX) R
     [{ target:=.fn (.func 42) #[pp w.heap.size,pp (w.heap.size+1),pp (w.heap.size+1+1)],args:=#[]++#[] }] (.panicking ch) W:=by
   intro t ch W s' ht ha ji hf hB;subst ha ji;refine aMr hB t ht fun g IS hz=>?_;obtain⟨zq,z0,z1,z2,-⟩:=hz;have z2':g.heap[w.heap.size+1+1]?=aN #[aj 27 (zi (t.no:Nat))] 57:=z2;refine dF @z1 @z2' ?_;obtain⟨r1,r2⟩:=IV (s':=s') (by grind [bB.mono,bB.trans]) zq;grind
  cases r with
  | error t=>
   have hp:e=ig t:=hp;simp only[a07,a1z] at hr;obtain⟨⟨rfl,rfl⟩,rfl⟩:=hr;obtain⟨ch,Om⟩:∃ ch,ig t = .panicked ch:=by cases t<;>exact⟨_,J⟩
   rw[hp,Om];exact afI Om J J hZ1 ⟨jq,j0,j1,j2,zo,zo,zo⟩
  | ok p=>
   obtain⟨b,k⟩:=p;obtain⟨rfl,qt,OF⟩:=hp;cases b with
   | false=>
    simp only[a07,a1z] at hr;obtain⟨⟨rfl,rfl⟩,rfl⟩:=hr;refine dF @j0 @jq ?_;obtain⟨w2,jx⟩:=cg (bS w1 qb (ae #[aj X.pT (pp X.eb),pq X.eb 1,.func (.func X.fT) X.tf X.tc,.slice na I nc,aj 27 (zi 6)] 121));have Q3:bS w1 qb (ae (pD #[aj X.pT (pp X.eb),pq X.eb 1,.func (.func X.fT) X.tf X.tc,.slice na I nc,ai] 4 (Value.iface 27 (zi 6)).cells.toList) 121 (0,0))=w2:=jx.symm;rw[Q3];have i0:w2.heap[w.heap.size]?=aN #[pp qb] 35:=yH;have i1:w2.heap[w.heap.size+1]?=aN #[aT []] 9:=yH;have i2:w2.heap[w.heap.size+2]?=aN #[ai] 57:=yH;have iq:w2.heap[qb]?=aN #[aj X.pT (pp X.eb),pq X.eb 1,.func (.func X.fT) X.tf X.tc,.slice na I nc,aj 27 (zi 6)] 121:=yH;have hZ2:bB (fun b o=>EM D b o\/b=qb\/w.heap.size<=b) w w2:=yF;have li0:=bh i0;have li1:=bh i1;have li2:=bh i2;clear jx Q3;refine⟨fun w'=>w'.heap[w.heap.size]?=w2.heap[w.heap.size]?/\w'.heap[qb]?=w2.heap[qb]?,yH,?_⟩;refine cS (pp qb) (fun w' hS=>by have B:=hS.1;rw[i0] at B;have:=bh B;exact fm B) ?_;rw[jI];refine cS (pq qb 4) (fun w' hS=>eV) ?_;refine cS (aj 27 (zi 6)) (fun w' hS=>by have B:=hS.2;rw[iq] at B;have:=bh B;exact fm B) ?_;refine dF @i1 @i2 ?_;obtain⟨g,y⟩:=cg (bS (bS w2.drew (w.heap.size+1) (ae #[aT []] 9 (0,0))) (w.heap.size+1+1) (ae #[aj 27 (zi 6)] 57));rw[<- y];refine afG ?_;have z1:g.heap[w.heap.size+1]?=aN #[aT []] 9:=yH;have z2:g.heap[w.heap.size+1+1]?=aN #[aj 27 (zi 6)] 57:=yH;have zq:g.heap[qb]?=aN #[aj X.pT (pp X.eb),pq X.eb 1,.func (.func X.fT) X.tf X.tc,.slice na I nc,F1 (O 6)] 121:=by rw[y,jr zo,jr zo];exact iq
    have Y0:bB (fun b o=>EM D b o\/b=qb\/w.heap.size<=b) w g:=by
     rw[y];exact((hZ2.drew).bS (.inl fun _=>.inr (.inr zo))).bS (.inl fun _=>.inr (.inr zo))
    clear y;refine dF @z1 @z2 ?_;obtain⟨r1,r2⟩:=IV (s':=k) Y0 zq;exact hR _ _ ⟨r1,J,zg,zg,r2⟩
   | true=>
    have OF:X.Mem D qt w1 k:=OF;dsimp only at hr;refine dF @j0 @jq ?_;obtain⟨wW,hwW⟩:=cg (w1.alloc (ae #[aq V,bX,pq X.eb 1,.map V] 103));rw[<- hwW];have hEW:Ext w1 wW:=yF;have sk:wW.heap[w1.heap.size]?=aN #[aq V,bX,pq X.eb 1,.map V] 103:=yH;clear hwW;have hMW:=L.ext OF hEW;refine⟨L.cT,?_⟩;refine a1a (L.told hMW ⟨c+1,0,(L.Fe hg hc gY.ok hx).2 0⟩) ?_;rintro e w3 ⟨eK,gQ⟩;have N:Ext w1 w3:=yF;have hZ3:=hZ1.trans (hZx N);cases ht:E.told k with
    | error t=>
     rw[ht] at gQ hr;have gQ:e=ig t:=gQ;simp only[a07,a1z] at hr;obtain⟨⟨rfl,rfl⟩,rfl⟩:=hr;obtain⟨ch,Om⟩:∃ ch,ig t = .panicked ch:=by cases t<;>exact⟨_,J⟩
     rw[gQ,Om];exact afI Om J J hZ3 ⟨N.ext _ _ jq,N.ext _ _ j0,N.ext _ _ j1,N.ext _ _ j2,zo,zo,zo⟩
    | ok l=>
     rw[ht] at gQ hr;obtain⟨v,us,rfl,nE,ld⟩:=gQ;simp only at hr;obtain⟨r0,D8⟩:∃ r0,N3 (E.sr k).tr d vars l ⟨(E.sr k).fuel,[],[]⟩=O r0:=by
      grind
     rw[D8] at hr;obtain⟨ta,aXB,rfl⟩:=nE.sl;have uU:us.length=vars.length:=by rw[ld.length,hlen k l ht]
     obtain⟨hfu,apu⟩:=L.Fe hg hc gY.ok hx;have OG:jy l:=L.afC (apu 0) ((L.afB k 0).trans ht);obtain⟨zJ,LC,afK,UI⟩:=L.st OF;have apV:=UI.ext N;obtain⟨C1,hC1⟩:=cg (zJ.setIfInBounds 1 LC);have afL:=apV.cell;rw[<- hC1] at afL;have aXC:C1.size=zJ.size:=zg;have aCd:=afK.sz;have hTw:X.T≠103/\X.T≠5/\X.T≠180/\X.T≠89/\X.T≠91:=by rcases afK.ty with h | h<;>rw[h]<;>decide
     have hgp:4<w.heap.size:=yH;have aXD:X.eb<w1.heap.size:=zo;have L0:xE (E.sr k).tr w1.heap.size X.eb 1 X.T C1:=⟨UI.ok,zo,zo,zo,(by grind [ie.ds]),hTw.2.1,hTw.2.2⟩;have hP3:kZ w3:=hP.bK fun o x=>by
      refine hZ3.block _ o x ?_;rintro (⟨h,_⟩| h | h)<;>grind
     have EL:lU qt (E.nv k) (E.sr k).tr w1.heap.size X.eb 1 X.T C1 (.map V) w3 ⟨(E.sr k).fuel,[],[]⟩:=
      ⟨apV.sv,⟨aq V,bX,yH,eK.ext _ _ sk,World.ownsRow_nil _ _ _ _⟩,.inl ⟨J,J⟩,afL,hP3,zg⟩
     have i0:=N.ext _ _ j0;have i1:=N.ext _ _ j1;have i2:=N.ext _ _ j2;have iq:=N.ext _ _ jq;have F:∀ {w4:Z} {b:Nat} {o:Obj},mL w1.heap.size X.eb w3 w4->b<w1.heap.size->b≠X.eb->w3.heap[b]?=O o->w4.heap[b]?=O o:=fun h M ed x=>h.block _ _ x (by rintro (e | e | ⟨e,_⟩)<;>omega);have aXE:l.length=vars.length:=zg;have hZw:∀ {w4:Z},mL w1.heap.size X.eb w3 w4->bB (fun b o=>EM D b o\/b=qb\/w.heap.size<=b) w w4:=fun h=>hZ3.trans (bB.mono h fun b o M hm=>by
      rcases hm with e | e | ⟨e,_⟩
      .exact yH
      .subst e;rw[afL] at M;exact .inl ⟨UI.ds,_,_,_,(Option.some.inj M).symm,afK.mu⟩
      exact yH)
     have aMF:=K5 UI.ok;refine bG ?_;rw[uU];refine⟨fun m z w4=>∃ (j:Nat) (i:Ws),z 49=zi (j:Nat)/\j<=vars.length/\m=vars.length-j/\Ht qt (E.nv k) (E.sr k).tr w1.heap.size X.eb 1 X.T C1 w4 i/\mL w1.heap.size X.eb w3 w4 /\
       N3 (E.sr k).tr d (vars.drop j) (l.drop j) i=O r0/\i.cW<=60000000+4000*j/\i.seen.length<=i.out.length,
      ⟨_,0,_,J,Nat.zero_le _,J,⟨_,EL⟩,bB.refl _ _,D8,by grind [Ws.cW],Nat.le_refl _⟩,?_⟩
     intro m z dd w4 hI;clear dd;refine toPr ?_;obtain⟨j,i,Rc,hj,rfl,⟨nmj,OH⟩,P,Q,aoF,Ly⟩:=hI;have p0:=F P zo zo i0;have p1:=F P zo zo i1;have p2:=F P zo zo i2;have pqz:=F P zo zo iq;have lp0:=bh p0;have lpq:=bh pqz;have s4:=P.size;have hkT:∀ {b:Nat} {cs:Array Y} {U:Nat},U≠5->U≠103->U≠X.T->w3.heap[b]?=aN cs U->w4.heap[b]?=aN cs U:=fun{b cs U} u1 u2 u3 x=>P.block _ _ x (by
      rintro (e | e | ⟨_,⟨cs',z',e⟩| ⟨_,_,e⟩⟩)
      .rw[e,eK.ext _ _ sk] at x;injection x with x;injection x with _ x _;exact u2 x.symm
      .grind
      .grind
      grind)
     by_cases hlt:j<vars.length
     .have aMG:j<us.length:=zo;have afQ:j<l.length:=zo;obtain⟨tb,tcs,e1,-,e3,e4⟩:=nE.at' (j:=j) aMG;obtain⟨u,e5,hu⟩:=ld.at j afQ;rw[e5] at e4;rw[uU] at e1;simp only[Value.slice.injEq,true_and] at e1;obtain⟨rfl,rfl⟩:=e1;have Y1:=hkT zd zd (fun e=>hTw.2.2.2.1 e.symm) e3;obtain⟨nb,xK,n1,-,n3,n4⟩:=aMA.at' (j:=j) zg;have n4:xK[j]?=O (aT (vars[j])):=by rw[n4,List.getElem?_map,List.getElem?_eq_getElem hlt];rfl
      rw[List.length_map] at n1;simp only[Value.slice.injEq] at n1;obtain⟨rfl,rfl,rfl⟩:=n1;have n3':=hkT zo zo zo (N.ext _ _ n3);have jV:(j:Int).toNat=j:=zo;have Df:(j:Int)<(vars.length:Nat):=zo;obtain⟨tvv,xvv,Ou⟩:=hu.iface;rw[Ou] at e4;obtain⟨DL,Ko⟩:=mU vars[j] (List.getElem_mem hlt);rw[a1h hlt,a1h afQ,N3] at Q;obtain⟨c0,nr,Y2⟩:∃ c0 nr,vars[j]=c0::nr:=by
       cases hx:vars[j] with
       | nil=>grind
       | cons c0 nr=>grind
      by_cases h95:c0=95
      .subst h95;rw[Y2,List.head?_cons,zip rfl] at Q;rw[Y2] at n4;refine dM Rc @Y1 @e4 (zA @p0 (zA @pqz (zA @n3' (zA @n4 @jV)))) ?_;have e95:(((((95:UInt8)::nr).getD 0 0).toNat:Nat):Int)=95:=rfl;refine dF @e95 Rc ?_;exact⟨vars.length-(j+1),zo,j+1,i,zs,zo,J,⟨nmj,OH⟩,P,Q,zo,Ly⟩
      .rw[Y2,List.head?_cons,bI zg] at Q;rw[Y2] at n4;have e95:¬ (((((c0:UInt8)::nr).getD 0 0).toNat:Nat):Int)=95:=by
        simp only[List.getD_cons_zero];intro h;apply h95;have:c0.toNat=95:=zo;exact UInt8.toNat_inj.1 this
       obtain⟨s1,eg⟩:=cg (if i.out=[] then i else i.add [44,32]);rw[<- eg] at Q;have aoG:i.cW=i.out.length+60*i.fuel:=rfl;have aXI:s1.cW<=i.cW+2/\s1.seen.length<=s1.out.length:=by
        rw[eg];split
        .omega
        .exact⟨by rw[Ws.pO];simp,o9 Ly⟩
       refine dM Rc @Y1 @e4 (zA @p0 (zA @pqz (zA @n3' (zA @n4 @jV)))) ?_;refine⟨fun _ w5=>Ht qt (E.nv k) (E.sr k).tr w1.heap.size X.eb 1 X.T C1 w5 s1/\mL w1.heap.size X.eb w3 w5,?_,?_⟩
       .refine bG ?_;refine a1a (apM OH.bu) ?_;rintro e w5 ⟨rfl,rfl⟩;by_cases h0:i.out=[]
        .rw[zip h0] at eg;have vW:¬ (0:Int)<(i.out.length:Int):=zg;refine cO vW ?_;exact⟨⟨nmj,yH⟩,P⟩
        .rw[bI h0] at eg;have vW:(0:Int)<(i.out.length:Int):=by grind [List.length_pos_iff]
         refine cO vW ?_;refine a1a (Hu OH L0 [44,32] (by simp;omega)) ?_;rintro e w6 ⟨⟨ve,rfl⟩,pQ,A4⟩;exact⟨⟨nmj,yH⟩,P.trans A4⟩
       .rintro s5 w5 ⟨⟨On,oN⟩,jc⟩ d5;clear d5;have p05:=F jc zo zo i0;have pq5:=F jc zo zo iq;have aMM:∀ {b:Nat} {cs:Array Y} {U:Nat},U≠5->U≠103->U≠X.T->w3.heap[b]?=aN cs U->w5.heap[b]?=aN cs U:=fun{b cs U} u1 u2 u3 x=>jc.block _ _ x (by
         rintro (e | e | ⟨_,⟨cs',z',e⟩| ⟨_,_,e⟩⟩)
         .rw[e,eK.ext _ _ sk] at x;injection x with x;injection x with _ x _;exact u2 x.symm
         .grind
         .grind
         grind)
        have n35:=aMM zo zo zo (N.ext _ _ n3);obtain⟨s2,mG⟩:=cg (s1.add (c0::nr++[32,61,32]));rw[<- mG] at Q;have yg:(c0::nr).length<=3000:=zg;have ap2:s2.cW<=s1.cW+3003/\s2.seen.length<=s2.out.length:=by
         grind [o9,Ws.pO,List.length_append,a1i,a1v]
        have aXJ:s1.cW=s1.out.length+60*s1.fuel:=rfl;refine⟨fun _ w6=>Ht qt (E.nv k) (E.sr k).tr w1.heap.size X.eb 1 X.T C1 w6 s2/\mL w1.heap.size X.eb w3 w6,?_,?_⟩
        .refine dM Rc @p05 @pq5 (zA @n35 (zA @n4 @jV)) ?_;rw[M8 _ _ (by grind [a1i,a1v])];refine a1a (Hu (oN.ext (bB.drew yF)) L0 (c0::nr++[32,61,32]) (by grind [List.length_append,a1i,a1v])) ?_;rintro e w6 ⟨⟨ve,rfl⟩,pQ,A4⟩;exact⟨⟨On,yH⟩,jc.trans ((bB.drew yF).trans A4)⟩
        .rintro s6 w6 ⟨⟨YU,pQ⟩,A4⟩ d6;clear d6;obtain⟨r1,qI⟩:∃ r1,ix (E.sr k).tr d l[j] 0 s2=O r1:=by
          cases hy:ix (E.sr k).tr d l[j] 0 s2 with
          | none=>rw[hy] at Q;cases Q
          | some r1=>grind
         rw[qI] at Q;have htj:eu l[j]:=Ju OG afQ;have Y3:dR qt (E.nv k) w6 (aj tvv xvv) l[j]:=by
          rw[<- Ou];exact hu.bK (EL.kv L0 A4).toT
         refine a1a ((cw d).tm (least:=0) L0 ⟨YU,pQ⟩ Y3 htj zo ap2.2 qI) ?_;rintro e w7 ⟨zh,mX⟩;have aMO:=A4.trans zh;cases r1 with
         | none=>
          obtain⟨rfl,-,-⟩:=mX;have Q:O V=O r0:=Q;cases Q;simp only[a07,a1z] at hr;obtain⟨⟨rfl,rfl⟩,rfl⟩:=hr;have hq7:OD w7 qb w.heap.size (w.heap.size+1) (w.heap.size+1+1) (aj X.pT (pp X.eb)) (pq X.eb 1) (.func (.func X.fT) X.tf X.tc) (.slice (O ⟨nb,0,V⟩) vars.length xK.size) ai (.string (bs [])) ai:=
           ⟨yH,yH,yH,yH,zo,zo,zo⟩
          exact afI (t:=.Eg) (s':=k) J J J yH hq7
         | some s7=>
          obtain⟨rfl,YJ⟩:=mX;refine cO Rc ?_;obtain⟨g1,g2⟩:=(aMF d).tm _ _ _ _ htj zo ap2.2 qI;exact⟨vars.length-(j+1),zo,j+1,s7,zs,zo,J,YJ,aMO,Q,zo,g2⟩
     .have fD:j=vars.length:=zo;subst fD;have D8:r0=O i:=by
       rw[List.drop_of_length_le (Nat.le_refl _),N3] at Q<;>grind
      subst D8;simp only[a07,a1z] at hr;obtain⟨⟨rfl,rfl⟩,rfl⟩:=hr;have H4:=F P zo zo i1;have LW:=F P zo zo i2;have lp1:=bh p1;have lp2:=bh p2;have hZ4:=hZw P;have Lf:∀ {W g:Z} (tx:Bs),mL w1.heap.size X.eb w3 W->W.heap[X.eb]?=aN (kJ C1 1 i.fuel) X.T->g=bS (bS W (w.heap.size+1) (ae #[aT tx] 9)) (w.heap.size+1+1) (ae #[ai] 57) ->
        g.heap[w.heap.size+1]?=aN #[aT tx] 9/\g.heap[w.heap.size+1+1]?=aN #[ai] 57/\Ma D qb w g/\∃ eQ,EO X D eQ qb vars g (V,E.fu k i.fuel):=by
       intro W g tx Re hcx y;have x1:=F Re zo zo i1;have x2:=F Re zo zo i2;have xq:=F Re zo zo iq;have lx1:=bh x1;have lx2:=bh x2;have x:∀ b,b≠w.heap.size+1->b≠w.heap.size+1+1->g.heap[b]?=W.heap[b]?:=fun b h1 h2=>by rw[y,jr h2,jr h1]
       have z1:g.heap[w.heap.size+1]?=aN #[aT tx] 9:=by rw[y,jr zo];exact yH
       have z2:g.heap[w.heap.size+1+1]?=aN #[ai] 57:=yH;have Y0:bB (fun b o=>EM D b o\/b=qb\/w.heap.size<=b) w g:=by
        rw[y];exact((hZw Re).bS (.inl fun _=>.inr (.inr zo))).bS yH
       have zq:g.heap[qb]?=aN (YV X (.slice na I nc) V) 121:=by rw[x _ zo zo];grind
       have rD:H8 X.eb w1 g:=by
        refine⟨fun b cs U M u1 u2 fg=>?_,fun b es c M fg=>?_⟩
        .have pK:=bh fg;rw[x b (fun e=>by rw[e,j1] at fg;injection fg with fg;injection fg with _ fg _;exact u1 fg.symm) (fun e=>by rw[e,j2] at fg;injection fg with fg;injection fg with _ fg _;exact u2 fg.symm)];exact F Re pK M (N.ext _ _ fg)
        .have pK:=bh fg;rw[x b (fun e=>by rw[e,j1] at fg;cases fg) (fun e=>by rw[e,j2] at fg;cases fg)];exact F Re pK M (N.ext _ _ fg)
       have hcz:g.heap[X.eb]?=aN (kJ (kJ C1 1 ((E.sr k).fuel:Int)) 1 (i.fuel:Nat)) X.T:=by
        rw[x _ aMu aMv,hcx];have e1:kJ (kJ C1 1 ((E.sr k).fuel:Int)) 1 (i.fuel:Int)=kJ C1 1 (i.fuel:Int):=by
         unfold kJ;rw[a4j]
        grind
       have jF:=UI.cell;rw[<- hC1] at jF;have hMz:=L.fuel OF jF rD hcz;have hnz:fJ (fun _=>True) g 9 (.slice na I nc) (vars.map fun s=>aT s):=UH.mono zg fun b cs _ M=>Y0.block b _ M (by
        rintro (⟨_,_,_,_,h1,h2⟩| h | h)<;>grind)
       exact⟨z1,z2,hZ Y0,qt,yH,zg⟩
      refine cO Rc ?_;refine a1a (apM OH.bu) ?_;rintro e w5 ⟨rfl,rfl⟩;by_cases h0:i.out=[]
      .have vW:(i.out.length:Int)=0:=zg;refine jk vW @p1 @p2 ?_;obtain⟨g,y⟩:=cg (bS (bS w5 (w.heap.size+1) (ae #[aT [116,114,117,101]] 9 (0,0))) (w.heap.size+1+1) (ae #[ai] 57));obtain⟨z1,z2,z3,z4⟩:=Lf _ P OH.fu y;rw[<- y];refine afG ?_;refine dF @z1 @z2 ?_;grind
      .have vW:¬ (i.out.length:Int)=0:=by grind [List.length_pos_iff]
       refine cO vW ?_;refine a1a (aew OH.bu h0) ?_;rintro e w6 ⟨rfl,A4⟩;have afR:=P.trans (A4.toW X.eb);have p16:=F afR zo zo i1;have p26:=F afR zo zo i2;refine dF @p16 @p26 ?_;obtain⟨g,y⟩:=cg (bS (bS w6 (w.heap.size+1) (ae #[aT i.out] 9)) (w.heap.size+1+1) (ae #[ai] 57));obtain⟨z1,z2,z3,z4⟩:=Lf _ afR (A4.block _ _ OH.fu (by
        rintro (h | ⟨_,_,_,h⟩)<;>grind)) y
       rw[<- y];refine afG ?_;refine dF @z1 @z2 ?_;grind
def H8.toI{w:Z}(h:H8 pb w w'){C:Array Y}{T:Nat}(d:lN T)(f:w.heap[pb]?=aN C T):eR w w':=fun b cs U a c=>
 h.1 b cs U (fun e=>by rw[e,f] at c;cases c;exact a (.inl d)) (fun e=>a (.inr (.inl e))) (fun e=>a (.inr zg)) c
theorem afS{w:Z}(h:H8 pb w w'){size:Nat}(a:w.ownsRow base e size v n xs)(c:v.ownBlock≠O pb)(d:e≠9)(f:e≠57):w'.ownsRow base e size v n xs:=by
 refine⟨a.1,?_⟩;rcases a.2 with k | ⟨b,cap,cur,rfl,g,i,j⟩
 .exact yH
 .exact .inr ⟨b,cap,cur,J,g,h.1 _ _ _ (fun e=>c (by rw[<- e];rfl)) d f i,j⟩
def ie.ap4{T:Nat}{w:Z}{s:Sr}(h:ie D ρ n pb so T cs tv w s)(a:vS so T cs)(hk:H8 pb w w'){C:Array Y}
  (g:w.heap[pb]?=aN C T) (i:w'.heap[pb]?=aN (kJ C so (f:Int)) T):ie D ρ n pb so T cs tv w' { s with fuel:=f }:=by
 have j:T≠87/\T≠91/\T≠180/\T≠89:=by rcases a.ty with h | h<;>subst h<;>decide
 have hC:C=kJ (cs.setIfInBounds so tv) so s.fuel:=by
  have:=h.cell;grind
 refine⟨h.sv.bK fun b c t ht d=>hk.1 b c t (fun e=>?_) zo zo d,h.dv,?_,(by grind [afS,row,Yh]),h.dr,h.ds,h.nd,h.lt,h.ok⟩
 .grind
 grind [a4j]
structure WkQ(base:List Cl)(nv wb mb xb:Nat)(vv:Y)(D:Nat->Prop)(ρ:Nat->Nat)(w:Z)(k:Wk):Prop where
 wk:QM D ρ wb mb vv w k
 bs:B0 w mb base
 vr:fJ (fun _=>True) w 89 vv (mM ρ (List.range nv))
 nv:nv<=k.n
 bx:w.heap[xb]?=aN #[pp wb] 122
def wkX(base:List Cl)(M nv wb mb xb:Nat)(vv:Y):EN (XJ base nv) where
 T:=130
 pT:=122
 fN:=223
 fT:=40
 eb:=wb
 tf:=#[]
 tc:=#[pp xb]
 Mem D ρ w k:=WkQ base nv wb mb xb vv D ρ w k
 Good c k:=me M (c*1000000) { k with sr:={ k.sr with fuel:=0 } }/\lM k.sr
theorem afU{ρ:Nat->Nat}{n:Nat}{w:Z}:∀ {l:List Nat},(∀ i∈l,i<n)->qp ρ n w (mM ρ l) (l.map .var)
 | [],_=>by unfold qp iT;rfl
 | i::l,h=>by
  unfold qp iT;refine⟨_,_,J,?_,afU zg⟩;unfold dL;exact⟨h i (List.mem_cons_self ..),J⟩
theorem P.afV:∀ (l:List Nat),jy (l.map .var)
 | []=>by unfold jy;trivial
 | i::l=>by unfold jy;exact⟨am4,P.afV l⟩
theorem aMW(base:List Cl)(M nv wb mb xb:Nat)(vv:Y)(gZ:∀ c∈base,zx M c)(hM:M<=100000):JK (wkX base M nv wb mb xb vv) where
 st:=by
  rintro D ρ w s ⟨⟨todo,av,tv,dw,h⟩,-⟩;exact⟨_,tv,FX,h.st⟩
 ext:=by
  rintro D ρ w w' s ⟨⟨todo,av,tv,dw,h⟩,h2,h3,h4,h5⟩ hE;exact⟨⟨_,_,_,_,h.ext hE⟩,(by grind [eR.eo,B0.bK,bB.ext]),h3.mono zg (by grind [bB.ext]),h4,hE.ext _ _ h5⟩
 fuel:=by
  rintro D ρ w w' s C f ⟨⟨todo,av,tv,dw,h⟩,h2,h3,h4,h5⟩ hc hk nB;have hI:eR w w':=hk.toI (T:=130) (by grind [lN]) hc;have gx:av.ownBlock≠O wb:=fun e=>by
   obtain⟨cs,h1⟩:=h.EF e;have hc:w.heap[wb]?=aN C 130:=hc;grind
  refine⟨⟨todo,av,tv,dw,h.st.ap4 FX hk hc nB,h.td.bK hI (eD.refl _ _),afS hk h.ar gx zo zo,h.ag.bK hI (eD.refl _ _),h.da⟩,
   h2.bK hI fun es c hm=>hk.2 _ es c (fun e=>?_) hm,h3.jn hI (yM),h4,hI _ _ _ (yM) h5⟩
  grind
 apN:=fun s f=>rfl
 afB:=fun s f=>rfl
 next:=by
  rintro D ρ w s c d f r ⟨h1,h2,h3,h4,h5⟩ hD ⟨hg,hs⟩ hc hr;have jK:me M (c*1000000+1000000) { s with sr:={ s.sr with fuel:=1000000 } }:=by
   have g1:s.sr.tr.length+0<=c*1000000:=hg.cW;have g2:s.bz.length+0<=c*1000000:=hg.nL;exact⟨⟨hg.todo,hg.ag,hg.marks,hg.mono⟩,by show s.sr.tr.length+1000000<=_;omega,zg⟩
  have hr:kY base d f A { s with sr:={ s.sr with fuel:=1000000 } }=O r:=hr;refine(aLJ h1 hD h2 gZ hM zo jK hr).mono ?_;rintro e w' ⟨hE,hp⟩;refine⟨hE,?_⟩;cases r with
  | error t=>omega
  | ok p=>
   obtain⟨rfl,eQ,hu,hm⟩:=hp;have hI:=di.toI hE;refine⟨J,eQ,hm,h2.fr hE,?_,Nat.le_trans h4 hu.1,(by grind [lN,di.bK])⟩;rw[aoT hu (fun i hi=>Nat.lt_of_lt_of_le (List.mem_range.1 hi) h4)];exact h3.jn hI (yM)
 Fe:=by
  rintro s c d f k ⟨hg,hs⟩ hc-hr;have jK:me M (c*1000000+1000000) { s with sr:={ s.sr with fuel:=1000000 } }:=by
   have g1:s.sr.tr.length+0<=c*1000000:=hg.cW;have g2:s.bz.length+0<=c*1000000:=hg.nL;exact⟨⟨hg.todo,hg.ag,hg.marks,hg.mono⟩,by show s.sr.tr.length+1000000<=_;omega,zg⟩
  have hr:kY base d f A { s with sr:={ s.sr with fuel:=1000000 } }=O (.ok (A,k)):=hr;obtain⟨h1,h2,h3,h4⟩:=XI gZ f A { s with sr:={ s.sr with fuel:=1000000 } } _ jK ⟨hs.FH,hs.ok⟩ hr;refine⟨h4,fun f'=>⟨?_,h2.FH,h2.ok⟩⟩;have g1:k.sr.tr.length+k.sr.fuel<=c*1000000+1000000:=h1.cW;have g2:k.bz.length+k.sr.fuel<=c*1000000+1000000:=h1.nL;exact⟨⟨h1.todo,h1.ag,h1.marks,h1.mono⟩,by show k.sr.tr.length+0<=(c+1)*1000000;omega,by show k.bz.length+0<=(c+1)*1000000;omega⟩
 told:=by
  rintro D ρ w s ⟨⟨todo,av,tv,dw,h⟩,h2,h3,h4,h5⟩ -;have hc:=h.cell;obtain⟨va,vc,xn⟩:=h3.sl;show Calls bbp 40 #[pp xb] w _;refine aL5 ?_;rw[xn] at hc;refine dF h5 hc ?_;refine⟨yF,_,_,J,zg,afU fun i hi=>Nat.lt_of_lt_of_le (List.mem_range.1 hi) h4⟩
 afC:=by
  rintro s c l-h;have h:Except.ok ((List.range nv).map Tm.var)=Except.ok l:=h;grind [P.afV]
 afD:=fun w=>by
  show(method (Tryz.prog.types.size+Made.depth) 122 (pp wb) "Next").run bbp w = .ok (223,pp wb) w
  kernel_rfl
 cN:=by show Ai bbp 223=A;kernel_rfl
 cT:=by show Ai bbp 40=A;kernel_rfl
open Go.Extern.Stop Go.Stop Go.Extern
def aMX(t:Addr)(w:Z):(ReflectliteValue.unpack (aj 78 (aq (O t)))).run bbp w
 = .ok (.agg #[pq 12 78,pp w.heap.size,.int .u64 150]) (w.alloc (ae #[aq (O t)] 78)):=zk
def aMY(a:Addr)(w:Z):(ReflectliteValue.methodAny (ReflectliteValue.valueError "reflectlite.Value.Type" 0) (fun t _ _ _=>ReflectliteType.toType t) #[.agg #[pq 12 78,aq (O a),.int .u64 150]]).run bbp w
 = .ok (aj 219 (.agg #[pq 12 78])) w:=zk
def aMZ(w:Z):((ReflectliteType.abiMethod fun t=>Functor.map (fun a:Nat=>Value.int IntKind.u8 (a:Int)) (Rtype.kind t)) #[pq 12 78]).run bbp w = .ok (.int .u8 22) w:=zk
def aM0(w:Z):((ReflectliteType.abiMethod fun t=>Functor.map (fun a:Nat=>Value.int IntKind.u8 (a:Int)) (Rtype.kind t)) #[pq 12 27]).run bbp w = .ok (.int .u8 2) w:=zk
def ap5(a:Addr)(w:Z):(ReflectliteValue.parts (.agg #[pq 12 78,aq (O a),.int .u64 150])).run bbp w = .ok (O (78,a,150)) w:=zk
def aM1(a p:Addr)(W:Z)(b:W.cell? a=O (aq (O p))) :
  (ReflectliteValue.method (ReflectliteValue.valueError "reflectlite.Value.IsNil" 0) ReflectliteValue.isNil #[.agg #[pq 12 78,aq (O a),.int .u64 150]]).run bbp W = .ok (.bool G) W:=by
 rw[XA];simp only[a1m,ap5,a16];simp [ReflectliteValue.isNil,loadVar,isAgg,underlying,underlying78,b,a16]
def aM2(w:Z):(ReflectliteType.method ReflectliteType.elem #[.agg #[pq 12 78]]).run bbp w = .ok (aj 219 (.agg #[pq 12 27])) w:=zk
def aM3(w:Z):(ReflectliteType.relation "Implements" ReflectliteType.implements_ #[.agg #[pq 12 27],aj 219 (.agg #[pq 12 57])]).run bbp w = .ok (.bool A) w:=zk
def ap6(v:Y)(w:Z):(ReflectliteType.typeOf #[aj 27 v]).run bbp w = .ok (aj 219 (.agg #[pq 12 27])) w:=zk
def aM4(w:Z):(ReflectliteType.relation "AssignableTo" ReflectliteType.assignableTo #[.agg #[pq 12 27],aj 219 (.agg #[pq 12 27])]).run bbp w = .ok (.bool A) w:=zk
def aM5(e:Int)(w:Z):(ReflectliteValue.unpack (aj 27 (zi e))).run bbp w
 = .ok (.agg #[pq 12 27,pp w.heap.size,.int .u64 130]) (w.alloc (ae #[zi e] 27)):=zk
def aM6(w:Z):(Rtype.elem? 78).run bbp w = .ok (O 27) w:=zk
def aM7(p:Addr)(w:Z):(ReflectliteValue.mk 27 p ReflectliteValue.flagAddr).run bbp w = .ok (.agg #[pq 12 27,aq (O p),.int .u64 386]) w:=zk
def aM8(a p:Addr)(W:Z)(b:W.cell? a=O (aq (O p))) :
  (ReflectliteValue.method (ReflectliteValue.valueError "reflectlite.Value.Elem" 0) ReflectliteValue.elem #[.agg #[pq 12 78,aq (O a),.int .u64 150]]).run bbp W
   = .ok (.agg #[pq 12 27,aq (O p),.int .u64 386]) W:=by
 rw[XA];simp only[a1m,ap5,a16];simp [ReflectliteValue.elem,loadVar,isAgg,underlying,underlying78,b,a16,aM6,aM7]
def aM9(a:Addr)(w:Z):(ReflectliteValue.parts (.agg #[pq 12 27,aq (O a),.int .u64 386])).run bbp w = .ok (O (27,a,386)) w:=zk
def aNa(a:Addr)(w:Z):(ReflectliteValue.parts (.agg #[pq 12 27,aq (O a),.int .u64 130])).run bbp w = .ok (O (27,a,130)) w:=zk
def aNb(w:Z):(Rtype.directlyAssignable 27 27).run bbp w = .ok A w:=zk
def aNc(a b:Addr)(e:Int)(c:Y)(W:Z)(d:W.cell? b=O (zi e))(ht:W.cell? a=O c)(f:W.frozen? a=G) :
  (ReflectliteValue.set #[.agg #[pq 12 27,aq (O a),.int .u64 386],.agg #[pq 12 27,aq (O b),.int .u64 130]]).run bbp W
   = .ok (ak #[]) (W.setCell a (zi e)):=by
 rw[amD];simp only[a1m,aM9,aNa,a16];simp [ReflectliteValue.flagAddr,loadVar,isAgg,underlying,underlying27,d,a16,aNb,storeVar,Value.cells,storeCells,Addr.add];rw[run_store bbp W a _ _ (by rfl)];grind
def aNd(e:Int)(t:Addr)(Fz:Y)(w:Z)(hg:w.cell? ⟨0,0,V⟩=O (aj 219 (.agg #[pq 12 57])))(K7:w.cell? t=O Fz)(GX:w.frozen? t=G) :
  Calls bbp 29 #[aj 27 (zi e),aj 78 (aq (O t))] w fun ev w'=>ev = ah (.bool A)/\w'=((((w.alloc (ae #[aq (O t)] 78)).alloc (ae #[pq 12 78,pp w.heap.size,.int .u64 150] 158)).alloc (ae #[pq 12 78,pp w.heap.size,.int .u64 150] 158)).alloc (ae #[zi e] 27)).setCell t (zi e):=by
 have h6:=@run_callFunc_extern bbp 54 _ (fun args=>ReflectliteValue.unpack (args.getD 0 (ak #[]))) func54 zk zk zk zk;have h7:=@run_callFunc_extern bbp 55 _ (ReflectliteValue.methodAny (ReflectliteValue.valueError "reflectlite.Value.Type" 0) (fun t _ _ _=>ReflectliteType.toType t)) func55 zk zk zk zk;have h8:=@run_callFunc_extern bbp 56 _ (ReflectliteValue.method (ReflectliteValue.valueError "reflectlite.Value.IsNil" 0) ReflectliteValue.isNil) func56 zk zk zk zk;have Hc:=@run_callFunc_extern bbp 196 _ (ReflectliteType.abiMethod fun t=>do pure (.int .u8 (<- Rtype.kind t))) func196 zk zk zk zk;have h37:=@run_callFunc_extern bbp 238 _ (ReflectliteType.method ReflectliteType.elem) func238 zk zk zk zk;have h38:=@run_callFunc_extern bbp 239 _ (ReflectliteType.relation "Implements" ReflectliteType.implements_) func239 zk zk zk zk;have tZ:=@run_callFunc_extern bbp 87 _ ReflectliteType.typeOf func87 zk zk zk zk;have zt:=@run_callFunc_extern bbp 236 _ (ReflectliteType.relation "AssignableTo" ReflectliteType.assignableTo) func236 zk zk zk zk;have Hd:=@run_callFunc_extern bbp 88 _ (ReflectliteValue.method (ReflectliteValue.valueError "reflectlite.Value.Elem" 0) ReflectliteValue.elem) func88 zk zk zk zk;have vD:=@run_callFunc_extern bbp 89 _ ReflectliteValue.set func89 zk zk zk zk;have tO:=ap6;have mA:=ady;have a25:=aM4;have v25:=aM5;have f6:=aMX;have f7:=aMY;have mK:=adv;have mE:=adw;have mI:=adx;have k27:=aMZ;have k25:=aM0;have e27:=aM2;have i25:=aM3;have n8:=aM1 ⟨w.heap.size,0,V⟩ t ((w.alloc (ae #[aq (O t)] 78)).alloc (ae #[pq 12 78,pp w.heap.size,.int .u64 150] 158)) zs;have hlt:0<w.heap.size:=by
  grind [Nat.eq_zero_or_pos,a1M]
 have jZ:((w.alloc (ae #[aq (O t)] 78)).alloc (ae #[pq 12 78,pp w.heap.size,.int .u64 150] 158)).cell? ⟨0,0,V⟩=O (aj 219 (.agg #[pq 12 57])):=by
  rw[a1L _ _ ⟨0,0,V⟩ zs,a1L _ _ ⟨0,0,V⟩ hlt];exact hg
 have tP:t.block<w.heap.size:=by
  grind [Nat.lt_or_ge,a1M,a26]
 have el:=aM8 ⟨w.heap.size,0,V⟩ t (((w.alloc (ae #[aq (O t)] 78)).alloc (ae #[pq 12 78,pp w.heap.size,.int .u64 150] 158)).alloc (ae #[pq 12 78,pp w.heap.size,.int .u64 150] 158)) (by rw[a1L _ _ ⟨w.heap.size,0,V⟩ (by simp;omega)];simp);have st:=aNc t ⟨w.heap.size+1+1+1,0,V⟩ e Fz ((((w.alloc (ae #[aq (O t)] 78)).alloc (ae #[pq 12 78,pp w.heap.size,.int .u64 150] 158)).alloc (ae #[pq 12 78,pp w.heap.size,.int .u64 150] 158)).alloc (ae #[zi e] 27))
  (by rw[World.cell?_alloc_at _ _ _ _ zs];rfl)
  (by rw[a1L _ _ t (by simp;omega),a1L _ _ t (by simp;omega),a1L _ _ t (by simp;omega),a1L _ _ t tP];exact K7)
  (by rw[a2g _ _ t (by simp;omega),a2g _ _ t (by simp;omega),a2g _ _ t (by simp;omega),a2g _ _ t (Nat.ne_of_lt tP)];exact GX)
 go_enter func29,ntmps29
 go_wp2
 refine wp_loop_rounds 1 ?_;rw[rounds_succ]
 go_wp2
 go_ret
 exact⟨J,J⟩
def aNe(w:Z):(ReflectliteType.relation "AssignableTo" ReflectliteType.assignableTo #[.agg #[pq 12 27],aj 219 (.agg #[pq 12 73])]).run bbp w = .ok (.bool G) w:=zk
def aNf(v:Y)(a:TypeId)(w:Z):(a1s (aj 27 v) a 224 A).run bbp w = .ok (ak #[ai,.bool G]) w:=run_typeAssert_lacksB underlying224 zk zk v a w
def aNg(v:Y)(a:TypeId)(w:Z):(a1s (aj 27 v) a 227 A).run bbp w = .ok (ak #[ai,.bool G]) w:=run_typeAssert_lacksB underlying227 zk zk v a w
def aNh(v:Y)(a:TypeId)(w:Z):(a1s (aj 27 v) a 229 A).run bbp w = .ok (ak #[ai,.bool G]) w:=run_typeAssert_lacksB underlying229 zk zk v a w
def aNi(e:Int)(t:Addr)(Fz:Y)(w:Z)(hg:w.cell? ⟨0,0,V⟩=O (aj 219 (.agg #[pq 12 57])))(K7:w.cell? t=O Fz)(GX:w.frozen? t=G) :
  Calls bbp 29 #[aj 27 (zi e),aj 75 (aq (O t))] w fun ev w'=>ev = ah (.bool G)/\w'=(((w.alloc (ae #[aq (O t)] 75)).alloc (ae #[pq 12 75,pp w.heap.size,.int .u64 150] 158)).alloc (ae #[pq 12 75,pp w.heap.size,.int .u64 150] 158)):=by
 have h6:=@run_callFunc_extern bbp 54 _ (fun args=>ReflectliteValue.unpack (args.getD 0 (ak #[]))) func54 zk zk zk zk;have h7:=@run_callFunc_extern bbp 55 _ (ReflectliteValue.methodAny (ReflectliteValue.valueError "reflectlite.Value.Type" 0) (fun t _ _ _=>ReflectliteType.toType t)) func55 zk zk zk zk;have h8:=@run_callFunc_extern bbp 56 _ (ReflectliteValue.method (ReflectliteValue.valueError "reflectlite.Value.IsNil" 0) ReflectliteValue.isNil) func56 zk zk zk zk;have Hc:=@run_callFunc_extern bbp 196 _ (ReflectliteType.abiMethod fun t=>do pure (.int .u8 (<- Rtype.kind t))) func196 zk zk zk zk;have h37:=@run_callFunc_extern bbp 238 _ (ReflectliteType.method ReflectliteType.elem) func238 zk zk zk zk;have h38:=@run_callFunc_extern bbp 239 _ (ReflectliteType.relation "Implements" ReflectliteType.implements_) func239 zk zk zk zk;have tZ:=@run_callFunc_extern bbp 87 _ ReflectliteType.typeOf func87 zk zk zk zk;have zt:=@run_callFunc_extern bbp 236 _ (ReflectliteType.relation "AssignableTo" ReflectliteType.assignableTo) func236 zk zk zk zk;have tO:=ap6;have i1:=aNf;have i2:=aNg;have i3:=aNh;have mA:=ady;have a25:=aNe;have f6:=amv;have f7:=amw;have mK:=adv;have mE:=adw;have mI:=adx;have k27:=amx;have k25:=amy;have e27:=amB;have i25:=amC;have n8:=amA ⟨w.heap.size,0,V⟩ t ((w.alloc (ae #[aq (O t)] 75)).alloc (ae #[pq 12 75,pp w.heap.size,.int .u64 150] 158)) zs;have hlt:0<w.heap.size:=by
  grind [Nat.eq_zero_or_pos,a1M]
 have jZ:((w.alloc (ae #[aq (O t)] 75)).alloc (ae #[pq 12 75,pp w.heap.size,.int .u64 150] 158)).cell? ⟨0,0,V⟩=O (aj 219 (.agg #[pq 12 57])):=by
  rw[a1L _ _ ⟨0,0,V⟩ zs,a1L _ _ ⟨0,0,V⟩ hlt];exact hg
 have tP:t.block<w.heap.size:=by
  grind [Nat.lt_or_ge,a1M,a26]
 go_enter func29,ntmps29
 go_wp2
 refine wp_loop_rounds 1 ?_;rw[rounds_succ]
 go_wp2
 go_ret
 exact⟨J,J⟩
end Go.Proofs.YtoegidfbnkaabaaGreatDoor
namespace Go.Proofs.YtoegidfbnkaabaaGreatDoor
open P
open Go.RowKit Sx
variable{D:Nat->Prop}{K:Y->Prop}{b base e g n pb so xb:Nat}{cs:Array Y}{tv v:Y}{w':Z}{xs:List Y}{ρ:Nat->Nat}
structure Rf(D:Nat->Prop)(w w':Z):Prop where
 F4:eR w w'
 own:∀ (b:Nat) (o:Obj),D b->w.heap[b]?=O o->w'.heap[b]?=O o
 map:∀ (b:Nat) (es:Array MapEntry) (c:Nat),w.heap[b]?=O (.map es c)->w'.heap[b]?=O (.map es c)
structure Y4{E:En}(X:EN E):Prop where
 bK:∀ {D ρ w w' s},X.Mem D ρ w s->Rf D w w'->X.Mem D ρ w' s
 cut:∀ {D D':Nat->Prop} {ρ w s},X.Mem D ρ w s->(∀ b,b<w.heap.size->D b->D' b)->X.Mem D' ρ w s
def afW{w:Z}{size:Nat}(a:w.ownsRow base e size v n xs)(c:∀ g,v.ownBlock=O g->D g)(hk:∀ b o,D b->w.heap[b]?=O o->w'.heap[b]?=O o):w'.ownsRow base e size v n xs:=by
 refine⟨a.1,?_⟩;rcases a.2 with i | ⟨b,cap,cur,rfl,d,f,h⟩
 .exact yH
 .exact .inr ⟨b,cap,cur,J,d,hk _ _ (c b J) f,h⟩
def afX{w:Z}{size:Nat}(a:w.ownsRow base e size v n xs)(c:v.ownBlock=O g):g<w.heap.size:=by
 rcases a.2 with⟨rfl,-⟩| ⟨b,cap,cur,rfl,-,d,-⟩
 .cases c
 grind [Value.ownBlock,a07,bh]
def ie.OI{T:Nat}{w:Z}{s:Sr}(h:ie D ρ n pb so T cs tv w s)(hk:Rf D w w'):ie D ρ n pb so T cs tv w' s:=
 ⟨⟨h.sv.inj,fun i b=>by
  obtain⟨ref,d,a⟩:=h.sv.var i b;refine⟨ref,hk.own _ _ (h.dv i b) d,?_⟩;split at a
  .rename_i c;simpa [c] using a
  .rename_i t c;exact dL.bK a hk.F4.toT⟩,h.dv,hk.own _ _ h.ds h.cell,afW h.row h.dr hk.own,h.dr,h.ds,h.nd,h.lt,h.ok⟩
def ie.OK{D':Nat->Prop}{T:Nat}{w:Z}{s:Sr}(h:ie D ρ n pb so T cs tv w s)(a:∀ b,b<w.heap.size->D b->D' b):ie D' ρ n pb so T cs tv w s:=
 ⟨h.sv,fun i d=>by
  obtain⟨ref,e,-⟩:=h.sv.var i d;grind [bh,dv],h.cell,h.row,fun g c=>a _ (afX h.row c) (h.dr g c),a _ (bh h.cell) h.ds,h.nd,h.lt,h.ok⟩
theorem wkD(base:List Cl)(M nv wb mb xb:Nat)(vv:Y):Y4 (wkX base M nv wb mb xb vv) where
 bK:=by
  rintro D ρ w w' s ⟨⟨todo,av,tv,dw,h⟩,h2,h3,h4,h5⟩ hk;exact⟨⟨todo,av,tv,dw,h.st.OI hk,h.td.bK hk.F4 (eD.refl _ _),afW h.ar h.da hk.own,h.ag.bK hk.F4 (eD.refl _ _),h.da⟩,
   (by grind [B0.bK,Rf.F4,Rf.map]),h3.jn hk.F4 (yM),h4,hk.F4 _ _ _ (yM) h5⟩
 cut:=by
  rintro D D' ρ w s ⟨⟨todo,av,tv,dw,h⟩,h2,h3,h4,h5⟩ hd;exact⟨⟨todo,av,tv,dw,h.st.OK hd,h.td,h.ar,h.ag,fun g hg=>hd _ (afX h.ar hg) (h.da g hg)⟩,h2,h3,h4,h5⟩
def aNk(z:Array Y):∀ (n:Nat),(madeCells z n).size=n:=by
 grind [madeCells]
def aNl(n:Nat)(h:n<=100)(w:Z):Calls bbp 77 #[zi (n:Nat)] w fun e w'=>Ext w w'/\∃ b,e = ah (cV b n n):=by
 refine aoV ?_;refine bG ?_;refine⟨fun m z w'=>∃ (j:Nat) (cs:Array Y),z 9=zi (j:Nat)/\j<=n/\m=n-j/\Ext w w'/\w'.heap[w.heap.size]?=aN cs 89/\cs.size=n,
  ⟨_,0,_,J,Nat.zero_le _,J,(bB.refl _ _).alloc _,rR J,by rw[aNk]⟩,?_⟩
 intro m z d w1 c;refine toPr ?_;obtain⟨j,cs,a,i,rfl,k,g1,l⟩:=c;have o:=bh g1;by_cases hlt:j<n
 .have p:(j:Int)<(n:Int):=zo;have f:(j:Int).toNat=j:=zo;refine jk a @f @g1 ?_;exact⟨_,zo,j+1,_,zs,zo,J,yF,J,yH⟩
 .have g:j=n:=zo;subst g;refine cO a ?_;exact yH
def uK{w:Z}{m:Nat}{j:Option Addr}(p:n<=12)(f:w.heap[b]?=aN #[aT [],bX,pp xb,.slice j n pb] 86) :
  Calls bbp 38 #[.map (O m),pp b] w fun e w'=>Ext w w'/\∃ q o,e = ah (pp q)/\w'.heap[q]?=aN o 130:=by
 refine aoW ?_;refine cO f ?_;refine a1a (aNl n zo w) ?_;rintro e w1 ⟨c,fb,rfl⟩;have d:=c.ext _ _ f;have r:=bh d;refine cO d ?_;obtain⟨w2,k⟩:=cg (w1.alloc (ae #[.map (O m),bX,zi 0,aq V,bX,cV fb n n] 130));have l:w1.alloc (ae (Value.agg #[.map (O m),bX,zi 0,aq V,bX,cV fb n n]).cells 130 (0,0))=w2:=k.symm;rw[l];have g:Ext w1 w2:=yF;have g2:w2.heap[w1.heap.size]?=aN #[.map (O m),bX,zi 0,aq V,bX,cV fb n n] 130:=yH;have h:=g.ext _ _ d;have s:=bh g2;refine⟨fun w'=>w'.heap[b]?=w2.heap[b]?,J,?_⟩;rw[jI];refine cS (pq b 2) (fun w' a=>by rw[h] at a;exact fm a) (cS (pp xb) (fun w' a=>by rw[h] at a;have:=bh a;exact fm a) ?_);refine cO @g2 ?_;have i:Ext w2 (w2.drew.alloc (ae #[pp xb,cV fb n n,zi 0,aq V] 207)):=yF;have s1:=c.size;exact⟨bB.bS (M:=fun _ _=>False) ((c.trans g).trans i) (.inr s1),_,_,J,qJ J (bh (i.ext _ _ g2))⟩
def aNm{P:Program}{T:TypeId}(h:Kp P T=A){S:Z->Prop}(hk:K (aj T v)):vi P (Instr.makeInterface T v) S K:=by
 refine⟨aj T v,fun w _=>?_,hk⟩;unfold Kp at h;unfold Instr.makeInterface underlying;simp only[a1m,program,Sem.run,Result.andThen_ok];grind [Sem.run_pure,Result.andThen_ok]
