/- A part of one proof (KE2, KE3, KE5, KE6, KD0, PK2, PK3). -/
import Derived.Test.YtoegidfbnkaabaaGreatDoorPkKAU
import Derived.WalkKit
import Derived.LaidEql
import Derived.Stop.Asserts
import Derived.RowKitTokens
set_option linter.all false
set_option maxRecDepth 100000
set_option maxHeartbeats 8000000
open Option renaming some → O, none → V
open Go renaming Value → Y, World → Z
open Bool renaming true → A, false → ae
open Go.Obj renaming cells → ah
open Go.Ending renaming returned → ai
open Go.Value renaming nilIface → aj, iface → ak, tuple → aq, pointer → au
open Option.some renaming injEq → a0z
open Go.Calls renaming mono → a0C
open List renaming drop_eq_getElem_cons → a0I, length_cons → a0J, length_nil → a0Z
open Go.Sem renaming run_bind → a0L
open Go.Instr renaming typeAssert → a0T
open Prod.mk renaming injEq → a0X
open Go.World renaming cell?_alloc_lt → a1e, cell? → a1f, frozen?_alloc_old → a1C
open Go.Result renaming andThen → a1r
open Array renaming getElem?_eq_none → a2W, setIfInBounds_setIfInBounds → a3G
open Go.Ending.panicked renaming injEq → a48
open Go.Proofs.Tryz renaming prog → baB
open Go.Proofs.Tryz
namespace Go.Proofs.YtoegidfbnkaabaaGreatDoor
open P
open Go.RowKit Sx
variable{D:Nat->Prop}{E:En}{R:Ending->Z->Prop}{S av buf iv nm o4 o5 tv v vv:Y}{base c cap d e f k' n pb qb so:Nat}{cs:Array Y}{out:Bs}{res:Z->Prop}{rP:Bs×Nat}{vars:List Bs}{w w':Z}{xs:List Y}{ρ:Nat->Nat}
def apo{wb:Nat}(h:sZ w wb S nm out):Calls baB 43 #[pp wb] w fun e w'=>e = ai (zi (out.length:Nat))/\w'=w:=by
 obtain⟨f,buf,g,b,d⟩:=h;obtain⟨a,c,rfl⟩:=ij d;refine aL0 ?_;exact fj b
def Ha(eb:Nat)(w w':Z):Prop:=(∀ (b:Nat) (cs:Array Y) (T:Nat),b≠eb->T≠9->T≠57->w.heap[b]?=aP cs T->w'.heap[b]?=aP cs T) /\
 ∀ (b:Nat) (es:Array MapEntry) (c:Nat),b≠eb->w.heap[b]?=O (.map es c)->w'.heap[b]?=O (.map es c)
theorem Ha.of(h:∀ b o,b≠pb->w.heap[b]?=O o->w'.heap[b]?=O o):Ha pb w w':=⟨yH,yH⟩
structure By(E:En) where
 T:Nat
 pT:Nat
 fN:Nat
 fT:Nat
 eb:Nat
 tf:Array Y
 tc:Array Y
 Mem:(Nat->Prop)->(Nat->Nat)->Z->E.St->Prop
 Good:Nat->E.St->Prop
structure Hb{E:En}(X:By E):Prop where
 st:∀ {D ρ w s},X.Mem D ρ w s->∃ cs tv,vH 1 X.T cs/\gV D ρ (E.nv s) X.eb 1 X.T cs tv w (E.sr s)
 ext:∀ {D ρ w w' s},X.Mem D ρ w s->Ext w w'->X.Mem D ρ w' s
 fuel:∀ {D ρ w w' s C f},X.Mem D ρ w s->w.heap[X.eb]?=aP C X.T->Ha X.eb w w'->w'.heap[X.eb]?=aP (ky C 1 ((f:Nat):Int)) X.T->X.Mem D ρ w' (E.fu s f)
 apq:∀ s f,E.sr (E.fu s f)=⟨(E.sr s).tr,f⟩
 ae5:∀ s f,E.told (E.fu s f)=E.told s
 next:∀ {D ρ w s c d f r},X.Mem D ρ w (E.fu s 1000000)->(∀ b,w.heap.size<=b->D b)->X.Good c s->c<=700->E.nx d f (E.fu s 1000000)=O r ->
  Calls baB X.fN #[pp X.eb] w (EPost D w (fun p e w'=>e = ai (.bool p.1)/\∃ eO,X.Mem D eO w' p.2) r)
 yB:∀ {s c d f k},X.Good c s->c<=700->mh (E.sr s).tr->E.nx d f (E.fu s 1000000)=O (.ok (A,k))->(E.sr k).fuel<=1000000/\∀ f',X.Good (c+1) (E.fu k f')
 told:∀ {D ρ w s},X.Mem D ρ w s->(∃ c f,X.Good c (E.fu s f))->Calls baB X.fT (X.tf++#[]++X.tc) w fun e w'=>Ext w w'/\match E.told s with
  | .ok l=>∃ v us,e = ai v/\fO (fun _=>True) w' 89 v us/\pU ρ (E.nv s) w' us l
  | .error t=>e=gW t
 ae6:∀ {s c l},X.Good c s->E.told s = .ok l->iX l
 ae7:∀ w,(method (Tryz.prog.types.size+Made.depth) X.pT (pp X.eb) "Next").run baB w = .ok (X.fN,pp X.eb) w
 cN:zE baB X.fN=A
 cT:zE baB X.fT=A
def Fy:Option Nat->Y
 | none=>aj
 | some k=>ak 27 (.int .i64 (k:Nat))
abbrev Yl(X:By E)(Hc:Y)(err:Option Nat):Array Y:=#[ak X.pT (pp X.eb),pq X.eb 1,.func (.func X.fT) X.tf X.tc,Hc,Fy err]
structure xo{E:En}(X:By E)(D:Nat->Prop)(ρ:Nat->Nat)(qb:Nat)(names:List Bs)(w:Z)(q:Qs E):Prop where
 cell:∃ Hc,w.heap[qb]?=aP (Yl X Hc q.1) 121/\fO (fun _=>True) w 9 Hc (names.map fun s=>aW s)
 live:q.1=V->X.Mem D ρ w q.2
abbrev K8(D:Nat->Prop)(qb:Nat)(w w':Z):Prop:=bD (fun b o=>EM D b o\/b=qb) w w'
def afa(h:res w) :
  LV baB res R [{ target:=.fn (.func 42) #[tv,vv,av],args:=#[]++#[] }] .returning w:=by
 refine BT zk zs ((aLW tv vv av w).mono ?_);rintro e a w' ⟨rfl,rfl,rfl⟩;exact h
def aL1(h:NR w qb pb cap k' tv vv av o4 iv o5 buf)(t:iM){f:List PanicEntry}(ht:gW t = .panicked f)
  (c:∀ w',bD (fun b _=>b=qb\/b=cap\/b=k') w w'->NR w' qb pb cap k' tv vv av o4 (Fy (O t.no)) (aW []) (Fy (O t.no))->res w') :
  LV baB res R [{ target:=.fn (.func 42) #[pp pb,pp cap,pp k'],args:=#[]++#[] }] (.panicking f) w:=by
 have key:∀ {w0:Z} (k:Nat),NR w0 qb pb cap k' tv vv av o4 iv o5 buf->Ext w w0->k=t.no ->
   res (bT (bT (bT w0 qb (ah #[tv,vv,av,o4,Fy (O k)] 121)) cap (ah #[aW []] 9 (0,0))) k' (ah #[Fy (O k)] 57)):=by
  intro w0 k g a hk;subst hk;obtain⟨i,x,l,j,m,n,p⟩:=g;have y:=bn i;have z:=bn j;refine c _ ⟨a.os,a.tape,a.output,by rw[uY,uY,uY];exact a.size,fun b o q d=>?_⟩ ⟨?_,?_,?_,?_,m,n,p⟩
  .rw[jh (fun e=>d (.inr (.inr e))),jh (fun e=>d (.inr (.inl e))),jh (fun e=>d (.inl e))];exact a.ext _ _ q
  .exact yH
  .exact yH
  .exact yH
  exact yH
 cases t with
 | fault e=>
  simp only[gW,a48] at ht;subst ht;refine BT zk zs ((aLX h (e:Nat) []).mono ?_);rintro e' r w' ⟨rfl,rfl,rfl⟩;exact key e h yF J
 | y3=>
  simp only[gW,Nk,a48] at ht;subst ht;refine BT zk zs ((aLY h []).mono ?_);rintro e' r w' ⟨rfl,rfl,w0,B,rfl⟩;have s:Ext w w0:=yF;obtain⟨i,g,l,j,u⟩:=h;exact key 11 ⟨yH,yH,yH,yH,u⟩ s J
def aL2{X:By E}(L:Hb X){q Q:Qs E}(hq:xo X D ρ qb vars w q)(hD:∀ b,w.heap.size<=b->D b)(hDg:¬ D 4)
  (hP:lP w) (Em:qb≠X.eb) (hqg:qb≠4) (hg:q.1=V->X.Good c q.2) (hc:c<=700) (my:∀ nm∈vars,nm≠[]/\nm.length<=3000) (hn:vars.length<=12) (hlen:∀ k l,E.told k = .ok l->l.length=vars.length)
  (hr:xe E vars d f q=O (rP,Q)) :
  Calls baB 27 #[pp qb] w fun e w'=>K8 D qb w w'/\e = ai (aq #[aW rP.1,Fy Q.1])/\(Q.1=V->rP.2=0)/\(∀ k,Q.1=O k->rP.2=k)/\∃ eO,xo X D eO qb vars w' Q:=by
 suffices H:∀ R:Ending->Z->Prop,(∀ e w',K8 D qb w w'/\e = ai (aq #[aW rP.1,Fy Q.1])/\(Q.1=V->rP.2=0)/\(∀ k,Q.1=O k->rP.2=k)/\(∃ eO,xo X D eO qb vars w' Q)->R e w') ->
   Calls baB 27 #[pp qb] w R from H _ yF
 intro R hR;obtain⟨⟨Hc,I2,T8⟩,VE⟩:=hq;obtain⟨err,st⟩:=q;simp only at I2 VE hg;refine aLS ?_;have lq:=bn I2;obtain⟨na,G,nc,rfl⟩:∃ a n c,Hc = .slice a n c:=by rcases T8 with⟨-,rfl⟩| ⟨b,cs,rfl,-⟩<;>exact zg
 obtain⟨I,qZ⟩:=ck (((w.alloc (ah #[pp qb] 35)).alloc (ah #[aW []] 9 (0,0))).alloc (ah #[aj] 57));have sA:I.heap.size=w.heap.size+3:=yH;have yY:Ext w I:=yF;have k0:I.heap[w.heap.size]?=aP #[pp qb] 35:=yH;have k1:I.heap[w.heap.size+1]?=aP #[aW []] 9:=yH;have k2:I.heap[w.heap.size+2]?=aP #[aj] 57:=yH;have NS:=yY.ext _ _ I2;obtain⟨b0,hb0⟩:=ck w.heap.size;cases err with
 | some k=>
  simp only[xe,a0z,a0X] at hr;obtain⟨rfl,rfl⟩:=hr;have I2:w.heap[qb]?=aP #[ak X.pT (pp X.eb),pq X.eb 1,.func (.func X.fT) X.tf X.tc,.slice na G nc,ak 27 (zi (k:Nat))] 121:=I2;have NS:I.heap[qb]?=aP #[ak X.pT (pp X.eb),pq X.eb 1,.func (.func X.fT) X.tf X.tc,.slice na G nc,ak 27 (zi (k:Nat))] 121:=NS;refine cM I2 ?_;rw[<- qZ,size_alloc,size_alloc,size_alloc];have l1:=bn k1;have l2:=bn k2;refine⟨fun w'=>w'.heap[w.heap.size]?=I.heap[w.heap.size]?/\w'.heap[qb]?=I.heap[qb]?,yH,?_⟩;refine cR (pp qb) (fun w' hS=>by have B:=hS.1;rw[k0] at B;have:=bn B;exact fj B) ?_;rw[jF];refine cR (pq qb 4) (fun w' hS=>eS) ?_;refine cR (ak 27 (zi (k:Nat))) (fun w' hS=>by have B:=hS.2;rw[NS] at B;have:=bn B;exact fj B) ?_;refine dB @k1 @k2 ?_;obtain⟨g,y⟩:=ck (bT (bT I.drew (w.heap.size+1) (ah #[aW []] 9 (0,0))) (w.heap.size+1+1) (ah #[ak 27 (zi (k:Nat))] 57));rw[<- y];have WM:Ext w g:=yF;exact hR _ _ ⟨yF,J,zg,zg,ρ,⟨_,yH,T8.mono zg yH⟩,zg⟩
 | none=>
  have I2:w.heap[qb]?=aP #[ak X.pT (pp X.eb),pq X.eb 1,.func (.func X.fT) X.tf X.tc,.slice na G nc,aj] 121:=I2;have NS:I.heap[qb]?=aP #[ak X.pT (pp X.eb),pq X.eb 1,.func (.func X.fT) X.tf X.tc,.slice na G nc,aj] 121:=NS;have hM:=L.ext (VE J) yY;have hg:=hg J;obtain⟨cs,tv,Ym,gR⟩:=L.st hM;have Fz:=gR.cell;have jr:=Ym.sz;have hT:X.T≠35/\X.T≠9/\X.T≠57/\X.T≠121:=by rcases Ym.ty with h | h<;>rw[h]<;>decide
  obtain⟨C,hC⟩:=ck (ky (cs.setIfInBounds 1 tv) 1 ((E.sr st).fuel:Int));rw[<- hC] at Fz;have hCs:C.size=cs.size:=zg;have le:=bn Fz;refine cM I2 ?_;rw[<- qZ,size_alloc,size_alloc,size_alloc];have h2C:2<C.size:=zo;obtain⟨x2,rE⟩:∃ x2,C[2]?=O x2:=⟨_,Array.getElem?_eq_getElem h2C⟩;have aWM:X.eb≠qb:=zo;have aWN:X.eb≠w.heap.size:=yH;have aL4:X.eb≠w.heap.size+1:=yH;have aL5:X.eb≠w.heap.size+2:=yH;obtain⟨wF,FA⟩:=ck (bT I X.eb (ah (ky C 1 1000000) X.T (0,0)));have ew:bT I X.eb (ah (C.setIfInBounds 2 (zi 1000000)) X.T (0,0))=wF:=FA.symm;refine jt Fz @k0 NS ?_;rw[ew];have hZ:∀ {g:Z},bD (fun b o=>EM D b o\/b=qb\/w.heap.size<=b) w g->K8 D qb w g:=(by grind [bD.mono,bn]);have hZe:∀ {a b:Z},di D a b->bD (fun b o=>EM D b o\/b=qb\/w.heap.size<=b) a b:=(by grind [bD.mono]);have hZx:∀ {a b:Z},Ext a b->bD (fun b o=>EM D b o\/b=qb\/w.heap.size<=b) a b:=yF;have hEF:di D I wF:=⟨by rw[FA];rfl,by rw[FA];rfl,by rw[FA];rfl,yH,fun b o K hm=>by
   by_cases e:b=X.eb
   .subst e;rw[Fz] at K;exact absurd ⟨gR.ds,_,_,_,(Option.some.inj K).symm,Ym.mu⟩ hm
   exact yH⟩
  have hMF:X.Mem D ρ wF (E.fu st 1000000):=L.fuel hM Fz (by grind [Ha.of,jh]) (yH);have sF:wF.heap.size=w.heap.size+3:=yH;have hDF:∀ b,wF.heap.size<=b->D b:=yH;have mq:¬ lh 121/\¬ lh 35/\¬ lh 9/\¬ lh 57:=by grind [lh]
  obtain⟨r,hx,Yp⟩:∃ r,E.nx d f (E.fu st 1000000)=O r/\True:=by
   cases hx:E.nx d f (E.fu st 1000000) with
   | none=>grind [xe]
   | some r=>grind
  simp only[xe,hx] at hr;refine⟨X.fN,_,L.ae7 _,L.cN,?_⟩;refine a0C (L.next hMF hDF hg hc hx) ?_;rintro e w1 ⟨dC,hp⟩;have Yq:di D I w1:=yF;have s1:=dC.size;have j0:w1.heap[w.heap.size]?=aP #[pp qb] 35:=Yq.bJ mq.2.1 k0;have j1:w1.heap[w.heap.size+1]?=aP #[aW []] 9:=Yq.bJ mq.2.2.1 k1;have j2:w1.heap[w.heap.size+2]?=aP #[aj] 57:=Yq.bJ mq.2.2.2 k2;have jq:w1.heap[qb]?=aP #[ak X.pT (pp X.eb),pq X.eb 1,.func (.func X.fT) X.tf X.tc,.slice na G nc,aj] 121:=Yq.bJ mq.1 NS;have hZ1:bD (fun b o=>EM D b o\/b=qb\/w.heap.size<=b) w w1:=yF;have aMa:fO (fun _=>True) w1 9 (.slice na G nc) (vars.map fun s=>aW s):=T8.mono zg (by grind [di.bJ,bD.ext]);have lj0:=bn j0;have lj1:=bn j1;have lj2:=bn j2;have ljq:=bn jq;have Ig:∀ {g:Z} {k:Nat} {s':E.St},bD (fun b o=>EM D b o\/b=qb\/w.heap.size<=b) w g->g.heap[qb]?=aP #[ak X.pT (pp X.eb),pq X.eb 1,.func (.func X.fT) X.tf X.tc,.slice na G nc,Fy (O k)] 121 ->
    K8 D qb w g/\∃ eO,xo X D eO qb vars g (O k,s'):=fun{g k s'} hf hq=>by
   refine⟨hZ hf,ρ,⟨_,hq,?_⟩,zg⟩;refine T8.mono zg fun b cs _ K=>hf.block b _ K ?_;rintro (⟨_,_,_,_,h1,h2⟩| h | h)<;>grind
  have afc:∀ {t:iM} {ch:List PanicEntry} {S:Z} {s':E.St},gW t = .panicked ch->rP=([],t.no)->Q=(O t.no,s')->bD (fun b o=>EM D b o\/b=qb\/w.heap.size<=b) w S->NR S qb w.heap.size (w.heap.size+1) (w.heap.size+1+1) (ak X.pT (pp X.eb)) (pq X.eb 1) (.func (.func X.fT) X.tf X.tc) (.slice na G nc) aj (.string (bs [])) aj ->
    LV baB (fun g=>RD baB (Instr.loadAt 9 (pp (w.heap.size+1))) g (fun r1=>RD baB (Instr.loadAt 57 (pp (w.heap.size+1+1))) g
     (fun r2=>R (ai (aq #[r1,r2])) g) NX) NX) R
     [{ target:=.fn (.func 42) #[pp w.heap.size,pp (w.heap.size+1),pp (w.heap.size+1+1)],args:=#[]++#[] }] (.panicking ch) S:=by
   intro t ch S s' ht ha jc hf hB;subst ha jc;refine aL1 (rP:=([],0)) hB t ht fun g Ib hz=>?_;obtain⟨zq,z0,z1,z2,-⟩:=hz;have z2':g.heap[w.heap.size+1+1]?=aP #[ak 27 (zi (t.no:Nat))] 57:=z2;refine dB @z1 @z2' ?_;obtain⟨r1,r2⟩:=Ig (s':=s') (by grind [bD.mono,bD.trans]) zq;grind
  cases r with
  | error t=>
   have hp:e=gW t:=hp;simp only[a0z,a0X] at hr;obtain⟨⟨rfl,rfl⟩,rfl⟩:=hr;obtain⟨ch,Nv⟩:∃ ch,gW t = .panicked ch:=by cases t<;>exact⟨_,J⟩
   rw[hp,Nv];exact afc Nv J J hZ1 ⟨jq,j0,j1,j2,zo,zo,zo⟩
  | ok p=>
   obtain⟨b,k⟩:=p;obtain⟨rfl,pY,NT⟩:=hp;cases b with
   | false=>
    simp only[a0z,a0X] at hr;obtain⟨⟨rfl,rfl⟩,rfl⟩:=hr;refine dB @j0 @jq ?_;obtain⟨w2,j3⟩:=ck (bT w1 qb (ah #[ak X.pT (pp X.eb),pq X.eb 1,.func (.func X.fT) X.tf X.tc,.slice na G nc,ak 27 (zi 6)] 121));have Qn:bT w1 qb (ah (oV #[ak X.pT (pp X.eb),pq X.eb 1,.func (.func X.fT) X.tf X.tc,.slice na G nc,aj] 4 (Value.iface 27 (zi 6)).cells.toList) 121 (0,0))=w2:=j3.symm;rw[Qn];have i0:w2.heap[w.heap.size]?=aP #[pp qb] 35:=yH;have i1:w2.heap[w.heap.size+1]?=aP #[aW []] 9:=yH;have i2:w2.heap[w.heap.size+2]?=aP #[aj] 57:=yH;have iq:w2.heap[qb]?=aP #[ak X.pT (pp X.eb),pq X.eb 1,.func (.func X.fT) X.tf X.tc,.slice na G nc,ak 27 (zi 6)] 121:=yH;have hZ2:bD (fun b o=>EM D b o\/b=qb\/w.heap.size<=b) w w2:=yF;have li0:=bn i0;have li1:=bn i1;have li2:=bn i2;clear j3 Qn;refine⟨fun w'=>w'.heap[w.heap.size]?=w2.heap[w.heap.size]?/\w'.heap[qb]?=w2.heap[qb]?,yH,?_⟩;refine cR (pp qb) (fun w' hS=>by have B:=hS.1;rw[i0] at B;have:=bn B;exact fj B) ?_;rw[jF];refine cR (pq qb 4) (fun w' hS=>eS) ?_;refine cR (ak 27 (zi 6)) (fun w' hS=>by have B:=hS.2;rw[iq] at B;have:=bn B;exact fj B) ?_;refine dB @i1 @i2 ?_;obtain⟨g,y⟩:=ck (bT (bT w2.drew (w.heap.size+1) (ah #[aW []] 9 (0,0))) (w.heap.size+1+1) (ah #[ak 27 (zi 6)] 57));rw[<- y];refine afa ?_;have z1:g.heap[w.heap.size+1]?=aP #[aW []] 9:=yH;have z2:g.heap[w.heap.size+1+1]?=aP #[ak 27 (zi 6)] 57:=yH;have zq:g.heap[qb]?=aP #[ak X.pT (pp X.eb),pq X.eb 1,.func (.func X.fT) X.tf X.tc,.slice na G nc,Fy (O 6)] 121:=by rw[y,jh zo,jh zo];exact iq
    have Yr:bD (fun b o=>EM D b o\/b=qb\/w.heap.size<=b) w g:=by
     rw[y];exact((hZ2.drew).bT (.inl fun _=>.inr (.inr zo))).bT (.inl fun _=>.inr (.inr zo))
    clear y;refine dB @z1 @z2 ?_;obtain⟨r1,r2⟩:=Ig (s':=k) Yr zq;exact hR _ _ ⟨r1,J,zg,zg,r2⟩
   | true=>
    have NT:X.Mem D pY w1 k:=NT;dsimp only at hr;refine dB @j0 @jq ?_;obtain⟨wW,hwW⟩:=ck (w1.alloc (ah #[au V,b9,pq X.eb 1,.map V] 103));rw[<- hwW];have hEW:Ext w1 wW:=yF;have rK:wW.heap[w1.heap.size]?=aP #[au V,b9,pq X.eb 1,.map V] 103:=yH;clear hwW;have hMW:=L.ext NT hEW;refine⟨L.cT,?_⟩;refine a0C (L.told hMW ⟨c+1,0,(L.yB hg hc gR.ok hx).2 0⟩) ?_;rintro e w3 ⟨eK,fZ⟩;have M:Ext w1 w3:=yF;have hZ3:=hZ1.trans (hZx M);cases ht:E.told k with
    | error t=>
     rw[ht] at fZ hr;have fZ:e=gW t:=fZ;simp only[a0z,a0X] at hr;obtain⟨⟨rfl,rfl⟩,rfl⟩:=hr;obtain⟨ch,Nv⟩:∃ ch,gW t = .panicked ch:=by cases t<;>exact⟨_,J⟩
     rw[fZ,Nv];exact afc Nv J J hZ3 ⟨M.ext _ _ jq,M.ext _ _ j0,M.ext _ _ j1,M.ext _ _ j2,zo,zo,zo⟩
    | ok l=>
     rw[ht] at fZ hr;obtain⟨v,us,rfl,nT,kQ⟩:=fZ;simp only at hr;obtain⟨r0,Ie⟩:∃ r0,y6 (E.sr k).tr d vars l ⟨(E.sr k).fuel,[],[]⟩=O r0:=by
      grind
     rw[Ie] at hr;obtain⟨ta,aWX,rfl⟩:=nT.sl;have uL:us.length=vars.length:=by rw[kQ.length,hlen k l ht]
     obtain⟨hfu,ao9⟩:=L.yB hg hc gR.ok hx;have NU:iX l:=L.ae6 (ao9 0) ((L.ae5 k 0).trans ht);obtain⟨za,KP,afe,T9⟩:=L.st NT;have apy:=T9.ext M;obtain⟨C1,hC1⟩:=ck (za.setIfInBounds 1 KP);have aff:=apy.cell;rw[<- hC1] at aff;have aWY:C1.size=za.size:=zg;have aBT:=afe.sz;have hTw:X.T≠103/\X.T≠5/\X.T≠180/\X.T≠89/\X.T≠91:=by rcases afe.ty with h | h<;>rw[h]<;>decide
     have hgp:4<w.heap.size:=yH;have aWZ:X.eb<w1.heap.size:=zo;have Qx:x7 (E.sr k).tr w1.heap.size X.eb 1 X.T C1:=⟨T9.ok,zo,zo,zo,(by grind [gV.ds]),hTw.2.1,hTw.2.2⟩;have hP3:lP w3:=hP.bJ fun o x=>by
      refine hZ3.block _ o x ?_;rintro (⟨h,_⟩| h | h)<;>grind
     have He:lQ pY (E.nv k) (E.sr k).tr w1.heap.size X.eb 1 X.T C1 (.map V) w3 ⟨(E.sr k).fuel,[],[]⟩:=
      ⟨apy.sv,⟨au V,b9,yH,eK.ext _ _ rK,World.ownsRow_nil _ _ _ _⟩,.inl ⟨J,J⟩,aff,hP3,zg⟩
     have i0:=M.ext _ _ j0;have i1:=M.ext _ _ j1;have i2:=M.ext _ _ j2;have iq:=M.ext _ _ jq;have F:∀ {W:Z} {b:Nat} {o:Obj},mW w1.heap.size X.eb w3 W->b<w1.heap.size->b≠X.eb->w3.heap[b]?=O o->W.heap[b]?=O o:=fun h K eh x=>h.block _ _ x (by rintro (e | e | ⟨e,_⟩)<;>omega);have aW0:l.length=vars.length:=zg;have hZw:∀ {W:Z},mW w1.heap.size X.eb w3 W->bD (fun b o=>EM D b o\/b=qb\/w.heap.size<=b) w W:=fun h=>hZ3.trans (bD.mono h fun b o K hm=>by
      rcases hm with e | e | ⟨e,_⟩
      .exact yH
      .subst e;rw[aff] at K;exact .inl ⟨T9.ds,_,_,_,(Option.some.inj K).symm,afe.mu⟩
      exact yH)
     have aMg:=Km T9.ok;refine bF ?_;rw[uL];refine⟨fun m z W=>∃ (j:Nat) (i:Ws),z 49=zi (j:Nat)/\j<=vars.length/\m=vars.length-j/\GW pY (E.nv k) (E.sr k).tr w1.heap.size X.eb 1 X.T C1 W i/\mW w1.heap.size X.eb w3 W /\
       y6 (E.sr k).tr d (vars.drop j) (l.drop j) i=O r0/\i.cW<=60000000+4000*j/\i.seen.length<=i.out.length,
      ⟨_,0,_,J,Nat.zero_le _,J,⟨_,He⟩,bD.refl _ _,Ie,by grind [Ws.cW],Nat.le_refl _⟩,?_⟩
     intro m z dd W hI;clear dd;refine toPr ?_;obtain⟨j,i,Qy,hj,rfl,⟨nmj,NV⟩,N,P,aom,KL⟩:=hI;have p0:=F N zo zo i0;have p1:=F N zo zo i1;have p2:=F N zo zo i2;have pqz:=F N zo zo iq;have lp0:=bn p0;have lpq:=bn pqz;have s4:=N.size;have hkT:∀ {b:Nat} {cs:Array Y} {U:Nat},U≠5->U≠103->U≠X.T->w3.heap[b]?=aP cs U->W.heap[b]?=aP cs U:=fun{b cs U} u1 u2 u3 x=>N.block _ _ x (by
      rintro (e | e | ⟨_,⟨cs',z',e⟩| ⟨_,_,e⟩⟩)
      .rw[e,eK.ext _ _ rK] at x;injection x with x;injection x with _ x _;exact u2 x.symm
      .grind
      .grind
      grind)
     by_cases hlt:j<vars.length
     .have aMh:j<us.length:=zo;have afk:j<l.length:=zo;obtain⟨tb,tcs,e1,-,e3,e4⟩:=nT.at' (j:=j) aMh;obtain⟨u,e5,hu⟩:=kQ.at j afk;rw[e5] at e4;rw[uL] at e1;simp only[Value.slice.injEq,true_and] at e1;obtain⟨rfl,rfl⟩:=e1;have Ys:=hkT zd zd (fun e=>hTw.2.2.2.1 e.symm) e3;obtain⟨nb,xp,n1,-,n3,n4⟩:=aMa.at' (j:=j) zg;have n4:xp[j]?=O (aW (vars[j])):=by rw[n4,List.getElem?_map,List.getElem?_eq_getElem hlt];rfl
      rw[List.length_map] at n1;simp only[Value.slice.injEq] at n1;obtain⟨rfl,rfl,rfl⟩:=n1;have n3':=hkT zo zo zo (M.ext _ _ n3);have j8:(j:Int).toNat=j:=zo;have yf:(j:Int)<(vars.length:Nat):=zo;obtain⟨tvv,xvv,ND⟩:=hu.iface;rw[ND] at e4;obtain⟨Dk,JE⟩:=my vars[j] (List.getElem_mem hlt);rw[a0I hlt,a0I afk,y6] at P;obtain⟨c0,nr,Yt⟩:∃ c0 nr,vars[j]=c0::nr:=by
       cases hx:vars[j] with
       | nil=>grind
       | cons c0 nr=>grind
      by_cases h95:c0=95
      .subst h95;rw[Yt,List.head?_cons,zip rfl] at P;rw[Yt] at n4;refine dL Qy @Ys @e4 (zA @p0 (zA @pqz (zA @n3' (zA @n4 @j8)))) ?_;have e95:(((((95:UInt8)::nr).getD 0 0).toNat:Nat):Int)=95:=rfl;refine dB @e95 Qy ?_;exact⟨vars.length-(j+1),zo,j+1,i,zs,zo,J,⟨nmj,NV⟩,N,P,zo,KL⟩
      .rw[Yt,List.head?_cons,bO zg] at P;rw[Yt] at n4;have e95:¬ (((((c0:UInt8)::nr).getD 0 0).toNat:Nat):Int)=95:=by
        simp only[List.getD_cons_zero];intro h;apply h95;have:c0.toNat=95:=zo;exact UInt8.toNat_inj.1 this
       obtain⟨s1,dY⟩:=ck (if i.out=[] then i else i.add [44,32]);rw[<- dY] at P;have aon:i.cW=i.out.length+60*i.fuel:=rfl;have aW4:s1.cW<=i.cW+2/\s1.seen.length<=s1.out.length:=by
        rw[dY];split
        .omega
        .exact⟨by rw[Ws.pj];simp,oL KL⟩
       refine dL Qy @Ys @e4 (zA @p0 (zA @pqz (zA @n3' (zA @n4 @j8)))) ?_;refine⟨fun _ w5=>GW pY (E.nv k) (E.sr k).tr w1.heap.size X.eb 1 X.T C1 w5 s1/\mW w1.heap.size X.eb w3 w5,?_,?_⟩
       .refine bF ?_;refine a0C (apo NV.bu) ?_;rintro e w5 ⟨rfl,rfl⟩;by_cases h0:i.out=[]
        .rw[zip h0] at dY;have vL:¬ (0:Int)<(i.out.length:Int):=zg;refine cM vL ?_;exact⟨⟨nmj,yH⟩,N⟩
        .rw[bO h0] at dY;have vL:(0:Int)<(i.out.length:Int):=by grind [List.length_pos_iff]
         refine cM vL ?_;refine a0C (GX NV Qx [44,32] (by simp;omega)) ?_;rintro e w6 ⟨⟨ve,rfl⟩,po,CG⟩;exact⟨⟨nmj,yH⟩,N.trans CG⟩
       .rintro s5 w5 ⟨⟨Nw,ow⟩,iU⟩ d5;clear d5;have p05:=F iU zo zo i0;have pq5:=F iU zo zo iq;have aMn:∀ {b:Nat} {cs:Array Y} {U:Nat},U≠5->U≠103->U≠X.T->w3.heap[b]?=aP cs U->w5.heap[b]?=aP cs U:=fun{b cs U} u1 u2 u3 x=>iU.block _ _ x (by
         rintro (e | e | ⟨_,⟨cs',z',e⟩| ⟨_,_,e⟩⟩)
         .rw[e,eK.ext _ _ rK] at x;injection x with x;injection x with _ x _;exact u2 x.symm
         .grind
         .grind
         grind)
        have n35:=aMn zo zo zo (M.ext _ _ n3);obtain⟨s2,mB⟩:=ck (s1.add (c0::nr++[32,61,32]));rw[<- mB] at P;have xQ:(c0::nr).length<=3000:=zg;have apF:s2.cW<=s1.cW+3003/\s2.seen.length<=s2.out.length:=by
         grind [oL,Ws.pj,List.length_append,a0J,a0Z]
        have aW5:s1.cW=s1.out.length+60*s1.fuel:=rfl;refine⟨fun _ w6=>GW pY (E.nv k) (E.sr k).tr w1.heap.size X.eb 1 X.T C1 w6 s2/\mW w1.heap.size X.eb w3 w6,?_,?_⟩
        .refine dL Qy @p05 @pq5 (zA @n35 (zA @n4 @j8)) ?_;rw[Mh _ _ (by grind [a0J,a0Z])];refine a0C (GX (ow.ext (bD.drew yF)) Qx (c0::nr++[32,61,32]) (by grind [List.length_append,a0J,a0Z])) ?_;rintro e w6 ⟨⟨ve,rfl⟩,po,CG⟩;exact⟨⟨Nw,yH⟩,iU.trans ((bD.drew yF).trans CG)⟩
        .rintro s6 w6 ⟨⟨nm6,po⟩,CG⟩ d6;clear d6;obtain⟨r1,qn⟩:∃ r1,il (E.sr k).tr d l[j] 0 s2=O r1:=by
          cases hy:il (E.sr k).tr d l[j] 0 s2 with
          | none=>rw[hy] at P;cases P
          | some r1=>grind
         rw[qn] at P;have htj:er l[j]:=IM NU afk;have Yu:dN pY (E.nv k) w6 (ak tvv xvv) l[j]:=by
          rw[<- ND];exact hu.bJ (He.kv Qx CG).toT
         refine a0C ((cw d).tm (least:=0) Qx ⟨nm6,po⟩ Yu htj zo apF.2 qn) ?_;rintro e w7 ⟨A6,mN⟩;have aMp:=CG.trans A6;cases r1 with
         | none=>
          obtain⟨rfl,-,-⟩:=mN;have P:O V=O r0:=P;cases P;simp only[a0z,a0X] at hr;obtain⟨⟨rfl,rfl⟩,rfl⟩:=hr;have hq7:NR w7 qb w.heap.size (w.heap.size+1) (w.heap.size+1+1) (ak X.pT (pp X.eb)) (pq X.eb 1) (.func (.func X.fT) X.tf X.tc) (.slice (O ⟨nb,0,V⟩) vars.length xp.size) aj (.string (bs [])) aj:=
           ⟨yH,yH,yH,yH,zo,zo,zo⟩
          exact afc (t:=.y3) (s':=k) J J J yH hq7
         | some s7=>
          obtain⟨rfl,Ya⟩:=mN;refine cM Qy ?_;obtain⟨g1,g2⟩:=(aMg d).tm _ _ _ _ htj zo apF.2 qn;exact⟨vars.length-(j+1),zo,j+1,s7,zs,zo,J,Ya,aMp,P,zo,g2⟩
     .have fD:j=vars.length:=zo;subst fD;have Ie:r0=O i:=by
       rw[List.drop_of_length_le (Nat.le_refl _),y6] at P<;>grind
      subst Ie;simp only[a0z,a0X] at hr;obtain⟨⟨rfl,rfl⟩,rfl⟩:=hr;have G8:=F N zo zo i1;have K4:=F N zo zo i2;have lp1:=bn p1;have lp2:=bn p2;have hZ4:=hZw N;have Ks:∀ {S g:Z} (tx:Bs),mW w1.heap.size X.eb w3 S->S.heap[X.eb]?=aP (ky C1 1 i.fuel) X.T->g=bT (bT S (w.heap.size+1) (ah #[aW tx] 9)) (w.heap.size+1+1) (ah #[aj] 57) ->
        g.heap[w.heap.size+1]?=aP #[aW tx] 9/\g.heap[w.heap.size+1+1]?=aP #[aj] 57/\K8 D qb w g/\∃ eO,xo X D eO qb vars g (V,E.fu k i.fuel):=by
       intro S g tx Qz hcx y;have x1:=F Qz zo zo i1;have x2:=F Qz zo zo i2;have xq:=F Qz zo zo iq;have lx1:=bn x1;have lx2:=bn x2;have x:∀ b,b≠w.heap.size+1->b≠w.heap.size+1+1->g.heap[b]?=S.heap[b]?:=fun b h1 h2=>by rw[y,jh h2,jh h1]
       have z1:g.heap[w.heap.size+1]?=aP #[aW tx] 9:=by rw[y,jh zo];exact yH
       have z2:g.heap[w.heap.size+1+1]?=aP #[aj] 57:=yH;have Yr:bD (fun b o=>EM D b o\/b=qb\/w.heap.size<=b) w g:=by
        rw[y];exact((hZw Qz).bT (.inl fun _=>.inr (.inr zo))).bT yH
       have zq:g.heap[qb]?=aP (Yl X (.slice na G nc) V) 121:=by rw[x _ zo zo];grind
       have rj:Ha X.eb w1 g:=by
        refine⟨fun b cs U K u1 u2 eW=>?_,fun b es c K eW=>?_⟩
        .have o9:=bn eW;rw[x b (fun e=>by rw[e,j1] at eW;injection eW with eW;injection eW with _ eW _;exact u1 eW.symm) (fun e=>by rw[e,j2] at eW;injection eW with eW;injection eW with _ eW _;exact u2 eW.symm)];exact F Qz o9 K (M.ext _ _ eW)
        .have o9:=bn eW;rw[x b (fun e=>by rw[e,j1] at eW;cases eW) (fun e=>by rw[e,j2] at eW;cases eW)];exact F Qz o9 K (M.ext _ _ eW)
       have hcz:g.heap[X.eb]?=aP (ky (ky C1 1 ((E.sr k).fuel:Int)) 1 (i.fuel:Nat)) X.T:=by
        rw[x _ aL4 aL5,hcx];have e1:ky (ky C1 1 ((E.sr k).fuel:Int)) 1 (i.fuel:Int)=ky C1 1 (i.fuel:Int):=by
         unfold ky;rw[a3G]
        grind
       have jH:=T9.cell;rw[<- hC1] at jH;have hMz:=L.fuel NT jH rj hcz;have hnz:fO (fun _=>True) g 9 (.slice na G nc) (vars.map fun s=>aW s):=T8.mono zg fun b cs _ K=>Yr.block b _ K (by
        rintro (⟨_,_,_,_,h1,h2⟩| h | h)<;>grind)
       exact⟨z1,z2,hZ Yr,pY,yH,zg⟩
      refine cM Qy ?_;refine a0C (apo NV.bu) ?_;rintro e w5 ⟨rfl,rfl⟩;by_cases h0:i.out=[]
      .have vL:(i.out.length:Int)=0:=zg;refine jt vL @p1 @p2 ?_;obtain⟨g,y⟩:=ck (bT (bT w5 (w.heap.size+1) (ah #[aW [116,114,117,101]] 9 (0,0))) (w.heap.size+1+1) (ah #[aj] 57));obtain⟨z1,z2,z3,z4⟩:=Ks _ N NV.fu y;rw[<- y];refine afa ?_;refine dB @z1 @z2 ?_;grind
      .have vL:¬ (i.out.length:Int)=0:=by grind [List.length_pos_iff]
       refine cM vL ?_;refine a0C (an1 NV.bu h0) ?_;rintro e w6 ⟨rfl,CG⟩;have afm:=N.trans (CG.toW X.eb);have p16:=F afm zo zo i1;have p26:=F afm zo zo i2;refine dB @p16 @p26 ?_;obtain⟨g,y⟩:=ck (bT (bT w6 (w.heap.size+1) (ah #[aW i.out] 9)) (w.heap.size+1+1) (ah #[aj] 57));obtain⟨z1,z2,z3,z4⟩:=Ks _ afm (CG.block _ _ NV.fu (by
        rintro (h | ⟨_,_,_,h⟩)<;>grind)) y
       rw[<- y];refine afa ?_;refine dB @z1 @z2 ?_;grind
def Ha.toI(h:Ha pb w w'){C:Array Y}{T:Nat}(d:lh T)(f:w.heap[pb]?=aP C T):eM w w':=fun b cs U a c=>
 h.1 b cs U (fun e=>by rw[e,f] at c;cases c;exact a (.inl d)) (fun e=>a (.inr (.inl e))) (fun e=>a (.inr zg)) c
theorem afn(h:Ha pb w w'){size:Nat}(a:w.ownsRow base e size v n xs)(c:v.ownBlock≠O pb)(d:e≠9)(f:e≠57):w'.ownsRow base e size v n xs:=by
 refine⟨a.1,?_⟩;rcases a.2 with k | ⟨b,cap,cur,rfl,g,i,j⟩
 .exact yH
 .exact .inr ⟨b,cap,cur,J,g,h.1 _ _ _ (fun e=>c (by rw[<- e];rfl)) d f i,j⟩
def gV.apH{T:Nat}{s:Sr}(h:gV D ρ n pb so T cs tv w s)(a:vH so T cs)(hk:Ha pb w w'){C:Array Y}
  (g:w.heap[pb]?=aP C T) (i:w'.heap[pb]?=aP (ky C so (f:Int)) T):gV D ρ n pb so T cs tv w' { s with fuel:=f }:=by
 have j:T≠87/\T≠91/\T≠180/\T≠89:=by rcases a.ty with h | h<;>subst h<;>decide
 have hC:C=ky (cs.setIfInBounds so tv) so s.fuel:=by
  have:=h.cell;grind
 refine⟨h.sv.bJ fun b c t ht d=>hk.1 b c t (fun e=>?_) zo zo d,h.dv,?_,(by grind [afn,row,XI]),h.dr,h.ds,h.nd,h.lt,h.ok⟩
 .grind
 grind [a3G]
structure WkQ(base:List Cl)(nv wb mb xb:Nat)(vv:Y)(D:Nat->Prop)(ρ:Nat->Nat)(w:Z)(k:Wk):Prop where
 wk:P5 D ρ wb mb vv w k
 bs:Bv w mb base
 vr:fO (fun _=>True) w 89 vv (mY ρ (List.range nv))
 nv:nv<=k.n
 bx:w.heap[xb]?=aP #[pp wb] 122
def wkX(base:List Cl)(M nv wb mb xb:Nat)(vv:Y):By (Pq base nv) where
 T:=130
 pT:=122
 fN:=223
 fT:=40
 eb:=wb
 tf:=#[]
 tc:=#[pp xb]
 Mem D ρ w k:=WkQ base nv wb mb xb vv D ρ w k
 Good c k:=kP M (c*1000000) { k with sr:={ k.sr with fuel:=0 } }/\jC k.sr
theorem afp{ρ:Nat->Nat}{n:Nat}{w:Z}:∀ {l:List Nat},(∀ i∈l,i<n)->pU ρ n w (mY ρ l) (l.map .var)
 | [],_=>by unfold pU iP;rfl
 | i::l,h=>by
  unfold pU iP;refine⟨_,_,J,?_,afp zg⟩;unfold dK;exact⟨h i (List.mem_cons_self ..),J⟩
theorem P.afq:∀ (l:List Nat),iX (l.map .var)
 | []=>by unfold iX;trivial
 | i::l=>by unfold iX;exact⟨amR,P.afq l⟩
theorem aMx(base:List Cl)(M nv wb mb xb:Nat)(vv:Y)(fx:∀ c∈base,sN M c)(hM:M<=100000):Hb (wkX base M nv wb mb xb vv) where
 st:=by
  rintro D ρ w s ⟨⟨todo,av,tv,dk,h⟩,-⟩;exact⟨_,tv,Fv,h.st⟩
 ext:=by
  rintro D ρ w w' s ⟨⟨todo,av,tv,dk,h⟩,h2,h3,h4,h5⟩ hE;exact⟨⟨_,_,_,_,h.ext hE⟩,(by grind [eM.ed,Bv.bJ,bD.ext]),h3.mono zg (by grind [bD.ext]),h4,hE.ext _ _ h5⟩
 fuel:=by
  rintro D ρ w w' s C f ⟨⟨todo,av,tv,dk,h⟩,h2,h3,h4,h5⟩ hc hk oc;have hI:eM w w':=hk.toI (T:=130) (by grind [lh]) hc;have gD:av.ownBlock≠O wb:=fun e=>by
   obtain⟨cs,h1⟩:=h.Eg e;have hc:w.heap[wb]?=aP C 130:=hc;grind
  refine⟨⟨todo,av,tv,dk,h.st.apH Fv hk hc oc,h.td.bJ hI (eC.refl _ _),afn hk h.ar gD zo zo,h.ag.bJ hI (eC.refl _ _),h.da⟩,
   h2.bJ hI fun es c hm=>hk.2 _ es c (fun e=>?_) hm,h3.iJ hI (yM),h4,hI _ _ _ (yM) h5⟩
  grind
 apq:=fun s f=>rfl
 ae5:=fun s f=>rfl
 next:=by
  rintro D ρ w s c d f r ⟨h1,h2,h3,h4,h5⟩ hD ⟨hg,hs⟩ hc hr;have jI:kP M (c*1000000+1000000) { s with sr:={ s.sr with fuel:=1000000 } }:=by
   have g1:s.sr.tr.length+0<=c*1000000:=hg.cW;have g2:s.br.length+0<=c*1000000:=hg.mR;exact⟨⟨hg.todo,hg.ag,hg.marks,hg.mono⟩,by show s.sr.tr.length+1000000<=_;omega,zg⟩
  have hr:ju base d f A { s with sr:={ s.sr with fuel:=1000000 } }=O r:=hr;refine(aLt h1 hD h2 fx hM zo jI hr).mono ?_;rintro e w' ⟨hE,hp⟩;refine⟨hE,?_⟩;cases r with
  | error t=>omega
  | ok p=>
   obtain⟨rfl,eO,hu,hm⟩:=hp;have hI:=di.toI hE;refine⟨J,eO,hm,h2.fr hE,?_,Nat.le_trans h4 hu.1,(by grind [lh,di.bJ])⟩;rw[aoA hu (fun i hi=>Nat.lt_of_lt_of_le (List.mem_range.1 hi) h4)];exact h3.iJ hI (yM)
 yB:=by
  rintro s c d f k ⟨hg,hs⟩ hc-hr;have jI:kP M (c*1000000+1000000) { s with sr:={ s.sr with fuel:=1000000 } }:=by
   have g1:s.sr.tr.length+0<=c*1000000:=hg.cW;have g2:s.br.length+0<=c*1000000:=hg.mR;exact⟨⟨hg.todo,hg.ag,hg.marks,hg.mono⟩,by show s.sr.tr.length+1000000<=_;omega,zg⟩
  have hr:ju base d f A { s with sr:={ s.sr with fuel:=1000000 } }=O (.ok (A,k)):=hr;obtain⟨h1,h2,h3,h4⟩:=S5 fx f A { s with sr:={ s.sr with fuel:=1000000 } } _ jI ⟨hs.nC,hs.ok⟩ hr;refine⟨h4,fun f'=>⟨?_,h2.nC,h2.ok⟩⟩;have g1:k.sr.tr.length+k.sr.fuel<=c*1000000+1000000:=h1.cW;have g2:k.br.length+k.sr.fuel<=c*1000000+1000000:=h1.mR;exact⟨⟨h1.todo,h1.ag,h1.marks,h1.mono⟩,by show k.sr.tr.length+0<=(c+1)*1000000;omega,by show k.br.length+0<=(c+1)*1000000;omega⟩
 told:=by
  rintro D ρ w s ⟨⟨todo,av,tv,dk,h⟩,h2,h3,h4,h5⟩ -;have hc:=h.cell;obtain⟨va,vc,wX⟩:=h3.sl;show Calls baB 40 #[pp xb] w _;refine aLQ ?_;rw[wX] at hc;refine dB h5 hc ?_;refine⟨yF,_,_,J,zg,afp fun i hi=>Nat.lt_of_lt_of_le (List.mem_range.1 hi) h4⟩
 ae6:=by
  rintro s c l-h;have h:Except.ok ((List.range nv).map Tm.var)=Except.ok l:=h;grind [P.afq]
 ae7:=fun w=>by
  show(method (Tryz.prog.types.size+Made.depth) 122 (pp wb) "Next").run baB w = .ok (223,pp wb) w
  kernel_rfl
 cN:=by show zE baB 223=A;kernel_rfl
 cT:=by show zE baB 40=A;kernel_rfl
open Go.Extern.Stop Go.Stop Go.Extern
def aMy(t:Addr)(w:Z):(ReflectliteValue.unpack (ak 78 (au (O t)))).run baB w
 = .ok (.agg #[pq 12 78,pp w.heap.size,.int .u64 150]) (w.alloc (ah #[au (O t)] 78)):=zk
def aMz(a:Addr)(w:Z):(ReflectliteValue.methodAny (ReflectliteValue.valueError "reflectlite.Value.Type" 0) (fun t _ _ _=>ReflectliteType.toType t) #[.agg #[pq 12 78,au (O a),.int .u64 150]]).run baB w
 = .ok (ak 219 (.agg #[pq 12 78])) w:=zk
def aMA(w:Z):((ReflectliteType.abiMethod fun t=>Functor.map (fun a:Nat=>Value.int IntKind.u8 (a:Int)) (Rtype.kind t)) #[pq 12 78]).run baB w = .ok (.int .u8 22) w:=zk
def aMB(w:Z):((ReflectliteType.abiMethod fun t=>Functor.map (fun a:Nat=>Value.int IntKind.u8 (a:Int)) (Rtype.kind t)) #[pq 12 27]).run baB w = .ok (.int .u8 2) w:=zk
def apI(a:Addr)(w:Z):(ReflectliteValue.parts (.agg #[pq 12 78,au (O a),.int .u64 150])).run baB w = .ok (O (78,a,150)) w:=zk
def aMC(a p:Addr)(W:Z)(b:W.cell? a=O (au (O p))) :
  (ReflectliteValue.method (ReflectliteValue.valueError "reflectlite.Value.IsNil" 0) ReflectliteValue.isNil #[.agg #[pq 12 78,au (O a),.int .u64 150]]).run baB W = .ok (.bool ae) W:=by
 rw[WV];simp only[a0L,apI,a1r];simp [ReflectliteValue.isNil,loadVar,isAgg,underlying,underlying78,b,a1r]
def aMD(w:Z):(ReflectliteType.method ReflectliteType.elem #[.agg #[pq 12 78]]).run baB w = .ok (ak 219 (.agg #[pq 12 27])) w:=zk
def aME(w:Z):(ReflectliteType.relation "Implements" ReflectliteType.implements_ #[.agg #[pq 12 27],ak 219 (.agg #[pq 12 57])]).run baB w = .ok (.bool A) w:=zk
def apJ(v:Y)(w:Z):(ReflectliteType.typeOf #[ak 27 v]).run baB w = .ok (ak 219 (.agg #[pq 12 27])) w:=zk
def aMF(w:Z):(ReflectliteType.relation "AssignableTo" ReflectliteType.assignableTo #[.agg #[pq 12 27],ak 219 (.agg #[pq 12 27])]).run baB w = .ok (.bool A) w:=zk
def aMG(e:Int)(w:Z):(ReflectliteValue.unpack (ak 27 (zi e))).run baB w
 = .ok (.agg #[pq 12 27,pp w.heap.size,.int .u64 130]) (w.alloc (ah #[zi e] 27)):=zk
def aMH(w:Z):(Rtype.elem? 78).run baB w = .ok (O 27) w:=zk
def aMI(p:Addr)(w:Z):(ReflectliteValue.mk 27 p ReflectliteValue.flagAddr).run baB w = .ok (.agg #[pq 12 27,au (O p),.int .u64 386]) w:=zk
def aMJ(a p:Addr)(W:Z)(b:W.cell? a=O (au (O p))) :
  (ReflectliteValue.method (ReflectliteValue.valueError "reflectlite.Value.Elem" 0) ReflectliteValue.elem #[.agg #[pq 12 78,au (O a),.int .u64 150]]).run baB W
   = .ok (.agg #[pq 12 27,au (O p),.int .u64 386]) W:=by
 rw[WV];simp only[a0L,apI,a1r];simp [ReflectliteValue.elem,loadVar,isAgg,underlying,underlying78,b,a1r,aMH,aMI]
def aMK(a:Addr)(w:Z):(ReflectliteValue.parts (.agg #[pq 12 27,au (O a),.int .u64 386])).run baB w = .ok (O (27,a,386)) w:=zk
def aML(a:Addr)(w:Z):(ReflectliteValue.parts (.agg #[pq 12 27,au (O a),.int .u64 130])).run baB w = .ok (O (27,a,130)) w:=zk
def aMM(w:Z):(Rtype.directlyAssignable 27 27).run baB w = .ok A w:=zk
def aMN(a b:Addr)(e:Int)(c:Y)(W:Z)(d:W.cell? b=O (zi e))(ht:W.cell? a=O c)(f:W.frozen? a=ae) :
  (ReflectliteValue.set #[.agg #[pq 12 27,au (O a),.int .u64 386],.agg #[pq 12 27,au (O b),.int .u64 130]]).run baB W
   = .ok (aq #[]) (W.setCell a (zi e)):=by
 rw[amg];simp only[a0L,aMK,aML,a1r];simp [ReflectliteValue.flagAddr,loadVar,isAgg,underlying,underlying27,d,a1r,aMM,storeVar,Value.cells,storeCells,Addr.add];rw[run_store baB W a _ _ (by rfl)];grind
def aMO(e:Int)(t:Addr)(E5:Y)(w:Z)(hg:w.cell? ⟨0,0,V⟩=O (ak 219 (.agg #[pq 12 57])))(Kn:w.cell? t=O E5)(Gm:w.frozen? t=ae) :
  Calls baB 29 #[ak 27 (zi e),ak 78 (au (O t))] w fun ev w'=>ev = ai (.bool A)/\w'=((((w.alloc (ah #[au (O t)] 78)).alloc (ah #[pq 12 78,pp w.heap.size,.int .u64 150] 158)).alloc (ah #[pq 12 78,pp w.heap.size,.int .u64 150] 158)).alloc (ah #[zi e] 27)).setCell t (zi e):=by
 have h6:=@run_callFunc_extern baB 54 _ (fun args=>ReflectliteValue.unpack (args.getD 0 (aq #[]))) func54 zk zk zk zk;have h7:=@run_callFunc_extern baB 55 _ (ReflectliteValue.methodAny (ReflectliteValue.valueError "reflectlite.Value.Type" 0) (fun t _ _ _=>ReflectliteType.toType t)) func55 zk zk zk zk;have h8:=@run_callFunc_extern baB 56 _ (ReflectliteValue.method (ReflectliteValue.valueError "reflectlite.Value.IsNil" 0) ReflectliteValue.isNil) func56 zk zk zk zk;have GC:=@run_callFunc_extern baB 196 _ (ReflectliteType.abiMethod fun t=>do pure (.int .u8 (<- Rtype.kind t))) func196 zk zk zk zk;have h37:=@run_callFunc_extern baB 238 _ (ReflectliteType.method ReflectliteType.elem) func238 zk zk zk zk;have h38:=@run_callFunc_extern baB 239 _ (ReflectliteType.relation "Implements" ReflectliteType.implements_) func239 zk zk zk zk;have tN:=@run_callFunc_extern baB 87 _ ReflectliteType.typeOf func87 zk zk zk zk;have yZ:=@run_callFunc_extern baB 236 _ (ReflectliteType.relation "AssignableTo" ReflectliteType.assignableTo) func236 zk zk zk zk;have GD:=@run_callFunc_extern baB 88 _ (ReflectliteValue.method (ReflectliteValue.valueError "reflectlite.Value.Elem" 0) ReflectliteValue.elem) func88 zk zk zk zk;have Ci:=@run_callFunc_extern baB 89 _ ReflectliteValue.set func89 zk zk zk zk;have tO:=apJ;have mA:=acX;have a25:=aMF;have v25:=aMG;have f6:=aMy;have f7:=aMz;have mK:=acU;have mE:=acV;have mI:=acW;have k27:=aMA;have k25:=aMB;have e27:=aMD;have i25:=aME;have n8:=aMC ⟨w.heap.size,0,V⟩ t ((w.alloc (ah #[au (O t)] 78)).alloc (ah #[pq 12 78,pp w.heap.size,.int .u64 150] 158)) zs;have hlt:0<w.heap.size:=by
  grind [Nat.eq_zero_or_pos,a1f]
 have jR:((w.alloc (ah #[au (O t)] 78)).alloc (ah #[pq 12 78,pp w.heap.size,.int .u64 150] 158)).cell? ⟨0,0,V⟩=O (ak 219 (.agg #[pq 12 57])):=by
  rw[a1e _ _ ⟨0,0,V⟩ zs,a1e _ _ ⟨0,0,V⟩ hlt];exact hg
 have tF:t.block<w.heap.size:=by
  grind [Nat.lt_or_ge,a1f,a2W]
 have el:=aMJ ⟨w.heap.size,0,V⟩ t (((w.alloc (ah #[au (O t)] 78)).alloc (ah #[pq 12 78,pp w.heap.size,.int .u64 150] 158)).alloc (ah #[pq 12 78,pp w.heap.size,.int .u64 150] 158)) (by rw[a1e _ _ ⟨w.heap.size,0,V⟩ (by simp;omega)];simp);have st:=aMN t ⟨w.heap.size+1+1+1,0,V⟩ e E5 ((((w.alloc (ah #[au (O t)] 78)).alloc (ah #[pq 12 78,pp w.heap.size,.int .u64 150] 158)).alloc (ah #[pq 12 78,pp w.heap.size,.int .u64 150] 158)).alloc (ah #[zi e] 27))
  (by rw[World.cell?_alloc_at _ _ _ _ zs];rfl)
  (by rw[a1e _ _ t (by simp;omega),a1e _ _ t (by simp;omega),a1e _ _ t (by simp;omega),a1e _ _ t tF];exact Kn)
  (by rw[a1C _ _ t (by simp;omega),a1C _ _ t (by simp;omega),a1C _ _ t (by simp;omega),a1C _ _ t (Nat.ne_of_lt tF)];exact Gm)
 go_enter func29,ntmps29
 go_wp2
 refine wp_loop_rounds 1 ?_;rw[rounds_succ]
 go_wp2
 go_ret
 exact⟨J,J⟩
def aMP(w:Z):(ReflectliteType.relation "AssignableTo" ReflectliteType.assignableTo #[.agg #[pq 12 27],ak 219 (.agg #[pq 12 73])]).run baB w = .ok (.bool ae) w:=zk
def aMQ(v:Y)(a:TypeId)(w:Z):(a0T (ak 27 v) a 224 A).run baB w = .ok (aq #[aj,.bool ae]) w:=run_typeAssert_lacksB underlying224 zk zk v a w
def aMR(v:Y)(a:TypeId)(w:Z):(a0T (ak 27 v) a 227 A).run baB w = .ok (aq #[aj,.bool ae]) w:=run_typeAssert_lacksB underlying227 zk zk v a w
def aMS(v:Y)(a:TypeId)(w:Z):(a0T (ak 27 v) a 229 A).run baB w = .ok (aq #[aj,.bool ae]) w:=run_typeAssert_lacksB underlying229 zk zk v a w
def aMT(e:Int)(t:Addr)(E5:Y)(w:Z)(hg:w.cell? ⟨0,0,V⟩=O (ak 219 (.agg #[pq 12 57])))(Kn:w.cell? t=O E5)(Gm:w.frozen? t=ae) :
  Calls baB 29 #[ak 27 (zi e),ak 75 (au (O t))] w fun ev w'=>ev = ai (.bool ae)/\w'=(((w.alloc (ah #[au (O t)] 75)).alloc (ah #[pq 12 75,pp w.heap.size,.int .u64 150] 158)).alloc (ah #[pq 12 75,pp w.heap.size,.int .u64 150] 158)):=by
 have h6:=@run_callFunc_extern baB 54 _ (fun args=>ReflectliteValue.unpack (args.getD 0 (aq #[]))) func54 zk zk zk zk;have h7:=@run_callFunc_extern baB 55 _ (ReflectliteValue.methodAny (ReflectliteValue.valueError "reflectlite.Value.Type" 0) (fun t _ _ _=>ReflectliteType.toType t)) func55 zk zk zk zk;have h8:=@run_callFunc_extern baB 56 _ (ReflectliteValue.method (ReflectliteValue.valueError "reflectlite.Value.IsNil" 0) ReflectliteValue.isNil) func56 zk zk zk zk;have GC:=@run_callFunc_extern baB 196 _ (ReflectliteType.abiMethod fun t=>do pure (.int .u8 (<- Rtype.kind t))) func196 zk zk zk zk;have h37:=@run_callFunc_extern baB 238 _ (ReflectliteType.method ReflectliteType.elem) func238 zk zk zk zk;have h38:=@run_callFunc_extern baB 239 _ (ReflectliteType.relation "Implements" ReflectliteType.implements_) func239 zk zk zk zk;have tN:=@run_callFunc_extern baB 87 _ ReflectliteType.typeOf func87 zk zk zk zk;have yZ:=@run_callFunc_extern baB 236 _ (ReflectliteType.relation "AssignableTo" ReflectliteType.assignableTo) func236 zk zk zk zk;have tO:=apJ;have i1:=aMQ;have i2:=aMR;have i3:=aMS;have mA:=acX;have a25:=aMP;have f6:=al8;have f7:=al9;have mK:=acU;have mE:=acV;have mI:=acW;have k27:=ama;have k25:=amb;have e27:=ame;have i25:=amf;have n8:=amd ⟨w.heap.size,0,V⟩ t ((w.alloc (ah #[au (O t)] 75)).alloc (ah #[pq 12 75,pp w.heap.size,.int .u64 150] 158)) zs;have hlt:0<w.heap.size:=by
  grind [Nat.eq_zero_or_pos,a1f]
 have jR:((w.alloc (ah #[au (O t)] 75)).alloc (ah #[pq 12 75,pp w.heap.size,.int .u64 150] 158)).cell? ⟨0,0,V⟩=O (ak 219 (.agg #[pq 12 57])):=by
  rw[a1e _ _ ⟨0,0,V⟩ zs,a1e _ _ ⟨0,0,V⟩ hlt];exact hg
 have tF:t.block<w.heap.size:=by
  grind [Nat.lt_or_ge,a1f,a2W]
 go_enter func29,ntmps29
 go_wp2
 refine wp_loop_rounds 1 ?_;rw[rounds_succ]
 go_wp2
 go_ret
 exact⟨J,J⟩
end Go.Proofs.YtoegidfbnkaabaaGreatDoor
namespace Go.Proofs.YtoegidfbnkaabaaGreatDoor
open P
open Go.RowKit Sx
variable{D:Nat->Prop}{K:Y->Prop}{b base e g m n pb so xb:Nat}{cs:Array Y}{tv v:Y}{w w':Z}{xs:List Y}{ρ:Nat->Nat}
structure NW(D:Nat->Prop)(w w':Z):Prop where
 FB:eM w w'
 own:∀ (b:Nat) (o:Obj),D b->w.heap[b]?=O o->w'.heap[b]?=O o
 map:∀ (b:Nat) (es:Array MapEntry) (c:Nat),w.heap[b]?=O (.map es c)->w'.heap[b]?=O (.map es c)
structure QA{E:En}(X:By E):Prop where
 bJ:∀ {D ρ w w' s},X.Mem D ρ w s->NW D w w'->X.Mem D ρ w' s
 cut:∀ {D D':Nat->Prop} {ρ w s},X.Mem D ρ w s->(∀ b,b<w.heap.size->D b->D' b)->X.Mem D' ρ w s
def afr{size:Nat}(a:w.ownsRow base e size v n xs)(c:∀ g,v.ownBlock=O g->D g)(hk:∀ b o,D b->w.heap[b]?=O o->w'.heap[b]?=O o):w'.ownsRow base e size v n xs:=by
 refine⟨a.1,?_⟩;rcases a.2 with i | ⟨b,cap,cur,rfl,d,f,h⟩
 .exact yH
 .exact .inr ⟨b,cap,cur,J,d,hk _ _ (c b J) f,h⟩
def afs{size:Nat}(a:w.ownsRow base e size v n xs)(c:v.ownBlock=O g):g<w.heap.size:=by
 rcases a.2 with⟨rfl,-⟩| ⟨b,cap,cur,rfl,-,d,-⟩
 .cases c
 grind [Value.ownBlock,a0z,bn]
def gV.NY{T:Nat}{s:Sr}(h:gV D ρ n pb so T cs tv w s)(hk:NW D w w'):gV D ρ n pb so T cs tv w' s:=
 ⟨⟨h.sv.inj,fun i b=>by
  obtain⟨ref,d,a⟩:=h.sv.var i b;refine⟨ref,hk.own _ _ (h.dv i b) d,?_⟩;split at a
  .rename_i c;simpa [c] using a
  .rename_i t c;exact dK.bJ a hk.FB.toT⟩,h.dv,hk.own _ _ h.ds h.cell,afr h.row h.dr hk.own,h.dr,h.ds,h.nd,h.lt,h.ok⟩
def gV.N0{D':Nat->Prop}{T:Nat}{s:Sr}(h:gV D ρ n pb so T cs tv w s)(a:∀ b,b<w.heap.size->D b->D' b):gV D' ρ n pb so T cs tv w s:=
 ⟨h.sv,fun i d=>by
  obtain⟨ref,e,-⟩:=h.sv.var i d;grind [bn,dv],h.cell,h.row,fun g c=>a _ (afs h.row c) (h.dr g c),a _ (bn h.cell) h.ds,h.nd,h.lt,h.ok⟩
theorem wkD(base:List Cl)(M nv wb mb xb:Nat)(vv:Y):QA (wkX base M nv wb mb xb vv) where
 bJ:=by
  rintro D ρ w w' s ⟨⟨todo,av,tv,dk,h⟩,h2,h3,h4,h5⟩ hk;exact⟨⟨todo,av,tv,dk,h.st.NY hk,h.td.bJ hk.FB (eC.refl _ _),afr h.ar h.da hk.own,h.ag.bJ hk.FB (eC.refl _ _),h.da⟩,
   (by grind [Bv.bJ,NW.FB,NW.map]),h3.iJ hk.FB (yM),h4,hk.FB _ _ _ (yM) h5⟩
 cut:=by
  rintro D D' ρ w s ⟨⟨todo,av,tv,dk,h⟩,h2,h3,h4,h5⟩ hd;exact⟨⟨todo,av,tv,dk,h.st.N0 hd,h.td,h.ar,h.ag,fun g hg=>hd _ (afs h.ar hg) (h.da g hg)⟩,h2,h3,h4,h5⟩
def aMV(z:Array Y):∀ (n:Nat),(madeCells z n).size=n:=by
 grind [madeCells]
def aMW(n:Nat)(h:n<=100)(w:Z):Calls baB 77 #[zi (n:Nat)] w fun e w'=>Ext w w'/\∃ b,e = ai (cU b n n):=by
 refine aoC ?_;refine bF ?_;refine⟨fun m z w'=>∃ (j:Nat) (cs:Array Y),z 9=zi (j:Nat)/\j<=n/\m=n-j/\Ext w w'/\w'.heap[w.heap.size]?=aP cs 89/\cs.size=n,
  ⟨_,0,_,J,Nat.zero_le _,J,(bD.refl _ _).alloc _,tz J,by rw[aMV]⟩,?_⟩
 intro m z d w1 c;refine toPr ?_;obtain⟨j,cs,a,i,rfl,k,g1,l⟩:=c;have o:=bn g1;by_cases hlt:j<n
 .have p:(j:Int)<(n:Int):=zo;have f:(j:Int).toNat=j:=zo;refine jt a @f @g1 ?_;exact⟨_,zo,j+1,_,zs,zo,J,yF,J,yH⟩
 .have g:j=n:=zo;subst g;refine cM a ?_;exact yH
def uB{j:Option Addr}(p:n<=12)(f:w.heap[b]?=aP #[aW [],b9,pp xb,.slice j n pb] 86) :
  Calls baB 38 #[.map (O m),pp b] w fun e w'=>Ext w w'/\∃ q o,e = ai (pp q)/\w'.heap[q]?=aP o 130:=by
 refine aoD ?_;refine cM f ?_;refine a0C (aMW n zo w) ?_;rintro e w1 ⟨c,fb,rfl⟩;have d:=c.ext _ _ f;have r:=bn d;refine cM d ?_;obtain⟨w2,k⟩:=ck (w1.alloc (ah #[.map (O m),b9,zi 0,au V,b9,cU fb n n] 130));have l:w1.alloc (ah (Value.agg #[.map (O m),b9,zi 0,au V,b9,cU fb n n]).cells 130 (0,0))=w2:=k.symm;rw[l];have g:Ext w1 w2:=yF;have g2:w2.heap[w1.heap.size]?=aP #[.map (O m),b9,zi 0,au V,b9,cU fb n n] 130:=yH;have h:=g.ext _ _ d;have s:=bn g2;refine⟨fun w'=>w'.heap[b]?=w2.heap[b]?,J,?_⟩;rw[jF];refine cR (pq b 2) (fun w' a=>by rw[h] at a;exact fj a) (cR (pp xb) (fun w' a=>by rw[h] at a;have:=bn a;exact fj a) ?_);refine cM @g2 ?_;have i:Ext w2 (w2.drew.alloc (ah #[pp xb,cU fb n n,zi 0,au V] 207)):=yF;have s1:=c.size;exact⟨bD.bT (M:=fun _ _=>False) ((c.trans g).trans i) (.inr s1),_,_,J,qo J (bn (i.ext _ _ g2))⟩
def aMX{P:Program}{T:TypeId}(h:JF P T=A){S:Z->Prop}(hk:K (ak T v)):uU P (Instr.makeInterface T v) S K:=by
 refine⟨ak T v,fun w _=>?_,hk⟩;unfold JF at h;unfold Instr.makeInterface underlying;simp only[a0L,program,Sem.run,Result.andThen_ok];grind [Sem.run_pure,Result.andThen_ok]
