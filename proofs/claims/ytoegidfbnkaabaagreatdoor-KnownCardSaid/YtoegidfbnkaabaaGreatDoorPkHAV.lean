/- A part of one proof (KE2, KE3, KE5, KE6, KD0, PK2, PK3). -/
import Derived.Test.YtoegidfbnkaabaaGreatDoorPkHAU
import Derived.WalkKit
import Derived.LaidEql
import Derived.Stop.Asserts
import Derived.RowKitTokens
set_option linter.all false
set_option maxRecDepth 100000
set_option maxHeartbeats 8000000
open Option renaming some → O, none → V
open Go renaming Value → Y, World → Z
open Bool renaming true → A, false → G
open Go.Obj renaming cells → ae
open Go.Ending renaming returned → ah
open Go.Value renaming nilIface → ai, iface → aj, tuple → ak, pointer → aq
open Option.some renaming injEq → aZ9
open Go.Calls renaming mono → a0c
open List renaming drop_eq_getElem_cons → a0h, length_cons → a0j, length_nil → a0A
open Go.Sem renaming run_bind → a0l
open Go.Instr renaming typeAssert → a0t
open Prod.mk renaming injEq → a0y
open Go.World renaming cell?_alloc_lt → a0N, cell? → a0O, frozen?_alloc_old → a1b
open Go.Result renaming andThen → a00
open Array renaming getElem?_eq_none → a1Z, setIfInBounds_setIfInBounds → a3h
open Go.Ending.panicked renaming injEq → a4H
open Go.Proofs.Tryz renaming prog → a99
open Go.Proofs.Tryz
namespace Go.Proofs.YtoegidfbnkaabaaGreatDoor
open P
open Go.RowKit Sx
variable{D:Nat->Prop}{E:En}{R:Ending->Z->Prop}{S av buf iv nm o4 o5 tv v vv:Y}{base c cap d e f k' n pb qb so wb:Nat}{cs:Array Y}{out:Bs}{res:Z->Prop}{vars:List Bs}{w w':Z}{xs:List Y}{ρ:Nat->Nat}
def aoI(h:su w wb S nm out):Calls a99 43 #[pp wb] w fun e w'=>e = ah (zi (out.length:Nat))/\w'=w:=by
 obtain⟨f,buf,g,b,d⟩:=h;obtain⟨a,c,rfl⟩:=gX d;refine aLv ?_;exact fg b
def G2(eb:Nat)(w w':Z):Prop:=(∀ (b:Nat) (cs:Array Y) (T:Nat),b≠eb->T≠9->T≠57->w.heap[b]?=aN cs T->w'.heap[b]?=aN cs T) /\
 ∀ (b:Nat) (es:Array MapEntry) (c:Nat),b≠eb->w.heap[b]?=O (.map es c)->w'.heap[b]?=O (.map es c)
theorem G2.of(h:∀ b o,b≠pb->w.heap[b]?=O o->w'.heap[b]?=O o):G2 pb w w':=⟨yH,yH⟩
structure D7(E:En) where
 T:Nat
 pT:Nat
 fN:Nat
 fT:Nat
 eb:Nat
 tf:Array Y
 tc:Array Y
 Mem:(Nat->Prop)->(Nat->Nat)->Z->E.St->Prop
 Good:Nat->E.St->Prop
structure IT{E:En}(X:D7 E):Prop where
 st:∀ {D ρ w s},X.Mem D ρ w s->∃ cs tv,vu 1 X.T cs/\gU D ρ (E.nv s) X.eb 1 X.T cs tv w (E.sr s)
 ext:∀ {D ρ w w' s},X.Mem D ρ w s->Ext w w'->X.Mem D ρ w' s
 fuel:∀ {D ρ w w' s C f},X.Mem D ρ w s->w.heap[X.eb]?=aN C X.T->G2 X.eb w w'->w'.heap[X.eb]?=aN (ky C 1 ((f:Nat):Int)) X.T->X.Mem D ρ w' (E.fu s f)
 aoJ:∀ s f,E.sr (E.fu s f)=⟨(E.sr s).tr,f⟩
 aey:∀ s f,E.told (E.fu s f)=E.told s
 next:∀ {D ρ w s c d f r},X.Mem D ρ w (E.fu s 1000000)->(∀ b,w.heap.size<=b->D b)->X.Good c s->c<=700->E.nx d f (E.fu s 1000000)=O r ->
  Calls a99 X.fN #[pp X.eb] w (EPost D w (fun p e w'=>e = ah (.bool p.1)/\∃ eL,X.Mem D eL w' p.2) r)
 Ey:∀ {s c d f k},X.Good c s->c<=700->mH (E.sr s).tr->E.nx d f (E.fu s 1000000)=O (.ok (A,k))->(E.sr k).fuel<=1000000/\∀ f',X.Good (c+1) (E.fu k f')
 told:∀ {D ρ w s},X.Mem D ρ w s->(∃ c f,X.Good c (E.fu s f))->Calls a99 X.fT (X.tf++#[]++X.tc) w fun e w'=>Ext w w'/\match E.told s with
  | .ok l=>∃ v us,e = ah v/\fD (fun _=>True) w' 89 v us/\pE ρ (E.nv s) w' us l
  | .error t=>e=gV t
 aez:∀ {s c l},X.Good c s->E.told s = .ok l->ji l
 aeA:∀ w,(method (Tryz.prog.types.size+Made.depth) X.pT (pp X.eb) "Next").run a99 w = .ok (X.fN,pp X.eb) w
 cN:zC a99 X.fN=A
 cT:zC a99 X.fT=A
def Fo:Option Nat->Y
 | none=>ai
 | some k=>aj 27 (.int .i64 (k:Nat))
abbrev XX(X:D7 E)(KX:Y)(err:Option Nat):Array Y:=#[aj X.pT (pp X.eb),pq X.eb 1,.func (.func X.fT) X.tf X.tc,KX,Fo err]
structure D8{E:En}(X:D7 E)(D:Nat->Prop)(ρ:Nat->Nat)(qb:Nat)(names:List Bs)(w:Z)(q:Qs E):Prop where
 cell:∃ KX,w.heap[qb]?=aN (XX X KX q.1) 121/\fD (fun _=>True) w 9 KX (names.map fun s=>aM s)
 live:q.1=V->X.Mem D ρ w q.2
abbrev KY(D:Nat->Prop)(qb:Nat)(w w':Z):Prop:=bz (fun b o=>EM D b o\/b=qb) w w'
def aeD(h:res w) :
  LV a99 res R [{ target:=.fn (.func 42) #[tv,vv,av],args:=#[]++#[] }] .returning w:=by
 refine BG zk zs ((aLr tv vv av w).mono ?_);rintro e a w' ⟨rfl,rfl,rfl⟩;exact h
def aLJ(h:Nv w qb pb cap k' tv vv av o4 iv o5 buf)(t:jE){f:List PanicEntry}(ht:gV t = .panicked f)
  (c:∀ w',bz (fun b _=>b=qb\/b=cap\/b=k') w w'->Nv w' qb pb cap k' tv vv av o4 (Fo (O t.no)) (aM []) (Fo (O t.no))->res w') :
  LV a99 res R [{ target:=.fn (.func 42) #[pp pb,pp cap,pp k'],args:=#[]++#[] }] (.panicking f) w:=by
 have key:∀ {w0:Z} (k:Nat),Nv w0 qb pb cap k' tv vv av o4 iv o5 buf->Ext w w0->k=t.no ->
   res (bO (bO (bO w0 qb (ae #[tv,vv,av,o4,Fo (O k)] 121)) cap (ae #[aM []] 9 (0,0))) k' (ae #[Fo (O k)] 57)):=by
  intro w0 k g a hk;subst hk;obtain⟨i,x,l,j,m,n,p⟩:=g;have y:=bf i;have z:=bf j;refine c _ ⟨a.os,a.tape,a.output,by rw[uN,uN,uN];exact a.size,fun b o q d=>?_⟩ ⟨?_,?_,?_,?_,m,n,p⟩
  .rw[jd (fun e=>d (.inr (.inr e))),jd (fun e=>d (.inr (.inl e))),jd (fun e=>d (.inl e))];exact a.ext _ _ q
  .exact yH
  .exact yH
  .exact yH
  exact yH
 cases t with
 | fault e=>
  simp only[gV,a4H] at ht;subst ht;refine BG zk zs ((aLs h (e:Nat) []).mono ?_);rintro e' r w' ⟨rfl,rfl,rfl⟩;exact key e h yF J
 | DB=>
  simp only[gV,M0,a4H] at ht;subst ht;refine BG zk zs ((aLt h []).mono ?_);rintro e' r w' ⟨rfl,rfl,w0,B,rfl⟩;have s:Ext w w0:=yF;obtain⟨i,g,l,j,u⟩:=h;exact key 11 ⟨yH,yH,yH,yH,u⟩ s J
def aLK{X:D7 E}(L:IT X){q S:Qs E}{zf:Bs×Nat}(hq:D8 X D ρ qb vars w q)(hD:∀ b,w.heap.size<=b->D b)(hDg:¬ D 4)
  (hP:kJ w) (D9:qb≠X.eb) (hqg:qb≠4) (hg:q.1=V->X.Good c q.2) (hc:c<=700) (my:∀ nm∈vars,nm≠[]/\nm.length<=3000) (hn:vars.length<=12) (hlen:∀ k l,E.told k = .ok l->l.length=vars.length)
  (hr:Gy E vars d f q=O (zf,S)) :
  Calls a99 27 #[pp qb] w fun e w'=>KY D qb w w'/\e = ah (ak #[aM zf.1,Fo S.1])/\(S.1=V->zf.2=0)/\(∀ k,S.1=O k->zf.2=k)/\∃ eL,D8 X D eL qb vars w' S:=by
 suffices H:∀ R:Ending->Z->Prop,(∀ e w',KY D qb w w'/\e = ah (ak #[aM zf.1,Fo S.1])/\(S.1=V->zf.2=0)/\(∀ k,S.1=O k->zf.2=k)/\(∃ eL,D8 X D eL qb vars w' S)->R e w') ->
   Calls a99 27 #[pp qb] w R from H _ yF
 intro R hR;obtain⟨⟨KX,IU,TH⟩,Vj⟩:=hq;obtain⟨err,st⟩:=q;simp only at IU Vj hg;refine aLn ?_;have lq:=bf IU;obtain⟨na,I,nc,rfl⟩:∃ a n c,KX = .slice a n c:=by rcases TH with⟨-,rfl⟩| ⟨b,cs,rfl,-⟩<;>exact zg
 obtain⟨K,qN⟩:=b9 (((w.alloc (ae #[pp qb] 35)).alloc (ae #[aM []] 9 (0,0))).alloc (ae #[ai] 57));have sA:K.heap.size=w.heap.size+3:=yH;have yQ:Ext w K:=yF;have k0:K.heap[w.heap.size]?=aN #[pp qb] 35:=yH;have k1:K.heap[w.heap.size+1]?=aN #[aM []] 9:=yH;have k2:K.heap[w.heap.size+2]?=aN #[ai] 57:=yH;have Nw:=yQ.ext _ _ IU;obtain⟨b0,hb0⟩:=b9 w.heap.size;cases err with
 | some k=>
  simp only[Gy,aZ9,a0y] at hr;obtain⟨rfl,rfl⟩:=hr;have IU:w.heap[qb]?=aN #[aj X.pT (pp X.eb),pq X.eb 1,.func (.func X.fT) X.tf X.tc,.slice na I nc,aj 27 (zi (k:Nat))] 121:=IU;have Nw:K.heap[qb]?=aN #[aj X.pT (pp X.eb),pq X.eb 1,.func (.func X.fT) X.tf X.tc,.slice na I nc,aj 27 (zi (k:Nat))] 121:=Nw;refine cG IU ?_;rw[<- qN,size_alloc,size_alloc,size_alloc];have l1:=bf k1;have l2:=bf k2;refine⟨fun w'=>w'.heap[w.heap.size]?=K.heap[w.heap.size]?/\w'.heap[qb]?=K.heap[qb]?,yH,?_⟩;refine cQ (pp qb) (fun w' hS=>by have B:=hS.1;rw[k0] at B;have:=bf B;exact fg B) ?_;rw[jx];refine cQ (pq qb 4) (fun w' hS=>eQ) ?_;refine cQ (aj 27 (zi (k:Nat))) (fun w' hS=>by have B:=hS.2;rw[Nw] at B;have:=bf B;exact fg B) ?_;refine dy @k1 @k2 ?_;obtain⟨g,y⟩:=b9 (bO (bO K.drew (w.heap.size+1) (ae #[aM []] 9 (0,0))) (w.heap.size+1+1) (ae #[aj 27 (zi (k:Nat))] 57));rw[<- y];have Wu:Ext w g:=yF;exact hR _ _ ⟨yF,J,zg,zg,ρ,⟨_,yH,TH.mono zg yH⟩,zg⟩
 | none=>
  have IU:w.heap[qb]?=aN #[aj X.pT (pp X.eb),pq X.eb 1,.func (.func X.fT) X.tf X.tc,.slice na I nc,ai] 121:=IU;have Nw:K.heap[qb]?=aN #[aj X.pT (pp X.eb),pq X.eb 1,.func (.func X.fT) X.tf X.tc,.slice na I nc,ai] 121:=Nw;have hM:=L.ext (Vj J) yQ;have hg:=hg J;obtain⟨cs,tv,XY,gS⟩:=L.st hM;have Fp:=gS.cell;have jc:=XY.sz;have hT:X.T≠35/\X.T≠9/\X.T≠57/\X.T≠121:=by rcases XY.ty with h | h<;>rw[h]<;>decide
  obtain⟨C,hC⟩:=b9 (ky (cs.setIfInBounds 1 tv) 1 ((E.sr st).fuel:Int));rw[<- hC] at Fp;have hCs:C.size=cs.size:=zg;have le:=bf Fp;refine cG IU ?_;rw[<- qN,size_alloc,size_alloc,size_alloc];have h2C:2<C.size:=zo;obtain⟨x2,rp⟩:∃ x2,C[2]?=O x2:=⟨_,Array.getElem?_eq_getElem h2C⟩;have aWs:X.eb≠qb:=zo;have aWt:X.eb≠w.heap.size:=yH;have aLM:X.eb≠w.heap.size+1:=yH;have aLN:X.eb≠w.heap.size+2:=yH;obtain⟨wF,Fq⟩:=b9 (bO K X.eb (ae (ky C 1 1000000) X.T (0,0)));have ew:bO K X.eb (ae (C.setIfInBounds 2 (zi 1000000)) X.T (0,0))=wF:=Fq.symm;refine iJ Fp @k0 Nw ?_;rw[ew];have hZ:∀ {g:Z},bz (fun b o=>EM D b o\/b=qb\/w.heap.size<=b) w g->KY D qb w g:=(by grind [bz.mono,bf]);have hZe:∀ {a b:Z},dc D a b->bz (fun b o=>EM D b o\/b=qb\/w.heap.size<=b) a b:=(by grind [bz.mono]);have hZx:∀ {a b:Z},Ext a b->bz (fun b o=>EM D b o\/b=qb\/w.heap.size<=b) a b:=yF;have hEF:dc D K wF:=⟨by rw[Fq];rfl,by rw[Fq];rfl,by rw[Fq];rfl,yH,fun b o M hm=>by
   by_cases e:b=X.eb
   .subst e;rw[Fp] at M;exact absurd ⟨gS.ds,_,_,_,(Option.some.inj M).symm,XY.mu⟩ hm
   exact yH⟩
  have hMF:X.Mem D ρ wF (E.fu st 1000000):=L.fuel hM Fp (by grind [G2.of,jd]) (yH);have sF:wF.heap.size=w.heap.size+3:=yH;have hDF:∀ b,wF.heap.size<=b->D b:=yH;have mq:¬ lC 121/\¬ lC 35/\¬ lC 9/\¬ lC 57:=by grind [lC]
  obtain⟨r,hx,X0⟩:∃ r,E.nx d f (E.fu st 1000000)=O r/\True:=by
   cases hx:E.nx d f (E.fu st 1000000) with
   | none=>grind [Gy]
   | some r=>grind
  simp only[Gy,hx] at hr;refine⟨X.fN,_,L.aeA _,L.cN,?_⟩;refine a0c (L.next hMF hDF hg hc hx) ?_;rintro e w1 ⟨dB,hp⟩;have X1:dc D K w1:=yF;have s1:=dB.size;have j0:w1.heap[w.heap.size]?=aN #[pp qb] 35:=X1.bI mq.2.1 k0;have j1:w1.heap[w.heap.size+1]?=aN #[aM []] 9:=X1.bI mq.2.2.1 k1;have j2:w1.heap[w.heap.size+2]?=aN #[ai] 57:=X1.bI mq.2.2.2 k2;have jq:w1.heap[qb]?=aN #[aj X.pT (pp X.eb),pq X.eb 1,.func (.func X.fT) X.tf X.tc,.slice na I nc,ai] 121:=X1.bI mq.1 Nw;have hZ1:bz (fun b o=>EM D b o\/b=qb\/w.heap.size<=b) w w1:=yF;have aLS:fD (fun _=>True) w1 9 (.slice na I nc) (vars.map fun s=>aM s):=TH.mono zg (by grind [dc.bI,bz.ext]);have lj0:=bf j0;have lj1:=bf j1;have lj2:=bf j2;have ljq:=bf jq;have H4:∀ {g:Z} {k:Nat} {s':E.St},bz (fun b o=>EM D b o\/b=qb\/w.heap.size<=b) w g->g.heap[qb]?=aN #[aj X.pT (pp X.eb),pq X.eb 1,.func (.func X.fT) X.tf X.tc,.slice na I nc,Fo (O k)] 121 ->
    KY D qb w g/\∃ eL,D8 X D eL qb vars g (O k,s'):=fun{g k s'} hf hq=>by
   refine⟨hZ hf,ρ,⟨_,hq,?_⟩,zg⟩;refine TH.mono zg fun b cs _ M=>hf.block b _ M ?_;rintro (⟨_,_,_,_,h1,h2⟩| h | h)<;>grind
  have aeF:∀ {t:jE} {ch:List PanicEntry} {W:Z} {s':E.St},gV t = .panicked ch->zf=([],t.no)->S=(O t.no,s')->bz (fun b o=>EM D b o\/b=qb\/w.heap.size<=b) w W->Nv W qb w.heap.size (w.heap.size+1) (w.heap.size+1+1) (aj X.pT (pp X.eb)) (pq X.eb 1) (.func (.func X.fT) X.tf X.tc) (.slice na I nc) ai (.string (bs [])) ai ->
    LV a99 (fun g=>RD a99 (Instr.loadAt 9 (pp (w.heap.size+1))) g (fun r1=>RD a99 (Instr.loadAt 57 (pp (w.heap.size+1+1))) g
     (fun r2=>R (ah (ak #[r1,r2])) g) NX) NX) R
     [{ target:=.fn (.func 42) #[pp w.heap.size,pp (w.heap.size+1),pp (w.heap.size+1+1)],args:=#[]++#[] }] (.panicking ch) W:=by
   intro t ch W s' ht ha iU hf hB;subst ha iU;refine aLJ hB t ht fun g HW hz=>?_;obtain⟨zq,z0,z1,z2,-⟩:=hz;have z2':g.heap[w.heap.size+1+1]?=aN #[aj 27 (zi (t.no:Nat))] 57:=z2;refine dy @z1 @z2' ?_;obtain⟨r1,r2⟩:=H4 (s':=s') (by grind [bz.mono,bz.trans]) zq;grind
  cases r with
  | error t=>
   have hp:e=gV t:=hp;simp only[aZ9,a0y] at hr;obtain⟨⟨rfl,rfl⟩,rfl⟩:=hr;obtain⟨ch,M9⟩:∃ ch,gV t = .panicked ch:=by cases t<;>exact⟨_,J⟩
   rw[hp,M9];exact aeF M9 J J hZ1 ⟨jq,j0,j1,j2,zo,zo,zo⟩
  | ok p=>
   obtain⟨b,k⟩:=p;obtain⟨rfl,pH,Ny⟩:=hp;cases b with
   | false=>
    simp only[aZ9,a0y] at hr;obtain⟨⟨rfl,rfl⟩,rfl⟩:=hr;refine dy @j0 @jq ?_;obtain⟨w2,jV⟩:=b9 (bO w1 qb (ae #[aj X.pT (pp X.eb),pq X.eb 1,.func (.func X.fT) X.tf X.tc,.slice na I nc,aj 27 (zi 6)] 121));have P3:bO w1 qb (ae (ot #[aj X.pT (pp X.eb),pq X.eb 1,.func (.func X.fT) X.tf X.tc,.slice na I nc,ai] 4 (Value.iface 27 (zi 6)).cells.toList) 121 (0,0))=w2:=jV.symm;rw[P3];have i0:w2.heap[w.heap.size]?=aN #[pp qb] 35:=yH;have i1:w2.heap[w.heap.size+1]?=aN #[aM []] 9:=yH;have i2:w2.heap[w.heap.size+2]?=aN #[ai] 57:=yH;have iq:w2.heap[qb]?=aN #[aj X.pT (pp X.eb),pq X.eb 1,.func (.func X.fT) X.tf X.tc,.slice na I nc,aj 27 (zi 6)] 121:=yH;have hZ2:bz (fun b o=>EM D b o\/b=qb\/w.heap.size<=b) w w2:=yF;have li0:=bf i0;have li1:=bf i1;have li2:=bf i2;clear jV P3;refine⟨fun w'=>w'.heap[w.heap.size]?=w2.heap[w.heap.size]?/\w'.heap[qb]?=w2.heap[qb]?,yH,?_⟩;refine cQ (pp qb) (fun w' hS=>by have B:=hS.1;rw[i0] at B;have:=bf B;exact fg B) ?_;rw[jx];refine cQ (pq qb 4) (fun w' hS=>eQ) ?_;refine cQ (aj 27 (zi 6)) (fun w' hS=>by have B:=hS.2;rw[iq] at B;have:=bf B;exact fg B) ?_;refine dy @i1 @i2 ?_;obtain⟨g,y⟩:=b9 (bO (bO w2.drew (w.heap.size+1) (ae #[aM []] 9 (0,0))) (w.heap.size+1+1) (ae #[aj 27 (zi 6)] 57));rw[<- y];refine aeD ?_;have z1:g.heap[w.heap.size+1]?=aN #[aM []] 9:=yH;have z2:g.heap[w.heap.size+1+1]?=aN #[aj 27 (zi 6)] 57:=yH;have zq:g.heap[qb]?=aN #[aj X.pT (pp X.eb),pq X.eb 1,.func (.func X.fT) X.tf X.tc,.slice na I nc,Fo (O 6)] 121:=by rw[y,jd zo,jd zo];exact iq
    have X2:bz (fun b o=>EM D b o\/b=qb\/w.heap.size<=b) w g:=by
     rw[y];exact((hZ2.drew).bO (.inl fun _=>.inr (.inr zo))).bO (.inl fun _=>.inr (.inr zo))
    clear y;refine dy @z1 @z2 ?_;obtain⟨r1,r2⟩:=H4 (s':=k) X2 zq;exact hR _ _ ⟨r1,J,zg,zg,r2⟩
   | true=>
    have Ny:X.Mem D pH w1 k:=Ny;dsimp only at hr;refine dy @j0 @jq ?_;obtain⟨wW,hwW⟩:=b9 (w1.alloc (ae #[aq V,bH,pq X.eb 1,.map V] 103));rw[<- hwW];have hEW:Ext w1 wW:=yF;have rB:wW.heap[w1.heap.size]?=aN #[aq V,bH,pq X.eb 1,.map V] 103:=yH;clear hwW;have hMW:=L.ext Ny hEW;refine⟨L.cT,?_⟩;refine a0c (L.told hMW ⟨c+1,0,(L.Ey hg hc gS.ok hx).2 0⟩) ?_;rintro e w3 ⟨eI,gK⟩;have N:Ext w1 w3:=yF;have hZ3:=hZ1.trans (hZx N);cases ht:E.told k with
    | error t=>
     rw[ht] at gK hr;have gK:e=gV t:=gK;simp only[aZ9,a0y] at hr;obtain⟨⟨rfl,rfl⟩,rfl⟩:=hr;obtain⟨ch,M9⟩:∃ ch,gV t = .panicked ch:=by cases t<;>exact⟨_,J⟩
     rw[gK,M9];exact aeF M9 J J hZ3 ⟨N.ext _ _ jq,N.ext _ _ j0,N.ext _ _ j1,N.ext _ _ j2,zo,zo,zo⟩
    | ok l=>
     rw[ht] at gK hr;obtain⟨v,us,rfl,mW,kP⟩:=gK;simp only at hr;obtain⟨r0,Ds⟩:∃ r0,MN (E.sr k).tr d vars l ⟨(E.sr k).fuel,[],[]⟩=O r0:=by
      grind
     rw[Ds] at hr;obtain⟨ta,aWD,rfl⟩:=mW.sl;have uz:us.length=vars.length:=by rw[kP.length,hlen k l ht]
     obtain⟨hfu,aos⟩:=L.Ey hg hc gS.ok hx;have Nz:ji l:=L.aez (aos 0) ((L.aey k 0).trans ht);obtain⟨y8,KE,aeH,TI⟩:=L.st Ny;have aoR:=TI.ext N;obtain⟨C1,hC1⟩:=b9 (y8.setIfInBounds 1 KE);have aeI:=aoR.cell;rw[<- hC1] at aeI;have aWE:C1.size=y8.size:=zg;have aBs:=aeH.sz;have hTw:X.T≠103/\X.T≠5/\X.T≠180/\X.T≠89/\X.T≠91:=by rcases aeH.ty with h | h<;>rw[h]<;>decide
     have hgp:4<w.heap.size:=yH;have aWF:X.eb<w1.heap.size:=zo;have KW:wS (E.sr k).tr w1.heap.size X.eb 1 X.T C1:=⟨TI.ok,zo,zo,zo,(by grind [gU.ds]),hTw.2.1,hTw.2.2⟩;have hP3:kJ w3:=hP.bI fun o x=>by
      refine hZ3.block _ o x ?_;rintro (⟨h,_⟩| h | h)<;>grind
     have D6:lI pH (E.nv k) (E.sr k).tr w1.heap.size X.eb 1 X.T C1 (.map V) w3 ⟨(E.sr k).fuel,[],[]⟩:=
      ⟨aoR.sv,⟨aq V,bH,yH,eI.ext _ _ rB,World.ownsRow_nil _ _ _ _⟩,.inl ⟨J,J⟩,aeI,hP3,zg⟩
     have i0:=N.ext _ _ j0;have i1:=N.ext _ _ j1;have i2:=N.ext _ _ j2;have iq:=N.ext _ _ jq;have F:∀ {w4:Z} {b:Nat} {o:Obj},ml w1.heap.size X.eb w3 w4->b<w1.heap.size->b≠X.eb->w3.heap[b]?=O o->w4.heap[b]?=O o:=fun h M dZ x=>h.block _ _ x (by rintro (e | e | ⟨e,_⟩)<;>omega);have aWG:l.length=vars.length:=zg;have hZw:∀ {w4:Z},ml w1.heap.size X.eb w3 w4->bz (fun b o=>EM D b o\/b=qb\/w.heap.size<=b) w w4:=fun h=>hZ3.trans (bz.mono h fun b o M hm=>by
      rcases hm with e | e | ⟨e,_⟩
      .exact yH
      .subst e;rw[aeI] at M;exact .inl ⟨TI.ds,_,_,_,(Option.some.inj M).symm,aeH.mu⟩
      exact yH)
     have aLX:=Kc TI.ok;refine bD ?_;rw[uz];refine⟨fun m z w4=>∃ (j:Nat) (i:Ws),z 49=zi (j:Nat)/\j<=vars.length/\m=vars.length-j/\GL pH (E.nv k) (E.sr k).tr w1.heap.size X.eb 1 X.T C1 w4 i/\ml w1.heap.size X.eb w3 w4 /\
       MN (E.sr k).tr d (vars.drop j) (l.drop j) i=O r0/\i.cS<=60000000+4000*j/\i.seen.length<=i.out.length,
      ⟨_,0,_,J,Nat.zero_le _,J,⟨_,D6⟩,bz.refl _ _,Ds,by grind [Ws.cS],Nat.le_refl _⟩,?_⟩
     intro m z dd w4 hI;clear dd;refine toPr ?_;obtain⟨j,i,Qc,hj,rfl,⟨nmj,NA⟩,P,Q,anH,KA⟩:=hI;have p0:=F P zo zo i0;have p1:=F P zo zo i1;have p2:=F P zo zo i2;have pqz:=F P zo zo iq;have lp0:=bf p0;have lpq:=bf pqz;have s4:=P.size;have hkT:∀ {b:Nat} {cs:Array Y} {U:Nat},U≠5->U≠103->U≠X.T->w3.heap[b]?=aN cs U->w4.heap[b]?=aN cs U:=fun{b cs U} u1 u2 u3 x=>P.block _ _ x (by
      rintro (e | e | ⟨_,⟨cs',z',e⟩| ⟨_,_,e⟩⟩)
      .rw[e,eI.ext _ _ rB] at x;injection x with x;injection x with _ x _;exact u2 x.symm
      .grind
      .grind
      grind)
     by_cases hlt:j<vars.length
     .have aLY:j<us.length:=zo;have aeN:j<l.length:=zo;obtain⟨tb,tcs,e1,-,e3,e4⟩:=mW.at' (j:=j) aLY;obtain⟨u,e5,hu⟩:=kP.at j aeN;rw[e5] at e4;rw[uz] at e1;simp only[Value.slice.injEq,true_and] at e1;obtain⟨rfl,rfl⟩:=e1;have X3:=hkT zd zd (fun e=>hTw.2.2.2.1 e.symm) e3;obtain⟨nb,xd,n1,-,n3,n4⟩:=aLS.at' (j:=j) zg;have n4:xd[j]?=O (aM (vars[j])):=by rw[n4,List.getElem?_map,List.getElem?_eq_getElem hlt];rfl
      rw[List.length_map] at n1;simp only[Value.slice.injEq] at n1;obtain⟨rfl,rfl,rfl⟩:=n1;have n3':=hkT zo zo zo (N.ext _ _ n3);have jJ:(j:Int).toNat=j:=zo;have Cu:(j:Int)<(vars.length:Nat):=zo;obtain⟨tvv,xvv,Nh⟩:=hu.iface;rw[Nh] at e4;obtain⟨C2,Hn⟩:=my vars[j] (List.getElem_mem hlt);rw[a0h hlt,a0h aeN,MN] at Q;obtain⟨c0,nr,X4⟩:∃ c0 nr,vars[j]=c0::nr:=by
       cases hx:vars[j] with
       | nil=>grind
       | cons c0 nr=>grind
      by_cases h95:c0=95
      .subst h95;rw[X4,List.head?_cons,zip rfl] at Q;rw[X4] at n4;refine dC Qc @X3 @e4 (zA @p0 (zA @pqz (zA @n3' (zA @n4 @jJ)))) ?_;have e95:(((((95:UInt8)::nr).getD 0 0).toNat:Nat):Int)=95:=rfl;refine dy @e95 Qc ?_;exact⟨vars.length-(j+1),zo,j+1,i,zs,zo,J,⟨nmj,NA⟩,P,Q,zo,KA⟩
      .rw[X4,List.head?_cons,bX zg] at Q;rw[X4] at n4;have e95:¬ (((((c0:UInt8)::nr).getD 0 0).toNat:Nat):Int)=95:=by
        simp only[List.getD_cons_zero];intro h;apply h95;have:c0.toNat=95:=zo;exact UInt8.toNat_inj.1 this
       obtain⟨s1,dX⟩:=b9 (if i.out=[] then i else i.add [44,32]);rw[<- dX] at Q;have anI:i.cS=i.out.length+60*i.fuel:=rfl;have aWK:s1.cS<=i.cS+2/\s1.seen.length<=s1.out.length:=by
        rw[dX];split
        .omega
        .exact⟨by rw[Ws.oO];simp,oA KA⟩
       refine dC Qc @X3 @e4 (zA @p0 (zA @pqz (zA @n3' (zA @n4 @jJ)))) ?_;refine⟨fun _ w5=>GL pH (E.nv k) (E.sr k).tr w1.heap.size X.eb 1 X.T C1 w5 s1/\ml w1.heap.size X.eb w3 w5,?_,?_⟩
       .refine bD ?_;refine a0c (aoI NA.bu) ?_;rintro e w5 ⟨rfl,rfl⟩;by_cases h0:i.out=[]
        .rw[zip h0] at dX;have vA:¬ (0:Int)<(i.out.length:Int):=zg;refine cG vA ?_;exact⟨⟨nmj,yH⟩,P⟩
        .rw[bX h0] at dX;have vA:(0:Int)<(i.out.length:Int):=by grind [List.length_pos_iff]
         refine cG vA ?_;refine a0c (GN NA KW [44,32] (by simp;omega)) ?_;rintro e w6 ⟨⟨ve,rfl⟩,oQ,Ax⟩;exact⟨⟨nmj,yH⟩,P.trans Ax⟩
       .rintro s5 w5 ⟨⟨Na,oc⟩,iR⟩ d5;clear d5;have p05:=F iR zo zo i0;have pq5:=F iR zo zo iq;have aL4:∀ {b:Nat} {cs:Array Y} {U:Nat},U≠5->U≠103->U≠X.T->w3.heap[b]?=aN cs U->w5.heap[b]?=aN cs U:=fun{b cs U} u1 u2 u3 x=>iR.block _ _ x (by
         rintro (e | e | ⟨_,⟨cs',z',e⟩| ⟨_,_,e⟩⟩)
         .rw[e,eI.ext _ _ rB] at x;injection x with x;injection x with _ x _;exact u2 x.symm
         .grind
         .grind
         grind)
        have n35:=aL4 zo zo zo (N.ext _ _ n3);obtain⟨s2,mh⟩:=b9 (s1.add (c0::nr++[32,61,32]));rw[<- mh] at Q;have xE:(c0::nr).length<=3000:=zg;have aoY:s2.cS<=s1.cS+3003/\s2.seen.length<=s2.out.length:=by
         grind [oA,Ws.oO,List.length_append,a0j,a0A]
        have aWL:s1.cS=s1.out.length+60*s1.fuel:=rfl;refine⟨fun _ w6=>GL pH (E.nv k) (E.sr k).tr w1.heap.size X.eb 1 X.T C1 w6 s2/\ml w1.heap.size X.eb w3 w6,?_,?_⟩
        .refine dC Qc @p05 @pq5 (zA @n35 (zA @n4 @jJ)) ?_;rw[LY _ _ (by grind [a0j,a0A])];refine a0c (GN (oc.ext (bz.drew yF)) KW (c0::nr++[32,61,32]) (by grind [List.length_append,a0j,a0A])) ?_;rintro e w6 ⟨⟨ve,rfl⟩,oQ,Ax⟩;exact⟨⟨Na,yH⟩,iR.trans ((bz.drew yF).trans Ax)⟩
        .rintro s6 w6 ⟨⟨XW,oQ⟩,Ax⟩ d6;clear d6;obtain⟨r1,pW⟩:∃ r1,ku (E.sr k).tr d l[j] 0 s2=O r1:=by
          cases hy:ku (E.sr k).tr d l[j] 0 s2 with
          | none=>rw[hy] at Q;cases Q
          | some r1=>grind
         rw[pW] at Q;have htj:ef l[j]:=IB Nz aeN;have X5:dL pH (E.nv k) w6 (aj tvv xvv) l[j]:=by
          rw[<- Nh];exact hu.bI (D6.kv KW Ax).toT
         refine a0c ((cw d).tm (least:=0) KW ⟨XW,oQ⟩ X5 htj zo aoY.2 pW) ?_;rintro e w7 ⟨yK,mB⟩;have aL6:=Ax.trans yK;cases r1 with
         | none=>
          obtain⟨rfl,-,-⟩:=mB;have Q:O V=O r0:=Q;cases Q;simp only[aZ9,a0y] at hr;obtain⟨⟨rfl,rfl⟩,rfl⟩:=hr;have hq7:Nv w7 qb w.heap.size (w.heap.size+1) (w.heap.size+1+1) (aj X.pT (pp X.eb)) (pq X.eb 1) (.func (.func X.fT) X.tf X.tc) (.slice (O ⟨nb,0,V⟩) vars.length xd.size) ai (.string (bs [])) ai:=
           ⟨yH,yH,yH,yH,zo,zo,zo⟩
          exact aeF (t:=.DB) (s':=k) J J J yH hq7
         | some s7=>
          obtain⟨rfl,XM⟩:=mB;refine cG Qc ?_;obtain⟨g1,g2⟩:=(aLX d).tm _ _ _ _ htj zo aoY.2 pW;exact⟨vars.length-(j+1),zo,j+1,s7,zs,zo,J,XM,aL6,Q,zo,g2⟩
     .have fx:j=vars.length:=zo;subst fx;have Ds:r0=O i:=by
       rw[List.drop_of_length_le (Nat.le_refl _),MN] at Q<;>grind
      subst Ds;simp only[aZ9,a0y] at hr;obtain⟨⟨rfl,rfl⟩,rfl⟩:=hr;have GY:=F P zo zo i1;have KS:=F P zo zo i2;have lp1:=bf p1;have lp2:=bf p2;have hZ4:=hZw P;have Km:∀ {W g:Z} (tx:Bs),ml w1.heap.size X.eb w3 W->W.heap[X.eb]?=aN (ky C1 1 i.fuel) X.T->g=bO (bO W (w.heap.size+1) (ae #[aM tx] 9)) (w.heap.size+1+1) (ae #[ai] 57) ->
        g.heap[w.heap.size+1]?=aN #[aM tx] 9/\g.heap[w.heap.size+1+1]?=aN #[ai] 57/\KY D qb w g/\∃ eL,D8 X D eL qb vars g (V,E.fu k i.fuel):=by
       intro W g tx Qd hcx y;have x1:=F Qd zo zo i1;have x2:=F Qd zo zo i2;have xq:=F Qd zo zo iq;have lx1:=bf x1;have lx2:=bf x2;have x:∀ b,b≠w.heap.size+1->b≠w.heap.size+1+1->g.heap[b]?=W.heap[b]?:=fun b h1 h2=>by rw[y,jd h2,jd h1]
       have z1:g.heap[w.heap.size+1]?=aN #[aM tx] 9:=by rw[y,jd zo];exact yH
       have z2:g.heap[w.heap.size+1+1]?=aN #[ai] 57:=yH;have X2:bz (fun b o=>EM D b o\/b=qb\/w.heap.size<=b) w g:=by
        rw[y];exact((hZw Qd).bO (.inl fun _=>.inr (.inr zo))).bO yH
       have zq:g.heap[qb]?=aN (XX X (.slice na I nc) V) 121:=by rw[x _ zo zo];grind
       have qP:G2 X.eb w1 g:=by
        refine⟨fun b cs U M u1 u2 eX=>?_,fun b es c M eX=>?_⟩
        .have oL:=bf eX;rw[x b (fun e=>by rw[e,j1] at eX;injection eX with eX;injection eX with _ eX _;exact u1 eX.symm) (fun e=>by rw[e,j2] at eX;injection eX with eX;injection eX with _ eX _;exact u2 eX.symm)];exact F Qd oL M (N.ext _ _ eX)
        .have oL:=bf eX;rw[x b (fun e=>by rw[e,j1] at eX;cases eX) (fun e=>by rw[e,j2] at eX;cases eX)];exact F Qd oL M (N.ext _ _ eX)
       have hcz:g.heap[X.eb]?=aN (ky (ky C1 1 ((E.sr k).fuel:Int)) 1 (i.fuel:Nat)) X.T:=by
        rw[x _ aLM aLN,hcx];have e1:ky (ky C1 1 ((E.sr k).fuel:Int)) 1 (i.fuel:Int)=ky C1 1 (i.fuel:Int):=by
         unfold ky;rw[a3h]
        grind
       have js:=TI.cell;rw[<- hC1] at js;have hMz:=L.fuel Ny js qP hcz;have hnz:fD (fun _=>True) g 9 (.slice na I nc) (vars.map fun s=>aM s):=TH.mono zg fun b cs _ M=>X2.block b _ M (by
        rintro (⟨_,_,_,_,h1,h2⟩| h | h)<;>grind)
       exact⟨z1,z2,hZ X2,pH,yH,zg⟩
      refine cG Qc ?_;refine a0c (aoI NA.bu) ?_;rintro e w5 ⟨rfl,rfl⟩;by_cases h0:i.out=[]
      .have vA:(i.out.length:Int)=0:=zg;refine iJ vA @p1 @p2 ?_;obtain⟨g,y⟩:=b9 (bO (bO w5 (w.heap.size+1) (ae #[aM [116,114,117,101]] 9 (0,0))) (w.heap.size+1+1) (ae #[ai] 57));obtain⟨z1,z2,z3,z4⟩:=Km _ P NA.fu y;rw[<- y];refine aeD ?_;refine dy @z1 @z2 ?_;grind
      .have vA:¬ (i.out.length:Int)=0:=by grind [List.length_pos_iff]
       refine cG vA ?_;refine a0c (adn NA.bu h0) ?_;rintro e w6 ⟨rfl,Ax⟩;have aeO:=P.trans (Ax.toW X.eb);have p16:=F aeO zo zo i1;have p26:=F aeO zo zo i2;refine dy @p16 @p26 ?_;obtain⟨g,y⟩:=b9 (bO (bO w6 (w.heap.size+1) (ae #[aM i.out] 9)) (w.heap.size+1+1) (ae #[ai] 57));obtain⟨z1,z2,z3,z4⟩:=Km _ aeO (Ax.block _ _ NA.fu (by
        rintro (h | ⟨_,_,_,h⟩)<;>grind)) y
       rw[<- y];refine aeD ?_;refine dy @z1 @z2 ?_;grind
def G2.toI(h:G2 pb w w'){C:Array Y}{T:Nat}(d:lC T)(f:w.heap[pb]?=aN C T):eM w w':=fun b cs U a c=>
 h.1 b cs U (fun e=>by rw[e,f] at c;cases c;exact a (.inl d)) (fun e=>a (.inr (.inl e))) (fun e=>a (.inr zg)) c
theorem aeP(h:G2 pb w w'){size:Nat}(a:w.ownsRow base e size v n xs)(c:v.ownBlock≠O pb)(d:e≠9)(f:e≠57):w'.ownsRow base e size v n xs:=by
 refine⟨a.1,?_⟩;rcases a.2 with k | ⟨b,cap,cur,rfl,g,i,j⟩
 .exact yH
 .exact .inr ⟨b,cap,cur,J,g,h.1 _ _ _ (fun e=>c (by rw[<- e];rfl)) d f i,j⟩
def gU.ao1{T:Nat}{s:Sr}(h:gU D ρ n pb so T cs tv w s)(a:vu so T cs)(hk:G2 pb w w'){C:Array Y}
  (g:w.heap[pb]?=aN C T) (i:w'.heap[pb]?=aN (ky C so (f:Int)) T):gU D ρ n pb so T cs tv w' { s with fuel:=f }:=by
 have j:T≠87/\T≠91/\T≠180/\T≠89:=by rcases a.ty with h | h<;>subst h<;>decide
 have hC:C=ky (cs.setIfInBounds so tv) so s.fuel:=by
  have:=h.cell;grind
 refine⟨h.sv.bI fun b c t ht d=>hk.1 b c t (fun e=>?_) zo zo d,h.dv,?_,(by grind [aeP,row,Xi]),h.dr,h.ds,h.nd,h.lt,h.ok⟩
 .grind
 grind [a3h]
structure WkQ(base:List Cl)(nv wb mb xb:Nat)(vv:Y)(D:Nat->Prop)(ρ:Nat->Nat)(w:Z)(k:Wk):Prop where
 wk:PJ D ρ wb mb vv w k
 bs:Bn w mb base
 vr:fD (fun _=>True) w 89 vv (mm ρ (List.range nv))
 nv:nv<=k.n
 bx:w.heap[xb]?=aN #[pp wb] 122
def wkX(base:List Cl)(M nv wb mb xb:Nat)(vv:Y):D7 (WI base nv) where
 T:=130
 pT:=122
 fN:=223
 fT:=40
 eb:=wb
 tf:=#[]
 tc:=#[pp xb]
 Mem D ρ w k:=WkQ base nv wb mb xb vv D ρ w k
 Good c k:=lN M (c*1000000) { k with sr:={ k.sr with fuel:=0 } }/\lB k.sr
theorem aeR{ρ:Nat->Nat}{n:Nat}{w:Z}:∀ {l:List Nat},(∀ i∈l,i<n)->pE ρ n w (mm ρ l) (l.map .var)
 | [],_=>by unfold pE iG;rfl
 | i::l,h=>by
  unfold pE iG;refine⟨_,_,J,?_,aeR zg⟩;unfold dH;exact⟨h i (List.mem_cons_self ..),J⟩
theorem P.aeS:∀ (l:List Nat),ji (l.map .var)
 | []=>by unfold ji;trivial
 | i::l=>by unfold ji;exact⟨al2,P.aeS l⟩
theorem aMe(base:List Cl)(M nv wb mb xb:Nat)(vv:Y)(gT:∀ c∈base,yW M c)(hM:M<=100000):IT (wkX base M nv wb mb xb vv) where
 st:=by
  rintro D ρ w s ⟨⟨todo,av,tv,di,h⟩,-⟩;exact⟨_,tv,Fi,h.st⟩
 ext:=by
  rintro D ρ w w' s ⟨⟨todo,av,tv,di,h⟩,h2,h3,h4,h5⟩ hE;exact⟨⟨_,_,_,_,h.ext hE⟩,(by grind [eM.ea,Bn.bI,bz.ext]),h3.mono zg (by grind [bz.ext]),h4,hE.ext _ _ h5⟩
 fuel:=by
  rintro D ρ w w' s C f ⟨⟨todo,av,tv,di,h⟩,h2,h3,h4,h5⟩ hc hk nQ;have hI:eM w w':=hk.toI (T:=130) (by grind [lC]) hc;have gi:av.ownBlock≠O wb:=fun e=>by
   obtain⟨cs,h1⟩:=h.D0 e;have hc:w.heap[wb]?=aN C 130:=hc;grind
  refine⟨⟨todo,av,tv,di,h.st.ao1 Fi hk hc nQ,h.td.bI hI (eo.refl _ _),aeP hk h.ar gi zo zo,h.ag.bI hI (eo.refl _ _),h.da⟩,
   h2.bI hI fun es c hm=>hk.2 _ es c (fun e=>?_) hm,h3.iZ hI (yM),h4,hI _ _ _ (yM) h5⟩
  grind
 aoJ:=fun s f=>rfl
 aey:=fun s f=>rfl
 next:=by
  rintro D ρ w s c d f r ⟨h1,h2,h3,h4,h5⟩ hD ⟨hg,hs⟩ hc hr;have jz:lN M (c*1000000+1000000) { s with sr:={ s.sr with fuel:=1000000 } }:=by
   have g1:s.sr.tr.length+0<=c*1000000:=hg.cS;have g2:s.br.length+0<=c*1000000:=hg.nj;exact⟨⟨hg.todo,hg.ag,hg.marks,hg.mono⟩,by show s.sr.tr.length+1000000<=_;omega,zg⟩
  have hr:kO base d f A { s with sr:={ s.sr with fuel:=1000000 } }=O r:=hr;refine(aKX h1 hD h2 gT hM zo jz hr).mono ?_;rintro e w' ⟨hE,hp⟩;refine⟨hE,?_⟩;cases r with
  | error t=>omega
  | ok p=>
   obtain⟨rfl,eL,hu,hm⟩:=hp;have hI:=dc.toI hE;refine⟨J,eL,hm,h2.fr hE,?_,Nat.le_trans h4 hu.1,(by grind [lC,dc.bI])⟩;rw[anV hu (fun i hi=>Nat.lt_of_lt_of_le (List.mem_range.1 hi) h4)];exact h3.iZ hI (yM)
 Ey:=by
  rintro s c d f k ⟨hg,hs⟩ hc-hr;have jz:lN M (c*1000000+1000000) { s with sr:={ s.sr with fuel:=1000000 } }:=by
   have g1:s.sr.tr.length+0<=c*1000000:=hg.cS;have g2:s.br.length+0<=c*1000000:=hg.nj;exact⟨⟨hg.todo,hg.ag,hg.marks,hg.mono⟩,by show s.sr.tr.length+1000000<=_;omega,zg⟩
  have hr:kO base d f A { s with sr:={ s.sr with fuel:=1000000 } }=O (.ok (A,k)):=hr;obtain⟨h1,h2,h3,h4⟩:=WH gT f A { s with sr:={ s.sr with fuel:=1000000 } } _ jz ⟨hs.E1,hs.ok⟩ hr;refine⟨h4,fun f'=>⟨?_,h2.E1,h2.ok⟩⟩;have g1:k.sr.tr.length+k.sr.fuel<=c*1000000+1000000:=h1.cS;have g2:k.br.length+k.sr.fuel<=c*1000000+1000000:=h1.nj;exact⟨⟨h1.todo,h1.ag,h1.marks,h1.mono⟩,by show k.sr.tr.length+0<=(c+1)*1000000;omega,by show k.br.length+0<=(c+1)*1000000;omega⟩
 told:=by
  rintro D ρ w s ⟨⟨todo,av,tv,di,h⟩,h2,h3,h4,h5⟩ -;have hc:=h.cell;obtain⟨va,vc,wh⟩:=h3.sl;show Calls a99 40 #[pp xb] w _;refine aLk ?_;rw[wh] at hc;refine dy h5 hc ?_;refine⟨yF,_,_,J,zg,aeR fun i hi=>Nat.lt_of_lt_of_le (List.mem_range.1 hi) h4⟩
 aez:=by
  rintro s c l-h;have h:Except.ok ((List.range nv).map Tm.var)=Except.ok l:=h;grind [P.aeS]
 aeA:=fun w=>by
  show(method (Tryz.prog.types.size+Made.depth) 122 (pp wb) "Next").run a99 w = .ok (223,pp wb) w
  kernel_rfl
 cN:=by show zC a99 223=A;kernel_rfl
 cT:=by show zC a99 40=A;kernel_rfl
open Go.Extern.Stop Go.Stop Go.Extern
def aMf(t:Addr)(w:Z):(ReflectliteValue.unpack (aj 78 (aq (O t)))).run a99 w
 = .ok (.agg #[pq 12 78,pp w.heap.size,.int .u64 150]) (w.alloc (ae #[aq (O t)] 78)):=zk
def aMg(a:Addr)(w:Z):(ReflectliteValue.methodAny (ReflectliteValue.valueError "reflectlite.Value.Type" 0) (fun t _ _ _=>ReflectliteType.toType t) #[.agg #[pq 12 78,aq (O a),.int .u64 150]]).run a99 w
 = .ok (aj 219 (.agg #[pq 12 78])) w:=zk
def aMh(w:Z):((ReflectliteType.abiMethod fun t=>Functor.map (fun a:Nat=>Value.int IntKind.u8 (a:Int)) (Rtype.kind t)) #[pq 12 78]).run a99 w = .ok (.int .u8 22) w:=zk
def aMi(w:Z):((ReflectliteType.abiMethod fun t=>Functor.map (fun a:Nat=>Value.int IntKind.u8 (a:Int)) (Rtype.kind t)) #[pq 12 27]).run a99 w = .ok (.int .u8 2) w:=zk
def ao4(a:Addr)(w:Z):(ReflectliteValue.parts (.agg #[pq 12 78,aq (O a),.int .u64 150])).run a99 w = .ok (O (78,a,150)) w:=zk
def aMj(a p:Addr)(W:Z)(b:W.cell? a=O (aq (O p))) :
  (ReflectliteValue.method (ReflectliteValue.valueError "reflectlite.Value.IsNil" 0) ReflectliteValue.isNil #[.agg #[pq 12 78,aq (O a),.int .u64 150]]).run a99 W = .ok (.bool G) W:=by
 rw[Wx];simp only[a0l,ao4,a00];simp [ReflectliteValue.isNil,loadVar,isAgg,underlying,underlying78,b,a00]
def aMk(w:Z):(ReflectliteType.method ReflectliteType.elem #[.agg #[pq 12 78]]).run a99 w = .ok (aj 219 (.agg #[pq 12 27])) w:=zk
def aMl(w:Z):(ReflectliteType.relation "Implements" ReflectliteType.implements_ #[.agg #[pq 12 27],aj 219 (.agg #[pq 12 57])]).run a99 w = .ok (.bool A) w:=zk
def ao5(v:Y)(w:Z):(ReflectliteType.typeOf #[aj 27 v]).run a99 w = .ok (aj 219 (.agg #[pq 12 27])) w:=zk
def aMm(w:Z):(ReflectliteType.relation "AssignableTo" ReflectliteType.assignableTo #[.agg #[pq 12 27],aj 219 (.agg #[pq 12 27])]).run a99 w = .ok (.bool A) w:=zk
def aMn(e:Int)(w:Z):(ReflectliteValue.unpack (aj 27 (zi e))).run a99 w
 = .ok (.agg #[pq 12 27,pp w.heap.size,.int .u64 130]) (w.alloc (ae #[zi e] 27)):=zk
def aMo(w:Z):(Rtype.elem? 78).run a99 w = .ok (O 27) w:=zk
def aMp(p:Addr)(w:Z):(ReflectliteValue.mk 27 p ReflectliteValue.flagAddr).run a99 w = .ok (.agg #[pq 12 27,aq (O p),.int .u64 386]) w:=zk
def aMq(a p:Addr)(W:Z)(b:W.cell? a=O (aq (O p))) :
  (ReflectliteValue.method (ReflectliteValue.valueError "reflectlite.Value.Elem" 0) ReflectliteValue.elem #[.agg #[pq 12 78,aq (O a),.int .u64 150]]).run a99 W
   = .ok (.agg #[pq 12 27,aq (O p),.int .u64 386]) W:=by
 rw[Wx];simp only[a0l,ao4,a00];simp [ReflectliteValue.elem,loadVar,isAgg,underlying,underlying78,b,a00,aMo,aMp]
def aMr(a:Addr)(w:Z):(ReflectliteValue.parts (.agg #[pq 12 27,aq (O a),.int .u64 386])).run a99 w = .ok (O (27,a,386)) w:=zk
def aMs(a:Addr)(w:Z):(ReflectliteValue.parts (.agg #[pq 12 27,aq (O a),.int .u64 130])).run a99 w = .ok (O (27,a,130)) w:=zk
def aMt(w:Z):(Rtype.directlyAssignable 27 27).run a99 w = .ok A w:=zk
def aMu(a b:Addr)(e:Int)(c:Y)(W:Z)(d:W.cell? b=O (zi e))(ht:W.cell? a=O c)(f:W.frozen? a=G) :
  (ReflectliteValue.set #[.agg #[pq 12 27,aq (O a),.int .u64 386],.agg #[pq 12 27,aq (O b),.int .u64 130]]).run a99 W
   = .ok (ak #[]) (W.setCell a (zi e)):=by
 rw[alB];simp only[a0l,aMr,aMs,a00];simp [ReflectliteValue.flagAddr,loadVar,isAgg,underlying,underlying27,d,a00,aMt,storeVar,Value.cells,storeCells,Addr.add];rw[run_store a99 W a _ _ (by rfl)];grind
def aMv(e:Int)(t:Addr)(ET:Y)(w:Z)(hg:w.cell? ⟨0,0,V⟩=O (aj 219 (.agg #[pq 12 57])))(Kf:w.cell? t=O ET)(Gc:w.frozen? t=G) :
  Calls a99 29 #[aj 27 (zi e),aj 78 (aq (O t))] w fun ev w'=>ev = ah (.bool A)/\w'=((((w.alloc (ae #[aq (O t)] 78)).alloc (ae #[pq 12 78,pp w.heap.size,.int .u64 150] 158)).alloc (ae #[pq 12 78,pp w.heap.size,.int .u64 150] 158)).alloc (ae #[zi e] 27)).setCell t (zi e):=by
 have h6:=@run_callFunc_extern a99 54 _ (fun args=>ReflectliteValue.unpack (args.getD 0 (ak #[]))) func54 zk zk zk zk;have h7:=@run_callFunc_extern a99 55 _ (ReflectliteValue.methodAny (ReflectliteValue.valueError "reflectlite.Value.Type" 0) (fun t _ _ _=>ReflectliteType.toType t)) func55 zk zk zk zk;have h8:=@run_callFunc_extern a99 56 _ (ReflectliteValue.method (ReflectliteValue.valueError "reflectlite.Value.IsNil" 0) ReflectliteValue.isNil) func56 zk zk zk zk;have Gs:=@run_callFunc_extern a99 196 _ (ReflectliteType.abiMethod fun t=>do pure (.int .u8 (<- Rtype.kind t))) func196 zk zk zk zk;have h37:=@run_callFunc_extern a99 238 _ (ReflectliteType.method ReflectliteType.elem) func238 zk zk zk zk;have h38:=@run_callFunc_extern a99 239 _ (ReflectliteType.relation "Implements" ReflectliteType.implements_) func239 zk zk zk zk;have tn:=@run_callFunc_extern a99 87 _ ReflectliteType.typeOf func87 zk zk zk zk;have yS:=@run_callFunc_extern a99 236 _ (ReflectliteType.relation "AssignableTo" ReflectliteType.assignableTo) func236 zk zk zk zk;have Gt:=@run_callFunc_extern a99 88 _ (ReflectliteValue.method (ReflectliteValue.valueError "reflectlite.Value.Elem" 0) ReflectliteValue.elem) func88 zk zk zk zk;have B5:=@run_callFunc_extern a99 89 _ ReflectliteValue.set func89 zk zk zk zk;have tO:=ao5;have mA:=acx;have a25:=aMm;have v25:=aMn;have f6:=aMf;have f7:=aMg;have mK:=acu;have mE:=acv;have mI:=acw;have k27:=aMh;have k25:=aMi;have e27:=aMk;have i25:=aMl;have n8:=aMj ⟨w.heap.size,0,V⟩ t ((w.alloc (ae #[aq (O t)] 78)).alloc (ae #[pq 12 78,pp w.heap.size,.int .u64 150] 158)) zs;have hlt:0<w.heap.size:=by
  grind [Nat.eq_zero_or_pos,a0O]
 have jv:((w.alloc (ae #[aq (O t)] 78)).alloc (ae #[pq 12 78,pp w.heap.size,.int .u64 150] 158)).cell? ⟨0,0,V⟩=O (aj 219 (.agg #[pq 12 57])):=by
  rw[a0N _ _ ⟨0,0,V⟩ zs,a0N _ _ ⟨0,0,V⟩ hlt];exact hg
 have sQ:t.block<w.heap.size:=by
  grind [Nat.lt_or_ge,a0O,a1Z]
 have el:=aMq ⟨w.heap.size,0,V⟩ t (((w.alloc (ae #[aq (O t)] 78)).alloc (ae #[pq 12 78,pp w.heap.size,.int .u64 150] 158)).alloc (ae #[pq 12 78,pp w.heap.size,.int .u64 150] 158)) (by rw[a0N _ _ ⟨w.heap.size,0,V⟩ (by simp;omega)];simp);have st:=aMu t ⟨w.heap.size+1+1+1,0,V⟩ e ET ((((w.alloc (ae #[aq (O t)] 78)).alloc (ae #[pq 12 78,pp w.heap.size,.int .u64 150] 158)).alloc (ae #[pq 12 78,pp w.heap.size,.int .u64 150] 158)).alloc (ae #[zi e] 27))
  (by rw[World.cell?_alloc_at _ _ _ _ zs];rfl)
  (by rw[a0N _ _ t (by simp;omega),a0N _ _ t (by simp;omega),a0N _ _ t (by simp;omega),a0N _ _ t sQ];exact Kf)
  (by rw[a1b _ _ t (by simp;omega),a1b _ _ t (by simp;omega),a1b _ _ t (by simp;omega),a1b _ _ t (Nat.ne_of_lt sQ)];exact Gc)
 go_enter func29,ntmps29
 go_wp2
 refine wp_loop_rounds 1 ?_;rw[rounds_succ]
 go_wp2
 go_ret
 exact⟨J,J⟩
def aMw(w:Z):(ReflectliteType.relation "AssignableTo" ReflectliteType.assignableTo #[.agg #[pq 12 27],aj 219 (.agg #[pq 12 73])]).run a99 w = .ok (.bool G) w:=zk
def aMx(v:Y)(a:TypeId)(w:Z):(a0t (aj 27 v) a 224 A).run a99 w = .ok (ak #[ai,.bool G]) w:=run_typeAssert_lacksB underlying224 zk zk v a w
def aMy(v:Y)(a:TypeId)(w:Z):(a0t (aj 27 v) a 227 A).run a99 w = .ok (ak #[ai,.bool G]) w:=run_typeAssert_lacksB underlying227 zk zk v a w
def aMz(v:Y)(a:TypeId)(w:Z):(a0t (aj 27 v) a 229 A).run a99 w = .ok (ak #[ai,.bool G]) w:=run_typeAssert_lacksB underlying229 zk zk v a w
def aMA(e:Int)(t:Addr)(ET:Y)(w:Z)(hg:w.cell? ⟨0,0,V⟩=O (aj 219 (.agg #[pq 12 57])))(Kf:w.cell? t=O ET)(Gc:w.frozen? t=G) :
  Calls a99 29 #[aj 27 (zi e),aj 75 (aq (O t))] w fun ev w'=>ev = ah (.bool G)/\w'=(((w.alloc (ae #[aq (O t)] 75)).alloc (ae #[pq 12 75,pp w.heap.size,.int .u64 150] 158)).alloc (ae #[pq 12 75,pp w.heap.size,.int .u64 150] 158)):=by
 have h6:=@run_callFunc_extern a99 54 _ (fun args=>ReflectliteValue.unpack (args.getD 0 (ak #[]))) func54 zk zk zk zk;have h7:=@run_callFunc_extern a99 55 _ (ReflectliteValue.methodAny (ReflectliteValue.valueError "reflectlite.Value.Type" 0) (fun t _ _ _=>ReflectliteType.toType t)) func55 zk zk zk zk;have h8:=@run_callFunc_extern a99 56 _ (ReflectliteValue.method (ReflectliteValue.valueError "reflectlite.Value.IsNil" 0) ReflectliteValue.isNil) func56 zk zk zk zk;have Gs:=@run_callFunc_extern a99 196 _ (ReflectliteType.abiMethod fun t=>do pure (.int .u8 (<- Rtype.kind t))) func196 zk zk zk zk;have h37:=@run_callFunc_extern a99 238 _ (ReflectliteType.method ReflectliteType.elem) func238 zk zk zk zk;have h38:=@run_callFunc_extern a99 239 _ (ReflectliteType.relation "Implements" ReflectliteType.implements_) func239 zk zk zk zk;have tn:=@run_callFunc_extern a99 87 _ ReflectliteType.typeOf func87 zk zk zk zk;have yS:=@run_callFunc_extern a99 236 _ (ReflectliteType.relation "AssignableTo" ReflectliteType.assignableTo) func236 zk zk zk zk;have tO:=ao5;have i1:=aMx;have i2:=aMy;have i3:=aMz;have mA:=acx;have a25:=aMw;have f6:=als;have f7:=alu;have mK:=acu;have mE:=acv;have mI:=acw;have k27:=alv;have k25:=alw;have e27:=alz;have i25:=alA;have n8:=aly ⟨w.heap.size,0,V⟩ t ((w.alloc (ae #[aq (O t)] 75)).alloc (ae #[pq 12 75,pp w.heap.size,.int .u64 150] 158)) zs;have hlt:0<w.heap.size:=by
  grind [Nat.eq_zero_or_pos,a0O]
 have jv:((w.alloc (ae #[aq (O t)] 75)).alloc (ae #[pq 12 75,pp w.heap.size,.int .u64 150] 158)).cell? ⟨0,0,V⟩=O (aj 219 (.agg #[pq 12 57])):=by
  rw[a0N _ _ ⟨0,0,V⟩ zs,a0N _ _ ⟨0,0,V⟩ hlt];exact hg
 have sQ:t.block<w.heap.size:=by
  grind [Nat.lt_or_ge,a0O,a1Z]
 go_enter func29,ntmps29
 go_wp2
 refine wp_loop_rounds 1 ?_;rw[rounds_succ]
 go_wp2
 go_ret
 exact⟨J,J⟩
end Go.Proofs.YtoegidfbnkaabaaGreatDoor
namespace Go.Proofs.YtoegidfbnkaabaaGreatDoor
open P
open Go.RowKit Sx
variable{D:Nat->Prop}{K:Y->Prop}{b base e g m n pb so xb:Nat}{cs:Array Y}{tv v:Y}{w w':Z}{xs:List Y}{ρ:Nat->Nat}
structure Qe(D:Nat->Prop)(w w':Z):Prop where
 Fs:eM w w'
 own:∀ (b:Nat) (o:Obj),D b->w.heap[b]?=O o->w'.heap[b]?=O o
 map:∀ (b:Nat) (es:Array MapEntry) (c:Nat),w.heap[b]?=O (.map es c)->w'.heap[b]?=O (.map es c)
structure X6{E:En}(X:D7 E):Prop where
 bI:∀ {D ρ w w' s},X.Mem D ρ w s->Qe D w w'->X.Mem D ρ w' s
 cut:∀ {D D':Nat->Prop} {ρ w s},X.Mem D ρ w s->(∀ b,b<w.heap.size->D b->D' b)->X.Mem D' ρ w s
def aeT{size:Nat}(a:w.ownsRow base e size v n xs)(c:∀ g,v.ownBlock=O g->D g)(hk:∀ b o,D b->w.heap[b]?=O o->w'.heap[b]?=O o):w'.ownsRow base e size v n xs:=by
 refine⟨a.1,?_⟩;rcases a.2 with i | ⟨b,cap,cur,rfl,d,f,h⟩
 .exact yH
 .exact .inr ⟨b,cap,cur,J,d,hk _ _ (c b J) f,h⟩
def aeU{size:Nat}(a:w.ownsRow base e size v n xs)(c:v.ownBlock=O g):g<w.heap.size:=by
 rcases a.2 with⟨rfl,-⟩| ⟨b,cap,cur,rfl,-,d,-⟩
 .cases c
 grind [Value.ownBlock,aZ9,bf]
def gU.NB{T:Nat}{s:Sr}(h:gU D ρ n pb so T cs tv w s)(hk:Qe D w w'):gU D ρ n pb so T cs tv w' s:=
 ⟨⟨h.sv.inj,fun i b=>by
  obtain⟨ref,d,a⟩:=h.sv.var i b;refine⟨ref,hk.own _ _ (h.dv i b) d,?_⟩;split at a
  .rename_i c;simpa [c] using a
  .rename_i t c;exact dH.bI a hk.Fs.toT⟩,h.dv,hk.own _ _ h.ds h.cell,aeT h.row h.dr hk.own,h.dr,h.ds,h.nd,h.lt,h.ok⟩
def gU.ND{D':Nat->Prop}{T:Nat}{s:Sr}(h:gU D ρ n pb so T cs tv w s)(a:∀ b,b<w.heap.size->D b->D' b):gU D' ρ n pb so T cs tv w s:=
 ⟨h.sv,fun i d=>by
  obtain⟨ref,e,-⟩:=h.sv.var i d;grind [bf,dv],h.cell,h.row,fun g c=>a _ (aeU h.row c) (h.dr g c),a _ (bf h.cell) h.ds,h.nd,h.lt,h.ok⟩
theorem wkD(base:List Cl)(M nv wb mb xb:Nat)(vv:Y):X6 (wkX base M nv wb mb xb vv) where
 bI:=by
  rintro D ρ w w' s ⟨⟨todo,av,tv,di,h⟩,h2,h3,h4,h5⟩ hk;exact⟨⟨todo,av,tv,di,h.st.NB hk,h.td.bI hk.Fs (eo.refl _ _),aeT h.ar h.da hk.own,h.ag.bI hk.Fs (eo.refl _ _),h.da⟩,
   (by grind [Bn.bI,Qe.Fs,Qe.map]),h3.iZ hk.Fs (yM),h4,hk.Fs _ _ _ (yM) h5⟩
 cut:=by
  rintro D D' ρ w s ⟨⟨todo,av,tv,di,h⟩,h2,h3,h4,h5⟩ hd;exact⟨⟨todo,av,tv,di,h.st.ND hd,h.td,h.ar,h.ag,fun g hg=>hd _ (aeU h.ar hg) (h.da g hg)⟩,h2,h3,h4,h5⟩
def aMC(z:Array Y):∀ (n:Nat),(madeCells z n).size=n:=by
 grind [madeCells]
def aMD(n:Nat)(h:n<=100)(w:Z):Calls a99 77 #[zi (n:Nat)] w fun e w'=>Ext w w'/\∃ b,e = ah (cM b n n):=by
 refine anX ?_;refine bD ?_;refine⟨fun m z w'=>∃ (j:Nat) (cs:Array Y),z 9=zi (j:Nat)/\j<=n/\m=n-j/\Ext w w'/\w'.heap[w.heap.size]?=aN cs 89/\cs.size=n,
  ⟨_,0,_,J,Nat.zero_le _,J,(bz.refl _ _).alloc _,qG J,by rw[aMC]⟩,?_⟩
 intro m z d w1 c;refine toPr ?_;obtain⟨j,cs,a,i,rfl,k,g1,l⟩:=c;have o:=bf g1;by_cases hlt:j<n
 .have p:(j:Int)<(n:Int):=zo;have f:(j:Int).toNat=j:=zo;refine iJ a @f @g1 ?_;exact⟨_,zo,j+1,_,zs,zo,J,yF,J,yH⟩
 .have g:j=n:=zo;subst g;refine cG a ?_;exact yH
def ug{j:Option Addr}(p:n<=12)(f:w.heap[b]?=aN #[aM [],bH,pp xb,.slice j n pb] 86) :
  Calls a99 38 #[.map (O m),pp b] w fun e w'=>Ext w w'/\∃ q o,e = ah (pp q)/\w'.heap[q]?=aN o 130:=by
 refine anY ?_;refine cG f ?_;refine a0c (aMD n zo w) ?_;rintro e w1 ⟨c,fb,rfl⟩;have d:=c.ext _ _ f;have r:=bf d;refine cG d ?_;obtain⟨w2,k⟩:=b9 (w1.alloc (ae #[.map (O m),bH,zi 0,aq V,bH,cM fb n n] 130));have l:w1.alloc (ae (Value.agg #[.map (O m),bH,zi 0,aq V,bH,cM fb n n]).cells 130 (0,0))=w2:=k.symm;rw[l];have g:Ext w1 w2:=yF;have g2:w2.heap[w1.heap.size]?=aN #[.map (O m),bH,zi 0,aq V,bH,cM fb n n] 130:=yH;have h:=g.ext _ _ d;have s:=bf g2;refine⟨fun w'=>w'.heap[b]?=w2.heap[b]?,J,?_⟩;rw[jx];refine cQ (pq b 2) (fun w' a=>by rw[h] at a;exact fg a) (cQ (pp xb) (fun w' a=>by rw[h] at a;have:=bf a;exact fg a) ?_);refine cG @g2 ?_;have i:Ext w2 (w2.drew.alloc (ae #[pp xb,cM fb n n,zi 0,aq V] 207)):=yF;have s1:=c.size;exact⟨bz.bO (M:=fun _ _=>False) ((c.trans g).trans i) (.inr s1),_,_,J,pX J (bf (i.ext _ _ g2))⟩
def aME{P:Program}{T:TypeId}(h:Ju P T=A){S:Z->Prop}(hk:K (aj T v)):uI P (Instr.makeInterface T v) S K:=by
 refine⟨aj T v,fun w _=>?_,hk⟩;unfold Ju at h;unfold Instr.makeInterface underlying;simp only[a0l,program,Sem.run,Result.andThen_ok];grind [Sem.run_pure,Result.andThen_ok]
