/- A part of one proof (KE2, KE3, KE5, KE6, KD0, PK2, PK3). -/
import Derived.Test.YtoegidfbnkaabaaGreatDoorPkJAT
import Derived.WalkKit
import Derived.LaidEql
import Derived.Stop.Asserts
import Derived.RowKitTokens
set_option linter.all false
set_option maxRecDepth 100000
set_option maxHeartbeats 8000000
open Option renaming some → O, none → V
open Go renaming Value → Y, World → Z
open Bool renaming true → A, false → G
open Go.Obj renaming cells → ae
open Go.Ending renaming returned → ah
open Go.Value renaming nilIface → ai, iface → aj, tuple → ak, pointer → aq
open Option.some renaming injEq → aZG
open Go.Calls renaming mono → aZJ
open List renaming drop_eq_getElem_cons → aZP, length_cons → aZQ, length_nil → aZ5
open Go.Sem renaming run_bind → aZS
open Go.Instr renaming typeAssert → aZ0
open Prod.mk renaming injEq → aZ6
open Go.World renaming cell?_alloc_lt → a0k, cell? → a0l, frozen?_alloc_old → a0H
open Go.Result renaming andThen → a0x
open Array renaming getElem?_eq_none → a1U, setIfInBounds_setIfInBounds → a2F
open Go.Ending.panicked renaming injEq → a4b
open Go.Proofs.Tryz renaming prog → a9F
open Go.Proofs.Tryz
namespace Go.Proofs.YtoegidfbnkaabaaGreatDoor
open P
open Go.RowKit Sx
variable{D:Nat->Prop}{E:En}{R:Ending->Z->Prop}{S av buf iv nm o4 o5 tv v vv:Y}{base c cap d e f k' n pb qb so wb:Nat}{cs:Array Y}{out:Bs}{res:Z->Prop}{vars:List Bs}{w w':Z}{xs:List Y}{ρ:Nat->Nat}
def aos(h:sd w wb S nm out):Calls a9F 43 #[pp wb] w fun e w'=>e = ah (zi (out.length:Nat))/\w'=w:=by
 obtain⟨f,buf,g,b,d⟩:=h;obtain⟨a,c,rfl⟩:=gV d;refine aKU ?_;exact fa b
def GV(eb:Nat)(w w':Z):Prop:=(∀ (b:Nat) (cs:Array Y) (T:Nat),b≠eb->T≠9->T≠57->w.heap[b]?=aM cs T->w'.heap[b]?=aM cs T) /\
 ∀ (b:Nat) (es:Array MapEntry) (c:Nat),b≠eb->w.heap[b]?=O (.map es c)->w'.heap[b]?=O (.map es c)
theorem GV.of(h:∀ b o,b≠pb->w.heap[b]?=O o->w'.heap[b]?=O o):GV pb w w':=⟨yH,yH⟩
structure Bi(E:En) where
 T:Nat
 pT:Nat
 fN:Nat
 fT:Nat
 eb:Nat
 tf:Array Y
 tc:Array Y
 Mem:(Nat->Prop)->(Nat->Nat)->Z->E.St->Prop
 Good:Nat->E.St->Prop
structure GW{E:En}(X:Bi E):Prop where
 st:∀ {D ρ w s},X.Mem D ρ w s->∃ cs tv,uZ 1 X.T cs/\gQ D ρ (E.nv s) X.eb 1 X.T cs tv w (E.sr s)
 ext:∀ {D ρ w w' s},X.Mem D ρ w s->Ext w w'->X.Mem D ρ w' s
 fuel:∀ {D ρ w w' s C f},X.Mem D ρ w s->w.heap[X.eb]?=aM C X.T->GV X.eb w w'->w'.heap[X.eb]?=aM (kg C 1 ((f:Nat):Int)) X.T->X.Mem D ρ w' (E.fu s f)
 aot:∀ s f,E.sr (E.fu s f)=⟨(E.sr s).tr,f⟩
 aet:∀ s f,E.told (E.fu s f)=E.told s
 next:∀ {D ρ w s c d f r},X.Mem D ρ w (E.fu s 1000000)->(∀ b,w.heap.size<=b->D b)->X.Good c s->c<=700->E.nx d f (E.fu s 1000000)=O r ->
  Calls a9F X.fN #[pp X.eb] w (EPost D w (fun p e w'=>e = ah (.bool p.1)/\∃ eG,X.Mem D eG w' p.2) r)
 Eo:∀ {s c d f k},X.Good c s->c<=700->mR (E.sr s).tr->E.nx d f (E.fu s 1000000)=O (.ok (A,k))->(E.sr k).fuel<=1000000/\∀ f',X.Good (c+1) (E.fu k f')
 told:∀ {D ρ w s},X.Mem D ρ w s->(∃ c f,X.Good c (E.fu s f))->Calls a9F X.fT (X.tf++#[]++X.tc) w fun e w'=>Ext w w'/\match E.told s with
  | .ok l=>∃ v us,e = ah v/\fK (fun _=>True) w' 89 v us/\py ρ (E.nv s) w' us l
  | .error t=>e=gR t
 aeu:∀ {s c l},X.Good c s->E.told s = .ok l->jr l
 aev:∀ w,(method (Tryz.prog.types.size+Made.depth) X.pT (pp X.eb) "Next").run a9F w = .ok (X.fN,pp X.eb) w
 cN:zb a9F X.fN=A
 cT:zb a9F X.fT=A
def Ff:Option Nat->Y
 | none=>ai
 | some k=>aj 27 (.int .i64 (k:Nat))
abbrev XR(X:Bi E)(GX:Y)(err:Option Nat):Array Y:=#[aj X.pT (pp X.eb),pq X.eb 1,.func (.func X.fT) X.tf X.tc,GX,Ff err]
structure wI{E:En}(X:Bi E)(D:Nat->Prop)(ρ:Nat->Nat)(qb:Nat)(names:List Bs)(w:Z)(q:Qs E):Prop where
 cell:∃ GX,w.heap[qb]?=aM (XR X GX q.1) 121/\fK (fun _=>True) w 9 GX (names.map fun s=>aT s)
 live:q.1=V->X.Mem D ρ w q.2
abbrev KR(D:Nat->Prop)(qb:Nat)(w w':Z):Prop:=bB (fun b o=>EM D b o\/b=qb) w w'
def aey(h:res w) :
  LV a9F res R [{ target:=.fn (.func 42) #[tv,vv,av],args:=#[]++#[] }] .returning w:=by
 refine BD zk zs ((aKQ tv vv av w).mono ?_);rintro e a w' ⟨rfl,rfl,rfl⟩;exact h
def aKV(h:Nq w qb pb cap k' tv vv av o4 iv o5 buf)(t:jB){f:List PanicEntry}(ht:gR t = .panicked f)
  (c:∀ w',bB (fun b _=>b=qb\/b=cap\/b=k') w w'->Nq w' qb pb cap k' tv vv av o4 (Ff (O t.no)) (aT []) (Ff (O t.no))->res w') :
  LV a9F res R [{ target:=.fn (.func 42) #[pp pb,pp cap,pp k'],args:=#[]++#[] }] (.panicking f) w:=by
 have key:∀ {w0:Z} (k:Nat),Nq w0 qb pb cap k' tv vv av o4 iv o5 buf->Ext w w0->k=t.no ->
   res (bO (bO (bO w0 qb (ae #[tv,vv,av,o4,Ff (O k)] 121)) cap (ae #[aT []] 9 (0,0))) k' (ae #[Ff (O k)] 57)):=by
  intro w0 k g a hk;subst hk;obtain⟨i,x,l,j,m,n,p⟩:=g;have y:=bg i;have z:=bg j;refine c _ ⟨a.os,a.tape,a.output,by rw[uC,uC,uC];exact a.size,fun b o q d=>?_⟩ ⟨?_,?_,?_,?_,m,n,p⟩
  .rw[iY (fun e=>d (.inr (.inr e))),iY (fun e=>d (.inr (.inl e))),iY (fun e=>d (.inl e))];exact a.ext _ _ q
  .exact yH
  .exact yH
  .exact yH
  exact yH
 cases t with
 | fault e=>
  simp only[gR,a4b] at ht;subst ht;refine BD zk zs ((aKR h (e:Nat) []).mono ?_);rintro e' r w' ⟨rfl,rfl,rfl⟩;exact key e h yF J
 | Du=>
  simp only[gR,MR,a4b] at ht;subst ht;refine BD zk zs ((aKS h []).mono ?_);rintro e' r w' ⟨rfl,rfl,w0,B,rfl⟩;have s:Ext w w0:=yF;obtain⟨i,g,l,j,u⟩:=h;exact key 11 ⟨yH,yH,yH,yH,u⟩ s J
def aKW{ru:Bs×Nat}{X:Bi E}(L:GW X){q S:Qs E}(hq:wI X D ρ qb vars w q)(hD:∀ b,w.heap.size<=b->D b)(hDg:¬ D 4)
  (hP:lH w) (D4:qb≠X.eb) (hqg:qb≠4) (hg:q.1=V->X.Good c q.2) (hc:c<=700) (mm:∀ nm∈vars,nm≠[]/\nm.length<=3000) (hn:vars.length<=12) (hlen:∀ k l,E.told k = .ok l->l.length=vars.length)
  (hr:DB E vars d f q=O (ru,S)) :
  Calls a9F 27 #[pp qb] w fun e w'=>KR D qb w w'/\e = ah (ak #[aT ru.1,Ff S.1])/\(S.1=V->ru.2=0)/\(∀ k,S.1=O k->ru.2=k)/\∃ eG,wI X D eG qb vars w' S:=by
 suffices H:∀ R:Ending->Z->Prop,(∀ e w',KR D qb w w'/\e = ah (ak #[aT ru.1,Ff S.1])/\(S.1=V->ru.2=0)/\(∀ k,S.1=O k->ru.2=k)/\(∃ eG,wI X D eG qb vars w' S)->R e w') ->
   Calls a9F 27 #[pp qb] w R from H _ yF
 intro R hR;obtain⟨⟨GX,IQ,TH⟩,Vi⟩:=hq;obtain⟨err,st⟩:=q;simp only at IQ Vi hg;refine aKM ?_;have lq:=bg IQ;obtain⟨na,I,nc,rfl⟩:∃ a n c,GX = .slice a n c:=by rcases TH with⟨-,rfl⟩| ⟨b,cs,rfl,-⟩<;>exact zg
 obtain⟨K,qG⟩:=cd (((w.alloc (ae #[pp qb] 35)).alloc (ae #[aT []] 9 (0,0))).alloc (ae #[ai] 57));have sA:K.heap.size=w.heap.size+3:=yH;have yx:Ext w K:=yF;have k0:K.heap[w.heap.size]?=aM #[pp qb] 35:=yH;have k1:K.heap[w.heap.size+1]?=aM #[aT []] 9:=yH;have k2:K.heap[w.heap.size+2]?=aM #[ai] 57:=yH;have Nr:=yx.ext _ _ IQ;obtain⟨b0,hb0⟩:=cd w.heap.size;cases err with
 | some k=>
  simp only[DB,aZG,aZ6] at hr;obtain⟨rfl,rfl⟩:=hr;have IQ:w.heap[qb]?=aM #[aj X.pT (pp X.eb),pq X.eb 1,.func (.func X.fT) X.tf X.tc,.slice na I nc,aj 27 (zi (k:Nat))] 121:=IQ;have Nr:K.heap[qb]?=aM #[aj X.pT (pp X.eb),pq X.eb 1,.func (.func X.fT) X.tf X.tc,.slice na I nc,aj 27 (zi (k:Nat))] 121:=Nr;refine cH IQ ?_;rw[<- qG,size_alloc,size_alloc,size_alloc];have l1:=bg k1;have l2:=bg k2;refine⟨fun w'=>w'.heap[w.heap.size]?=K.heap[w.heap.size]?/\w'.heap[qb]?=K.heap[qb]?,yH,?_⟩;refine cO (pp qb) (fun w' hS=>by have B:=hS.1;rw[k0] at B;have:=bg B;exact fa B) ?_;rw[ju];refine cO (pq qb 4) (fun w' hS=>eR) ?_;refine cO (aj 27 (zi (k:Nat))) (fun w' hS=>by have B:=hS.2;rw[Nr] at B;have:=bg B;exact fa B) ?_;refine du @k1 @k2 ?_;obtain⟨g,y⟩:=cd (bO (bO K.drew (w.heap.size+1) (ae #[aT []] 9 (0,0))) (w.heap.size+1+1) (ae #[aj 27 (zi (k:Nat))] 57));rw[<- y];have Wp:Ext w g:=yF;exact hR _ _ ⟨yF,J,zg,zg,ρ,⟨_,yH,TH.mono zg yH⟩,zg⟩
 | none=>
  have IQ:w.heap[qb]?=aM #[aj X.pT (pp X.eb),pq X.eb 1,.func (.func X.fT) X.tf X.tc,.slice na I nc,ai] 121:=IQ;have Nr:K.heap[qb]?=aM #[aj X.pT (pp X.eb),pq X.eb 1,.func (.func X.fT) X.tf X.tc,.slice na I nc,ai] 121:=Nr;have hM:=L.ext (Vi J) yx;have hg:=hg J;obtain⟨cs,tv,XS,gK⟩:=L.st hM;have Fg:=gK.cell;have jm:=XS.sz;have hT:X.T≠35/\X.T≠9/\X.T≠57/\X.T≠121:=by rcases XS.ty with h | h<;>rw[h]<;>decide
  obtain⟨C,hC⟩:=cd (kg (cs.setIfInBounds 1 tv) 1 ((E.sr st).fuel:Int));rw[<- hC] at Fg;have hCs:C.size=cs.size:=zg;have le:=bg Fg;refine cH IQ ?_;rw[<- qG,size_alloc,size_alloc,size_alloc];have h2C:2<C.size:=zo;obtain⟨x2,q9⟩:∃ x2,C[2]?=O x2:=⟨_,Array.getElem?_eq_getElem h2C⟩;have aVU:X.eb≠qb:=zo;have aVV:X.eb≠w.heap.size:=yH;have aKY:X.eb≠w.heap.size+1:=yH;have aKZ:X.eb≠w.heap.size+2:=yH;obtain⟨wF,Fh⟩:=cd (bO K X.eb (ae (kg C 1 1000000) X.T (0,0)));have ew:bO K X.eb (ae (C.setIfInBounds 2 (zi 1000000)) X.T (0,0))=wF:=Fh.symm;refine iZ Fg @k0 Nr ?_;rw[ew];have hZ:∀ {g:Z},bB (fun b o=>EM D b o\/b=qb\/w.heap.size<=b) w g->KR D qb w g:=(by grind [bB.mono,bg]);have hZe:∀ {a b:Z},dc D a b->bB (fun b o=>EM D b o\/b=qb\/w.heap.size<=b) a b:=(by grind [bB.mono]);have hZx:∀ {a b:Z},Ext a b->bB (fun b o=>EM D b o\/b=qb\/w.heap.size<=b) a b:=yF;have hEF:dc D K wF:=⟨by rw[Fh];rfl,by rw[Fh];rfl,by rw[Fh];rfl,yH,fun b o M hm=>by
   by_cases e:b=X.eb
   .subst e;rw[Fg] at M;exact absurd ⟨gK.ds,_,_,_,(Option.some.inj M).symm,XS.mu⟩ hm
   exact yH⟩
  have hMF:X.Mem D ρ wF (E.fu st 1000000):=L.fuel hM Fg (by grind [GV.of,iY]) (yH);have sF:wF.heap.size=w.heap.size+3:=yH;have hDF:∀ b,wF.heap.size<=b->D b:=yH;have mq:¬ kT 121/\¬ kT 35/\¬ kT 9/\¬ kT 57:=by grind [kT]
  obtain⟨r,hx,XU⟩:∃ r,E.nx d f (E.fu st 1000000)=O r/\True:=by
   cases hx:E.nx d f (E.fu st 1000000) with
   | none=>grind [DB]
   | some r=>grind
  simp only[DB,hx] at hr;refine⟨X.fN,_,L.aev _,L.cN,?_⟩;refine aZJ (L.next hMF hDF hg hc hx) ?_;rintro e w1 ⟨dB,hp⟩;have XV:dc D K w1:=yF;have s1:=dB.size;have j0:w1.heap[w.heap.size]?=aM #[pp qb] 35:=XV.bH mq.2.1 k0;have j1:w1.heap[w.heap.size+1]?=aM #[aT []] 9:=XV.bH mq.2.2.1 k1;have j2:w1.heap[w.heap.size+2]?=aM #[ai] 57:=XV.bH mq.2.2.2 k2;have jq:w1.heap[qb]?=aM #[aj X.pT (pp X.eb),pq X.eb 1,.func (.func X.fT) X.tf X.tc,.slice na I nc,ai] 121:=XV.bH mq.1 Nr;have hZ1:bB (fun b o=>EM D b o\/b=qb\/w.heap.size<=b) w w1:=yF;have aK4:fK (fun _=>True) w1 9 (.slice na I nc) (vars.map fun s=>aT s):=TH.mono zg (by grind [dc.bH,bB.ext]);have lj0:=bg j0;have lj1:=bg j1;have lj2:=bg j2;have ljq:=bg jq;have H0:∀ {g:Z} {k:Nat} {s':E.St},bB (fun b o=>EM D b o\/b=qb\/w.heap.size<=b) w g->g.heap[qb]?=aM #[aj X.pT (pp X.eb),pq X.eb 1,.func (.func X.fT) X.tf X.tc,.slice na I nc,Ff (O k)] 121 ->
    KR D qb w g/\∃ eG,wI X D eG qb vars g (O k,s'):=fun{g k s'} hf hq=>by
   refine⟨hZ hf,ρ,⟨_,hq,?_⟩,zg⟩;refine TH.mono zg fun b cs _ M=>hf.block b _ M ?_;rintro (⟨_,_,_,_,h1,h2⟩| h | h)<;>grind
  have aeA:∀ {t:jB} {ch:List PanicEntry} {W:Z} {s':E.St},gR t = .panicked ch->ru=([],t.no)->S=(O t.no,s')->bB (fun b o=>EM D b o\/b=qb\/w.heap.size<=b) w W->Nq W qb w.heap.size (w.heap.size+1) (w.heap.size+1+1) (aj X.pT (pp X.eb)) (pq X.eb 1) (.func (.func X.fT) X.tf X.tc) (.slice na I nc) ai (.string (bs [])) ai ->
    LV a9F (fun g=>RD a9F (Instr.loadAt 9 (pp (w.heap.size+1))) g (fun r1=>RD a9F (Instr.loadAt 57 (pp (w.heap.size+1+1))) g
     (fun r2=>R (ah (ak #[r1,r2])) g) NX) NX) R
     [{ target:=.fn (.func 42) #[pp w.heap.size,pp (w.heap.size+1),pp (w.heap.size+1+1)],args:=#[]++#[] }] (.panicking ch) W:=by
   intro t ch W s' ht ha iF hf hB;subst ha iF;refine aKV hB t ht fun g HT hz=>?_;obtain⟨zq,z0,z1,z2,-⟩:=hz;have z2':g.heap[w.heap.size+1+1]?=aM #[aj 27 (zi (t.no:Nat))] 57:=z2;refine du @z1 @z2' ?_;obtain⟨r1,r2⟩:=H0 (s':=s') (by grind [bB.mono,bB.trans]) zq;grind
  cases r with
  | error t=>
   have hp:e=gR t:=hp;simp only[aZG,aZ6] at hr;obtain⟨⟨rfl,rfl⟩,rfl⟩:=hr;obtain⟨ch,M1⟩:∃ ch,gR t = .panicked ch:=by cases t<;>exact⟨_,J⟩
   rw[hp,M1];exact aeA M1 J J hZ1 ⟨jq,j0,j1,j2,zo,zo,zo⟩
  | ok p=>
   obtain⟨b,k⟩:=p;obtain⟨rfl,pE,Ns⟩:=hp;cases b with
   | false=>
    simp only[aZG,aZ6] at hr;obtain⟨⟨rfl,rfl⟩,rfl⟩:=hr;refine du @j0 @jq ?_;obtain⟨w2,jR⟩:=cd (bO w1 qb (ae #[aj X.pT (pp X.eb),pq X.eb 1,.func (.func X.fT) X.tf X.tc,.slice na I nc,aj 27 (zi 6)] 121));have P0:bO w1 qb (ae (oF #[aj X.pT (pp X.eb),pq X.eb 1,.func (.func X.fT) X.tf X.tc,.slice na I nc,ai] 4 (Value.iface 27 (zi 6)).cells.toList) 121 (0,0))=w2:=jR.symm;rw[P0];have i0:w2.heap[w.heap.size]?=aM #[pp qb] 35:=yH;have i1:w2.heap[w.heap.size+1]?=aM #[aT []] 9:=yH;have i2:w2.heap[w.heap.size+2]?=aM #[ai] 57:=yH;have iq:w2.heap[qb]?=aM #[aj X.pT (pp X.eb),pq X.eb 1,.func (.func X.fT) X.tf X.tc,.slice na I nc,aj 27 (zi 6)] 121:=yH;have hZ2:bB (fun b o=>EM D b o\/b=qb\/w.heap.size<=b) w w2:=yF;have li0:=bg i0;have li1:=bg i1;have li2:=bg i2;clear jR P0;refine⟨fun w'=>w'.heap[w.heap.size]?=w2.heap[w.heap.size]?/\w'.heap[qb]?=w2.heap[qb]?,yH,?_⟩;refine cO (pp qb) (fun w' hS=>by have B:=hS.1;rw[i0] at B;have:=bg B;exact fa B) ?_;rw[ju];refine cO (pq qb 4) (fun w' hS=>eR) ?_;refine cO (aj 27 (zi 6)) (fun w' hS=>by have B:=hS.2;rw[iq] at B;have:=bg B;exact fa B) ?_;refine du @i1 @i2 ?_;obtain⟨g,y⟩:=cd (bO (bO w2.drew (w.heap.size+1) (ae #[aT []] 9 (0,0))) (w.heap.size+1+1) (ae #[aj 27 (zi 6)] 57));rw[<- y];refine aey ?_;have z1:g.heap[w.heap.size+1]?=aM #[aT []] 9:=yH;have z2:g.heap[w.heap.size+1+1]?=aM #[aj 27 (zi 6)] 57:=yH;have zq:g.heap[qb]?=aM #[aj X.pT (pp X.eb),pq X.eb 1,.func (.func X.fT) X.tf X.tc,.slice na I nc,Ff (O 6)] 121:=by rw[y,iY zo,iY zo];exact iq
    have XW:bB (fun b o=>EM D b o\/b=qb\/w.heap.size<=b) w g:=by
     rw[y];exact((hZ2.drew).bO (.inl fun _=>.inr (.inr zo))).bO (.inl fun _=>.inr (.inr zo))
    clear y;refine du @z1 @z2 ?_;obtain⟨r1,r2⟩:=H0 (s':=k) XW zq;exact hR _ _ ⟨r1,J,zg,zg,r2⟩
   | true=>
    have Ns:X.Mem D pE w1 k:=Ns;dsimp only at hr;refine du @j0 @jq ?_;obtain⟨wW,hwW⟩:=cd (w1.alloc (ae #[aq V,bV,pq X.eb 1,.map V] 103));rw[<- hwW];have hEW:Ext w1 wW:=yF;have rm:wW.heap[w1.heap.size]?=aM #[aq V,bV,pq X.eb 1,.map V] 103:=yH;clear hwW;have hMW:=L.ext Ns hEW;refine⟨L.cT,?_⟩;refine aZJ (L.told hMW ⟨c+1,0,(L.Eo hg hc gK.ok hx).2 0⟩) ?_;rintro e w3 ⟨eD,gH⟩;have N:Ext w1 w3:=yF;have hZ3:=hZ1.trans (hZx N);cases ht:E.told k with
    | error t=>
     rw[ht] at gH hr;have gH:e=gR t:=gH;simp only[aZG,aZ6] at hr;obtain⟨⟨rfl,rfl⟩,rfl⟩:=hr;obtain⟨ch,M1⟩:∃ ch,gR t = .panicked ch:=by cases t<;>exact⟨_,J⟩
     rw[gH,M1];exact aeA M1 J J hZ3 ⟨N.ext _ _ jq,N.ext _ _ j0,N.ext _ _ j1,N.ext _ _ j2,zo,zo,zo⟩
    | ok l=>
     rw[ht] at gH hr;obtain⟨v,us,rfl,nF,kH⟩:=gH;simp only at hr;obtain⟨r0,HW⟩:∃ r0,MI (E.sr k).tr d vars l ⟨(E.sr k).fuel,[],[]⟩=O r0:=by
      grind
     rw[HW] at hr;obtain⟨ta,aV5,rfl⟩:=nF.sl;have uh:us.length=vars.length:=by rw[kH.length,hlen k l ht]
     obtain⟨hfu,aoe⟩:=L.Eo hg hc gK.ok hx;have Nt:jr l:=L.aeu (aoe 0) ((L.aet k 0).trans ht);obtain⟨yO,Kz,aeC,TI⟩:=L.st Ns;have aoB:=TI.ext N;obtain⟨C1,hC1⟩:=cd (yO.setIfInBounds 1 Kz);have aeD:=aoB.cell;rw[<- hC1] at aeD;have aV6:C1.size=yO.size:=zg;have aAY:=aeC.sz;have hTw:X.T≠103/\X.T≠5/\X.T≠180/\X.T≠89/\X.T≠91:=by rcases aeC.ty with h | h<;>rw[h]<;>decide
     have hgp:4<w.heap.size:=yH;have aV7:X.eb<w1.heap.size:=zo;have P7:xD (E.sr k).tr w1.heap.size X.eb 1 X.T C1:=⟨TI.ok,zo,zo,zo,(by grind [gQ.ds]),hTw.2.1,hTw.2.2⟩;have hP3:lH w3:=hP.bH fun o x=>by
      refine hZ3.block _ o x ?_;rintro (⟨h,_⟩| h | h)<;>grind
     have GZ:lI pE (E.nv k) (E.sr k).tr w1.heap.size X.eb 1 X.T C1 (.map V) w3 ⟨(E.sr k).fuel,[],[]⟩:=
      ⟨aoB.sv,⟨aq V,bV,yH,eD.ext _ _ rm,World.ownsRow_nil _ _ _ _⟩,.inl ⟨J,J⟩,aeD,hP3,zg⟩
     have i0:=N.ext _ _ j0;have i1:=N.ext _ _ j1;have i2:=N.ext _ _ j2;have iq:=N.ext _ _ jq;have F:∀ {w4:Z} {b:Nat} {o:Obj},mD w1.heap.size X.eb w3 w4->b<w1.heap.size->b≠X.eb->w3.heap[b]?=O o->w4.heap[b]?=O o:=fun h M ed x=>h.block _ _ x (by rintro (e | e | ⟨e,_⟩)<;>omega);have aV8:l.length=vars.length:=zg;have hZw:∀ {w4:Z},mD w1.heap.size X.eb w3 w4->bB (fun b o=>EM D b o\/b=qb\/w.heap.size<=b) w w4:=fun h=>hZ3.trans (bB.mono h fun b o M hm=>by
      rcases hm with e | e | ⟨e,_⟩
      .exact yH
      .subst e;rw[aeD] at M;exact .inl ⟨TI.ds,_,_,_,(Option.some.inj M).symm,aeC.mu⟩
      exact yH)
     have aLa:=J8 TI.ok;refine bE ?_;rw[uh];refine⟨fun m z w4=>∃ (j:Nat) (i:Ws),z 49=zi (j:Nat)/\j<=vars.length/\m=vars.length-j/\GC pE (E.nv k) (E.sr k).tr w1.heap.size X.eb 1 X.T C1 w4 i/\mD w1.heap.size X.eb w3 w4 /\
       MI (E.sr k).tr d (vars.drop j) (l.drop j) i=O r0/\i.cU<=60000000+4000*j/\i.seen.length<=i.out.length,
      ⟨_,0,_,J,Nat.zero_le _,J,⟨_,GZ⟩,bB.refl _ _,HW,by grind [Ws.cU],Nat.le_refl _⟩,?_⟩
     intro m z dd w4 hI;clear dd;refine toPr ?_;obtain⟨j,i,P8,hj,rfl,⟨nmj,Nv⟩,P,Q,ans,Kv⟩:=hI;have p0:=F P zo zo i0;have p1:=F P zo zo i1;have p2:=F P zo zo i2;have pqz:=F P zo zo iq;have lp0:=bg p0;have lpq:=bg pqz;have s4:=P.size;have hkT:∀ {b:Nat} {cs:Array Y} {U:Nat},U≠5->U≠103->U≠X.T->w3.heap[b]?=aM cs U->w4.heap[b]?=aM cs U:=fun{b cs U} u1 u2 u3 x=>P.block _ _ x (by
      rintro (e | e | ⟨_,⟨cs',z',e⟩| ⟨_,_,e⟩⟩)
      .rw[e,eD.ext _ _ rm] at x;injection x with x;injection x with _ x _;exact u2 x.symm
      .grind
      .grind
      grind)
     by_cases hlt:j<vars.length
     .have aLb:j<us.length:=zo;have aeI:j<l.length:=zo;obtain⟨tb,tcs,e1,-,e3,e4⟩:=nF.at' (j:=j) aLb;obtain⟨u,e5,hu⟩:=kH.at j aeI;rw[e5] at e4;rw[uh] at e1;simp only[Value.slice.injEq,true_and] at e1;obtain⟨rfl,rfl⟩:=e1;have XX:=hkT zd zd (fun e=>hTw.2.2.2.1 e.symm) e3;obtain⟨nb,wJ,n1,-,n3,n4⟩:=aK4.at' (j:=j) zg;have n4:wJ[j]?=O (aT (vars[j])):=by rw[n4,List.getElem?_map,List.getElem?_eq_getElem hlt];rfl
      rw[List.length_map] at n1;simp only[Value.slice.injEq] at n1;obtain⟨rfl,rfl,rfl⟩:=n1;have n3':=hkT zo zo zo (N.ext _ _ n3);have jW:(j:Int).toNat=j:=zo;have Cr:(j:Int)<(vars.length:Nat):=zo;obtain⟨tvv,xvv,M9⟩:=hu.iface;rw[M9] at e4;obtain⟨zu,Hl⟩:=mm vars[j] (List.getElem_mem hlt);rw[aZP hlt,aZP aeI,MI] at Q;obtain⟨c0,nr,XY⟩:∃ c0 nr,vars[j]=c0::nr:=by
       cases hx:vars[j] with
       | nil=>grind
       | cons c0 nr=>grind
      by_cases h95:c0=95
      .subst h95;rw[XY,List.head?_cons,zip rfl] at Q;rw[XY] at n4;refine dH P8 @XX @e4 (zA @p0 (zA @pqz (zA @n3' (zA @n4 @jW)))) ?_;have e95:(((((95:UInt8)::nr).getD 0 0).toNat:Nat):Int)=95:=rfl;refine du @e95 P8 ?_;exact⟨vars.length-(j+1),zo,j+1,i,zs,zo,J,⟨nmj,Nv⟩,P,Q,zo,Kv⟩
      .rw[XY,List.head?_cons,bZ zg] at Q;rw[XY] at n4;have e95:¬ (((((c0:UInt8)::nr).getD 0 0).toNat:Nat):Int)=95:=by
        simp only[List.getD_cons_zero];intro h;apply h95;have:c0.toNat=95:=zo;exact UInt8.toNat_inj.1 this
       obtain⟨s1,dX⟩:=cd (if i.out=[] then i else i.add [44,32]);rw[<- dX] at Q;have ant:i.cU=i.out.length+60*i.fuel:=rfl;have aWc:s1.cU<=i.cU+2/\s1.seen.length<=s1.out.length:=by
        rw[dX];split
        .omega
        .exact⟨by rw[Ws.oM];simp,ow Kv⟩
       refine dH P8 @XX @e4 (zA @p0 (zA @pqz (zA @n3' (zA @n4 @jW)))) ?_;refine⟨fun _ w5=>GC pE (E.nv k) (E.sr k).tr w1.heap.size X.eb 1 X.T C1 w5 s1/\mD w1.heap.size X.eb w3 w5,?_,?_⟩
       .refine bE ?_;refine aZJ (aos Nv.bu) ?_;rintro e w5 ⟨rfl,rfl⟩;by_cases h0:i.out=[]
        .rw[zip h0] at dX;have vg:¬ (0:Int)<(i.out.length:Int):=zg;refine cH vg ?_;exact⟨⟨nmj,yH⟩,P⟩
        .rw[bZ h0] at dX;have vg:(0:Int)<(i.out.length:Int):=by grind [List.length_pos_iff]
         refine cH vg ?_;refine aZJ (GD Nv P7 [44,32] (by simp;omega)) ?_;rintro e w6 ⟨⟨ve,rfl⟩,oP,Cm⟩;exact⟨⟨nmj,yH⟩,P.trans Cm⟩
       .rintro s5 w5 ⟨⟨M3,nZ⟩,iP⟩ d5;clear d5;have p05:=F iP zo zo i0;have pq5:=F iP zo zo iq;have aLh:∀ {b:Nat} {cs:Array Y} {U:Nat},U≠5->U≠103->U≠X.T->w3.heap[b]?=aM cs U->w5.heap[b]?=aM cs U:=fun{b cs U} u1 u2 u3 x=>iP.block _ _ x (by
         rintro (e | e | ⟨_,⟨cs',z',e⟩| ⟨_,_,e⟩⟩)
         .rw[e,eD.ext _ _ rm] at x;injection x with x;injection x with _ x _;exact u2 x.symm
         .grind
         .grind
         grind)
        have n35:=aLh zo zo zo (N.ext _ _ n3);obtain⟨s2,me⟩:=cd (s1.add (c0::nr++[32,61,32]));rw[<- me] at Q;have xn:(c0::nr).length<=3000:=zg;have aoI:s2.cU<=s1.cU+3003/\s2.seen.length<=s2.out.length:=by
         grind [ow,Ws.oM,List.length_append,aZQ,aZ5]
        have aWd:s1.cU=s1.out.length+60*s1.fuel:=rfl;refine⟨fun _ w6=>GC pE (E.nv k) (E.sr k).tr w1.heap.size X.eb 1 X.T C1 w6 s2/\mD w1.heap.size X.eb w3 w6,?_,?_⟩
        .refine dH P8 @p05 @pq5 (zA @n35 (zA @n4 @jW)) ?_;rw[ya _ _ (by grind [aZQ,aZ5])];refine aZJ (GD (nZ.ext (bB.drew yF)) P7 (c0::nr++[32,61,32]) (by grind [List.length_append,aZQ,aZ5])) ?_;rintro e w6 ⟨⟨ve,rfl⟩,oP,Cm⟩;exact⟨⟨M3,yH⟩,iP.trans ((bB.drew yF).trans Cm)⟩
        .rintro s6 w6 ⟨⟨nm6,oP⟩,Cm⟩ d6;clear d6;obtain⟨r1,pR⟩:∃ r1,lE (E.sr k).tr d l[j] 0 s2=O r1:=by
          cases hy:lE (E.sr k).tr d l[j] 0 s2 with
          | none=>rw[hy] at Q;cases Q
          | some r1=>grind
         rw[pR] at Q;have htj:er l[j]:=IB Nt aeI;have XZ:dM pE (E.nv k) w6 (aj tvv xvv) l[j]:=by
          rw[<- M9];exact hu.bH (GZ.kv P7 Cm).toT
         refine aZJ ((cw d).tm (least:=0) P7 ⟨nm6,oP⟩ XZ htj zo aoI.2 pR) ?_;rintro e w7 ⟨AR,lD⟩;have aLj:=Cm.trans AR;cases r1 with
         | none=>
          obtain⟨rfl,-,-⟩:=lD;have Q:O V=O r0:=Q;cases Q;simp only[aZG,aZ6] at hr;obtain⟨⟨rfl,rfl⟩,rfl⟩:=hr;have hq7:Nq w7 qb w.heap.size (w.heap.size+1) (w.heap.size+1+1) (aj X.pT (pp X.eb)) (pq X.eb 1) (.func (.func X.fT) X.tf X.tc) (.slice (O ⟨nb,0,V⟩) vars.length wJ.size) ai (.string (bs [])) ai:=
           ⟨yH,yH,yH,yH,zo,zo,zo⟩
          exact aeA (t:=.Du) (s':=k) J J J yH hq7
         | some s7=>
          obtain⟨rfl,XG⟩:=lD;refine cH P8 ?_;obtain⟨g1,g2⟩:=(aLa d).tm _ _ _ _ htj zo aoI.2 pR;exact⟨vars.length-(j+1),zo,j+1,s7,zs,zo,J,XG,aLj,Q,zo,g2⟩
     .have fw:j=vars.length:=zo;subst fw;have HW:r0=O i:=by
       rw[List.drop_of_length_le (Nat.le_refl _),MI] at Q<;>grind
      subst HW;simp only[aZG,aZ6] at hr;obtain⟨⟨rfl,rfl⟩,rfl⟩:=hr;have GR:=F P zo zo i1;have KN:=F P zo zo i2;have lp1:=bg p1;have lp2:=bg p2;have hZ4:=hZw P;have Kg:∀ {W g:Z} (tx:Bs),mD w1.heap.size X.eb w3 W->W.heap[X.eb]?=aM (kg C1 1 i.fuel) X.T->g=bO (bO W (w.heap.size+1) (ae #[aT tx] 9)) (w.heap.size+1+1) (ae #[ai] 57) ->
        g.heap[w.heap.size+1]?=aM #[aT tx] 9/\g.heap[w.heap.size+1+1]?=aM #[ai] 57/\KR D qb w g/\∃ eG,wI X D eG qb vars g (V,E.fu k i.fuel):=by
       intro W g tx P9 OG y;have x1:=F P9 zo zo i1;have x2:=F P9 zo zo i2;have xq:=F P9 zo zo iq;have lx1:=bg x1;have lx2:=bg x2;have x:∀ b,b≠w.heap.size+1->b≠w.heap.size+1+1->g.heap[b]?=W.heap[b]?:=fun b h1 h2=>by rw[y,iY h2,iY h1]
       have z1:g.heap[w.heap.size+1]?=aM #[aT tx] 9:=by rw[y,iY zo];exact yH
       have z2:g.heap[w.heap.size+1+1]?=aM #[ai] 57:=yH;have XW:bB (fun b o=>EM D b o\/b=qb\/w.heap.size<=b) w g:=by
        rw[y];exact((hZw P9).bO (.inl fun _=>.inr (.inr zo))).bO yH
       have zq:g.heap[qb]?=aM (XR X (.slice na I nc) V) 121:=by rw[x _ zo zo];grind
       have qI:GV X.eb w1 g:=by
        refine⟨fun b cs U M u1 u2 eY=>?_,fun b es c M eY=>?_⟩
        .have oK:=bg eY;rw[x b (fun e=>by rw[e,j1] at eY;injection eY with eY;injection eY with _ eY _;exact u1 eY.symm) (fun e=>by rw[e,j2] at eY;injection eY with eY;injection eY with _ eY _;exact u2 eY.symm)];exact F P9 oK M (N.ext _ _ eY)
        .have oK:=bg eY;rw[x b (fun e=>by rw[e,j1] at eY;cases eY) (fun e=>by rw[e,j2] at eY;cases eY)];exact F P9 oK M (N.ext _ _ eY)
       have hcz:g.heap[X.eb]?=aM (kg (kg C1 1 ((E.sr k).fuel:Int)) 1 (i.fuel:Nat)) X.T:=by
        rw[x _ aKY aKZ,OG];have e1:kg (kg C1 1 ((E.sr k).fuel:Int)) 1 (i.fuel:Int)=kg C1 1 (i.fuel:Int):=by
         unfold kg;rw[a2F]
        grind
       have jw:=TI.cell;rw[<- hC1] at jw;have hMz:=L.fuel Ns jw qI hcz;have hnz:fK (fun _=>True) g 9 (.slice na I nc) (vars.map fun s=>aT s):=TH.mono zg fun b cs _ M=>XW.block b _ M (by
        rintro (⟨_,_,_,_,h1,h2⟩| h | h)<;>grind)
       exact⟨z1,z2,hZ XW,pE,yH,zg⟩
      refine cH P8 ?_;refine aZJ (aos Nv.bu) ?_;rintro e w5 ⟨rfl,rfl⟩;by_cases h0:i.out=[]
      .have vg:(i.out.length:Int)=0:=zg;refine iZ vg @p1 @p2 ?_;obtain⟨g,y⟩:=cd (bO (bO w5 (w.heap.size+1) (ae #[aT [116,114,117,101]] 9 (0,0))) (w.heap.size+1+1) (ae #[ai] 57));obtain⟨z1,z2,z3,z4⟩:=Kg _ P Nv.fu y;rw[<- y];refine aey ?_;refine du @z1 @z2 ?_;grind
      .have vg:¬ (i.out.length:Int)=0:=by grind [List.length_pos_iff]
       refine cH vg ?_;refine aZJ (am6 Nv.bu h0) ?_;rintro e w6 ⟨rfl,Cm⟩;have aeK:=P.trans (Cm.toW X.eb);have p16:=F aeK zo zo i1;have p26:=F aeK zo zo i2;refine du @p16 @p26 ?_;obtain⟨g,y⟩:=cd (bO (bO w6 (w.heap.size+1) (ae #[aT i.out] 9)) (w.heap.size+1+1) (ae #[ai] 57));obtain⟨z1,z2,z3,z4⟩:=Kg _ aeK (Cm.block _ _ Nv.fu (by
        rintro (h | ⟨_,_,_,h⟩)<;>grind)) y
       rw[<- y];refine aey ?_;refine du @z1 @z2 ?_;grind
def GV.toI(h:GV pb w w'){C:Array Y}{T:Nat}(d:kT T)(f:w.heap[pb]?=aM C T):eH w w':=fun b cs U a c=>
 h.1 b cs U (fun e=>by rw[e,f] at c;cases c;exact a (.inl d)) (fun e=>a (.inr (.inl e))) (fun e=>a (.inr zg)) c
theorem aeL(h:GV pb w w'){size:Nat}(a:w.ownsRow base e size v n xs)(c:v.ownBlock≠O pb)(d:e≠9)(f:e≠57):w'.ownsRow base e size v n xs:=by
 refine⟨a.1,?_⟩;rcases a.2 with k | ⟨b,cap,cur,rfl,g,i,j⟩
 .exact yH
 .exact .inr ⟨b,cap,cur,J,g,h.1 _ _ _ (fun e=>c (by rw[<- e];rfl)) d f i,j⟩
def gQ.aoK{T:Nat}{s:Sr}(h:gQ D ρ n pb so T cs tv w s)(a:uZ so T cs)(hk:GV pb w w'){C:Array Y}
  (g:w.heap[pb]?=aM C T) (i:w'.heap[pb]?=aM (kg C so (f:Int)) T):gQ D ρ n pb so T cs tv w' { s with fuel:=f }:=by
 have j:T≠87/\T≠91/\T≠180/\T≠89:=by rcases a.ty with h | h<;>subst h<;>decide
 have hC:C=kg (cs.setIfInBounds so tv) so s.fuel:=by
  have:=h.cell;grind
 refine⟨h.sv.bH fun b c t ht d=>hk.1 b c t (fun e=>?_) zo zo d,h.dv,?_,(by grind [aeL,row,Xf]),h.dr,h.ds,h.nd,h.lt,h.ok⟩
 .grind
 grind [a2F]
structure WkQ(base:List Cl)(nv wb mb xb:Nat)(vv:Y)(D:Nat->Prop)(ρ:Nat->Nat)(w:Z)(k:Wk):Prop where
 wk:PG D ρ wb mb vv w k
 bs:Bf w mb base
 vr:fK (fun _=>True) w 89 vv (mG ρ (List.range nv))
 nv:nv<=k.n
 bx:w.heap[xb]?=aM #[pp wb] 122
def wkX(base:List Cl)(M nv wb mb xb:Nat)(vv:Y):Bi (WE base nv) where
 T:=130
 pT:=122
 fN:=223
 fT:=40
 eb:=wb
 tf:=#[]
 tc:=#[pp xb]
 Mem D ρ w k:=WkQ base nv wb mb xb vv D ρ w k
 Good c k:=lF M (c*1000000) { k with sr:={ k.sr with fuel:=0 } }/\lh k.sr
theorem aeN{ρ:Nat->Nat}{n:Nat}{w:Z}:∀ {l:List Nat},(∀ i∈l,i<n)->py ρ n w (mG ρ l) (l.map .var)
 | [],_=>by unfold py iE;rfl
 | i::l,h=>by
  unfold py iE;refine⟨_,_,J,?_,aeN zg⟩;unfold dI;exact⟨h i (List.mem_cons_self ..),J⟩
theorem P.aeO:∀ (l:List Nat),jr (l.map .var)
 | []=>by unfold jr;trivial
 | i::l=>by unfold jr;exact⟨al1,P.aeO l⟩
theorem aLr(base:List Cl)(M nv wb mb xb:Nat)(vv:Y)(gL:∀ c∈base,yD M c)(hM:M<=100000):GW (wkX base M nv wb mb xb vv) where
 st:=by
  rintro D ρ w s ⟨⟨todo,av,tv,di,h⟩,-⟩;exact⟨_,tv,Fb,h.st⟩
 ext:=by
  rintro D ρ w w' s ⟨⟨todo,av,tv,di,h⟩,h2,h3,h4,h5⟩ hE;exact⟨⟨_,_,_,_,h.ext hE⟩,(by grind [eH.dZ,Bf.bH,bB.ext]),h3.mono zg (by grind [bB.ext]),h4,hE.ext _ _ h5⟩
 fuel:=by
  rintro D ρ w w' s C f ⟨⟨todo,av,tv,di,h⟩,h2,h3,h4,h5⟩ hc hk nO;have hI:eH w w':=hk.toI (T:=130) (by grind [kT]) hc;have gw:av.ownBlock≠O wb:=fun e=>by
   obtain⟨cs,h1⟩:=h.DV e;have hc:w.heap[wb]?=aM C 130:=hc;grind
  refine⟨⟨todo,av,tv,di,h.st.aoK Fb hk hc nO,h.td.bH hI (eg.refl _ _),aeL hk h.ar gw zo zo,h.ag.bH hI (eg.refl _ _),h.da⟩,
   h2.bH hI fun es c hm=>hk.2 _ es c (fun e=>?_) hm,h3.iT hI (yM),h4,hI _ _ _ (yM) h5⟩
  grind
 aot:=fun s f=>rfl
 aet:=fun s f=>rfl
 next:=by
  rintro D ρ w s c d f r ⟨h1,h2,h3,h4,h5⟩ hD ⟨hg,hs⟩ hc hr;have jx:lF M (c*1000000+1000000) { s with sr:={ s.sr with fuel:=1000000 } }:=by
   have g1:s.sr.tr.length+0<=c*1000000:=hg.cU;have g2:s.bw.length+0<=c*1000000:=hg.nh;exact⟨⟨hg.todo,hg.ag,hg.marks,hg.mono⟩,by show s.sr.tr.length+1000000<=_;omega,zg⟩
  have hr:kF base d f A { s with sr:={ s.sr with fuel:=1000000 } }=O r:=hr;refine(aKn h1 hD h2 gL hM zo jx hr).mono ?_;rintro e w' ⟨hE,hp⟩;refine⟨hE,?_⟩;cases r with
  | error t=>omega
  | ok p=>
   obtain⟨rfl,eG,hu,hm⟩:=hp;have hI:=dc.toI hE;refine⟨J,eG,hm,h2.fr hE,?_,Nat.le_trans h4 hu.1,(by grind [kT,dc.bH])⟩;rw[anH hu (fun i hi=>Nat.lt_of_lt_of_le (List.mem_range.1 hi) h4)];exact h3.iT hI (yM)
 Eo:=by
  rintro s c d f k ⟨hg,hs⟩ hc-hr;have jx:lF M (c*1000000+1000000) { s with sr:={ s.sr with fuel:=1000000 } }:=by
   have g1:s.sr.tr.length+0<=c*1000000:=hg.cU;have g2:s.bw.length+0<=c*1000000:=hg.nh;exact⟨⟨hg.todo,hg.ag,hg.marks,hg.mono⟩,by show s.sr.tr.length+1000000<=_;omega,zg⟩
  have hr:kF base d f A { s with sr:={ s.sr with fuel:=1000000 } }=O (.ok (A,k)):=hr;obtain⟨h1,h2,h3,h4⟩:=WD gL f A { s with sr:={ s.sr with fuel:=1000000 } } _ jx ⟨hs.EU,hs.ok⟩ hr;refine⟨h4,fun f'=>⟨?_,h2.EU,h2.ok⟩⟩;have g1:k.sr.tr.length+k.sr.fuel<=c*1000000+1000000:=h1.cU;have g2:k.bw.length+k.sr.fuel<=c*1000000+1000000:=h1.nh;exact⟨⟨h1.todo,h1.ag,h1.marks,h1.mono⟩,by show k.sr.tr.length+0<=(c+1)*1000000;omega,by show k.bw.length+0<=(c+1)*1000000;omega⟩
 told:=by
  rintro D ρ w s ⟨⟨todo,av,tv,di,h⟩,h2,h3,h4,h5⟩ -;have hc:=h.cell;obtain⟨va,vc,vQ⟩:=h3.sl;show Calls a9F 40 #[pp xb] w _;refine aKK ?_;rw[vQ] at hc;refine du h5 hc ?_;refine⟨yF,_,_,J,zg,aeN fun i hi=>Nat.lt_of_lt_of_le (List.mem_range.1 hi) h4⟩
 aeu:=by
  rintro s c l-h;have h:Except.ok ((List.range nv).map Tm.var)=Except.ok l:=h;grind [P.aeO]
 aev:=fun w=>by
  show(method (Tryz.prog.types.size+Made.depth) 122 (pp wb) "Next").run a9F w = .ok (223,pp wb) w
  kernel_rfl
 cN:=by show zb a9F 223=A;kernel_rfl
 cT:=by show zb a9F 40=A;kernel_rfl
open Go.Extern.Stop Go.Stop Go.Extern
def aLs(t:Addr)(w:Z):(ReflectliteValue.unpack (aj 78 (aq (O t)))).run a9F w
 = .ok (.agg #[pq 12 78,pp w.heap.size,.int .u64 150]) (w.alloc (ae #[aq (O t)] 78)):=zk
def aLt(a:Addr)(w:Z):(ReflectliteValue.methodAny (ReflectliteValue.valueError "reflectlite.Value.Type" 0) (fun t _ _ _=>ReflectliteType.toType t) #[.agg #[pq 12 78,aq (O a),.int .u64 150]]).run a9F w
 = .ok (aj 219 (.agg #[pq 12 78])) w:=zk
def aLu(w:Z):((ReflectliteType.abiMethod fun t=>Functor.map (fun a:Nat=>Value.int IntKind.u8 (a:Int)) (Rtype.kind t)) #[pq 12 78]).run a9F w = .ok (.int .u8 22) w:=zk
def aLv(w:Z):((ReflectliteType.abiMethod fun t=>Functor.map (fun a:Nat=>Value.int IntKind.u8 (a:Int)) (Rtype.kind t)) #[pq 12 27]).run a9F w = .ok (.int .u8 2) w:=zk
def aoL(a:Addr)(w:Z):(ReflectliteValue.parts (.agg #[pq 12 78,aq (O a),.int .u64 150])).run a9F w = .ok (O (78,a,150)) w:=zk
def aLw(a p:Addr)(W:Z)(b:W.cell? a=O (aq (O p))) :
  (ReflectliteValue.method (ReflectliteValue.valueError "reflectlite.Value.IsNil" 0) ReflectliteValue.isNil #[.agg #[pq 12 78,aq (O a),.int .u64 150]]).run a9F W = .ok (.bool G) W:=by
 rw[Ww];simp only[aZS,aoL,a0x];simp [ReflectliteValue.isNil,loadVar,isAgg,underlying,underlying78,b,a0x]
def aLx(w:Z):(ReflectliteType.method ReflectliteType.elem #[.agg #[pq 12 78]]).run a9F w = .ok (aj 219 (.agg #[pq 12 27])) w:=zk
def aLy(w:Z):(ReflectliteType.relation "Implements" ReflectliteType.implements_ #[.agg #[pq 12 27],aj 219 (.agg #[pq 12 57])]).run a9F w = .ok (.bool A) w:=zk
def aoM(v:Y)(w:Z):(ReflectliteType.typeOf #[aj 27 v]).run a9F w = .ok (aj 219 (.agg #[pq 12 27])) w:=zk
def aLz(w:Z):(ReflectliteType.relation "AssignableTo" ReflectliteType.assignableTo #[.agg #[pq 12 27],aj 219 (.agg #[pq 12 27])]).run a9F w = .ok (.bool A) w:=zk
def aLA(e:Int)(w:Z):(ReflectliteValue.unpack (aj 27 (zi e))).run a9F w
 = .ok (.agg #[pq 12 27,pp w.heap.size,.int .u64 130]) (w.alloc (ae #[zi e] 27)):=zk
def aLB(w:Z):(Rtype.elem? 78).run a9F w = .ok (O 27) w:=zk
def aLC(p:Addr)(w:Z):(ReflectliteValue.mk 27 p ReflectliteValue.flagAddr).run a9F w = .ok (.agg #[pq 12 27,aq (O p),.int .u64 386]) w:=zk
def aLD(a p:Addr)(W:Z)(b:W.cell? a=O (aq (O p))) :
  (ReflectliteValue.method (ReflectliteValue.valueError "reflectlite.Value.Elem" 0) ReflectliteValue.elem #[.agg #[pq 12 78,aq (O a),.int .u64 150]]).run a9F W
   = .ok (.agg #[pq 12 27,aq (O p),.int .u64 386]) W:=by
 rw[Ww];simp only[aZS,aoL,a0x];simp [ReflectliteValue.elem,loadVar,isAgg,underlying,underlying78,b,a0x,aLB,aLC]
def aLE(a:Addr)(w:Z):(ReflectliteValue.parts (.agg #[pq 12 27,aq (O a),.int .u64 386])).run a9F w = .ok (O (27,a,386)) w:=zk
def aLF(a:Addr)(w:Z):(ReflectliteValue.parts (.agg #[pq 12 27,aq (O a),.int .u64 130])).run a9F w = .ok (O (27,a,130)) w:=zk
def aLG(w:Z):(Rtype.directlyAssignable 27 27).run a9F w = .ok A w:=zk
def aLH(a b:Addr)(e:Int)(c:Y)(W:Z)(d:W.cell? b=O (zi e))(ht:W.cell? a=O c)(f:W.frozen? a=G) :
  (ReflectliteValue.set #[.agg #[pq 12 27,aq (O a),.int .u64 386],.agg #[pq 12 27,aq (O b),.int .u64 130]]).run a9F W
   = .ok (ak #[]) (W.setCell a (zi e)):=by
 rw[alz];simp only[aZS,aLE,aLF,a0x];simp [ReflectliteValue.flagAddr,loadVar,isAgg,underlying,underlying27,d,a0x,aLG,storeVar,Value.cells,storeCells,Addr.add];rw[run_store a9F W a _ _ (by rfl)];grind
def aLI(e:Int)(t:Addr)(EK:Y)(w:Z)(hg:w.cell? ⟨0,0,V⟩=O (aj 219 (.agg #[pq 12 57])))(Ka:w.cell? t=O EK)(F4:w.frozen? t=G) :
  Calls a9F 29 #[aj 27 (zi e),aj 78 (aq (O t))] w fun ev w'=>ev = ah (.bool A)/\w'=((((w.alloc (ae #[aq (O t)] 78)).alloc (ae #[pq 12 78,pp w.heap.size,.int .u64 150] 158)).alloc (ae #[pq 12 78,pp w.heap.size,.int .u64 150] 158)).alloc (ae #[zi e] 27)).setCell t (zi e):=by
 have h6:=@run_callFunc_extern a9F 54 _ (fun args=>ReflectliteValue.unpack (args.getD 0 (ak #[]))) func54 zk zk zk zk;have h7:=@run_callFunc_extern a9F 55 _ (ReflectliteValue.methodAny (ReflectliteValue.valueError "reflectlite.Value.Type" 0) (fun t _ _ _=>ReflectliteType.toType t)) func55 zk zk zk zk;have h8:=@run_callFunc_extern a9F 56 _ (ReflectliteValue.method (ReflectliteValue.valueError "reflectlite.Value.IsNil" 0) ReflectliteValue.isNil) func56 zk zk zk zk;have Gj:=@run_callFunc_extern a9F 196 _ (ReflectliteType.abiMethod fun t=>do pure (.int .u8 (<- Rtype.kind t))) func196 zk zk zk zk;have h37:=@run_callFunc_extern a9F 238 _ (ReflectliteType.method ReflectliteType.elem) func238 zk zk zk zk;have h38:=@run_callFunc_extern a9F 239 _ (ReflectliteType.relation "Implements" ReflectliteType.implements_) func239 zk zk zk zk;have oN:=@run_callFunc_extern a9F 87 _ ReflectliteType.typeOf func87 zk zk zk zk;have yz:=@run_callFunc_extern a9F 236 _ (ReflectliteType.relation "AssignableTo" ReflectliteType.assignableTo) func236 zk zk zk zk;have Gk:=@run_callFunc_extern a9F 88 _ (ReflectliteValue.method (ReflectliteValue.valueError "reflectlite.Value.Elem" 0) ReflectliteValue.elem) func88 zk zk zk zk;have B2:=@run_callFunc_extern a9F 89 _ ReflectliteValue.set func89 zk zk zk zk;have tO:=aoM;have mA:=acy;have a25:=aLz;have v25:=aLA;have f6:=aLs;have f7:=aLt;have mK:=acv;have mE:=acw;have mI:=acx;have k27:=aLu;have k25:=aLv;have e27:=aLx;have i25:=aLy;have n8:=aLw ⟨w.heap.size,0,V⟩ t ((w.alloc (ae #[aq (O t)] 78)).alloc (ae #[pq 12 78,pp w.heap.size,.int .u64 150] 158)) zs;have hlt:0<w.heap.size:=by
  grind [Nat.eq_zero_or_pos,a0l]
 have jf:((w.alloc (ae #[aq (O t)] 78)).alloc (ae #[pq 12 78,pp w.heap.size,.int .u64 150] 158)).cell? ⟨0,0,V⟩=O (aj 219 (.agg #[pq 12 57])):=by
  rw[a0k _ _ ⟨0,0,V⟩ zs,a0k _ _ ⟨0,0,V⟩ hlt];exact hg
 have sI:t.block<w.heap.size:=by
  grind [Nat.lt_or_ge,a0l,a1U]
 have el:=aLD ⟨w.heap.size,0,V⟩ t (((w.alloc (ae #[aq (O t)] 78)).alloc (ae #[pq 12 78,pp w.heap.size,.int .u64 150] 158)).alloc (ae #[pq 12 78,pp w.heap.size,.int .u64 150] 158)) (by rw[a0k _ _ ⟨w.heap.size,0,V⟩ (by simp;omega)];simp);have st:=aLH t ⟨w.heap.size+1+1+1,0,V⟩ e EK ((((w.alloc (ae #[aq (O t)] 78)).alloc (ae #[pq 12 78,pp w.heap.size,.int .u64 150] 158)).alloc (ae #[pq 12 78,pp w.heap.size,.int .u64 150] 158)).alloc (ae #[zi e] 27))
  (by rw[World.cell?_alloc_at _ _ _ _ zs];rfl)
  (by rw[a0k _ _ t (by simp;omega),a0k _ _ t (by simp;omega),a0k _ _ t (by simp;omega),a0k _ _ t sI];exact Ka)
  (by rw[a0H _ _ t (by simp;omega),a0H _ _ t (by simp;omega),a0H _ _ t (by simp;omega),a0H _ _ t (Nat.ne_of_lt sI)];exact F4)
 go_enter func29,ntmps29
 go_wp2
 refine wp_loop_rounds 1 ?_;rw[rounds_succ]
 go_wp2
 go_ret
 exact⟨J,J⟩
def aLJ(w:Z):(ReflectliteType.relation "AssignableTo" ReflectliteType.assignableTo #[.agg #[pq 12 27],aj 219 (.agg #[pq 12 73])]).run a9F w = .ok (.bool G) w:=zk
def aLK(v:Y)(a:TypeId)(w:Z):(aZ0 (aj 27 v) a 224 A).run a9F w = .ok (ak #[ai,.bool G]) w:=run_typeAssert_lacksB underlying224 zk zk v a w
def aLL(v:Y)(a:TypeId)(w:Z):(aZ0 (aj 27 v) a 227 A).run a9F w = .ok (ak #[ai,.bool G]) w:=run_typeAssert_lacksB underlying227 zk zk v a w
def aLM(v:Y)(a:TypeId)(w:Z):(aZ0 (aj 27 v) a 229 A).run a9F w = .ok (ak #[ai,.bool G]) w:=run_typeAssert_lacksB underlying229 zk zk v a w
def aLN(e:Int)(t:Addr)(EK:Y)(w:Z)(hg:w.cell? ⟨0,0,V⟩=O (aj 219 (.agg #[pq 12 57])))(Ka:w.cell? t=O EK)(F4:w.frozen? t=G) :
  Calls a9F 29 #[aj 27 (zi e),aj 75 (aq (O t))] w fun ev w'=>ev = ah (.bool G)/\w'=(((w.alloc (ae #[aq (O t)] 75)).alloc (ae #[pq 12 75,pp w.heap.size,.int .u64 150] 158)).alloc (ae #[pq 12 75,pp w.heap.size,.int .u64 150] 158)):=by
 have h6:=@run_callFunc_extern a9F 54 _ (fun args=>ReflectliteValue.unpack (args.getD 0 (ak #[]))) func54 zk zk zk zk;have h7:=@run_callFunc_extern a9F 55 _ (ReflectliteValue.methodAny (ReflectliteValue.valueError "reflectlite.Value.Type" 0) (fun t _ _ _=>ReflectliteType.toType t)) func55 zk zk zk zk;have h8:=@run_callFunc_extern a9F 56 _ (ReflectliteValue.method (ReflectliteValue.valueError "reflectlite.Value.IsNil" 0) ReflectliteValue.isNil) func56 zk zk zk zk;have Gj:=@run_callFunc_extern a9F 196 _ (ReflectliteType.abiMethod fun t=>do pure (.int .u8 (<- Rtype.kind t))) func196 zk zk zk zk;have h37:=@run_callFunc_extern a9F 238 _ (ReflectliteType.method ReflectliteType.elem) func238 zk zk zk zk;have h38:=@run_callFunc_extern a9F 239 _ (ReflectliteType.relation "Implements" ReflectliteType.implements_) func239 zk zk zk zk;have oN:=@run_callFunc_extern a9F 87 _ ReflectliteType.typeOf func87 zk zk zk zk;have yz:=@run_callFunc_extern a9F 236 _ (ReflectliteType.relation "AssignableTo" ReflectliteType.assignableTo) func236 zk zk zk zk;have tO:=aoM;have i1:=aLK;have i2:=aLL;have i3:=aLM;have mA:=acy;have a25:=aLJ;have f6:=alq;have f7:=alr;have mK:=acv;have mE:=acw;have mI:=acx;have k27:=als;have k25:=alu;have e27:=alx;have i25:=aly;have n8:=alw ⟨w.heap.size,0,V⟩ t ((w.alloc (ae #[aq (O t)] 75)).alloc (ae #[pq 12 75,pp w.heap.size,.int .u64 150] 158)) zs;have hlt:0<w.heap.size:=by
  grind [Nat.eq_zero_or_pos,a0l]
 have jf:((w.alloc (ae #[aq (O t)] 75)).alloc (ae #[pq 12 75,pp w.heap.size,.int .u64 150] 158)).cell? ⟨0,0,V⟩=O (aj 219 (.agg #[pq 12 57])):=by
  rw[a0k _ _ ⟨0,0,V⟩ zs,a0k _ _ ⟨0,0,V⟩ hlt];exact hg
 have sI:t.block<w.heap.size:=by
  grind [Nat.lt_or_ge,a0l,a1U]
 go_enter func29,ntmps29
 go_wp2
 refine wp_loop_rounds 1 ?_;rw[rounds_succ]
 go_wp2
 go_ret
 exact⟨J,J⟩
end Go.Proofs.YtoegidfbnkaabaaGreatDoor
namespace Go.Proofs.YtoegidfbnkaabaaGreatDoor
open P
open Go.RowKit Sx
variable{D:Nat->Prop}{K:Y->Prop}{b base e g m n pb so xb:Nat}{cs:Array Y}{tv v:Y}{w w':Z}{xs:List Y}{ρ:Nat->Nat}
structure Nw(D:Nat->Prop)(w w':Z):Prop where
 Fi:eH w w'
 own:∀ (b:Nat) (o:Obj),D b->w.heap[b]?=O o->w'.heap[b]?=O o
 map:∀ (b:Nat) (es:Array MapEntry) (c:Nat),w.heap[b]?=O (.map es c)->w'.heap[b]?=O (.map es c)
structure Qa{E:En}(X:Bi E):Prop where
 bH:∀ {D ρ w w' s},X.Mem D ρ w s->Nw D w w'->X.Mem D ρ w' s
 cut:∀ {D D':Nat->Prop} {ρ w s},X.Mem D ρ w s->(∀ b,b<w.heap.size->D b->D' b)->X.Mem D' ρ w s
def aeP{size:Nat}(a:w.ownsRow base e size v n xs)(c:∀ g,v.ownBlock=O g->D g)(hk:∀ b o,D b->w.heap[b]?=O o->w'.heap[b]?=O o):w'.ownsRow base e size v n xs:=by
 refine⟨a.1,?_⟩;rcases a.2 with i | ⟨b,cap,cur,rfl,d,f,h⟩
 .exact yH
 .exact .inr ⟨b,cap,cur,J,d,hk _ _ (c b J) f,h⟩
def aeQ{size:Nat}(a:w.ownsRow base e size v n xs)(c:v.ownBlock=O g):g<w.heap.size:=by
 rcases a.2 with⟨rfl,-⟩| ⟨b,cap,cur,rfl,-,d,-⟩
 .cases c
 grind [Value.ownBlock,aZG,bg]
def gQ.Ny{T:Nat}{s:Sr}(h:gQ D ρ n pb so T cs tv w s)(hk:Nw D w w'):gQ D ρ n pb so T cs tv w' s:=
 ⟨⟨h.sv.inj,fun i b=>by
  obtain⟨ref,d,a⟩:=h.sv.var i b;refine⟨ref,hk.own _ _ (h.dv i b) d,?_⟩;split at a
  .rename_i c;simpa [c] using a
  .rename_i t c;exact dI.bH a hk.Fi.toT⟩,h.dv,hk.own _ _ h.ds h.cell,aeP h.row h.dr hk.own,h.dr,h.ds,h.nd,h.lt,h.ok⟩
def gQ.Nz{D':Nat->Prop}{T:Nat}{s:Sr}(h:gQ D ρ n pb so T cs tv w s)(a:∀ b,b<w.heap.size->D b->D' b):gQ D' ρ n pb so T cs tv w s:=
 ⟨h.sv,fun i d=>by
  obtain⟨ref,e,-⟩:=h.sv.var i d;grind [bg,dv],h.cell,h.row,fun g c=>a _ (aeQ h.row c) (h.dr g c),a _ (bg h.cell) h.ds,h.nd,h.lt,h.ok⟩
theorem wkD(base:List Cl)(M nv wb mb xb:Nat)(vv:Y):Qa (wkX base M nv wb mb xb vv) where
 bH:=by
  rintro D ρ w w' s ⟨⟨todo,av,tv,di,h⟩,h2,h3,h4,h5⟩ hk;exact⟨⟨todo,av,tv,di,h.st.Ny hk,h.td.bH hk.Fi (eg.refl _ _),aeP h.ar h.da hk.own,h.ag.bH hk.Fi (eg.refl _ _),h.da⟩,
   (by grind [Bf.bH,Nw.Fi,Nw.map]),h3.iT hk.Fi (yM),h4,hk.Fi _ _ _ (yM) h5⟩
 cut:=by
  rintro D D' ρ w s ⟨⟨todo,av,tv,di,h⟩,h2,h3,h4,h5⟩ hd;exact⟨⟨todo,av,tv,di,h.st.Nz hd,h.td,h.ar,h.ag,fun g hg=>hd _ (aeQ h.ar hg) (h.da g hg)⟩,h2,h3,h4,h5⟩
def aLP(z:Array Y):∀ (n:Nat),(madeCells z n).size=n:=by
 grind [madeCells]
def aLQ(n:Nat)(h:n<=100)(w:Z):Calls a9F 77 #[zi (n:Nat)] w fun e w'=>Ext w w'/\∃ b,e = ah (cR b n n):=by
 refine anJ ?_;refine bE ?_;refine⟨fun m z w'=>∃ (j:Nat) (cs:Array Y),z 9=zi (j:Nat)/\j<=n/\m=n-j/\Ext w w'/\w'.heap[w.heap.size]?=aM cs 89/\cs.size=n,
  ⟨_,0,_,J,Nat.zero_le _,J,(bB.refl _ _).alloc _,sx J,by rw[aLP]⟩,?_⟩
 intro m z d w1 c;refine toPr ?_;obtain⟨j,cs,a,i,rfl,k,g1,l⟩:=c;have o:=bg g1;by_cases hlt:j<n
 .have p:(j:Int)<(n:Int):=zo;have f:(j:Int).toNat=j:=zo;refine iZ a @f @g1 ?_;exact⟨_,zo,j+1,_,zs,zo,J,yF,J,yH⟩
 .have g:j=n:=zo;subst g;refine cH a ?_;exact yH
def tT{j:Option Addr}(p:n<=12)(f:w.heap[b]?=aM #[aT [],bV,pp xb,.slice j n pb] 86) :
  Calls a9F 38 #[.map (O m),pp b] w fun e w'=>Ext w w'/\∃ q o,e = ah (pp q)/\w'.heap[q]?=aM o 130:=by
 refine anK ?_;refine cH f ?_;refine aZJ (aLQ n zo w) ?_;rintro e w1 ⟨c,fb,rfl⟩;have d:=c.ext _ _ f;have r:=bg d;refine cH d ?_;obtain⟨w2,k⟩:=cd (w1.alloc (ae #[.map (O m),bV,zi 0,aq V,bV,cR fb n n] 130));have l:w1.alloc (ae (Value.agg #[.map (O m),bV,zi 0,aq V,bV,cR fb n n]).cells 130 (0,0))=w2:=k.symm;rw[l];have g:Ext w1 w2:=yF;have g2:w2.heap[w1.heap.size]?=aM #[.map (O m),bV,zi 0,aq V,bV,cR fb n n] 130:=yH;have h:=g.ext _ _ d;have s:=bg g2;refine⟨fun w'=>w'.heap[b]?=w2.heap[b]?,J,?_⟩;rw[ju];refine cO (pq b 2) (fun w' a=>by rw[h] at a;exact fa a) (cO (pp xb) (fun w' a=>by rw[h] at a;have:=bg a;exact fa a) ?_);refine cH @g2 ?_;have i:Ext w2 (w2.drew.alloc (ae #[pp xb,cR fb n n,zi 0,aq V] 207)):=yF;have s1:=c.size;exact⟨bB.bO (M:=fun _ _=>False) ((c.trans g).trans i) (.inr s1),_,_,J,pS J (bg (i.ext _ _ g2))⟩
def aLR{P:Program}{T:TypeId}(h:Js P T=A){S:Z->Prop}(hk:K (aj T v)):uy P (Instr.makeInterface T v) S K:=by
 refine⟨aj T v,fun w _=>?_,hk⟩;unfold Js at h;unfold Instr.makeInterface underlying;simp only[aZS,program,Sem.run,Result.andThen_ok];grind [Sem.run_pure,Result.andThen_ok]
