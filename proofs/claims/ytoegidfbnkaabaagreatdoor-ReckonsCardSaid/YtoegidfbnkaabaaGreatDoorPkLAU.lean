/- A part of one proof (KE1, ShB2, PX3, PX4, KE2, KE3, KE5, KE6). -/
import Derived.Test.YtoegidfbnkaabaaGreatDoorPkLAT
import Derived.Recover
import Derived.Tactics
import Derived.Tactics2
import Derived.WalkKit
import Derived.LaidEql
import Derived.Stop.Asserts
import Derived.RowKitTokens
set_option linter.all false
set_option maxRecDepth 100000
set_option maxHeartbeats 8000000
open Option renaming some → O, none → V
open Go renaming Value → Y, World → Z
open Bool renaming true → A, false → G
open Go.Obj renaming cells → ae
open Go.Ending renaming returned → ah
open Go.Value renaming nilIface → ai, iface → aj, tuple → ak, pointer → aq
open Option.some renaming injEq → a1o
open Go.Calls renaming mono → a1r
open List renaming length_cons → a1x, drop_eq_getElem_cons → a1y, length_nil → a1L
open Go.Sem renaming run_bind → a1C
open Go.Instr renaming typeAssert → a1J
open Prod.mk renaming injEq → a1P
open Bool renaming false_eq_true → a1V
open Go.World renaming cell?_alloc_lt → a18, cell? → a19, frozen?_alloc_old → a2w
open Go.Exit renaming thenS → a2c
open Go.Result renaming andThen → a2n
open Array renaming getElem?_eq_none → a3Q, setIfInBounds_setIfInBounds → a4w
open Go.Act renaming eval → a3V
open Go.Ending.panicked renaming injEq → a52
open Go.Proofs.Tryz renaming prog → bbC
open Go.Proofs.Tryz
namespace Go.Proofs.YtoegidfbnkaabaaGreatDoor
open P
open Go.RowKit Sx
variable{D:Nat->Prop}{E:En}{R:Ending->Z->Prop}{S av buf iv nm o4 o5 tv v vv:Y}{a:Act}{b base c cap d e f k' n o pb qb so wb:Nat}{cs:Array Y}{out:Bs}{res:Z->Prop}{vars:List Bs}{w w':Z}{xs:List Y}{ρ:Nat->Nat}
def apt(w:Z):(a1J ai 20 27 A).run bbC w = .ok (ak #[zi 0,.bool G]) w:=zk
def apu(v:Y)(w:Z):(a1J (aj 27 v) 20 27 A).run bbC w = .ok (ak #[v,.bool A]) w:=zk
def aLP(w:Z):(a1J ai 20 134 A).run bbC w = .ok (ak #[.agg #[],.bool G]) w:=zk
def aLQ(v:Y)(w:Z):(a1J (aj 134 v) 20 27 A).run bbC w = .ok (ak #[zi 0,.bool G]) w:=zk
def aLR(v:Y)(w:Z):(a1J (aj 134 v) 20 134 A).run bbC w = .ok (ak #[v,.bool A]) w:=zk
def QO(id:Nat)(Q:Exit->Act->List Frame->Z->Prop):Exit->Act->List Frame->Z->Prop
 | .exit b,a,cs,w=>if b=id then Q .normal a cs w else Q (.exit b) a cs w
 | e,a,cs,w=>Q e a cs w
def afj{P:Program}{Q:Exit->Act->List Frame->Z->Prop}{cs:List Frame}{id:Nat}{c:Code}(h:c.wpS P (QO id Q) a cs w):(Code.block id c).wpS P Q a cs w:=fun b k m hr=>by
 obtain⟨e,d,f,w1,g,i⟩:=h b (.inBlock id::k) m hr;cases e with
 | normal=>exact⟨.normal,d,f,w1,g,.head step_block (Steps.trans i (.one step_inBlock))⟩
 | exit j=>
  by_cases hid:j=id
  .have g:Q .normal d f w1:=by grind [QO,hid]
   exact⟨.normal,d,f,w1,g,.head step_block (i k (by simp [exitTo,hid]))⟩
  .have g:Q (.exit j) d f w1:=by grind [QO,hid]
   refine⟨.exit j,d,f,w1,g,fun k' hk=>.head step_block (i k' ?_)⟩;grind [id,hid,exitTo]
 | goto l=>exact⟨_,d,f,w1,g,fun k' hk=>.head step_block (i k' (by grind [gotoIn]))⟩
 | ret=>exact⟨_,d,f,w1,g,.of_steps (.one step_block) i⟩
 | panic n=>exact⟨_,d,f,w1,g,.of_steps (.one step_block) i⟩
 | outgrown=>exact⟨_,d,f,w1,g,.of_steps (b:=b) (k:=k) (e:=.outgrown) (.one step_block) i⟩
def aLS(v0 v1 v2:Y)(w:Z):CallsD bbC 42 #[v0,v1,v2] .returning w fun e u' w'=>e = ah (ak #[])/\u' = .returning/\w'=w:=by
 refine callsD_of_wpS func42 J fun AD cs hu=>?_;apply wpS_seq;apply wpS_region;simp [wpOpsS,go_sem,recoverD,hu,ntmps42,a2c];apply afj;apply wpS_seq;apply wpS_region;simp [wpOpsS,go_sem,recoverD,hu,ntmps42,a2c,apt];refine wpS_cond (t:=false) (by simp [a3V]) ?_;simp only[a1V,if_false];apply wpS_seq;apply wpS_region;simp [wpOpsS,go_sem,recoverD,hu,ntmps42,a2c,aLP];refine wpS_cond (t:=false) (by simp [a3V]) ?_;simp only[a1V,if_false];refine wpS_of_wp (wp_skip ?_);cases AD;simp_all [QO,bodyPostS,results,Tryz.results42]
section
variable{w:Z}{qb b0 b1 b2:Nat}{q0 q1 q2 q3 q4 o1 o2:Y}
structure Od(w:Z)(qb b0 b1 b2:Nat)(q0 q1 q2 q3 q4 o1 o2:Y):Prop where
 q:w.heap[qb]?=aO #[q0,q1,q2,q3,q4] 121
 x0:w.heap[b0]?=aO #[pp qb] 35
 x1:w.heap[b1]?=aO #[o1] 9
 x2:w.heap[b2]?=aO #[o2] 57
 lt:qb<b0/\b0<b1/\b1<b2
def Ew{w:Z}{T:Nat}(h:w.heap[b]?=aO cs T)(hv:cs[o]?=O v):w.cell? ⟨b,o,V⟩=O v:=by
 grind [a19]
def aLT(h:Od w qb b0 b1 b2 q0 q1 q2 q3 q4 o1 o2)(k:Int)(xV:List PanicEntry) :
  CallsD bbC 42 #[pp b0,pp b1,pp b2] (.panicking ({ v:=aj 27 (zi k),recovered:=false }::xV)) w fun e u' w'=>
   e = ah (ak #[])/\u' = .panicking ({ v:=aj 27 (zi k),recovered:=true }::xV) /\
   w'=bQ (bQ (bQ w qb (ae #[q0,q1,q2,q3,aj 27 (zi k)] 121)) b1 (ae #[aT []] 9 (0,0))) b2 (ae #[aj 27 (zi k)] 57):=by
 obtain⟨hq,h0,h1,h2,BA,qF,gz⟩:=h;have c0:w.cell? ⟨b0,0,V⟩=O (pp qb):=Ew h0 J;have z0:=jJ h0 0;have c4:w.cell? ⟨qb,4,V⟩=O q4:=Ew hq J;have z4:=jJ hq 4;have e1:w.setCell ⟨qb,4,V⟩ (aj 27 (zi k))=bQ w qb (ae #[q0,q1,q2,q3,aj 27 (zi k)] 121):=vg hq _;obtain⟨w1,jP⟩:=cg (bQ w qb (ae #[q0,q1,q2,q3,aj 27 (zi k)] 121));rw[<- jP] at e1;have Ax:w1.heap[b1]?=aO #[o1] 9:=yH;have c1:w1.cell? ⟨b1,0,V⟩=O o1:=Ew Ax J;have z1:=jJ Ax 0;have e2:w1.setCell ⟨b1,0,V⟩ (aT [])=bQ w1 b1 (ae #[aT []] 9 (0,0)):=vg Ax _;obtain⟨w2,jZ⟩:=cg (bQ w1 b1 (ae #[aT []] 9 (0,0)));rw[<- jZ] at e2;have By:w2.heap[b2]?=aO #[o2] 57:=yH;have c2:w2.cell? ⟨b2,0,V⟩=O o2:=Ew By J;have z2:=jJ By 0;have e3:w2.setCell ⟨b2,0,V⟩ (aj 27 (zi k))=bQ w2 b2 (ae #[aj 27 (zi k)] 57):=vg By _;refine callsD_of_wpS func42 J fun AD cs hu=>?_;apply wpS_seq;apply wpS_region;simp [wpOpsS,go_sem,recoverD,hu,ntmps42,a2c];apply afj;apply wpS_seq;apply wpS_region;simp [wpOpsS,go_sem,recoverD,hu,ntmps42,a2c,apu];refine wpS_cond (t:=true) (by simp [a3V]) ?_;simp only[if_true];apply wpS_seq;apply wpS_region;simp [wpOpsS,go_sem,recoverD,hu,ntmps42,a2c];apply wpS_seq;apply wpS_region;simp [wpOpsS,go_sem,recoverD,hu,ntmps42,a2c,c0,z0,c4,z4,e1];have e2':w1.setCell ⟨b1,0,V⟩ (.string { data:=#[] })=w2:=e2;apply wpS_region;simp [wpOpsS,go_sem,recoverD,hu,ntmps42,a2c,c1,z1,c2,z2,e2',e3];simp [QO,bodyPostS,results,Tryz.results42,jP,jZ]
def aLU(h:Od w qb b0 b1 b2 q0 q1 q2 q3 q4 o1 o2)(xV:List PanicEntry) :
  CallsD bbC 42 #[pp b0,pp b1,pp b2] (.panicking ({ v:=aj 134 (.agg #[]),recovered:=false }::xV)) w fun e u' w'=>
   e = ah (ak #[])/\u' = .panicking ({ v:=aj 134 (.agg #[]),recovered:=true }::xV)/\∃ w0,w0=w.alloc (ae #[] 134) /\
   w'=bQ (bQ (bQ w0 qb (ae #[q0,q1,q2,q3,aj 27 (zi 11)] 121)) b1 (ae #[aT []] 9 (0,0))) b2 (ae #[aj 27 (zi 11)] 57):=by
 refine callsD_of_wpS func42 J fun AD cs hu=>?_;apply wpS_seq;apply wpS_region;simp [wpOpsS,go_sem,recoverD,hu,ntmps42,a2c];apply afj;apply wpS_seq;apply wpS_region;simp [wpOpsS,go_sem,recoverD,hu,ntmps42,a2c,aLQ];refine wpS_cond (t:=false) (by simp [a3V]) ?_;simp only[a1V,if_false];apply wpS_seq;apply wpS_region;simp [wpOpsS,go_sem,recoverD,hu,ntmps42,a2c,aLR];refine wpS_cond (t:=true) (by simp [a3V]) ?_;simp only[if_true];apply wpS_seq;apply wpS_region;simp [wpOpsS,go_sem,recoverD,hu,ntmps42,a2c];obtain⟨w0,yl⟩:=cg (w.alloc (ae #[] 134));have oV:Ext w w0:=yF;rw[<- yl];obtain⟨hq,h0,h1,h2,BA,qF,gz⟩:=h;have hq:=oV.ext _ _ hq;have h0:=oV.ext _ _ h0;have h1:=oV.ext _ _ h1;have h2:=oV.ext _ _ h2;clear yl oV;have c0:w0.cell? ⟨b0,0,V⟩=O (pp qb):=Ew h0 J;have z0:=jJ h0 0;have c4:w0.cell? ⟨qb,4,V⟩=O q4:=Ew hq J;have z4:=jJ hq 4;have e1:w0.setCell ⟨qb,4,V⟩ (aj 27 (zi 11))=bQ w0 qb (ae #[q0,q1,q2,q3,aj 27 (zi 11)] 121):=vg hq _;obtain⟨w1,jP⟩:=cg (bQ w0 qb (ae #[q0,q1,q2,q3,aj 27 (zi 11)] 121));rw[<- jP] at e1;have Uw:w1.heap[qb]?=aO #[q0,q1,q2,q3,aj 27 (zi 11)] 121:=yH;have c4':w1.cell? ⟨qb,4,V⟩=O (aj 27 (zi 11)):=Ew Uw J;have vJ:w1.heap[b0]?=aO #[pp qb] 35:=yH;have Ey:w1.cell? ⟨b0,0,V⟩=O (pp qb):=Ew vJ J;have Ax:w1.heap[b1]?=aO #[o1] 9:=yH;have c1:w1.cell? ⟨b1,0,V⟩=O o1:=Ew Ax J;have z1:=jJ Ax 0;have e2:w1.setCell ⟨b1,0,V⟩ (aT [])=bQ w1 b1 (ae #[aT []] 9 (0,0)):=vg Ax _;obtain⟨w2,jZ⟩:=cg (bQ w1 b1 (ae #[aT []] 9 (0,0)));rw[<- jZ] at e2;have By:w2.heap[b2]?=aO #[o2] 57:=yH;have c2:w2.cell? ⟨b2,0,V⟩=O o2:=Ew By J;have z2:=jJ By 0;have e3:w2.setCell ⟨b2,0,V⟩ (aj 27 (zi 11))=bQ w2 b2 (ae #[aj 27 (zi 11)] 57):=vg By _;have e2':w1.setCell ⟨b1,0,V⟩ (.string { data:=#[] })=w2:=e2;apply wpS_seq;apply wpS_region;simp [wpOpsS,go_sem,recoverD,hu,ntmps42,a2c,c0,z0,c4,z4,e1];apply wpS_region;simp [wpOpsS,go_sem,recoverD,hu,ntmps42,a2c,Ey,c4',c1,z1,c2,z2,e2',e3];simp [QO,bodyPostS,results,Tryz.results42,jP,jZ]
end
open Go.Proofs.YtoegidfbnkaabaaGreatDoor.Sx
section
variable{p0 p1 p2 p3 p4 p5 p6 p7:Y}{w:Z}{R:Ending->Z->Prop}
def aLW:=cz w R [p0] (gc [] [] []) func43
end
def P.term(s:Bs):cj Ex:=tU aG3 s
def apv(v:Y)(n i:Nat)(h:i<n):(madeCells #[v] (n*1))[i]?=O v:=by
 simp [madeCells,h,Nat.mod_one]
def apw(h:tG w wb S nm out):Calls bbC 43 #[pp wb] w fun e w'=>e = ah (zi (out.length:Nat))/\w'=w:=by
 obtain⟨f,buf,g,b,d⟩:=h;obtain⟨a,c,rfl⟩:=gV d;refine aLW ?_;exact fh b
def Hl(eb:Nat)(w w':Z):Prop:=(∀ (b:Nat) (cs:Array Y) (T:Nat),b≠eb->T≠9->T≠57->w.heap[b]?=aO cs T->w'.heap[b]?=aO cs T) /\
 ∀ (b:Nat) (es:Array MapEntry) (c:Nat),b≠eb->w.heap[b]?=O (.map es c)->w'.heap[b]?=O (.map es c)
theorem Hl.of(h:∀ b o,b≠pb->w.heap[b]?=O o->w'.heap[b]?=O o):Hl pb w w':=⟨yH,yH⟩
structure Ez(E:En) where
 T:Nat
 pT:Nat
 fN:Nat
 fT:Nat
 eb:Nat
 tf:Array Y
 tc:Array Y
 Mem:(Nat->Prop)->(Nat->Nat)->Z->E.St->Prop
 Good:Nat->E.St->Prop
structure Jh{E:En}(X:Ez E):Prop where
 st:∀ {D ρ w s},X.Mem D ρ w s->∃ cs tv,vF 1 X.T cs/\gO D ρ (E.nv s) X.eb 1 X.T cs tv w (E.sr s)
 ext:∀ {D ρ w w' s},X.Mem D ρ w s->Ext w w'->X.Mem D ρ w' s
 fuel:∀ {D ρ w w' s C f},X.Mem D ρ w s->w.heap[X.eb]?=aO C X.T->Hl X.eb w w'->w'.heap[X.eb]?=aO (kr C 1 ((f:Nat):Int)) X.T->X.Mem D ρ w' (E.fu s f)
 apx:∀ s f,E.sr (E.fu s f)=⟨(E.sr s).tr,f⟩
 afl:∀ s f,E.told (E.fu s f)=E.told s
 next:∀ {D ρ w s c d f r},X.Mem D ρ w (E.fu s 1000000)->(∀ b,w.heap.size<=b->D b)->X.Good c s->c<=700->E.nx d f (E.fu s 1000000)=O r ->
  Calls bbC X.fN #[pp X.eb] w (EPost D w (fun p e w'=>e = ah (.bool p.1)/\∃ eM,X.Mem D eM w' p.2) r)
 EV:∀ {s c d f k},X.Good c s->c<=700->nC (E.sr s).tr->E.nx d f (E.fu s 1000000)=O (.ok (A,k))->(E.sr k).fuel<=1000000/\∀ f',X.Good (c+1) (E.fu k f')
 told:∀ {D ρ w s},X.Mem D ρ w s->(∃ c f,X.Good c (E.fu s f))->Calls bbC X.fT (X.tf++#[]++X.tc) w fun e w'=>Ext w w'/\match E.told s with
  | .ok l=>∃ v us,e = ah v/\fJ (fun _=>True) w' 89 v us/\qe ρ (E.nv s) w' us l
  | .error t=>e=gP t
 afm:∀ {s c l},X.Good c s->E.told s = .ok l->jt l
 afn:∀ w,(method (Tryz.prog.types.size+Made.depth) X.pT (pp X.eb) "Next").run bbC w = .ok (X.fN,pp X.eb) w
 cN:zR bbC X.fN=A
 cT:zR bbC X.fT=A
def FK:Option Nat->Y
 | none=>ai
 | some k=>aj 27 (.int .i64 (k:Nat))
abbrev YK(X:Ez E)(Lu:Y)(err:Option Nat):Array Y:=#[aj X.pT (pp X.eb),pq X.eb 1,.func (.func X.fT) X.tf X.tc,Lu,FK err]
structure EA{E:En}(X:Ez E)(D:Nat->Prop)(ρ:Nat->Nat)(qb:Nat)(names:List Bs)(w:Z)(q:Qs E):Prop where
 cell:∃ Lu,w.heap[qb]?=aO (YK X Lu q.1) 121/\fJ (fun _=>True) w 9 Lu (names.map fun s=>aT s)
 live:q.1=V->X.Mem D ρ w q.2
abbrev Lv(D:Nat->Prop)(qb:Nat)(w w':Z):Prop:=bB (fun b o=>EM D b o\/b=qb) w w'
def afq(h:res w) :
  LV bbC res R [{ target:=.fn (.func 42) #[tv,vv,av],args:=#[]++#[] }] .returning w:=by
 refine B8 zk zs ((aLS tv vv av w).mono ?_);rintro e a w' ⟨rfl,rfl,rfl⟩;exact h
def aLX(h:Od w qb pb cap k' tv vv av o4 iv o5 buf)(t:jE){f:List PanicEntry}(ht:gP t = .panicked f)
  (c:∀ w',bB (fun b _=>b=qb\/b=cap\/b=k') w w'->Od w' qb pb cap k' tv vv av o4 (FK (O t.no)) (aT []) (FK (O t.no))->res w') :
  LV bbC res R [{ target:=.fn (.func 42) #[pp pb,pp cap,pp k'],args:=#[]++#[] }] (.panicking f) w:=by
 have key:∀ {w0:Z} (k:Nat),Od w0 qb pb cap k' tv vv av o4 iv o5 buf->Ext w w0->k=t.no ->
   res (bQ (bQ (bQ w0 qb (ae #[tv,vv,av,o4,FK (O k)] 121)) cap (ae #[aT []] 9 (0,0))) k' (ae #[FK (O k)] 57)):=by
  intro w0 k g a hk;subst hk;obtain⟨i,x,l,j,m,n,p⟩:=g;have y:=bg i;have z:=bg j;refine c _ ⟨a.os,a.tape,a.output,by rw[vf,vf,vf];exact a.size,fun b o q d=>?_⟩ ⟨?_,?_,?_,?_,m,n,p⟩
  .rw[jb (fun e=>d (.inr (.inr e))),jb (fun e=>d (.inr (.inl e))),jb (fun e=>d (.inl e))];exact a.ext _ _ q
  .exact yH
  .exact yH
  .exact yH
  exact yH
 cases t with
 | fault e=>
  simp only[gP,a52] at ht;subst ht;refine B8 zk zs ((aLT h (e:Nat) []).mono ?_);rintro e' r w' ⟨rfl,rfl,rfl⟩;exact key e h yF J
 | DZ=>
  simp only[gP,NL,a52] at ht;subst ht;refine B8 zk zs ((aLU h []).mono ?_);rintro e' r w' ⟨rfl,rfl,w0,B,rfl⟩;have s:Ext w w0:=yF;obtain⟨i,g,l,j,u⟩:=h;exact key 11 ⟨yH,yH,yH,yH,u⟩ s J
def aLY{X:Ez E}(L:Jh X){q S:Qs E}{uR:Bs×Nat}(hq:EA X D ρ qb vars w q)(hD:∀ b,w.heap.size<=b->D b)(hDg:¬ D 4)
  (hP:lZ w) (AP:qb≠X.eb) (hqg:qb≠4) (hg:q.1=V->X.Good c q.2) (hc:c<=700) (mT:∀ nm∈vars,nm≠[]/\nm.length<=3000) (hn:vars.length<=12) (hlen:∀ k l,E.told k = .ok l->l.length=vars.length)
  (hr:AK E vars d f q=O (uR,S)) :
  Calls bbC 27 #[pp qb] w fun e w'=>Lv D qb w w'/\e = ah (ak #[aT uR.1,FK S.1])/\(S.1=V->uR.2=0)/\(∀ k,S.1=O k->uR.2=k)/\∃ eM,EA X D eM qb vars w' S:=by
 suffices H:∀ R:Ending->Z->Prop,(∀ e w',Lv D qb w w'/\e = ah (ak #[aT uR.1,FK S.1])/\(S.1=V->uR.2=0)/\(∀ k,S.1=O k->uR.2=k)/\(∃ eM,EA X D eM qb vars w' S)->R e w') ->
   Calls bbC 27 #[pp qb] w R from H _ yF
 intro R hR;obtain⟨⟨Lu,Ji,Uz⟩,Wh⟩:=hq;obtain⟨err,st⟩:=q;simp only at Ji Wh hg;refine aLO ?_;have lq:=bg Ji;obtain⟨na,I,nc,rfl⟩:∃ a n c,Lu = .slice a n c:=by rcases Uz with⟨-,rfl⟩| ⟨b,cs,rfl,-⟩<;>exact zg
 obtain⟨K,rk⟩:=cg (((w.alloc (ae #[pp qb] 35)).alloc (ae #[aT []] 9 (0,0))).alloc (ae #[ai] 57));have sA:K.heap.size=w.heap.size+3:=yH;have yY:Ext w K:=yF;have k0:K.heap[w.heap.size]?=aO #[pp qb] 35:=yH;have k1:K.heap[w.heap.size+1]?=aO #[aT []] 9:=yH;have k2:K.heap[w.heap.size+2]?=aO #[ai] 57:=yH;have Oe:=yY.ext _ _ Ji;obtain⟨b0,hb0⟩:=cg w.heap.size;cases err with
 | some k=>
  simp only[AK,a1o,a1P] at hr;obtain⟨rfl,rfl⟩:=hr;have Ji:w.heap[qb]?=aO #[aj X.pT (pp X.eb),pq X.eb 1,.func (.func X.fT) X.tf X.tc,.slice na I nc,aj 27 (zi (k:Nat))] 121:=Ji;have Oe:K.heap[qb]?=aO #[aj X.pT (pp X.eb),pq X.eb 1,.func (.func X.fT) X.tf X.tc,.slice na I nc,aj 27 (zi (k:Nat))] 121:=Oe;refine cJ Ji ?_;rw[<- rk,size_alloc,size_alloc,size_alloc];have l1:=bg k1;have l2:=bg k2;refine⟨fun w'=>w'.heap[w.heap.size]?=K.heap[w.heap.size]?/\w'.heap[qb]?=K.heap[qb]?,yH,?_⟩;refine cQ (pp qb) (fun w' hS=>by have B:=hS.1;rw[k0] at B;have:=bg B;exact fh B) ?_;rw[jx];refine cQ (pq qb 4) (fun w' hS=>eT) ?_;refine cQ (aj 27 (zi (k:Nat))) (fun w' hS=>by have B:=hS.2;rw[Oe] at B;have:=bg B;exact fh B) ?_;refine dj @k1 @k2 ?_;obtain⟨g,y⟩:=cg (bQ (bQ K.drew (w.heap.size+1) (ae #[aT []] 9 (0,0))) (w.heap.size+1+1) (ae #[aj 27 (zi (k:Nat))] 57));rw[<- y];have Xs:Ext w g:=yF;exact hR _ _ ⟨yF,J,zg,zg,ρ,⟨_,yH,Uz.mono zg yH⟩,zg⟩
 | none=>
  have Ji:w.heap[qb]?=aO #[aj X.pT (pp X.eb),pq X.eb 1,.func (.func X.fT) X.tf X.tc,.slice na I nc,ai] 121:=Ji;have Oe:K.heap[qb]?=aO #[aj X.pT (pp X.eb),pq X.eb 1,.func (.func X.fT) X.tf X.tc,.slice na I nc,ai] 121:=Oe;have hM:=L.ext (Wh J) yY;have hg:=hg J;obtain⟨cs,tv,YL,gT⟩:=L.st hM;have FL:=gT.cell;have jr:=YL.sz;have hT:X.T≠35/\X.T≠9/\X.T≠57/\X.T≠121:=by rcases YL.ty with h | h<;>rw[h]<;>decide
  obtain⟨C,hC⟩:=cg (kr (cs.setIfInBounds 1 tv) 1 ((E.sr st).fuel:Int));rw[<- hC] at FL;have hCs:C.size=cs.size:=zg;have le:=bg FL;refine cJ Ji ?_;rw[<- rk,size_alloc,size_alloc,size_alloc];have h2C:2<C.size:=zo;obtain⟨x2,rM⟩:∃ x2,C[2]?=O x2:=⟨_,Array.getElem?_eq_getElem h2C⟩;have aXg:X.eb≠qb:=zo;have aXh:X.eb≠w.heap.size:=yH;have aL0:X.eb≠w.heap.size+1:=yH;have aL1:X.eb≠w.heap.size+2:=yH;obtain⟨wF,FM⟩:=cg (bQ K X.eb (ae (kr C 1 1000000) X.T (0,0)));have ew:bQ K X.eb (ae (C.setIfInBounds 2 (zi 1000000)) X.T (0,0))=wF:=FM.symm;refine jc FL @k0 Oe ?_;rw[ew];have hZ:∀ {g:Z},bB (fun b o=>EM D b o\/b=qb\/w.heap.size<=b) w g->Lv D qb w g:=(by grind [bB.mono,bg]);have hZe:∀ {a b:Z},dc D a b->bB (fun b o=>EM D b o\/b=qb\/w.heap.size<=b) a b:=(by grind [bB.mono]);have hZx:∀ {a b:Z},Ext a b->bB (fun b o=>EM D b o\/b=qb\/w.heap.size<=b) a b:=yF;have hEF:dc D K wF:=⟨by rw[FM];rfl,by rw[FM];rfl,by rw[FM];rfl,yH,fun b o M hm=>by
   by_cases e:b=X.eb
   .subst e;rw[FL] at M;exact absurd ⟨gT.ds,_,_,_,(Option.some.inj M).symm,YL.mu⟩ hm
   exact yH⟩
  have hMF:X.Mem D ρ wF (E.fu st 1000000):=L.fuel hM FL (by grind [Hl.of,jb]) (yH);have sF:wF.heap.size=w.heap.size+3:=yH;have hDF:∀ b,wF.heap.size<=b->D b:=yH;have mq:¬ lI 121/\¬ lI 35/\¬ lI 9/\¬ lI 57:=by grind [lI]
  obtain⟨r,hx,YN⟩:∃ r,E.nx d f (E.fu st 1000000)=O r/\True:=by
   cases hx:E.nx d f (E.fu st 1000000) with
   | none=>grind [AK]
   | some r=>grind
  simp only[AK,hx] at hr;refine⟨X.fN,_,L.afn _,L.cN,?_⟩;refine a1r (L.next hMF hDF hg hc hx) ?_;rintro e w1 ⟨dF,hp⟩;have YO:dc D K w1:=yF;have s1:=dF.size;have j0:w1.heap[w.heap.size]?=aO #[pp qb] 35:=YO.bJ mq.2.1 k0;have j1:w1.heap[w.heap.size+1]?=aO #[aT []] 9:=YO.bJ mq.2.2.1 k1;have j2:w1.heap[w.heap.size+2]?=aO #[ai] 57:=YO.bJ mq.2.2.2 k2;have jq:w1.heap[qb]?=aO #[aj X.pT (pp X.eb),pq X.eb 1,.func (.func X.fT) X.tf X.tc,.slice na I nc,ai] 121:=YO.bJ mq.1 Oe;have hZ1:bB (fun b o=>EM D b o\/b=qb\/w.heap.size<=b) w w1:=yF;have aL6:fJ (fun _=>True) w1 9 (.slice na I nc) (vars.map fun s=>aT s):=Uz.mono zg (by grind [dc.bJ,bB.ext]);have lj0:=bg j0;have lj1:=bg j1;have lj2:=bg j2;have ljq:=bg jq;have Iw:∀ {g:Z} {k:Nat} {s':E.St},bB (fun b o=>EM D b o\/b=qb\/w.heap.size<=b) w g->g.heap[qb]?=aO #[aj X.pT (pp X.eb),pq X.eb 1,.func (.func X.fT) X.tf X.tc,.slice na I nc,FK (O k)] 121 ->
    Lv D qb w g/\∃ eM,EA X D eM qb vars g (O k,s'):=fun{g k s'} hf hq=>by
   refine⟨hZ hf,ρ,⟨_,hq,?_⟩,zg⟩;refine Uz.mono zg fun b cs _ M=>hf.block b _ M ?_;rintro (⟨_,_,_,_,h1,h2⟩| h | h)<;>grind
  have afs:∀ {t:jE} {ch:List PanicEntry} {W:Z} {s':E.St},gP t = .panicked ch->uR=([],t.no)->S=(O t.no,s')->bB (fun b o=>EM D b o\/b=qb\/w.heap.size<=b) w W->Od W qb w.heap.size (w.heap.size+1) (w.heap.size+1+1) (aj X.pT (pp X.eb)) (pq X.eb 1) (.func (.func X.fT) X.tf X.tc) (.slice na I nc) ai (.string (bs [])) ai ->
    LV bbC (fun g=>RD bbC (Instr.loadAt 9 (pp (w.heap.size+1))) g (fun r1=>RD bbC (Instr.loadAt 57 (pp (w.heap.size+1+1))) g
     (fun r2=>R (ah (ak #[r1,r2])) g) NX) NX) R
     [{ target:=.fn (.func 42) #[pp w.heap.size,pp (w.heap.size+1),pp (w.heap.size+1+1)],args:=#[]++#[] }] (.panicking ch) W:=by
   intro t ch W s' ht ha iU hf hB;subst ha iU;refine aLX hB t ht fun g It hz=>?_;obtain⟨zq,z0,z1,z2,-⟩:=hz;have z2':g.heap[w.heap.size+1+1]?=aO #[aj 27 (zi (t.no:Nat))] 57:=z2;refine dj @z1 @z2' ?_;obtain⟨r1,r2⟩:=Iw (s':=s') (by grind [bB.mono,bB.trans]) zq;grind
  cases r with
  | error t=>
   have hp:e=gP t:=hp;simp only[a1o,a1P] at hr;obtain⟨⟨rfl,rfl⟩,rfl⟩:=hr;obtain⟨ch,NU⟩:∃ ch,gP t = .panicked ch:=by cases t<;>exact⟨_,J⟩
   rw[hp,NU];exact afs NU J J hZ1 ⟨jq,j0,j1,j2,zo,zo,zo⟩
  | ok p=>
   obtain⟨b,k⟩:=p;obtain⟨rfl,qh,Of⟩:=hp;cases b with
   | false=>
    simp only[a1o,a1P] at hr;obtain⟨⟨rfl,rfl⟩,rfl⟩:=hr;refine dj @j0 @jq ?_;obtain⟨w2,jZ⟩:=cg (bQ w1 qb (ae #[aj X.pT (pp X.eb),pq X.eb 1,.func (.func X.fT) X.tf X.tc,.slice na I nc,aj 27 (zi 6)] 121));have QM:bQ w1 qb (ae (po #[aj X.pT (pp X.eb),pq X.eb 1,.func (.func X.fT) X.tf X.tc,.slice na I nc,ai] 4 (Value.iface 27 (zi 6)).cells.toList) 121 (0,0))=w2:=jZ.symm;rw[QM];have i0:w2.heap[w.heap.size]?=aO #[pp qb] 35:=yH;have i1:w2.heap[w.heap.size+1]?=aO #[aT []] 9:=yH;have i2:w2.heap[w.heap.size+2]?=aO #[ai] 57:=yH;have iq:w2.heap[qb]?=aO #[aj X.pT (pp X.eb),pq X.eb 1,.func (.func X.fT) X.tf X.tc,.slice na I nc,aj 27 (zi 6)] 121:=yH;have hZ2:bB (fun b o=>EM D b o\/b=qb\/w.heap.size<=b) w w2:=yF;have li0:=bg i0;have li1:=bg i1;have li2:=bg i2;clear jZ QM;refine⟨fun w'=>w'.heap[w.heap.size]?=w2.heap[w.heap.size]?/\w'.heap[qb]?=w2.heap[qb]?,yH,?_⟩;refine cQ (pp qb) (fun w' hS=>by have B:=hS.1;rw[i0] at B;have:=bg B;exact fh B) ?_;rw[jx];refine cQ (pq qb 4) (fun w' hS=>eT) ?_;refine cQ (aj 27 (zi 6)) (fun w' hS=>by have B:=hS.2;rw[iq] at B;have:=bg B;exact fh B) ?_;refine dj @i1 @i2 ?_;obtain⟨g,y⟩:=cg (bQ (bQ w2.drew (w.heap.size+1) (ae #[aT []] 9 (0,0))) (w.heap.size+1+1) (ae #[aj 27 (zi 6)] 57));rw[<- y];refine afq ?_;have z1:g.heap[w.heap.size+1]?=aO #[aT []] 9:=yH;have z2:g.heap[w.heap.size+1+1]?=aO #[aj 27 (zi 6)] 57:=yH;have zq:g.heap[qb]?=aO #[aj X.pT (pp X.eb),pq X.eb 1,.func (.func X.fT) X.tf X.tc,.slice na I nc,FK (O 6)] 121:=by rw[y,jb zo,jb zo];exact iq
    have YP:bB (fun b o=>EM D b o\/b=qb\/w.heap.size<=b) w g:=by
     rw[y];exact((hZ2.drew).bQ (.inl fun _=>.inr (.inr zo))).bQ (.inl fun _=>.inr (.inr zo))
    clear y;refine dj @z1 @z2 ?_;obtain⟨r1,r2⟩:=Iw (s':=k) YP zq;exact hR _ _ ⟨r1,J,zg,zg,r2⟩
   | true=>
    have Of:X.Mem D qh w1 k:=Of;dsimp only at hr;refine dj @j0 @jq ?_;obtain⟨wW,hwW⟩:=cg (w1.alloc (ae #[aq V,bW,pq X.eb 1,.map V] 103));rw[<- hwW];have hEW:Ext w1 wW:=yF;have rW:wW.heap[w1.heap.size]?=aO #[aq V,bW,pq X.eb 1,.map V] 103:=yH;clear hwW;have hMW:=L.ext Of hEW;refine⟨L.cT,?_⟩;refine a1r (L.told hMW ⟨c+1,0,(L.EV hg hc gT.ok hx).2 0⟩) ?_;rintro e w3 ⟨eH,gH⟩;have N:Ext w1 w3:=yF;have hZ3:=hZ1.trans (hZx N);cases ht:E.told k with
    | error t=>
     rw[ht] at gH hr;have gH:e=gP t:=gH;simp only[a1o,a1P] at hr;obtain⟨⟨rfl,rfl⟩,rfl⟩:=hr;obtain⟨ch,NU⟩:∃ ch,gP t = .panicked ch:=by cases t<;>exact⟨_,J⟩
     rw[gH,NU];exact afs NU J J hZ3 ⟨N.ext _ _ jq,N.ext _ _ j0,N.ext _ _ j1,N.ext _ _ j2,zo,zo,zo⟩
    | ok l=>
     rw[ht] at gH hr;obtain⟨v,us,rfl,og,kU⟩:=gH;simp only at hr;obtain⟨r0,Iv⟩:∃ r0,Nw (E.sr k).tr d vars l ⟨(E.sr k).fuel,[],[]⟩=O r0:=by
      grind
     rw[Iv] at hr;obtain⟨ta,aXr,rfl⟩:=og.sl;have uO:us.length=vars.length:=by rw[kU.length,hlen k l ht]
     obtain⟨hfu,api⟩:=L.EV hg hc gT.ok hx;have Og:jt l:=L.afm (api 0) ((L.afl k 0).trans ht);obtain⟨zj,Lb,afu,UA⟩:=L.st Of;have apF:=UA.ext N;obtain⟨C1,hC1⟩:=cg (zj.setIfInBounds 1 Lb);have afv:=apF.cell;rw[<- hC1] at afv;have aXs:C1.size=zj.size:=zg;have aB2:=afu.sz;have hTw:X.T≠103/\X.T≠5/\X.T≠180/\X.T≠89/\X.T≠91:=by rcases afu.ty with h | h<;>rw[h]<;>decide
     have hgp:4<w.heap.size:=yH;have aXt:X.eb<w1.heap.size:=zo;have QT:ya (E.sr k).tr w1.heap.size X.eb 1 X.T C1:=⟨UA.ok,zo,zo,zo,(by grind [gO.ds]),hTw.2.1,hTw.2.2⟩;have hP3:lZ w3:=hP.bJ fun o x=>by
      refine hZ3.block _ o x ?_;rintro (⟨h,_⟩| h | h)<;>grind
     have Hn:ma qh (E.nv k) (E.sr k).tr w1.heap.size X.eb 1 X.T C1 (.map V) w3 ⟨(E.sr k).fuel,[],[]⟩:=
      ⟨apF.sv,⟨aq V,bW,yH,eH.ext _ _ rW,World.ownsRow_nil _ _ _ _⟩,.inl ⟨J,J⟩,afv,hP3,zg⟩
     have i0:=N.ext _ _ j0;have i1:=N.ext _ _ j1;have i2:=N.ext _ _ j2;have iq:=N.ext _ _ jq;have F:∀ {w4:Z} {b:Nat} {o:Obj},ng w1.heap.size X.eb w3 w4->b<w1.heap.size->b≠X.eb->w3.heap[b]?=O o->w4.heap[b]?=O o:=fun h M ee x=>h.block _ _ x (by rintro (e | e | ⟨e,_⟩)<;>omega);have aXu:l.length=vars.length:=zg;have hZw:∀ {w4:Z},ng w1.heap.size X.eb w3 w4->bB (fun b o=>EM D b o\/b=qb\/w.heap.size<=b) w w4:=fun h=>hZ3.trans (bB.mono h fun b o M hm=>by
      rcases hm with e | e | ⟨e,_⟩
      .exact yH
      .subst e;rw[afv] at M;exact .inl ⟨UA.ds,_,_,_,(Option.some.inj M).symm,afu.mu⟩
      exact yH)
     have aMc:=KC UA.ok;refine bH ?_;rw[uO];refine⟨fun m z w4=>∃ (j:Nat) (i:Ws),z 49=zi (j:Nat)/\j<=vars.length/\m=vars.length-j/\G7 qh (E.nv k) (E.sr k).tr w1.heap.size X.eb 1 X.T C1 w4 i/\ng w1.heap.size X.eb w3 w4 /\
       Nw (E.sr k).tr d (vars.drop j) (l.drop j) i=O r0/\i.cV<=60000000+4000*j/\i.seen.length<=i.out.length,
      ⟨_,0,_,J,Nat.zero_le _,J,⟨_,Hn⟩,bB.refl _ _,Iv,by grind [Ws.cV],Nat.le_refl _⟩,?_⟩
     intro m z dd w4 hI;clear dd;refine toPr ?_;obtain⟨j,i,QU,hj,rfl,⟨nmj,Oh⟩,P,Q,aou,K7⟩:=hI;have p0:=F P zo zo i0;have p1:=F P zo zo i1;have p2:=F P zo zo i2;have pqz:=F P zo zo iq;have lp0:=bg p0;have lpq:=bg pqz;have s4:=P.size;have hkT:∀ {b:Nat} {cs:Array Y} {U:Nat},U≠5->U≠103->U≠X.T->w3.heap[b]?=aO cs U->w4.heap[b]?=aO cs U:=fun{b cs U} u1 u2 u3 x=>P.block _ _ x (by
      rintro (e | e | ⟨_,⟨cs',z',e⟩| ⟨_,_,e⟩⟩)
      .rw[e,eH.ext _ _ rW] at x;injection x with x;injection x with _ x _;exact u2 x.symm
      .grind
      .grind
      grind)
     by_cases hlt:j<vars.length
     .have aMd:j<us.length:=zo;have afA:j<l.length:=zo;obtain⟨tb,tcs,e1,-,e3,e4⟩:=og.at' (j:=j) aMd;obtain⟨u,e5,hu⟩:=kU.at j afA;rw[e5] at e4;rw[uO] at e1;simp only[Value.slice.injEq,true_and] at e1;obtain⟨rfl,rfl⟩:=e1;have YQ:=hkT zd zd (fun e=>hTw.2.2.2.1 e.symm) e3;obtain⟨nb,xx,n1,-,n3,n4⟩:=aL6.at' (j:=j) zg;have n4:xx[j]?=O (aT (vars[j])):=by rw[n4,List.getElem?_map,List.getElem?_eq_getElem hlt];rfl
      rw[List.length_map] at n1;simp only[Value.slice.injEq] at n1;obtain⟨rfl,rfl,rfl⟩:=n1;have n3':=hkT zo zo zo (N.ext _ _ n3);have j6:(j:Int).toNat=j:=zo;have C4:(j:Int)<(vars.length:Nat):=zo;obtain⟨tvv,xvv,N2⟩:=hu.iface;rw[N2] at e4;obtain⟨Ah,Dy⟩:=mT vars[j] (List.getElem_mem hlt);rw[a1y hlt,a1y afA,Nw] at Q;obtain⟨c0,nr,YR⟩:∃ c0 nr,vars[j]=c0::nr:=by
       cases hx:vars[j] with
       | nil=>grind
       | cons c0 nr=>grind
      by_cases h95:c0=95
      .subst h95;rw[YR,List.head?_cons,zip rfl] at Q;rw[YR] at n4;refine dB QU @YQ @e4 (zA @p0 (zA @pqz (zA @n3' (zA @n4 @j6)))) ?_;have e95:(((((95:UInt8)::nr).getD 0 0).toNat:Nat):Int)=95:=rfl;refine dj @e95 QU ?_;exact⟨vars.length-(j+1),zo,j+1,i,zs,zo,J,⟨nmj,Oh⟩,P,Q,zo,K7⟩
      .rw[YR,List.head?_cons,bM zg] at Q;rw[YR] at n4;have e95:¬ (((((c0:UInt8)::nr).getD 0 0).toNat:Nat):Int)=95:=by
        simp only[List.getD_cons_zero];intro h;apply h95;have:c0.toNat=95:=zo;exact UInt8.toNat_inj.1 this
       obtain⟨s1,dX⟩:=cg (if i.out=[] then i else i.add [44,32]);rw[<- dX] at Q;have aov:i.cV=i.out.length+60*i.fuel:=rfl;have aXy:s1.cV<=i.cV+2/\s1.seen.length<=s1.out.length:=by
        rw[dX];split
        .omega
        .exact⟨by rw[Ws.pE];simp,oU K7⟩
       refine dB QU @YQ @e4 (zA @p0 (zA @pqz (zA @n3' (zA @n4 @j6)))) ?_;refine⟨fun _ w5=>G7 qh (E.nv k) (E.sr k).tr w1.heap.size X.eb 1 X.T C1 w5 s1/\ng w1.heap.size X.eb w3 w5,?_,?_⟩
       .refine bH ?_;refine a1r (apw Oh.bu) ?_;rintro e w5 ⟨rfl,rfl⟩;by_cases h0:i.out=[]
        .rw[zip h0] at dX;have vJ:¬ (0:Int)<(i.out.length:Int):=zg;refine cJ vJ ?_;exact⟨⟨nmj,yH⟩,P⟩
        .rw[bM h0] at dX;have vJ:(0:Int)<(i.out.length:Int):=by grind [List.length_pos_iff]
         refine cJ vJ ?_;refine a1r (G8 Oh QT [44,32] (by simp;omega)) ?_;rintro e w6 ⟨⟨ve,rfl⟩,pH,CY⟩;exact⟨⟨nmj,yH⟩,P.trans CY⟩
       .rintro s5 w5 ⟨⟨NV,nE⟩,iP⟩ d5;clear d5;have p05:=F iP zo zo i0;have pq5:=F iP zo zo iq;have aMj:∀ {b:Nat} {cs:Array Y} {U:Nat},U≠5->U≠103->U≠X.T->w3.heap[b]?=aO cs U->w5.heap[b]?=aO cs U:=fun{b cs U} u1 u2 u3 x=>iP.block _ _ x (by
         rintro (e | e | ⟨_,⟨cs',z',e⟩| ⟨_,_,e⟩⟩)
         .rw[e,eH.ext _ _ rW] at x;injection x with x;injection x with _ x _;exact u2 x.symm
         .grind
         .grind
         grind)
        have n35:=aMj zo zo zo (N.ext _ _ n3);obtain⟨s2,mG⟩:=cg (s1.add (c0::nr++[32,61,32]));rw[<- mG] at Q;have xQ:(c0::nr).length<=3000:=zg;have apM:s2.cV<=s1.cV+3003/\s2.seen.length<=s2.out.length:=by
         grind [oU,Ws.pE,List.length_append,a1x,a1L]
        have aXz:s1.cV=s1.out.length+60*s1.fuel:=rfl;refine⟨fun _ w6=>G7 qh (E.nv k) (E.sr k).tr w1.heap.size X.eb 1 X.T C1 w6 s2/\ng w1.heap.size X.eb w3 w6,?_,?_⟩
        .refine dB QU @p05 @pq5 (zA @n35 (zA @n4 @j6)) ?_;rw[B9 _ _ (by grind [a1x,a1L])];refine a1r (G8 (nE.ext (bB.drew yF)) QT (c0::nr++[32,61,32]) (by grind [List.length_append,a1x,a1L])) ?_;rintro e w6 ⟨⟨ve,rfl⟩,pH,CY⟩;exact⟨⟨NV,yH⟩,iP.trans ((bB.drew yF).trans CY)⟩
        .rintro s6 w6 ⟨⟨nm6,pH⟩,CY⟩ d6;clear d6;obtain⟨r1,pk⟩:∃ r1,lB (E.sr k).tr d l[j] 0 s2=O r1:=by
          cases hy:lB (E.sr k).tr d l[j] 0 s2 with
          | none=>rw[hy] at Q;cases Q
          | some r1=>grind
         rw[pk] at Q;have htj:eA l[j]:=I4 Og afA;have YS:dK qh (E.nv k) w6 (aj tvv xvv) l[j]:=by
          rw[<- N2];exact hu.bJ (Hn.kv QT CY).toT
         refine a1r ((cw d).tm (least:=0) QT ⟨nm6,pH⟩ YS htj zo apM.2 pk) ?_;rintro e w7 ⟨Bt,mW⟩;have aMl:=CY.trans Bt;cases r1 with
         | none=>
          obtain⟨rfl,-,-⟩:=mW;have Q:O V=O r0:=Q;cases Q;simp only[a1o,a1P] at hr;obtain⟨⟨rfl,rfl⟩,rfl⟩:=hr;have hq7:Od w7 qb w.heap.size (w.heap.size+1) (w.heap.size+1+1) (aj X.pT (pp X.eb)) (pq X.eb 1) (.func (.func X.fT) X.tf X.tc) (.slice (O ⟨nb,0,V⟩) vars.length xx.size) ai (.string (bs [])) ai:=
           ⟨yH,yH,yH,yH,zo,zo,zo⟩
          exact afs (t:=.DZ) (s':=k) J J J yH hq7
         | some s7=>
          obtain⟨rfl,Yy⟩:=mW;refine cJ QU ?_;obtain⟨g1,g2⟩:=(aMc d).tm _ _ _ _ htj zo apM.2 pk;exact⟨vars.length-(j+1),zo,j+1,s7,zs,zo,J,Yy,aMl,Q,zo,g2⟩
     .have fp:j=vars.length:=zo;subst fp;have Iv:r0=O i:=by
       rw[List.drop_of_length_le (Nat.le_refl _),Nw] at Q<;>grind
      subst Iv;simp only[a1o,a1P] at hr;obtain⟨⟨rfl,rfl⟩,rfl⟩:=hr;have Hj:=F P zo zo i1;have Lq:=F P zo zo i2;have lp1:=bg p1;have lp2:=bg p2;have hZ4:=hZw P;have KL:∀ {W g:Z} (tx:Bs),ng w1.heap.size X.eb w3 W->W.heap[X.eb]?=aO (kr C1 1 i.fuel) X.T->g=bQ (bQ W (w.heap.size+1) (ae #[aT tx] 9)) (w.heap.size+1+1) (ae #[ai] 57) ->
        g.heap[w.heap.size+1]?=aO #[aT tx] 9/\g.heap[w.heap.size+1+1]?=aO #[ai] 57/\Lv D qb w g/\∃ eM,EA X D eM qb vars g (V,E.fu k i.fuel):=by
       intro W g tx QV hcx y;have x1:=F QV zo zo i1;have x2:=F QV zo zo i2;have xq:=F QV zo zo iq;have lx1:=bg x1;have lx2:=bg x2;have x:∀ b,b≠w.heap.size+1->b≠w.heap.size+1+1->g.heap[b]?=W.heap[b]?:=fun b h1 h2=>by rw[y,jb h2,jb h1]
       have z1:g.heap[w.heap.size+1]?=aO #[aT tx] 9:=by rw[y,jb zo];exact yH
       have z2:g.heap[w.heap.size+1+1]?=aO #[ai] 57:=yH;have YP:bB (fun b o=>EM D b o\/b=qb\/w.heap.size<=b) w g:=by
        rw[y];exact((hZw QV).bQ (.inl fun _=>.inr (.inr zo))).bQ yH
       have zq:g.heap[qb]?=aO (YK X (.slice na I nc) V) 121:=by rw[x _ zo zo];grind
       have rq:Hl X.eb w1 g:=by
        refine⟨fun b cs U M u1 u2 eZ=>?_,fun b es c M eZ=>?_⟩
        .have py:=bg eZ;rw[x b (fun e=>by rw[e,j1] at eZ;injection eZ with eZ;injection eZ with _ eZ _;exact u1 eZ.symm) (fun e=>by rw[e,j2] at eZ;injection eZ with eZ;injection eZ with _ eZ _;exact u2 eZ.symm)];exact F QV py M (N.ext _ _ eZ)
        .have py:=bg eZ;rw[x b (fun e=>by rw[e,j1] at eZ;cases eZ) (fun e=>by rw[e,j2] at eZ;cases eZ)];exact F QV py M (N.ext _ _ eZ)
       have hcz:g.heap[X.eb]?=aO (kr (kr C1 1 ((E.sr k).fuel:Int)) 1 (i.fuel:Nat)) X.T:=by
        rw[x _ aL0 aL1,hcx];have e1:kr (kr C1 1 ((E.sr k).fuel:Int)) 1 (i.fuel:Int)=kr C1 1 (i.fuel:Int):=by
         unfold kr;rw[a4w]
        grind
       have jz:=UA.cell;rw[<- hC1] at jz;have hMz:=L.fuel Of jz rq hcz;have hnz:fJ (fun _=>True) g 9 (.slice na I nc) (vars.map fun s=>aT s):=Uz.mono zg fun b cs _ M=>YP.block b _ M (by
        rintro (⟨_,_,_,_,h1,h2⟩| h | h)<;>grind)
       exact⟨z1,z2,hZ YP,qh,yH,zg⟩
      refine cJ QU ?_;refine a1r (apw Oh.bu) ?_;rintro e w5 ⟨rfl,rfl⟩;by_cases h0:i.out=[]
      .have vJ:(i.out.length:Int)=0:=zg;refine jc vJ @p1 @p2 ?_;obtain⟨g,y⟩:=cg (bQ (bQ w5 (w.heap.size+1) (ae #[aT [116,114,117,101]] 9 (0,0))) (w.heap.size+1+1) (ae #[ai] 57));obtain⟨z1,z2,z3,z4⟩:=KL _ P Oh.fu y;rw[<- y];refine afq ?_;refine dj @z1 @z2 ?_;grind
      .have vJ:¬ (i.out.length:Int)=0:=by grind [List.length_pos_iff]
       refine cJ vJ ?_;refine a1r (an9 Oh.bu h0) ?_;rintro e w6 ⟨rfl,CY⟩;have afC:=P.trans (CY.toW X.eb);have p16:=F afC zo zo i1;have p26:=F afC zo zo i2;refine dj @p16 @p26 ?_;obtain⟨g,y⟩:=cg (bQ (bQ w6 (w.heap.size+1) (ae #[aT i.out] 9)) (w.heap.size+1+1) (ae #[ai] 57));obtain⟨z1,z2,z3,z4⟩:=KL _ afC (CY.block _ _ Oh.fu (by
        rintro (h | ⟨_,_,_,h⟩)<;>grind)) y
       rw[<- y];refine afq ?_;refine dj @z1 @z2 ?_;grind
def Hl.toI(h:Hl pb w w'){C:Array Y}{T:Nat}(d:lI T)(f:w.heap[pb]?=aO C T):eO w w':=fun b cs U a c=>
 h.1 b cs U (fun e=>by rw[e,f] at c;cases c;exact a (.inl d)) (fun e=>a (.inr (.inl e))) (fun e=>a (.inr zg)) c
theorem afD(h:Hl pb w w'){size:Nat}(a:w.ownsRow base e size v n xs)(c:v.ownBlock≠O pb)(d:e≠9)(f:e≠57):w'.ownsRow base e size v n xs:=by
 refine⟨a.1,?_⟩;rcases a.2 with k | ⟨b,cap,cur,rfl,g,i,j⟩
 .exact yH
 .exact .inr ⟨b,cap,cur,J,g,h.1 _ _ _ (fun e=>c (by rw[<- e];rfl)) d f i,j⟩
def gO.apO{T:Nat}{s:Sr}(h:gO D ρ n pb so T cs tv w s)(a:vF so T cs)(hk:Hl pb w w'){C:Array Y}
  (g:w.heap[pb]?=aO C T) (i:w'.heap[pb]?=aO (kr C so (f:Int)) T):gO D ρ n pb so T cs tv w' { s with fuel:=f }:=by
 have j:T≠87/\T≠91/\T≠180/\T≠89:=by rcases a.ty with h | h<;>subst h<;>decide
 have hC:C=kr (cs.setIfInBounds so tv) so s.fuel:=by
  have:=h.cell;grind
 refine⟨h.sv.bJ fun b c t ht d=>hk.1 b c t (fun e=>?_) zo zo d,h.dv,?_,(by grind [afD,row,X7]),h.dr,h.ds,h.nd,h.lt,h.ok⟩
 .grind
 grind [a4w]
structure WkQ(base:List Cl)(nv wb mb xb:Nat)(vv:Y)(D:Nat->Prop)(ρ:Nat->Nat)(w:Z)(k:Wk):Prop where
 wk:Qt D ρ wb mb vv w k
 bs:BM w mb base
 vr:fJ (fun _=>True) w 89 vv (ni ρ (List.range nv))
 nv:nv<=k.n
 bx:w.heap[xb]?=aO #[pp wb] 122
def wkX(base:List Cl)(M nv wb mb xb:Nat)(vv:Y):Ez (KM base nv) where
 T:=130
 pT:=122
 fN:=223
 fT:=40
 eb:=wb
 tf:=#[]
 tc:=#[pp xb]
 Mem D ρ w k:=WkQ base nv wb mb xb vv D ρ w k
 Good c k:=lW M (c*1000000) { k with sr:={ k.sr with fuel:=0 } }/\lH k.sr
theorem afF{ρ:Nat->Nat}{n:Nat}{w:Z}:∀ {l:List Nat},(∀ i∈l,i<n)->qe ρ n w (ni ρ l) (l.map .var)
 | [],_=>by unfold qe iG;rfl
 | i::l,h=>by
  unfold qe iG;refine⟨_,_,J,?_,afF zg⟩;unfold dI;exact⟨h i (List.mem_cons_self ..),J⟩
theorem P.afG:∀ (l:List Nat),jt (l.map .var)
 | []=>by unfold jt;trivial
 | i::l=>by unfold jt;exact⟨amV,P.afG l⟩
theorem aMt(base:List Cl)(M nv wb mb xb:Nat)(vv:Y)(gN:∀ c∈base,y8 M c)(hM:M<=100000):Jh (wkX base M nv wb mb xb vv) where
 st:=by
  rintro D ρ w s ⟨⟨todo,av,tv,di,h⟩,-⟩;exact⟨_,tv,FH,h.st⟩
 ext:=by
  rintro D ρ w w' s ⟨⟨todo,av,tv,di,h⟩,h2,h3,h4,h5⟩ hE;exact⟨⟨_,_,_,_,h.ext hE⟩,(by grind [eO.ed,BM.bJ,bB.ext]),h3.mono zg (by grind [bB.ext]),h4,hE.ext _ _ h5⟩
 fuel:=by
  rintro D ρ w w' s C f ⟨⟨todo,av,tv,di,h⟩,h2,h3,h4,h5⟩ hc hk oy;have hI:eO w w':=hk.toI (T:=130) (by grind [lI]) hc;have gx:av.ownBlock≠O wb:=fun e=>by
   obtain⟨cs,h1⟩:=h.Ep e;have hc:w.heap[wb]?=aO C 130:=hc;grind
  refine⟨⟨todo,av,tv,di,h.st.apO FH hk hc oy,h.td.bJ hI (eu.refl _ _),afD hk h.ar gx zo zo,h.ag.bJ hI (eu.refl _ _),h.da⟩,
   h2.bJ hI fun es c hm=>hk.2 _ es c (fun e=>?_) hm,h3.iX hI (yM),h4,hI _ _ _ (yM) h5⟩
  grind
 apx:=fun s f=>rfl
 afl:=fun s f=>rfl
 next:=by
  rintro D ρ w s c d f r ⟨h1,h2,h3,h4,h5⟩ hD ⟨hg,hs⟩ hc hr;have jA:lW M (c*1000000+1000000) { s with sr:={ s.sr with fuel:=1000000 } }:=by
   have g1:s.sr.tr.length+0<=c*1000000:=hg.cV;have g2:s.bw.length+0<=c*1000000:=hg.nN;exact⟨⟨hg.todo,hg.ag,hg.marks,hg.mono⟩,by show s.sr.tr.length+1000000<=_;omega,zg⟩
  have hr:kq base d f A { s with sr:={ s.sr with fuel:=1000000 } }=O r:=hr;refine(aLp h1 hD h2 gN hM zo jA hr).mono ?_;rintro e w' ⟨hE,hp⟩;refine⟨hE,?_⟩;cases r with
  | error t=>omega
  | ok p=>
   obtain⟨rfl,eM,hu,hm⟩:=hp;have hI:=dc.toI hE;refine⟨J,eM,hm,h2.fr hE,?_,Nat.le_trans h4 hu.1,(by grind [lI,dc.bJ])⟩;rw[aoI hu (fun i hi=>Nat.lt_of_lt_of_le (List.mem_range.1 hi) h4)];exact h3.iX hI (yM)
 EV:=by
  rintro s c d f k ⟨hg,hs⟩ hc-hr;have jA:lW M (c*1000000+1000000) { s with sr:={ s.sr with fuel:=1000000 } }:=by
   have g1:s.sr.tr.length+0<=c*1000000:=hg.cV;have g2:s.bw.length+0<=c*1000000:=hg.nN;exact⟨⟨hg.todo,hg.ag,hg.marks,hg.mono⟩,by show s.sr.tr.length+1000000<=_;omega,zg⟩
  have hr:kq base d f A { s with sr:={ s.sr with fuel:=1000000 } }=O (.ok (A,k)):=hr;obtain⟨h1,h2,h3,h4⟩:=XF gN f A { s with sr:={ s.sr with fuel:=1000000 } } _ jA ⟨hs.Fq,hs.ok⟩ hr;refine⟨h4,fun f'=>⟨?_,h2.Fq,h2.ok⟩⟩;have g1:k.sr.tr.length+k.sr.fuel<=c*1000000+1000000:=h1.cV;have g2:k.bw.length+k.sr.fuel<=c*1000000+1000000:=h1.nN;exact⟨⟨h1.todo,h1.ag,h1.marks,h1.mono⟩,by show k.sr.tr.length+0<=(c+1)*1000000;omega,by show k.bw.length+0<=(c+1)*1000000;omega⟩
 told:=by
  rintro D ρ w s ⟨⟨todo,av,tv,di,h⟩,h2,h3,h4,h5⟩ -;have hc:=h.cell;obtain⟨va,vc,wX⟩:=h3.sl;show Calls bbC 40 #[pp xb] w _;refine aLM ?_;rw[wX] at hc;refine dj h5 hc ?_;refine⟨yF,_,_,J,zg,afF fun i hi=>Nat.lt_of_lt_of_le (List.mem_range.1 hi) h4⟩
 afm:=by
  rintro s c l-h;have h:Except.ok ((List.range nv).map Tm.var)=Except.ok l:=h;grind [P.afG]
 afn:=fun w=>by
  show(method (Tryz.prog.types.size+Made.depth) 122 (pp wb) "Next").run bbC w = .ok (223,pp wb) w
  kernel_rfl
 cN:=by show zR bbC 223=A;kernel_rfl
 cT:=by show zR bbC 40=A;kernel_rfl
open Go.Extern.Stop Go.Stop Go.Extern
def aMu(t:Addr)(w:Z):(ReflectliteValue.unpack (aj 78 (aq (O t)))).run bbC w
 = .ok (.agg #[pq 12 78,pp w.heap.size,.int .u64 150]) (w.alloc (ae #[aq (O t)] 78)):=zk
def aMv(a:Addr)(w:Z):(ReflectliteValue.methodAny (ReflectliteValue.valueError "reflectlite.Value.Type" 0) (fun t _ _ _=>ReflectliteType.toType t) #[.agg #[pq 12 78,aq (O a),.int .u64 150]]).run bbC w
 = .ok (aj 219 (.agg #[pq 12 78])) w:=zk
def aMw(w:Z):((ReflectliteType.abiMethod fun t=>Functor.map (fun a:Nat=>Value.int IntKind.u8 (a:Int)) (Rtype.kind t)) #[pq 12 78]).run bbC w = .ok (.int .u8 22) w:=zk
def aMx(w:Z):((ReflectliteType.abiMethod fun t=>Functor.map (fun a:Nat=>Value.int IntKind.u8 (a:Int)) (Rtype.kind t)) #[pq 12 27]).run bbC w = .ok (.int .u8 2) w:=zk
def apP(a:Addr)(w:Z):(ReflectliteValue.parts (.agg #[pq 12 78,aq (O a),.int .u64 150])).run bbC w = .ok (O (78,a,150)) w:=zk
def aMy(a p:Addr)(W:Z)(b:W.cell? a=O (aq (O p))) :
  (ReflectliteValue.method (ReflectliteValue.valueError "reflectlite.Value.IsNil" 0) ReflectliteValue.isNil #[.agg #[pq 12 78,aq (O a),.int .u64 150]]).run bbC W = .ok (.bool G) W:=by
 rw[Xy];simp only[a1C,apP,a2n];simp [ReflectliteValue.isNil,loadVar,isAgg,underlying,underlying78,b,a2n]
def aMz(w:Z):(ReflectliteType.method ReflectliteType.elem #[.agg #[pq 12 78]]).run bbC w = .ok (aj 219 (.agg #[pq 12 27])) w:=zk
def aMA(w:Z):(ReflectliteType.relation "Implements" ReflectliteType.implements_ #[.agg #[pq 12 27],aj 219 (.agg #[pq 12 57])]).run bbC w = .ok (.bool A) w:=zk
def apQ(v:Y)(w:Z):(ReflectliteType.typeOf #[aj 27 v]).run bbC w = .ok (aj 219 (.agg #[pq 12 27])) w:=zk
def aMB(w:Z):(ReflectliteType.relation "AssignableTo" ReflectliteType.assignableTo #[.agg #[pq 12 27],aj 219 (.agg #[pq 12 27])]).run bbC w = .ok (.bool A) w:=zk
def aMC(e:Int)(w:Z):(ReflectliteValue.unpack (aj 27 (zi e))).run bbC w
 = .ok (.agg #[pq 12 27,pp w.heap.size,.int .u64 130]) (w.alloc (ae #[zi e] 27)):=zk
def aMD(w:Z):(Rtype.elem? 78).run bbC w = .ok (O 27) w:=zk
def aME(p:Addr)(w:Z):(ReflectliteValue.mk 27 p ReflectliteValue.flagAddr).run bbC w = .ok (.agg #[pq 12 27,aq (O p),.int .u64 386]) w:=zk
def aMF(a p:Addr)(W:Z)(b:W.cell? a=O (aq (O p))) :
  (ReflectliteValue.method (ReflectliteValue.valueError "reflectlite.Value.Elem" 0) ReflectliteValue.elem #[.agg #[pq 12 78,aq (O a),.int .u64 150]]).run bbC W
   = .ok (.agg #[pq 12 27,aq (O p),.int .u64 386]) W:=by
 rw[Xy];simp only[a1C,apP,a2n];simp [ReflectliteValue.elem,loadVar,isAgg,underlying,underlying78,b,a2n,aMD,aME]
def aMG(a:Addr)(w:Z):(ReflectliteValue.parts (.agg #[pq 12 27,aq (O a),.int .u64 386])).run bbC w = .ok (O (27,a,386)) w:=zk
def aMH(a:Addr)(w:Z):(ReflectliteValue.parts (.agg #[pq 12 27,aq (O a),.int .u64 130])).run bbC w = .ok (O (27,a,130)) w:=zk
def aMI(w:Z):(Rtype.directlyAssignable 27 27).run bbC w = .ok A w:=zk
def aMJ(a b:Addr)(e:Int)(c:Y)(W:Z)(d:W.cell? b=O (zi e))(ht:W.cell? a=O c)(f:W.frozen? a=G) :
  (ReflectliteValue.set #[.agg #[pq 12 27,aq (O a),.int .u64 386],.agg #[pq 12 27,aq (O b),.int .u64 130]]).run bbC W
   = .ok (ak #[]) (W.setCell a (zi e)):=by
 rw[amu];simp only[a1C,aMG,aMH,a2n];simp [ReflectliteValue.flagAddr,loadVar,isAgg,underlying,underlying27,d,a2n,aMI,storeVar,Value.cells,storeCells,Addr.add];rw[run_store bbC W a _ _ (by rfl)];grind
def aMK(e:Int)(t:Addr)(Ff:Y)(w:Z)(hg:w.cell? ⟨0,0,V⟩=O (aj 219 (.agg #[pq 12 57])))(KE:w.cell? t=O Ff)(GC:w.frozen? t=G) :
  Calls bbC 29 #[aj 27 (zi e),aj 78 (aq (O t))] w fun ev w'=>ev = ah (.bool A)/\w'=((((w.alloc (ae #[aq (O t)] 78)).alloc (ae #[pq 12 78,pp w.heap.size,.int .u64 150] 158)).alloc (ae #[pq 12 78,pp w.heap.size,.int .u64 150] 158)).alloc (ae #[zi e] 27)).setCell t (zi e):=by
 have h6:=@run_callFunc_extern bbC 54 _ (fun args=>ReflectliteValue.unpack (args.getD 0 (ak #[]))) func54 zk zk zk zk;have h7:=@run_callFunc_extern bbC 55 _ (ReflectliteValue.methodAny (ReflectliteValue.valueError "reflectlite.Value.Type" 0) (fun t _ _ _=>ReflectliteType.toType t)) func55 zk zk zk zk;have h8:=@run_callFunc_extern bbC 56 _ (ReflectliteValue.method (ReflectliteValue.valueError "reflectlite.Value.IsNil" 0) ReflectliteValue.isNil) func56 zk zk zk zk;have GU:=@run_callFunc_extern bbC 196 _ (ReflectliteType.abiMethod fun t=>do pure (.int .u8 (<- Rtype.kind t))) func196 zk zk zk zk;have h37:=@run_callFunc_extern bbC 238 _ (ReflectliteType.method ReflectliteType.elem) func238 zk zk zk zk;have h38:=@run_callFunc_extern bbC 239 _ (ReflectliteType.relation "Implements" ReflectliteType.implements_) func239 zk zk zk zk;have rQ:=@run_callFunc_extern bbC 87 _ ReflectliteType.typeOf func87 zk zk zk zk;have y3:=@run_callFunc_extern bbC 236 _ (ReflectliteType.relation "AssignableTo" ReflectliteType.assignableTo) func236 zk zk zk zk;have qK:=@run_callFunc_extern bbC 88 _ (ReflectliteValue.method (ReflectliteValue.valueError "reflectlite.Value.Elem" 0) ReflectliteValue.elem) func88 zk zk zk zk;have nX:=@run_callFunc_extern bbC 89 _ ReflectliteValue.set func89 zk zk zk zk;have tO:=apQ;have mA:=adp;have a25:=aMB;have v25:=aMC;have f6:=aMu;have f7:=aMv;have mK:=adm;have mE:=adn;have mI:=ado;have k27:=aMw;have k25:=aMx;have e27:=aMz;have i25:=aMA;have n8:=aMy ⟨w.heap.size,0,V⟩ t ((w.alloc (ae #[aq (O t)] 78)).alloc (ae #[pq 12 78,pp w.heap.size,.int .u64 150] 158)) zs;have hlt:0<w.heap.size:=by
  grind [Nat.eq_zero_or_pos,a19]
 have jO:((w.alloc (ae #[aq (O t)] 78)).alloc (ae #[pq 12 78,pp w.heap.size,.int .u64 150] 158)).cell? ⟨0,0,V⟩=O (aj 219 (.agg #[pq 12 57])):=by
  rw[a18 _ _ ⟨0,0,V⟩ zs,a18 _ _ ⟨0,0,V⟩ hlt];exact hg
 have tM:t.block<w.heap.size:=by
  grind [Nat.lt_or_ge,a19,a3Q]
 have el:=aMF ⟨w.heap.size,0,V⟩ t (((w.alloc (ae #[aq (O t)] 78)).alloc (ae #[pq 12 78,pp w.heap.size,.int .u64 150] 158)).alloc (ae #[pq 12 78,pp w.heap.size,.int .u64 150] 158)) (by rw[a18 _ _ ⟨w.heap.size,0,V⟩ (by simp;omega)];simp);have st:=aMJ t ⟨w.heap.size+1+1+1,0,V⟩ e Ff ((((w.alloc (ae #[aq (O t)] 78)).alloc (ae #[pq 12 78,pp w.heap.size,.int .u64 150] 158)).alloc (ae #[pq 12 78,pp w.heap.size,.int .u64 150] 158)).alloc (ae #[zi e] 27))
  (by rw[World.cell?_alloc_at _ _ _ _ zs];rfl)
  (by rw[a18 _ _ t (by simp;omega),a18 _ _ t (by simp;omega),a18 _ _ t (by simp;omega),a18 _ _ t tM];exact KE)
  (by rw[a2w _ _ t (by simp;omega),a2w _ _ t (by simp;omega),a2w _ _ t (by simp;omega),a2w _ _ t (Nat.ne_of_lt tM)];exact GC)
 go_enter func29,ntmps29
 go_wp2
 refine wp_loop_rounds 1 ?_;rw[rounds_succ]
 go_wp2
 go_ret
 exact⟨J,J⟩
def aML(w:Z):(ReflectliteType.relation "AssignableTo" ReflectliteType.assignableTo #[.agg #[pq 12 27],aj 219 (.agg #[pq 12 73])]).run bbC w = .ok (.bool G) w:=zk
def aMM(v:Y)(a:TypeId)(w:Z):(a1J (aj 27 v) a 224 A).run bbC w = .ok (ak #[ai,.bool G]) w:=run_typeAssert_lacksB underlying224 zk zk v a w
def aMN(v:Y)(a:TypeId)(w:Z):(a1J (aj 27 v) a 227 A).run bbC w = .ok (ak #[ai,.bool G]) w:=run_typeAssert_lacksB underlying227 zk zk v a w
def aMO(v:Y)(a:TypeId)(w:Z):(a1J (aj 27 v) a 229 A).run bbC w = .ok (ak #[ai,.bool G]) w:=run_typeAssert_lacksB underlying229 zk zk v a w
def aMP(e:Int)(t:Addr)(Ff:Y)(w:Z)(hg:w.cell? ⟨0,0,V⟩=O (aj 219 (.agg #[pq 12 57])))(KE:w.cell? t=O Ff)(GC:w.frozen? t=G) :
  Calls bbC 29 #[aj 27 (zi e),aj 75 (aq (O t))] w fun ev w'=>ev = ah (.bool G)/\w'=(((w.alloc (ae #[aq (O t)] 75)).alloc (ae #[pq 12 75,pp w.heap.size,.int .u64 150] 158)).alloc (ae #[pq 12 75,pp w.heap.size,.int .u64 150] 158)):=by
 have h6:=@run_callFunc_extern bbC 54 _ (fun args=>ReflectliteValue.unpack (args.getD 0 (ak #[]))) func54 zk zk zk zk;have h7:=@run_callFunc_extern bbC 55 _ (ReflectliteValue.methodAny (ReflectliteValue.valueError "reflectlite.Value.Type" 0) (fun t _ _ _=>ReflectliteType.toType t)) func55 zk zk zk zk;have h8:=@run_callFunc_extern bbC 56 _ (ReflectliteValue.method (ReflectliteValue.valueError "reflectlite.Value.IsNil" 0) ReflectliteValue.isNil) func56 zk zk zk zk;have GU:=@run_callFunc_extern bbC 196 _ (ReflectliteType.abiMethod fun t=>do pure (.int .u8 (<- Rtype.kind t))) func196 zk zk zk zk;have h37:=@run_callFunc_extern bbC 238 _ (ReflectliteType.method ReflectliteType.elem) func238 zk zk zk zk;have h38:=@run_callFunc_extern bbC 239 _ (ReflectliteType.relation "Implements" ReflectliteType.implements_) func239 zk zk zk zk;have rQ:=@run_callFunc_extern bbC 87 _ ReflectliteType.typeOf func87 zk zk zk zk;have y3:=@run_callFunc_extern bbC 236 _ (ReflectliteType.relation "AssignableTo" ReflectliteType.assignableTo) func236 zk zk zk zk;have tO:=apQ;have i1:=aMM;have i2:=aMN;have i3:=aMO;have mA:=adp;have a25:=aML;have f6:=amm;have f7:=amn;have mK:=adm;have mE:=adn;have mI:=ado;have k27:=amo;have k25:=amp;have e27:=ams;have i25:=amt;have n8:=amr ⟨w.heap.size,0,V⟩ t ((w.alloc (ae #[aq (O t)] 75)).alloc (ae #[pq 12 75,pp w.heap.size,.int .u64 150] 158)) zs;have hlt:0<w.heap.size:=by
  grind [Nat.eq_zero_or_pos,a19]
 have jO:((w.alloc (ae #[aq (O t)] 75)).alloc (ae #[pq 12 75,pp w.heap.size,.int .u64 150] 158)).cell? ⟨0,0,V⟩=O (aj 219 (.agg #[pq 12 57])):=by
  rw[a18 _ _ ⟨0,0,V⟩ zs,a18 _ _ ⟨0,0,V⟩ hlt];exact hg
 have tM:t.block<w.heap.size:=by
  grind [Nat.lt_or_ge,a19,a3Q]
 go_enter func29,ntmps29
 go_wp2
 refine wp_loop_rounds 1 ?_;rw[rounds_succ]
 go_wp2
 go_ret
 exact⟨J,J⟩
