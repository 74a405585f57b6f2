/- A part of one proof (KE1, ShB2, PX3, PX4, KE2, KE3, KE5, KE6). -/
import Derived.Test.YtoegidfbnkaabaaGreatDoorPkMAT
import Derived.Recover
import Derived.Tactics
import Derived.Tactics2
import Derived.WalkKit
import Derived.LaidEql
import Derived.Stop.Asserts
import Derived.RowKitTokens
set_option linter.all false
set_option maxRecDepth 100000
set_option maxHeartbeats 8000000
open Option renaming some → O, none → V
open Go renaming Value → Y, World → Z
open Bool renaming true → G, false → ae
open Go.Obj renaming cells → ah
open Go.Ending renaming returned → ai
open Go.Value renaming nilIface → aj, iface → ak, tuple → aq, pointer → au
open Option.some renaming injEq → a3I
open Go.Calls renaming mono → a3L
open List renaming length_cons → a3N, drop_eq_getElem_cons → a3U, length_nil → a3V
open Go.Sem renaming run_bind → a3X
open Go.Instr renaming typeAssert → a38
open Prod.mk renaming injEq → a4b
open Bool renaming false_eq_true → a4k
open Go.World renaming cell? → a4n, cell?_alloc_lt → a4q, frozen?_alloc_old → a4P
open Go.Exit renaming thenS → a4t
open Go.Result renaming andThen → a4D
open Array renaming getElem?_eq_none → a6e, setIfInBounds_setIfInBounds → a6P
open Go.Act renaming eval → a6i
open Go.Ending.panicked renaming injEq → a8i
open Go.Proofs.Tryz renaming prog → bdP
open Go.Proofs.Tryz
namespace Go.Proofs.YtoegidfbnkaabaaGreatDoor
open P
open Go.RowKit Sx
variable{D:Nat->Prop}{E:En}{R:Ending->Z->Prop}{S av buf iv nm o4 o5 tv v vv:Y}{a:Act}{b base c d e f k' n o pb qb so wb:Nat}{cs:Array Y}{out:Bs}{res:Z->Prop}{vars:List Bs}{w w':Z}{xs:List Y}{ρ:Nat->Nat}
def aqM(w:Z):(a38 aj 20 27 G).run bdP w = .ok (aq #[zi 0,.bool ae]) w:=zk
def aqN(v:Y)(w:Z):(a38 (ak 27 v) 20 27 G).run bdP w = .ok (aq #[v,.bool G]) w:=zk
def aNn(w:Z):(a38 aj 20 134 G).run bdP w = .ok (aq #[.agg #[],.bool ae]) w:=zk
def aNo(v:Y)(w:Z):(a38 (ak 134 v) 20 27 G).run bdP w = .ok (aq #[zi 0,.bool ae]) w:=zk
def aNp(v:Y)(w:Z):(a38 (ak 134 v) 20 134 G).run bdP w = .ok (aq #[v,.bool G]) w:=zk
def RB(id:Nat)(Q:Exit->Act->List Frame->Z->Prop):Exit->Act->List Frame->Z->Prop
 | .exit b,a,cs,w=>if b=id then Q .normal a cs w else Q (.exit b) a cs w
 | e,a,cs,w=>Q e a cs w
def agr{P:Program}{Q:Exit->Act->List Frame->Z->Prop}{cs:List Frame}{id:Nat}{c:Code}(h:c.wpS P (RB id Q) a cs w):(Code.block id c).wpS P Q a cs w:=fun b k m hr=>by
 obtain⟨e,d,f,w1,g,i⟩:=h b (.inBlock id::k) m hr;cases e with
 | normal=>exact⟨.normal,d,f,w1,g,.head step_block (Steps.trans i (.one step_inBlock))⟩
 | exit j=>
  by_cases hid:j=id
  .have g:Q .normal d f w1:=by grind [RB,hid]
   exact⟨.normal,d,f,w1,g,.head step_block (i k (by simp [exitTo,hid]))⟩
  .have g:Q (.exit j) d f w1:=by grind [RB,hid]
   refine⟨.exit j,d,f,w1,g,fun k' hk=>.head step_block (i k' ?_)⟩;grind [id,hid,exitTo]
 | goto l=>exact⟨_,d,f,w1,g,fun k' hk=>.head step_block (i k' (by grind [gotoIn]))⟩
 | ret=>exact⟨_,d,f,w1,g,.of_steps (.one step_block) i⟩
 | panic n=>exact⟨_,d,f,w1,g,.of_steps (.one step_block) i⟩
 | outgrown=>exact⟨_,d,f,w1,g,.of_steps (b:=b) (k:=k) (e:=.outgrown) (.one step_block) i⟩
def aNq(v0 v1 v2:Y)(w:Z):CallsD bdP 42 #[v0,v1,v2] .returning w fun e u' w'=>e = ai (aq #[])/\u' = .returning/\w'=w:=by
 refine callsD_of_wpS func42 J fun AS cs hu=>?_;apply wpS_seq;apply wpS_region;simp [wpOpsS,go_sem,recoverD,hu,ntmps42,a4t];apply agr;apply wpS_seq;apply wpS_region;simp [wpOpsS,go_sem,recoverD,hu,ntmps42,a4t,aqM];refine wpS_cond (t:=false) (by simp [a6i]) ?_;simp only[a4k,if_false];apply wpS_seq;apply wpS_region;simp [wpOpsS,go_sem,recoverD,hu,ntmps42,a4t,aNn];refine wpS_cond (t:=false) (by simp [a6i]) ?_;simp only[a4k,if_false];refine wpS_of_wp (wp_skip ?_);cases AS;simp_all [RB,bodyPostS,results,Tryz.results42]
section
variable{w:Z}{qb b0 b1 b2:Nat}{q0 q1 q2 q3 q4 o1 o2:Y}
structure OR(w:Z)(qb b0 b1 b2:Nat)(q0 q1 q2 q3 q4 o1 o2:Y):Prop where
 q:w.heap[qb]?=aO #[q0,q1,q2,q3,q4] 121
 x0:w.heap[b0]?=aO #[pp qb] 35
 x1:w.heap[b1]?=aO #[o1] 9
 x2:w.heap[b2]?=aO #[o2] 57
 lt:qb<b0/\b0<b1/\b1<b2
def EX{w:Z}{T:Nat}(h:w.heap[b]?=aO cs T)(hv:cs[o]?=O v):w.cell? ⟨b,o,V⟩=O v:=by
 grind [a4n]
def aNr(h:OR w qb b0 b1 b2 q0 q1 q2 q3 q4 o1 o2)(k:Int)(yj:List PanicEntry) :
  CallsD bdP 42 #[pp b0,pp b1,pp b2] (.panicking ({ v:=ak 27 (zi k),recovered:=false }::yj)) w fun e u' w'=>
   e = ai (aq #[])/\u' = .panicking ({ v:=ak 27 (zi k),recovered:=true }::yj) /\
   w'=bR (bR (bR w qb (ah #[q0,q1,q2,q3,ak 27 (zi k)] 121)) b1 (ah #[aW []] 9 (0,0))) b2 (ah #[ak 27 (zi k)] 57):=by
 obtain⟨hq,h0,h1,h2,BL,qM,gF⟩:=h;have c0:w.cell? ⟨b0,0,V⟩=O (pp qb):=EX h0 J;have z0:=jV h0 0;have c4:w.cell? ⟨qb,4,V⟩=O q4:=EX hq J;have z4:=jV hq 4;have e1:w.setCell ⟨qb,4,V⟩ (ak 27 (zi k))=bR w qb (ah #[q0,q1,q2,q3,ak 27 (zi k)] 121):=vz hq _;obtain⟨w1,jZ⟩:=cj (bR w qb (ah #[q0,q1,q2,q3,ak 27 (zi k)] 121));rw[<- jZ] at e1;have AN:w1.heap[b1]?=aO #[o1] 9:=yH;have c1:w1.cell? ⟨b1,0,V⟩=O o1:=EX AN J;have z1:=jV AN 0;have e2:w1.setCell ⟨b1,0,V⟩ (aW [])=bR w1 b1 (ah #[aW []] 9 (0,0)):=vz AN _;obtain⟨w2,j8⟩:=cj (bR w1 b1 (ah #[aW []] 9 (0,0)));rw[<- j8] at e2;have BK:w2.heap[b2]?=aO #[o2] 57:=yH;have c2:w2.cell? ⟨b2,0,V⟩=O o2:=EX BK J;have z2:=jV BK 0;have e3:w2.setCell ⟨b2,0,V⟩ (ak 27 (zi k))=bR w2 b2 (ah #[ak 27 (zi k)] 57):=vz BK _;refine callsD_of_wpS func42 J fun AS cs hu=>?_;apply wpS_seq;apply wpS_region;simp [wpOpsS,go_sem,recoverD,hu,ntmps42,a4t];apply agr;apply wpS_seq;apply wpS_region;simp [wpOpsS,go_sem,recoverD,hu,ntmps42,a4t,aqN];refine wpS_cond (t:=true) (by simp [a6i]) ?_;simp only[if_true];apply wpS_seq;apply wpS_region;simp [wpOpsS,go_sem,recoverD,hu,ntmps42,a4t];apply wpS_seq;apply wpS_region;simp [wpOpsS,go_sem,recoverD,hu,ntmps42,a4t,c0,z0,c4,z4,e1];have e2':w1.setCell ⟨b1,0,V⟩ (.string { data:=#[] })=w2:=e2;apply wpS_region;simp [wpOpsS,go_sem,recoverD,hu,ntmps42,a4t,c1,z1,c2,z2,e2',e3];simp [RB,bodyPostS,results,Tryz.results42,jZ,j8]
def aNs(h:OR w qb b0 b1 b2 q0 q1 q2 q3 q4 o1 o2)(yj:List PanicEntry) :
  CallsD bdP 42 #[pp b0,pp b1,pp b2] (.panicking ({ v:=ak 134 (.agg #[]),recovered:=false }::yj)) w fun e u' w'=>
   e = ai (aq #[])/\u' = .panicking ({ v:=ak 134 (.agg #[]),recovered:=true }::yj)/\∃ w0,w0=w.alloc (ah #[] 134) /\
   w'=bR (bR (bR w0 qb (ah #[q0,q1,q2,q3,ak 27 (zi 11)] 121)) b1 (ah #[aW []] 9 (0,0))) b2 (ah #[ak 27 (zi 11)] 57):=by
 refine callsD_of_wpS func42 J fun AS cs hu=>?_;apply wpS_seq;apply wpS_region;simp [wpOpsS,go_sem,recoverD,hu,ntmps42,a4t];apply agr;apply wpS_seq;apply wpS_region;simp [wpOpsS,go_sem,recoverD,hu,ntmps42,a4t,aNo];refine wpS_cond (t:=false) (by simp [a6i]) ?_;simp only[a4k,if_false];apply wpS_seq;apply wpS_region;simp [wpOpsS,go_sem,recoverD,hu,ntmps42,a4t,aNp];refine wpS_cond (t:=true) (by simp [a6i]) ?_;simp only[if_true];apply wpS_seq;apply wpS_region;simp [wpOpsS,go_sem,recoverD,hu,ntmps42,a4t];obtain⟨w0,yx⟩:=cj (w.alloc (ah #[] 134));have po:Ext w w0:=yF;rw[<- yx];obtain⟨hq,h0,h1,h2,BL,qM,gF⟩:=h;have hq:=po.ext _ _ hq;have h0:=po.ext _ _ h0;have h1:=po.ext _ _ h1;have h2:=po.ext _ _ h2;clear yx po;have c0:w0.cell? ⟨b0,0,V⟩=O (pp qb):=EX h0 J;have z0:=jV h0 0;have c4:w0.cell? ⟨qb,4,V⟩=O q4:=EX hq J;have z4:=jV hq 4;have e1:w0.setCell ⟨qb,4,V⟩ (ak 27 (zi 11))=bR w0 qb (ah #[q0,q1,q2,q3,ak 27 (zi 11)] 121):=vz hq _;obtain⟨w1,jZ⟩:=cj (bR w0 qb (ah #[q0,q1,q2,q3,ak 27 (zi 11)] 121));rw[<- jZ] at e1;have Zv:w1.heap[qb]?=aO #[q0,q1,q2,q3,ak 27 (zi 11)] 121:=yH;have c4':w1.cell? ⟨qb,4,V⟩=O (ak 27 (zi 11)):=EX Zv J;have vY:w1.heap[b0]?=aO #[pp qb] 35:=yH;have EY:w1.cell? ⟨b0,0,V⟩=O (pp qb):=EX vY J;have AN:w1.heap[b1]?=aO #[o1] 9:=yH;have c1:w1.cell? ⟨b1,0,V⟩=O o1:=EX AN J;have z1:=jV AN 0;have e2:w1.setCell ⟨b1,0,V⟩ (aW [])=bR w1 b1 (ah #[aW []] 9 (0,0)):=vz AN _;obtain⟨w2,j8⟩:=cj (bR w1 b1 (ah #[aW []] 9 (0,0)));rw[<- j8] at e2;have BK:w2.heap[b2]?=aO #[o2] 57:=yH;have c2:w2.cell? ⟨b2,0,V⟩=O o2:=EX BK J;have z2:=jV BK 0;have e3:w2.setCell ⟨b2,0,V⟩ (ak 27 (zi 11))=bR w2 b2 (ah #[ak 27 (zi 11)] 57):=vz BK _;have e2':w1.setCell ⟨b1,0,V⟩ (.string { data:=#[] })=w2:=e2;apply wpS_seq;apply wpS_region;simp [wpOpsS,go_sem,recoverD,hu,ntmps42,a4t,c0,z0,c4,z4,e1];apply wpS_region;simp [wpOpsS,go_sem,recoverD,hu,ntmps42,a4t,EY,c4',c1,z1,c2,z2,e2',e3];simp [RB,bodyPostS,results,Tryz.results42,jZ,j8]
end
open Go.Proofs.YtoegidfbnkaabaaGreatDoor.Sx
section
variable{p0 p1 p2 p3 p4 p5 p6 p7:Y}{w:Z}{R:Ending->Z->Prop}
def aNu:=cz w R [p0] (gc [] [] []) func43
end
def P.term(s:Bs):cr Ex:=ry aIz s
def aqO(v:Y)(n i:Nat)(h:i<n):(madeCells #[v] (n*1))[i]?=O v:=by
 simp [madeCells,h,Nat.mod_one]
def aqP(h:tN w wb S nm out):Calls bdP 43 #[pp wb] w fun e w'=>e = ai (zi (out.length:Nat))/\w'=w:=by
 obtain⟨f,buf,g,b,d⟩:=h;obtain⟨a,c,rfl⟩:=gZ d;refine aNu ?_;exact eV b
def Ii(eb:Nat)(w w':Z):Prop:=(∀ (b:Nat) (cs:Array Y) (T:Nat),b≠eb->T≠9->T≠57->w.heap[b]?=aO cs T->w'.heap[b]?=aO cs T) /\
 ∀ (b:Nat) (es:Array MapEntry) (c:Nat),b≠eb->w.heap[b]?=O (.map es c)->w'.heap[b]?=O (.map es c)
theorem Ii.of(h:∀ b o,b≠pb->w.heap[b]?=O o->w'.heap[b]?=O o):Ii pb w w':=⟨yH,yH⟩
structure Dv(E:En) where
 T:Nat
 pT:Nat
 fN:Nat
 fT:Nat
 eb:Nat
 tf:Array Y
 tc:Array Y
 Mem:(Nat->Prop)->(Nat->Nat)->Z->E.St->Prop
 Good:Nat->E.St->Prop
structure JP{E:En}(X:Dv E):Prop where
 st:∀ {D ρ w s},X.Mem D ρ w s->∃ cs tv,vU 1 X.T cs/\gV D ρ (E.nv s) X.eb 1 X.T cs tv w (E.sr s)
 ext:∀ {D ρ w w' s},X.Mem D ρ w s->Ext w w'->X.Mem D ρ w' s
 fuel:∀ {D ρ w w' s C f},X.Mem D ρ w s->w.heap[X.eb]?=aO C X.T->Ii X.eb w w'->w'.heap[X.eb]?=aO (kB C 1 ((f:Nat):Int)) X.T->X.Mem D ρ w' (E.fu s f)
 aqQ:∀ s f,E.sr (E.fu s f)=⟨(E.sr s).tr,f⟩
 agu:∀ s f,E.told (E.fu s f)=E.told s
 next:∀ {D ρ w s c d f r},X.Mem D ρ w (E.fu s 1000000)->(∀ b,w.heap.size<=b->D b)->X.Good c s->c<=700->E.nx d f (E.fu s 1000000)=O r ->
  Calls bdP X.fN #[pp X.eb] w (EPost D w (fun p e w'=>e = ai (.bool p.1)/\∃ eP,X.Mem D eP w' p.2) r)
 Fu:∀ {s c d f k},X.Good c s->c<=700->nG (E.sr s).tr->E.nx d f (E.fu s 1000000)=O (.ok (G,k))->(E.sr k).fuel<=1000000/\∀ f',X.Good (c+1) (E.fu k f')
 told:∀ {D ρ w s},X.Mem D ρ w s->(∃ c f,X.Good c (E.fu s f))->Calls bdP X.fT (X.tf++#[]++X.tc) w fun e w'=>Ext w w'/\match E.told s with
  | .ok l=>∃ v us,e = ai v/\fO (fun _=>True) w' 89 v us/\ql ρ (E.nv s) w' us l
  | .error t=>e=gW t
 agv:∀ {s c l},X.Good c s->E.told s = .ok l->jF l
 agw:∀ w,(method (Tryz.prog.types.size+Made.depth) X.pT (pp X.eb) "Next").run bdP w = .ok (X.fN,pp X.eb) w
 cN:Al bdP X.fN=G
 cT:Al bdP X.fT=G
def Gf:Option Nat->Y
 | none=>aj
 | some k=>ak 27 (.int .i64 (k:Nat))
abbrev ZA(X:Dv E)(Ij:Y)(err:Option Nat):Array Y:=#[ak X.pT (pp X.eb),pq X.eb 1,.func (.func X.fT) X.tf X.tc,Ij,Gf err]
structure yz{E:En}(X:Dv E)(D:Nat->Prop)(ρ:Nat->Nat)(qb:Nat)(names:List Bs)(w:Z)(q:Qs E):Prop where
 cell:∃ Ij,w.heap[qb]?=aO (ZA X Ij q.1) 121/\fO (fun _=>True) w 9 Ij (names.map fun s=>aW s)
 live:q.1=V->X.Mem D ρ w q.2
abbrev Me(D:Nat->Prop)(qb:Nat)(w w':Z):Prop:=bD (fun b o=>EM D b o\/b=qb) w w'
def agz(h:res w) :
  LV bdP res R [{ target:=.fn (.func 42) #[tv,vv,av],args:=#[]++#[] }] .returning w:=by
 refine Cp zk zs ((aNq tv vv av w).mono ?_);rintro e a w' ⟨rfl,rfl,rfl⟩;exact h
def aNv(h:OR w qb pb k' so tv vv av o4 iv o5 buf)(t:jP){f:List PanicEntry}(ht:gW t = .panicked f)
  (c:∀ w',bD (fun b _=>b=qb\/b=k'\/b=so) w w'->OR w' qb pb k' so tv vv av o4 (Gf (O t.no)) (aW []) (Gf (O t.no))->res w') :
  LV bdP res R [{ target:=.fn (.func 42) #[pp pb,pp k',pp so],args:=#[]++#[] }] (.panicking f) w:=by
 have key:∀ {w0:Z} (k:Nat),OR w0 qb pb k' so tv vv av o4 iv o5 buf->Ext w w0->k=t.no ->
   res (bR (bR (bR w0 qb (ah #[tv,vv,av,o4,Gf (O k)] 121)) k' (ah #[aW []] 9 (0,0))) so (ah #[Gf (O k)] 57)):=by
  intro w0 k g a hk;subst hk;obtain⟨i,x,l,j,m,n,p⟩:=g;have y:=bn i;have z:=bn j;refine c _ ⟨a.os,a.tape,a.output,by rw[vy,vy,vy];exact a.size,fun b o q d=>?_⟩ ⟨?_,?_,?_,?_,m,n,p⟩
  .rw[jg (fun e=>d (.inr (.inr e))),jg (fun e=>d (.inr (.inl e))),jg (fun e=>d (.inl e))];exact a.ext _ _ q
  .exact yH
  .exact yH
  .exact yH
  exact yH
 cases t with
 | fault e=>
  simp only[gW,a8i] at ht;subst ht;refine Cp zk zs ((aNr h (e:Nat) []).mono ?_);rintro e' r w' ⟨rfl,rfl,rfl⟩;exact key e h yF J
 | Em=>
  simp only[gW,Oo,a8i] at ht;subst ht;refine Cp zk zs ((aNs h []).mono ?_);rintro e' r w' ⟨rfl,rfl,w0,A,rfl⟩;have s:Ext w w0:=yF;obtain⟨i,g,l,j,u⟩:=h;exact key 11 ⟨yH,yH,yH,yH,u⟩ s J
def aNw{X:Dv E}(L:JP X){q q':Qs E}{zZ:Bs×Nat}(hq:yz X D ρ qb vars w q)(hD:∀ b,w.heap.size<=b->D b)(hDg:¬ D 4)
  (hP:mj w) (A2:qb≠X.eb) (hqg:qb≠4) (hg:q.1=V->X.Good c q.2) (hc:c<=700) (mY:∀ nm∈vars,nm≠[]/\nm.length<=3000) (hn:vars.length<=12) (hlen:∀ k l,E.told k = .ok l->l.length=vars.length)
  (hr:Hr E vars d f q=O (zZ,q')) :
  Calls bdP 27 #[pp qb] w fun e w'=>Me D qb w w'/\e = ai (aq #[aW zZ.1,Gf q'.1])/\(q'.1=V->zZ.2=0)/\(∀ k,q'.1=O k->zZ.2=k)/\∃ eP,yz X D eP qb vars w' q':=by
 suffices H:∀ R:Ending->Z->Prop,(∀ e w',Me D qb w w'/\e = ai (aq #[aW zZ.1,Gf q'.1])/\(q'.1=V->zZ.2=0)/\(∀ k,q'.1=O k->zZ.2=k)/\(∃ eP,yz X D eP qb vars w' q')->R e w') ->
   Calls bdP 27 #[pp qb] w R from H _ yF
 intro R hR;obtain⟨⟨Ij,W,Vt⟩,Xf⟩:=hq;obtain⟨err,st⟩:=q;simp only at W Xf hg;refine aNm ?_;have lq:=bn W;obtain⟨na,F,nc,rfl⟩:∃ a n c,Ij = .slice a n c:=by rcases Vt with⟨-,rfl⟩| ⟨b,cs,rfl,-⟩<;>exact zg
 obtain⟨I,rv⟩:=cj (((w.alloc (ah #[pp qb] 35)).alloc (ah #[aW []] 9 (0,0))).alloc (ah #[aj] 57));have sA:I.heap.size=w.heap.size+3:=yH;have zl:Ext w I:=yF;have k0:I.heap[w.heap.size]?=aO #[pp qb] 35:=yH;have k1:I.heap[w.heap.size+1]?=aO #[aW []] 9:=yH;have k2:I.heap[w.heap.size+2]?=aO #[aj] 57:=yH;have OS:=zl.ext _ _ W;obtain⟨b0,hb0⟩:=cj w.heap.size;cases err with
 | some k=>
  simp only[Hr,a3I,a4b] at hr;obtain⟨rfl,rfl⟩:=hr;have W:w.heap[qb]?=aO #[ak X.pT (pp X.eb),pq X.eb 1,.func (.func X.fT) X.tf X.tc,.slice na F nc,ak 27 (zi (k:Nat))] 121:=W;have OS:I.heap[qb]?=aO #[ak X.pT (pp X.eb),pq X.eb 1,.func (.func X.fT) X.tf X.tc,.slice na F nc,ak 27 (zi (k:Nat))] 121:=OS;refine cJ W ?_;rw[<- rv,size_alloc,size_alloc,size_alloc];have l1:=bn k1;have l2:=bn k2;refine⟨fun w'=>w'.heap[w.heap.size]?=I.heap[w.heap.size]?/\w'.heap[qb]?=I.heap[qb]?,yH,?_⟩;refine cQ (pp qb) (fun w' hS=>by have A:=hS.1;rw[k0] at A;have:=bn A;exact eV A) ?_;rw[jI];refine cQ (pq qb 4) (fun w' hS=>eR) ?_;refine cQ (ak 27 (zi (k:Nat))) (fun w' hS=>by have A:=hS.2;rw[OS] at A;have:=bn A;exact eV A) ?_;refine dA @k1 @k2 ?_;obtain⟨g,y⟩:=cj (bR (bR I.drew (w.heap.size+1) (ah #[aW []] 9 (0,0))) (w.heap.size+1+1) (ah #[ak 27 (zi (k:Nat))] 57));rw[<- y];have Yh:Ext w g:=yF;exact hR _ _ ⟨yF,J,zg,zg,ρ,⟨_,yH,Vt.mono zg yH⟩,zg⟩
 | none=>
  have W:w.heap[qb]?=aO #[ak X.pT (pp X.eb),pq X.eb 1,.func (.func X.fT) X.tf X.tc,.slice na F nc,aj] 121:=W;have OS:I.heap[qb]?=aO #[ak X.pT (pp X.eb),pq X.eb 1,.func (.func X.fT) X.tf X.tc,.slice na F nc,aj] 121:=OS;have hM:=L.ext (Xf J) zl;have hg:=hg J;obtain⟨cs,tv,ZB,gY⟩:=L.st hM;have Gg:=gY.cell;have jC:=ZB.sz;have hT:X.T≠35/\X.T≠9/\X.T≠57/\X.T≠121:=by rcases ZB.ty with h | h<;>rw[h]<;>decide
  obtain⟨C,hC⟩:=cj (kB (cs.setIfInBounds 1 tv) 1 ((E.sr st).fuel:Int));rw[<- hC] at Gg;have hCs:C.size=cs.size:=zg;have le:=bn Gg;refine cJ W ?_;rw[<- rv,size_alloc,size_alloc,size_alloc];have h2C:2<C.size:=zo;obtain⟨x2,rS⟩:∃ x2,C[2]?=O x2:=⟨_,Array.getElem?_eq_getElem h2C⟩;have aZh:X.eb≠qb:=zo;have aZi:X.eb≠w.heap.size:=yH;have aNy:X.eb≠w.heap.size+1:=yH;have aNz:X.eb≠w.heap.size+2:=yH;obtain⟨wF,Gh⟩:=cj (bR I X.eb (ah (kB C 1 1000000) X.T (0,0)));have ew:bR I X.eb (ah (C.setIfInBounds 2 (zi 1000000)) X.T (0,0))=wF:=Gh.symm;refine jh Gg @k0 OS ?_;rw[ew];have hZ:∀ {g:Z},bD (fun b o=>EM D b o\/b=qb\/w.heap.size<=b) w g->Me D qb w g:=(by grind [bD.mono,bn]);have hZe:∀ {a b:Z},dc D a b->bD (fun b o=>EM D b o\/b=qb\/w.heap.size<=b) a b:=(by grind [bD.mono]);have hZx:∀ {a b:Z},Ext a b->bD (fun b o=>EM D b o\/b=qb\/w.heap.size<=b) a b:=yF;have hEF:dc D I wF:=⟨by rw[Gh];rfl,by rw[Gh];rfl,by rw[Gh];rfl,yH,fun b o K hm=>by
   by_cases e:b=X.eb
   .subst e;rw[Gg] at K;exact absurd ⟨gY.ds,_,_,_,(Option.some.inj K).symm,ZB.mu⟩ hm
   exact yH⟩
  have hMF:X.Mem D ρ wF (E.fu st 1000000):=L.fuel hM Gg (by grind [Ii.of,jg]) (yH);have sF:wF.heap.size=w.heap.size+3:=yH;have hDF:∀ b,wF.heap.size<=b->D b:=yH;have mq:¬ lH 121/\¬ lH 35/\¬ lH 9/\¬ lH 57:=by grind [lH]
  obtain⟨r,hx,ZD⟩:∃ r,E.nx d f (E.fu st 1000000)=O r/\True:=by
   cases hx:E.nx d f (E.fu st 1000000) with
   | none=>grind [Hr]
   | some r=>grind
  simp only[Hr,hx] at hr;refine⟨X.fN,_,L.agw _,L.cN,?_⟩;refine a3L (L.next hMF hDF hg hc hx) ?_;rintro e w1 ⟨dF,hp⟩;have ZE:dc D I w1:=yF;have s1:=dF.size;have j0:w1.heap[w.heap.size]?=aO #[pp qb] 35:=ZE.bL mq.2.1 k0;have j1:w1.heap[w.heap.size+1]?=aO #[aW []] 9:=ZE.bL mq.2.2.1 k1;have j2:w1.heap[w.heap.size+2]?=aO #[aj] 57:=ZE.bL mq.2.2.2 k2;have jq:w1.heap[qb]?=aO #[ak X.pT (pp X.eb),pq X.eb 1,.func (.func X.fT) X.tf X.tc,.slice na F nc,aj] 121:=ZE.bL mq.1 OS;have hZ1:bD (fun b o=>EM D b o\/b=qb\/w.heap.size<=b) w w1:=yF;have aNE:fO (fun _=>True) w1 9 (.slice na F nc) (vars.map fun s=>aW s):=Vt.mono zg (by grind [dc.bL,bD.ext]);have lj0:=bn j0;have lj1:=bn j1;have lj2:=bn j2;have ljq:=bn jq;have I8:∀ {g:Z} {k:Nat} {s':E.St},bD (fun b o=>EM D b o\/b=qb\/w.heap.size<=b) w g->g.heap[qb]?=aO #[ak X.pT (pp X.eb),pq X.eb 1,.func (.func X.fT) X.tf X.tc,.slice na F nc,Gf (O k)] 121 ->
    Me D qb w g/\∃ eP,yz X D eP qb vars g (O k,s'):=fun{g k s'} hf hq=>by
   refine⟨hZ hf,ρ,⟨_,hq,?_⟩,zg⟩;refine Vt.mono zg fun b cs _ K=>hf.block b _ K ?_;rintro (⟨_,_,_,_,h1,h2⟩| h | h)<;>grind
  have agB:∀ {t:jP} {ch:List PanicEntry} {Q:Z} {s':E.St},gW t = .panicked ch->zZ=([],t.no)->q'=(O t.no,s')->bD (fun b o=>EM D b o\/b=qb\/w.heap.size<=b) w Q->OR Q qb w.heap.size (w.heap.size+1) (w.heap.size+1+1) (ak X.pT (pp X.eb)) (pq X.eb 1) (.func (.func X.fT) X.tf X.tc) (.slice na F nc) aj (.string (bs [])) aj ->
    LV bdP (fun g=>RD bdP (Instr.loadAt 9 (pp (w.heap.size+1))) g (fun r1=>RD bdP (Instr.loadAt 57 (pp (w.heap.size+1+1))) g
     (fun r2=>R (ai (aq #[r1,r2])) g) NX) NX) R
     [{ target:=.fn (.func 42) #[pp w.heap.size,pp (w.heap.size+1),pp (w.heap.size+1+1)],args:=#[]++#[] }] (.panicking ch) Q:=by
   intro t ch Q s' ht ha ja hf hB;subst ha ja;refine aNv hB t ht fun g I5 hz=>?_;obtain⟨zq,z0,z1,z2,-⟩:=hz;have z2':g.heap[w.heap.size+1+1]?=aO #[ak 27 (zi (t.no:Nat))] 57:=z2;refine dA @z1 @z2' ?_;obtain⟨r1,r2⟩:=I8 (s':=s') (by grind [bD.mono,bD.trans]) zq;grind
  cases r with
  | error t=>
   have hp:e=gW t:=hp;simp only[a3I,a4b] at hr;obtain⟨⟨rfl,rfl⟩,rfl⟩:=hr;obtain⟨ch,Oz⟩:∃ ch,gW t = .panicked ch:=by cases t<;>exact⟨_,J⟩
   rw[hp,Oz];exact agB Oz J J hZ1 ⟨jq,j0,j1,j2,zo,zo,zo⟩
  | ok p=>
   obtain⟨b,k⟩:=p;obtain⟨rfl,qp,OT⟩:=hp;cases b with
   | false=>
    simp only[a3I,a4b] at hr;obtain⟨⟨rfl,rfl⟩,rfl⟩:=hr;refine dA @j0 @jq ?_;obtain⟨w2,j8⟩:=cj (bR w1 qb (ah #[ak X.pT (pp X.eb),pq X.eb 1,.func (.func X.fT) X.tf X.tc,.slice na F nc,ak 27 (zi 6)] 121));have Rz:bR w1 qb (ah (pF #[ak X.pT (pp X.eb),pq X.eb 1,.func (.func X.fT) X.tf X.tc,.slice na F nc,aj] 4 (Value.iface 27 (zi 6)).cells.toList) 121 (0,0))=w2:=j8.symm;rw[Rz];have i0:w2.heap[w.heap.size]?=aO #[pp qb] 35:=yH;have i1:w2.heap[w.heap.size+1]?=aO #[aW []] 9:=yH;have i2:w2.heap[w.heap.size+2]?=aO #[aj] 57:=yH;have iq:w2.heap[qb]?=aO #[ak X.pT (pp X.eb),pq X.eb 1,.func (.func X.fT) X.tf X.tc,.slice na F nc,ak 27 (zi 6)] 121:=yH;have hZ2:bD (fun b o=>EM D b o\/b=qb\/w.heap.size<=b) w w2:=yF;have li0:=bn i0;have li1:=bn i1;have li2:=bn i2;clear j8 Rz;refine⟨fun w'=>w'.heap[w.heap.size]?=w2.heap[w.heap.size]?/\w'.heap[qb]?=w2.heap[qb]?,yH,?_⟩;refine cQ (pp qb) (fun w' hS=>by have A:=hS.1;rw[i0] at A;have:=bn A;exact eV A) ?_;rw[jI];refine cQ (pq qb 4) (fun w' hS=>eR) ?_;refine cQ (ak 27 (zi 6)) (fun w' hS=>by have A:=hS.2;rw[iq] at A;have:=bn A;exact eV A) ?_;refine dA @i1 @i2 ?_;obtain⟨g,y⟩:=cj (bR (bR w2.drew (w.heap.size+1) (ah #[aW []] 9 (0,0))) (w.heap.size+1+1) (ah #[ak 27 (zi 6)] 57));rw[<- y];refine agz ?_;have z1:g.heap[w.heap.size+1]?=aO #[aW []] 9:=yH;have z2:g.heap[w.heap.size+1+1]?=aO #[ak 27 (zi 6)] 57:=yH;have zq:g.heap[qb]?=aO #[ak X.pT (pp X.eb),pq X.eb 1,.func (.func X.fT) X.tf X.tc,.slice na F nc,Gf (O 6)] 121:=by rw[y,jg zo,jg zo];exact iq
    have ZF:bD (fun b o=>EM D b o\/b=qb\/w.heap.size<=b) w g:=by
     rw[y];exact((hZ2.drew).bR (.inl fun _=>.inr (.inr zo))).bR (.inl fun _=>.inr (.inr zo))
    clear y;refine dA @z1 @z2 ?_;obtain⟨r1,r2⟩:=I8 (s':=k) ZF zq;exact hR _ _ ⟨r1,J,zg,zg,r2⟩
   | true=>
    have OT:X.Mem D qp w1 k:=OT;dsimp only at hr;refine dA @j0 @jq ?_;obtain⟨wW,hwW⟩:=cj (w1.alloc (ah #[au V,bW,pq X.eb 1,.map V] 103));rw[<- hwW];have hEW:Ext w1 wW:=yF;have rZ:wW.heap[w1.heap.size]?=aO #[au V,bW,pq X.eb 1,.map V] 103:=yH;clear hwW;have hMW:=L.ext OT hEW;refine⟨L.cT,?_⟩;refine a3L (L.told hMW ⟨c+1,0,(L.Fu hg hc gY.ok hx).2 0⟩) ?_;rintro e w3 ⟨eI,gL⟩;have M:Ext w1 w3:=yF;have hZ3:=hZ1.trans (hZx M);cases ht:E.told k with
    | error t=>
     rw[ht] at gL hr;have gL:e=gW t:=gL;simp only[a3I,a4b] at hr;obtain⟨⟨rfl,rfl⟩,rfl⟩:=hr;obtain⟨ch,Oz⟩:∃ ch,gW t = .panicked ch:=by cases t<;>exact⟨_,J⟩
     rw[gL,Oz];exact agB Oz J J hZ3 ⟨M.ext _ _ jq,M.ext _ _ j0,M.ext _ _ j1,M.ext _ _ j2,zo,zo,zo⟩
    | ok l=>
     rw[ht] at gL hr;obtain⟨v,us,rfl,oo,lk⟩:=gL;simp only at hr;obtain⟨r0,I7⟩:∃ r0,Oa (E.sr k).tr d vars l ⟨(E.sr k).fuel,[],[]⟩=O r0:=by
      grind
     rw[I7] at hr;obtain⟨ta,aZs,rfl⟩:=oo.sl;have vf:us.length=vars.length:=by rw[lk.length,hlen k l ht]
     obtain⟨hfu,aqB⟩:=L.Fu hg hc gY.ok hx;have OU:jF l:=L.agv (aqB 0) ((L.agu k 0).trans ht);obtain⟨zI,LM,agD,Vu⟩:=L.st OT;have aqY:=Vu.ext M;obtain⟨C1,hC1⟩:=cj (zI.setIfInBounds 1 LM);have agE:=aqY.cell;rw[<- hC1] at agE;have aZt:C1.size=zI.size:=zg;have aDx:=agD.sz;have hTw:X.T≠103/\X.T≠5/\X.T≠180/\X.T≠89/\X.T≠91:=by rcases agD.ty with h | h<;>rw[h]<;>decide
     have hgp:4<w.heap.size:=yH;have aZu:X.eb<w1.heap.size:=zo;have RH:yo (E.sr k).tr w1.heap.size X.eb 1 X.T C1:=⟨Vu.ok,zo,zo,zo,(by grind [gV.ds]),hTw.2.1,hTw.2.2⟩;have hP3:mj w3:=hP.bL fun o x=>by
      refine hZ3.block _ o x ?_;rintro (⟨h,_⟩| h | h)<;>grind
     have Il:ml qp (E.nv k) (E.sr k).tr w1.heap.size X.eb 1 X.T C1 (.map V) w3 ⟨(E.sr k).fuel,[],[]⟩:=
      ⟨aqY.sv,⟨au V,bW,yH,eI.ext _ _ rZ,World.ownsRow_nil _ _ _ _⟩,.inl ⟨J,J⟩,agE,hP3,zg⟩
     have i0:=M.ext _ _ j0;have i1:=M.ext _ _ j1;have i2:=M.ext _ _ j2;have iq:=M.ext _ _ jq;have B:∀ {S:Z} {b:Nat} {o:Obj},nu w1.heap.size X.eb w3 S->b<w1.heap.size->b≠X.eb->w3.heap[b]?=O o->S.heap[b]?=O o:=fun h K ef x=>h.block _ _ x (by rintro (e | e | ⟨e,_⟩)<;>omega);have aZv:l.length=vars.length:=zg;have hZw:∀ {S:Z},nu w1.heap.size X.eb w3 S->bD (fun b o=>EM D b o\/b=qb\/w.heap.size<=b) w S:=fun h=>hZ3.trans (bD.mono h fun b o K hm=>by
      rcases hm with e | e | ⟨e,_⟩
      .exact yH
      .subst e;rw[agE] at K;exact .inl ⟨Vu.ds,_,_,_,(Option.some.inj K).symm,agD.mu⟩
      exact yH)
     have aNK:=K8 Vu.ok;refine bG ?_;rw[vf];refine⟨fun m z S=>∃ (j:Nat) (i:Ws),z 49=zi (j:Nat)/\j<=vars.length/\m=vars.length-j/\HU qp (E.nv k) (E.sr k).tr w1.heap.size X.eb 1 X.T C1 S i/\nu w1.heap.size X.eb w3 S /\
       Oa (E.sr k).tr d (vars.drop j) (l.drop j) i=O r0/\i.cV<=60000000+4000*j/\i.seen.length<=i.out.length,
      ⟨_,0,_,J,Nat.zero_le _,J,⟨_,Il⟩,bD.refl _ _,I7,by grind [Ws.cV],Nat.le_refl _⟩,?_⟩
     intro m z dd S hI;clear dd;refine toPr ?_;obtain⟨j,i,RI,hj,rfl,⟨nmj,OV⟩,N,P,apR,LF⟩:=hI;have p0:=B N zo zo i0;have p1:=B N zo zo i1;have p2:=B N zo zo i2;have pqz:=B N zo zo iq;have lp0:=bn p0;have lpq:=bn pqz;have s4:=N.size;have hkT:∀ {b:Nat} {cs:Array Y} {U:Nat},U≠5->U≠103->U≠X.T->w3.heap[b]?=aO cs U->S.heap[b]?=aO cs U:=fun{b cs U} u1 u2 u3 x=>N.block _ _ x (by
      rintro (e | e | ⟨_,⟨cs',z',e⟩| ⟨_,_,e⟩⟩)
      .rw[e,eI.ext _ _ rZ] at x;injection x with x;injection x with _ x _;exact u2 x.symm
      .grind
      .grind
      grind)
     by_cases hlt:j<vars.length
     .have aNL:j<us.length:=zo;have agJ:j<l.length:=zo;obtain⟨tb,tcs,e1,-,e3,e4⟩:=oo.at' (j:=j) aNL;obtain⟨u,e5,hu⟩:=lk.at j agJ;rw[e5] at e4;rw[vf] at e1;simp only[Value.slice.injEq,true_and] at e1;obtain⟨rfl,rfl⟩:=e1;have ZG:=hkT zd zd (fun e=>hTw.2.2.2.1 e.symm) e3;obtain⟨nb,xG,n1,-,n3,n4⟩:=aNE.at' (j:=j) zg;have n4:xG[j]?=O (aW (vars[j])):=by rw[n4,List.getElem?_map,List.getElem?_eq_getElem hlt];rfl
      rw[List.length_map] at n1;simp only[Value.slice.injEq] at n1;obtain⟨rfl,rfl,rfl⟩:=n1;have n3':=hkT zo zo zo (M.ext _ _ n3);have kf:(j:Int).toNat=j:=zo;have Dr:(j:Int)<(vars.length:Nat):=zo;obtain⟨tvv,xvv,OF⟩:=hu.iface;rw[OF] at e4;obtain⟨DU,IN⟩:=mY vars[j] (List.getElem_mem hlt);rw[a3U hlt,a3U agJ,Oa] at P;obtain⟨c0,nr,ZH⟩:∃ c0 nr,vars[j]=c0::nr:=by
       cases hx:vars[j] with
       | nil=>grind
       | cons c0 nr=>grind
      by_cases h95:c0=95
      .subst h95;rw[ZH,List.head?_cons,zip rfl] at P;rw[ZH] at n4;refine dG RI @ZG @e4 (zA @p0 (zA @pqz (zA @n3' (zA @n4 @kf)))) ?_;have e95:(((((95:UInt8)::nr).getD 0 0).toNat:Nat):Int)=95:=rfl;refine dA @e95 RI ?_;exact⟨vars.length-(j+1),zo,j+1,i,zs,zo,J,⟨nmj,OV⟩,N,P,zo,LF⟩
      .rw[ZH,List.head?_cons,bU zg] at P;rw[ZH] at n4;have e95:¬ (((((c0:UInt8)::nr).getD 0 0).toNat:Nat):Int)=95:=by
        simp only[List.getD_cons_zero];intro h;apply h95;have:c0.toNat=95:=zo;exact UInt8.toNat_inj.1 this
       obtain⟨s1,dZ⟩:=cj (if i.out=[] then i else i.add [44,32]);rw[<- dZ] at P;have apS:i.cV=i.out.length+60*i.fuel:=rfl;have aZz:s1.cV<=i.cV+2/\s1.seen.length<=s1.out.length:=by
        rw[dZ];split
        .omega
        .exact⟨by rw[Ws.pK];simp,pj LF⟩
       refine dG RI @ZG @e4 (zA @p0 (zA @pqz (zA @n3' (zA @n4 @kf)))) ?_;refine⟨fun _ w5=>HU qp (E.nv k) (E.sr k).tr w1.heap.size X.eb 1 X.T C1 w5 s1/\nu w1.heap.size X.eb w3 w5,?_,?_⟩
       .refine bG ?_;refine a3L (aqP OV.bu) ?_;rintro e w5 ⟨rfl,rfl⟩;by_cases h0:i.out=[]
        .rw[zip h0] at dZ;have vY:¬ (0:Int)<(i.out.length:Int):=zg;refine cJ vY ?_;exact⟨⟨nmj,yH⟩,N⟩
        .rw[bU h0] at dZ;have vY:(0:Int)<(i.out.length:Int):=by grind [List.length_pos_iff]
         refine cJ vY ?_;refine a3L (HW OV RH [44,32] (by simp;omega)) ?_;rintro e w6 ⟨⟨ve,rfl⟩,pN,Dk⟩;exact⟨⟨nmj,yH⟩,N.trans Dk⟩
       .rintro s5 w5 ⟨⟨OA,oO⟩,iV⟩ d5;clear d5;have p05:=B iV zo zo i0;have pq5:=B iV zo zo iq;have aNR:∀ {b:Nat} {cs:Array Y} {U:Nat},U≠5->U≠103->U≠X.T->w3.heap[b]?=aO cs U->w5.heap[b]?=aO cs U:=fun{b cs U} u1 u2 u3 x=>iV.block _ _ x (by
         rintro (e | e | ⟨_,⟨cs',z',e⟩| ⟨_,_,e⟩⟩)
         .rw[e,eI.ext _ _ rZ] at x;injection x with x;injection x with _ x _;exact u2 x.symm
         .grind
         .grind
         grind)
        have n35:=aNR zo zo zo (M.ext _ _ n3);obtain⟨s2,mR⟩:=cj (s1.add (c0::nr++[32,61,32]));rw[<- mR] at P;have yf:(c0::nr).length<=3000:=zg;have aq5:s2.cV<=s1.cV+3003/\s2.seen.length<=s2.out.length:=by
         grind [pj,Ws.pK,List.length_append,a3N,a3V]
        have aZA:s1.cV=s1.out.length+60*s1.fuel:=rfl;refine⟨fun _ w6=>HU qp (E.nv k) (E.sr k).tr w1.heap.size X.eb 1 X.T C1 w6 s2/\nu w1.heap.size X.eb w3 w6,?_,?_⟩
        .refine dG RI @p05 @pq5 (zA @n35 (zA @n4 @kf)) ?_;rw[xP _ _ (by grind [a3N,a3V])];refine a3L (HW (oO.ext (bD.drew yF)) RH (c0::nr++[32,61,32]) (by grind [List.length_append,a3N,a3V])) ?_;rintro e w6 ⟨⟨ve,rfl⟩,pN,Dk⟩;exact⟨⟨OA,yH⟩,iV.trans ((bD.drew yF).trans Dk)⟩
        .rintro s6 w6 ⟨⟨nm6,pN⟩,Dk⟩ d6;clear d6;obtain⟨r1,qH⟩:∃ r1,lF (E.sr k).tr d l[j] 0 s2=O r1:=by
          cases hy:lF (E.sr k).tr d l[j] 0 s2 with
          | none=>rw[hy] at P;cases P
          | some r1=>grind
         rw[qH] at P;have htj:eB l[j]:=JA OU agJ;have ZI:dO qp (E.nv k) w6 (ak tvv xvv) l[j]:=by
          rw[<- OF];exact hu.bL (Il.kv RH Dk).toT
         refine a3L ((cw d).tm (least:=0) RH ⟨nm6,pN⟩ ZI htj zo aq5.2 qH) ?_;rintro e w7 ⟨BE,ng⟩;have aNT:=Dk.trans BE;cases r1 with
         | none=>
          obtain⟨rfl,-,-⟩:=ng;have P:O V=O r0:=P;cases P;simp only[a3I,a4b] at hr;obtain⟨⟨rfl,rfl⟩,rfl⟩:=hr;have hq7:OR w7 qb w.heap.size (w.heap.size+1) (w.heap.size+1+1) (ak X.pT (pp X.eb)) (pq X.eb 1) (.func (.func X.fT) X.tf X.tc) (.slice (O ⟨nb,0,V⟩) vars.length xG.size) aj (.string (bs [])) aj:=
           ⟨yH,yH,yH,yH,zo,zo,zo⟩
          exact agB (t:=.Em) (s':=k) J J J yH hq7
         | some s7=>
          obtain⟨rfl,Zn⟩:=ng;refine cJ RI ?_;obtain⟨g1,g2⟩:=(aNK d).tm _ _ _ _ htj zo aq5.2 qH;exact⟨vars.length-(j+1),zo,j+1,s7,zs,zo,J,Zn,aNT,P,zo,g2⟩
     .have fm:j=vars.length:=zo;subst fm;have I7:r0=O i:=by
       rw[List.drop_of_length_le (Nat.le_refl _),Oa] at P<;>grind
      subst I7;simp only[a3I,a4b] at hr;obtain⟨⟨rfl,rfl⟩,rfl⟩:=hr;have Ig:=B N zo zo i1;have Ma:=B N zo zo i2;have lp1:=bn p1;have lp2:=bn p2;have hZ4:=hZw N;have Li:∀ {Q g:Z} (tx:Bs),nu w1.heap.size X.eb w3 Q->Q.heap[X.eb]?=aO (kB C1 1 i.fuel) X.T->g=bR (bR Q (w.heap.size+1) (ah #[aW tx] 9)) (w.heap.size+1+1) (ah #[aj] 57) ->
        g.heap[w.heap.size+1]?=aO #[aW tx] 9/\g.heap[w.heap.size+1+1]?=aO #[aj] 57/\Me D qb w g/\∃ eP,yz X D eP qb vars g (V,E.fu k i.fuel):=by
       intro Q g tx RL hcx y;have x1:=B RL zo zo i1;have x2:=B RL zo zo i2;have xq:=B RL zo zo iq;have lx1:=bn x1;have lx2:=bn x2;have x:∀ b,b≠w.heap.size+1->b≠w.heap.size+1+1->g.heap[b]?=Q.heap[b]?:=fun b h1 h2=>by rw[y,jg h2,jg h1]
       have z1:g.heap[w.heap.size+1]?=aO #[aW tx] 9:=by rw[y,jg zo];exact yH
       have z2:g.heap[w.heap.size+1+1]?=aO #[aj] 57:=yH;have ZF:bD (fun b o=>EM D b o\/b=qb\/w.heap.size<=b) w g:=by
        rw[y];exact((hZw RL).bR (.inl fun _=>.inr (.inr zo))).bR yH
       have zq:g.heap[qb]?=aO (ZA X (.slice na F nc) V) 121:=by rw[x _ zo zo];grind
       have rD:Ii X.eb w1 g:=by
        refine⟨fun b cs U K u1 u2 fc=>?_,fun b es c K fc=>?_⟩
        .have pJ:=bn fc;rw[x b (fun e=>by rw[e,j1] at fc;injection fc with fc;injection fc with _ fc _;exact u1 fc.symm) (fun e=>by rw[e,j2] at fc;injection fc with fc;injection fc with _ fc _;exact u2 fc.symm)];exact B RL pJ K (M.ext _ _ fc)
        .have pJ:=bn fc;rw[x b (fun e=>by rw[e,j1] at fc;cases fc) (fun e=>by rw[e,j2] at fc;cases fc)];exact B RL pJ K (M.ext _ _ fc)
       have hcz:g.heap[X.eb]?=aO (kB (kB C1 1 ((E.sr k).fuel:Int)) 1 (i.fuel:Nat)) X.T:=by
        rw[x _ aNy aNz,hcx];have e1:kB (kB C1 1 ((E.sr k).fuel:Int)) 1 (i.fuel:Int)=kB C1 1 (i.fuel:Int):=by
         unfold kB;rw[a6P]
        grind
       have jz:=Vu.cell;rw[<- hC1] at jz;have hMz:=L.fuel OT jz rD hcz;have hnz:fO (fun _=>True) g 9 (.slice na F nc) (vars.map fun s=>aW s):=Vt.mono zg fun b cs _ K=>ZF.block b _ K (by
        rintro (⟨_,_,_,_,h1,h2⟩| h | h)<;>grind)
       exact⟨z1,z2,hZ ZF,qp,yH,zg⟩
      refine cJ RI ?_;refine a3L (aqP OV.bu) ?_;rintro e w5 ⟨rfl,rfl⟩;by_cases h0:i.out=[]
      .have vY:(i.out.length:Int)=0:=zg;refine jh vY @p1 @p2 ?_;obtain⟨g,y⟩:=cj (bR (bR w5 (w.heap.size+1) (ah #[aW [116,114,117,101]] 9 (0,0))) (w.heap.size+1+1) (ah #[aj] 57));obtain⟨z1,z2,z3,z4⟩:=Li _ N OV.fu y;rw[<- y];refine agz ?_;refine dA @z1 @z2 ?_;grind
      .have vY:¬ (i.out.length:Int)=0:=by grind [List.length_pos_iff]
       refine cJ vY ?_;refine a3L (apx OV.bu h0) ?_;rintro e w6 ⟨rfl,Dk⟩;have agL:=N.trans (Dk.toW X.eb);have p16:=B agL zo zo i1;have p26:=B agL zo zo i2;refine dA @p16 @p26 ?_;obtain⟨g,y⟩:=cj (bR (bR w6 (w.heap.size+1) (ah #[aW i.out] 9)) (w.heap.size+1+1) (ah #[aj] 57));obtain⟨z1,z2,z3,z4⟩:=Li _ agL (Dk.block _ _ OV.fu (by
        rintro (h | ⟨_,_,_,h⟩)<;>grind)) y
       rw[<- y];refine agz ?_;refine dA @z1 @z2 ?_;grind
def Ii.toI(h:Ii pb w w'){C:Array Y}{T:Nat}(d:lH T)(f:w.heap[pb]?=aO C T):eJ w w':=fun b cs U a c=>
 h.1 b cs U (fun e=>by rw[e,f] at c;cases c;exact a (.inl d)) (fun e=>a (.inr (.inl e))) (fun e=>a (.inr zg)) c
theorem agM(h:Ii pb w w'){size:Nat}(a:w.ownsRow base e size v n xs)(c:v.ownBlock≠O pb)(d:e≠9)(f:e≠57):w'.ownsRow base e size v n xs:=by
 refine⟨a.1,?_⟩;rcases a.2 with k | ⟨b,cap,cur,rfl,g,i,j⟩
 .exact yH
 .exact .inr ⟨b,cap,cur,J,g,h.1 _ _ _ (fun e=>c (by rw[<- e];rfl)) d f i,j⟩
def gV.aq7{T:Nat}{s:Sr}(h:gV D ρ n pb so T cs tv w s)(a:vU so T cs)(hk:Ii pb w w'){C:Array Y}
  (g:w.heap[pb]?=aO C T) (i:w'.heap[pb]?=aO (kB C so (f:Int)) T):gV D ρ n pb so T cs tv w' { s with fuel:=f }:=by
 have j:T≠87/\T≠91/\T≠180/\T≠89:=by rcases a.ty with h | h<;>subst h<;>decide
 have hC:C=kB (cs.setIfInBounds so tv) so s.fuel:=by
  have:=h.cell;grind
 refine⟨h.sv.bL fun b c t ht d=>hk.1 b c t (fun e=>?_) zo zo d,h.dv,?_,(by grind [agM,row,YW]),h.dr,h.ds,h.nd,h.lt,h.ok⟩
 .grind
 grind [a6P]
structure WkQ(base:List Cl)(nv wb mb xb:Nat)(vv:Y)(D:Nat->Prop)(ρ:Nat->Nat)(w:Z)(k:Wk):Prop where
 wk:Rg D ρ wb mb vv w k
 bs:B1 w mb base
 vr:fO (fun _=>True) w 89 vv (ny ρ (List.range nv))
 nv:nv<=k.n
 bx:w.heap[xb]?=aO #[pp wb] 122
def wkX(base:List Cl)(M nv wb mb xb:Nat)(vv:Y):Dv (Lj base nv) where
 T:=130
 pT:=122
 fN:=223
 fT:=40
 eb:=wb
 tf:=#[]
 tc:=#[pp xb]
 Mem D ρ w k:=WkQ base nv wb mb xb vv D ρ w k
 Good c k:=mh M (c*1000000) { k with sr:={ k.sr with fuel:=0 } }/\lO k.sr
theorem agO{ρ:Nat->Nat}{n:Nat}{w:Z}:∀ {l:List Nat},(∀ i∈l,i<n)->ql ρ n w (ny ρ l) (l.map .var)
 | [],_=>by unfold ql iJ;rfl
 | i::l,h=>by
  unfold ql iJ;refine⟨_,_,J,?_,agO zg⟩;unfold dK;exact⟨h i (List.mem_cons_self ..),J⟩
theorem P.agP:∀ (l:List Nat),jF (l.map .var)
 | []=>by unfold jF;trivial
 | i::l=>by unfold jF;exact⟨aok,P.agP l⟩
theorem aN1(base:List Cl)(M nv wb mb xb:Nat)(vv:Y)(gU:∀ c∈base,zw M c)(hM:M<=100000):JP (wkX base M nv wb mb xb vv) where
 st:=by
  rintro D ρ w s ⟨⟨todo,av,tv,dk,h⟩,-⟩;exact⟨_,tv,Gb,h.st⟩
 ext:=by
  rintro D ρ w w' s ⟨⟨todo,av,tv,dk,h⟩,h2,h3,h4,h5⟩ hE;exact⟨⟨_,_,_,_,h.ext hE⟩,(by grind [eJ.ea,B1.bL,bD.ext]),h3.mono zg (by grind [bD.ext]),h4,hE.ext _ _ h5⟩
 fuel:=by
  rintro D ρ w w' s C f ⟨⟨todo,av,tv,dk,h⟩,h2,h3,h4,h5⟩ hc hk oB;have hI:eJ w w':=hk.toI (T:=130) (by grind [lH]) hc;have gA:av.ownBlock≠O wb:=fun e=>by
   obtain⟨cs,h1⟩:=h.ES e;have hc:w.heap[wb]?=aO C 130:=hc;grind
  refine⟨⟨todo,av,tv,dk,h.st.aq7 Gb hk hc oB,h.td.bL hI (eu.refl _ _),agM hk h.ar gA zo zo,h.ag.bL hI (eu.refl _ _),h.da⟩,
   h2.bL hI fun es c hm=>hk.2 _ es c (fun e=>?_) hm,h3.iS hI (yM),h4,hI _ _ _ (yM) h5⟩
  grind
 aqQ:=fun s f=>rfl
 agu:=fun s f=>rfl
 next:=by
  rintro D ρ w s c d f r ⟨h1,h2,h3,h4,h5⟩ hD ⟨hg,hs⟩ hc hr;have jL:mh M (c*1000000+1000000) { s with sr:={ s.sr with fuel:=1000000 } }:=by
   have g1:s.sr.tr.length+0<=c*1000000:=hg.cV;have g2:s.bz.length+0<=c*1000000:=hg.nQ;exact⟨⟨hg.todo,hg.ag,hg.marks,hg.mono⟩,by show s.sr.tr.length+1000000<=_;omega,zg⟩
  have hr:kY base d f G { s with sr:={ s.sr with fuel:=1000000 } }=O r:=hr;refine(aMX h1 hD h2 gU hM zo jL hr).mono ?_;rintro e w' ⟨hE,hp⟩;refine⟨hE,?_⟩;cases r with
  | error t=>omega
  | ok p=>
   obtain⟨rfl,eP,hu,hm⟩:=hp;have hI:=dc.toI hE;refine⟨J,eP,hm,h2.fr hE,?_,Nat.le_trans h4 hu.1,(by grind [lH,dc.bL])⟩;rw[ap5 hu (fun i hi=>Nat.lt_of_lt_of_le (List.mem_range.1 hi) h4)];exact h3.iS hI (yM)
 Fu:=by
  rintro s c d f k ⟨hg,hs⟩ hc-hr;have jL:mh M (c*1000000+1000000) { s with sr:={ s.sr with fuel:=1000000 } }:=by
   have g1:s.sr.tr.length+0<=c*1000000:=hg.cV;have g2:s.bz.length+0<=c*1000000:=hg.nQ;exact⟨⟨hg.todo,hg.ag,hg.marks,hg.mono⟩,by show s.sr.tr.length+1000000<=_;omega,zg⟩
  have hr:kY base d f G { s with sr:={ s.sr with fuel:=1000000 } }=O (.ok (G,k)):=hr;obtain⟨h1,h2,h3,h4⟩:=Yu gU f G { s with sr:={ s.sr with fuel:=1000000 } } _ jL ⟨hs.FU,hs.ok⟩ hr;refine⟨h4,fun f'=>⟨?_,h2.FU,h2.ok⟩⟩;have g1:k.sr.tr.length+k.sr.fuel<=c*1000000+1000000:=h1.cV;have g2:k.bz.length+k.sr.fuel<=c*1000000+1000000:=h1.nQ;exact⟨⟨h1.todo,h1.ag,h1.marks,h1.mono⟩,by show k.sr.tr.length+0<=(c+1)*1000000;omega,by show k.bz.length+0<=(c+1)*1000000;omega⟩
 told:=by
  rintro D ρ w s ⟨⟨todo,av,tv,dk,h⟩,h2,h3,h4,h5⟩ -;have hc:=h.cell;obtain⟨va,vc,xm⟩:=h3.sl;show Calls bdP 40 #[pp xb] w _;refine aNk ?_;rw[xm] at hc;refine dA h5 hc ?_;refine⟨yF,_,_,J,zg,agO fun i hi=>Nat.lt_of_lt_of_le (List.mem_range.1 hi) h4⟩
 agv:=by
  rintro s c l-h;have h:Except.ok ((List.range nv).map Tm.var)=Except.ok l:=h;grind [P.agP]
 agw:=fun w=>by
  show(method (Tryz.prog.types.size+Made.depth) 122 (pp wb) "Next").run bdP w = .ok (223,pp wb) w
  kernel_rfl
 cN:=by show Al bdP 223=G;kernel_rfl
 cT:=by show Al bdP 40=G;kernel_rfl
open Go.Extern.Stop Go.Stop Go.Extern
def aN2(t:Addr)(w:Z):(ReflectliteValue.unpack (ak 78 (au (O t)))).run bdP w
 = .ok (.agg #[pq 12 78,pp w.heap.size,.int .u64 150]) (w.alloc (ah #[au (O t)] 78)):=zk
def aN3(a:Addr)(w:Z):(ReflectliteValue.methodAny (ReflectliteValue.valueError "reflectlite.Value.Type" 0) (fun t _ _ _=>ReflectliteType.toType t) #[.agg #[pq 12 78,au (O a),.int .u64 150]]).run bdP w
 = .ok (ak 219 (.agg #[pq 12 78])) w:=zk
def aN4(w:Z):((ReflectliteType.abiMethod fun t=>Functor.map (fun a:Nat=>Value.int IntKind.u8 (a:Int)) (Rtype.kind t)) #[pq 12 78]).run bdP w = .ok (.int .u8 22) w:=zk
def aN5(w:Z):((ReflectliteType.abiMethod fun t=>Functor.map (fun a:Nat=>Value.int IntKind.u8 (a:Int)) (Rtype.kind t)) #[pq 12 27]).run bdP w = .ok (.int .u8 2) w:=zk
def aq8(a:Addr)(w:Z):(ReflectliteValue.parts (.agg #[pq 12 78,au (O a),.int .u64 150])).run bdP w = .ok (O (78,a,150)) w:=zk
def aN6(a p:Addr)(W:Z)(b:W.cell? a=O (au (O p))) :
  (ReflectliteValue.method (ReflectliteValue.valueError "reflectlite.Value.IsNil" 0) ReflectliteValue.isNil #[.agg #[pq 12 78,au (O a),.int .u64 150]]).run bdP W = .ok (.bool ae) W:=by
 rw[Yn];simp only[a3X,aq8,a4D];simp [ReflectliteValue.isNil,loadVar,isAgg,underlying,underlying78,b,a4D]
def aN7(w:Z):(ReflectliteType.method ReflectliteType.elem #[.agg #[pq 12 78]]).run bdP w = .ok (ak 219 (.agg #[pq 12 27])) w:=zk
def aN8(w:Z):(ReflectliteType.relation "Implements" ReflectliteType.implements_ #[.agg #[pq 12 27],ak 219 (.agg #[pq 12 57])]).run bdP w = .ok (.bool G) w:=zk
def aq9(v:Y)(w:Z):(ReflectliteType.typeOf #[ak 27 v]).run bdP w = .ok (ak 219 (.agg #[pq 12 27])) w:=zk
def aN9(w:Z):(ReflectliteType.relation "AssignableTo" ReflectliteType.assignableTo #[.agg #[pq 12 27],ak 219 (.agg #[pq 12 27])]).run bdP w = .ok (.bool G) w:=zk
def aOa(e:Int)(w:Z):(ReflectliteValue.unpack (ak 27 (zi e))).run bdP w
 = .ok (.agg #[pq 12 27,pp w.heap.size,.int .u64 130]) (w.alloc (ah #[zi e] 27)):=zk
def aOb(w:Z):(Rtype.elem? 78).run bdP w = .ok (O 27) w:=zk
def aOc(p:Addr)(w:Z):(ReflectliteValue.mk 27 p ReflectliteValue.flagAddr).run bdP w = .ok (.agg #[pq 12 27,au (O p),.int .u64 386]) w:=zk
def aOd(a p:Addr)(W:Z)(b:W.cell? a=O (au (O p))) :
  (ReflectliteValue.method (ReflectliteValue.valueError "reflectlite.Value.Elem" 0) ReflectliteValue.elem #[.agg #[pq 12 78,au (O a),.int .u64 150]]).run bdP W
   = .ok (.agg #[pq 12 27,au (O p),.int .u64 386]) W:=by
 rw[Yn];simp only[a3X,aq8,a4D];simp [ReflectliteValue.elem,loadVar,isAgg,underlying,underlying78,b,a4D,aOb,aOc]
def aOe(a:Addr)(w:Z):(ReflectliteValue.parts (.agg #[pq 12 27,au (O a),.int .u64 386])).run bdP w = .ok (O (27,a,386)) w:=zk
def aOf(a:Addr)(w:Z):(ReflectliteValue.parts (.agg #[pq 12 27,au (O a),.int .u64 130])).run bdP w = .ok (O (27,a,130)) w:=zk
def aOg(w:Z):(Rtype.directlyAssignable 27 27).run bdP w = .ok G w:=zk
def aOh(a b:Addr)(e:Int)(c:Y)(W:Z)(d:W.cell? b=O (zi e))(ht:W.cell? a=O c)(f:W.frozen? a=ae) :
  (ReflectliteValue.set #[.agg #[pq 12 27,au (O a),.int .u64 386],.agg #[pq 12 27,au (O b),.int .u64 130]]).run bdP W
   = .ok (aq #[]) (W.setCell a (zi e)):=by
 rw[anS];simp only[a3X,aOe,aOf,a4D];simp [ReflectliteValue.flagAddr,loadVar,isAgg,underlying,underlying27,d,a4D,aOg,storeVar,Value.cells,storeCells,Addr.add];rw[run_store bdP W a _ _ (by rfl)];grind
def aOi(e:Int)(t:Addr)(FL:Y)(w:Z)(hg:w.cell? ⟨0,0,V⟩=O (ak 219 (.agg #[pq 12 57])))(La:w.cell? t=O FL)(G9:w.frozen? t=ae) :
  Calls bdP 29 #[ak 27 (zi e),ak 78 (au (O t))] w fun ev w'=>ev = ai (.bool G)/\w'=((((w.alloc (ah #[au (O t)] 78)).alloc (ah #[pq 12 78,pp w.heap.size,.int .u64 150] 158)).alloc (ah #[pq 12 78,pp w.heap.size,.int .u64 150] 158)).alloc (ah #[zi e] 27)).setCell t (zi e):=by
 have h6:=@run_callFunc_extern bdP 54 _ (fun args=>ReflectliteValue.unpack (args.getD 0 (aq #[]))) func54 zk zk zk zk;have h7:=@run_callFunc_extern bdP 55 _ (ReflectliteValue.methodAny (ReflectliteValue.valueError "reflectlite.Value.Type" 0) (fun t _ _ _=>ReflectliteType.toType t)) func55 zk zk zk zk;have h8:=@run_callFunc_extern bdP 56 _ (ReflectliteValue.method (ReflectliteValue.valueError "reflectlite.Value.IsNil" 0) ReflectliteValue.isNil) func56 zk zk zk zk;have Ho:=@run_callFunc_extern bdP 196 _ (ReflectliteType.abiMethod fun t=>do pure (.int .u8 (<- Rtype.kind t))) func196 zk zk zk zk;have h37:=@run_callFunc_extern bdP 238 _ (ReflectliteType.method ReflectliteType.elem) func238 zk zk zk zk;have h38:=@run_callFunc_extern bdP 239 _ (ReflectliteType.relation "Implements" ReflectliteType.implements_) func239 zk zk zk zk;have rz:=@run_callFunc_extern bdP 87 _ ReflectliteType.typeOf func87 zk zk zk zk;have zp:=@run_callFunc_extern bdP 236 _ (ReflectliteType.relation "AssignableTo" ReflectliteType.assignableTo) func236 zk zk zk zk;have uO:=@run_callFunc_extern bdP 88 _ (ReflectliteValue.method (ReflectliteValue.valueError "reflectlite.Value.Elem" 0) ReflectliteValue.elem) func88 zk zk zk zk;have vH:=@run_callFunc_extern bdP 89 _ ReflectliteValue.set func89 zk zk zk zk;have tO:=aq9;have mA:=aeC;have a25:=aN9;have v25:=aOa;have f6:=aN2;have f7:=aN3;have mK:=aez;have mE:=aeA;have mI:=aeB;have k27:=aN4;have k25:=aN5;have e27:=aN7;have i25:=aN8;have n8:=aN6 ⟨w.heap.size,0,V⟩ t ((w.alloc (ah #[au (O t)] 78)).alloc (ah #[pq 12 78,pp w.heap.size,.int .u64 150] 158)) zs;have hlt:0<w.heap.size:=by
  grind [Nat.eq_zero_or_pos,a4n]
 have jt:((w.alloc (ah #[au (O t)] 78)).alloc (ah #[pq 12 78,pp w.heap.size,.int .u64 150] 158)).cell? ⟨0,0,V⟩=O (ak 219 (.agg #[pq 12 57])):=by
  rw[a4q _ _ ⟨0,0,V⟩ zs,a4q _ _ ⟨0,0,V⟩ hlt];exact hg
 have tY:t.block<w.heap.size:=by
  grind [Nat.lt_or_ge,a4n,a6e]
 have el:=aOd ⟨w.heap.size,0,V⟩ t (((w.alloc (ah #[au (O t)] 78)).alloc (ah #[pq 12 78,pp w.heap.size,.int .u64 150] 158)).alloc (ah #[pq 12 78,pp w.heap.size,.int .u64 150] 158)) (by rw[a4q _ _ ⟨w.heap.size,0,V⟩ (by simp;omega)];simp);have st:=aOh t ⟨w.heap.size+1+1+1,0,V⟩ e FL ((((w.alloc (ah #[au (O t)] 78)).alloc (ah #[pq 12 78,pp w.heap.size,.int .u64 150] 158)).alloc (ah #[pq 12 78,pp w.heap.size,.int .u64 150] 158)).alloc (ah #[zi e] 27))
  (by rw[World.cell?_alloc_at _ _ _ _ zs];rfl)
  (by rw[a4q _ _ t (by simp;omega),a4q _ _ t (by simp;omega),a4q _ _ t (by simp;omega),a4q _ _ t tY];exact La)
  (by rw[a4P _ _ t (by simp;omega),a4P _ _ t (by simp;omega),a4P _ _ t (by simp;omega),a4P _ _ t (Nat.ne_of_lt tY)];exact G9)
 go_enter func29,ntmps29
 go_wp2
 refine wp_loop_rounds 1 ?_;rw[rounds_succ]
 go_wp2
 go_ret
 exact⟨J,J⟩
def aOj(w:Z):(ReflectliteType.relation "AssignableTo" ReflectliteType.assignableTo #[.agg #[pq 12 27],ak 219 (.agg #[pq 12 73])]).run bdP w = .ok (.bool ae) w:=zk
def aOk(v:Y)(a:TypeId)(w:Z):(a38 (ak 27 v) a 224 G).run bdP w = .ok (aq #[aj,.bool ae]) w:=run_typeAssert_lacksB underlying224 zk zk v a w
def aOl(v:Y)(a:TypeId)(w:Z):(a38 (ak 27 v) a 227 G).run bdP w = .ok (aq #[aj,.bool ae]) w:=run_typeAssert_lacksB underlying227 zk zk v a w
def aOm(v:Y)(a:TypeId)(w:Z):(a38 (ak 27 v) a 229 G).run bdP w = .ok (aq #[aj,.bool ae]) w:=run_typeAssert_lacksB underlying229 zk zk v a w
def aOn(e:Int)(t:Addr)(FL:Y)(w:Z)(hg:w.cell? ⟨0,0,V⟩=O (ak 219 (.agg #[pq 12 57])))(La:w.cell? t=O FL)(G9:w.frozen? t=ae) :
  Calls bdP 29 #[ak 27 (zi e),ak 75 (au (O t))] w fun ev w'=>ev = ai (.bool ae)/\w'=(((w.alloc (ah #[au (O t)] 75)).alloc (ah #[pq 12 75,pp w.heap.size,.int .u64 150] 158)).alloc (ah #[pq 12 75,pp w.heap.size,.int .u64 150] 158)):=by
 have h6:=@run_callFunc_extern bdP 54 _ (fun args=>ReflectliteValue.unpack (args.getD 0 (aq #[]))) func54 zk zk zk zk;have h7:=@run_callFunc_extern bdP 55 _ (ReflectliteValue.methodAny (ReflectliteValue.valueError "reflectlite.Value.Type" 0) (fun t _ _ _=>ReflectliteType.toType t)) func55 zk zk zk zk;have h8:=@run_callFunc_extern bdP 56 _ (ReflectliteValue.method (ReflectliteValue.valueError "reflectlite.Value.IsNil" 0) ReflectliteValue.isNil) func56 zk zk zk zk;have Ho:=@run_callFunc_extern bdP 196 _ (ReflectliteType.abiMethod fun t=>do pure (.int .u8 (<- Rtype.kind t))) func196 zk zk zk zk;have h37:=@run_callFunc_extern bdP 238 _ (ReflectliteType.method ReflectliteType.elem) func238 zk zk zk zk;have h38:=@run_callFunc_extern bdP 239 _ (ReflectliteType.relation "Implements" ReflectliteType.implements_) func239 zk zk zk zk;have rz:=@run_callFunc_extern bdP 87 _ ReflectliteType.typeOf func87 zk zk zk zk;have zp:=@run_callFunc_extern bdP 236 _ (ReflectliteType.relation "AssignableTo" ReflectliteType.assignableTo) func236 zk zk zk zk;have tO:=aq9;have i1:=aOk;have i2:=aOl;have i3:=aOm;have mA:=aeC;have a25:=aOj;have f6:=anK;have f7:=anL;have mK:=aez;have mE:=aeA;have mI:=aeB;have k27:=anM;have k25:=anN;have e27:=anQ;have i25:=anR;have n8:=anP ⟨w.heap.size,0,V⟩ t ((w.alloc (ah #[au (O t)] 75)).alloc (ah #[pq 12 75,pp w.heap.size,.int .u64 150] 158)) zs;have hlt:0<w.heap.size:=by
  grind [Nat.eq_zero_or_pos,a4n]
 have jt:((w.alloc (ah #[au (O t)] 75)).alloc (ah #[pq 12 75,pp w.heap.size,.int .u64 150] 158)).cell? ⟨0,0,V⟩=O (ak 219 (.agg #[pq 12 57])):=by
  rw[a4q _ _ ⟨0,0,V⟩ zs,a4q _ _ ⟨0,0,V⟩ hlt];exact hg
 have tY:t.block<w.heap.size:=by
  grind [Nat.lt_or_ge,a4n,a6e]
 go_enter func29,ntmps29
 go_wp2
 refine wp_loop_rounds 1 ?_;rw[rounds_succ]
 go_wp2
 go_ret
 exact⟨J,J⟩
