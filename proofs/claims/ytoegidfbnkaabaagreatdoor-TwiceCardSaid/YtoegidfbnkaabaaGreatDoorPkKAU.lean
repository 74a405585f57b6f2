/- A part of one proof (KW7, KM1, KW8, KQ1, ShX6, ShX6b, KE1, ShB2, PX3, PX4). -/
import Derived.Test.YtoegidfbnkaabaaGreatDoorPkKAT
import Derived.Recover
import Derived.Tactics
import Derived.Tactics2
set_option linter.all false
set_option maxRecDepth 100000
set_option maxHeartbeats 8000000
open Option renaming some → O, none → V
open Go renaming Value → Y, World → Z
open Bool renaming true → A, false → ae
open Go.Obj renaming cells → ah
open Go.Ending renaming returned → ai
open Go.Value renaming nilIface → aj, iface → ak, tuple → aq, pointer → au
open Option.some renaming injEq → a0z
open Go.Calls renaming mono → a0C
open Nat renaming le_trans → a0E
open Go.Instr renaming typeAssert → a0T
open Go.World renaming ownsRow_nil → a00
open Bool renaming false_eq_true → a06
open Go.Exit renaming thenS → a1i
open Go.Value renaming ownBlock → a1k
open List renaming getElem?_cons_zero → a1T, toList_toArray → a2n
open Go.MapKept renaming run_setObj_map → a2s
open Go.Act renaming eval → a22
open Go.Proofs.Tryz renaming prog → baA
open Go.Proofs.Tryz
namespace Go.Proofs.YtoegidfbnkaabaaGreatDoor
open P
open Go.RowKit Sx
variable{B M b base d e f i m mb n o pb tb xb:Nat}{F:Nat->Prop}{T:List P.Tok}{a:Act}{av nm u v z:Y}{cs:Array Y}{s:Bs}{vs:List Y}{w w0:Z}
section
variable{D:Nat->Prop}{ρ:Nat->Nat}{wb mb:Nat}{todo av vv tv:Y}{dk:List Y}{w w':Z}{k:Wk}
def ko.place(h:ko D ρ wb mb todo av vv tv dk w k)(hm:m<k.br.length):∃ g ac cur a cv b fX us,av = cU g k.br.length ac/\k.br.length<=ac/\w.heap[g]?=aP cur 356/\cur.size=ac*4 /\
  cur[m*4]?=O (zi ((k.br[m]).mark:Nat))/\cur[m*4+1]?=O a/\cur[m*4+2]?=O cv/\cur[m*4+3]?=O b /\
  uJ ρ k.n w a (k.br[m]).todo/\ou w 79 cv fX/\kr (fun _=>True) w fX (k.br[m]).clauses/\fO (fun _=>True) w 89 b us/\pU ρ k.n w us (k.br[m]).args:=by
 obtain⟨a,cv,b,fX,us,o,g2,g3,g4,g5,g6⟩:=h.ag.at m hm;rcases h.ar.2 with⟨-,c⟩| ⟨g,cap,cur,d,c,e,f,p,i,q⟩
 .exact yH
 .have l:∀ j,j<4->cur[m*4+j]?=[Value.int .i64 ((k.br[m]).mark:Nat),a,cv,b][j]?:=zg;exact⟨g,cap,cur,a,cv,b,fX,us,d,f,e,i,l 0 zo,zg,zg,zg,g2,g3,g4,g5,g6⟩
end
section
variable{D:Nat->Prop}{ρ:Nat->Nat}{wb mb:Nat}{vv:Y}{w w':Z}{k:Wk}
def aLt(h:P5 D ρ wb mb vv w k)(hD:∀ b,w.heap.size<=b->D b){base:List Cl}(hB:Bv w mb base)(fx:∀ c∈base,sN M c)(hM:M<=100000)(K:B<=800000000)
  (hg:kP M B k) {r:Except iM (Bool×Wk)} (hr:ju base d f A k=O r) :
  Calls baA 223 #[pp wb] w (EPost D w (Fw D ρ k.n wb mb vv) r):=by
 refine aKP ?_;refine⟨fun n s w1=>∃ (ok:Bool) (F:Nat->Nat) (j:Wk),s 3 = .bool ok/\eC ρ k.n F j.n/\P5 D F wb mb vv w1 j/\di D w w1/\kP M B { j with todo:=if ok then j.todo else [] }/\ju base d n ok j=O r,
  ⟨f,A,ρ,k,J,eC.refl _ _,h,yF,hg,hr⟩,?_⟩
 intro n s dd w1 hI;clear dd;obtain⟨ok,F,j,h3,uN,IZ,dC,H,u⟩:=hI;cases n with
 | zero=>simp [ju] at u
 | succ n=>
 have s1:=dC.size;have Ig:∀ {q:Except iM (Bool×Wk)} {z:Nat->Nat} {n2:Nat} {w2:Z} {e:Ending} {w3:Z} {r0:P.Out (Bool×Wk)},eC ρ k.n z n2->di D w w2->EPost D w2 (Fw D z n2 wb mb vv) q e w3->r0=O q ->
   P.Out.bind r0 (fun p=>ju base d n p.1 p.2)=O r->(∀ p,q = .ok p->kP M B { p.2 with todo:=if p.1 then p.2.todo else [] }) ->
   ends (fun x w'=>∃ m,m<n+1/\∃ (ok:Bool) (F:Nat->Nat) (j:Wk),(jk [(3,x)]) 3 = .bool ok/\eC ρ k.n F j.n/\P5 D F wb mb vv w' j/\di D w w'/\kP M B { j with todo:=if ok then j.todo else [] }/\ju base d m ok j=O r)
    (PC (EPost D w (Fw D ρ k.n wb mb vv) r)) e w3:=by
  intro q z n2 w2 e w3 r0 hu hE t hq0 y ao9;rw[hq0] at y;obtain⟨R,t⟩:=t;cases q with
  | error te=>
   cases y;have t:e=gW te:=t;subst t;cases te<;>exact⟨yF,J⟩
  | ok p=>
   obtain⟨rfl,ρ3,Nt,Qi⟩:=t;exact⟨n,Nat.lt_succ_self _,p.1,ρ3,p.2,J,hu.trans Nt,Qi,yF,zg,y⟩
 obtain⟨todo,av,tv,dk,I⟩:=IZ;have c1:=I.cell;have Ct:j.sr.tr.length+j.sr.fuel<=800000000:=a0E H.cW K;have M8:j.br.length+j.sr.fuel<=800000000:=a0E H.mR K;refine⟨fun _ w2=>∃ (z:Nat->Nat) (l:Wk),eC ρ k.n z l.n/\P5 D z wb mb vv w2 l/\di D w w2/\kP M B l/\∃ m,m<n+1/\(ju base d (m+1) A l=O r),?_,?_⟩
 .cases ok with
  | true=>
   refine cM h3 ?_;exact⟨F,j,uN,⟨_,_,_,_,I⟩,dC,H,n,Nat.lt_succ_self _,u⟩
  | false=>
   simp only[a06,if_false] at H;obtain⟨aa,ac,L⟩:=ij I.ar;refine jt h3 @c1 L ?_;rw[ju] at u;by_cases hle:j.br.length=0
   .have hlt:(j.br.length:Int)-1<0:=zo;rw[List.eq_nil_of_length_eq_zero hle] at u;cases u;refine cM hlt ?_;exact⟨dC,J,F,uN,_,_,_,_,I⟩
   have hlt:¬ (j.br.length:Int)-1<0:=zo;obtain⟨m,hm⟩:∃ m,j.br.length=m+1:=⟨j.br.length-1,zo⟩;have wY:m<j.br.length:=zo;have Qj:j.br.getLast?=O j.br[m]:=zg;rw[Qj] at u;obtain⟨g,ac',cur,tp,cv,xn,fX,us,e1,e2,xL,jr,q0,q1,q2,q3,i1,i2,i3,i4,i5⟩:=I.place wY;rw[L] at e1;simp only[Value.slice.injEq,true_and] at e1;obtain⟨rfl,rfl⟩:=e1;have lg:=bn xL;have aeY:(j.br.length:Int)-1=(m:Nat):=zo;have NN:((m:Nat):Int).toNat=m:=zo;rw[aeY] at hlt ⊢;obtain⟨u1,u2,u3,u4⟩:=H.gO Qj;have dE:Ext w1 w1.drew:=yF;have hm4:m*4<ac*4:=zo;have hmi:((m:Nat):Int)<(j.br.length:Nat):=zo;refine dL hlt @c1 L (zA @NN (zA xL @q0)) ?_;refine a0C (aee (I.ext dE).less Fv u3 zo) ?_;rintro e w2 ⟨rfl,S,x8,mB⟩;obtain⟨C,TB⟩:=(I.ext dE).store mB S;have rL:di D w1 w2:=(di.ed dE).trans TB;have T:eM w1 w2:=di.toI rL;have G:w2.heap[g]?=aP cur 356:=S.block _ _ xL (by rintro ⟨⟨-,U⟩,-⟩;rw[L] at U;exact U J);have lg2:=bn G;have c2:=C.cell;have l2:=bn c2;have s2:=rL.size;obtain⟨tq,rfl⟩:=i1.ptr;obtain⟨aa',aWB,W⟩:=i4.sl;obtain⟨X4,cvn,TP,jg⟩:∃ a n c,cv = .slice a n c:=by
    rcases i2 with⟨-,rfl⟩| ⟨b,o,cap,cs,rfl,-⟩<;>exact zg
   have NL:=q2;have CP:=q3;rw[jg] at NL;rw[W] at CP;refine dB G @NL ?_;have kN:=u1.ag _ _ u2;by_cases xP:(j.br[m]).clauses=[]
   .have:fX=[]:=by rw[xP] at i3;exact i3
    subst this;have T4:cv = b9:=by
     rcases i2 with⟨-,h⟩| ⟨b,o,cap,cs,-,-,-,-,h⟩<;>grind
    rw[jg] at T4;cases T4;simp only[xP] at u;have TO:((m:Nat):Int)<=(ac:Nat):=zo;obtain⟨PT,iW⟩:=P8 (by have:=C.ar;grind:w2.ownsRow 0 356 4 (cU g j.br.length ac) j.br.length dk);refine dL G @q1 @c2 (zA L iW) ?_;obtain⟨w3,sI⟩:=ck (bT w2 wb (ah #[.map (O mb),x8,zi (j.sr.fuel:Nat),.pointer tq,cU g j.br.length ac,vv] 130));obtain⟨vl,R⟩:=C.KX (w1:=w3) (i1.bJ T (eC.refl _ _)) zg;obtain⟨N,jw⟩:=ck (bT w2 wb (ah #[.map (O mb),x8,zi (j.sr.fuel:Nat),.pointer tq,cU g m ac,vv] 130));obtain⟨hx4,gn⟩:=vl.forget (m:=m) (w1:=N) (Nat.le_of_lt wY) L (by grind [RR]);have hfu:(j.sr.gO (j.br[m]).mark).fuel=j.sr.fuel:=rfl;rw[hfu,<- jw];have X:=H.back Qj;have Mc:j.br.dropLast=j.br.take m:=by grind [List.dropLast_eq_take,Nat.add_sub_cancel]
    rw[Mc] at X u;refine⟨F,{ j with sr:=j.sr.gO (j.br[m]).mark,todo:=(j.br[m]).todo,br:=j.br.take m },uN,⟨_,_,_,_,hx4⟩,yF,X,?_⟩;cases n with
    | zero=>grind [ju]
    | succ n=>grind
   .have jP:fX≠[]:=by
     rintro rfl;cases hx:(j.br[m]).clauses with
     | nil=>grind
     | cons c0 l0=>rw[hx] at i3;obtain⟨_,_,h0,-⟩:=i3;grind
    obtain⟨cb,co,aLx,ccs,K6,gX,-,-,-⟩:=i2.resolve_left zg;rw[jg] at K6;cases K6;have u:P.Out.bind (sL d (j.br[m]).args (j.br[m]).clauses (j.br[m]).todo m { j with sr:=j.sr.gO (j.br[m]).mark }) (fun p=>ju base d n p.1 p.2)=O r:=by
     grind
    have Ed:Ext w2 w2.drew:=yF;refine dL G @q1 @NL @CP ?_;obtain⟨q,y,-⟩:∃ q,sL d (j.br[m]).args (j.br[m]).clauses (j.br[m]).todo m { j with sr:=j.sr.gO (j.br[m]).mark }=O q/\True:=by
     cases hx:sL d (j.br[m]).args (j.br[m]).clauses (j.br[m]).todo m { j with sr:=j.sr.gO (j.br[m]).mark } with
     | none=>rw[hx] at u;cases u
     | some q=>grind
    have T5:eM w1 w2.drew:=T.trans (eM.ed Ed);refine a0C (aoI (C.ext Ed) yH (M:=M) (f:=d) (m:=m) (r:=q) ((by grind:ou w1 79 (.slice (O ⟨cb,co,V⟩) fX.length TP) fX).bJ fun b cs U=>T5 _ _ _ (yM) U) (i3.iJ T5)
     (W ▸ i4.iJ T5 (yM)) (i5.P4 T5 (eC.refl _ _)) kN.args kN.cls hM (i1.bJ T5 (eC.refl _ _)) (Nat.le_of_lt wY) zg (a0E u1.cW K) zg y) ?_
    rintro e w3 t;refine Ig uN yF t y u fun p t=>?_;subst t;have pL:m=j.br.length-1:=zo;have Qk:sL d (j.br[m]).args (j.br[m]).clauses (j.br[m]).todo (j.br.length-1) { j with sr:=j.sr.gO (j.br[m]).mark }=O (.ok p):=by rw[<- pL];exact y
    exact(H.again Qj Qk).1
 .rintro s2 w2 ⟨z,l,Fx,⟨apf,uI,x8,Qa,C⟩,S,G,m,hmn,E⟩ d2;clear d2;have c2:=C.cell;have l2:=bn c2;have amK:l.sr.tr.length+l.sr.fuel<=800000000:=a0E G.cW K;have aWD:l.br.length+l.sr.fuel<=800000000:=a0E G.mR K;have s02:=S.size;rw[ju] at E;cases Q:l.todo with
  | nil=>
   rw[Q] at E;cases E;have htv:apf = .pointer none:=by have:=C.td;rw[Q] at this;exact this
   subst htv;refine cM @c2 ?_;obtain⟨wf,CR⟩:=ck (w2.alloc (ah #[.int .u8 103,aW [102,97,105,108],b9,b9] 149 (0,0)));have aWF:Ext w2 wf:=yF;have gf:wf.heap[w2.heap.size]?=aP #[.int .u8 103,aW [102,97,105,108],b9,b9] 149:=yH;have sf:wf.heap.size=w2.heap.size+1:=yH;obtain⟨N,jw⟩:=ck (wf.alloc (ah #[pp w2.heap.size,b9,zi 0,au V] 207));have g4:N.heap[wf.heap.size]?=aP #[pp w2.heap.size,b9,zi 0,au V] 207:=yH;have aLz:Ext w2 N:=yF;rw[<- CR,<- jw,<- sf];have Yg:dM (fun _=>True) N (pp w2.heap.size) yA:=by
    unfold yA dM;exact⟨_,_,_,[],[],J,trivial,yH,.inl ⟨J,J⟩,by unfold eT;rfl,.inl ⟨J,J⟩,by unfold gF;rfl⟩
   have gl:uJ z l.n N (pp wf.heap.size) [⟨O yA,[],0⟩]:=⟨_,_,_,_,J,g4,Yg,.inl ⟨J,J⟩,zg,J⟩;obtain⟨r1,r2⟩:=(C.ext aLz).KX gl J;exact⟨yF,J,z,Fx,_,_,_,_,r1⟩
  | cons g rest=>
   rw[Q] at E;simp only at E;obtain⟨gb,wv,gv,nx,rfl,Bn,DE,mF,G7,MQ⟩:∃ b wv gv nx,apf=pp b/\w2.heap[b]?=aP #[wv,gv,zi (g.cut:Nat),nx] 207/\P3 w2 wv g.Bm /\
     fO (fun _=>True) w2 89 gv (mY z g.vars)/\(∀ i∈g.vars,i<l.n)/\uJ z l.n w2 nx rest:=by have:=C.td;rw[Q] at this;exact this
   have lgb:=bn Bn;obtain⟨nq,rfl⟩:=MQ.ptr;refine dB @c2 Bn ?_;obtain⟨vl,R⟩:=C.KX MQ J;have Ej:nw M l.n l.br.length (g::rest):=by rw[<- Q];exact G.todo
   have hgk:kP M B { l with todo:=g::rest }:=by rw[<- Q];omega
   obtain⟨q,y⟩:∃ q,y5 base d g { l with todo:=rest }=O q:=by
    cases hx:y5 base d g { l with todo:=rest } with
    | none=>rw[hx] at E;cases E
    | some q=>grind
   have hr3:P.Out.bind (y5 base d g { l with todo:=rest }) (fun p=>ju base d n p.1 p.2)=O r:=by
    rw[y] at E ⊢;cases q with
    | error e=>exact E
    | ok p=>exact Xa E zo zo
   have K0:eM w2 _:=di.toI R;refine a0C (aLi (r:=q) (f:=d) vl (fun b U=>hD b (by have:=R.size;omega)) ((hB.fr S).fr R) fx hM (K0 _ _ _ (yM) Bn) (DE.bJ K0) (mF.iJ K0 (yM)) G7 Ej.1 Ej.2.2.1 (a0E G.cW K) (by show l.br.length<_;omega) y) ?_;rintro e w3 t;refine Ig Fx yF t y hr3 fun p t=>?_;subst t;exact(ac7 hgk C.st.ok fx y).1
end
namespace Sx
open Go
def oO(l:List (List UInt8×Y))(i:Nat):List MapEntry:=match l with
 | []=>[]
 | (s,v)::r=>{ key:=.string (bs s),val:=v,born:=i }::oO r (i+1)
def eP(l:List (List UInt8×Y)):Obj:=.map (oO l 0).toArray l.length
def fP(s:List UInt8):List (List UInt8×Y)->Nat->Option (Nat×Y)
 | [],_=>V
 | (u,v)::r,i=>if u=s then O (i,v) else fP s r (i+1)
theorem Ql:∀ (l:List (List UInt8×Y)) (i:Nat),Mn (oO l i)
 | [],_=>fun e he=>by cases he
 | (s,v)::r,i=>fun e he=>by
  rcases List.mem_cons.1 he with rfl | he
  .grind
  .exact Ql r (i+1) e he
def aLB(s:List UInt8):RZ (aW s)=O s:=rfl
def Qm(s:List UInt8):∀ (l:List (List UInt8×Y)) (i j:Nat),AT s (oO l i) j=fP s l j
 | [],_,_=>rfl
 | (u,v)::r,i,j=>by
  unfold oO AT fP;rw[aLB,Qm s r (i+1) (j+1)];grind
def ae0(s:List UInt8)(v:Y):∀ (l:List (List UInt8×Y)) (i:Nat),oO l i++[{ key:=aW s,val:=v,born:=i+l.length }]=oO (l++[(s,v)]) i
 | [],i=>rfl
 | (u,x)::r,i=>by
  show _::(oO r (i+1)++_)=_::oO (r++[(s,v)]) (i+1);rw[<- ae0 s v r (i+1)];grind
def Yh{s:List UInt8}:∀ {l:List (List UInt8×Y)} {i j:Nat} {v:Y},fP s l i=O (j,v)->i<=j/\l[j-i]?=O (s,v)
 | [],_,_,_,h=>by cases h
 | (u,x)::r,i,j,v,h=>by
  unfold fP at h;split at h
  .grind
  .obtain⟨a,b⟩:=Yh h;grind
theorem Yi(s t:List UInt8)(v:Y):∀ (l:List (List UInt8×Y)) (i:Nat),fP s (l++[(t,v)]) i=match fP s l i with | some p=>O p | none=>if t=s then O (i+l.length,v) else V
 | [],i=>by simp [fP]
 | (u,x)::r,i=>by
  show fP s ((u,x)::(r++[(t,v)])) i=_;unfold fP;split
  .rfl
  .rw[Yi s t v r (i+1)];grind
def aph{s t:List UInt8}{v u:Y}:∀ {l:List (List UInt8×Y)} {i j:Nat},fP t l i=O (j,u)->fP s (l.set (j-i) (t,v)) i=if s=t then O (j,v) else fP s l i
 | [],_,_,h=>by cases h
 | (x,y)::r,i,j,h=>by
  unfold fP at h;split at h
  .rename_i hx;simp only[a0z,Prod.mk.injEq] at h;obtain⟨rfl,rfl⟩:=h;subst hx;rw[Nat.sub_self,List.set_cons_zero];unfold fP;grind
  .rename_i hx;have b:=(Yh h).1;rw[show j-i=(j-(i+1))+1 by omega,List.set_cons_succ];unfold fP;by_cases a:x=s
   .grind
   .rw[bO a,bO a,aph h]
def ae1{s:List UInt8}{v u:Y}{g:MapEntry->MapEntry}(a:∀ b,g { key:=aW s,val:=u,born:=b }={ key:=aW s,val:=v,born:=b }) :
  ∀ {l:List (List UInt8×Y)} {i j:Nat},l[j]?=O (s,u)->(oO l i).modify j g=oO (l.set j (s,v)) i
 | (x,y)::r,i,0,h=>by
  simp only[a1T,a0z,Prod.mk.injEq] at h;obtain⟨rfl,rfl⟩:=h;simp only[oO,List.set_cons_zero,List.modify_zero_cons,a]
 | (x,y)::r,i,j+1,h=>by
  have h:r[j]?=O (s,u):=zg;simp only[oO,List.set_cons_succ,List.modify_succ_cons,ae1 a h]
section
variable{P:Program}{w:Z}{X:Y->Z->Prop}{l:List (List UInt8×Y)}{r:Nat}
def K7{t k e:TypeId}{z:Y}{K:Y->Prop}(ht:AS P t=O (k,e))(a:wi P k=A)(c:zK P e=O z)(d:w.heap[r]?=O (eP l))(s:List UInt8)(b:Bool) :
  RD P (Instr.lookup t (.map (O r)) (aW s) b) w K X =
   match fP s l 0 with
   | some (_,v)=>K (if b then aq #[v,.bool A] else v)
   | none=>K (if b then aq #[z,.bool ae] else z):=by
 rw[ajl ht a c d (by grind [Ql])];rw[a2n,Qm];grind
def yh{t k e:TypeId}{K:Z->Prop}(ht:AS P t=O (k,e))(a:wi P k=A)(hm:w.heap[r]?=O (eP l))(s:List UInt8)(b:fP s l 0=V)(v:Y) :
  WU P (Instr.mapUpdate t (.map (O r)) (aW s) v) w K X=K (bT w r (eP (l++[(s,v)]))):=by
 rw[axe ht a hm (by grind [Ql]) s (by rw[a2n,Qm];omega) v]
 congr 2
 unfold eP;have:=ae0 s v l 0;grind
def api{t k e:TypeId}{K:Z->Prop}(ht:AS P t=O (k,e))(d:wi P k=A)(hm:w.heap[r]?=O (eP l))(s:List UInt8)(a:fP s l 0=O (i,u))(v:Y) :
  WU P (Instr.mapUpdate t (.map (O r)) (aW s) v) w K X=K (bT w r (eP (l.set i (s,v)))):=by
 rw[axf ht d hm (by grind [Ql]) s (by rw[a2n,Qm];exact a) v]
 congr 2
 unfold eP;have c:=(Yh a).2;rw[Nat.sub_zero] at c;rw[List.length_set,<- ae1 (g:=fun e=>{ e with key:=aW s,val:=v }) (fun b=>rfl) c];grind
def aLC{t k e:TypeId}{K:Y->Z->Prop}(ht:AS P t=O (k,e))(a:wi P k=A)(d:zK P e=O z)(hm:w.heap[r]?=O (eP l))(s:List UInt8)(f:fP s l 0=V) :
  WR P (Instr.mapEntry t (.map (O r)) (aW s)) w K X=K (aq #[z,zi l.length]) (bT w r (eP (l++[(s,z)]))):=by
 have g:=V3 (P:=P) (w:=w) (b:=false) (n:=9999) (t:=k) (s:=bs s) a;have c:=V4 (P:=P) (w:=w) a s (es:=(oO l 0).toArray.toList) (by simpa using Ql l 0);rw[a2n,Qm,f] at c;have h:bT w r (eP (l++[(s,z)]))=bT w r (.map ((oO l 0).toArray.push { key:=aW s,val:=z,born:=l.length }) (l.length+1)):=by
  unfold eP;have:=ae0 s z l 0;grind
 rw[h];refine xB ?_;simp [Instr.mapEntry,run_underlying (Gb ht),Gc (show w.heap[r]?=O (.map (oO l 0).toArray l.length) from hm),g,c,EG d,a2s _ (show w.heap[r]?=O (.map (oO l 0).toArray l.length) from hm),bT,goInt]
def find_born{i:Nat}:∀ {l:List (List UInt8×Y)} {j:Nat},i<l.length->(oO l j).findIdx? (fun e=>(e.born:Int) == ((j+i:Nat):Int))=O i
 | [],_,h=>zg
 | (u,x)::r,j,h=>by
  unfold oO;rw[List.findIdx?_cons];cases i with
  | zero=>simp
  | succ i=>
   have a:(j:Int)≠((j+(i+1):Nat):Int):=zo;have b:=find_born (i:=i) (l:=r) (j:=j+1) zg;grind
def aLD{t:TypeId}{K:Z->Prop}(hm:w.heap[r]?=O (eP l)){s:List UInt8}(a:l[i]?=O (s,u))(v:Y) :
  WU P (Instr.entryStore t (.map (O r)) (zi i) v) w K X=K (bT w r (eP (l.set i (s,v)))):=by
 have d:=(List.getElem?_eq_some_iff.1 a).1;have c:=find_born (l:=l) (j:=0) d;rw[Nat.zero_add] at c;have f:bT w r (eP (l.set i (s,v)))=bT w r (.map ((oO l 0).toArray.modify i fun e=>{ e with val:=v }) l.length):=by
  unfold eP;rw[List.length_set,<- ae1 (g:=fun e=>{ e with val:=v }) (fun b=>rfl) a];grind
 rw[f];refine RL ?_;simp [Instr.entryStore,Gc (show w.heap[r]?=O (.map (oO l 0).toArray l.length) from hm),c,a2s _ (show w.heap[r]?=O (.map (oO l 0).toArray l.length) from hm),bT,asInt,asIntOf]
end
end Sx
def yi(l:List Cl)(s:Bs):List Cl:=l.filter fun c=>P.keyOf c.name c.args.length == s
def aLE(l:List Cl)(c:Cl)(s:Bs):yi (l++[c]) s=if P.keyOf c.name c.args.length=s then yi l s++[c] else yi l s:=by
 unfold yi;grind
def kr.CN{F:Nat->Prop}{w:Z}:∀ {xs:List Cl} {vs:List Y} (j:Nat) (b:j<xs.length),kr F w vs xs->∃ v,vs[j]?=O v/\EZ F w v xs[j]
 | x::xs,vs,0,_,⟨u,r,c,d,a⟩=>zg
 | x::xs,vs,j+1,b,⟨u,r,c,d,a⟩=>by
  obtain⟨v,g1,g2⟩:=kr.CN j zg a;grind
def kr.len{F:Nat->Prop}{w:Z}:∀ {xs:List Cl} {vs:List Y},kr F w vs xs->vs.length=xs.length
 | [],vs,h=>by have h:vs=[]:=h;grind
 | y::c,vs,⟨u,r,a,d,b⟩=>by rw[a];simp [kr.len b]
structure T6(w0 w:Z)(l:List (List UInt8×Y))(cs:List Cl):Prop where
 row:∀ s,match fP s l 0 with
  | none=>yi cs s=[]
  | some (_,v)=>yi cs s≠[]/\∃ vs,w.ownsRow (w0.heap.size+1) 79 1 v (yi cs s).length vs/\kr (fun _=>True) w0 vs (yi cs s)
 sep:∀ s t i j v u,fP s l 0=O (i,v)->fP t l 0=O (j,u)->s≠t->v.ownBlock≠u.ownBlock
def T6.own{l:List (List UInt8×Y)}{cs:List Cl}(h:T6 w0 w l cs)(a:fP s l 0=O (i,v)):∃ g,v.ownBlock=O g:=by
 have:=h.row s;rw[a] at this;obtain⟨c,vs,b,-⟩:=this;rcases b.2 with⟨-,d⟩| ⟨g,cap,cur,rfl,-⟩
 .grind
 .exact⟨g,J⟩
theorem T7(h:w.ownsRow base e 1 v n vs)(b:n=vs.length):fO (fun _=>True) w e v vs:=by
 subst b;rcases h.2 with⟨c,a⟩| ⟨g,cap,cur,rfl,a,d,f,i,j,k⟩
 .have a:vs.length=0:=a;exact .inl zg
 .have l:cur.size=cap:=zo;exact .inr yH
def aLF{base:List Cl}(hv:fO (fun _=>True) w 79 v vs)(T:kr (fun _=>True) w vs base)(dj:∀ c∈base,c.name.length<=100/\c.args.length<=4)(hn:base.length<=100000) :
  Calls baA 39 #[v] w fun e w'=>Ext w w'/\∃ mb,e = ai (.map (O mb))/\w.heap.size<=mb/\Bv w' mb base:=by
 have NO:vs.length=base.length:=T.len;obtain⟨sa,sc,rfl⟩:=hv.sl;refine aKT ?_;obtain⟨w1,jS⟩:=ck (w.alloc (eP []));have Yj:w.alloc (.map #[] 0)=w1:=jS.symm;have dC:Ext w w1:=yF;have m1:w1.heap[w.heap.size]?=O (eP []):=yH;refine bF ?_;rw[Yj];refine⟨fun m z w'=>∃ (j:Nat) (l:List (List UInt8×Y)),z 10=zi (j:Nat)/\j<=base.length/\m=base.length-j/\Ext w w'/\w'.heap[w.heap.size]?=O (eP l)/\T6 w w' l (base.take j),
  ⟨_,0,[],J,Nat.zero_le _,J,dC,m1,⟨(by grind [fP,yi]),(by grind [fP])⟩⟩,?_⟩
 intro m z d w2 hI;refine toPr ?_;obtain⟨j,l,U,hj,rfl,C,m2,D⟩:=hI;by_cases hlt:j<base.length
 .obtain⟨rb,rcs,L,-,M,I⟩:=hv.at' (j:=j) zo;obtain⟨cv,e2,jg⟩:=T.CN j hlt;rw[e2] at I;simp only[Value.slice.injEq,true_and] at L;obtain⟨rfl,rfl⟩:=L;obtain⟨cb,cav,cbv,X4,TP,rfl,-,gX,⟨xus,lY,xF⟩,nK⟩:=id jg;obtain⟨xa,xc,rfl⟩:=lY.sl;have JJ:xus.length=(base[j]).args.length:=eT.Ft xF;have r2':=C.ext _ _ M;have IV:=C.ext _ _ gX;have qG:(j:Int)<(base.length:Int):=zo;have ej:(j:Int).toNat=j:=zo;obtain⟨my,kU⟩:=dj _ (List.getElem_mem hlt);refine dL NO U @r2' (zA @I (zA IV @ej)) ?_;rw[JJ];refine a0C (aoN (base[j]).name (base[j]).args.length my zo _) ?_;rintro e w3 ⟨rfl,rfl⟩;have m3:w2.drew.heap[w.heap.size]?=O (eP l):=m2;obtain⟨key,O3⟩:=ck (P.keyOf (base[j]).name (base[j]).args.length);rw[<- O3];refine bF ?_;rw[K7 (k:=9) (e:=68) zk zk (z:=b9) zk m3];have W:=D.row key;obtain⟨F,jw⟩:=ck (w2.drew.alloc (ah #[pp cb] 79));have y:Ext w2 F:=yF;have g4:F.heap[w2.heap.size]?=aP #[pp cb] 79:=yH;have m4:=y.ext _ _ m2;have s2:=C.size;have s4:=y.size;have abz:w.heap.size<w2.heap.size:=yH;have N:∀ {x:Y} {n:Nat} {xs:List Y},F.ownsRow (w.heap.size+1) 79 1 x n xs->O w.heap.size≠x.ownBlock:=fun h e=>by
   rcases h.2 with⟨a,-⟩| ⟨g,cap,cur,a,f,-⟩
   .rw[a] at e;cases e
   grind [a1k,a0z]
  have kT:∀ {x v':Y} {n:Nat} {xs:List Y} {q:Z} {l':List (List UInt8×Y)},F.ownsRow (w.heap.size+1) 79 1 x n xs->q.ownsRow (w.heap.size+1) 79 1 v' (n+1) (xs++[pp cb]) ->
    F.grownBy q x.ownBlock->(v'.ownBlock=x.ownBlock\/∀ k,v'.ownBlock=O k->F.heap.size<=k)->n=(yi (base.take j) key).length->kr (fun _=>True) w xs (yi (base.take j) key) ->
    (∀ t i u,t≠key->fP t l 0=O (i,u)->u.ownBlock≠x.ownBlock)->(∀ t,t≠key->fP t l' 0=fP t l 0)->(∃ i,fP key l' 0=O (i,v')) ->
    Ext w (bT q w.heap.size (eP l'))/\(bT q w.heap.size (eP l')).heap[w.heap.size]?=O (eP l')/\T6 w (bT q w.heap.size (eP l')) l' (base.take (j+1)):=by
   intro x v' n xs q l' hx DR E dU xQ aLH eh X Q;obtain⟨ik,Q⟩:=Q;have R:q.heap[w.heap.size]?=O (eP l):=by rw[E.block _ (bn m4) (N hx)];exact m4
   have lm5:=bn R;have rq:Ext w q:=⟨E.os.trans (y.os.trans C.os),E.tape.trans (y.tape.trans C.tape),E.output.trans (y.output.trans C.output),zo,fun b o hb _=>by
    rw[E.block b (yH) (fun e=>?_)]
    .exact y.ext _ _ (C.ext _ _ hb)
    .have:=bn hb;rcases hx.2 with⟨a,-⟩| ⟨g,cap,cur,a,f,-⟩
     .rw[a] at e;cases e
     grind [a1k,a0z]⟩
   have hold:∀ {u:Y} {k:Nat} {us:List Y},w2.ownsRow (w.heap.size+1) 79 1 u k us->∀ g,u.ownBlock=O g->g<F.heap.size:=fun h g E=>by
    rcases h.2 with⟨a,-⟩| ⟨g',cap,cur,a,f,r,-⟩
    .rw[a] at E;cases E
    grind [a1k,a0z,bn]
   refine⟨yF,yH,?_,?_⟩
   .intro t;rw[List.take_succ_eq_append_getElem hlt,aLE,<- O3];by_cases ht:key=t
    .subst ht;rw[zip J,Q];simp only;refine⟨zs,xs++[pp cb],?_,aLH.snoc jg⟩;grind [List.length_append,List.length_singleton,IK,a1k,a0z]
    .rw[bO ht,X t (fun e=>ht e.symm)];have hr:=D.row t;cases K:fP t l 0 with
     | none=>exact yH
     | some p=>
      obtain⟨i,u⟩:=p;rw[K] at hr;obtain⟨a,us,f,r⟩:=hr;refine⟨a,us,?_,r⟩;have B:F.ownsRow (w.heap.size+1) 79 1 u (yi (base.take j) t).length us:=jQ y.ext f;have aLI:=eh t i u (fun e=>ht e.symm) K;have h5:q.ownsRow (w.heap.size+1) 79 1 u (yi (base.take j) t).length us:=by
       refine⟨B.1,?_⟩;rcases B.2 with h6 | ⟨g,cap,cur,L,e2,e3,e4⟩
       .exact yH
       .refine .inr ⟨g,cap,cur,L,e2,?_,e4⟩;rw[E.block g (bn e3) (fun e=>aLI (by rw[L,<- e];rfl))];omega
      grind [IK]
   .intro s t i i' u u' a f gR;by_cases hs:s=key
    .subst hs;rw[Q] at a;cases a;rw[X t (fun e=>gR e.symm)] at f;have hr:=D.row t;rw[f] at hr;obtain⟨_,us,r,-⟩:=hr;obtain⟨g,G⟩:=D.own f;rcases dU with B | B
     .rw[B];exact fun e=>eh t i' u' (fun e=>gR e.symm) f e.symm
     .intro e;have h5:=B g (by rw[e];exact G);have h6:=hold r g G;omega
    .rw[X s hs] at a;by_cases ht:t=key
     .subst ht;rw[Q] at f;cases f;have hr:=D.row s;rw[a] at hr;obtain⟨_,us,r,-⟩:=hr;obtain⟨g,G⟩:=D.own a;rcases dU with B | B
      .rw[B];exact eh s i u hs a
      .intro e;have h5:=B g (by rw[<- e];exact G);have h6:=hold r g G;omega
     .rw[X t ht] at f;exact D.sep s t i i' u u' a f gR
  have aLJ:(yi (base.take j) key).length<=100000:=a0E (List.length_filter_le _ _) zg;cases hk:fP key l 0 with
  | none=>
   rw[hk] at W;simp only;refine bF ?_;rw[<- jw];refine acm (base:=w.heap.size+1) (a00 _ _ _ _) g4 J zo zo ?_;intro v' q H S yd;have R:q.heap[w.heap.size]?=O (eP l):=by rw[S.block _ (bn m4) (by intro e;cases e)];omega
   rw[yh (k:=9) (e:=68) zk zk R key hk];obtain⟨r1,M,I⟩:=kT (l':=l++[(key,v')]) (a00 _ _ _ _) H S yd zg (by rw[show yi (base.take j) key=[] from W];rfl)
    (fun t i u _ K=>by obtain⟨g,G⟩:=D.own K;rw[G];intro e;cases e)
    (fun t ht=>by rw[Yi];grind) ⟨0+l.length,by grind [Yi]⟩
   refine cM U ?_;exact⟨base.length-(j+1),zo,j+1,l++[(key,v')],zg,zo,J,r1,M,I⟩
  | some p=>
   obtain⟨i,x⟩:=p;rw[hk] at W;obtain⟨a,us,f,r⟩:=W;simp only;obtain⟨xa',xc',rD⟩:=ij f;refine bF ?_;rw[<- jw];refine acm (base:=w.heap.size+1) (jQ y.ext f) g4 J aLJ zo ?_;intro v' q H S yd;have R:q.heap[w.heap.size]?=O (eP l):=by rw[S.block _ (bn m4) (N (jQ y.ext f))];omega
   rw[api (k:=9) (e:=68) zk zk R key hk];have Cs:=fun s=>aph (s:=s) (v:=v') hk;rw[Nat.sub_zero] at Cs;obtain⟨r1,M,I⟩:=kT (l':=l.set i (key,v')) (jQ y.ext f) H S yd J r
    (by grind [T6.sep])
    zg zg
   refine cM U ?_;exact⟨base.length-(j+1),zo,j+1,l.set i (key,v'),zg,zo,J,r1,M,I⟩
 .have fD:j=base.length:=zo;subst fD;refine dB NO U ?_;refine⟨C,_,J,Nat.le_refl _,(oO l 0).toArray,l.length,m2,by grind [Ql],fun name n hn4=>?_⟩;rw[a2n,Qm];have hr:=D.row (P.keyOf name n);rw[List.take_length] at hr;have iV:yi base (P.keyOf name n)=G5 base name n:=by
   unfold yi G5;refine List.filter_congr fun c T=>?_;have:=(dj c T).2;rw[Bool.eq_iff_iff];simp only[beq_iff_eq,Bool.and_eq_true];grind [P.aeR]
  rw[iV] at hr;cases K:fP (P.keyOf name n) l 0 with
  | none=>grind
  | some p=>
   rw[K] at hr;obtain⟨a,us,f,r⟩:=hr;exact⟨a,us,T7 f r.len.symm,r.iJ (eM.ed C)⟩
def aLK{u:Option Addr}{body:Bd}(y:n<=100000)(m:w.heap[b]?=aP #[nm,av,pp xb,.slice u n pb] 86)
  (z:dM (fun _=>True) w (pp xb) body) :
  Calls baA 38 #[.map (O mb),pp b] w fun e w'=>Ext w w'/\∃ q fb ρ todo,e = ai (pp q)/\w.heap.size<=q /\
   fO (fun _=>True) w' 89 (cU fb n n) (mY ρ (List.range n)) /\
   ∀ D:Nat->Prop,(∀ b,w.heap.size<=b->D b)->ko D ρ q mb todo b9 (cU fb n n) b9 [] w' (Wk.new body n):=by
 refine aoD ?_;refine cM m ?_;refine a0C (aoF n y w) ?_;rintro e w1 ⟨r,s1,vcs,rfl,T,B,C⟩;have d:=r.ext _ _ m;have U:=bn d;refine cM d ?_;obtain⟨w2,E⟩:=ck (w1.alloc (ah #[.map (O mb),b9,zi 0,au V,b9,cU w.heap.size n n] 130));have F:w1.alloc (ah (Value.agg #[.map (O mb),b9,zi 0,au V,b9,cU w.heap.size n n]).cells 130 (0,0))=w2:=E.symm;rw[F];have G:Ext w1 w2:=yF;have g2:w2.heap[w1.heap.size]?=aP #[.map (O mb),b9,zi 0,au V,b9,cU w.heap.size n n] 130:=yH;have s2:w2.heap.size=w1.heap.size+1:=yH;have s:=G.ext _ _ d;have W:=bn g2;refine⟨fun w'=>w'.heap[b]?=w2.heap[b]?,J,?_⟩;rw[jF];refine cR (pq b 2) (fun w' a=>by rw[s] at a;exact fj a) (cR (pp xb) (fun w' a=>by rw[s] at a;have:=bn a;exact fj a) ?_);refine cM @g2 ?_;obtain⟨w3,H⟩:=ck (w2.drew.alloc (ah #[pp xb,cU w.heap.size n n,zi 0,au V] 207));have I:Ext w2 w3:=yF;have g3:w3.heap[w2.heap.size]?=aP #[pp xb,cU w.heap.size n n,zi 0,au V] 207:=yH;have X:w2.drew.heap.size=w2.heap.size:=rfl;rw[<- H];have CL:Ext w w3:=yF;have K:=I.ext _ _ g2;have l3:=bn K;obtain⟨c,L⟩:=ck (bT w3 w1.heap.size (ah #[.map (O mb),b9,zi 0,pp w2.heap.size,b9,cU w.heap.size n n] 130));rw[<- L];have f:=r.size;have t:Ext w c:=yF;have M:∀ x o,x≠w1.heap.size->w3.heap[x]?=O o->c.heap[x]?=O o:=yH;have c4:c.heap[w1.heap.size]?=aP #[.map (O mb),b9,zi 0,pp w2.heap.size,b9,cU w.heap.size n n] 130:=yH;have N:∀ j,j<n->c.heap[w.heap.size+1+j]?=aP #[aj] 91:=yH;have P:c.heap[w.heap.size]?=aP vcs 89:=yH;have h:=aoG (ρ:=fun _=>0) (n:=0) P B (fun j Q=>(C j Q).1);rw[<- List.range_eq_range'] at h;refine⟨t,w1.heap.size,w.heap.size,ye (fun _=>0) 0 (w.heap.size+1),pp w2.heap.size,J,f,h,fun D hD=>?_⟩;have R:∀ i,ye (fun _=>0) 0 (w.heap.size+1) i=w.heap.size+1+i:=(by grind [ye]);refine⟨⟨⟨yH,fun i k=>⟨aj,by rw[R];exact N i k,J⟩⟩,yH,c4,a00 _ _ _ _,fun g l=>(by cases l),yH,List.nodup_nil,(fun p S=>by cases S),trivial⟩,
  ⟨_,_,_,_,J,M _ _ zo g3,dM.iJ (eM.ed t) z,h,fun i k=>List.mem_range.1 k,J⟩,a00 _ _ _ _,J,fun g l=>(by cases l)⟩
def Qo(F:Nat->Prop)(w:Z)(b:Nat)(x:Bd)(vs:List Bs):Prop:=
 F b/\vs.length<=12/\∃ xb a c,w.heap[b]?=aP #[aW [],b9,pp xb,.slice a vs.length c] 86/\dM F w (pp xb) x /\
  fO F w 9 (.slice a vs.length c) (vs.map fun s=>aW s)
def Qo.aLM(F F':Nat->Prop)(w w':Z)(b:Nat)(x:Bd)(vs:List Bs)(a:∀ b,F b->F' b)(hw:∀ b o,F b->w.heap[b]?=O o->w'.heap[b]?=O o)(h:Qo F w b x vs):Qo F' w' b x vs:=by
 obtain⟨c,d,xb,e,f,g,i,j⟩:=h;exact⟨a _ c,d,xb,e,f,yH,(by grind [dM.mono]),(by grind [fO.mono])⟩
def aLN(h:w.ownsRow base e 1 v n vs)(c:n=vs.length)(d:∀ b cs,base<=b->w.heap[b]?=aP cs e->F b):fO F w e v vs:=by
 subst c;rcases h.2 with⟨f,a⟩| ⟨g,cap,cur,rfl,a,i,j,k,l,m⟩
 .have a:vs.length=0:=a;exact .inl zg
 .have o:cur.size=cap:=zo;exact .inr yH
def aLO(h:SP w pb tb T 0 [] 0)(B:mP w tb)(K:w.heap.size=pb+1):Calls baA 76 #[pp pb] w (al2 Qo pb w (q8 T)):=by
 refine aHA ?_;cases l:lM T (ur T) 0 [] 0 with
 | none=>
  obtain⟨r,hr⟩:=(totB T (ur T)).body 0 [] 0 (by grind [ur]);grind
 | some q=>
 refine a0C ((alI (ur T)).go h B zo l) ?_;rintro e w1 s;cases q with
 | err c a=>
  obtain⟨⟨b,rfl,C,D⟩,g,L⟩:=s;refine bF ?_;refine⟨g,?_⟩;simp only[q8,l];exact⟨b,J,C,D⟩
 | ok x k vs=>
  obtain⟨v,rfl,hx,t,g⟩:=s;obtain⟨xb,rfl,-⟩:=hx.shape;have s1:=g.size;have M:=t.yG;cases i:mw T [46] x k vs with
  | none=>unfold mw at i;split at i<;>cases i
  | some N=>
  refine bF ?_;refine(acp t [46] zd x i).mono ?_;rintro e w2 ⟨m,(⟨rfl,hr,n⟩| ⟨c,a,hr,j⟩)⟩
  .have s2:=m.size;obtain⟨cap,u,y,cs,f,P,Q,E,R,g0,g1,g2,g3,g4,g5⟩:=n.x;have S:=bn f;refine bF ?_;refine⟨fun _ w'=>w'=w2/\(tk T (k+1)).kind=0,?_,?_⟩
   .by_cases o:(tk T (k+1)).kind=0
    .have p:(((tk T (k+1)).kind:Nat):Int)=0:=zo;refine jt f @g0 @g3 ?_;omega
    .have p:¬ (((tk T (k+1)).kind:Nat):Int)=0:=zo;refine jt f @g0 @g3 ?_;refine(R2 n).mono ?_;rintro e w3 ⟨j,F,-⟩;have G:=MN j (a0E s1 s2);obtain⟨b,rfl,-,-⟩:=j;refine bF ?_;refine⟨(g.trans m).trans F,?_⟩;simp only[q8,l,i,hr,bO o];omega
   .rintro _ w3 ⟨rfl,o⟩ d;refine cM f ?_;have z:Ext w3 (w3.alloc (ah #[aW [],b9,pp xb,.slice u vs.length y] 86)):=yF;refine⟨(g.trans m).trans z.toM,?_⟩;simp only[q8,l,i,hr,zip o];obtain⟨U,H,q1,q2,q3,q4⟩:=n.yG;rw[q3] at f;injection f with f;injection f with f _ _;have f:=congrArg (fun a:Array Y=>a[1]?) f;simp only[List.getElem?_toArray,List.getElem?_cons_succ,a1T,a0z] at f;subst f;refine⟨_,J,yH,n.nv,xb,u,y,yH,?_,?_⟩
    .have I:dM (Nu w w3) w3 (pp xb) x:=dM.mono zg (by grind [dc.lx]) _ _ hx;exact dM.mono (by grind [size_alloc]) yH _ _ I
    .refine aLN (jQ z.ext q4) zs yH
  .have G:=MN j s1;obtain⟨b,rfl,-,-⟩:=j;refine bF ?_;refine⟨g.trans m,?_⟩;grind [q8]
def apk(s:Bs)(w:Z)(j:s.length<=100000)(l:Iz w)(hC:mP w w.heap.size):Calls baA 37 #[aW s] w (WN Qo w (sK q8 s)):=by
 refine aHB ?_;refine(aG4 Qo.aLM (g:=q8) zk s w j l fun _ h m n=>aLO h (m hC) n).mono ?_;rintro e w1 ⟨i,d⟩;cases hr:sK q8 s with
 | err c a=>
  rw[hr] at d;obtain⟨b,rfl,f⟩:=d;refine bF ?_;exact⟨i,b,J,f⟩
 | ok x k vs=>
  rw[hr] at d;obtain⟨b,rfl,f⟩:=d;refine bF ?_;exact⟨i,b,J,f⟩
open Go.Proofs.YtoegidfbnkaabaaGreatDoor.Sx
section
variable{p0 p1 p2 p3 p4 p5 p6 p7:Y}{w:Z}{R:Ending->Z->Prop}
def aLP:=cz w R [p0] (gc [] [] [13]) func25
def aLQ:=cz w R [p0] (gc [] [] []) func40
def aLR:=cz w R [p0] (gc [] [] []) func16
end
section
variable{p0 p1 p2 p3 p4 p5 p6 p7:Y}{w:Z}{R:Ending->Z->Prop}
def aLS:=cy w R [p0] (gd [(10,[49])] [(14001,[]),(16001,[])] [(16,11)] [(2,[6,0,1,2,3,4,5]),(7,[6,0,1,2,3,4,5])] [] [] [11,27,28,50,68,69,74,83,104]) func27
end
def apl(w:Z):(a0T aj 20 27 A).run baA w = .ok (aq #[zi 0,.bool ae]) w:=zk
def apm(v:Y)(w:Z):(a0T (ak 27 v) 20 27 A).run baA w = .ok (aq #[v,.bool A]) w:=zk
def aLT(w:Z):(a0T aj 20 134 A).run baA w = .ok (aq #[.agg #[],.bool ae]) w:=zk
def aLU(v:Y)(w:Z):(a0T (ak 134 v) 20 27 A).run baA w = .ok (aq #[zi 0,.bool ae]) w:=zk
def aLV(v:Y)(w:Z):(a0T (ak 134 v) 20 134 A).run baA w = .ok (aq #[v,.bool A]) w:=zk
def Qp(id:Nat)(Q:Exit->Act->List Frame->Z->Prop):Exit->Act->List Frame->Z->Prop
 | .exit b,a,cs,w=>if b=id then Q .normal a cs w else Q (.exit b) a cs w
 | e,a,cs,w=>Q e a cs w
def ae3{P:Program}{Q:Exit->Act->List Frame->Z->Prop}{cs:List Frame}{id:Nat}{c:Code}(h:c.wpS P (Qp id Q) a cs w):(Code.block id c).wpS P Q a cs w:=fun b k m hr=>by
 obtain⟨e,d,f,w1,g,i⟩:=h b (.inBlock id::k) m hr;cases e with
 | normal=>exact⟨.normal,d,f,w1,g,.head step_block (Steps.trans i (.one step_inBlock))⟩
 | exit j=>
  by_cases hid:j=id
  .have g:Q .normal d f w1:=by grind [Qp,hid]
   exact⟨.normal,d,f,w1,g,.head step_block (i k (by simp [exitTo,hid]))⟩
  .have g:Q (.exit j) d f w1:=by grind [Qp,hid]
   refine⟨.exit j,d,f,w1,g,fun k' hk=>.head step_block (i k' ?_)⟩;grind [id,hid,exitTo]
 | goto l=>exact⟨_,d,f,w1,g,fun k' hk=>.head step_block (i k' (by grind [gotoIn]))⟩
 | ret=>exact⟨_,d,f,w1,g,.of_steps (.one step_block) i⟩
 | panic n=>exact⟨_,d,f,w1,g,.of_steps (.one step_block) i⟩
 | outgrown=>exact⟨_,d,f,w1,g,.of_steps (b:=b) (k:=k) (e:=.outgrown) (.one step_block) i⟩
def aLW(v0 v1 v2:Y)(w:Z):CallsD baA 42 #[v0,v1,v2] .returning w fun e u' w'=>e = ai (aq #[])/\u' = .returning/\w'=w:=by
 refine callsD_of_wpS func42 J fun An cs hu=>?_;apply wpS_seq;apply wpS_region;simp [wpOpsS,go_sem,recoverD,hu,ntmps42,a1i];apply ae3;apply wpS_seq;apply wpS_region;simp [wpOpsS,go_sem,recoverD,hu,ntmps42,a1i,apl];refine wpS_cond (t:=false) (by simp [a22]) ?_;simp only[a06,if_false];apply wpS_seq;apply wpS_region;simp [wpOpsS,go_sem,recoverD,hu,ntmps42,a1i,aLT];refine wpS_cond (t:=false) (by simp [a22]) ?_;simp only[a06,if_false];refine wpS_of_wp (wp_skip ?_);cases An;simp_all [Qp,bodyPostS,results,Tryz.results42]
section
variable{w:Z}{qb b0 b1 b2:Nat}{q0 q1 q2 q3 q4 o1 o2:Y}
structure NR(w:Z)(qb b0 b1 b2:Nat)(q0 q1 q2 q3 q4 o1 o2:Y):Prop where
 q:w.heap[qb]?=aP #[q0,q1,q2,q3,q4] 121
 x0:w.heap[b0]?=aP #[pp qb] 35
 x1:w.heap[b1]?=aP #[o1] 9
 x2:w.heap[b2]?=aP #[o2] 57
 lt:qb<b0/\b0<b1/\b1<b2
def Ek{w:Z}{T:Nat}(h:w.heap[b]?=aP cs T)(hv:cs[o]?=O v):w.cell? ⟨b,o,V⟩=O v:=by
 grind [World.cell?]
def aLX(h:NR w qb b0 b1 b2 q0 q1 q2 q3 q4 o1 o2)(k:Int)(xU:List PanicEntry) :
  CallsD baA 42 #[pp b0,pp b1,pp b2] (.panicking ({ v:=ak 27 (zi k),recovered:=false }::xU)) w fun e u' w'=>
   e = ai (aq #[])/\u' = .panicking ({ v:=ak 27 (zi k),recovered:=true }::xU) /\
   w'=bT (bT (bT w qb (ah #[q0,q1,q2,q3,ak 27 (zi k)] 121)) b1 (ah #[aW []] 9 (0,0))) b2 (ah #[ak 27 (zi k)] 57):=by
 obtain⟨hq,h0,h1,h2,Be,qu,gH⟩:=h;have c0:w.cell? ⟨b0,0,V⟩=O (pp qb):=Ek h0 J;have z0:=jO h0 0;have c4:w.cell? ⟨qb,4,V⟩=O q4:=Ek hq J;have z4:=jO hq 4;have e1:w.setCell ⟨qb,4,V⟩ (ak 27 (zi k))=bT w qb (ah #[q0,q1,q2,q3,ak 27 (zi k)] 121):=uZ hq _;obtain⟨w1,jS⟩:=ck (bT w qb (ah #[q0,q1,q2,q3,ak 27 (zi k)] 121));rw[<- jS] at e1;have Ai:w1.heap[b1]?=aP #[o1] 9:=yH;have c1:w1.cell? ⟨b1,0,V⟩=O o1:=Ek Ai J;have z1:=jO Ai 0;have e2:w1.setCell ⟨b1,0,V⟩ (aW [])=bT w1 b1 (ah #[aW []] 9 (0,0)):=uZ Ai _;obtain⟨w2,j3⟩:=ck (bT w1 b1 (ah #[aW []] 9 (0,0)));rw[<- j3] at e2;have Bc:w2.heap[b2]?=aP #[o2] 57:=yH;have c2:w2.cell? ⟨b2,0,V⟩=O o2:=Ek Bc J;have z2:=jO Bc 0;have e3:w2.setCell ⟨b2,0,V⟩ (ak 27 (zi k))=bT w2 b2 (ah #[ak 27 (zi k)] 57):=uZ Bc _;refine callsD_of_wpS func42 J fun An cs hu=>?_;apply wpS_seq;apply wpS_region;simp [wpOpsS,go_sem,recoverD,hu,ntmps42,a1i];apply ae3;apply wpS_seq;apply wpS_region;simp [wpOpsS,go_sem,recoverD,hu,ntmps42,a1i,apm];refine wpS_cond (t:=true) (by simp [a22]) ?_;simp only[if_true];apply wpS_seq;apply wpS_region;simp [wpOpsS,go_sem,recoverD,hu,ntmps42,a1i];apply wpS_seq;apply wpS_region;simp [wpOpsS,go_sem,recoverD,hu,ntmps42,a1i,c0,z0,c4,z4,e1];have e2':w1.setCell ⟨b1,0,V⟩ (.string { data:=#[] })=w2:=e2;apply wpS_region;simp [wpOpsS,go_sem,recoverD,hu,ntmps42,a1i,c1,z1,c2,z2,e2',e3];simp [Qp,bodyPostS,results,Tryz.results42,jS,j3]
def aLY(h:NR w qb b0 b1 b2 q0 q1 q2 q3 q4 o1 o2)(xU:List PanicEntry) :
  CallsD baA 42 #[pp b0,pp b1,pp b2] (.panicking ({ v:=ak 134 (.agg #[]),recovered:=false }::xU)) w fun e u' w'=>
   e = ai (aq #[])/\u' = .panicking ({ v:=ak 134 (.agg #[]),recovered:=true }::xU)/\∃ w0,w0=w.alloc (ah #[] 134) /\
   w'=bT (bT (bT w0 qb (ah #[q0,q1,q2,q3,ak 27 (zi 11)] 121)) b1 (ah #[aW []] 9 (0,0))) b2 (ah #[ak 27 (zi 11)] 57):=by
 refine callsD_of_wpS func42 J fun An cs hu=>?_;apply wpS_seq;apply wpS_region;simp [wpOpsS,go_sem,recoverD,hu,ntmps42,a1i];apply ae3;apply wpS_seq;apply wpS_region;simp [wpOpsS,go_sem,recoverD,hu,ntmps42,a1i,aLU];refine wpS_cond (t:=false) (by simp [a22]) ?_;simp only[a06,if_false];apply wpS_seq;apply wpS_region;simp [wpOpsS,go_sem,recoverD,hu,ntmps42,a1i,aLV];refine wpS_cond (t:=true) (by simp [a22]) ?_;simp only[if_true];apply wpS_seq;apply wpS_region;simp [wpOpsS,go_sem,recoverD,hu,ntmps42,a1i];obtain⟨w0,yj⟩:=ck (w.alloc (ah #[] 134));have oM:Ext w w0:=yF;rw[<- yj];obtain⟨hq,h0,h1,h2,Be,qu,gH⟩:=h;have hq:=oM.ext _ _ hq;have h0:=oM.ext _ _ h0;have h1:=oM.ext _ _ h1;have h2:=oM.ext _ _ h2;clear yj oM;have c0:w0.cell? ⟨b0,0,V⟩=O (pp qb):=Ek h0 J;have z0:=jO h0 0;have c4:w0.cell? ⟨qb,4,V⟩=O q4:=Ek hq J;have z4:=jO hq 4;have e1:w0.setCell ⟨qb,4,V⟩ (ak 27 (zi 11))=bT w0 qb (ah #[q0,q1,q2,q3,ak 27 (zi 11)] 121):=uZ hq _;obtain⟨w1,jS⟩:=ck (bT w0 qb (ah #[q0,q1,q2,q3,ak 27 (zi 11)] 121));rw[<- jS] at e1;have Qk:w1.heap[qb]?=aP #[q0,q1,q2,q3,ak 27 (zi 11)] 121:=yH;have c4':w1.cell? ⟨qb,4,V⟩=O (ak 27 (zi 11)):=Ek Qk J;have vL:w1.heap[b0]?=aP #[pp qb] 35:=yH;have El:w1.cell? ⟨b0,0,V⟩=O (pp qb):=Ek vL J;have Ai:w1.heap[b1]?=aP #[o1] 9:=yH;have c1:w1.cell? ⟨b1,0,V⟩=O o1:=Ek Ai J;have z1:=jO Ai 0;have e2:w1.setCell ⟨b1,0,V⟩ (aW [])=bT w1 b1 (ah #[aW []] 9 (0,0)):=uZ Ai _;obtain⟨w2,j3⟩:=ck (bT w1 b1 (ah #[aW []] 9 (0,0)));rw[<- j3] at e2;have Bc:w2.heap[b2]?=aP #[o2] 57:=yH;have c2:w2.cell? ⟨b2,0,V⟩=O o2:=Ek Bc J;have z2:=jO Bc 0;have e3:w2.setCell ⟨b2,0,V⟩ (ak 27 (zi 11))=bT w2 b2 (ah #[ak 27 (zi 11)] 57):=uZ Bc _;have e2':w1.setCell ⟨b1,0,V⟩ (.string { data:=#[] })=w2:=e2;apply wpS_seq;apply wpS_region;simp [wpOpsS,go_sem,recoverD,hu,ntmps42,a1i,c0,z0,c4,z4,e1];apply wpS_region;simp [wpOpsS,go_sem,recoverD,hu,ntmps42,a1i,El,c4',c1,z1,c2,z2,e2',e3];simp [Qp,bodyPostS,results,Tryz.results42,jS,j3]
end
section
variable{p0 p1 p2 p3 p4 p5 p6 p7:Y}{w:Z}{R:Ending->Z->Prop}
def aL0:=cz w R [p0] (gc [] [] []) func43
end
def P.term(s:Bs):cg Ex:=sK aGW s
def apn(v:Y)(n i:Nat)(h:i<n):(madeCells #[v] (n*1))[i]?=O v:=by
 simp [madeCells,h,Nat.mod_one]
