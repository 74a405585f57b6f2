/- A part of one proof (KW7, KM1, KW8, KQ1, ShX6, ShX6b, KE1, ShB2, PX3, PX4). -/
import Derived.Test.YtoegidfbnkaabaaGreatDoorPkJAS
import Derived.Recover
import Derived.Tactics
import Derived.Tactics2
set_option linter.all false
set_option maxRecDepth 100000
set_option maxHeartbeats 8000000
open Option renaming some → O, none → V
open Go renaming Value → Y, World → Z
open Bool renaming true → A, false → G
open Go.Obj renaming cells → ae
open Go.Ending renaming returned → ah
open Go.Value renaming nilIface → ai, iface → aj, tuple → ak, pointer → aq
open Option.some renaming injEq → aZG
open Go.Calls renaming mono → aZJ
open Nat renaming le_trans → aZL
open Go.Instr renaming typeAssert → aZ0
open Go.World renaming ownsRow_nil → aZ8
open Bool renaming false_eq_true → a0h
open Go.Exit renaming thenS → a0o
open Go.Value renaming ownBlock → a0q
open List renaming getElem?_cons_zero → a01, toList_toArray → a1n
open Go.MapKept renaming run_setObj_map → a1r
open Go.Act renaming eval → a1Y
open Go.Proofs.Tryz renaming prog → a9E
open Go.Proofs.Tryz
namespace Go.Proofs.YtoegidfbnkaabaaGreatDoor
open P
open Go.RowKit Sx
variable{B M b base d e f i m mb n o pb tb xb:Nat}{F:Nat->Prop}{T:List P.Tok}{a:Act}{av nm u v z:Y}{cs:Array Y}{s:Bs}{vs:List Y}{w w0:Z}
section
variable{D:Nat->Prop}{ρ:Nat->Nat}{wb mb:Nat}{todo av vv tv:Y}{di:List Y}{w w':Z}{k:Wk}
def j7.place(h:j7 D ρ wb mb todo av vv tv di w k)(hm:m<k.bw.length):∃ g ac cur a cv b fV us,av = cR g k.bw.length ac/\k.bw.length<=ac/\w.heap[g]?=aM cur 356/\cur.size=ac*4 /\
  cur[m*4]?=O (zi ((k.bw[m]).mark:Nat))/\cur[m*4+1]?=O a/\cur[m*4+2]?=O cv/\cur[m*4+3]?=O b /\
  uf ρ k.n w a (k.bw[m]).todo/\nY w 79 cv fV/\j9 (fun _=>True) w fV (k.bw[m]).clauses/\fK (fun _=>True) w 89 b us/\py ρ k.n w us (k.bw[m]).args:=by
 obtain⟨a,cv,b,fV,us,o,g2,g3,g4,g5,g6⟩:=h.ag.at m hm;rcases h.ar.2 with⟨-,c⟩| ⟨g,cap,cur,d,c,e,f,p,i,q⟩
 .exact yH
 .have l:∀ j,j<4->cur[m*4+j]?=[Value.int .i64 ((k.bw[m]).mark:Nat),a,cv,b][j]?:=zg;exact⟨g,cap,cur,a,cv,b,fV,us,d,f,e,i,l 0 zo,zg,zg,zg,g2,g3,g4,g5,g6⟩
end
section
variable{D:Nat->Prop}{ρ:Nat->Nat}{wb mb:Nat}{vv:Y}{w w':Z}{k:Wk}
def aKn(h:PG D ρ wb mb vv w k)(hD:∀ b,w.heap.size<=b->D b){base:List Cl}(hB:Bf w mb base)(gL:∀ c∈base,yD M c)(hM:M<=100000)(L:B<=800000000)
  (hg:lF M B k) {r:Except jB (Bool×Wk)} (hr:kF base d f A k=O r) :
  Calls a9E 223 #[pp wb] w (EPost D w (Fc D ρ k.n wb mb vv) r):=by
 refine aJJ ?_;refine⟨fun n s w1=>∃ (ok:Bool) (F:Nat->Nat) (j:Wk),s 3 = .bool ok/\eg ρ k.n F j.n/\PG D F wb mb vv w1 j/\dc D w w1/\lF M B { j with todo:=if ok then j.todo else [] }/\kF base d n ok j=O r,
  ⟨f,A,ρ,k,J,eg.refl _ _,h,yF,hg,hr⟩,?_⟩
 intro n s dd w1 hI;clear dd;obtain⟨ok,F,j,h3,uk,IM,dB,I,u⟩:=hI;cases n with
 | zero=>simp [kF] at u
 | succ n=>
 have s1:=dB.size;have H0:∀ {q:Except jB (Bool×Wk)} {z:Nat->Nat} {n2:Nat} {w2:Z} {e:Ending} {w3:Z} {r0:P.Out (Bool×Wk)},eg ρ k.n z n2->dc D w w2->EPost D w2 (Fc D z n2 wb mb vv) q e w3->r0=O q ->
   P.Out.bind r0 (fun p=>kF base d n p.1 p.2)=O r->(∀ p,q = .ok p->lF M B { p.2 with todo:=if p.1 then p.2.todo else [] }) ->
   ends (fun x w'=>∃ m,m<n+1/\∃ (ok:Bool) (F:Nat->Nat) (j:Wk),(jd [(3,x)]) 3 = .bool ok/\eg ρ k.n F j.n/\PG D F wb mb vv w' j/\dc D w w'/\lF M B { j with todo:=if ok then j.todo else [] }/\kF base d m ok j=O r)
    (PC (EPost D w (Fc D ρ k.n wb mb vv) r)) e w3:=by
  intro q z n2 w2 e w3 r0 hu hE t hq0 y aoe;rw[hq0] at y;obtain⟨S,t⟩:=t;cases q with
  | error te=>
   cases y;have t:e=gR te:=t;subst t;cases te<;>exact⟨yF,J⟩
  | ok p=>
   obtain⟨rfl,ρ3,M0,PU⟩:=t;exact⟨n,Nat.lt_succ_self _,p.1,ρ3,p.2,J,hu.trans M0,PU,yF,zg,y⟩
 obtain⟨todo,av,tv,di,K⟩:=IM;have c1:=K.cell;have Cd:j.sr.tr.length+j.sr.fuel<=800000000:=aZL I.cU L;have MJ:j.bw.length+j.sr.fuel<=800000000:=aZL I.nh L;refine⟨fun _ w2=>∃ (z:Nat->Nat) (l:Wk),eg ρ k.n z l.n/\PG D z wb mb vv w2 l/\dc D w w2/\lF M B l/\∃ m,m<n+1/\(kF base d (m+1) A l=O r),?_,?_⟩
 .cases ok with
  | true=>
   refine cH h3 ?_;exact⟨F,j,uk,⟨_,_,_,_,K⟩,dB,I,n,Nat.lt_succ_self _,u⟩
  | false=>
   simp only[a0h,if_false] at I;obtain⟨aa,ac,N⟩:=gV K.ar;refine iZ h3 @c1 N ?_;rw[kF] at u;by_cases hle:j.bw.length=0
   .have hlt:(j.bw.length:Int)-1<0:=zo;rw[List.eq_nil_of_length_eq_zero hle] at u;cases u;refine cH hlt ?_;exact⟨dB,J,F,uk,_,_,_,_,K⟩
   have hlt:¬ (j.bw.length:Int)-1<0:=zo;obtain⟨m,hm⟩:∃ m,j.bw.length=m+1:=⟨j.bw.length-1,zo⟩;have vU:m<j.bw.length:=zo;have PV:j.bw.getLast?=O j.bw[m]:=zg;rw[PV] at u;obtain⟨g,ac',cur,tp,cv,wu,fV,us,e1,e2,xi,jm,q0,q1,q2,q3,i1,i2,i3,i4,i5⟩:=K.place vU;rw[N] at e1;simp only[Value.slice.injEq,true_and] at e1;obtain⟨rfl,rfl⟩:=e1;have lg:=bg xi;have aem:(j.bw.length:Int)-1=(m:Nat):=zo;have Nn:((m:Nat):Int).toNat=m:=zo;rw[aem] at hlt ⊢;obtain⟨u1,u2,u3,u4⟩:=I.iD PV;have dC:Ext w1 w1.drew:=yF;have hm4:m*4<ac*4:=zo;have hmi:((m:Nat):Int)<(j.bw.length:Nat):=zo;refine dH hlt @c1 N (zA @Nn (zA xi @q0)) ?_;refine aZJ (adw (K.ext dC).less Fb u3 zo) ?_;rintro e w2 ⟨rfl,T,xF,me⟩;obtain⟨C,Tb⟩:=(K.ext dC).store me T;have oz:dc D w1 w2:=(dc.dZ dC).trans Tb;have U:eH w1 w2:=dc.toI oz;have H:w2.heap[g]?=aM cur 356:=T.block _ _ xi (by rintro ⟨⟨-,W⟩,-⟩;rw[N] at W;exact W J);have lg2:=bg H;have c2:=C.cell;have l2:=bg c2;have s2:=oz.size;obtain⟨tq,rfl⟩:=i1.ptr;obtain⟨aa',aVJ,X⟩:=i4.sl;obtain⟨XB,cvn,Tq,iX⟩:∃ a n c,cv = .slice a n c:=by
    rcases i2 with⟨-,rfl⟩| ⟨b,o,cap,cs,rfl,-⟩<;>exact zg
   have Nh:=q2;have GS:=q3;rw[iX] at Nh;rw[X] at GS;refine du H @Nh ?_;have lC:=u1.ag _ _ u2;by_cases xm:(j.bw[m]).clauses=[]
   .have:fV=[]:=by rw[xm] at i3;exact i3
    subst this;have TD:cv = bV:=by
     rcases i2 with⟨-,h⟩| ⟨b,o,cap,cs,-,-,-,-,h⟩<;>grind
    rw[iX] at TD;cases TD;simp only[xm] at u;have Tp:((m:Nat):Int)<=(ac:Nat):=zo;obtain⟨Pt,iH⟩:=PJ (by have:=C.ar;grind:w2.ownsRow 0 356 4 (cR g j.bw.length ac) j.bw.length di);refine dH H @q1 @c2 (zA N iH) ?_;obtain⟨w3,rR⟩:=cd (bO w2 wb (ae #[.map (O mb),xF,zi (j.sr.fuel:Nat),.pointer tq,cR g j.bw.length ac,vv] 130));obtain⟨BZ,S⟩:=C.KH (w1:=w3) (i1.bH U (eg.refl _ _)) zg;obtain⟨Q,jl⟩:=cd (bO w2 wb (ae #[.map (O mb),xF,zi (j.sr.fuel:Nat),.pointer tq,cR g m ac,vv] 130));obtain⟨hx4,gW⟩:=BZ.forget (m:=m) (w1:=Q) (Nat.le_of_lt vU) N (by grind [Rt]);have hfu:(j.sr.iD (j.bw[m]).mark).fuel=j.sr.fuel:=rfl;rw[hfu,<- jl];have aoi:=I.back PV;have LK:j.bw.dropLast=j.bw.take m:=by grind [List.dropLast_eq_take,Nat.add_sub_cancel]
    rw[LK] at aoi u;refine⟨F,{ j with sr:=j.sr.iD (j.bw[m]).mark,todo:=(j.bw[m]).todo,bw:=j.bw.take m },uk,⟨_,_,_,_,hx4⟩,yF,aoi,?_⟩;cases n with
    | zero=>grind [kF]
    | succ n=>grind
   .have jI:fV≠[]:=by
     rintro rfl;cases hx:(j.bw[m]).clauses with
     | nil=>grind
     | cons c0 l0=>rw[hx] at i3;obtain⟨_,_,h0,-⟩:=i3;grind
    obtain⟨cb,co,aKr,ccs,KP,gS,-,-,-⟩:=i2.resolve_left zg;rw[iX] at KP;cases KP;have u:P.Out.bind (vT d (j.bw[m]).args (j.bw[m]).clauses (j.bw[m]).todo m { j with sr:=j.sr.iD (j.bw[m]).mark }) (fun p=>kF base d n p.1 p.2)=O r:=by
     grind
    have DS:Ext w2 w2.drew:=yF;refine dH H @q1 @Nh @GS ?_;obtain⟨q,y,-⟩:∃ q,vT d (j.bw[m]).args (j.bw[m]).clauses (j.bw[m]).todo m { j with sr:=j.sr.iD (j.bw[m]).mark }=O q/\True:=by
     cases hx:vT d (j.bw[m]).args (j.bw[m]).clauses (j.bw[m]).todo m { j with sr:=j.sr.iD (j.bw[m]).mark } with
     | none=>rw[hx] at u;cases u
     | some q=>grind
    have TE:eH w1 w2.drew:=U.trans (eH.dZ DS);refine aZJ (anP (C.ext DS) yH (M:=M) (f:=d) (m:=m) (r:=q) ((by grind:nY w1 79 (.slice (O ⟨cb,co,V⟩) fV.length Tq) fV).bH fun b cs W=>TE _ _ _ (yM) W) (i3.iT TE)
     (X ▸ i4.iT TE (yM)) (i5.PF TE (eg.refl _ _)) lC.args lC.cls hM (i1.bH TE (eg.refl _ _)) (Nat.le_of_lt vU) zg (aZL u1.cU L) zg y) ?_
    rintro e w3 t;refine H0 uk yF t y u fun p t=>?_;subst t;have pj:m=j.bw.length-1:=zo;have PW:vT d (j.bw[m]).args (j.bw[m]).clauses (j.bw[m]).todo (j.bw.length-1) { j with sr:=j.sr.iD (j.bw[m]).mark }=O (.ok p):=by rw[<- pj];exact y
    exact(I.again PV PW).1
 .rintro s2 w2 ⟨z,l,Fe,⟨aoj,ue,xF,PL,C⟩,T,H,m,hmn,E⟩ d2;clear d2;have c2:=C.cell;have l2:=bg c2;have alY:l.sr.tr.length+l.sr.fuel<=800000000:=aZL H.cU L;have aVL:l.bw.length+l.sr.fuel<=800000000:=aZL H.nh L;have s02:=T.size;rw[kF] at E;cases R:l.todo with
  | nil=>
   rw[R] at E;cases E;have htv:aoj = .pointer none:=by have:=C.td;rw[R] at this;exact this
   subst htv;refine cH @c2 ?_;obtain⟨wf,Cu⟩:=cd (w2.alloc (ae #[.int .u8 103,aT [102,97,105,108],bV,bV] 149 (0,0)));have aVN:Ext w2 wf:=yF;have gf:wf.heap[w2.heap.size]?=aM #[.int .u8 103,aT [102,97,105,108],bV,bV] 149:=yH;have sf:wf.heap.size=w2.heap.size+1:=yH;obtain⟨Q,jl⟩:=cd (wf.alloc (ae #[pp w2.heap.size,bV,zi 0,aq V] 207));have g4:Q.heap[wf.heap.size]?=aM #[pp w2.heap.size,bV,zi 0,aq V] 207:=yH;have aKt:Ext w2 Q:=yF;rw[<- Cu,<- jl,<- sf];have XM:dL (fun _=>True) Q (pp w2.heap.size) zl:=by
    unfold zl dL;exact⟨_,_,_,[],[],J,trivial,yH,.inl ⟨J,J⟩,by unfold eO;rfl,.inl ⟨J,J⟩,by unfold gx;rfl⟩
   have gl:uf z l.n Q (pp wf.heap.size) [⟨O zl,[],0⟩]:=⟨_,_,_,_,J,g4,XM,.inl ⟨J,J⟩,zg,J⟩;obtain⟨r1,r2⟩:=(C.ext aKt).KH gl J;exact⟨yF,J,z,Fe,_,_,_,_,r1⟩
  | cons g rest=>
   rw[R] at E;simp only at E;obtain⟨gb,wv,gv,nx,rfl,ES,Dh,mg,GQ,Mw⟩:∃ b wv gv nx,aoj=pp b/\w2.heap[b]?=aM #[wv,gv,zi (g.cut:Nat),nx] 207/\PE w2 wv g.EP /\
     fK (fun _=>True) w2 89 gv (mG z g.vars)/\(∀ i∈g.vars,i<l.n)/\uf z l.n w2 nx rest:=by have:=C.td;rw[R] at this;exact this
   have lgb:=bg ES;obtain⟨nq,rfl⟩:=Mw.ptr;refine du @c2 ES ?_;obtain⟨BZ,S⟩:=C.KH Mw J;have DZ:ng M l.n l.bw.length (g::rest):=by rw[<- R];exact H.todo
   have hgk:lF M B { l with todo:=g::rest }:=by rw[<- R];omega
   obtain⟨q,y⟩:∃ q,Dw base d g { l with todo:=rest }=O q:=by
    cases hx:Dw base d g { l with todo:=rest } with
    | none=>rw[hx] at E;cases E
    | some q=>grind
   have hr3:P.Out.bind (Dw base d g { l with todo:=rest }) (fun p=>kF base d n p.1 p.2)=O r:=by
    rw[y] at E ⊢;cases q with
    | error e=>exact E
    | ok p=>exact aG1 E zo zo
   have KK:eH w2 _:=dc.toI S;refine aZJ (aKc (r:=q) (f:=d) BZ (fun b W=>hD b (by have:=S.size;omega)) ((hB.fr T).fr S) gL hM (KK _ _ _ (yM) ES) (Dh.bH KK) (mg.iT KK (yM)) GQ DZ.1 DZ.2.2.1 (aZL H.cU L) (by show l.bw.length<_;omega) y) ?_;rintro e w3 t;refine H0 Fe yF t y hr3 fun p t=>?_;subst t;exact(alZ hgk C.st.ok gL y).1
end
namespace Sx
open Go
def oA(l:List (List UInt8×Y))(i:Nat):List MapEntry:=match l with
 | []=>[]
 | (s,v)::r=>{ key:=.string (bs s),val:=v,born:=i }::oA r (i+1)
def eI(l:List (List UInt8×Y)):Obj:=.map (oA l 0).toArray l.length
def fL(s:List UInt8):List (List UInt8×Y)->Nat->Option (Nat×Y)
 | [],_=>V
 | (u,v)::r,i=>if u=s then O (i,v) else fL s r (i+1)
theorem PY:∀ (l:List (List UInt8×Y)) (i:Nat),LW (oA l i)
 | [],_=>fun e he=>by cases he
 | (s,v)::r,i=>fun e he=>by
  rcases List.mem_cons.1 he with rfl | he
  .grind
  .exact PY r (i+1) e he
def aKv(s:List UInt8):RA (aT s)=O s:=rfl
def PZ(s:List UInt8):∀ (l:List (List UInt8×Y)) (i j:Nat),AH s (oA l i) j=fL s l j
 | [],_,_=>rfl
 | (u,v)::r,i,j=>by
  unfold oA AH fL;rw[aKv,PZ s r (i+1) (j+1)];grind
def aeo(s:List UInt8)(v:Y):∀ (l:List (List UInt8×Y)) (i:Nat),oA l i++[{ key:=aT s,val:=v,born:=i+l.length }]=oA (l++[(s,v)]) i
 | [],i=>rfl
 | (u,x)::r,i=>by
  show _::(oA r (i+1)++_)=_::oA (r++[(s,v)]) (i+1);rw[<- aeo s v r (i+1)];grind
def XN{s:List UInt8}:∀ {l:List (List UInt8×Y)} {i j:Nat} {v:Y},fL s l i=O (j,v)->i<=j/\l[j-i]?=O (s,v)
 | [],_,_,_,h=>by cases h
 | (u,x)::r,i,j,v,h=>by
  unfold fL at h;split at h
  .grind
  .obtain⟨a,b⟩:=XN h;grind
theorem XO(s t:List UInt8)(v:Y):∀ (l:List (List UInt8×Y)) (i:Nat),fL s (l++[(t,v)]) i=match fL s l i with | some p=>O p | none=>if t=s then O (i+l.length,v) else V
 | [],i=>by simp [fL]
 | (u,x)::r,i=>by
  show fL s ((u,x)::(r++[(t,v)])) i=_;unfold fL;split
  .rfl
  .rw[XO s t v r (i+1)];grind
def aol{s t:List UInt8}{v u:Y}:∀ {l:List (List UInt8×Y)} {i j:Nat},fL t l i=O (j,u)->fL s (l.set (j-i) (t,v)) i=if s=t then O (j,v) else fL s l i
 | [],_,_,h=>by cases h
 | (x,y)::r,i,j,h=>by
  unfold fL at h;split at h
  .rename_i hx;simp only[aZG,Prod.mk.injEq] at h;obtain⟨rfl,rfl⟩:=h;subst hx;rw[Nat.sub_self,List.set_cons_zero];unfold fL;grind
  .rename_i hx;have b:=(XN h).1;rw[show j-i=(j-(i+1))+1 by omega,List.set_cons_succ];unfold fL;by_cases a:x=s
   .grind
   .rw[bZ a,bZ a,aol h]
def aep{s:List UInt8}{v u:Y}{g:MapEntry->MapEntry}(a:∀ b,g { key:=aT s,val:=u,born:=b }={ key:=aT s,val:=v,born:=b }) :
  ∀ {l:List (List UInt8×Y)} {i j:Nat},l[j]?=O (s,u)->(oA l i).modify j g=oA (l.set j (s,v)) i
 | (x,y)::r,i,0,h=>by
  simp only[a01,aZG,Prod.mk.injEq] at h;obtain⟨rfl,rfl⟩:=h;simp only[oA,List.set_cons_zero,List.modify_zero_cons,a]
 | (x,y)::r,i,j+1,h=>by
  have h:r[j]?=O (s,u):=zg;simp only[oA,List.set_cons_succ,List.modify_succ_cons,aep a h]
section
variable{P:Program}{w:Z}{X:Y->Z->Prop}{l:List (List UInt8×Y)}{r:Nat}
def KQ{t k e:TypeId}{z:Y}{K:Y->Prop}(ht:AG P t=O (k,e))(a:vF P k=A)(c:zm P e=O z)(d:w.heap[r]?=O (eI l))(s:List UInt8)(b:Bool) :
  RD P (Instr.lookup t (.map (O r)) (aT s) b) w K X =
   match fL s l 0 with
   | some (_,v)=>K (if b then ak #[v,.bool A] else v)
   | none=>K (if b then ak #[z,.bool G] else z):=by
 rw[aiF ht a c d (by grind [PY])];rw[a1n,PZ];grind
def xK{t k e:TypeId}{K:Z->Prop}(ht:AG P t=O (k,e))(a:vF P k=A)(hm:w.heap[r]?=O (eI l))(s:List UInt8)(b:fL s l 0=V)(v:Y) :
  WU P (Instr.mapUpdate t (.map (O r)) (aT s) v) w K X=K (bO w r (eI (l++[(s,v)]))):=by
 rw[awj ht a hm (by grind [PY]) s (by rw[a1n,PZ];omega) v]
 congr 2
 unfold eI;have:=aeo s v l 0;grind
def aom{t k e:TypeId}{K:Z->Prop}(ht:AG P t=O (k,e))(d:vF P k=A)(hm:w.heap[r]?=O (eI l))(s:List UInt8)(a:fL s l 0=O (i,u))(v:Y) :
  WU P (Instr.mapUpdate t (.map (O r)) (aT s) v) w K X=K (bO w r (eI (l.set i (s,v)))):=by
 rw[awk ht d hm (by grind [PY]) s (by rw[a1n,PZ];exact a) v]
 congr 2
 unfold eI;have c:=(XN a).2;rw[Nat.sub_zero] at c;rw[List.length_set,<- aep (g:=fun e=>{ e with key:=aT s,val:=v }) (fun b=>rfl) c];grind
def aKw{t k e:TypeId}{K:Y->Z->Prop}(ht:AG P t=O (k,e))(a:vF P k=A)(d:zm P e=O z)(hm:w.heap[r]?=O (eI l))(s:List UInt8)(f:fL s l 0=V) :
  WR P (Instr.mapEntry t (.map (O r)) (aT s)) w K X=K (ak #[z,zi l.length]) (bO w r (eI (l++[(s,z)]))):=by
 have g:=VF (P:=P) (w:=w) (b:=false) (n:=9999) (t:=k) (s:=bs s) a;have c:=VG (P:=P) (w:=w) a s (es:=(oA l 0).toArray.toList) (by simpa using PY l 0);rw[a1n,PZ,f] at c;have h:bO w r (eI (l++[(s,z)]))=bO w r (.map ((oA l 0).toArray.push { key:=aT s,val:=z,born:=l.length }) (l.length+1)):=by
  unfold eI;have:=aeo s z l 0;grind
 rw[h];refine wU ?_;simp [Instr.mapEntry,run_underlying (FR ht),FT (show w.heap[r]?=O (.map (oA l 0).toArray l.length) from hm),g,c,Ek d,a1r _ (show w.heap[r]?=O (.map (oA l 0).toArray l.length) from hm),bO,goInt]
def find_born{i:Nat}:∀ {l:List (List UInt8×Y)} {j:Nat},i<l.length->(oA l j).findIdx? (fun e=>(e.born:Int) == ((j+i:Nat):Int))=O i
 | [],_,h=>zg
 | (u,x)::r,j,h=>by
  unfold oA;rw[List.findIdx?_cons];cases i with
  | zero=>simp
  | succ i=>
   have a:(j:Int)≠((j+(i+1):Nat):Int):=zo;have b:=find_born (i:=i) (l:=r) (j:=j+1) zg;grind
def aKx{t:TypeId}{K:Z->Prop}(hm:w.heap[r]?=O (eI l)){s:List UInt8}(a:l[i]?=O (s,u))(v:Y) :
  WU P (Instr.entryStore t (.map (O r)) (zi i) v) w K X=K (bO w r (eI (l.set i (s,v)))):=by
 have d:=(List.getElem?_eq_some_iff.1 a).1;have c:=find_born (l:=l) (j:=0) d;rw[Nat.zero_add] at c;have f:bO w r (eI (l.set i (s,v)))=bO w r (.map ((oA l 0).toArray.modify i fun e=>{ e with val:=v }) l.length):=by
  unfold eI;rw[List.length_set,<- aep (g:=fun e=>{ e with val:=v }) (fun b=>rfl) a];grind
 rw[f];refine Rn ?_;simp [Instr.entryStore,FT (show w.heap[r]?=O (.map (oA l 0).toArray l.length) from hm),c,a1r _ (show w.heap[r]?=O (.map (oA l 0).toArray l.length) from hm),bO,asInt,asIntOf]
end
end Sx
def xL(l:List Cl)(s:Bs):List Cl:=l.filter fun c=>P.keyOf c.name c.args.length == s
def aKy(l:List Cl)(c:Cl)(s:Bs):xL (l++[c]) s=if P.keyOf c.name c.args.length=s then xL l s++[c] else xL l s:=by
 unfold xL;grind
def j9.Cs{F:Nat->Prop}{w:Z}:∀ {xs:List Cl} {vs:List Y} (j:Nat) (b:j<xs.length),j9 F w vs xs->∃ v,vs[j]?=O v/\EH F w v xs[j]
 | x::xs,vs,0,_,⟨u,r,c,d,a⟩=>zg
 | x::xs,vs,j+1,b,⟨u,r,c,d,a⟩=>by
  obtain⟨v,g1,g2⟩:=j9.Cs j zg a;grind
def j9.len{F:Nat->Prop}{w:Z}:∀ {xs:List Cl} {vs:List Y},j9 F w vs xs->vs.length=xs.length
 | [],vs,h=>by have h:vs=[]:=h;grind
 | y::c,vs,⟨u,r,a,d,b⟩=>by rw[a];simp [j9.len b]
structure TF(w0 w:Z)(l:List (List UInt8×Y))(cs:List Cl):Prop where
 row:∀ s,match fL s l 0 with
  | none=>xL cs s=[]
  | some (_,v)=>xL cs s≠[]/\∃ vs,w.ownsRow (w0.heap.size+1) 79 1 v (xL cs s).length vs/\j9 (fun _=>True) w0 vs (xL cs s)
 sep:∀ s t i j v u,fL s l 0=O (i,v)->fL t l 0=O (j,u)->s≠t->v.ownBlock≠u.ownBlock
def TF.own{l:List (List UInt8×Y)}{cs:List Cl}(h:TF w0 w l cs)(a:fL s l 0=O (i,v)):∃ g,v.ownBlock=O g:=by
 have:=h.row s;rw[a] at this;obtain⟨c,vs,b,-⟩:=this;rcases b.2 with⟨-,d⟩| ⟨g,cap,cur,rfl,-⟩
 .grind
 .exact⟨g,J⟩
theorem TG(h:w.ownsRow base e 1 v n vs)(b:n=vs.length):fK (fun _=>True) w e v vs:=by
 subst b;rcases h.2 with⟨c,a⟩| ⟨g,cap,cur,rfl,a,d,f,i,j,k⟩
 .have a:vs.length=0:=a;exact .inl zg
 .have l:cur.size=cap:=zo;exact .inr yH
def aKz{base:List Cl}(hv:fK (fun _=>True) w 79 v vs)(U:j9 (fun _=>True) w vs base)(dx:∀ c∈base,c.name.length<=100/\c.args.length<=4)(hn:base.length<=100000) :
  Calls a9E 39 #[v] w fun e w'=>Ext w w'/\∃ mb,e = ah (.map (O mb))/\w.heap.size<=mb/\Bf w' mb base:=by
 have No:vs.length=base.length:=U.len;obtain⟨sa,sc,rfl⟩:=hv.sl;refine aJN ?_;obtain⟨w1,jK⟩:=cd (w.alloc (eI []));have XP:w.alloc (.map #[] 0)=w1:=jK.symm;have dB:Ext w w1:=yF;have m1:w1.heap[w.heap.size]?=O (eI []):=yH;refine bE ?_;rw[XP];refine⟨fun m z w'=>∃ (j:Nat) (l:List (List UInt8×Y)),z 10=zi (j:Nat)/\j<=base.length/\m=base.length-j/\Ext w w'/\w'.heap[w.heap.size]?=O (eI l)/\TF w w' l (base.take j),
  ⟨_,0,[],J,Nat.zero_le _,J,dB,m1,⟨(by grind [fL,xL]),(by grind [fL])⟩⟩,?_⟩
 intro m z d w2 hI;refine toPr ?_;obtain⟨j,l,W,hj,rfl,C,m2,D⟩:=hI;by_cases hlt:j<base.length
 .obtain⟨rb,rcs,M,-,N,K⟩:=hv.at' (j:=j) zo;obtain⟨cv,e2,iX⟩:=U.Cs j hlt;rw[e2] at K;simp only[Value.slice.injEq,true_and] at M;obtain⟨rfl,rfl⟩:=M;obtain⟨cb,cav,cbv,XB,Tq,rfl,-,gS,⟨xus,lR,xd⟩,ny⟩:=id iX;obtain⟨xa,xc,rfl⟩:=lR.sl;have Jw:xus.length=(base[j]).args.length:=eO.E9 xd;have r2':=C.ext _ _ N;have II:=C.ext _ _ gS;have ql:(j:Int)<(base.length:Int):=zo;have ej:(j:Int).toNat=j:=zo;obtain⟨mm,kL⟩:=dx _ (List.getElem_mem hlt);refine dH No W @r2' (zA @K (zA II @ej)) ?_;rw[Jw];refine aZJ (anU (base[j]).name (base[j]).args.length mm zo _) ?_;rintro e w3 ⟨rfl,rfl⟩;have m3:w2.drew.heap[w.heap.size]?=O (eI l):=m2;obtain⟨key,OH⟩:=cd (P.keyOf (base[j]).name (base[j]).args.length);rw[<- OH];refine bE ?_;rw[KQ (k:=9) (e:=68) zk zk (z:=bV) zk m3];have X:=D.row key;obtain⟨F,jl⟩:=cd (w2.drew.alloc (ae #[pp cb] 79));have y:Ext w2 F:=yF;have g4:F.heap[w2.heap.size]?=aM #[pp cb] 79:=yH;have m4:=y.ext _ _ m2;have s2:=C.size;have s4:=y.size;have aa9:w.heap.size<w2.heap.size:=yH;have Q:∀ {x:Y} {n:Nat} {xs:List Y},F.ownsRow (w.heap.size+1) 79 1 x n xs->O w.heap.size≠x.ownBlock:=fun h e=>by
   rcases h.2 with⟨a,-⟩| ⟨g,cap,cur,a,f,-⟩
   .rw[a] at e;cases e
   grind [a0q,aZG]
  have kK:∀ {x v':Y} {n:Nat} {xs:List Y} {q:Z} {l':List (List UInt8×Y)},F.ownsRow (w.heap.size+1) 79 1 x n xs->q.ownsRow (w.heap.size+1) 79 1 v' (n+1) (xs++[pp cb]) ->
    F.grownBy q x.ownBlock->(v'.ownBlock=x.ownBlock\/∀ k,v'.ownBlock=O k->F.heap.size<=k)->n=(xL (base.take j) key).length->j9 (fun _=>True) w xs (xL (base.take j) key) ->
    (∀ t i u,t≠key->fL t l 0=O (i,u)->u.ownBlock≠x.ownBlock)->(∀ t,t≠key->fL t l' 0=fL t l 0)->(∃ i,fL key l' 0=O (i,v')) ->
    Ext w (bO q w.heap.size (eI l'))/\(bO q w.heap.size (eI l')).heap[w.heap.size]?=O (eI l')/\TF w (bO q w.heap.size (eI l')) l' (base.take (j+1)):=by
   intro x v' n xs q l' hx Dx E dR xn aKB ed gi R;obtain⟨ik,R⟩:=R;have S:q.heap[w.heap.size]?=O (eI l):=by rw[E.block _ (bg m4) (Q hx)];exact m4
   have lm5:=bg S;have ud:Ext w q:=⟨E.os.trans (y.os.trans C.os),E.tape.trans (y.tape.trans C.tape),E.output.trans (y.output.trans C.output),zo,fun b o hb _=>by
    rw[E.block b (yH) (fun e=>?_)]
    .exact y.ext _ _ (C.ext _ _ hb)
    .have:=bg hb;rcases hx.2 with⟨a,-⟩| ⟨g,cap,cur,a,f,-⟩
     .rw[a] at e;cases e
     grind [a0q,aZG]⟩
   have hold:∀ {u:Y} {k:Nat} {us:List Y},w2.ownsRow (w.heap.size+1) 79 1 u k us->∀ g,u.ownBlock=O g->g<F.heap.size:=fun h g E=>by
    rcases h.2 with⟨a,-⟩| ⟨g',cap,cur,a,f,r,-⟩
    .rw[a] at E;cases E
    grind [a0q,aZG,bg]
   refine⟨yF,yH,?_,?_⟩
   .intro t;rw[List.take_succ_eq_append_getElem hlt,aKy,<- OH];by_cases ht:key=t
    .subst ht;rw[zip J,R];simp only;refine⟨zs,xs++[pp cb],?_,aKB.snoc iX⟩;grind [List.length_append,List.length_singleton,Iz,a0q,aZG]
    .rw[bZ ht,gi t (fun e=>ht e.symm)];have hr:=D.row t;cases L:fL t l 0 with
     | none=>exact yH
     | some p=>
      obtain⟨i,u⟩:=p;rw[L] at hr;obtain⟨a,us,f,r⟩:=hr;refine⟨a,us,?_,r⟩;have B:F.ownsRow (w.heap.size+1) 79 1 u (xL (base.take j) t).length us:=jJ y.ext f;have aKC:=ed t i u (fun e=>ht e.symm) L;have h5:q.ownsRow (w.heap.size+1) 79 1 u (xL (base.take j) t).length us:=by
       refine⟨B.1,?_⟩;rcases B.2 with h6 | ⟨g,cap,cur,M,e2,e3,e4⟩
       .exact yH
       .refine .inr ⟨g,cap,cur,M,e2,?_,e4⟩;rw[E.block g (bg e3) (fun e=>aKC (by rw[M,<- e];rfl))];omega
      grind [Iz]
   .intro s t i i' u u' a f gK;by_cases hs:s=key
    .subst hs;rw[R] at a;cases a;rw[gi t (fun e=>gK e.symm)] at f;have hr:=D.row t;rw[f] at hr;obtain⟨_,us,r,-⟩:=hr;obtain⟨g,H⟩:=D.own f;rcases dR with B | B
     .rw[B];exact fun e=>ed t i' u' (fun e=>gK e.symm) f e.symm
     .intro e;have h5:=B g (by rw[e];exact H);have h6:=hold r g H;omega
    .rw[gi s hs] at a;by_cases ht:t=key
     .subst ht;rw[R] at f;cases f;have hr:=D.row s;rw[a] at hr;obtain⟨_,us,r,-⟩:=hr;obtain⟨g,H⟩:=D.own a;rcases dR with B | B
      .rw[B];exact ed s i u hs a
      .intro e;have h5:=B g (by rw[<- e];exact H);have h6:=hold r g H;omega
     .rw[gi t ht] at f;exact D.sep s t i i' u u' a f gK
  have aKD:(xL (base.take j) key).length<=100000:=aZL (List.length_filter_le _ _) zg;cases hk:fL key l 0 with
  | none=>
   rw[hk] at X;simp only;refine bE ?_;rw[<- jl];refine abS (base:=w.heap.size+1) (aZ8 _ _ _ _) g4 J zo zo ?_;intro v' q I T xH;have S:q.heap[w.heap.size]?=O (eI l):=by rw[T.block _ (bg m4) (by intro e;cases e)];omega
   rw[xK (k:=9) (e:=68) zk zk S key hk];obtain⟨r1,N,K⟩:=kK (l':=l++[(key,v')]) (aZ8 _ _ _ _) I T xH zg (by rw[show xL (base.take j) key=[] from X];rfl)
    (fun t i u _ L=>by obtain⟨g,H⟩:=D.own L;rw[H];intro e;cases e)
    (fun t ht=>by rw[XO];grind) ⟨0+l.length,by grind [XO]⟩
   refine cH W ?_;exact⟨base.length-(j+1),zo,j+1,l++[(key,v')],zg,zo,J,r1,N,K⟩
  | some p=>
   obtain⟨i,x⟩:=p;rw[hk] at X;obtain⟨a,us,f,r⟩:=X;simp only;obtain⟨xa',xc',q8⟩:=gV f;refine bE ?_;rw[<- jl];refine abS (base:=w.heap.size+1) (jJ y.ext f) g4 J aKD zo ?_;intro v' q I T xH;have S:q.heap[w.heap.size]?=O (eI l):=by rw[T.block _ (bg m4) (Q (jJ y.ext f))];omega
   rw[aom (k:=9) (e:=68) zk zk S key hk];have Cc:=fun s=>aol (s:=s) (v:=v') hk;rw[Nat.sub_zero] at Cc;obtain⟨r1,N,K⟩:=kK (l':=l.set i (key,v')) (jJ y.ext f) I T xH J r
    (by grind [TF.sep])
    zg zg
   refine cH W ?_;exact⟨base.length-(j+1),zo,j+1,l.set i (key,v'),zg,zo,J,r1,N,K⟩
 .have fw:j=base.length:=zo;subst fw;refine du No W ?_;refine⟨C,_,J,Nat.le_refl _,(oA l 0).toArray,l.length,m2,by grind [PY],fun name n hn4=>?_⟩;rw[a1n,PZ];have hr:=D.row (P.keyOf name n);rw[List.take_length] at hr;have ja:xL base (P.keyOf name n)=GO base name n:=by
   unfold xL GO;refine List.filter_congr fun c U=>?_;have:=(dx c U).2;rw[Bool.eq_iff_iff];simp only[beq_iff_eq,Bool.and_eq_true];grind [P.aee]
  rw[ja] at hr;cases L:fL (P.keyOf name n) l 0 with
  | none=>grind
  | some p=>
   rw[L] at hr;obtain⟨a,us,f,r⟩:=hr;exact⟨a,us,TG f r.len.symm,r.iT (eH.dZ C)⟩
def aKE{u:Option Addr}{body:Bd}(y:n<=100000)(m:w.heap[b]?=aM #[nm,av,pp xb,.slice u n pb] 86)
  (z:dL (fun _=>True) w (pp xb) body) :
  Calls a9E 38 #[.map (O mb),pp b] w fun e w'=>Ext w w'/\∃ q fb ρ todo,e = ah (pp q)/\w.heap.size<=q /\
   fK (fun _=>True) w' 89 (cR fb n n) (mG ρ (List.range n)) /\
   ∀ D:Nat->Prop,(∀ b,w.heap.size<=b->D b)->j7 D ρ q mb todo bV (cR fb n n) bV [] w' (Wk.new body n):=by
 refine anK ?_;refine cH m ?_;refine aZJ (anM n y w) ?_;rintro e w1 ⟨r,s1,vcs,rfl,U,B,C⟩;have d:=r.ext _ _ m;have W:=bg d;refine cH d ?_;obtain⟨w2,E⟩:=cd (w1.alloc (ae #[.map (O mb),bV,zi 0,aq V,bV,cR w.heap.size n n] 130));have F:w1.alloc (ae (Value.agg #[.map (O mb),bV,zi 0,aq V,bV,cR w.heap.size n n]).cells 130 (0,0))=w2:=E.symm;rw[F];have H:Ext w1 w2:=yF;have g2:w2.heap[w1.heap.size]?=aM #[.map (O mb),bV,zi 0,aq V,bV,cR w.heap.size n n] 130:=yH;have s2:w2.heap.size=w1.heap.size+1:=yH;have s:=H.ext _ _ d;have X:=bg g2;refine⟨fun w'=>w'.heap[b]?=w2.heap[b]?,J,?_⟩;rw[ju];refine cO (pq b 2) (fun w' a=>by rw[s] at a;exact fa a) (cO (pp xb) (fun w' a=>by rw[s] at a;have:=bg a;exact fa a) ?_);refine cH @g2 ?_;obtain⟨w3,I⟩:=cd (w2.drew.alloc (ae #[pp xb,cR w.heap.size n n,zi 0,aq V] 207));have K:Ext w2 w3:=yF;have g3:w3.heap[w2.heap.size]?=aM #[pp xb,cR w.heap.size n n,zi 0,aq V] 207:=yH;have e3:w2.drew.heap.size=w2.heap.size:=rfl;rw[<- I];have GI:Ext w w3:=yF;have L:=K.ext _ _ g2;have l3:=bg L;obtain⟨c,M⟩:=cd (bO w3 w1.heap.size (ae #[.map (O mb),bV,zi 0,pp w2.heap.size,bV,cR w.heap.size n n] 130));rw[<- M];have f:=r.size;have t:Ext w c:=yF;have N:∀ x o,x≠w1.heap.size->w3.heap[x]?=O o->c.heap[x]?=O o:=yH;have c4:c.heap[w1.heap.size]?=aM #[.map (O mb),bV,zi 0,pp w2.heap.size,bV,cR w.heap.size n n] 130:=yH;have P:∀ j,j<n->c.heap[w.heap.size+1+j]?=aM #[ai] 91:=yH;have Q:c.heap[w.heap.size]?=aM vcs 89:=yH;have h:=anN (ρ:=fun _=>0) (n:=0) Q B (fun j R=>(C j R).1);rw[<- List.range_eq_range'] at h;refine⟨t,w1.heap.size,w.heap.size,xI (fun _=>0) 0 (w.heap.size+1),pp w2.heap.size,J,f,h,fun D hD=>?_⟩;have S:∀ i,xI (fun _=>0) 0 (w.heap.size+1) i=w.heap.size+1+i:=(by grind [xI]);refine⟨⟨⟨yH,fun i k=>⟨ai,by rw[S];exact P i k,J⟩⟩,yH,c4,aZ8 _ _ _ _,fun g l=>(by cases l),yH,List.nodup_nil,(fun p T=>by cases T),trivial⟩,
  ⟨_,_,_,_,J,N _ _ zo g3,dL.iT (eH.dZ t) z,h,fun i k=>List.mem_range.1 k,J⟩,aZ8 _ _ _ _,J,fun g l=>(by cases l)⟩
def P1(F:Nat->Prop)(w:Z)(b:Nat)(x:Bd)(vs:List Bs):Prop:=
 F b/\vs.length<=12/\∃ xb a c,w.heap[b]?=aM #[aT [],bV,pp xb,.slice a vs.length c] 86/\dL F w (pp xb) x /\
  fK F w 9 (.slice a vs.length c) (vs.map fun s=>aT s)
def P1.aKG(F F':Nat->Prop)(w w':Z)(b:Nat)(x:Bd)(vs:List Bs)(a:∀ b,F b->F' b)(hw:∀ b o,F b->w.heap[b]?=O o->w'.heap[b]?=O o)(h:P1 F w b x vs):P1 F' w' b x vs:=by
 obtain⟨c,d,xb,e,f,g,i,j⟩:=h;exact⟨a _ c,d,xb,e,f,yH,(by grind [dL.mono]),(by grind [fK.mono])⟩
def aKH(h:w.ownsRow base e 1 v n vs)(c:n=vs.length)(d:∀ b cs,base<=b->w.heap[b]?=aM cs e->F b):fK F w e v vs:=by
 subst c;rcases h.2 with⟨f,a⟩| ⟨g,cap,cur,rfl,a,i,j,k,l,m⟩
 .have a:vs.length=0:=a;exact .inl zg
 .have o:cur.size=cap:=zo;exact .inr yH
def aKI(h:SP w pb tb T 0 [] 0)(B:mw w tb)(L:w.heap.size=pb+1):Calls a9E 76 #[pp pb] w (alk P1 pb w (uO T)):=by
 refine aGE ?_;cases l:ml T (xp T) 0 [] 0 with
 | none=>
  obtain⟨r,hr⟩:=(totB T (xp T)).body 0 [] 0 (by grind [xp]);grind
 | some q=>
 refine aZJ ((akZ (xp T)).go h B zo l) ?_;rintro e w1 s;cases q with
 | err c a=>
  obtain⟨⟨b,rfl,C,D⟩,g,M⟩:=s;refine bE ?_;refine⟨g,?_⟩;simp only[uO,l];exact⟨b,J,C,D⟩
 | ok x k vs=>
  obtain⟨v,rfl,hx,t,g⟩:=s;obtain⟨xb,rfl,-⟩:=hx.shape;have s1:=g.size;have N:=t.yg;cases i:mW T [46] x k vs with
  | none=>unfold mW at i;split at i<;>cases i
  | some P=>
  refine bE ?_;refine(abV t [46] zd x i).mono ?_;rintro e w2 ⟨m,(⟨rfl,hr,n⟩| ⟨c,a,hr,j⟩)⟩
  .have s2:=m.size;obtain⟨cap,u,y,cs,f,Q,R,E,S,g0,g1,g2,g3,g4,g5⟩:=n.x;have U:=bg f;refine bE ?_;refine⟨fun _ w'=>w'=w2/\(tk T (k+1)).kind=0,?_,?_⟩
   .by_cases o:(tk T (k+1)).kind=0
    .have p:(((tk T (k+1)).kind:Nat):Int)=0:=zo;refine iZ f @g0 @g3 ?_;omega
    .have p:¬ (((tk T (k+1)).kind:Nat):Int)=0:=zo;refine iZ f @g0 @g3 ?_;refine(RE n).mono ?_;rintro e w3 ⟨j,F,-⟩;have H:=Mt j (aZL s1 s2);obtain⟨b,rfl,-,-⟩:=j;refine bE ?_;refine⟨(g.trans m).trans F,?_⟩;simp only[uO,l,i,hr,bZ o];omega
   .rintro _ w3 ⟨rfl,o⟩ d;refine cH f ?_;have z:Ext w3 (w3.alloc (ae #[aT [],bV,pp xb,.slice u vs.length y] 86)):=yF;refine⟨(g.trans m).trans z.toM,?_⟩;simp only[uO,l,i,hr,zip o];obtain⟨W,I,q1,q2,q3,q4⟩:=n.yg;rw[q3] at f;injection f with f;injection f with f _ _;have f:=congrArg (fun a:Array Y=>a[1]?) f;simp only[List.getElem?_toArray,List.getElem?_cons_succ,a01,aZG] at f;subst f;refine⟨_,J,yH,n.nv,xb,u,y,yH,?_,?_⟩
    .have K:dL (Nu w w3) w3 (pp xb) x:=dL.mono zg (by grind [cZ.kX]) _ _ hx;exact dL.mono (by grind [size_alloc]) yH _ _ K
    .refine aKH (jJ z.ext q4) zs yH
  .have H:=Mt j s1;obtain⟨b,rfl,-,-⟩:=j;refine bE ?_;refine⟨g.trans m,?_⟩;grind [uO]
def aoo(s:Bs)(w:Z)(j:s.length<=100000)(l:Io w)(hC:mw w w.heap.size):Calls a9E 37 #[aT s] w (Wq P1 w (xw uO s)):=by
 refine aGF ?_;refine(aF8 P1.aKG (g:=uO) zk s w j l fun _ h m n=>aKI h (m hC) n).mono ?_;rintro e w1 ⟨i,d⟩;cases hr:xw uO s with
 | err c a=>
  rw[hr] at d;obtain⟨b,rfl,f⟩:=d;refine bE ?_;exact⟨i,b,J,f⟩
 | ok x k vs=>
  rw[hr] at d;obtain⟨b,rfl,f⟩:=d;refine bE ?_;exact⟨i,b,J,f⟩
open Go.Proofs.YtoegidfbnkaabaaGreatDoor.Sx
section
variable{p0 p1 p2 p3 p4 p5 p6 p7:Y}{w:Z}{R:Ending->Z->Prop}
def aKJ:=cz w R [p0] (gc [] [] [13]) func25
def aKK:=cz w R [p0] (gc [] [] []) func40
def aKL:=cz w R [p0] (gc [] [] []) func16
end
section
variable{p0 p1 p2 p3 p4 p5 p6 p7:Y}{w:Z}{R:Ending->Z->Prop}
def aKM:=cy w R [p0] (gd [(10,[49])] [(14001,[]),(16001,[])] [(16,11)] [(2,[6,0,1,2,3,4,5]),(7,[6,0,1,2,3,4,5])] [] [] [11,27,28,50,68,69,74,83,104]) func27
end
def aop(w:Z):(aZ0 ai 20 27 A).run a9E w = .ok (ak #[zi 0,.bool G]) w:=zk
def aoq(v:Y)(w:Z):(aZ0 (aj 27 v) 20 27 A).run a9E w = .ok (ak #[v,.bool A]) w:=zk
def aKN(w:Z):(aZ0 ai 20 134 A).run a9E w = .ok (ak #[.agg #[],.bool G]) w:=zk
def aKO(v:Y)(w:Z):(aZ0 (aj 134 v) 20 27 A).run a9E w = .ok (ak #[zi 0,.bool G]) w:=zk
def aKP(v:Y)(w:Z):(aZ0 (aj 134 v) 20 134 A).run a9E w = .ok (ak #[v,.bool A]) w:=zk
def P2(id:Nat)(Q:Exit->Act->List Frame->Z->Prop):Exit->Act->List Frame->Z->Prop
 | .exit b,a,cs,w=>if b=id then Q .normal a cs w else Q (.exit b) a cs w
 | e,a,cs,w=>Q e a cs w
def aer{P:Program}{Q:Exit->Act->List Frame->Z->Prop}{cs:List Frame}{id:Nat}{c:Code}(h:c.wpS P (P2 id Q) a cs w):(Code.block id c).wpS P Q a cs w:=fun b k m hr=>by
 obtain⟨e,d,f,w1,g,i⟩:=h b (.inBlock id::k) m hr;cases e with
 | normal=>exact⟨.normal,d,f,w1,g,.head step_block (Steps.trans i (.one step_inBlock))⟩
 | exit j=>
  by_cases hid:j=id
  .have g:Q .normal d f w1:=by grind [P2,hid]
   exact⟨.normal,d,f,w1,g,.head step_block (i k (by simp [exitTo,hid]))⟩
  .have g:Q (.exit j) d f w1:=by grind [P2,hid]
   refine⟨.exit j,d,f,w1,g,fun k' hk=>.head step_block (i k' ?_)⟩;grind [id,hid,exitTo]
 | goto l=>exact⟨_,d,f,w1,g,fun k' hk=>.head step_block (i k' (by grind [gotoIn]))⟩
 | ret=>exact⟨_,d,f,w1,g,.of_steps (.one step_block) i⟩
 | panic n=>exact⟨_,d,f,w1,g,.of_steps (.one step_block) i⟩
 | outgrown=>exact⟨_,d,f,w1,g,.of_steps (b:=b) (k:=k) (e:=.outgrown) (.one step_block) i⟩
def aKQ(v0 v1 v2:Y)(w:Z):CallsD a9E 42 #[v0,v1,v2] .returning w fun e u' w'=>e = ah (ak #[])/\u' = .returning/\w'=w:=by
 refine callsD_of_wpS func42 J fun Ab cs hu=>?_;apply wpS_seq;apply wpS_region;simp [wpOpsS,go_sem,recoverD,hu,ntmps42,a0o];apply aer;apply wpS_seq;apply wpS_region;simp [wpOpsS,go_sem,recoverD,hu,ntmps42,a0o,aop];refine wpS_cond (t:=false) (by simp [a1Y]) ?_;simp only[a0h,if_false];apply wpS_seq;apply wpS_region;simp [wpOpsS,go_sem,recoverD,hu,ntmps42,a0o,aKN];refine wpS_cond (t:=false) (by simp [a1Y]) ?_;simp only[a0h,if_false];refine wpS_of_wp (wp_skip ?_);cases Ab;simp_all [P2,bodyPostS,results,Tryz.results42]
section
variable{w:Z}{qb b0 b1 b2:Nat}{q0 q1 q2 q3 q4 o1 o2:Y}
structure Nq(w:Z)(qb b0 b1 b2:Nat)(q0 q1 q2 q3 q4 o1 o2:Y):Prop where
 q:w.heap[qb]?=aM #[q0,q1,q2,q3,q4] 121
 x0:w.heap[b0]?=aM #[pp qb] 35
 x1:w.heap[b1]?=aM #[o1] 9
 x2:w.heap[b2]?=aM #[o2] 57
 lt:qb<b0/\b0<b1/\b1<b2
def D0{w:Z}{T:Nat}(h:w.heap[b]?=aM cs T)(hv:cs[o]?=O v):w.cell? ⟨b,o,V⟩=O v:=by
 grind [World.cell?]
def aKR(h:Nq w qb b0 b1 b2 q0 q1 q2 q3 q4 o1 o2)(k:Int)(xt:List PanicEntry) :
  CallsD a9E 42 #[pp b0,pp b1,pp b2] (.panicking ({ v:=aj 27 (zi k),recovered:=false }::xt)) w fun e u' w'=>
   e = ah (ak #[])/\u' = .panicking ({ v:=aj 27 (zi k),recovered:=true }::xt) /\
   w'=bO (bO (bO w qb (ae #[q0,q1,q2,q3,aj 27 (zi k)] 121)) b1 (ae #[aT []] 9 (0,0))) b2 (ae #[aj 27 (zi k)] 57):=by
 obtain⟨hq,h0,h1,h2,AZ,pY,gn⟩:=h;have c0:w.cell? ⟨b0,0,V⟩=O (pp qb):=D0 h0 J;have z0:=jH h0 0;have c4:w.cell? ⟨qb,4,V⟩=O q4:=D0 hq J;have z4:=jH hq 4;have e1:w.setCell ⟨qb,4,V⟩ (aj 27 (zi k))=bO w qb (ae #[q0,q1,q2,q3,aj 27 (zi k)] 121):=uD hq _;obtain⟨w1,jK⟩:=cd (bO w qb (ae #[q0,q1,q2,q3,aj 27 (zi k)] 121));rw[<- jK] at e1;have zU:w1.heap[b1]?=aM #[o1] 9:=yH;have c1:w1.cell? ⟨b1,0,V⟩=O o1:=D0 zU J;have z1:=jH zU 0;have e2:w1.setCell ⟨b1,0,V⟩ (aT [])=bO w1 b1 (ae #[aT []] 9 (0,0)):=uD zU _;obtain⟨w2,jR⟩:=cd (bO w1 b1 (ae #[aT []] 9 (0,0)));rw[<- jR] at e2;have AX:w2.heap[b2]?=aM #[o2] 57:=yH;have c2:w2.cell? ⟨b2,0,V⟩=O o2:=D0 AX J;have z2:=jH AX 0;have e3:w2.setCell ⟨b2,0,V⟩ (aj 27 (zi k))=bO w2 b2 (ae #[aj 27 (zi k)] 57):=uD AX _;refine callsD_of_wpS func42 J fun Ab cs hu=>?_;apply wpS_seq;apply wpS_region;simp [wpOpsS,go_sem,recoverD,hu,ntmps42,a0o];apply aer;apply wpS_seq;apply wpS_region;simp [wpOpsS,go_sem,recoverD,hu,ntmps42,a0o,aoq];refine wpS_cond (t:=true) (by simp [a1Y]) ?_;simp only[if_true];apply wpS_seq;apply wpS_region;simp [wpOpsS,go_sem,recoverD,hu,ntmps42,a0o];apply wpS_seq;apply wpS_region;simp [wpOpsS,go_sem,recoverD,hu,ntmps42,a0o,c0,z0,c4,z4,e1];have e2':w1.setCell ⟨b1,0,V⟩ (.string { data:=#[] })=w2:=e2;apply wpS_region;simp [wpOpsS,go_sem,recoverD,hu,ntmps42,a0o,c1,z1,c2,z2,e2',e3];simp [P2,bodyPostS,results,Tryz.results42,jK,jR]
def aKS(h:Nq w qb b0 b1 b2 q0 q1 q2 q3 q4 o1 o2)(xt:List PanicEntry) :
  CallsD a9E 42 #[pp b0,pp b1,pp b2] (.panicking ({ v:=aj 134 (.agg #[]),recovered:=false }::xt)) w fun e u' w'=>
   e = ah (ak #[])/\u' = .panicking ({ v:=aj 134 (.agg #[]),recovered:=true }::xt)/\∃ w0,w0=w.alloc (ae #[] 134) /\
   w'=bO (bO (bO w0 qb (ae #[q0,q1,q2,q3,aj 27 (zi 11)] 121)) b1 (ae #[aT []] 9 (0,0))) b2 (ae #[aj 27 (zi 11)] 57):=by
 refine callsD_of_wpS func42 J fun Ab cs hu=>?_;apply wpS_seq;apply wpS_region;simp [wpOpsS,go_sem,recoverD,hu,ntmps42,a0o];apply aer;apply wpS_seq;apply wpS_region;simp [wpOpsS,go_sem,recoverD,hu,ntmps42,a0o,aKO];refine wpS_cond (t:=false) (by simp [a1Y]) ?_;simp only[a0h,if_false];apply wpS_seq;apply wpS_region;simp [wpOpsS,go_sem,recoverD,hu,ntmps42,a0o,aKP];refine wpS_cond (t:=true) (by simp [a1Y]) ?_;simp only[if_true];apply wpS_seq;apply wpS_region;simp [wpOpsS,go_sem,recoverD,hu,ntmps42,a0o];obtain⟨w0,xM⟩:=cd (w.alloc (ae #[] 134));have ox:Ext w w0:=yF;rw[<- xM];obtain⟨hq,h0,h1,h2,AZ,pY,gn⟩:=h;have hq:=ox.ext _ _ hq;have h0:=ox.ext _ _ h0;have h1:=ox.ext _ _ h1;have h2:=ox.ext _ _ h2;clear xM ox;have c0:w0.cell? ⟨b0,0,V⟩=O (pp qb):=D0 h0 J;have z0:=jH h0 0;have c4:w0.cell? ⟨qb,4,V⟩=O q4:=D0 hq J;have z4:=jH hq 4;have e1:w0.setCell ⟨qb,4,V⟩ (aj 27 (zi 11))=bO w0 qb (ae #[q0,q1,q2,q3,aj 27 (zi 11)] 121):=uD hq _;obtain⟨w1,jK⟩:=cd (bO w0 qb (ae #[q0,q1,q2,q3,aj 27 (zi 11)] 121));rw[<- jK] at e1;have PW:w1.heap[qb]?=aM #[q0,q1,q2,q3,aj 27 (zi 11)] 121:=yH;have c4':w1.cell? ⟨qb,4,V⟩=O (aj 27 (zi 11)):=D0 PW J;have vg:w1.heap[b0]?=aM #[pp qb] 35:=yH;have D3:w1.cell? ⟨b0,0,V⟩=O (pp qb):=D0 vg J;have zU:w1.heap[b1]?=aM #[o1] 9:=yH;have c1:w1.cell? ⟨b1,0,V⟩=O o1:=D0 zU J;have z1:=jH zU 0;have e2:w1.setCell ⟨b1,0,V⟩ (aT [])=bO w1 b1 (ae #[aT []] 9 (0,0)):=uD zU _;obtain⟨w2,jR⟩:=cd (bO w1 b1 (ae #[aT []] 9 (0,0)));rw[<- jR] at e2;have AX:w2.heap[b2]?=aM #[o2] 57:=yH;have c2:w2.cell? ⟨b2,0,V⟩=O o2:=D0 AX J;have z2:=jH AX 0;have e3:w2.setCell ⟨b2,0,V⟩ (aj 27 (zi 11))=bO w2 b2 (ae #[aj 27 (zi 11)] 57):=uD AX _;have e2':w1.setCell ⟨b1,0,V⟩ (.string { data:=#[] })=w2:=e2;apply wpS_seq;apply wpS_region;simp [wpOpsS,go_sem,recoverD,hu,ntmps42,a0o,c0,z0,c4,z4,e1];apply wpS_region;simp [wpOpsS,go_sem,recoverD,hu,ntmps42,a0o,D3,c4',c1,z1,c2,z2,e2',e3];simp [P2,bodyPostS,results,Tryz.results42,jK,jR]
end
section
variable{p0 p1 p2 p3 p4 p5 p6 p7:Y}{w:Z}{R:Ending->Z->Prop}
def aKU:=cz w R [p0] (gc [] [] []) func43
end
def P.term(s:Bs):cj Ex:=xw aF0 s
def aor(v:Y)(n i:Nat)(h:i<n):(madeCells #[v] (n*1))[i]?=O v:=by
 simp [madeCells,h,Nat.mod_one]
