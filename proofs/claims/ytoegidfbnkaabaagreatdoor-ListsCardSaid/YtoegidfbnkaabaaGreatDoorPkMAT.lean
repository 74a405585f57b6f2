/- A part of one proof (KW6, KW7, KM1, KW8, KQ1, ShX6, ShX6b). -/
import Derived.Test.YtoegidfbnkaabaaGreatDoorPkMAS
set_option linter.all false
set_option maxRecDepth 100000
set_option maxHeartbeats 8000000
open Option renaming some → O, none → V
open Go renaming Value → Y, World → Z
open Bool renaming true → G, false → ae
open Go.Obj renaming cells → ah
open Go.Ending renaming returned → ai
open Go.Value renaming nilIface → aj, tuple → aq, pointer → au
open Option.some renaming injEq → a3I
open Go.Calls renaming mono → a3L
open Nat renaming le_trans → a3Q
open Go.Instr renaming loadAt → a32, fieldAt → a4C
open Go.Value.slice renaming injEq → a34
open Go.World renaming ownsRow_nil → a4d
open Go.Value renaming ownBlock → a4w
open List renaming getElem?_cons_zero → a5a, toList_toArray → a5D, getElem_cons_zero → a5H, getElem_cons_succ → a6c
open Go.MapKept renaming run_setObj_map → a5G
open Go.Proofs.Tryz renaming prog → bdO
namespace Go.Proofs.YtoegidfbnkaabaaGreatDoor
open P
open Go.RowKit Sx
variable{B M b base c d e f i j k' m mb n pb so tb told xb:Nat}{F:Nat->Prop}{K:Y->Prop}{T:List P.Tok}{av iv nm o4 o5 u v z:Y}{s:Bs}{gz:List Bd}{iF:Array Y}{vs:List Y}{w w0 w3:Z}
def gD.Ds{F:Nat->Prop}{w:Z}:∀ {l:List Bd} {us:List Y} (j:Nat) (a:j<l.length),gD F w us l->∃ u,us[j]?=O u/\dL F w u l[j]
 | x::l,us,0,_,h=>by
  unfold gD at h;grind
 | x::l,us,j+1,a,h=>by
  unfold gD at h;obtain⟨v,r,rfl,c,b⟩:=h;simpa using gD.Ds j zg b
def gD.Ic{F:Nat->Prop}{w:Z}:∀ {l:List Bd} {us:List Y},gD F w us l->us.length=l.length
 | [],us,h=>by unfold gD at h;subst h;rfl
 | x::l,us,h=>by
  unfold gD at h;obtain⟨v,r,rfl,b,a⟩:=h;simp [gD.Ic a]
section
variable{D:Nat->Prop}{ρ:Nat->Nat}{wb mb:Nat}{todo av vv tv:Y}{dk:List Y}{w w':Z}{k:Wk}
def partAt{us:List Y}{tv:Y}(c:fO (fun _=>True) w 84 tv us)(hx:gD (fun _=>True) w us gz)(d:j<gz.length) :
  ∃ pb a xb,tv = cS pb gz.length a.size/\w.heap[pb]?=aO a 84/\a[j]?=O (pp xb)/\dL (fun _=>True) w (pp xb) gz[j]:=by
 have f:=hx.Ic;obtain⟨b,cs,g,-,h,i⟩:=c.at' (j:=j) zo;obtain⟨u,k,e⟩:=hx.Ds j d;obtain⟨xb,rfl,-⟩:=e.shape;exact yH
def S3(a pb b:Nat)(w3 w':Z):Prop:=w'.heap[a]?=w3.heap[a]?/\w'.heap[pb]?=w3.heap[pb]?/\w'.heap[b]?=w3.heap[b]?
theorem S3.of{w':Z}(h:Ext w3 w'){b p g:Obj}(a:w3.heap[k']?=O b)(c:w3.heap[pb]?=O p)(d:w3.heap[so]?=O g):S3 k' pb so w3 w':=
 ⟨by rw[a];exact h.ext _ _ a,by rw[c];exact h.ext _ _ c,by rw[d];exact h.ext _ _ d⟩
def Rr{tv vv av:Y}(d:w3.heap[k']?=aO #[tv,vv,av,cS pb n told] 149)
  (c:w3.heap[pb]?=aO iF 84) (hi:i<n) (hx:iF[i]?=O (pp xb)) (hv:v=zi (i:Nat)) (hk:K (pp xb)) :
  NC (pp k') fun x=>vq bdO (a4C 149 x 3) (S3 k' pb so w3) fun x=>vq bdO (a32 147 x) (S3 k' pb so w3) fun x=>vq bdO (Instr.indexAt 147 x v) (S3 k' pb so w3) fun x=>
   vq bdO (a32 84 x) (S3 k' pb so w3) K:=by
 have e:(i:Int).toNat=i:=zo;have f:(i:Int)<(n:Nat):=zo;rw[jI];refine cQ (pq k' 3) (fun w' b=>eR) ?_;refine cQ (cS pb n told) (fun w' b=>by have a:=b.1;rw[d] at a;have:=bn a;exact eV a) ?_;refine cQ (pq pb i) (fun w' b=>by have a:=b.2.1;rw[c] at a;have:=bn a;rw[hv];exact mv a @e) ?_;refine cQ (pp xb) (fun w' b=>by have a:=b.2.1;rw[c] at a;have:=bn a;exact mv a hx) ?_;omega
def Ru{tv vv av:Y}{a:Option Addr}(e:w3.heap[so]?=aO #[tv,.slice a n c,vv,av] 207)(hk:K (.slice a n c)) :
  NC (pp so) fun x=>vq bdO (a4C 207 x 1) (S3 k' pb so w3) fun x=>vq bdO (a32 82 x) (S3 k' pb so w3) K:=by
 rw[jI];refine cQ (pq so 1) (fun w' d=>eR) ?_;refine cQ (.slice a n c) (fun w' d=>by have b:=d.2.2;rw[e] at b;have:=bn b;exact eV b) ?_;omega
def Zp{tv vv av:Y}{z:Int}(c:w3.heap[so]?=aO #[tv,vv,zi z,av] 207)(hk:K (zi z)) :
  NC (pp so) fun x=>vq bdO (a4C 207 x 2) (S3 k' pb so w3) fun x=>vq bdO (a32 3 x) (S3 k' pb so w3) K:=by
 rw[jI];refine cQ (pq so 2) (fun w' b=>eR) ?_;refine cQ (zi z) (fun w' b=>by have a:=b.2.2;rw[c] at a;have:=bn a;exact eV a) ?_;omega
def aMM(h:ku D ρ wb mb todo av vv tv dk w k)(hD:∀ b,w.heap.size<=b->D b){base:List Cl}(hB:B1 w mb base)(gU:∀ c∈base,zw M c)(hM:M<=100000)
 {g:P.Goal} (hgq:w.heap[k']?=aO #[o4,iv,zi (g.cut:Nat),o5] 207) (Jd:Re w o4 g.FP) (B:fO (fun _=>True) w 89 iv (ny ρ g.vars)) (L:∀ i∈g.vars,i<k.n)
  (hcut:g.cut<=k.bz.length) (fc:∀ b,g.FP=O b->eZ g.vars.length M b) (hz:k.sr.cV<=800000000) (zP:k.bz.length<900000000) {r:Except jP (Bool×Wk)} (hr:Ep base f g k=O r) :
  Calls bdO 225 #[pp wb,pp k'] w (EPost D w (Gc D ρ k.n wb mb vv) r):=by
 have D5:k.sr.tr.length+k.sr.fuel<=800000000:=hz;unfold Ep at hr;refine aMi ?_;refine bG ?_;refine a3L (Ot h.less Gb zo) ?_;rintro e w1 ⟨H,dC⟩;by_cases h0:k.sr.fuel=0
 .rw[zip h0] at hr dC;injection hr with hr;subst hr dC;exact⟨H.up fun _ h=>h.1,J⟩
 rw[bU h0] at hr dC;obtain⟨rfl,dC⟩:=dC;obtain⟨o,H⟩:=h.store dC H;have I:eJ w w1:=dc.toI H;have s1:=H.size;have x:=I _ _ _ (yM) hgq;have lq1:=bn x;have U:=o.cell;have lw1:=bn U;have dI:Ext w1 w1.drew:=yF;obtain⟨aa,ac,gA⟩:=gZ o.ar;obtain⟨LB,iW⟩:=Rj (by rw[gA] at o;exact o.ar:w1.ownsRow 0 356 4 (.slice aa k.bz.length ac) k.bz.length dk);have qN:(g.cut:Int)<=(ac:Nat):=zo;have UW:∀ b,w1.heap.size<=b->D b:=yH;have aqu:∀ {w2:Z},w2=bR w1.drew wb (ah #[.map (O mb),tv,zi (k.sr.dec.fuel:Nat),todo,.slice aa g.cut ac,vv] 130) ->
   EPost D w (Gc D ρ k.n wb mb vv) (.ok (G,{ k with sr:=k.sr.dec,bz:=k.bz.take g.cut })) (ai (.bool G)) w2:=fun{w2} j8=>by
  obtain⟨N,r2⟩:=(o.ext dI).forget hcut gA j8;exact⟨yF,J,ρ,eu.refl _ _,_,_,_,_,N⟩
 cases Ec:g.FP with
 | none=>
  rw[Ec] at hr Jd;have hwv:o4 = .pointer none:=Jd;subst hwv;cases hr;refine dG x @U gA iW ?_;exact aqu J
 | some b=>
  rw[Ec] at hr Jd;obtain⟨kind,name,args,parts⟩:=b;have fc:=fc _ Ec;have Jd:dL (fun _=>True) w o4 (.mk kind name args parts):=Jd;have aqv:=Jd.iS I;have rZ:=aqv;unfold dL at rZ;obtain⟨bb,bav,bpv,bus,Zq,rfl,-,y,hba,jM,E,F⟩:=rZ;have lbb:=bn y;have aqw:=fc;unfold eZ at aqw;obtain⟨mY,nW,⟨QI,QJ,QK⟩,Er,FT,jC,j3,zx⟩:=aqw;dsimp only at hr;refine dG x @U gA y ?_;have kk:∀ c:Nat,c<256->((kind:Int)=(c:Nat)↔kind=c):=zg;by_cases k33:kind=33
  .subst k33;rw[zip rfl] at hr;cases hr;refine dG x @U gA iW ?_;exact aqu J
  rw[bU k33] at hr;have aMQ:¬ ((kind:Int)=33):=zo;refine cJ @aMQ ?_;by_cases k44:kind=44
  .subst k44;rw[zip rfl] at hr;cases hr;have CT:Zq.length=parts.length:=F.Ic;obtain⟨pa,pc,W⟩:=E.sl;subst W;refine dA y CT ?_;refine⟨fun n s w3=>∃ (j:Nat) (tdv:Y),s 7=zi ((j:Int)-1)/\j<=parts.length/\n=j/\ku D ρ wb mb tdv av vv tv dk w3 { k with sr:=k.sr.dec,todo:=((parts.drop j).map fun p=>⟨O p,g.vars,g.cut⟩)++k.todo }/\dc D w1 w3,
    ⟨_,parts.length,todo,J,Nat.le_refl _,J,by simpa using o,bD.refl _ _⟩,?_⟩
   intro j s d w3 hI;refine toPr ?_;obtain⟨j',tdv,h7,hj,rfl,t,eI⟩:=hI;clear d;have LZ:eJ w1 w3:=dc.toI eI;have c3:=t.cell;have lw3:=bn c3;obtain⟨z,rfl⟩:=t.td.ptr;by_cases hj0:j=0
   .subst hj0;refine cJ h7 ?_;rw[List.drop_zero] at t;exact⟨yF,J,ρ,eu.refl _ _,_,_,_,_,t⟩
   .obtain⟨i,rfl⟩:∃ i,j=i+1:=⟨j-1,zo⟩;have hi:i<parts.length:=zo;have e7:((i+1:Nat):Int)-1=(i:Nat):=zo;rw[e7] at h7;obtain⟨pb,Dt,xb,p1,p2,p3,p4⟩:=partAt E F hi;injection p1 with p1 _ K;subst p1 K;rw[CT] at y;have Q:=LZ _ _ _ (yM) p2;have R:=LZ _ _ _ (yM) y;have q3:=LZ _ _ _ (yM) x;have ei:((i:Nat):Int).toNat=i:=zo;obtain⟨q,gc,X⟩:=B.sl;subst X;refine cJ h7 ?_;refine⟨S3 bb pb k' w3,⟨J,J,J⟩,?_⟩;refine Rr R Q hi p3 h7 ?_;refine Ru q3 ?_;refine Zp q3 ?_;have mw:((i:Nat):Int)<=100000:=zo;refine dA @c3 h7 ?_;obtain⟨m,oO⟩:=cj (w3.drew.alloc (ah #[pp xb,.slice q (ny ρ g.vars).length gc,zi (g.cut:Nat),.pointer z] 207));have B2:Ext w3 m:=yF;have g5:m.heap[w3.heap.size]?=aO #[pp xb,.slice q (ny ρ g.vars).length gc,zi (g.cut:Nat),.pointer z] 207:=yH;rw[<- oO];have Vh:eJ w1 m:=LZ.trans (eJ.ea B2);obtain⟨N,r2⟩:=(t.ext B2).LW (todo':=pp w3.heap.size) (l:=⟨O parts[i],g.vars,g.cut⟩::(((parts.drop (i+1)).map fun p=>⟨O p,g.vars,g.cut⟩)++k.todo))
     ⟨_,_,_,_,J,g5,dL.iS Vh p4,B.iS (I.trans Vh) (yM),L,t.td.bL (eJ.ea B2) (eu.refl _ _)⟩ J
    refine⟨(by grind [S3.of]),i,zo,i,pp w3.heap.size,zs,zo,J,?_,yF⟩;grind [List.drop_eq_getElem_cons]
  rw[bU k44] at hr;have aMS:¬ ((kind:Int)=44):=zo;refine cJ @aMS ?_;by_cases QI:kind=59
  .subst QI;obtain⟨pa,pc,W⟩:=E.sl;have CT:Zq.length=parts.length:=F.Ic;have h2:=QI J;subst W
   match parts,h2 with
   | [pA,pB],_=>
   obtain⟨pb,Dt,S,p1,p2,p3,p4⟩:=partAt E F (j:=0) zs;obtain⟨Zr,Zs,xb,K,Ma,p3',Vl⟩:=partAt E F (j:=1) zs;rw[p1] at K;simp only[a34,a3I,Addr.mk.injEq,and_true,true_and] at K;obtain⟨rfl,-⟩:=K;rw[p2] at Ma;simp only[a3I,Obj.cells.injEq,and_true] at Ma;subst Ma;rw[p1] at y;simp only[a5H,a6c] at p4 Vl;obtain⟨q,gc,X⟩:=B.sl;subst X;obtain⟨z,rfl⟩:=o.td.ptr;refine bG ?_;refine⟨S3 bb pb k' w1,⟨J,J,J⟩,?_⟩;refine Rr y p2 (i:=1) zs p3' J ?_;refine Ru x ?_;refine Zp x ?_;refine cJ @U ?_;obtain⟨w2,j8⟩:=cj (w1.drew.alloc (ah #[pp xb,.slice q (ny ρ g.vars).length gc,zi (g.cut:Nat),.pointer z] 207));have rH:Ext w1 w2:=yF;have g2:w2.heap[w1.heap.size]?=aO #[pp xb,.slice q (ny ρ g.vars).length gc,zi (g.cut:Nat),.pointer z] 207:=yH;rw[<- j8];have OK:eJ w1 w2:=eJ.ea rH;refine⟨(by grind [S3.of]),?_⟩;have BC:uZ ρ k.n w2 (pp w1.heap.size) (⟨O pB,g.vars,g.cut⟩::k.todo):=
    ⟨_,_,_,_,J,g2,dL.iS OK Vl,B.iS (I.trans OK) (yM),L,o.td.bL OK (eu.refl _ _)⟩
   refine a3L (af9 (o.ext rH) yH BC zg) ?_;rintro e w3 ⟨rfl,Vn,sd,aqA,t⟩;have se:dc D w1 w3:=(dc.ea rH).trans Vn;have u:eJ w1 w3:=dc.toI se;have R:=u _ _ _ (yM) y;have Q:=u _ _ _ (yM) p2;have q3:=u _ _ _ (yM) x;have c3:=t.cell;have lw3:=bn c3;refine⟨S3 bb pb k' w3,⟨J,J,J⟩,?_⟩;refine Rr R Q (i:=0) zs p3 J ?_;refine Ru q3 ?_;refine Zp q3 ?_;refine cJ @c3 ?_;obtain⟨a,jB⟩:=cj (w3.drew.alloc (ah #[pp S,.slice q (ny ρ g.vars).length gc,zi (g.cut:Nat),.pointer z] 207));have C:Ext w3 a:=yF;have g4:a.heap[w3.heap.size]?=aO #[pp S,.slice q (ny ρ g.vars).length gc,zi (g.cut:Nat),.pointer z] 207:=yH;rw[<- jB];have hK4:eJ w1 a:=u.trans (eJ.ea C);refine⟨(by grind [S3.of]),?_⟩;obtain⟨N,r2⟩:=(t.ext C).LW (todo':=pp w3.heap.size) (l:=⟨O pA,g.vars,g.cut⟩::k.todo)
    ⟨_,_,_,_,J,g4,dL.iS hK4 p4,B.iS (I.trans hK4) (yM),L,o.td.bL hK4 (eu.refl _ _)⟩ J
   cases hr;exact⟨H.trans yF,J,ρ,eu.refl _ _,_,_,_,_,N⟩
  rw[bU QI] at hr;have aMT:¬ ((kind:Int)=59):=zo;refine cJ @aMT ?_;by_cases QJ:kind=63
  .subst QJ;obtain⟨pa,pc,W⟩:=E.sl;have CT:Zq.length=parts.length:=F.Ic;have h2:=QJ J;subst W
   match parts,h2 with
   | [pA,pB,pC],_=>
   obtain⟨pb,Dt,S,p1,p2,p3,p4⟩:=partAt E F (j:=0) zs;obtain⟨Zr,Zs,xb,K,Ma,p3',Vl⟩:=partAt E F (j:=1) zs;obtain⟨aY0,aY1,xc,Zt,OM,Gd,Vo⟩:=partAt E F (j:=2) zs;rw[p1] at K Zt;simp only[a34,a3I,Addr.mk.injEq,and_true,true_and] at K Zt;obtain⟨rfl,-⟩:=K;obtain⟨rfl,-⟩:=Zt;rw[p2] at Ma OM;simp only[a3I,Obj.cells.injEq,and_true] at Ma OM;subst Ma OM;rw[p1] at y;simp only[a5H,a6c] at p4 Vl Vo;obtain⟨q,gc,X⟩:=B.sl;subst X;obtain⟨z,rfl⟩:=o.td.ptr;refine bG ?_;refine⟨S3 bb pb k' w1,⟨J,J,J⟩,?_⟩;refine Rr y p2 (i:=2) zs Gd J ?_;refine Ru x ?_;refine Zp x ?_;refine cJ @U ?_;obtain⟨w2,j8⟩:=cj (w1.drew.alloc (ah #[pp xc,.slice q (ny ρ g.vars).length gc,zi (g.cut:Nat),.pointer z] 207));have rH:Ext w1 w2:=yF;have g2:w2.heap[w1.heap.size]?=aO #[pp xc,.slice q (ny ρ g.vars).length gc,zi (g.cut:Nat),.pointer z] 207:=yH;rw[<- j8];have OK:eJ w1 w2:=eJ.ea rH;refine⟨(by grind [S3.of]),?_⟩;have BC:uZ ρ k.n w2 (pp w1.heap.size) (⟨O pC,g.vars,g.cut⟩::k.todo):=
    ⟨_,_,_,_,J,g2,dL.iS OK Vo,B.iS (I.trans OK) (yM),L,o.td.bL OK (eu.refl _ _)⟩
   refine a3L (af9 (o.ext rH) yH BC zg) ?_;rintro e w3 ⟨rfl,Vn,sd,aqA,t⟩;have se:dc D w1 w3:=(dc.ea rH).trans Vn;have u:eJ w1 w3:=dc.toI se;have R:=u _ _ _ (yM) y;have Q:=u _ _ _ (yM) p2;have q3:=u _ _ _ (yM) x;have c3:=t.cell;refine dG @c3 @R @Q (zA @p3' @q3) ?_;obtain⟨a,jB⟩:=cj (w3.drew.alloc (ah (Value.agg #[pp xb,.slice q (ny ρ g.vars).length gc,zi (g.cut:Nat),.pointer z]).cells 207 (0,0)));have C:Ext w3 a:=yF;have g4:a.heap[w3.heap.size]?=aO #[pp xb,.slice q (ny ρ g.vars).length gc,zi (g.cut:Nat),.pointer z] 207:=by rw[jB];exact tW (yH)
   rw[<- jB];have bb4:=C.ext _ _ R;have p24:=C.ext _ _ Q;have q4:=C.ext _ _ q3;have c4:=C.ext _ _ c3;have lw4:=bn c4;refine⟨S3 bb pb k' a,⟨J,J,J⟩,?_⟩;refine Rr bb4 p24 (i:=0) zs p3 J ?_;refine Ru q4 ?_;refine cJ @c4 ?_;obtain⟨m,oO⟩:=cj (a.drew.alloc (ah #[au V,bW,zi (k.bz.length:Nat),pp w3.heap.size] 207));have rI:Ext a m:=yF;have s5:m.heap.size=a.heap.size+1:=yH;have g5:m.heap[a.heap.size]?=aO #[au V,bW,zi (k.bz.length:Nat),pp w3.heap.size] 207:=yH;rw[<- oO];obtain⟨A,pN⟩:=cj (m.alloc (ah #[pp S,.slice q (ny ρ g.vars).length gc,zi (k.bz.length:Nat),pp a.heap.size] 207));have Vg:Ext m A:=yF;have g6:A.heap[m.heap.size]?=aO #[pp S,.slice q (ny ρ g.vars).length gc,zi (k.bz.length:Nat),pp a.heap.size] 207:=yH;rw[<- pN];have EV:Ext w3 A:=yF;have T:eJ w1 A:=u.trans (eJ.ea EV);refine⟨(by grind [S3.of]),(by grind [S3.of,bD.trans]),?_⟩;have gl:uZ ρ k.n A (pp m.heap.size) (⟨O pA,g.vars,k.bz.length⟩::⟨V,[],k.bz.length⟩::⟨O pB,g.vars,g.cut⟩::k.todo):=
    ⟨_,_,_,_,J,g6,dL.iS T p4,B.iS (I.trans T) (yM),L,_,_,_,_,J,Vg.ext _ _ g5,J,.inl ⟨J,J⟩,(fun _ h=>by cases h),
     _,_,_,_,J,(rI.trans Vg).ext _ _ g4,dL.iS T Vl,B.iS (I.trans T) (yM),L,o.td.bL T (eu.refl _ _)⟩
   rw[s5] at gl;obtain⟨N,r2⟩:=(t.ext EV).LW gl J;cases hr;exact⟨H.trans (se.trans yF),J,ρ,eu.refl _ _,_,_,_,_,N⟩
  rw[bU QJ] at hr;have aMV:¬ ((kind:Int)=63):=zo;refine cJ @aMV ?_;by_cases QK:kind=126
  .subst QK;obtain⟨pa,pc,W⟩:=E.sl;have CT:Zq.length=parts.length:=F.Ic;have h2:=QK J;subst W
   match parts,h2 with
   | [pA],_=>
   obtain⟨pb,Dt,S,p1,p2,p3,p4⟩:=partAt E F (j:=0) zs;rw[p1] at y;simp only[a5H] at p4;obtain⟨q,gc,X⟩:=B.sl;subst X;obtain⟨z,rfl⟩:=o.td.ptr;refine cJ @U ?_;refine a3L (af9 o UW o.td zg) ?_;rintro e w3 ⟨rfl,se,sd,aqA,t⟩;have u:eJ w1 w3:=dc.toI se;have R:=u _ _ _ (yM) y;have Q:=u _ _ _ (yM) p2;have q3:=u _ _ _ (yM) x;have c3:=t.cell;refine bG ?_;obtain⟨wf,Du⟩:=cj (w3.alloc (ah #[.int .u8 103,aW [102,97,105,108],bW,bW] 149 (0,0)));have aY2:Ext w3 wf:=yF;have sf:wf.heap.size=w3.heap.size+1:=yH;have gf:wf.heap[w3.heap.size]?=aO #[.int .u8 103,aW [102,97,105,108],bW,bW] 149:=yH;rw[<- Du];obtain⟨a,jB⟩:=cj (wf.alloc (ah (Value.agg #[pp w3.heap.size,bW,zi 0,au V]).cells 207 (0,0)));have g4:a.heap[wf.heap.size]?=aO #[pp w3.heap.size,bW,zi 0,au V] 207:=by rw[jB];exact tW J
   rw[<- jB];have C:Ext w3 a:=yF;have bb4:=C.ext _ _ R;have p24:=C.ext _ _ Q;have q4:=C.ext _ _ q3;have c4:=C.ext _ _ c3;have lw4:=bn c4;refine⟨S3 bb pb k' a,⟨J,J,J⟩,?_⟩;refine Rr bb4 p24 (i:=0) zs p3 J ?_;refine Ru q4 ?_;refine cJ @c4 ?_;obtain⟨m,oO⟩:=cj (a.drew.alloc (ah #[au V,bW,zi (k.bz.length:Nat),pp wf.heap.size] 207));have rI:Ext a m:=yF;have s5:m.heap.size=a.heap.size+1:=yH;have g5:m.heap[a.heap.size]?=aO #[au V,bW,zi (k.bz.length:Nat),pp wf.heap.size] 207:=yH;rw[<- oO];obtain⟨A,pN⟩:=cj (m.alloc (ah #[pp S,.slice q (ny ρ g.vars).length gc,zi (k.bz.length:Nat),pp a.heap.size] 207));have Vg:Ext m A:=yF;have g6:A.heap[m.heap.size]?=aO #[pp S,.slice q (ny ρ g.vars).length gc,zi (k.bz.length:Nat),pp a.heap.size] 207:=yH;rw[<- pN];have rJ:Ext a A:=yF;have EV:Ext w3 A:=yF;have T:eJ w1 A:=u.trans (eJ.ea EV);refine⟨(by grind [S3.of]),(by grind [S3.of]),?_⟩;have Zu:dL (fun _=>True) A (pp w3.heap.size) As:=by
    unfold As dL;exact⟨_,_,_,[],[],J,trivial,yH,.inl ⟨J,J⟩,by unfold eS;rfl,.inl ⟨J,J⟩,by unfold gD;rfl⟩
   have gl:uZ ρ k.n A (pp m.heap.size) [⟨O pA,g.vars,k.bz.length⟩,⟨V,[],k.bz.length⟩,⟨O As,[],0⟩]:=
    ⟨_,_,_,_,J,g6,dL.iS T p4,B.iS (I.trans T) (yM),L,_,_,_,_,J,Vg.ext _ _ g5,J,.inl ⟨J,J⟩,(fun _ h=>by cases h),
     _,_,_,_,J,rJ.ext _ _ g4,Zu,.inl ⟨J,J⟩,(fun _ h=>by cases h),J⟩
   rw[s5] at gl;obtain⟨N,r2⟩:=(t.ext EV).LW gl J;cases hr;exact⟨H.trans (se.trans yF),J,ρ,eu.refl _ _,_,_,_,_,N⟩
  rw[bU QK] at hr;have aMW:¬ ((kind:Int)=126):=zo;refine dA @aMW x ?_;refine a3L (aME o UW (hB.fr H) gU hM aqv (B.iS I (yM)) L fc (by grind [Sr.cV,Sr.dec]) zP hr) ?_;rintro e w2 hp;exact EPost.agf (hp.of H)
end
section
variable{D:Nat->Prop}{ρ:Nat->Nat}{wb mb:Nat}{todo av vv tv:Y}{dk:List Y}{w w':Z}{k:Wk}
def ku.place(h:ku D ρ wb mb todo av vv tv dk w k)(hm:m<k.bz.length):∃ g ac cur a cv b fX us,av = cS g k.bz.length ac/\k.bz.length<=ac/\w.heap[g]?=aO cur 356/\cur.size=ac*4 /\
  cur[m*4]?=O (zi ((k.bz[m]).mark:Nat))/\cur[m*4+1]?=O a/\cur[m*4+2]?=O cv/\cur[m*4+3]?=O b /\
  uZ ρ k.n w a (k.bz[m]).todo/\oN w 79 cv fX/\ky (fun _=>True) w fX (k.bz[m]).clauses/\fO (fun _=>True) w 89 b us/\ql ρ k.n w us (k.bz[m]).args:=by
 obtain⟨a,cv,b,fX,us,o,g2,g3,g4,g5,g6⟩:=h.ag.at m hm;rcases h.ar.2 with⟨-,c⟩| ⟨g,cap,cur,d,c,e,f,p,i,q⟩
 .exact yH
 .have l:∀ j,j<4->cur[m*4+j]?=[Value.int .i64 ((k.bz[m]).mark:Nat),a,cv,b][j]?:=zg;exact⟨g,cap,cur,a,cv,b,fX,us,d,f,e,i,l 0 zo,zg,zg,zg,g2,g3,g4,g5,g6⟩
end
section
variable{D:Nat->Prop}{ρ:Nat->Nat}{wb mb:Nat}{vv:Y}{w w':Z}{k:Wk}
def aMX(h:Rg D ρ wb mb vv w k)(hD:∀ b,w.heap.size<=b->D b){base:List Cl}(hB:B1 w mb base)(gU:∀ c∈base,zw M c)(hM:M<=100000)(K:B<=800000000)
  (hg:mh M B k) {r:Except jP (Bool×Wk)} (hr:kY base d f G k=O r) :
  Calls bdO 223 #[pp wb] w (EPost D w (Gc D ρ k.n wb mb vv) r):=by
 refine aMj ?_;refine⟨fun n s w1=>∃ (ok:Bool) (E:Nat->Nat) (j:Wk),s 3 = .bool ok/\eu ρ k.n E j.n/\Rg D E wb mb vv w1 j/\dc D w w1/\mh M B { j with todo:=if ok then j.todo else [] }/\kY base d n ok j=O r,
  ⟨f,G,ρ,k,J,eu.refl _ _,h,yF,hg,hr⟩,?_⟩
 intro n s dd w1 hI;clear dd;obtain⟨ok,E,j,h3,vh,JL,dF,H,u⟩:=hI;cases n with
 | zero=>simp [kY] at u
 | succ n=>
 have s1:=dF.size;have I8:∀ {q:Except jP (Bool×Wk)} {z:Nat->Nat} {n2:Nat} {w2:Z} {e:Ending} {w3:Z} {r0:P.Out (Bool×Wk)},eu ρ k.n z n2->dc D w w2->EPost D w2 (Gc D z n2 wb mb vv) q e w3->r0=O q ->
   P.Out.bind r0 (fun p=>kY base d n p.1 p.2)=O r->(∀ p,q = .ok p->mh M B { p.2 with todo:=if p.1 then p.2.todo else [] }) ->
   ends (fun x w'=>∃ m,m<n+1/\∃ (ok:Bool) (E:Nat->Nat) (j:Wk),(jo [(3,x)]) 3 = .bool ok/\eu ρ k.n E j.n/\Rg D E wb mb vv w' j/\dc D w w'/\mh M B { j with todo:=if ok then j.todo else [] }/\kY base d m ok j=O r)
    (PC (EPost D w (Gc D ρ k.n wb mb vv) r)) e w3:=by
  intro q z n2 w2 e w3 r0 hu hE t hq0 y aqB;rw[hq0] at y;obtain⟨R,t⟩:=t;cases q with
  | error te=>
   cases y;have t:e=gW te:=t;subst t;cases te<;>exact⟨yF,J⟩
  | ok p=>
   obtain⟨rfl,ρ3,Oy,Rv⟩:=t;exact⟨n,Nat.lt_succ_self _,p.1,ρ3,p.2,J,hu.trans Oy,Rv,yF,zg,y⟩
 obtain⟨todo,av,tv,dk,I⟩:=JL;have c1:=I.cell;have Db:j.sr.tr.length+j.sr.fuel<=800000000:=a3Q H.cV K;have Ob:j.bz.length+j.sr.fuel<=800000000:=a3Q H.nQ K;refine⟨fun _ w2=>∃ (z:Nat->Nat) (l:Wk),eu ρ k.n z l.n/\Rg D z wb mb vv w2 l/\dc D w w2/\mh M B l/\∃ m,m<n+1/\(kY base d (m+1) G l=O r),?_,?_⟩
 .cases ok with
  | true=>
   refine cJ h3 ?_;exact⟨E,j,vh,⟨_,_,_,_,I⟩,dF,H,n,Nat.lt_succ_self _,u⟩
  | false=>
   simp only[Bool.false_eq_true,if_false] at H;obtain⟨aa,ac,L⟩:=gZ I.ar;refine jh h3 @c1 L ?_;rw[kY] at u;by_cases hle:j.bz.length=0
   .have hlt:(j.bz.length:Int)-1<0:=zo;rw[List.eq_nil_of_length_eq_zero hle] at u;cases u;refine cJ hlt ?_;exact⟨dF,J,E,vh,_,_,_,_,I⟩
   have hlt:¬ (j.bz.length:Int)-1<0:=zo;obtain⟨m,hm⟩:∃ m,j.bz.length=m+1:=⟨j.bz.length-1,zo⟩;have xr:m<j.bz.length:=zo;have Rw:j.bz.getLast?=O j.bz[m]:=zg;rw[Rw] at u;obtain⟨g,ac',cur,tp,cv,xF,fX,us,e1,e2,x7,jC,q0,q1,q2,q3,i1,i2,i3,i4,i5⟩:=I.place xr;rw[L] at e1;simp only[a34,true_and] at e1;obtain⟨rfl,rfl⟩:=e1;have lg:=bn x7;have agm:(j.bz.length:Int)-1=(m:Nat):=zo;have OO:((m:Nat):Int).toNat=m:=zo;rw[agm] at hlt ⊢;obtain⟨u1,u2,u3,u4⟩:=H.iH Rw;have dI:Ext w1 w1.drew:=yF;have hm4:m*4<ac*4:=zo;have hmi:((m:Nat):Int)<(j.bz.length:Nat):=zo;refine dG hlt @c1 L (zA @OO (zA x7 @q0)) ?_;refine a3L (afA (I.ext dI).less Gb u3 zo) ?_;rintro e w2 ⟨rfl,S,yp,mR⟩;obtain⟨A,UZ⟩:=(I.ext dI).store mR S;have rH:dc D w1 w2:=(dc.ea dI).trans UZ;have T:eJ w1 w2:=dc.toI rH;have F:w2.heap[g]?=aO cur 356:=S.block _ _ x7 (by rintro ⟨⟨-,U⟩,-⟩;rw[L] at U;exact U J);have lg2:=bn F;have c2:=A.cell;have l2:=bn c2;have s2:=rH.size;obtain⟨tq,rfl⟩:=i1.ptr;obtain⟨aa',aY6,W⟩:=i4.sl;obtain⟨Zh,cvn,Vd,je⟩:∃ a n c,cv = .slice a n c:=by
    rcases i2 with⟨-,rfl⟩| ⟨b,o,cap,cs,rfl,-⟩<;>exact zg
   have OM:=q2;have Gd:=q3;rw[je] at OM;rw[W] at Gd;refine dA F @OM ?_;have mg:=u1.ag _ _ u2;by_cases ye:(j.bz[m]).clauses=[]
   .have:fX=[]:=by rw[ye] at i3;exact i3
    subst this;have Vp:cv = bW:=by
     rcases i2 with⟨-,h⟩| ⟨b,o,cap,cs,-,-,-,-,h⟩<;>grind
    rw[je] at Vp;cases Vp;simp only[ye] at u;have Vc:((m:Nat):Int)<=(ac:Nat):=zo;obtain⟨LB,iW⟩:=Rj (by have:=A.ar;grind:w2.ownsRow 0 356 4 (cS g j.bz.length ac) j.bz.length dk);refine dG F @q1 @c2 (zA L iW) ?_;obtain⟨w3,tj⟩:=cj (bR w2 wb (ah #[.map (O mb),yp,zi (j.sr.fuel:Nat),.pointer tq,cS g j.bz.length ac,vv] 130));obtain⟨CU,R⟩:=A.LW (w1:=w3) (i1.bL T (eu.refl _ _)) zg;obtain⟨N,jB⟩:=cj (bR w2 wb (ah #[.map (O mb),yp,zi (j.sr.fuel:Nat),.pointer tq,cS g m ac,vv] 130));obtain⟨hx4,gT⟩:=CU.forget (m:=m) (w1:=N) (Nat.le_of_lt xr) L (by grind [Tj]);have hfu:(j.sr.iH (j.bz[m]).mark).fuel=j.sr.fuel:=rfl;rw[hfu,<- jB];have X:=H.back Rw;have Kp:j.bz.dropLast=j.bz.take m:=by grind [List.dropLast_eq_take,Nat.add_sub_cancel]
    rw[Kp] at X u;refine⟨E,{ j with sr:=j.sr.iH (j.bz[m]).mark,todo:=(j.bz[m]).todo,bz:=j.bz.take m },vh,⟨_,_,_,_,hx4⟩,yF,X,?_⟩;cases n with
    | zero=>grind [kY]
    | succ n=>grind
   .have jr:fX≠[]:=by
     rintro rfl;cases hx:(j.bz[m]).clauses with
     | nil=>grind
     | cons c0 l0=>rw[hx] at i3;obtain⟨_,_,h0,-⟩:=i3;grind
    obtain⟨cb,co,aM1,ccs,Mc,gX,-,-,-⟩:=i2.resolve_left zg;rw[je] at Mc;cases Mc;have u:P.Out.bind (xp d (j.bz[m]).args (j.bz[m]).clauses (j.bz[m]).todo m { j with sr:=j.sr.iH (j.bz[m]).mark }) (fun p=>kY base d n p.1 p.2)=O r:=by
     grind
    have EL:Ext w2 w2.drew:=yF;refine dG F @q1 @OM @Gd ?_;obtain⟨q,y,-⟩:∃ q,xp d (j.bz[m]).args (j.bz[m]).clauses (j.bz[m]).todo m { j with sr:=j.sr.iH (j.bz[m]).mark }=O q/\True:=by
     cases hx:xp d (j.bz[m]).args (j.bz[m]).clauses (j.bz[m]).todo m { j with sr:=j.sr.iH (j.bz[m]).mark } with
     | none=>rw[hx] at u;cases u
     | some q=>grind
    have Vq:eJ w1 w2.drew:=T.trans (eJ.ea EL);refine a3L (aqd (A.ext EL) yH (M:=M) (f:=d) (m:=m) (r:=q) ((by grind:oN w1 79 (.slice (O ⟨cb,co,V⟩) fX.length Vd) fX).bL fun b cs U=>Vq _ _ _ (yM) U) (i3.iS Vq)
     (W ▸ i4.iS Vq (yM)) (i5.Rf Vq (eu.refl _ _)) mg.args mg.cls hM (i1.bL Vq (eu.refl _ _)) (Nat.le_of_lt xr) zg (a3Q u1.cV K) zg y) ?_
    rintro e w3 t;refine I8 vh yF t y u fun p t=>?_;subst t;have qd:m=j.bz.length-1:=zo;have Zv:xp d (j.bz[m]).args (j.bz[m]).clauses (j.bz[m]).todo (j.bz.length-1) { j with sr:=j.sr.iH (j.bz[m]).mark }=O (.ok p):=by rw[<- qd];exact y
    exact(H.again Rw Zv).1
 .rintro s2 w2 ⟨z,l,Ge,⟨aqG,uY,yp,Rl,A⟩,S,F,m,hmn,C⟩ d2;clear d2;have c2:=A.cell;have l2:=bn c2;have aoh:l.sr.tr.length+l.sr.fuel<=800000000:=a3Q F.cV K;have aY8:l.bz.length+l.sr.fuel<=800000000:=a3Q F.nQ K;have s02:=S.size;rw[kY] at C;cases Q:l.todo with
  | nil=>
   rw[Q] at C;cases C;have htv:aqG = .pointer none:=by have:=A.td;rw[Q] at this;exact this
   subst htv;refine cJ @c2 ?_;obtain⟨wf,Du⟩:=cj (w2.alloc (ah #[.int .u8 103,aW [102,97,105,108],bW,bW] 149 (0,0)));have aZa:Ext w2 wf:=yF;have gf:wf.heap[w2.heap.size]?=aO #[.int .u8 103,aW [102,97,105,108],bW,bW] 149:=yH;have sf:wf.heap.size=w2.heap.size+1:=yH;obtain⟨N,jB⟩:=cj (wf.alloc (ah #[pp w2.heap.size,bW,zi 0,au V] 207));have g4:N.heap[wf.heap.size]?=aO #[pp w2.heap.size,bW,zi 0,au V] 207:=yH;have aM3:Ext w2 N:=yF;rw[<- Du,<- jB,<- sf];have Zu:dL (fun _=>True) N (pp w2.heap.size) As:=by
    unfold As dL;exact⟨_,_,_,[],[],J,trivial,yH,.inl ⟨J,J⟩,by unfold eS;rfl,.inl ⟨J,J⟩,by unfold gD;rfl⟩
   have gl:uZ z l.n N (pp wf.heap.size) [⟨O As,[],0⟩]:=⟨_,_,_,_,J,g4,Zu,.inl ⟨J,J⟩,zg,J⟩;obtain⟨r1,r2⟩:=(A.ext aM3).LW gl J;exact⟨yF,J,z,Ge,_,_,_,_,r1⟩
  | cons g rest=>
   rw[Q] at C;simp only at C;obtain⟨gb,wv,gv,nx,rfl,FR,Ec,mT,Ie,N0⟩:∃ b wv gv nx,aqG=pp b/\w2.heap[b]?=aO #[wv,gv,zi (g.cut:Nat),nx] 207/\Re w2 wv g.FP /\
     fO (fun _=>True) w2 89 gv (ny z g.vars)/\(∀ i∈g.vars,i<l.n)/\uZ z l.n w2 nx rest:=by have:=A.td;rw[Q] at this;exact this
   have lgb:=bn FR;obtain⟨nq,rfl⟩:=N0.ptr;refine dA @c2 FR ?_;obtain⟨CU,R⟩:=A.LW N0 J;have EW:nP M l.n l.bz.length (g::rest):=by rw[<- Q];exact F.todo
   have hgk:mh M B { l with todo:=g::rest }:=by rw[<- Q];omega
   obtain⟨q,y⟩:∃ q,Ep base d g { l with todo:=rest }=O q:=by
    cases hx:Ep base d g { l with todo:=rest } with
    | none=>rw[hx] at C;cases C
    | some q=>grind
   have hr3:P.Out.bind (Ep base d g { l with todo:=rest }) (fun p=>kY base d n p.1 p.2)=O r:=by
    rw[y] at C ⊢;cases q with
    | error e=>exact C
    | ok p=>exact aJA C zo zo
   have LZ:eJ w2 _:=dc.toI R;refine a3L (aMM (r:=q) (f:=d) CU (fun b U=>hD b (by have:=R.size;omega)) ((hB.fr S).fr R) gU hM (LZ _ _ _ (yM) FR) (Ec.bL LZ) (mT.iS LZ (yM)) Ie EW.1 EW.2.2.1 (a3Q F.cV K) (by show l.bz.length<_;omega) y) ?_;rintro e w3 t;refine I8 Ge yF t y hr3 fun p t=>?_;subst t;exact(aoi hgk A.st.ok gU y).1
end
namespace Sx
open Go
def pt(l:List (List UInt8×Y))(i:Nat):List MapEntry:=match l with
 | []=>[]
 | (s,v)::r=>{ key:=.string (bs s),val:=v,born:=i }::pt r (i+1)
def eM(l:List (List UInt8×Y)):Obj:=.map (pt l 0).toArray l.length
def fQ(s:List UInt8):List (List UInt8×Y)->Nat->Option (Nat×Y)
 | [],_=>V
 | (u,v)::r,i=>if u=s then O (i,v) else fQ s r (i+1)
theorem Rx:∀ (l:List (List UInt8×Y)) (i:Nat),Nr (pt l i)
 | [],_=>fun e he=>by cases he
 | (s,v)::r,i=>fun e he=>by
  rcases List.mem_cons.1 he with rfl | he
  .grind
  .exact Rx r (i+1) e he
def aM5(s:List UInt8):Ts (aW s)=O s:=rfl
def Ry(s:List UInt8):∀ (l:List (List UInt8×Y)) (i j:Nat),Bu s (pt l i) j=fQ s l j
 | [],_,_=>rfl
 | (u,v)::r,i,j=>by
  unfold pt Bu fQ;rw[aM5,Ry s r (i+1) (j+1)];grind
def ago(s:List UInt8)(v:Y):∀ (l:List (List UInt8×Y)) (i:Nat),pt l i++[{ key:=aW s,val:=v,born:=i+l.length }]=pt (l++[(s,v)]) i
 | [],i=>rfl
 | (u,x)::r,i=>by
  show _::(pt r (i+1)++_)=_::pt (r++[(s,v)]) (i+1);rw[<- ago s v r (i+1)];grind
def Zw{s:List UInt8}:∀ {l:List (List UInt8×Y)} {i j:Nat} {v:Y},fQ s l i=O (j,v)->i<=j/\l[j-i]?=O (s,v)
 | [],_,_,_,h=>by cases h
 | (u,x)::r,i,j,v,h=>by
  unfold fQ at h;split at h
  .grind
  .obtain⟨a,b⟩:=Zw h;grind
theorem Zx(s t:List UInt8)(v:Y):∀ (l:List (List UInt8×Y)) (i:Nat),fQ s (l++[(t,v)]) i=match fQ s l i with | some p=>O p | none=>if t=s then O (i+l.length,v) else V
 | [],i=>by simp [fQ]
 | (u,x)::r,i=>by
  show fQ s ((u,x)::(r++[(t,v)])) i=_;unfold fQ;split
  .rfl
  .rw[Zx s t v r (i+1)];grind
def aqI{s t:List UInt8}{v u:Y}:∀ {l:List (List UInt8×Y)} {i j:Nat},fQ t l i=O (j,u)->fQ s (l.set (j-i) (t,v)) i=if s=t then O (j,v) else fQ s l i
 | [],_,_,h=>by cases h
 | (x,y)::r,i,j,h=>by
  unfold fQ at h;split at h
  .rename_i hx;simp only[a3I,Prod.mk.injEq] at h;obtain⟨rfl,rfl⟩:=h;subst hx;rw[Nat.sub_self,List.set_cons_zero];unfold fQ;grind
  .rename_i hx;have b:=(Zw h).1;rw[show j-i=(j-(i+1))+1 by omega,List.set_cons_succ];unfold fQ;by_cases a:x=s
   .grind
   .rw[bU a,bU a,aqI h]
def agp{s:List UInt8}{v u:Y}{g:MapEntry->MapEntry}(a:∀ b,g { key:=aW s,val:=u,born:=b }={ key:=aW s,val:=v,born:=b }) :
  ∀ {l:List (List UInt8×Y)} {i j:Nat},l[j]?=O (s,u)->(pt l i).modify j g=pt (l.set j (s,v)) i
 | (x,y)::r,i,0,h=>by
  simp only[a5a,a3I,Prod.mk.injEq] at h;obtain⟨rfl,rfl⟩:=h;simp only[pt,List.set_cons_zero,List.modify_zero_cons,a]
 | (x,y)::r,i,j+1,h=>by
  have h:r[j]?=O (s,u):=zg;simp only[pt,List.set_cons_succ,List.modify_succ_cons,agp a h]
section
variable{P:Program}{w:Z}{X:Y->Z->Prop}{l:List (List UInt8×Y)}{r:Nat}
def Md{t k e:TypeId}{z:Y}{K:Y->Prop}(ht:Bt P t=O (k,e))(a:wY P k=G)(c:Au P e=O z)(d:w.heap[r]?=O (eM l))(s:List UInt8)(b:Bool) :
  RD P (Instr.lookup t (.map (O r)) (aW s) b) w K X =
   match fQ s l 0 with
   | some (_,v)=>K (if b then aq #[v,.bool G] else v)
   | none=>K (if b then aq #[z,.bool ae] else z):=by
 rw[akU ht a c d (by grind [Rx])];rw[a5D,Ry];grind
def yv{t k e:TypeId}{K:Z->Prop}(ht:Bt P t=O (k,e))(a:wY P k=G)(hm:w.heap[r]?=O (eM l))(s:List UInt8)(b:fQ s l 0=V)(v:Y) :
  WU P (Instr.mapUpdate t (.map (O r)) (aW s) v) w K X=K (bR w r (eM (l++[(s,v)]))):=by
 rw[ayR ht a hm (by grind [Rx]) s (by rw[a5D,Ry];omega) v]
 congr 2
 unfold eM;have:=ago s v l 0;grind
def aqJ{t k e:TypeId}{K:Z->Prop}(ht:Bt P t=O (k,e))(d:wY P k=G)(hm:w.heap[r]?=O (eM l))(s:List UInt8)(a:fQ s l 0=O (i,u))(v:Y) :
  WU P (Instr.mapUpdate t (.map (O r)) (aW s) v) w K X=K (bR w r (eM (l.set i (s,v)))):=by
 rw[ayS ht d hm (by grind [Rx]) s (by rw[a5D,Ry];exact a) v]
 congr 2
 unfold eM;have c:=(Zw a).2;rw[Nat.sub_zero] at c;rw[List.length_set,<- agp (g:=fun e=>{ e with key:=aW s,val:=v }) (fun b=>rfl) c];grind
def aM6{t k e:TypeId}{K:Y->Z->Prop}(ht:Bt P t=O (k,e))(a:wY P k=G)(d:Au P e=O z)(hm:w.heap[r]?=O (eM l))(s:List UInt8)(f:fQ s l 0=V) :
  WR P (Instr.mapEntry t (.map (O r)) (aW s)) w K X=K (aq #[z,zi l.length]) (bR w r (eM (l++[(s,z)]))):=by
 have g:=XC (P:=P) (w:=w) (b:=false) (n:=9999) (t:=k) (s:=bs s) a;have c:=XD (P:=P) (w:=w) a s (es:=(pt l 0).toArray.toList) (by simpa using Rx l 0);rw[a5D,Ry,f] at c;have h:bR w r (eM (l++[(s,z)]))=bR w r (.map ((pt l 0).toArray.push { key:=aW s,val:=z,born:=l.length }) (l.length+1)):=by
  unfold eM;have:=ago s z l 0;grind
 rw[h];refine vw ?_;simp [Instr.mapEntry,run_underlying (GY ht),GZ (show w.heap[r]?=O (.map (pt l 0).toArray l.length) from hm),g,c,Fp d,a5G _ (show w.heap[r]?=O (.map (pt l 0).toArray l.length) from hm),bR,goInt]
def find_born{i:Nat}:∀ {l:List (List UInt8×Y)} {j:Nat},i<l.length->(pt l j).findIdx? (fun e=>(e.born:Int) == ((j+i:Nat):Int))=O i
 | [],_,h=>zg
 | (u,x)::r,j,h=>by
  unfold pt;rw[List.findIdx?_cons];cases i with
  | zero=>simp
  | succ i=>
   have a:(j:Int)≠((j+(i+1):Nat):Int):=zo;have b:=find_born (i:=i) (l:=r) (j:=j+1) zg;grind
def aM7{t:TypeId}{K:Z->Prop}(hm:w.heap[r]?=O (eM l)){s:List UInt8}(a:l[i]?=O (s,u))(v:Y) :
  WU P (Instr.entryStore t (.map (O r)) (zi i) v) w K X=K (bR w r (eM (l.set i (s,v)))):=by
 have hi:=(List.getElem?_eq_some_iff.1 a).1;have c:=find_born (l:=l) (j:=0) hi;rw[Nat.zero_add] at c;have d:bR w r (eM (l.set i (s,v)))=bR w r (.map ((pt l 0).toArray.modify i fun e=>{ e with val:=v }) l.length):=by
  unfold eM;rw[List.length_set,<- agp (g:=fun e=>{ e with val:=v }) (fun b=>rfl) a];grind
 rw[d];refine Td ?_;simp [Instr.entryStore,GZ (show w.heap[r]?=O (.map (pt l 0).toArray l.length) from hm),c,a5G _ (show w.heap[r]?=O (.map (pt l 0).toArray l.length) from hm),bR,asInt,asIntOf]
end
end Sx
def yw(l:List Cl)(s:Bs):List Cl:=l.filter fun c=>P.keyOf c.name c.args.length == s
def aM8(l:List Cl)(c:Cl)(s:Bs):yw (l++[c]) s=if P.keyOf c.name c.args.length=s then yw l s++[c] else yw l s:=by
 unfold yw;grind
def ky.Ds{F:Nat->Prop}{w:Z}:∀ {xs:List Cl} {vs:List Y} (j:Nat) (b:j<xs.length),ky F w vs xs->∃ v,vs[j]?=O v/\FI F w v xs[j]
 | x::xs,vs,0,_,⟨u,r,c,d,a⟩=>zg
 | x::xs,vs,j+1,b,⟨u,r,c,d,a⟩=>by
  obtain⟨v,g1,g2⟩:=ky.Ds j zg a;grind
def ky.len{F:Nat->Prop}{w:Z}:∀ {xs:List Cl} {vs:List Y},ky F w vs xs->vs.length=xs.length
 | [],vs,h=>by have h:vs=[]:=h;grind
 | y::c,vs,⟨u,r,a,d,b⟩=>by rw[a];simp [ky.len b]
structure Vr(w0 w:Z)(l:List (List UInt8×Y))(cs:List Cl):Prop where
 row:∀ s,match fQ s l 0 with
  | none=>yw cs s=[]
  | some (_,v)=>yw cs s≠[]/\∃ vs,w.ownsRow (w0.heap.size+1) 79 1 v (yw cs s).length vs/\ky (fun _=>True) w0 vs (yw cs s)
 sep:∀ s t i j v u,fQ s l 0=O (i,v)->fQ t l 0=O (j,u)->s≠t->v.ownBlock≠u.ownBlock
def Vr.own{l:List (List UInt8×Y)}{cs:List Cl}(h:Vr w0 w l cs)(a:fQ s l 0=O (i,v)):∃ g,v.ownBlock=O g:=by
 have:=h.row s;rw[a] at this;obtain⟨c,vs,b,-⟩:=this;rcases b.2 with⟨-,d⟩| ⟨g,cap,cur,rfl,-⟩
 .grind
 .exact⟨g,J⟩
theorem Vs(h:w.ownsRow base e 1 v n vs)(b:n=vs.length):fO (fun _=>True) w e v vs:=by
 subst b;rcases h.2 with⟨c,a⟩| ⟨g,cap,cur,rfl,a,d,f,i,j,k⟩
 .have a:vs.length=0:=a;exact .inl zg
 .have l:cur.size=cap:=zo;exact .inr yH
def aM9{base:List Cl}(hv:fO (fun _=>True) w 79 v vs)(T:ky (fun _=>True) w vs base)(dx:∀ c∈base,c.name.length<=100/\c.args.length<=4)(hn:base.length<=100000) :
  Calls bdO 39 #[v] w fun e w'=>Ext w w'/\∃ mb,e = ai (.map (O mb))/\w.heap.size<=mb/\B1 w' mb base:=by
 have OP:vs.length=base.length:=T.len;obtain⟨sa,sc,rfl⟩:=hv.sl;refine aMn ?_;obtain⟨w1,jZ⟩:=cj (w.alloc (eM []));have Zy:w.alloc (.map #[] 0)=w1:=jZ.symm;have dF:Ext w w1:=yF;have m1:w1.heap[w.heap.size]?=O (eM []):=yH;refine bG ?_;rw[Zy];refine⟨fun m z w'=>∃ (j:Nat) (l:List (List UInt8×Y)),z 10=zi (j:Nat)/\j<=base.length/\m=base.length-j/\Ext w w'/\w'.heap[w.heap.size]?=O (eM l)/\Vr w w' l (base.take j),
  ⟨_,0,[],J,Nat.zero_le _,J,dF,m1,⟨(by grind [fQ,yw]),(by grind [fQ])⟩⟩,?_⟩
 intro m z d w2 hI;refine toPr ?_;obtain⟨j,l,U,hj,rfl,B,m2,C⟩:=hI;by_cases hlt:j<base.length
 .obtain⟨rb,rcs,L,-,M,I⟩:=hv.at' (j:=j) zo;obtain⟨cv,e2,je⟩:=T.Ds j hlt;rw[e2] at I;simp only[a34,true_and] at L;obtain⟨rfl,rfl⟩:=L;obtain⟨cb,cav,cbv,Zh,Vd,rfl,-,gX,⟨xus,my,xU⟩,nZ⟩:=id je;obtain⟨xa,xc,rfl⟩:=my.sl;have Kx:xus.length=(base[j]).args.length:=eS.ER xU;have r2':=B.ext _ _ M;have JH:=B.ext _ _ gX;have qV:(j:Int)<(base.length:Int):=zo;have ej:(j:Int).toNat=j:=zo;obtain⟨mY,lu⟩:=dx _ (List.getElem_mem hlt);refine dG OP U @r2' (zA @I (zA JH @ej)) ?_;rw[Kx];refine a3L (aqi (base[j]).name (base[j]).args.length mY zo _) ?_;rintro e w3 ⟨rfl,rfl⟩;have m3:w2.drew.heap[w.heap.size]?=O (eM l):=m2;obtain⟨key,Qn⟩:=cj (P.keyOf (base[j]).name (base[j]).args.length);rw[<- Qn];refine bG ?_;rw[Md (k:=9) (e:=68) zk zk (z:=bW) zk m3];have W:=C.row key;obtain⟨E,jB⟩:=cj (w2.drew.alloc (ah #[pp cb] 79));have y:Ext w2 E:=yF;have g4:E.heap[w2.heap.size]?=aO #[pp cb] 79:=yH;have m4:=y.ext _ _ m2;have s2:=B.size;have s4:=y.size;have ade:w.heap.size<w2.heap.size:=yH;have N:∀ {x:Y} {n:Nat} {xs:List Y},E.ownsRow (w.heap.size+1) 79 1 x n xs->O w.heap.size≠x.ownBlock:=fun h e=>by
   rcases h.2 with⟨a,-⟩| ⟨g,cap,cur,a,f,-⟩
   .rw[a] at e;cases e
   grind [a4w,a3I]
  have lp:∀ {x v':Y} {n:Nat} {xs:List Y} {q:Z} {l':List (List UInt8×Y)},E.ownsRow (w.heap.size+1) 79 1 x n xs->q.ownsRow (w.heap.size+1) 79 1 v' (n+1) (xs++[pp cb]) ->
    E.grownBy q x.ownBlock->(v'.ownBlock=x.ownBlock\/∀ k,v'.ownBlock=O k->E.heap.size<=k)->n=(yw (base.take j) key).length->ky (fun _=>True) w xs (yw (base.take j) key) ->
    (∀ t i u,t≠key->fQ t l 0=O (i,u)->u.ownBlock≠x.ownBlock)->(∀ t,t≠key->fQ t l' 0=fQ t l 0)->(∃ i,fQ key l' 0=O (i,v')) ->
    Ext w (bR q w.heap.size (eM l'))/\(bR q w.heap.size (eM l')).heap[w.heap.size]?=O (eM l')/\Vr w (bR q w.heap.size (eM l')) l' (base.take (j+1)):=by
   intro x v' n xs q l' hx Es D dS yf aNb ef X Q;obtain⟨ik,Q⟩:=Q;have R:q.heap[w.heap.size]?=O (eM l):=by rw[D.block _ (bn m4) (N hx)];exact m4
   have lm5:=bn R;have uo:Ext w q:=⟨D.os.trans (y.os.trans B.os),D.tape.trans (y.tape.trans B.tape),D.output.trans (y.output.trans B.output),zo,fun b o hb _=>by
    rw[D.block b (yH) (fun e=>?_)]
    .exact y.ext _ _ (B.ext _ _ hb)
    .have:=bn hb;rcases hx.2 with⟨a,-⟩| ⟨g,cap,cur,a,f,-⟩
     .rw[a] at e;cases e
     grind [a4w,a3I]⟩
   have hold:∀ {u:Y} {k:Nat} {us:List Y},w2.ownsRow (w.heap.size+1) 79 1 u k us->∀ g,u.ownBlock=O g->g<E.heap.size:=fun h g D=>by
    rcases h.2 with⟨a,-⟩| ⟨g',cap,cur,a,f,r,-⟩
    .rw[a] at D;cases D
    grind [a4w,a3I,bn]
   refine⟨yF,yH,?_,?_⟩
   .intro t;rw[List.take_succ_eq_append_getElem hlt,aM8,<- Qn];by_cases ht:key=t
    .subst ht;rw[zip J,Q];simp only;refine⟨zs,xs++[pp cb],?_,aNb.snoc je⟩;grind [List.length_append,List.length_singleton,Jy,a4w,a3I]
    .rw[bU ht,X t (fun e=>ht e.symm)];have hr:=C.row t;cases K:fQ t l 0 with
     | none=>exact yH
     | some p=>
      obtain⟨i,u⟩:=p;rw[K] at hr;obtain⟨a,us,f,r⟩:=hr;refine⟨a,us,?_,r⟩;have A:E.ownsRow (w.heap.size+1) 79 1 u (yw (base.take j) t).length us:=jK y.ext f;have aNc:=ef t i u (fun e=>ht e.symm) K;have h5:q.ownsRow (w.heap.size+1) 79 1 u (yw (base.take j) t).length us:=by
       refine⟨A.1,?_⟩;rcases A.2 with h6 | ⟨g,cap,cur,L,e2,e3,e4⟩
       .exact yH
       .refine .inr ⟨g,cap,cur,L,e2,?_,e4⟩;rw[D.block g (bn e3) (fun e=>aNc (by rw[L,<- e];rfl))];omega
      grind [Jy]
   .intro s t i i' u u' a f gY;by_cases hs:s=key
    .subst hs;rw[Q] at a;cases a;rw[X t (fun e=>gY e.symm)] at f;have hr:=C.row t;rw[f] at hr;obtain⟨_,us,r,-⟩:=hr;obtain⟨g,F⟩:=C.own f;rcases dS with A | A
     .rw[A];exact fun e=>ef t i' u' (fun e=>gY e.symm) f e.symm
     .intro e;have h5:=A g (by rw[e];exact F);have h6:=hold r g F;omega
    .rw[X s hs] at a;by_cases ht:t=key
     .subst ht;rw[Q] at f;cases f;have hr:=C.row s;rw[a] at hr;obtain⟨_,us,r,-⟩:=hr;obtain⟨g,F⟩:=C.own a;rcases dS with A | A
      .rw[A];exact ef s i u hs a
      .intro e;have h5:=A g (by rw[<- e];exact F);have h6:=hold r g F;omega
     .rw[X t ht] at f;exact C.sep s t i i' u u' a f gY
  have aNd:(yw (base.take j) key).length<=100000:=a3Q (List.length_filter_le _ _) zg;cases hk:fQ key l 0 with
  | none=>
   rw[hk] at W;simp only;refine bG ?_;rw[<- jB];refine adW (base:=w.heap.size+1) (a4d _ _ _ _) g4 J zo zo ?_;intro v' q H S yr;have R:q.heap[w.heap.size]?=O (eM l):=by rw[S.block _ (bn m4) (by intro e;cases e)];omega
   rw[yv (k:=9) (e:=68) zk zk R key hk];obtain⟨r1,M,I⟩:=lp (l':=l++[(key,v')]) (a4d _ _ _ _) H S yr zg (by rw[show yw (base.take j) key=[] from W];rfl)
    (fun t i u _ K=>by obtain⟨g,F⟩:=C.own K;rw[F];intro e;cases e)
    (fun t ht=>by rw[Zx];grind) ⟨0+l.length,by grind [Zx]⟩
   refine cJ U ?_;exact⟨base.length-(j+1),zo,j+1,l++[(key,v')],zg,zo,J,r1,M,I⟩
  | some p=>
   obtain⟨i,x⟩:=p;rw[hk] at W;obtain⟨a,us,f,r⟩:=W;simp only;obtain⟨xa',xc',rR⟩:=gZ f;refine bG ?_;rw[<- jB];refine adW (base:=w.heap.size+1) (jK y.ext f) g4 J aNd zo ?_;intro v' q H S yr;have R:q.heap[w.heap.size]?=O (eM l):=by rw[S.block _ (bn m4) (N (jK y.ext f))];omega
   rw[aqJ (k:=9) (e:=68) zk zk R key hk];have Da:=fun s=>aqI (s:=s) (v:=v') hk;rw[Nat.sub_zero] at Da;obtain⟨r1,M,I⟩:=lp (l':=l.set i (key,v')) (jK y.ext f) H S yr J r
    (by grind [Vr.sep])
    zg zg
   refine cJ U ?_;exact⟨base.length-(j+1),zo,j+1,l.set i (key,v'),zg,zo,J,r1,M,I⟩
 .have fm:j=base.length:=zo;subst fm;refine dA OP U ?_;refine⟨B,_,J,Nat.le_refl _,(pt l 0).toArray,l.length,m2,by grind [Rx],fun name n hn4=>?_⟩;rw[a5D,Ry];have hr:=C.row (P.keyOf name n);rw[List.take_length] at hr;have jl:yw base (P.keyOf name n)=H9 base name n:=by
   unfold yw H9;refine List.filter_congr fun c T=>?_;have:=(dx c T).2;rw[Bool.eq_iff_iff];simp only[beq_iff_eq,Bool.and_eq_true];grind [P.age]
  rw[jl] at hr;cases K:fQ (P.keyOf name n) l 0 with
  | none=>grind
  | some p=>
   rw[K] at hr;obtain⟨a,us,f,r⟩:=hr;exact⟨a,us,Vs f r.len.symm,r.iS (eJ.ea B)⟩
def aNe{t:Option Addr}{body:Bd}(u:n<=100000)(l:w.heap[b]?=aO #[nm,av,pp xb,.slice t n pb] 86)
  (y:dL (fun _=>True) w (pp xb) body) :
  Calls bdO 38 #[.map (O mb),pp b] w fun e w'=>Ext w w'/\∃ q fb ρ todo,e = ai (pp q)/\w.heap.size<=q /\
   fO (fun _=>True) w' 89 (cS fb n n) (ny ρ (List.range n)) /\
   ∀ D:Nat->Prop,(∀ b,w.heap.size<=b->D b)->ku D ρ q mb todo bW (cS fb n n) bW [] w' (Wk.new body n):=by
 refine ap8 ?_;refine cJ l ?_;refine a3L (aqa n u w) ?_;rintro e w1 ⟨m,s1,vcs,rfl,S,z,A⟩;have d:=m.ext _ _ l;have T:=bn d;refine cJ d ?_;obtain⟨w2,B⟩:=cj (w1.alloc (ah #[.map (O mb),bW,zi 0,au V,bW,cS w.heap.size n n] 130));have C:w1.alloc (ah (Value.agg #[.map (O mb),bW,zi 0,au V,bW,cS w.heap.size n n]).cells 130 (0,0))=w2:=B.symm;rw[C];have E:Ext w1 w2:=yF;have g2:w2.heap[w1.heap.size]?=aO #[.map (O mb),bW,zi 0,au V,bW,cS w.heap.size n n] 130:=yH;have s2:w2.heap.size=w1.heap.size+1:=yH;have r:=E.ext _ _ d;have U:=bn g2;refine⟨fun w'=>w'.heap[b]?=w2.heap[b]?,J,?_⟩;rw[jI];refine cQ (pq b 2) (fun w' a=>by rw[r] at a;exact eV a) (cQ (pp xb) (fun w' a=>by rw[r] at a;have:=bn a;exact eV a) ?_);refine cJ @g2 ?_;obtain⟨w3,F⟩:=cj (w2.drew.alloc (ah #[pp xb,cS w.heap.size n n,zi 0,au V] 207));have H:Ext w2 w3:=yF;have g3:w3.heap[w2.heap.size]?=aO #[pp xb,cS w.heap.size n n,zi 0,au V] 207:=yH;have W:w2.drew.heap.size=w2.heap.size:=rfl;rw[<- F];have X:Ext w w3:=yF;have I:=H.ext _ _ g2;have l3:=bn I;obtain⟨c,K⟩:=cj (bR w3 w1.heap.size (ah #[.map (O mb),bW,zi 0,pp w2.heap.size,bW,cS w.heap.size n n] 130));rw[<- K];have f:=m.size;have s:Ext w c:=yF;have L:∀ x o,x≠w1.heap.size->w3.heap[x]?=O o->c.heap[x]?=O o:=yH;have c4:c.heap[w1.heap.size]?=aO #[.map (O mb),bW,zi 0,pp w2.heap.size,bW,cS w.heap.size n n] 130:=yH;have M:∀ j,j<n->c.heap[w.heap.size+1+j]?=aO #[aj] 91:=yH;have N:c.heap[w.heap.size]?=aO vcs 89:=yH;have h:=aqb (ρ:=fun _=>0) (n:=0) N z (fun j P=>(A j P).1);rw[<- List.range_eq_range'] at h;refine⟨s,w1.heap.size,w.heap.size,yt (fun _=>0) 0 (w.heap.size+1),pp w2.heap.size,J,f,h,fun D hD=>?_⟩;have Q:∀ i,yt (fun _=>0) 0 (w.heap.size+1) i=w.heap.size+1+i:=(by grind [yt]);refine⟨⟨⟨yH,fun i hi=>⟨aj,by rw[Q];exact M i hi,J⟩⟩,yH,c4,a4d _ _ _ _,fun g k=>(by cases k),yH,List.nodup_nil,(fun p R=>by cases R),trivial⟩,
  ⟨_,_,_,_,J,L _ _ zo g3,dL.iS (eJ.ea s) y,h,fun i hi=>List.mem_range.1 hi,J⟩,a4d _ _ _ _,J,fun g k=>(by cases k)⟩
def RA(F:Nat->Prop)(w:Z)(b:Nat)(x:Bd)(vs:List Bs):Prop:=
 F b/\vs.length<=12/\∃ xb a c,w.heap[b]?=aO #[aW [],bW,pp xb,.slice a vs.length c] 86/\dL F w (pp xb) x /\
  fO F w 9 (.slice a vs.length c) (vs.map fun s=>aW s)
def RA.aNg(F F':Nat->Prop)(w w':Z)(b:Nat)(x:Bd)(vs:List Bs)(a:∀ b,F b->F' b)(hw:∀ b o,F b->w.heap[b]?=O o->w'.heap[b]?=O o)(h:RA F w b x vs):RA F' w' b x vs:=by
 obtain⟨c,d,xb,e,f,g,i,j⟩:=h;exact⟨a _ c,d,xb,e,f,yH,(by grind [dL.mono]),(by grind [fO.mono])⟩
def aNh(h:w.ownsRow base e 1 v n vs)(c:n=vs.length)(d:∀ b cs,base<=b->w.heap[b]?=aO cs e->F b):fO F w e v vs:=by
 subst c;rcases h.2 with⟨f,a⟩| ⟨g,cap,cur,rfl,a,i,j,k,l,m⟩
 .have a:vs.length=0:=a;exact .inl zg
 .have o:cur.size=cap:=zo;exact .inr yH
def aNi(h:SP w pb tb T 0 [] 0)(A:nk w tb)(K:w.heap.size=pb+1):Calls bdO 76 #[pp pb] w (anF RA pb w (qg T)):=by
 refine aJd ?_;cases l:mX T (yh T) 0 [] 0 with
 | none=>
  obtain⟨r,hr⟩:=(totB T (yh T)).body 0 [] 0 (by grind [yh]);grind
 | some q=>
 refine a3L ((ani (yh T)).go h A zo l) ?_;rintro e w1 s;cases q with
 | err c a=>
  obtain⟨⟨b,rfl,B,C⟩,g,L⟩:=s;refine bG ?_;refine⟨g,?_⟩;simp only[qg,l];exact⟨b,J,B,C⟩
 | ok x k vs=>
  obtain⟨v,rfl,hx,t,g⟩:=s;obtain⟨xb,rfl,-⟩:=hx.shape;have s1:=g.size;have M:=t.yV;cases i:mW T [46] x k vs with
  | none=>unfold mW at i;split at i<;>cases i
  | some N=>
  refine bG ?_;refine(adZ t [46] zd x i).mono ?_;rintro e w2 ⟨m,(⟨rfl,hr,n⟩| ⟨c,a,hr,j⟩)⟩
  .have s2:=m.size;obtain⟨cap,u,y,cs,f,P,Q,D,R,g0,g1,g2,g3,g4,g5⟩:=n.x;have S:=bn f;refine bG ?_;refine⟨fun _ w'=>w'=w2/\(tk T (k+1)).kind=0,?_,?_⟩
   .by_cases o:(tk T (k+1)).kind=0
    .have p:(((tk T (k+1)).kind:Nat):Int)=0:=zo;refine jh f @g0 @g3 ?_;omega
    .have p:¬ (((tk T (k+1)).kind:Nat):Int)=0:=zo;refine jh f @g0 @g3 ?_;refine(Tv n).mono ?_;rintro e w3 ⟨j,E,-⟩;have F:=NW j (a3Q s1 s2);obtain⟨b,rfl,-,-⟩:=j;refine bG ?_;refine⟨(g.trans m).trans E,?_⟩;simp only[qg,l,i,hr,bU o];omega
   .rintro _ w3 ⟨rfl,o⟩ d;refine cJ f ?_;have z:Ext w3 (w3.alloc (ah #[aW [],bW,pp xb,.slice u vs.length y] 86)):=yF;refine⟨(g.trans m).trans z.toM,?_⟩;simp only[qg,l,i,hr,zip o];obtain⟨U,H,q1,q2,q3,q4⟩:=n.yV;rw[q3] at f;injection f with f;injection f with f _ _;have f:=congrArg (fun a:Array Y=>a[1]?) f;simp only[List.getElem?_toArray,List.getElem?_cons_succ,a5a,a3I] at f;subst f;refine⟨_,J,yH,n.nv,xb,u,y,yH,?_,?_⟩
    .have I:dL (Nu w w3) w3 (pp xb) x:=dL.mono zg (by grind [db.lL]) _ _ hx;exact dL.mono (by grind [size_alloc]) yH _ _ I
    .refine aNh (jK z.ext q4) zs yH
  .have F:=NW j s1;obtain⟨b,rfl,-,-⟩:=j;refine bG ?_;refine⟨g.trans m,?_⟩;grind [qg]
def aqL(s:Bs)(w:Z)(j:s.length<=100000)(l:Jp w)(hC:nk w w.heap.size):Calls bdO 37 #[aW s] w (Yi RA w (ry qg s)):=by
 refine aJe ?_;refine(aIH RA.aNg (g:=qg) zk s w j l fun _ h m n=>aNi h (m hC) n).mono ?_;rintro e w1 ⟨i,d⟩;cases hr:ry qg s with
 | err c a=>
  rw[hr] at d;obtain⟨b,rfl,f⟩:=d;refine bG ?_;exact⟨i,b,J,f⟩
 | ok x k vs=>
  rw[hr] at d;obtain⟨b,rfl,f⟩:=d;refine bG ?_;exact⟨i,b,J,f⟩
open Go.Proofs.YtoegidfbnkaabaaGreatDoor.Sx
section
variable{p0 p1 p2 p3 p4 p5 p6 p7:Y}{w:Z}{R:Ending->Z->Prop}
def aNj:=cz w R [p0] (gc [] [] [13]) Tryz.func25
def aNk:=cz w R [p0] (gc [] [] []) Tryz.func40
def aNl:=cz w R [p0] (gc [] [] []) Tryz.func16
end
section
variable{p0 p1 p2 p3 p4 p5 p6 p7:Y}{w:Z}{R:Ending->Z->Prop}
def aNm:=cy w R [p0] (gd [(10,[49])] [(14001,[]),(16001,[])] [(16,11)] [(2,[6,0,1,2,3,4,5]),(7,[6,0,1,2,3,4,5])] [] [] [11,27,28,50,68,69,74,83,104]) Tryz.func27
end
