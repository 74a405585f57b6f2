/- A part of one proof (KW6, KW7, KM1, KW8, KQ1, ShX6, ShX6b). -/
import Derived.Test.YtoegidfbnkaabaaGreatDoorPkLAS
set_option linter.all false
set_option maxRecDepth 100000
set_option maxHeartbeats 8000000
open Option renaming some → O, none → V
open Go renaming Value → Y, World → Z
open Bool renaming true → A, false → G
open Go.Obj renaming cells → ae
open Go.Ending renaming returned → ah
open Go.Value renaming nilIface → ai, tuple → ak, pointer → aq
open Option.some renaming injEq → a1o
open Go.Calls renaming mono → a1r
open Nat renaming le_trans → a1t
open Go.Instr renaming loadAt → a1G, fieldAt → a2m
open Go.Value.slice renaming injEq → a1I
open Go.World renaming ownsRow_nil → a1Q
open Go.Value renaming ownBlock → a2f
open List renaming getElem?_cons_zero → a2Q, toList_toArray → a3j, getElem_cons_zero → a3o, getElem_cons_succ → a3O
open Go.MapKept renaming run_setObj_map → a3n
open Go.Proofs.Tryz renaming prog → bbB
namespace Go.Proofs.YtoegidfbnkaabaaGreatDoor
open P
open Go.RowKit Sx
variable{B M b base c cap d e f i j k' m mb n pb so tb xb:Nat}{F:Nat->Prop}{K:Y->Prop}{T:List P.Tok}{av iv nm o4 o5 u v:Y}{s:Bs}{gr:List Bd}{iB:Array Y}{vs:List Y}{w w0 w3:Z}
def gy.C5{F:Nat->Prop}{w:Z}:∀ {l:List Bd} {us:List Y} (j:Nat) (a:j<l.length),gy F w us l->∃ u,us[j]?=O u/\dJ F w u l[j]
 | x::l,us,0,_,h=>by
  unfold gy at h;grind
 | x::l,us,j+1,a,h=>by
  unfold gy at h;obtain⟨v,r,rfl,c,b⟩:=h;simpa using gy.C5 j zg b
def gy.Hh{F:Nat->Prop}{w:Z}:∀ {l:List Bd} {us:List Y},gy F w us l->us.length=l.length
 | [],us,h=>by unfold gy at h;subst h;rfl
 | x::l,us,h=>by
  unfold gy at h;obtain⟨v,r,rfl,b,a⟩:=h;simp [gy.Hh a]
section
variable{D:Nat->Prop}{ρ:Nat->Nat}{wb mb:Nat}{todo av vv tv:Y}{di:List Y}{w w':Z}{k:Wk}
def partAt{us:List Y}{tv:Y}(c:fJ (fun _=>True) w 84 tv us)(hx:gy (fun _=>True) w us gr)(d:j<gr.length) :
  ∃ pb a xb,tv = cS pb gr.length a.size/\w.heap[pb]?=aO a 84/\a[j]?=O (pp xb)/\dJ (fun _=>True) w (pp xb) gr[j]:=by
 have f:=hx.Hh;obtain⟨b,cs,g,-,h,i⟩:=c.at' (j:=j) zo;obtain⟨u,k,e⟩:=hx.C5 j d;obtain⟨xb,rfl,-⟩:=e.shape;exact yH
def S3(a pb b:Nat)(w3 w':Z):Prop:=w'.heap[a]?=w3.heap[a]?/\w'.heap[pb]?=w3.heap[pb]?/\w'.heap[b]?=w3.heap[b]?
theorem S3.of{w':Z}(h:Ext w3 w'){b p g:Obj}(a:w3.heap[cap]?=O b)(c:w3.heap[pb]?=O p)(d:w3.heap[k']?=O g):S3 cap pb k' w3 w':=
 ⟨by rw[a];exact h.ext _ _ a,by rw[c];exact h.ext _ _ c,by rw[d];exact h.ext _ _ d⟩
def QF{tv vv av:Y}(d:w3.heap[cap]?=aO #[tv,vv,av,cS pb n so] 149)
  (c:w3.heap[pb]?=aO iB 84) (hi:i<n) (hx:iB[i]?=O (pp xb)) (hv:v=zi (i:Nat)) (hk:K (pp xb)) :
  NC (pp cap) fun x=>uY bbB (a2m 149 x 3) (S3 cap pb k' w3) fun x=>uY bbB (a1G 147 x) (S3 cap pb k' w3) fun x=>uY bbB (Instr.indexAt 147 x v) (S3 cap pb k' w3) fun x=>
   uY bbB (a1G 84 x) (S3 cap pb k' w3) K:=by
 have e:(i:Int).toNat=i:=zo;have f:(i:Int)<(n:Nat):=zo;rw[jx];refine cQ (pq cap 3) (fun w' b=>eT) ?_;refine cQ (cS pb n so) (fun w' b=>by have a:=b.1;rw[d] at a;have:=bg a;exact fh a) ?_;refine cQ (pq pb i) (fun w' b=>by have a:=b.2.1;rw[c] at a;have:=bg a;rw[hv];exact lM a @e) ?_;refine cQ (pp xb) (fun w' b=>by have a:=b.2.1;rw[c] at a;have:=bg a;exact lM a hx) ?_;omega
def QH{tv vv av:Y}{a:Option Addr}(e:w3.heap[k']?=aO #[tv,.slice a n c,vv,av] 207)(hk:K (.slice a n c)) :
  NC (pp k') fun x=>uY bbB (a2m 207 x 1) (S3 cap pb k' w3) fun x=>uY bbB (a1G 82 x) (S3 cap pb k' w3) K:=by
 rw[jx];refine cQ (pq k' 1) (fun w' d=>eT) ?_;refine cQ (.slice a n c) (fun w' d=>by have b:=d.2.2;rw[e] at b;have:=bg b;exact fh b) ?_;omega
def YA{tv vv av:Y}{z:Int}(c:w3.heap[k']?=aO #[tv,vv,zi z,av] 207)(hk:K (zi z)) :
  NC (pp k') fun x=>uY bbB (a2m 207 x 2) (S3 cap pb k' w3) fun x=>uY bbB (a1G 3 x) (S3 cap pb k' w3) K:=by
 rw[jx];refine cQ (pq k' 2) (fun w' b=>eT) ?_;refine cQ (zi z) (fun w' b=>by have a:=b.2.2;rw[c] at a;have:=bg a;exact fh a) ?_;omega
def aLe(h:kh D ρ wb mb todo av vv tv di w k)(hD:∀ b,w.heap.size<=b->D b){base:List Cl}(hB:BM w mb base)(gN:∀ c∈base,y8 M c)(hM:M<=100000)
 {g:P.Goal} (hgq:w.heap[cap]?=aO #[o4,iv,zi (g.cut:Nat),o5] 207) (IB:Qq w o4 g.Fk) (C:fJ (fun _=>True) w 89 iv (ni ρ g.vars)) (N:∀ i∈g.vars,i<k.n)
  (hcut:g.cut<=k.bw.length) (eZ:∀ b,g.Fk=O b->eX g.vars.length M b) (hz:k.sr.cV<=800000000) (zm:k.bw.length<900000000) {r:Except jE (Bool×Wk)} (hr:D1 base f g k=O r) :
  Calls bbB 225 #[pp wb,pp cap] w (EPost D w (FI D ρ k.n wb mb vv) r):=by
 have Kb:k.sr.tr.length+k.sr.fuel<=800000000:=hz;unfold D1 at hr;refine aKK ?_;refine bH ?_;refine a1r (NN h.less FH zo) ?_;rintro e w1 ⟨I,dE⟩;by_cases h0:k.sr.fuel=0
 .rw[zip h0] at hr dE;injection hr with hr;subst hr dE;exact⟨I.up fun _ h=>h.1,J⟩
 rw[bM h0] at hr dE;obtain⟨rfl,dE⟩:=dE;obtain⟨o,I⟩:=h.store dE I;have K:eO w w1:=dc.toI I;have s1:=I.size;have x:=K _ _ _ (yM) hgq;have lq1:=bg x;have W:=o.cell;have lw1:=bg W;have dD:Ext w1 w1.drew:=yF;obtain⟨aa,ac,gx⟩:=gV o.ar;obtain⟨Qh,iQ⟩:=Qy (by rw[gx] at o;exact o.ar:w1.ownsRow 0 356 4 (.slice aa k.bw.length ac) k.bw.length di);have qH:(g.cut:Int)<=(ac:Nat):=zo;have hD1:∀ b,w1.heap.size<=b->D b:=yH;have apa:∀ {w2:Z},w2=bQ w1.drew wb (ae #[.map (O mb),tv,zi (k.sr.dec.fuel:Nat),todo,.slice aa g.cut ac,vv] 130) ->
   EPost D w (FI D ρ k.n wb mb vv) (.ok (A,{ k with sr:=k.sr.dec,bw:=k.bw.take g.cut })) (ah (.bool A)) w2:=fun{w2} jZ=>by
  obtain⟨Q,r2⟩:=(o.ext dD).forget hcut gx jZ;exact⟨yF,J,ρ,eu.refl _ _,_,_,_,_,Q⟩
 cases DQ:g.Fk with
 | none=>
  rw[DQ] at hr IB;have hwv:o4 = .pointer none:=IB;subst hwv;cases hr;refine dB x @W gx iQ ?_;exact apa J
 | some b=>
  rw[DQ] at hr IB;obtain⟨kind,name,args,parts⟩:=b;have eZ:=eZ _ DQ;have IB:dJ (fun _=>True) w o4 (.mk kind name args parts):=IB;have apb:=IB.iX K;have rW:=apb;unfold dJ at rW;obtain⟨bb,bav,bpv,bus,YB,rfl,-,y,hba,jB,F,H⟩:=rW;have lbb:=bg y;have apd:=eZ;unfold eX at apd;obtain⟨mT,nT,⟨PU,PV,PW⟩,GV,Fp,jr,j3,y9⟩:=apd;dsimp only at hr;refine dB x @W gx y ?_;have kk:∀ c:Nat,c<256->((kind:Int)=(c:Nat)↔kind=c):=zg;by_cases k33:kind=33
  .subst k33;rw[zip rfl] at hr;cases hr;refine dB x @W gx iQ ?_;exact apa J
  rw[bM k33] at hr;have aLi:¬ ((kind:Int)=33):=zo;refine cJ @aLi ?_;by_cases k44:kind=44
  .subst k44;rw[zip rfl] at hr;cases hr;have Cx:YB.length=parts.length:=H.Hh;obtain⟨pa,pc,X⟩:=F.sl;subst X;refine dj y Cx ?_;refine⟨fun n s w3=>∃ (j:Nat) (tdv:Y),s 7=zi ((j:Int)-1)/\j<=parts.length/\n=j/\kh D ρ wb mb tdv av vv tv di w3 { k with sr:=k.sr.dec,todo:=((parts.drop j).map fun p=>⟨O p,g.vars,g.cut⟩)++k.todo }/\dc D w1 w3,
    ⟨_,parts.length,todo,J,Nat.le_refl _,J,by simpa using o,bB.refl _ _⟩,?_⟩
   intro j s d w3 hI;refine toPr ?_;obtain⟨j',tdv,h7,hj,rfl,t,eH⟩:=hI;clear d;have Ln:eO w1 w3:=dc.toI eH;have c3:=t.cell;have lw3:=bg c3;obtain⟨z,rfl⟩:=t.td.ptr;by_cases hj0:j=0
   .subst hj0;refine cJ h7 ?_;rw[List.drop_zero] at t;exact⟨yF,J,ρ,eu.refl _ _,_,_,_,_,t⟩
   .obtain⟨i,rfl⟩:∃ i,j=i+1:=⟨j-1,zo⟩;have hi:i<parts.length:=zo;have e7:((i+1:Nat):Int)-1=(i:Nat):=zo;rw[e7] at h7;obtain⟨pb,C6,xb,p1,p2,p3,p4⟩:=partAt F H hi;injection p1 with p1 _ L;subst p1 L;rw[Cx] at y;have R:=Ln _ _ _ (yM) p2;have S:=Ln _ _ _ (yM) y;have q3:=Ln _ _ _ (yM) x;have ei:((i:Nat):Int).toNat=i:=zo;obtain⟨q,gc,N5⟩:=C.sl;subst N5;refine cJ h7 ?_;refine⟨S3 bb pb cap w3,⟨J,J,J⟩,?_⟩;refine QF S R hi p3 h7 ?_;refine QH q3 ?_;refine YA q3 ?_;have mj:((i:Nat):Int)<=100000:=zo;refine dj @c3 h7 ?_;obtain⟨m,nE⟩:=cg (w3.drew.alloc (ae #[pp xb,.slice q (ni ρ g.vars).length gc,zi (g.cut:Nat),.pointer z] 207));have BN:Ext w3 m:=yF;have g5:m.heap[w3.heap.size]?=aO #[pp xb,.slice q (ni ρ g.vars).length gc,zi (g.cut:Nat),.pointer z] 207:=yH;rw[<- nE];have Un:eO w1 m:=Ln.trans (eO.ed BN);obtain⟨Q,r2⟩:=(t.ext BN).Lk (todo':=pp w3.heap.size) (l:=⟨O parts[i],g.vars,g.cut⟩::(((parts.drop (i+1)).map fun p=>⟨O p,g.vars,g.cut⟩)++k.todo))
     ⟨_,_,_,_,J,g5,dJ.iX Un p4,C.iX (K.trans Un) (yM),N,t.td.bJ (eO.ed BN) (eu.refl _ _)⟩ J
    refine⟨(by grind [S3.of]),i,zo,i,pp w3.heap.size,zs,zo,J,?_,yF⟩;grind [List.drop_eq_getElem_cons]
  rw[bM k44] at hr;have aLk:¬ ((kind:Int)=44):=zo;refine cJ @aLk ?_;by_cases PU:kind=59
  .subst PU;obtain⟨pa,pc,X⟩:=F.sl;have Cx:YB.length=parts.length:=H.Hh;have h2:=PU J;subst X
   match parts,h2 with
   | [pA,pB],_=>
   obtain⟨pb,C6,T,p1,p2,p3,p4⟩:=partAt F H (j:=0) zs;obtain⟨YC,YD,xb,L,Lq,p3',Ur⟩:=partAt F H (j:=1) zs;rw[p1] at L;simp only[a1I,a1o,Addr.mk.injEq,and_true,true_and] at L;obtain⟨rfl,-⟩:=L;rw[p2] at Lq;simp only[a1o,Obj.cells.injEq,and_true] at Lq;subst Lq;rw[p1] at y;simp only[a3o,a3O] at p4 Ur;obtain⟨q,gc,N5⟩:=C.sl;subst N5;obtain⟨z,rfl⟩:=o.td.ptr;refine bH ?_;refine⟨S3 bb pb cap w1,⟨J,J,J⟩,?_⟩;refine QF y p2 (i:=1) zs p3' J ?_;refine QH x ?_;refine YA x ?_;refine cJ @W ?_;obtain⟨w2,jZ⟩:=cg (w1.drew.alloc (ae #[pp xb,.slice q (ni ρ g.vars).length gc,zi (g.cut:Nat),.pointer z] 207));have qP:Ext w1 w2:=yF;have g2:w2.heap[w1.heap.size]?=aO #[pp xb,.slice q (ni ρ g.vars).length gc,zi (g.cut:Nat),.pointer z] 207:=yH;rw[<- jZ];have N6:eO w1 w2:=eO.ed qP;refine⟨(by grind [S3.of]),?_⟩;have Bp:uM ρ k.n w2 (pp w1.heap.size) (⟨O pB,g.vars,g.cut⟩::k.todo):=
    ⟨_,_,_,_,J,g2,dJ.iX N6 Ur,C.iX (K.trans N6) (yM),N,o.td.bJ N6 (eu.refl _ _)⟩
   refine a1r (ae1 (o.ext qP) yH Bp zg) ?_;rintro e w3 ⟨rfl,Us,rX,aph,t⟩;have rY:dc D w1 w3:=(dc.ed qP).trans Us;have u:eO w1 w3:=dc.toI rY;have S:=u _ _ _ (yM) y;have R:=u _ _ _ (yM) p2;have q3:=u _ _ _ (yM) x;have c3:=t.cell;have lw3:=bg c3;refine⟨S3 bb pb cap w3,⟨J,J,J⟩,?_⟩;refine QF S R (i:=0) zs p3 J ?_;refine QH q3 ?_;refine YA q3 ?_;refine cJ @c3 ?_;obtain⟨a,jo⟩:=cg (w3.drew.alloc (ae #[pp T,.slice q (ni ρ g.vars).length gc,zi (g.cut:Nat),.pointer z] 207));have E:Ext w3 a:=yF;have g4:a.heap[w3.heap.size]?=aO #[pp T,.slice q (ni ρ g.vars).length gc,zi (g.cut:Nat),.pointer z] 207:=yH;rw[<- jo];have hK4:eO w1 a:=u.trans (eO.ed E);refine⟨(by grind [S3.of]),?_⟩;obtain⟨Q,r2⟩:=(t.ext E).Lk (todo':=pp w3.heap.size) (l:=⟨O pA,g.vars,g.cut⟩::k.todo)
    ⟨_,_,_,_,J,g4,dJ.iX hK4 p4,C.iX (K.trans hK4) (yM),N,o.td.bJ hK4 (eu.refl _ _)⟩ J
   cases hr;exact⟨I.trans yF,J,ρ,eu.refl _ _,_,_,_,_,Q⟩
  rw[bM PU] at hr;have aLl:¬ ((kind:Int)=59):=zo;refine cJ @aLl ?_;by_cases PV:kind=63
  .subst PV;obtain⟨pa,pc,X⟩:=F.sl;have Cx:YB.length=parts.length:=H.Hh;have h2:=PV J;subst X
   match parts,h2 with
   | [pA,pB,pC],_=>
   obtain⟨pb,C6,T,p1,p2,p3,p4⟩:=partAt F H (j:=0) zs;obtain⟨YC,YD,xb,L,Lq,p3',Ur⟩:=partAt F H (j:=1) zs;obtain⟨aWZ,aW0,xc,q1',N8,Hk,Ut⟩:=partAt F H (j:=2) zs;rw[p1] at L q1';simp only[a1I,a1o,Addr.mk.injEq,and_true,true_and] at L q1';obtain⟨rfl,-⟩:=L;obtain⟨rfl,-⟩:=q1';rw[p2] at Lq N8;simp only[a1o,Obj.cells.injEq,and_true] at Lq N8;subst Lq N8;rw[p1] at y;simp only[a3o,a3O] at p4 Ur Ut;obtain⟨q,gc,N5⟩:=C.sl;subst N5;obtain⟨z,rfl⟩:=o.td.ptr;refine bH ?_;refine⟨S3 bb pb cap w1,⟨J,J,J⟩,?_⟩;refine QF y p2 (i:=2) zs Hk J ?_;refine QH x ?_;refine YA x ?_;refine cJ @W ?_;obtain⟨w2,jZ⟩:=cg (w1.drew.alloc (ae #[pp xc,.slice q (ni ρ g.vars).length gc,zi (g.cut:Nat),.pointer z] 207));have qP:Ext w1 w2:=yF;have g2:w2.heap[w1.heap.size]?=aO #[pp xc,.slice q (ni ρ g.vars).length gc,zi (g.cut:Nat),.pointer z] 207:=yH;rw[<- jZ];have N6:eO w1 w2:=eO.ed qP;refine⟨(by grind [S3.of]),?_⟩;have Bp:uM ρ k.n w2 (pp w1.heap.size) (⟨O pC,g.vars,g.cut⟩::k.todo):=
    ⟨_,_,_,_,J,g2,dJ.iX N6 Ut,C.iX (K.trans N6) (yM),N,o.td.bJ N6 (eu.refl _ _)⟩
   refine a1r (ae1 (o.ext qP) yH Bp zg) ?_;rintro e w3 ⟨rfl,Us,rX,aph,t⟩;have rY:dc D w1 w3:=(dc.ed qP).trans Us;have u:eO w1 w3:=dc.toI rY;have S:=u _ _ _ (yM) y;have R:=u _ _ _ (yM) p2;have q3:=u _ _ _ (yM) x;have c3:=t.cell;refine dB @c3 @S @R (zA @p3' @q3) ?_;obtain⟨a,jo⟩:=cg (w3.drew.alloc (ae (Value.agg #[pp xb,.slice q (ni ρ g.vars).length gc,zi (g.cut:Nat),.pointer z]).cells 207 (0,0)));have E:Ext w3 a:=yF;have g4:a.heap[w3.heap.size]?=aO #[pp xb,.slice q (ni ρ g.vars).length gc,zi (g.cut:Nat),.pointer z] 207:=by rw[jo];exact sK (yH)
   rw[<- jo];have bb4:=E.ext _ _ S;have p24:=E.ext _ _ R;have q4:=E.ext _ _ q3;have c4:=E.ext _ _ c3;have lw4:=bg c4;refine⟨S3 bb pb cap a,⟨J,J,J⟩,?_⟩;refine QF bb4 p24 (i:=0) zs p3 J ?_;refine QH q4 ?_;refine cJ @c4 ?_;obtain⟨m,nE⟩:=cg (a.drew.alloc (ae #[aq V,bW,zi (k.bw.length:Nat),pp w3.heap.size] 207));have rB:Ext a m:=yF;have s5:m.heap.size=a.heap.size+1:=yH;have g5:m.heap[a.heap.size]?=aO #[aq V,bW,zi (k.bw.length:Nat),pp w3.heap.size] 207:=yH;rw[<- nE];obtain⟨B,pH⟩:=cg (m.alloc (ae #[pp T,.slice q (ni ρ g.vars).length gc,zi (k.bw.length:Nat),pp a.heap.size] 207));have Um:Ext m B:=yF;have g6:B.heap[m.heap.size]?=aO #[pp T,.slice q (ni ρ g.vars).length gc,zi (k.bw.length:Nat),pp a.heap.size] 207:=yH;rw[<- pH];have Et:Ext w3 B:=yF;have U:eO w1 B:=u.trans (eO.ed Et);refine⟨(by grind [S3.of]),(by grind [S3.of,bB.trans]),?_⟩;have gl:uM ρ k.n B (pp m.heap.size) (⟨O pA,g.vars,k.bw.length⟩::⟨V,[],k.bw.length⟩::⟨O pB,g.vars,g.cut⟩::k.todo):=
    ⟨_,_,_,_,J,g6,dJ.iX U p4,C.iX (K.trans U) (yM),N,_,_,_,_,J,Um.ext _ _ g5,J,.inl ⟨J,J⟩,(fun _ h=>by cases h),
     _,_,_,_,J,(rB.trans Um).ext _ _ g4,dJ.iX U Ur,C.iX (K.trans U) (yM),N,o.td.bJ U (eu.refl _ _)⟩
   rw[s5] at gl;obtain⟨Q,r2⟩:=(t.ext Et).Lk gl J;cases hr;exact⟨I.trans (rY.trans yF),J,ρ,eu.refl _ _,_,_,_,_,Q⟩
  rw[bM PV] at hr;have aLn:¬ ((kind:Int)=63):=zo;refine cJ @aLn ?_;by_cases PW:kind=126
  .subst PW;obtain⟨pa,pc,X⟩:=F.sl;have Cx:YB.length=parts.length:=H.Hh;have h2:=PW J;subst X
   match parts,h2 with
   | [pA],_=>
   obtain⟨pb,C6,T,p1,p2,p3,p4⟩:=partAt F H (j:=0) zs;rw[p1] at y;simp only[a3o] at p4;obtain⟨q,gc,N5⟩:=C.sl;subst N5;obtain⟨z,rfl⟩:=o.td.ptr;refine cJ @W ?_;refine a1r (ae1 o hD1 o.td zg) ?_;rintro e w3 ⟨rfl,rY,rX,aph,t⟩;have u:eO w1 w3:=dc.toI rY;have S:=u _ _ _ (yM) y;have R:=u _ _ _ (yM) p2;have q3:=u _ _ _ (yM) x;have c3:=t.cell;refine bH ?_;obtain⟨wf,C7⟩:=cg (w3.alloc (ae #[.int .u8 103,aT [102,97,105,108],bW,bW] 149 (0,0)));have aW1:Ext w3 wf:=yF;have sf:wf.heap.size=w3.heap.size+1:=yH;have gf:wf.heap[w3.heap.size]?=aO #[.int .u8 103,aT [102,97,105,108],bW,bW] 149:=yH;rw[<- C7];obtain⟨a,jo⟩:=cg (wf.alloc (ae (Value.agg #[pp w3.heap.size,bW,zi 0,aq V]).cells 207 (0,0)));have g4:a.heap[wf.heap.size]?=aO #[pp w3.heap.size,bW,zi 0,aq V] 207:=by rw[jo];exact sK J
   rw[<- jo];have E:Ext w3 a:=yF;have bb4:=E.ext _ _ S;have p24:=E.ext _ _ R;have q4:=E.ext _ _ q3;have c4:=E.ext _ _ c3;have lw4:=bg c4;refine⟨S3 bb pb cap a,⟨J,J,J⟩,?_⟩;refine QF bb4 p24 (i:=0) zs p3 J ?_;refine QH q4 ?_;refine cJ @c4 ?_;obtain⟨m,nE⟩:=cg (a.drew.alloc (ae #[aq V,bW,zi (k.bw.length:Nat),pp wf.heap.size] 207));have rB:Ext a m:=yF;have s5:m.heap.size=a.heap.size+1:=yH;have g5:m.heap[a.heap.size]?=aO #[aq V,bW,zi (k.bw.length:Nat),pp wf.heap.size] 207:=yH;rw[<- nE];obtain⟨B,pH⟩:=cg (m.alloc (ae #[pp T,.slice q (ni ρ g.vars).length gc,zi (k.bw.length:Nat),pp a.heap.size] 207));have Um:Ext m B:=yF;have g6:B.heap[m.heap.size]?=aO #[pp T,.slice q (ni ρ g.vars).length gc,zi (k.bw.length:Nat),pp a.heap.size] 207:=yH;rw[<- pH];have rC:Ext a B:=yF;have Et:Ext w3 B:=yF;have U:eO w1 B:=u.trans (eO.ed Et);refine⟨(by grind [S3.of]),(by grind [S3.of]),?_⟩;have YE:dJ (fun _=>True) B (pp w3.heap.size) Ac:=by
    unfold Ac dJ;exact⟨_,_,_,[],[],J,trivial,yH,.inl ⟨J,J⟩,by unfold eQ;rfl,.inl ⟨J,J⟩,by unfold gy;rfl⟩
   have gl:uM ρ k.n B (pp m.heap.size) [⟨O pA,g.vars,k.bw.length⟩,⟨V,[],k.bw.length⟩,⟨O Ac,[],0⟩]:=
    ⟨_,_,_,_,J,g6,dJ.iX U p4,C.iX (K.trans U) (yM),N,_,_,_,_,J,Um.ext _ _ g5,J,.inl ⟨J,J⟩,(fun _ h=>by cases h),
     _,_,_,_,J,rC.ext _ _ g4,YE,.inl ⟨J,J⟩,(fun _ h=>by cases h),J⟩
   rw[s5] at gl;obtain⟨Q,r2⟩:=(t.ext Et).Lk gl J;cases hr;exact⟨I.trans (rY.trans yF),J,ρ,eu.refl _ _,_,_,_,_,Q⟩
  rw[bM PW] at hr;have aLo:¬ ((kind:Int)=126):=zo;refine dj @aLo x ?_;refine a1r (aK6 o hD1 (hB.fr I) gN hM apb (C.iX K (yM)) N eZ (by grind [Sr.cV,Sr.dec]) zm hr) ?_;rintro e w2 hp;exact EPost.ae7 (hp.of I)
end
section
variable{D:Nat->Prop}{ρ:Nat->Nat}{wb mb:Nat}{todo av vv tv:Y}{di:List Y}{w w':Z}{k:Wk}
def kh.place(h:kh D ρ wb mb todo av vv tv di w k)(hm:m<k.bw.length):∃ g ac cur a cv b fV us,av = cS g k.bw.length ac/\k.bw.length<=ac/\w.heap[g]?=aO cur 356/\cur.size=ac*4 /\
  cur[m*4]?=O (zi ((k.bw[m]).mark:Nat))/\cur[m*4+1]?=O a/\cur[m*4+2]?=O cv/\cur[m*4+3]?=O b /\
  uM ρ k.n w a (k.bw[m]).todo/\oK w 79 cv fV/\km (fun _=>True) w fV (k.bw[m]).clauses/\fJ (fun _=>True) w 89 b us/\qe ρ k.n w us (k.bw[m]).args:=by
 obtain⟨a,cv,b,fV,us,o,g2,g3,g4,g5,g6⟩:=h.ag.at m hm;rcases h.ar.2 with⟨-,c⟩| ⟨g,cap,cur,d,c,e,f,p,i,q⟩
 .exact yH
 .have l:∀ j,j<4->cur[m*4+j]?=[Value.int .i64 ((k.bw[m]).mark:Nat),a,cv,b][j]?:=zg;exact⟨g,cap,cur,a,cv,b,fV,us,d,f,e,i,l 0 zo,zg,zg,zg,g2,g3,g4,g5,g6⟩
end
section
variable{D:Nat->Prop}{ρ:Nat->Nat}{wb mb:Nat}{vv:Y}{w w':Z}{k:Wk}
def aLp(h:Qt D ρ wb mb vv w k)(hD:∀ b,w.heap.size<=b->D b){base:List Cl}(hB:BM w mb base)(gN:∀ c∈base,y8 M c)(hM:M<=100000)(L:B<=800000000)
  (hg:lW M B k) {r:Except jE (Bool×Wk)} (hr:kq base d f A k=O r) :
  Calls bbB 223 #[pp wb] w (EPost D w (FI D ρ k.n wb mb vv) r):=by
 refine aKL ?_;refine⟨fun n s w1=>∃ (ok:Bool) (F:Nat->Nat) (j:Wk),s 3 = .bool ok/\eu ρ k.n F j.n/\Qt D F wb mb vv w1 j/\dc D w w1/\lW M B { j with todo:=if ok then j.todo else [] }/\kq base d n ok j=O r,
  ⟨f,A,ρ,k,J,eu.refl _ _,h,yF,hg,hr⟩,?_⟩
 intro n s dd w1 hI;clear dd;obtain⟨ok,F,j,h3,uQ,Je,dF,I,u⟩:=hI;cases n with
 | zero=>simp [kq] at u
 | succ n=>
 have s1:=dF.size;have Iw:∀ {q:Except jE (Bool×Wk)} {z:Nat->Nat} {n2:Nat} {w2:Z} {e:Ending} {w3:Z} {r0:P.Out (Bool×Wk)},eu ρ k.n z n2->dc D w w2->EPost D w2 (FI D z n2 wb mb vv) q e w3->r0=O q ->
   P.Out.bind r0 (fun p=>kq base d n p.1 p.2)=O r->(∀ p,q = .ok p->lW M B { p.2 with todo:=if p.1 then p.2.todo else [] }) ->
   ends (fun x w'=>∃ m,m<n+1/\∃ (ok:Bool) (F:Nat->Nat) (j:Wk),(jg [(3,x)]) 3 = .bool ok/\eu ρ k.n F j.n/\Qt D F wb mb vv w' j/\dc D w w'/\lW M B { j with todo:=if ok then j.todo else [] }/\kq base d m ok j=O r)
    (PC (EPost D w (FI D ρ k.n wb mb vv) r)) e w3:=by
  intro q z n2 w2 e w3 r0 hu hE t hq0 y api;rw[hq0] at y;obtain⟨S,t⟩:=t;cases q with
  | error te=>
   cases y;have t:e=gP te:=t;subst t;cases te<;>exact⟨yF,J⟩
  | ok p=>
   obtain⟨rfl,ρ3,NT,QI⟩:=t;exact⟨n,Nat.lt_succ_self _,p.1,ρ3,p.2,J,hu.trans NT,QI,yF,zg,y⟩
 obtain⟨todo,av,tv,di,K⟩:=Je;have c1:=K.cell;have CN:j.sr.tr.length+j.sr.fuel<=800000000:=a1t I.cV L;have Ny:j.bw.length+j.sr.fuel<=800000000:=a1t I.nN L;refine⟨fun _ w2=>∃ (z:Nat->Nat) (l:Wk),eu ρ k.n z l.n/\Qt D z wb mb vv w2 l/\dc D w w2/\lW M B l/\∃ m,m<n+1/\(kq base d (m+1) A l=O r),?_,?_⟩
 .cases ok with
  | true=>
   refine cJ h3 ?_;exact⟨F,j,uQ,⟨_,_,_,_,K⟩,dF,I,n,Nat.lt_succ_self _,u⟩
  | false=>
   simp only[Bool.false_eq_true,if_false] at I;obtain⟨aa,ac,N⟩:=gV K.ar;refine jc h3 @c1 N ?_;rw[kq] at u;by_cases hle:j.bw.length=0
   .have hlt:(j.bw.length:Int)-1<0:=zo;rw[List.eq_nil_of_length_eq_zero hle] at u;cases u;refine cJ hlt ?_;exact⟨dF,J,F,uQ,_,_,_,_,K⟩
   have hlt:¬ (j.bw.length:Int)-1<0:=zo;obtain⟨m,hm⟩:∃ m,j.bw.length=m+1:=⟨j.bw.length-1,zo⟩;have xe:m<j.bw.length:=zo;have QJ:j.bw.getLast?=O j.bw[m]:=zg;rw[QJ] at u;obtain⟨g,ac',cur,tp,cv,xw,fV,us,e1,e2,xL,jr,q0,q1,q2,q3,i1,i2,i3,i4,i5⟩:=K.place xe;rw[N] at e1;simp only[a1I,true_and] at e1;obtain⟨rfl,rfl⟩:=e1;have lg:=bg xL;have afe:(j.bw.length:Int)-1=(m:Nat):=zo;have Oa:((m:Nat):Int).toNat=m:=zo;rw[afe] at hlt ⊢;obtain⟨u1,u2,u3,u4⟩:=I.iE QJ;have dD:Ext w1 w1.drew:=yF;have hm4:m*4<ac*4:=zo;have hmi:((m:Nat):Int)<(j.bw.length:Nat):=zo;refine dB hlt @c1 N (zA @Oa (zA xL @q0)) ?_;refine a1r (aer (K.ext dD).less FH u3 zo) ?_;rintro e w2 ⟨rfl,T,yd,mG⟩;obtain⟨C,T6⟩:=(K.ext dD).store mG T;have qP:dc D w1 w2:=(dc.ed dD).trans T6;have U:eO w1 w2:=dc.toI qP;have H:w2.heap[g]?=aO cur 356:=T.block _ _ xL (by rintro ⟨⟨-,W⟩,-⟩;rw[N] at W;exact W J);have lg2:=bg H;have c2:=C.cell;have l2:=bg c2;have s2:=qP.size;obtain⟨tq,rfl⟩:=i1.ptr;obtain⟨aa',aW5,X⟩:=i4.sl;obtain⟨Ys,cvn,Uj,iY⟩:∃ a n c,cv = .slice a n c:=by
    rcases i2 with⟨-,rfl⟩| ⟨b,o,cap,cs,rfl,-⟩<;>exact zg
   have N8:=q2;have Hk:=q3;rw[iY] at N8;rw[X] at Hk;refine dj H @N8 ?_;have lV:=u1.ag _ _ u2;by_cases xP:(j.bw[m]).clauses=[]
   .have:fV=[]:=by rw[xP] at i3;exact i3
    subst this;have Uu:cv = bW:=by
     rcases i2 with⟨-,h⟩| ⟨b,o,cap,cs,-,-,-,-,h⟩<;>grind
    rw[iY] at Uu;cases Uu;simp only[xP] at u;have Ui:((m:Nat):Int)<=(ac:Nat):=zo;obtain⟨Qh,iQ⟩:=Qy (by have:=C.ar;grind:w2.ownsRow 0 356 4 (cS g j.bw.length ac) j.bw.length di);refine dB H @q1 @c2 (zA N iQ) ?_;obtain⟨w3,sW⟩:=cg (bQ w2 wb (ae #[.map (O mb),yd,zi (j.sr.fuel:Nat),.pointer tq,cS g j.bw.length ac,vv] 130));obtain⟨Cy,S⟩:=C.Lk (w1:=w3) (i1.bJ U (eu.refl _ _)) zg;obtain⟨Q,jo⟩:=cg (bQ w2 wb (ae #[.map (O mb),yd,zi (j.sr.fuel:Nat),.pointer tq,cS g m ac,vv] 130));obtain⟨hx4,gW⟩:=Cy.forget (m:=m) (w1:=Q) (Nat.le_of_lt xe) N (by grind [Sj]);have hfu:(j.sr.iE (j.bw[m]).mark).fuel=j.sr.fuel:=rfl;rw[hfu,<- jo];have apm:=I.back QJ;have Mx:j.bw.dropLast=j.bw.take m:=by grind [List.dropLast_eq_take,Nat.add_sub_cancel]
    rw[Mx] at apm u;refine⟨F,{ j with sr:=j.sr.iE (j.bw[m]).mark,todo:=(j.bw[m]).todo,bw:=j.bw.take m },uQ,⟨_,_,_,_,hx4⟩,yF,apm,?_⟩;cases n with
    | zero=>grind [kq]
    | succ n=>grind
   .have jK:fV≠[]:=by
     rintro rfl;cases hx:(j.bw[m]).clauses with
     | nil=>grind
     | cons c0 l0=>rw[hx] at i3;obtain⟨_,_,h0,-⟩:=i3;grind
    obtain⟨cb,co,aLt,ccs,Ls,gS,-,-,-⟩:=i2.resolve_left zg;rw[iY] at Ls;cases Ls;have u:P.Out.bind (xd d (j.bw[m]).args (j.bw[m]).clauses (j.bw[m]).todo m { j with sr:=j.sr.iE (j.bw[m]).mark }) (fun p=>kq base d n p.1 p.2)=O r:=by
     grind
    have Ek:Ext w2 w2.drew:=yF;refine dB H @q1 @N8 @Hk ?_;obtain⟨q,y,-⟩:∃ q,xd d (j.bw[m]).args (j.bw[m]).clauses (j.bw[m]).todo m { j with sr:=j.sr.iE (j.bw[m]).mark }=O q/\True:=by
     cases hx:xd d (j.bw[m]).args (j.bw[m]).clauses (j.bw[m]).todo m { j with sr:=j.sr.iE (j.bw[m]).mark } with
     | none=>rw[hx] at u;cases u
     | some q=>grind
    have Uv:eO w1 w2.drew:=U.trans (eO.ed Ek);refine a1r (aoQ (C.ext Ek) yH (M:=M) (f:=d) (m:=m) (r:=q) ((by grind:oK w1 79 (.slice (O ⟨cb,co,V⟩) fV.length Uj) fV).bJ fun b cs W=>Uv _ _ _ (yM) W) (i3.iX Uv)
     (X ▸ i4.iX Uv (yM)) (i5.Qr Uv (eu.refl _ _)) lV.args lV.cls hM (i1.bJ Uv (eu.refl _ _)) (Nat.le_of_lt xe) zg (a1t u1.cV L) zg y) ?_
    rintro e w3 t;refine Iw uQ yF t y u fun p t=>?_;subst t;have pV:m=j.bw.length-1:=zo;have Uw:xd d (j.bw[m]).args (j.bw[m]).clauses (j.bw[m]).todo (j.bw.length-1) { j with sr:=j.sr.iE (j.bw[m]).mark }=O (.ok p):=by rw[<- pV];exact y
    exact(I.again QJ Uw).1
 .rintro s2 w2 ⟨z,l,FJ,⟨apn,uL,yd,QA,C⟩,T,H,m,hmn,E⟩ d2;clear d2;have c2:=C.cell;have l2:=bg c2;have amS:l.sr.tr.length+l.sr.fuel<=800000000:=a1t H.cV L;have aW7:l.bw.length+l.sr.fuel<=800000000:=a1t H.nN L;have s02:=T.size;rw[kq] at E;cases R:l.todo with
  | nil=>
   rw[R] at E;cases E;have htv:apn = .pointer none:=by have:=C.td;rw[R] at this;exact this
   subst htv;refine cJ @c2 ?_;obtain⟨wf,C7⟩:=cg (w2.alloc (ae #[.int .u8 103,aT [102,97,105,108],bW,bW] 149 (0,0)));have aW9:Ext w2 wf:=yF;have gf:wf.heap[w2.heap.size]?=aO #[.int .u8 103,aT [102,97,105,108],bW,bW] 149:=yH;have sf:wf.heap.size=w2.heap.size+1:=yH;obtain⟨Q,jo⟩:=cg (wf.alloc (ae #[pp w2.heap.size,bW,zi 0,aq V] 207));have g4:Q.heap[wf.heap.size]?=aO #[pp w2.heap.size,bW,zi 0,aq V] 207:=yH;have aLv:Ext w2 Q:=yF;rw[<- C7,<- jo,<- sf];have YE:dJ (fun _=>True) Q (pp w2.heap.size) Ac:=by
    unfold Ac dJ;exact⟨_,_,_,[],[],J,trivial,yH,.inl ⟨J,J⟩,by unfold eQ;rfl,.inl ⟨J,J⟩,by unfold gy;rfl⟩
   have gl:uM z l.n Q (pp wf.heap.size) [⟨O Ac,[],0⟩]:=⟨_,_,_,_,J,g4,YE,.inl ⟨J,J⟩,zg,J⟩;obtain⟨r1,r2⟩:=(C.ext aLv).Lk gl J;exact⟨yF,J,z,FJ,_,_,_,_,r1⟩
  | cons g rest=>
   rw[R] at E;simp only at E;obtain⟨gb,wv,gv,nx,rfl,Fo,DQ,mL,Hi,Nf⟩:∃ b wv gv nx,apn=pp b/\w2.heap[b]?=aO #[wv,gv,zi (g.cut:Nat),nx] 207/\Qq w2 wv g.Fk /\
     fJ (fun _=>True) w2 89 gv (ni z g.vars)/\(∀ i∈g.vars,i<l.n)/\uM z l.n w2 nx rest:=by have:=C.td;rw[R] at this;exact this
   have lgb:=bg Fo;obtain⟨nq,rfl⟩:=Nf.ptr;refine dj @c2 Fo ?_;obtain⟨Cy,S⟩:=C.Lk Nf J;have Eu:nM M l.n l.bw.length (g::rest):=by rw[<- R];exact H.todo
   have hgk:lW M B { l with todo:=g::rest }:=by rw[<- R];omega
   obtain⟨q,y⟩:∃ q,D1 base d g { l with todo:=rest }=O q:=by
    cases hx:D1 base d g { l with todo:=rest } with
    | none=>rw[hx] at E;cases E
    | some q=>grind
   have YF:P.Out.bind (D1 base d g { l with todo:=rest }) (fun p=>kq base d n p.1 p.2)=O r:=by
    rw[y] at E ⊢;cases q with
    | error e=>exact E
    | ok p=>exact aH4 E zo zo
   have Ln:eO w2 _:=dc.toI S;refine a1r (aLe (r:=q) (f:=d) Cy (fun b W=>hD b (by have:=S.size;omega)) ((hB.fr T).fr S) gN hM (Ln _ _ _ (yM) Fo) (DQ.bJ Ln) (mL.iX Ln (yM)) Hi Eu.1 Eu.2.2.1 (a1t H.cV L) (by show l.bw.length<_;omega) y) ?_;rintro e w3 t;refine Iw FJ yF t y YF fun p t=>?_;subst t;exact(amT hgk C.st.ok gN y).1
end
namespace Sx
open Go
def oX(l:List (List UInt8×Y))(i:Nat):List MapEntry:=match l with
 | []=>[]
 | (s,v)::r=>{ key:=.string (bs s),val:=v,born:=i }::oX r (i+1)
def eJ(l:List (List UInt8×Y)):Obj:=.map (oX l 0).toArray l.length
def fL(s:List UInt8):List (List UInt8×Y)->Nat->Option (Nat×Y)
 | [],_=>V
 | (u,v)::r,i=>if u=s then O (i,v) else fL s r (i+1)
theorem QK:∀ (l:List (List UInt8×Y)) (i:Nat),MH (oX l i)
 | [],_=>fun e he=>by cases he
 | (s,v)::r,i=>fun e he=>by
  rcases List.mem_cons.1 he with rfl | he
  .grind
  .exact QK r (i+1) e he
def aLx(s:List UInt8):Su (aT s)=O s:=rfl
def QL(s:List UInt8):∀ (l:List (List UInt8×Y)) (i j:Nat),Bi s (oX l i) j=fL s l j
 | [],_,_=>rfl
 | (u,v)::r,i,j=>by
  unfold oX Bi fL;rw[aLx,QL s r (i+1) (j+1)];grind
def afg(s:List UInt8)(v:Y):∀ (l:List (List UInt8×Y)) (i:Nat),oX l i++[{ key:=aT s,val:=v,born:=i+l.length }]=oX (l++[(s,v)]) i
 | [],i=>rfl
 | (u,x)::r,i=>by
  show _::(oX r (i+1)++_)=_::oX (r++[(s,v)]) (i+1);rw[<- afg s v r (i+1)];grind
def YG{s:List UInt8}:∀ {l:List (List UInt8×Y)} {i j:Nat} {v:Y},fL s l i=O (j,v)->i<=j/\l[j-i]?=O (s,v)
 | [],_,_,_,h=>by cases h
 | (u,x)::r,i,j,v,h=>by
  unfold fL at h;split at h
  .grind
  .obtain⟨a,b⟩:=YG h;grind
theorem YH(s t:List UInt8)(v:Y):∀ (l:List (List UInt8×Y)) (i:Nat),fL s (l++[(t,v)]) i=match fL s l i with | some p=>O p | none=>if t=s then O (i+l.length,v) else V
 | [],i=>by simp [fL]
 | (u,x)::r,i=>by
  show fL s ((u,x)::(r++[(t,v)])) i=_;unfold fL;split
  .rfl
  .rw[YH s t v r (i+1)];grind
def apo{s t:List UInt8}{v u:Y}:∀ {l:List (List UInt8×Y)} {i j:Nat},fL t l i=O (j,u)->fL s (l.set (j-i) (t,v)) i=if s=t then O (j,v) else fL s l i
 | [],_,_,h=>by cases h
 | (x,y)::r,i,j,h=>by
  unfold fL at h;split at h
  .rename_i hx;simp only[a1o,Prod.mk.injEq] at h;obtain⟨rfl,rfl⟩:=h;subst hx;rw[Nat.sub_self,List.set_cons_zero];unfold fL;grind
  .rename_i hx;have b:=(YG h).1;rw[show j-i=(j-(i+1))+1 by omega,List.set_cons_succ];unfold fL;by_cases a:x=s
   .grind
   .rw[bM a,bM a,apo h]
def afh{s:List UInt8}{v u:Y}{g:MapEntry->MapEntry}(a:∀ b,g { key:=aT s,val:=u,born:=b }={ key:=aT s,val:=v,born:=b }) :
  ∀ {l:List (List UInt8×Y)} {i j:Nat},l[j]?=O (s,u)->(oX l i).modify j g=oX (l.set j (s,v)) i
 | (x,y)::r,i,0,h=>by
  simp only[a2Q,a1o,Prod.mk.injEq] at h;obtain⟨rfl,rfl⟩:=h;simp only[oX,List.set_cons_zero,List.modify_zero_cons,a]
 | (x,y)::r,i,j+1,h=>by
  have h:r[j]?=O (s,u):=zg;simp only[oX,List.set_cons_succ,List.modify_succ_cons,afh a h]
section
variable{P:Program}{w:Z}{X:Y->Z->Prop}{l:List (List UInt8×Y)}{r:Nat}
def Lt{t k e:TypeId}{z:Y}{K:Y->Prop}(ht:Bh P t=O (k,e))(a:wo P k=A)(c:Ae P e=O z)(d:w.heap[r]?=O (eJ l))(s:List UInt8)(b:Bool) :
  RD P (Instr.lookup t (.map (O r)) (aT s) b) w K X =
   match fL s l 0 with
   | some (_,v)=>K (if b then ak #[v,.bool A] else v)
   | none=>K (if b then ak #[z,.bool G] else z):=by
 rw[ajA ht a c d (by grind [QK])];rw[a3j,QL];grind
def yj{t k e:TypeId}{K:Z->Prop}(ht:Bh P t=O (k,e))(a:wo P k=A)(hm:w.heap[r]?=O (eJ l))(s:List UInt8)(b:fL s l 0=V)(v:Y) :
  WU P (Instr.mapUpdate t (.map (O r)) (aT s) v) w K X=K (bQ w r (eJ (l++[(s,v)]))):=by
 rw[axm ht a hm (by grind [QK]) s (by rw[a3j,QL];omega) v]
 congr 2
 unfold eJ;have:=afg s v l 0;grind
def apq{t k e:TypeId}{K:Z->Prop}(ht:Bh P t=O (k,e))(d:wo P k=A)(hm:w.heap[r]?=O (eJ l))(s:List UInt8)(a:fL s l 0=O (i,u))(v:Y) :
  WU P (Instr.mapUpdate t (.map (O r)) (aT s) v) w K X=K (bQ w r (eJ (l.set i (s,v)))):=by
 rw[axn ht d hm (by grind [QK]) s (by rw[a3j,QL];exact a) v]
 congr 2
 unfold eJ;have c:=(YG a).2;rw[Nat.sub_zero] at c;rw[List.length_set,<- afh (g:=fun e=>{ e with key:=aT s,val:=v }) (fun b=>rfl) c];grind
def aLy{t k e:TypeId}{z:Y}{K:Y->Z->Prop}(ht:Bh P t=O (k,e))(a:wo P k=A)(d:Ae P e=O z)(hm:w.heap[r]?=O (eJ l))(s:List UInt8)(f:fL s l 0=V) :
  WR P (Instr.mapEntry t (.map (O r)) (aT s)) w K X=K (ak #[z,zi l.length]) (bQ w r (eJ (l++[(s,z)]))):=by
 have g:=WG (P:=P) (w:=w) (b:=false) (n:=9999) (t:=k) (s:=bs s) a;have c:=WH (P:=P) (w:=w) a s (es:=(oX l 0).toArray.toList) (by simpa using QK l 0);rw[a3j,QL,f] at c;have h:bQ w r (eJ (l++[(s,z)]))=bQ w r (.map ((oX l 0).toArray.push { key:=aT s,val:=z,born:=l.length }) (l.length+1)):=by
  unfold eJ;have:=afg s z l 0;grind
 rw[h];refine xF ?_;simp [Instr.mapEntry,run_underlying (Gr ht),Gs (show w.heap[r]?=O (.map (oX l 0).toArray l.length) from hm),g,c,ES d,a3n _ (show w.heap[r]?=O (.map (oX l 0).toArray l.length) from hm),bQ,goInt]
def find_born{i:Nat}:∀ {l:List (List UInt8×Y)} {j:Nat},i<l.length->(oX l j).findIdx? (fun e=>(e.born:Int) == ((j+i:Nat):Int))=O i
 | [],_,h=>zg
 | (u,x)::r,j,h=>by
  unfold oX;rw[List.findIdx?_cons];cases i with
  | zero=>simp
  | succ i=>
   have a:(j:Int)≠((j+(i+1):Nat):Int):=zo;have b:=find_born (i:=i) (l:=r) (j:=j+1) zg;grind
def aLz{t:TypeId}{K:Z->Prop}(hm:w.heap[r]?=O (eJ l)){s:List UInt8}(a:l[i]?=O (s,u))(v:Y) :
  WU P (Instr.entryStore t (.map (O r)) (zi i) v) w K X=K (bQ w r (eJ (l.set i (s,v)))):=by
 have hi:=(List.getElem?_eq_some_iff.1 a).1;have c:=find_born (l:=l) (j:=0) hi;rw[Nat.zero_add] at c;have d:bQ w r (eJ (l.set i (s,v)))=bQ w r (.map ((oX l 0).toArray.modify i fun e=>{ e with val:=v }) l.length):=by
  unfold eJ;rw[List.length_set,<- afh (g:=fun e=>{ e with val:=v }) (fun b=>rfl) a];grind
 rw[d];refine Sd ?_;simp [Instr.entryStore,Gs (show w.heap[r]?=O (.map (oX l 0).toArray l.length) from hm),c,a3n _ (show w.heap[r]?=O (.map (oX l 0).toArray l.length) from hm),bQ,asInt,asIntOf]
end
end Sx
def yk(l:List Cl)(s:Bs):List Cl:=l.filter fun c=>P.keyOf c.name c.args.length == s
def aLA(l:List Cl)(c:Cl)(s:Bs):yk (l++[c]) s=if P.keyOf c.name c.args.length=s then yk l s++[c] else yk l s:=by
 unfold yk;grind
def km.C5{F:Nat->Prop}{w:Z}:∀ {xs:List Cl} {vs:List Y} (j:Nat) (b:j<xs.length),km F w vs xs->∃ v,vs[j]?=O v/\Fb F w v xs[j]
 | x::xs,vs,0,_,⟨u,r,c,d,a⟩=>zg
 | x::xs,vs,j+1,b,⟨u,r,c,d,a⟩=>by
  obtain⟨v,g1,g2⟩:=km.C5 j zg a;grind
def km.len{F:Nat->Prop}{w:Z}:∀ {xs:List Cl} {vs:List Y},km F w vs xs->vs.length=xs.length
 | [],vs,h=>by have h:vs=[]:=h;grind
 | y::c,vs,⟨u,r,a,d,b⟩=>by rw[a];simp [km.len b]
structure Ux(w0 w:Z)(l:List (List UInt8×Y))(cs:List Cl):Prop where
 row:∀ s,match fL s l 0 with
  | none=>yk cs s=[]
  | some (_,v)=>yk cs s≠[]/\∃ vs,w.ownsRow (w0.heap.size+1) 79 1 v (yk cs s).length vs/\km (fun _=>True) w0 vs (yk cs s)
 sep:∀ s t i j v u,fL s l 0=O (i,v)->fL t l 0=O (j,u)->s≠t->v.ownBlock≠u.ownBlock
def Ux.own{l:List (List UInt8×Y)}{cs:List Cl}(h:Ux w0 w l cs)(a:fL s l 0=O (i,v)):∃ g,v.ownBlock=O g:=by
 have:=h.row s;rw[a] at this;obtain⟨c,vs,b,-⟩:=this;rcases b.2 with⟨-,d⟩| ⟨g,cap,cur,rfl,-⟩
 .grind
 .exact⟨g,J⟩
theorem Uy(h:w.ownsRow base e 1 v n vs)(b:n=vs.length):fJ (fun _=>True) w e v vs:=by
 subst b;rcases h.2 with⟨c,a⟩| ⟨g,cap,cur,rfl,a,d,f,i,j,k⟩
 .have a:vs.length=0:=a;exact .inl zg
 .have l:cur.size=cap:=zo;exact .inr yH
def aLB{base:List Cl}(hv:fJ (fun _=>True) w 79 v vs)(U:km (fun _=>True) w vs base)(dA:∀ c∈base,c.name.length<=100/\c.args.length<=4)(hn:base.length<=100000) :
  Calls bbB 39 #[v] w fun e w'=>Ext w w'/\∃ mb,e = ah (.map (O mb))/\w.heap.size<=mb/\BM w' mb base:=by
 have Ob:vs.length=base.length:=U.len;obtain⟨sa,sc,rfl⟩:=hv.sl;refine aKP ?_;obtain⟨w1,jP⟩:=cg (w.alloc (eJ []));have YI:w.alloc (.map #[] 0)=w1:=jP.symm;have dF:Ext w w1:=yF;have m1:w1.heap[w.heap.size]?=O (eJ []):=yH;refine bH ?_;rw[YI];refine⟨fun m z w'=>∃ (j:Nat) (l:List (List UInt8×Y)),z 10=zi (j:Nat)/\j<=base.length/\m=base.length-j/\Ext w w'/\w'.heap[w.heap.size]?=O (eJ l)/\Ux w w' l (base.take j),
  ⟨_,0,[],J,Nat.zero_le _,J,dF,m1,⟨(by grind [fL,yk]),(by grind [fL])⟩⟩,?_⟩
 intro m z d w2 hI;refine toPr ?_;obtain⟨j,l,W,hj,rfl,C,m2,D⟩:=hI;by_cases hlt:j<base.length
 .obtain⟨rb,rcs,M,-,N,K⟩:=hv.at' (j:=j) zo;obtain⟨cv,e2,iY⟩:=U.C5 j hlt;rw[e2] at K;simp only[a1I,true_and] at M;obtain⟨rfl,rfl⟩:=M;obtain⟨cb,cav,cbv,Ys,Uj,rfl,-,gS,⟨xus,ml,xH⟩,nW⟩:=id iY;obtain⟨xa,xc,rfl⟩:=ml.sl;have J2:xus.length=(base[j]).args.length:=eQ.FF xH;have r2':=C.ext _ _ N;have Ja:=C.ext _ _ gS;have qO:(j:Int)<(base.length:Int):=zo;have ej:(j:Int).toNat=j:=zo;obtain⟨mT,ll⟩:=dA _ (List.getElem_mem hlt);refine dB Ob W @r2' (zA @K (zA Ja @ej)) ?_;rw[J2];refine a1r (aoV (base[j]).name (base[j]).args.length mT zo _) ?_;rintro e w3 ⟨rfl,rfl⟩;have m3:w2.drew.heap[w.heap.size]?=O (eJ l):=m2;obtain⟨key,Pw⟩:=cg (P.keyOf (base[j]).name (base[j]).args.length);rw[<- Pw];refine bH ?_;rw[Lt (k:=9) (e:=68) zk zk (z:=bW) zk m3];have X:=D.row key;obtain⟨F,jo⟩:=cg (w2.drew.alloc (ae #[pp cb] 79));have y:Ext w2 F:=yF;have g4:F.heap[w2.heap.size]?=aO #[pp cb] 79:=yH;have m4:=y.ext _ _ m2;have s2:=C.size;have s4:=y.size;have ab0:w.heap.size<w2.heap.size:=yH;have Q:∀ {x:Y} {n:Nat} {xs:List Y},F.ownsRow (w.heap.size+1) 79 1 x n xs->O w.heap.size≠x.ownBlock:=fun h e=>by
   rcases h.2 with⟨a,-⟩| ⟨g,cap,cur,a,f,-⟩
   .rw[a] at e;cases e
   grind [a2f,a1o]
  have kY:∀ {x v':Y} {n:Nat} {xs:List Y} {q:Z} {l':List (List UInt8×Y)},F.ownsRow (w.heap.size+1) 79 1 x n xs->q.ownsRow (w.heap.size+1) 79 1 v' (n+1) (xs++[pp cb]) ->
    F.grownBy q x.ownBlock->(v'.ownBlock=x.ownBlock\/∀ k,v'.ownBlock=O k->F.heap.size<=k)->n=(yk (base.take j) key).length->km (fun _=>True) w xs (yk (base.take j) key) ->
    (∀ t i u,t≠key->fL t l 0=O (i,u)->u.ownBlock≠x.ownBlock)->(∀ t,t≠key->fL t l' 0=fL t l 0)->(∃ i,fL key l' 0=O (i,v')) ->
    Ext w (bQ q w.heap.size (eJ l'))/\(bQ q w.heap.size (eJ l')).heap[w.heap.size]?=O (eJ l')/\Ux w (bQ q w.heap.size (eJ l')) l' (base.take (j+1)):=by
   intro x v' n xs q l' hx D2 E dS xQ aLD ee gj R;obtain⟨ik,R⟩:=R;have S:q.heap[w.heap.size]?=O (eJ l):=by rw[E.block _ (bg m4) (Q hx)];exact m4
   have lm5:=bg S;have tY:Ext w q:=⟨E.os.trans (y.os.trans C.os),E.tape.trans (y.tape.trans C.tape),E.output.trans (y.output.trans C.output),zo,fun b o hb _=>by
    rw[E.block b (yH) (fun e=>?_)]
    .exact y.ext _ _ (C.ext _ _ hb)
    .have:=bg hb;rcases hx.2 with⟨a,-⟩| ⟨g,cap,cur,a,f,-⟩
     .rw[a] at e;cases e
     grind [a2f,a1o]⟩
   have hold:∀ {u:Y} {k:Nat} {us:List Y},w2.ownsRow (w.heap.size+1) 79 1 u k us->∀ g,u.ownBlock=O g->g<F.heap.size:=fun h g E=>by
    rcases h.2 with⟨a,-⟩| ⟨g',cap,cur,a,f,r,-⟩
    .rw[a] at E;cases E
    grind [a2f,a1o,bg]
   refine⟨yF,yH,?_,?_⟩
   .intro t;rw[List.take_succ_eq_append_getElem hlt,aLA,<- Pw];by_cases ht:key=t
    .subst ht;rw[zip J,R];simp only;refine⟨zs,xs++[pp cb],?_,aLD.snoc iY⟩;grind [List.length_append,List.length_singleton,I2,a2f,a1o]
    .rw[bM ht,gj t (fun e=>ht e.symm)];have hr:=D.row t;cases L:fL t l 0 with
     | none=>exact yH
     | some p=>
      obtain⟨i,u⟩:=p;rw[L] at hr;obtain⟨a,us,f,r⟩:=hr;refine⟨a,us,?_,r⟩;have B:F.ownsRow (w.heap.size+1) 79 1 u (yk (base.take j) t).length us:=jL y.ext f;have aLE:=ee t i u (fun e=>ht e.symm) L;have h5:q.ownsRow (w.heap.size+1) 79 1 u (yk (base.take j) t).length us:=by
       refine⟨B.1,?_⟩;rcases B.2 with h6 | ⟨g,cap,cur,M,e2,e3,e4⟩
       .exact yH
       .refine .inr ⟨g,cap,cur,M,e2,?_,e4⟩;rw[E.block g (bg e3) (fun e=>aLE (by rw[M,<- e];rfl))];omega
      grind [I2]
   .intro s t i i' u u' a f gT;by_cases hs:s=key
    .subst hs;rw[R] at a;cases a;rw[gj t (fun e=>gT e.symm)] at f;have hr:=D.row t;rw[f] at hr;obtain⟨_,us,r,-⟩:=hr;obtain⟨g,H⟩:=D.own f;rcases dS with B | B
     .rw[B];exact fun e=>ee t i' u' (fun e=>gT e.symm) f e.symm
     .intro e;have h5:=B g (by rw[e];exact H);have h6:=hold r g H;omega
    .rw[gj s hs] at a;by_cases ht:t=key
     .subst ht;rw[R] at f;cases f;have hr:=D.row s;rw[a] at hr;obtain⟨_,us,r,-⟩:=hr;obtain⟨g,H⟩:=D.own a;rcases dS with B | B
      .rw[B];exact ee s i u hs a
      .intro e;have h5:=B g (by rw[<- e];exact H);have h6:=hold r g H;omega
     .rw[gj t ht] at f;exact D.sep s t i i' u u' a f gT
  have aLF:(yk (base.take j) key).length<=100000:=a1t (List.length_filter_le _ _) zg;cases hk:fL key l 0 with
  | none=>
   rw[hk] at X;simp only;refine bH ?_;rw[<- jo];refine acO (base:=w.heap.size+1) (a1Q _ _ _ _) g4 J zo zo ?_;intro v' q I T yf;have S:q.heap[w.heap.size]?=O (eJ l):=by rw[T.block _ (bg m4) (by intro e;cases e)];omega
   rw[yj (k:=9) (e:=68) zk zk S key hk];obtain⟨r1,N,K⟩:=kY (l':=l++[(key,v')]) (a1Q _ _ _ _) I T yf zg (by rw[show yk (base.take j) key=[] from X];rfl)
    (fun t i u _ L=>by obtain⟨g,H⟩:=D.own L;rw[H];intro e;cases e)
    (fun t ht=>by rw[YH];grind) ⟨0+l.length,by grind [YH]⟩
   refine cJ W ?_;exact⟨base.length-(j+1),zo,j+1,l++[(key,v')],zg,zo,J,r1,N,K⟩
  | some p=>
   obtain⟨i,x⟩:=p;rw[hk] at X;obtain⟨a,us,f,r⟩:=X;simp only;obtain⟨xa',xc',rL⟩:=gV f;refine bH ?_;rw[<- jo];refine acO (base:=w.heap.size+1) (jL y.ext f) g4 J aLF zo ?_;intro v' q I T yf;have S:q.heap[w.heap.size]?=O (eJ l):=by rw[T.block _ (bg m4) (Q (jL y.ext f))];omega
   rw[apq (k:=9) (e:=68) zk zk S key hk];have CM:=fun s=>apo (s:=s) (v:=v') hk;rw[Nat.sub_zero] at CM;obtain⟨r1,N,K⟩:=kY (l':=l.set i (key,v')) (jL y.ext f) I T yf J r
    (by grind [Ux.sep])
    zg zg
   refine cJ W ?_;exact⟨base.length-(j+1),zo,j+1,l.set i (key,v'),zg,zo,J,r1,N,K⟩
 .have fp:j=base.length:=zo;subst fp;refine dj Ob W ?_;refine⟨C,_,J,Nat.le_refl _,(oX l 0).toArray,l.length,m2,by grind [QK],fun name n hn4=>?_⟩;rw[a3j,QL];have hr:=D.row (P.keyOf name n);rw[List.take_length] at hr;have je:yk base (P.keyOf name n)=Hg base name n:=by
   unfold yk Hg;refine List.filter_congr fun c U=>?_;have:=(dA c U).2;rw[Bool.eq_iff_iff];simp only[beq_iff_eq,Bool.and_eq_true];grind [P.ae6]
  rw[je] at hr;cases L:fL (P.keyOf name n) l 0 with
  | none=>grind
  | some p=>
   rw[L] at hr;obtain⟨a,us,f,r⟩:=hr;exact⟨a,us,Uy f r.len.symm,r.iX (eO.ed C)⟩
def aLG{t:Option Addr}{body:Bd}(u:n<=100000)(l:w.heap[b]?=aO #[nm,av,pp xb,.slice t n pb] 86)
  (y:dJ (fun _=>True) w (pp xb) body) :
  Calls bbB 38 #[.map (O mb),pp b] w fun e w'=>Ext w w'/\∃ q fb ρ todo,e = ah (pp q)/\w.heap.size<=q /\
   fJ (fun _=>True) w' 89 (cS fb n n) (ni ρ (List.range n)) /\
   ∀ D:Nat->Prop,(∀ b,w.heap.size<=b->D b)->kh D ρ q mb todo bW (cS fb n n) bW [] w' (Wk.new body n):=by
 refine aoL ?_;refine cJ l ?_;refine a1r (aoN n u w) ?_;rintro e w1 ⟨m,s1,vcs,rfl,T,z,B⟩;have d:=m.ext _ _ l;have U:=bg d;refine cJ d ?_;obtain⟨w2,C⟩:=cg (w1.alloc (ae #[.map (O mb),bW,zi 0,aq V,bW,cS w.heap.size n n] 130));have E:w1.alloc (ae (Value.agg #[.map (O mb),bW,zi 0,aq V,bW,cS w.heap.size n n]).cells 130 (0,0))=w2:=C.symm;rw[E];have F:Ext w1 w2:=yF;have g2:w2.heap[w1.heap.size]?=aO #[.map (O mb),bW,zi 0,aq V,bW,cS w.heap.size n n] 130:=yH;have s2:w2.heap.size=w1.heap.size+1:=yH;have r:=F.ext _ _ d;have W:=bg g2;refine⟨fun w'=>w'.heap[b]?=w2.heap[b]?,J,?_⟩;rw[jx];refine cQ (pq b 2) (fun w' a=>by rw[r] at a;exact fh a) (cQ (pp xb) (fun w' a=>by rw[r] at a;have:=bg a;exact fh a) ?_);refine cJ @g2 ?_;obtain⟨w3,H⟩:=cg (w2.drew.alloc (ae #[pp xb,cS w.heap.size n n,zi 0,aq V] 207));have I:Ext w2 w3:=yF;have g3:w3.heap[w2.heap.size]?=aO #[pp xb,cS w.heap.size n n,zi 0,aq V] 207:=yH;have X:w2.drew.heap.size=w2.heap.size:=rfl;rw[<- H];have Hc:Ext w w3:=yF;have K:=I.ext _ _ g2;have l3:=bg K;obtain⟨c,L⟩:=cg (bQ w3 w1.heap.size (ae #[.map (O mb),bW,zi 0,pp w2.heap.size,bW,cS w.heap.size n n] 130));rw[<- L];have f:=m.size;have s:Ext w c:=yF;have M:∀ x o,x≠w1.heap.size->w3.heap[x]?=O o->c.heap[x]?=O o:=yH;have c4:c.heap[w1.heap.size]?=aO #[.map (O mb),bW,zi 0,pp w2.heap.size,bW,cS w.heap.size n n] 130:=yH;have N:∀ j,j<n->c.heap[w.heap.size+1+j]?=aO #[ai] 91:=yH;have P:c.heap[w.heap.size]?=aO vcs 89:=yH;have h:=aoO (ρ:=fun _=>0) (n:=0) P z (fun j Q=>(B j Q).1);rw[<- List.range_eq_range'] at h;refine⟨s,w1.heap.size,w.heap.size,yg (fun _=>0) 0 (w.heap.size+1),pp w2.heap.size,J,f,h,fun D hD=>?_⟩;have R:∀ i,yg (fun _=>0) 0 (w.heap.size+1) i=w.heap.size+1+i:=(by grind [yg]);refine⟨⟨⟨yH,fun i hi=>⟨ai,by rw[R];exact N i hi,J⟩⟩,yH,c4,a1Q _ _ _ _,fun g k=>(by cases k),yH,List.nodup_nil,(fun p S=>by cases S),trivial⟩,
  ⟨_,_,_,_,J,M _ _ zo g3,dJ.iX (eO.ed s) y,h,fun i hi=>List.mem_range.1 hi,J⟩,a1Q _ _ _ _,J,fun g k=>(by cases k)⟩
def QN(F:Nat->Prop)(w:Z)(b:Nat)(x:Bd)(vs:List Bs):Prop:=
 F b/\vs.length<=12/\∃ xb a c,w.heap[b]?=aO #[aT [],bW,pp xb,.slice a vs.length c] 86/\dJ F w (pp xb) x /\
  fJ F w 9 (.slice a vs.length c) (vs.map fun s=>aT s)
def QN.aLI(F F':Nat->Prop)(w w':Z)(b:Nat)(x:Bd)(vs:List Bs)(a:∀ b,F b->F' b)(hw:∀ b o,F b->w.heap[b]?=O o->w'.heap[b]?=O o)(h:QN F w b x vs):QN F' w' b x vs:=by
 obtain⟨c,d,xb,e,f,g,i,j⟩:=h;exact⟨a _ c,d,xb,e,f,yH,(by grind [dJ.mono]),(by grind [fJ.mono])⟩
def aLJ(h:w.ownsRow base e 1 v n vs)(c:n=vs.length)(d:∀ b cs,base<=b->w.heap[b]?=aO cs e->F b):fJ F w e v vs:=by
 subst c;rcases h.2 with⟨f,a⟩| ⟨g,cap,cur,rfl,a,i,j,k,l,m⟩
 .have a:vs.length=0:=a;exact .inl zg
 .have o:cur.size=cap:=zo;exact .inr yH
def aLK(h:SP w pb tb T 0 [] 0)(B:mY w tb)(L:w.heap.size=pb+1):Calls bbB 76 #[pp pb] w (amh QN pb w (rP T)):=by
 refine aHH ?_;cases l:mS T (xS T) 0 [] 0 with
 | none=>
  obtain⟨r,hr⟩:=(totB T (xS T)).body 0 [] 0 (by grind [xS]);grind
 | some q=>
 refine a1r ((alW (xS T)).go h B zo l) ?_;rintro e w1 s;cases q with
 | err c a=>
  obtain⟨⟨b,rfl,C,D⟩,g,M⟩:=s;refine bH ?_;refine⟨g,?_⟩;simp only[rP,l];exact⟨b,J,C,D⟩
 | ok x k vs=>
  obtain⟨v,rfl,hx,t,g⟩:=s;obtain⟨xb,rfl,-⟩:=hx.shape;have s1:=g.size;have N:=t.yD;cases i:mR T [46] x k vs with
  | none=>unfold mR at i;split at i<;>cases i
  | some P=>
  refine bH ?_;refine(acR t [46] zd x i).mono ?_;rintro e w2 ⟨m,(⟨rfl,hr,n⟩| ⟨c,a,hr,j⟩)⟩
  .have s2:=m.size;obtain⟨cap,u,y,cs,f,Q,R,E,S,g0,g1,g2,g3,g4,g5⟩:=n.x;have U:=bg f;refine bH ?_;refine⟨fun _ w'=>w'=w2/\(tk T (k+1)).kind=0,?_,?_⟩
   .by_cases o:(tk T (k+1)).kind=0
    .have p:(((tk T (k+1)).kind:Nat):Int)=0:=zo;refine jc f @g0 @g3 ?_;omega
    .have p:¬ (((tk T (k+1)).kind:Nat):Int)=0:=zo;refine jc f @g0 @g3 ?_;refine(Sy n).mono ?_;rintro e w3 ⟨j,F,-⟩;have H:=Na j (a1t s1 s2);obtain⟨b,rfl,-,-⟩:=j;refine bH ?_;refine⟨(g.trans m).trans F,?_⟩;simp only[rP,l,i,hr,bM o];omega
   .rintro _ w3 ⟨rfl,o⟩ d;refine cJ f ?_;have z:Ext w3 (w3.alloc (ae #[aT [],bW,pp xb,.slice u vs.length y] 86)):=yF;refine⟨(g.trans m).trans z.toM,?_⟩;simp only[rP,l,i,hr,zip o];obtain⟨W,I,q1,q2,q3,q4⟩:=n.yD;rw[q3] at f;injection f with f;injection f with f _ _;have f:=congrArg (fun a:Array Y=>a[1]?) f;simp only[List.getElem?_toArray,List.getElem?_cons_succ,a2Q,a1o] at f;subst f;refine⟨_,J,yH,n.nv,xb,u,y,yH,?_,?_⟩
    .have K:dJ (Nu w w3) w3 (pp xb) x:=dJ.mono zg (by grind [db.lF]) _ _ hx;exact dJ.mono (by grind [size_alloc]) yH _ _ K
    .refine aLJ (jL z.ext q4) zs yH
  .have H:=Na j s1;obtain⟨b,rfl,-,-⟩:=j;refine bH ?_;refine⟨g.trans m,?_⟩;grind [rP]
def aps(s:Bs)(w:Z)(j:s.length<=100000)(l:IN w)(hC:mY w w.heap.size):Calls bbB 37 #[aT s] w (Xt QN w (tU rP s)):=by
 refine aHI ?_;refine(aHb QN.aLI (g:=rP) zk s w j l fun _ h m n=>aLK h (m hC) n).mono ?_;rintro e w1 ⟨i,d⟩;cases hr:tU rP s with
 | err c a=>
  rw[hr] at d;obtain⟨b,rfl,f⟩:=d;refine bH ?_;exact⟨i,b,J,f⟩
 | ok x k vs=>
  rw[hr] at d;obtain⟨b,rfl,f⟩:=d;refine bH ?_;exact⟨i,b,J,f⟩
open Go.Proofs.YtoegidfbnkaabaaGreatDoor.Sx
section
variable{p0 p1 p2 p3 p4 p5 p6 p7:Y}{w:Z}{R:Ending->Z->Prop}
def aLL:=cz w R [p0] (gc [] [] [13]) Tryz.func25
def aLM:=cz w R [p0] (gc [] [] []) Tryz.func40
def aLN:=cz w R [p0] (gc [] [] []) Tryz.func16
end
section
variable{p0 p1 p2 p3 p4 p5 p6 p7:Y}{w:Z}{R:Ending->Z->Prop}
def aLO:=cy w R [p0] (gd [(10,[49])] [(14001,[]),(16001,[])] [(16,11)] [(2,[6,0,1,2,3,4,5]),(7,[6,0,1,2,3,4,5])] [] [] [11,27,28,50,68,69,74,83,104]) Tryz.func27
end
