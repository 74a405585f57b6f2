/- A part of one proof (SList, SPrim, SPrim2, SPrim3, SPrim4, SPrim5). -/
import Derived.Test.YtoegidfbnkaabaaGreatDoorPkIAF
import Derived.Deep.Cut
set_option linter.all false
set_option maxRecDepth 100000
set_option maxHeartbeats 8000000
open Option renaming some → O, none → V
open Go renaming Value → Y, World → Z
open Bool renaming true → A, false → G
open Go.Obj renaming cells → ae
open Go.Ending renaming returned → ah
open Go.Value renaming tuple → ak
open Option.some renaming injEq → a07
open Go.Lib renaming hid → a08
open And renaming intro → a09
open List renaming length_cons → a1i, length_nil → a1v
open Go.Value renaming slice → a1n, pointer → a1T
open Go.Obj renaming cells → a1K
open Nat renaming lt_trans → a4m
open Array renaming replicate_zero → a4I, replicate_succ → a4J
open Go.Fence renaming wide → a44
open Go.World renaming setCell_alloc_past → a5j
open Go.Proofs.Tryz renaming prog → bbd
open Go.Proofs.Tryz
namespace Go.Proofs.YtoegidfbnkaabaaGreatDoor
open P
open Go.RowKit
variable{B bx cap d f g k n pb tb:Nat}{R:Ending->Z->Prop}{T:List P.Tok}{W w0:Z}{bl:List Nat}{fn:Func}{v:Y}{iL:Array Y}{vars:List Bs}
def akF{P:Program}{f:FuncId}{c:Code}{args:Array Y}{w:Z}
  (a:P.funcs[f]?=O fn) (b:fn.body=O c)
  (h:c.wp P (bodyPostM a44 3 P fn R) { tmps:=args++Array.replicate (fn.ntmps-args.size) undef,defers:=[] } w):Calls P f args w R:=
 callsIn_wide.1 (callsIn_of_wp_marks (n:=3) a b trivial (wpIn_wide.2 h) J)
def aCo{P:Program}{tmps:Array Y}{w:Z}(hr:(results fn tmps).run P w = .ok v w)(a:R (ah v) w) :
 bodyPostM a44 3 P fn R .ret { tmps:=tmps,defers:=[] } w:=⟨v,hr,a⟩
def aCp{w:Z}(hp:SP w pb tb T k vars d)(hc:dQ T k [93]=A) :
  Calls bbd 142 #[pp pb] w (j8 eL pb tb T d w (.ok (.mk 97 [91,93] 0 0 []) (k+1) vars)):=by
 have dI:=a08 (hp.ext (w':=w.alloc (a1K #[.int .u8 97,aT [91,93],zi 0,zi 0,bX] 178)) (by grind [dX]));have HC:=a08 hc;have gn:=hp.d2.2.2;clear hp hc;refine akF func142 J ?_;simp only[ntmps142,List.size_toArray,a1i,a1v,Nat.reduceAdd,Nat.reduceSub,a4J,a4I,List.push_toArray,List.append_toArray,List.nil_append,List.cons_append]
 go_wp2_with fail
 refine(vu dI.out [93] HC.out).mono ?_;rintro e w3 ⟨rfl,gQ,ea⟩;have uC:=a08 gQ;have oA:=a08 ea;clear gQ ea
 go_wp2_with fail
 refine aCo (results_tmp J _ _ _) ⟨_,J,?_,uC.out,((bB.refl _ _).alloc _).trans oA.out⟩;have hz:=oA.out.size;rw[size_alloc] at hz;exact KD zg (by grind [dc.bK,blk_alloc_new,Hid.out])
abbrev KL:Obj:=ae #[.int .u8 97,.string (bs [91,93]),zi 0,zi 0,.slice V 0 0] 178
def LJ(pb tb:Nat)(T:List P.Tok)(d:Nat)(w0:Z)(c:cd (List Ex))(n:Nat)(a:Act)(w:Z):Prop:=
 ∃ (acc:List Ex) (k:Nat) (vs:List Bs) (xs:List Y) (sl e f g h i u8 j l m o p q r u16 s t u x y z B C D E F H I K L u32 M N Q R S U W:Y),a={ tmps:=#[pp pb,e,f,pp w0.heap.size,sl,g,h,i,u8,j,l,m,o,p,q,r,u16,s,t,u,x,y,z,B,C,D,E,F,H,I,K,L,u32,M,N,Q,R,S,U,W],defers:=[] } /\
  w.ownsRow w0.heap.size 106 1 sl acc.length xs/\eM (fun b=>Nu w0 w b/\sl.ownBlock≠O b) w xs acc/\SP w pb tb T k vs d/\dc pb w0 w/\0<acc.length/\acc.length<=k /\
  w.heap[w0.heap.size]?=O KL/\(if dQ T k [44] then oT T n (k+1) vs d acc else O (.ok acc k vs))=O c
noncomputable def akG:Code:=match Tryz.f142.body with
 | some (.seq _ (.seq _ (.seq _ (.seq _ (.seq _ (.seq _ (.seq _ c)))))))=>c
 | _=>.skip
noncomputable def aCr:Code:=match akG with | .seq c _=>c | _=>.skip
noncomputable def aCs:Code:=match akG with | .seq _ c=>c | _=>.skip
theorem ab9{B:Z}{row:Option Nat}(c:W.grownBy B row)(hr:∀ r,row=O r->∃ o:Obj,W.heap[r]?=O o/\o.isCells=G)(b:Nat)(cs:Array Y)(t:TypeId)(z:Nat×Nat)
  (h:W.heap[b]?=O (ae cs t z)):B.heap[b]?=O (ae cs t z):=by
 rw[c.block b (bh h) (fun e=>by
  obtain⟨o,a,d⟩:=hr b e.symm;rw[h] at a;cases a;cases d)]
 omega
theorem akH{w:Z}{o a:Obj}(b:a=o)(h:n=w.heap.size):(w.alloc o).heap[n]?=O a:=by grind [blk_alloc_new]
def LI(pb tb:Nat)(T:List P.Tok)(k:Nat)(vs:List Bs)(d X:Nat)(w0:Z)(bl:List Nat)(acc:List Ex)(x:Ex)(pre:List (Nat×Nat))(W:Z):Prop:=
 SP W pb tb T k vs d/\dc pb w0 W/\eM (fun b=>Nu w0 W b/\b≠X) W (bl.map (fun b=>a1T (O ⟨b,0,V⟩))) acc/\X<W.heap.size /\
 ∃ bv,W.heap[X]?=aN #[pp bv] 106 /\
  (pre=IH bl pre.length->pre.length<=acc.length->eL (fun b=>Nu w0 W b/\b≠X) W (pp bv) (vj (acc.drop (acc.length-pre.length)) x))
def LI.own{vs:List Bs}{X:Nat}{acc:List Ex}{x:Ex}(n:w0.heap.size<=B) :
  OwnFrom B (LI pb tb T k vs d X w0 bl acc x):=by
 rintro pre W f row ⟨g,p,h,q,bv,s,i⟩ c hr;have j:=ab9 c (fun r e=>(hr r e).2);have l:∀ (b:Nat) (o:Obj),DR o->W.heap[b]?=O o->f.heap[b]?=O o:=fun b o m u=>by
  obtain⟨cs,t,z,rfl⟩:=aB3 m;grind
 have w:=c.size;refine⟨g.aB2 j,(by grind [Nat.le_trans,bB.PR]),?_,zo,bv,zg,fun a b=>?_⟩
 .exact eM.mono zg zg _ _ h
 .exact eL.mono zg zg _ _ (i a b)
def aCt{acc:List Ex}{x:Ex}(b:n<acc.length) :
  vj (acc.drop (acc.length-(n+1))) x = .mk 99 [46] 0 0 [acc[acc.length-1-n],vj (acc.drop (acc.length-n)) x]:=by
 have e:acc.length-(n+1)=acc.length-1-n:=zo;have a:acc.length-n=acc.length-1-n+1:=zo;rw[e,a,List.drop_eq_getElem_cons zo];rfl
theorem LI.step{vs:List Bs}{X:Nat}{acc:List Ex}{x:Ex}{pre:List (Nat×Nat)}{y:Nat×Nat}(w:bl.length=acc.length)
  (z:w0.heap.size<=X) (B:pb<w0.heap.size) (h:LI pb tb T k vs d X w0 bl acc x pre W) (bv:Nat) (C:W.heap[X]?=aN #[pp bv] 106) :
  LI pb tb T k vs d X w0 bl acc x (pre++[y])
   (((W.alloc (ae #[pp y.2,pp bv] 106)).alloc (ae #[.int .u8 99,aT [46],zi 0,zi 0,cV W.heap.size 2 2] 178)).setCell ⟨X,0,V⟩ (pp (W.heap.size+1))):=by
 obtain⟨i,j,f,D,a,l,m⟩:=h;have:a=bv:=by
  grind
 subst this;generalize hr:(a1K #[pp y.2,pp a] 106)=row at *;generalize E:(a1K #[.int .u8 99,aT [46],zi 0,zi 0,cV W.heap.size 2 2] 178)=node at *;have n:((W.alloc row).alloc node).heap[X]?=_:=dX (dX l);have F:(((W.alloc row).alloc node).setCell ⟨X,0,V⟩ (pp (W.heap.size+1))).heap.size=W.heap.size+2:=by grind [size_setCell,size_alloc]
 have hk:∀ (b:Nat) (o:Obj),b≠X->((W.alloc row).alloc node).heap[b]?=O o->(((W.alloc row).alloc node).setCell ⟨X,0,V⟩ (pp (W.heap.size+1))).heap[b]?=O o:=(by grind [blk_setCell_other]);have p:∀ (b:Nat) (o:Obj),b≠X->W.heap[b]?=O o->(((W.alloc row).alloc node).setCell ⟨X,0,V⟩ (pp (W.heap.size+1))).heap[b]?=O o:=(by grind [dX]);have hlt:=i.lt;refine⟨(by grind [dX,SP.setOther,SP.ext]),(by grind [bB.MY,bB.alloc]),?_,zo,W.heap.size+1,by rw[Bk n];rfl,fun c q=>?_⟩
 .exact eM.mono zg zg _ _ f
 .simp only[List.length_append,a1i,a1v,Nat.zero_add] at c q ⊢;rw[aku] at c;obtain⟨r,H⟩:=List.append_inj' c J;have I:y=(bl.length-1-pre.length,bl.getD (bl.length-1-pre.length) 0):=zg;rw[aCt zo];have hx:=m r zo;have s:acc.length-1-pre.length<acc.length:=zo;have g:=f.get (acc.length-1-pre.length) s;have t:y.2=bl.getD (acc.length-1-pre.length) 0:=zg;rw[<- t] at g;have u:w0.heap.size<=W.heap.size:=j.size;have e:W.heap.size≠X:=zo;refine abX zg (by grind [akH,size_alloc]) (abY zg (hk _ _ e (dX (akH hr J))) ?_ ?_)
  .exact eL.mono zg zg _ _ g
  .exact eL.mono zg zg _ _ hx
def akJ{vs:List Bs}{nb X:Nat}{w:Z}{acc:List Ex}{x:Ex}{r:cd Ex}(u1 u2 u6 u7 u8 u9 y5 y6 y7 xg xh y8 u16 y9 za Cp Cq Cr Cs Ct Cu Cv Cw Cx DY DZ D0 II u32 IJ Bw Fk GQ GR Nw Ny:Y)
  (hp:SP w pb tb T k vs d) (hf:dc pb w0 w) (gn:pb<w0.heap.size) (SS:w0.heap.size<=X) (WY:g≠X) (hL:acc.length<=3000) (pK:bl.length=acc.length) (x7:pb<g)
  (hXb:w.heap[X]?=aN #[pp bx] 106) (hx:eL (fun b=>Nu w0 w b/\b≠X) w (pp bx) x)
  (hg:w.heap[g]?=aN iL 106) (Bz:∀ j,j<bl.length->iL[j]?=O (pp (bl.getD j 0)))
  (lJ:eM (fun b=>Nu w0 w b/\b≠X) w (bl.map (fun b=>a1T (O ⟨b,0,V⟩))) acc)
  (hr:mj T [93] (vj acc x) k vs=O r)
  (K:Act->Z->Prop) (hK:∀ a w,aCs.wp bbd (bodyPostM a44 3 bbd Tryz.f142 (j8 eL pb tb T d w0 r)) a w->K a w) :
  aCr.wp bbd (Exit.then K (bodyPostM a44 3 bbd Tryz.f142 (j8 eL pb tb T d w0 r))) { tmps:=#[pp pb,u1,u2,pp nb,cV g acc.length cap,pp X,u6,u7,u8,u9,y5,y6,y7,xg,xh,y8,u16,y9,za,Cp,Cq,Cr,Cs,Ct,Cu,Cv,Cw,Cx,DY,DZ,D0,II,u32,IJ,Bw,Fk,GQ,GR,Nw,Ny],defers:=[] } w:=by
 change ∀ a w,Code.wp _ (Code.seq _ _) _ a w->_ at hK;have H:=a08 hp;have HF:=a08 hf;have HX:=a08 hXb;have HE:=a08 hx;have HG:=a08 hg;have HC:=a08 Bz;have HXS:=a08 lJ;have HR:=a08 hr;have KM:=a08 pK;have Ns:=hf.size;have WZ:=bh hXb;clear hp hf hXb hx hg Bz lJ hr pK;change Code.wp _ (Code.region _ _ _) _ _ _
 go_wp2_with fail
 have hq:=HR.out;rw[mj] at hq;by_cases hc:dQ T k [93]=A
 .rw[zip hc,a07] at hq;subst hq;refine(SI H.out [93] hc).mono ?_;rintro e w1 ⟨rfl,dI,gw⟩;have kK:=a08 dI;have iD:=a08 gw;clear dI gw hc HR
  go_wp2_with fail
  refine(backward _ _ _ _).mono ?_;rintro e w2 ⟨rfl,rfl⟩;have p8:=iD.out.size;have Nq:w1.heap[X]?=_:=dc.bK iD.out HX.out zo zd;have ze:w1.heap[g]?=_:=dc.bK iD.out HG.out zo zd;have hI0:LI pb tb T (k+1) vs d X w0 bl acc x [] (w1.alloc (ae #[cV g acc.length cap] 83)):=by
   refine⟨kK.out.ext (by grind [dX]),(HF.out.trans iD.out).alloc _,?_,by grind [size_alloc],bx,dX Nq,fun _ _=>?_⟩
   .exact eM.mono (by grind [size_alloc]) (by grind [dX,dc.lG,Hid.out]) _ _ HXS.out
   .simp only[a1v,Nat.sub_zero,List.drop_length];exact eL.mono (by grind [size_alloc]) (by grind [dX,dc.lG,Hid.out]) _ _ HE.out
  have hB:(w1.alloc (ae #[cV g acc.length cap] 83)).heap[w1.heap.size]?=_:=blk_alloc_new _ _;have hgB:(w1.alloc (ae #[cV g acc.length cap] 83)).heap[g]?=_:=dX ze;have acb:w0.heap.size<=(w1.alloc (ae #[cV g acc.length cap] 83)).heap.size:=zg;have HI:=a08 hI0;have HB:=a08 hB;have HGB:=a08 hgB;have HS2:=a08 acb;clear hI0 hB hgB acb Nq ze
  go_wp2_with fail
  have Nq:X<w1.heap.size:=zo;refine(wpIn_wide (n:=3)).1 (wpIn_rangeFunc_ownF (F:=a44) (n:=3) J zo (gf:=175) (lb:=#[pp w1.heap.size]) J trivial (enters_of func175 zk J)
   (aB9 a44 2 trivial J zo w1.heap.size g cap X bl zo WY (by rw[KM.out];omega) _ (by rw[KM.out];exact HB.out) iL HGB.out HC.out) (by grind [KE.trans])
   (fun W l o o' _ hl ho _ b cs t z _ hb=>(by grind [ab9,grownBy_putObj'])) (Below.refl _ _) zg
   (LI pb tb T (k+1) vs d X w0 bl acc x) (fun _ _ _=>False) (LI.own HS2.out) (fun c s W W' row h=>h.elim) HI.out
   (fun y=>{ tmps:=#[pp pb,u1,u2,pp nb,cV g acc.length cap,pp X,u6,pp y.2,u8,u9,y5,y6,y7,xg,xh,y8,u16,y9,za,Cp,Cq,Cr,Cs,Ct,Cu,Cv,Cw,Cx,pp pb,ak #[],cV g acc.length cap,.func (.func 175) #[] #[pp w1.heap.size],zi (y.1:Int),pp y.2,Bw,Fk,GQ,GR,Nw,Ny],defers:=[] }) ?assign ?body ?done ?stop)
  case assign=>
   intro l y W K hK
   gi_wp2_with (rw[Oper.semAt_eq _ _ _ (fun c h=>by cases h)];go_simp;try go_bits)
   omega
  case body=>
   intro l pre y W hI hlen;obtain⟨bv,mW,-⟩:=hI.2.2.2.2;have qd:W.cell? ⟨X,0,V⟩=O (pp bv):=cellOf mW J;have GX:=jX mW 0;have hXW:=hI.2.2.2.1;have Fp:=LI.step (y:=y) KM.out SS gn hI bv mW;rw[a5j _ _ _ _ (by rw[size_alloc];omega),a5j _ _ _ _ hXW] at Fp;have HST:=a08 Fp;clear hI Fp mW
   gi_wp2_with (rw[Oper.semAt_eq _ _ _ (fun c h=>by cases h)];go_simp;try go_bits)
   exact⟨(by grind [KeepsOthers.setCell,trans,KeepsOthers.alloc,KeepsOthers.trans]),fun b cs t z hb hc=>(by grind [dX,blk_setCell_other]),HST.out⟩
  case done=>
   rintro D ys W hD rfl hI hK;have W0:=LI.own HS2.out _ W (W.putObj D (.deferred V)) (O D) hI (grownBy_putObj' W D _) (fun r e=>by cases e;exact⟨hD,_,hK,J⟩);obtain⟨bv,mW,-⟩:=hI.2.2.2.2;have qd:W.cell? ⟨X,0,V⟩=O (pp bv):=cellOf mW J;have hXW:=hI.2.2.2.1;have HBV:=a08 mW;have HII:=a08 W0;have HK:=a08 hK;clear hI W0 mW hK
   go_wp2_with fail
   refine⟨zs,.inl ⟨_,_,J,run_takeDeferred HK.out,?_⟩⟩;refine⟨_,results_tmp J _ _ _,?_⟩;obtain⟨g1,g2,g3,g4,bv2,g5,g6⟩:=HII.out;have e5:=ab9 (grownBy_putObj' W D (.deferred V)) (fun r e=>by cases e;exact⟨_,HK.out,J⟩) _ _ _ _ HBV.out;have:bv2=bv:=by
    grind
   subst this;have e6:=g6 (by rw[WO]) (by rw[WO,KM.out];omega);rw[WO,KM.out,Nat.sub_self,List.drop_zero] at e6;exact⟨_,J,eL.mono zg zg _ _ e6,g1,g2⟩
  grind
 .rw[bI hc,a07] at hq;subst hq;refine(SJ H.out [93] zg zd).mono ?_;rintro e w1 ⟨⟨b,rfl,eP,gH⟩,ea,gT⟩;exact⟨⟨b,J,eP,zo⟩,HF.out.trans ea,gT⟩
def aCA(D2:∀ m,m<f+1->IG m){r:cd Ex}(pH:SP w0 pb tb T k vars d)(hd:d<=8)
  (h:oq T (f+1) k vars d=O r):Calls bbd 142 #[pp pb] w0 (j8 eL pb tb T d w0 r):=by
 rw[oq] at h;by_cases qd:dQ T k [93]=A
 .rw[zip qd,a07] at h;subst h;exact aCp pH qd
 rw[bI qd] at h;cases AE:oT T f k vars d [] with
 | none=>rw[AE] at h;simp [cd.bind] at h
 | some re=>
 rw[AE] at h;cases f with
 | zero=>simp [oT] at AE
 | succ f=>
 rw[oT] at AE;have dI:=a08 (pH.ext (w':=w0.alloc KL) (by grind [dX]));have HR:=a08 h;have Nz:=a08 AE;have xY:=pH.d2.2.2;have hT:=pH.tw.len;obtain⟨i0,hi,KH,KI,KJ⟩:=info_parts aks;have iD:Hid (dc pb w0 (w0.alloc KL)):=a08 ((bB.refl _ _).alloc _);clear pH h AE;refine akF func142 J ?_;simp only[ntmps142,List.size_toArray,a1i,a1v,Nat.reduceAdd,Nat.reduceSub,a4J,a4I,List.push_toArray,List.append_toArray,List.nil_append,List.cons_append]
 go_wp2_with fail
 refine(qM dI.out [93] zg zd).mono ?_;rintro e w3 ⟨rfl,rfl⟩;clear qd
 go_wp2_with fail
 cases hq:gW T f 0 k vars d with
 | none=>have e:=Nz.out;rw[hq] at e;simp [cd.bind] at e
 | some q=>
 have e:=Nz.out;rw[hq] at e;refine((D2 f zo).go dI.out hd hq).mono ?_;cases q with
 | err c0 a0=>
  rintro e2 w4 ⟨⟨b,rfl,eP,gH⟩,ea,gT⟩;simp only[cd.bind,a07] at e;subst e;have hr:=HR.out;simp only[cd.bind,a07] at hr;subst hr;exact⟨⟨b,J,eP,by grind [size_alloc]⟩,iD.out.trans ea,gT⟩
 | ok x k' qO=>
 rintro e2 w1 ⟨v,rfl,hv,eY,eZ⟩;simp only[cd.bind] at e;obtain⟨bx,rfl,jL⟩:=hv.shape;have nT:=(P.mono T f).oper _ _ _ _ _ _ _ hq;have p8:=eZ.size;rw[size_alloc] at p8;have DL:=dc.bK eZ (blk_alloc_new w0 KL) zo zg;have eS:(w1.alloc (ae #[pp bx] 106)).ownsRow w0.heap.size 106 1 (cV w1.heap.size 1 1) 1 [pp bx]:=
  ⟨J,.inr ⟨w1.heap.size,1,_,J,zo,blk_alloc_new _ _,Nat.le_refl _,zd,J,J⟩⟩
 have jl:eM (fun b=>Nu w0 (w1.alloc (ae #[pp bx] 106)) b/\(a1n (O ⟨w1.heap.size,0,V⟩) 1 1).ownBlock≠O b) (w1.alloc (ae #[pp bx] 106)) [pp bx] [x]:=by
  have:=eM.snoc (l:=[]) (vs:=[]) (F:=fun b=>Nu w0 (w1.alloc (ae #[pp bx] 106)) b/\(a1n (O ⟨w1.heap.size,0,V⟩) 1 1).ownBlock≠O b) (w:=w1.alloc (ae #[pp bx] 106)) (v:=pp bx) (x:=x)
   (eL.mono (fun b hb=>⟨(by grind [size_alloc]),fun e=>by injection e with e;grind⟩) (by grind [dX]) _ _ hv) (by unfold eM;rfl)
  grind
 have SU:=a08 eS;have mv:=a08 jl;have jb:=a08 (eY.ext (w':=w1.alloc (ae #[pp bx] 106)) fun b o h=>dX h);have fR:Hid (dc pb w0 (w1.alloc (ae #[pp bx] 106))):=a08 ((iD.out.trans eZ).alloc _);have HN1:Hid ((w1.alloc (ae #[pp bx] 106)).heap[w0.heap.size]?=O KL):=a08 (dX DL);have HE:=a08 e;have HK:=a08 nT;clear hv eY eZ eS jl e hq jL DL Nz nT iD dI
 go_wp2_with fail
 refine wp_loop_ghost (fun n a w=>n<=f/\LJ pb tb T d w0 re n a w) ⟨f,Nat.le_refl _,[x],k',qO,_,_,_,_,_,_,_,_,_,_,_,_,_,_,_,_,_,_,_,_,_,_,_,_,_,_,_,_,_,_,_,_,_,_,_,_,_,_,_,J,SU.out,mv.out,jb.out,fR.out,Nat.zero_lt_one,by have:=HK.out;simp;omega,HN1.out,by simpa using HE.out⟩ ?_;clear SU mv jb fR HK HN1 HE p8;rintro n a w ⟨hnf,acc,k2,vs,xs,sl,u1,u2,u5,u6,u7,u8,u9,y5,y6,y7,xg,xh,y8,u16,y9,za,Cp,Cq,Cr,Cs,Ct,Cu,Cv,Cw,Cx,DY,DZ,D0,II,u32,IJ,Bw,Fk,GQ,GR,Nw,Ny,rfl,dY,lJ,hp,hf,h0a,WX,DL,hr⟩;have GS:=hp.kt;have hz:=hf.size;have Cy:=hp.d2.2.2;obtain⟨g',rU,rfl⟩:∃ g cap,sl = cV g acc.length cap:=by
  obtain⟨g1,g2 | ⟨g,cp,cur,e1,e2,e3,e4⟩⟩:=dY<;>grind
 have HO:=a08 dY;have HX:=a08 lJ;have HP:=a08 hp;have HF:=a08 hf;have HN:=a08 DL;by_cases hc:dQ T k2 [44]=A
 .rw[zip hc] at hr;cases n with
  | zero=>grind [oT]
  | succ n=>
  rw[oT] at hr;have AD:=a08 hr;clear dY lJ hp hf DL hr
  go_wp2_with fail
  refine(vu HP.out [44] hc).mono ?_;rintro e w2 ⟨rfl,eY,eZ⟩;have jb:=a08 eY;have fR:=a08 eZ;clear eY eZ hc
  go_wp2_with fail
  cases hq:gW T n 0 (k2+1) vs d with
  | none=>have e:=AD.out;rw[hq] at e;simp [cd.bind] at e
  | some q=>
  have e:=AD.out;rw[hq] at e;refine((D2 n zo).go jb.out hd hq).mono ?_;cases q with
  | err c0 a0=>
   rintro e2 w4 ⟨⟨b,rfl,eP,gH⟩,ea,gT⟩;simp only[cd.bind,a07] at e;subst e;have hr:=HR.out;simp only[cd.bind,a07] at hr;subst hr;have:=fR.out.size;exact⟨⟨b,J,eP,zo⟩,(HF.out.trans fR.out).trans ea,gT⟩
  | ok x k' qO=>
  rintro e2 w3 ⟨v,rfl,hv,gQ,ea⟩;simp only[cd.bind] at e;obtain⟨bx,rfl,jL⟩:=hv.shape;have nT:=(P.mono T n).oper _ _ _ _ _ _ _ hq;have pL:=fR.out.size;have Fo:=ea.size;have ke:=gQ.kt;have acd:=jb.out.d2.2.2;have th:=gQ.d2.2.2;have xZ:w3.ownsRow w0.heap.size 106 1 (cV g' acc.length rU) acc.length xs:=by
   obtain⟨g1,g2 | ⟨g,cp,cur,e1,e2,e3,e4⟩⟩:=HO.out
   .omega
   .exact⟨g1,.inr ⟨g,cp,cur,e1,e2,dc.lG ea ⟨zg,J⟩ (dc.lG fR.out ⟨zg,J⟩ e3 zo) zo,e4⟩⟩
  have KK:eM (fun b=>Nu w0 w3 b/\(a1n (O ⟨g',0,V⟩) acc.length rU).ownBlock≠O b) w3 xs acc:=
   eM.mono zg (by grind [dc.lG,Hid.out]) _ _ HX.out
  have hn3:w3.heap[w0.heap.size]?=O KL:=(by grind [dc.bK,Hid.out]);have vz:=a08 xZ;have mv:=a08 KK;have HV:=a08 hv;have kK:=a08 gQ;have iD:=a08 ((HF.out.trans fR.out).trans ea);have HE:=a08 e;have AB:=a08 jL;have HK:=a08 nT;have HN3:=a08 hn3;have D3:w0.heap.size<=g':=(HO.out.lt g' J).1;have BA:g'<w.heap.size:=(HO.out.lt g' J).2;have aCD:g'≠w0.heap.size:=fun e=>by
   obtain⟨g1,g2 | ⟨g,cp,cur,e1,e2,e3,e4⟩⟩:=HO.out
   .omega
   .injection e1 with e1 _ _;injection e1 with e1;injection e1 with e1 _ _;rw[<- e1,e] at e3;rw[HN.out] at e3;injection e3 with e3;injection e3 with _ e3 _;exact absurd e3 zd
  clear hv gQ ea xZ KK e hq jL hn3 nT
  go_wp2_with (at_builtin;go_must (refine Sd J _ _ 83 J w0.heap.size 106 i0 _ 1 8 underlying83 hi KH KI KJ J zo _ _ _ J (vz.out.alloc _) ⟨w3.heap.size,0,V⟩ 1 1 [pp bx] J J (Pw J) (by simp [Value.oneCell']) (by grind [maxLen]) zo (by simp;omega) ?_;intro v' w4 tg zc By;obtain⟨g2,GY,rfl⟩:=MZ tg;have GU:=a08 tg;have uB:=a08 zc;have SQ:=a08 By;clear tg zc By))
  have im:SP w4 pb tb T k' qO d:=(kK.out.ext fun b o h=>dX (o:=a1K #[a1T (O ⟨bx,0,V⟩)] 106) h).PQ (vz.out.alloc _) zg zo uB.out;have eF:dc pb w0 w4:=(iD.out.alloc _).PR uB.out fun k hk=>(vz.out.lt k hk).1;have PW:=uB.out.size;rw[size_alloc] at PW;have PV:∀ (b:Nat) (o:Obj),w3.heap[b]?=O o->(a1n (O ⟨g',0,V⟩) acc.length rU).ownBlock≠O b->w4.heap[b]?=O o:=fun b o h ed=>by
   have h':=dX (o:=a1K #[a1T (O ⟨bx,0,V⟩)] 106) h;rw[uB.out.block b (bh h') (fun e=>ed e.symm)];omega
  have pJ:∀ b,b<w3.heap.size->(a1n (O ⟨g',0,V⟩) acc.length rU).ownBlock≠O b->(a1n (O ⟨g2,0,V⟩) (acc.length+1) GY).ownBlock≠O b:=fun b hb ed=>by
   rcases SQ.out with h | h
   .rw[h];exact ed
   grind [size_alloc]
  have hbn:∀ b,Nu w2 w3 b->(a1n (O ⟨g',0,V⟩) acc.length rU).ownBlock≠O b:=fun b hb e=>by
   have:=(HO.out.lt b e).2;omega
  have ace:eM (fun b=>Nu w0 w4 b/\(a1n (O ⟨g2,0,V⟩) (acc.length+1) GY).ownBlock≠O b) w4 (xs++[pp bx]) (acc++[x]):=
   eM.snoc (eL.mono zg zg _ _ HV.out)
    (eM.mono zg zg _ _ mv.out)
  have hn4:w4.heap[w0.heap.size]?=O KL:=PV _ _ HN3.out (fun e=>aCD (by injection e));have nT:=HK.out;exact⟨n,Nat.lt_succ_self n,zo,acc++[x],k',qO,_,_,_,_,_,_,_,_,_,_,_,_,_,_,_,_,_,_,_,_,_,_,_,_,_,_,_,_,_,_,_,_,_,_,_,_,_,_,_,J,by rw[List.length_append];exact GU.out,ace,im,eF,zs,zg,hn4,HE.out⟩
 .rw[bI hc,a07] at hr;subst hr;clear dY lJ hp hf DL
  go_wp2_with fail
  refine(qM HP.out [44] zg zd).mono ?_;rintro e w2 ⟨rfl,rfl⟩;clear hc;have SS:w0.heap.size<=w.heap.size:=hz;have hNX:=bh HN.out;have BA:=(HO.out.lt g' J);obtain⟨bl,uD,pK⟩:=HX.out.blocks;subst uD;have Bz:∃ cur:Array Y,w.heap[g']?=aN cur 106/\∀ j,j<bl.length->cur[j]?=O (pp (bl.getD j 0)):=by
   obtain⟨g1,g2 | ⟨g,cp,cur,e1,e2,e3,e4,e5,e6,e7⟩⟩:=HO.out
   .omega
   .cases e1;refine⟨cur,e3,fun j hj=>?_⟩;have h1:(cur.toList.take (acc.length*1))[j]?=(bl.map (fun b=>a1T (O ⟨b,0,V⟩)))[j]?:=zg;grind
  obtain⟨cur,gN,Bz⟩:=Bz;have hbX:(w.alloc (ae #[pp w0.heap.size] 106)).heap[w.heap.size]?=aN #[pp w0.heap.size] 106:=blk_alloc_new _ _;have akT:eM (fun b=>Nu w0 (w.alloc (ae #[pp w0.heap.size] 106)) b/\b≠w.heap.size) (w.alloc (ae #[pp w0.heap.size] 106)) (bl.map (fun b=>a1T (O ⟨b,0,V⟩))) acc:=
   eM.mono zg (by grind [dX]) _ _ HX.out
  have WY:(w.alloc (ae #[pp w0.heap.size] 106)).heap[g']?=aN cur 106:=dX gN;have HPX:=a08 (HP.out.ext (w':=w.alloc (ae #[pp w0.heap.size] 106)) fun b o h=>dX h);have hFX:dc pb w0 (w.alloc (ae #[pp w0.heap.size] 106)):=HF.out.alloc _;have hnX:(w.alloc (ae #[pp w0.heap.size] 106)).heap[w0.heap.size]?=O KL:=dX HN.out;have hsX:(w.alloc (ae #[pp w0.heap.size] 106)).heap.size=w.heap.size+1:=size_alloc _ _;have HFX:=a08 hFX;have HNX:=a08 hnX;have AB:=a08 hbX;have HGX:=a08 WY;have HCU:=a08 Bz;have HXX:=a08 akT;have KM:=a08 pK;have HSX:=a08 hsX;have hr:=HR.out;simp only[cd.bind] at hr;have ze:=BA.1;have jZ:=BA.2;clear hFX hnX hbX WY Bz akT pK gN BA HO HX HF HN HP hsX HR;by_cases hb:dQ T k2 [124]=A
  .rw[zip hb] at hr;have AD:=a08 hr;clear hr
   go_wp2_with fail
   refine(vu HPX.out [124] hb).mono ?_;rintro e w3 ⟨rfl,gQ,ea⟩;have uC:=a08 gQ;have oA:=a08 ea;have Fo:=ea.size;rw[HSX.out] at Fo;clear gQ ea hb;have hXw:w.heap.size<w3.heap.size:=zo
   go_wp2_with fail
   cases hq:gW T (f+1) 0 (k2+1) vs d with
   | none=>have e:=AD.out;rw[hq] at e;simp [cd.bind] at e
   | some q=>
   have e:=AD.out;rw[hq] at e;refine((D2 (f+1) zo).go uC.out hd hq).mono ?_;cases q with
   | err c0 a0=>
    rintro e2 w4 ⟨⟨b,rfl,eP,gH⟩,eF,vA⟩;simp only[cd.bind,a07] at e;subst e;exact⟨⟨b,J,eP,zo⟩,(HFX.out.trans oA.out).trans eF,vA⟩
   | ok x k' qO=>
   rintro e2 w4 ⟨v,rfl,hv,im,eF⟩;simp only[cd.bind] at e;obtain⟨bx,rfl,jL⟩:=hv.shape;have zb:=eF.size;have aVc:=im.lt;have hX3:=dc.bK oA.out AB.out zo zd;have IL:w4.heap[w.heap.size]?=_:=dc.bK eF hX3 zo zd;have PW:=dc.bK eF (dc.bK oA.out HGX.out zo zd) zo zd;have hc4:w4.cell? ⟨w.heap.size,0,V⟩=O (pp w0.heap.size):=cellOf IL J;have GX:=jX IL 0;have aVe:w.heap.size<w4.heap.size:=zo;have x8:(w4.setCell ⟨w.heap.size,0,V⟩ (pp bx)).heap.size=w4.heap.size:=size_setCell _ _ _;have IM:(w4.setCell ⟨w.heap.size,0,V⟩ (pp bx)).heap[w.heap.size]?=aN #[pp bx] 106:=by rw[Bk IL];rfl
   have ry:∀ (b:Nat) (o:Obj),b≠w.heap.size->w4.heap[b]?=O o->(w4.setCell ⟨w.heap.size,0,V⟩ (pp bx)).heap[b]?=O o:=(by grind [blk_setCell_other]);have oB:=im.setOther (o:=0) IL zd zo zo (pp bx);have jc:dc pb w0 (w4.setCell ⟨w.heap.size,0,V⟩ (pp bx)):=((HFX.out.trans oA.out).trans eF).MY SS _;have ti:eL (fun b=>Nu w0 (w4.setCell ⟨w.heap.size,0,V⟩ (pp bx)) b/\b≠w.heap.size) (w4.setCell ⟨w.heap.size,0,V⟩ (pp bx)) (pp bx) x:=
    eL.mono zg zg _ _ hv
   have ak2:eM (fun b=>Nu w0 (w4.setCell ⟨w.heap.size,0,V⟩ (pp bx)) b/\b≠w.heap.size) (w4.setCell ⟨w.heap.size,0,V⟩ (pp bx)) (bl.map (fun b=>a1T (O ⟨b,0,V⟩))) acc:=
    eM.mono (by grind [Hid.out]) (by grind [dc.lG,Hid.out]) _ _ HXX.out
   have zf:=ry g' _ zo PW;have aCF:=a08 (a09 oB (a09 jc (a09 IM (a09 ti (a09 zf (a09 ak2 e))))));clear oB jc IM ti zf ak2 e hv im eF hX3 IL PW ry x8 hq jL
   go_upto_region 10 with(fail)
   obtain⟨t1,t2,t3,t4,t5,t6,t7⟩:=aCF.out;exact akJ _ _ _ _ _ _ _ _ _ _ _ _ _ _ _ _ _ _ _ _ _ _ _ _ _ _ _ _ _ _ _ _ _ _ _ _ t1 t2 xY SS zo zo KM.out zo t3 t4 t5 HCU.out t6 t7 _ (by assumption)
  .rw[bI hb] at hr;have AD:=a08 hr;clear hr
   go_wp2_with fail
   refine(qM HPX.out [124] zg zd).mono ?_;rintro e w3 ⟨rfl,rfl⟩;clear hb
   go_upto_region 10 with(fail)
   have NA:eL (fun b=>Nu w0 (w.alloc (ae #[pp w0.heap.size] 106)) b/\b≠w.heap.size) (w.alloc (ae #[pp w0.heap.size] 106)) (pp w0.heap.size) (.mk 97 [91,93] 0 0 []):=
    KD ⟨⟨Nat.le_refl _,by rw[HSX.out];omega⟩,zo⟩ HNX.out
   exact akJ _ _ _ _ _ _ _ _ _ _ _ _ _ _ _ _ _ _ _ _ _ _ _ _ _ _ _ _ _ _ _ _ _ _ _ _ HPX.out HFX.out xY SS zo zo KM.out zo AB.out NA HGX.out HCU.out HXX.out AD.out _ (by assumption)
def ak3:SM 0:=⟨fun _ _ h=>by simp [oq] at h⟩
def aCG(a:∀ m,m<f->IG m):SM f:=by
 cases f with
 | zero=>exact ak3
 | succ f=>exact⟨fun b c h=>aCA a b c h⟩
def aCH{w:Z}(hp:SP w pb tb T k vars d)(hd:8<d+1)(xW:d<=8) :
  Calls bbd 117 #[pp pb] w (j8 eL pb tb T d w (.err 4 (tk T k).pos)):=by
 have H:=a08 hp;clear hp
 go_enter_defers func117,ntmps117
 go_wp2_with fail
 refine(WJ H.out hd zo).mono ?_;rintro e w1 ⟨⟨b,rfl,hb⟩,hf,hs⟩;exact⟨⟨b,J,hb⟩,hf,hs⟩
def aCI(hint:WL){w:Z}(hp:SP w pb tb T k vars d)(hd:d+1<=8)
  (hk:(tk T k).kind=3) :
  Calls bbd 117 #[pp pb] w (j8 eL pb tb T d w (.ok (.mk 110 [] (P.num (tk T k).text) 0 []) (k+1) vars)):=by
 have H:=a08 hp;have HK:=a08 hk;clear hp hk
 go_enter_defers func117,ntmps117
 go_wp2_with fail
 refine(Ax H.out hd).mono ?_;rintro e w1 ⟨rfl,eg,jl,dI,gw⟩;have mv:=a08 jl;have iD:=a08 gw;have kK:=a08 dI;have nU:=a08 eg;obtain⟨n,c,h0,f0,hb,l1,l2,l3,l4,eY,eZ⟩:=dI.on (by have:=HK.out;omega);obtain⟨t0,t1,t2⟩:=dI.toks.at dI.kt;have xX:tb<w1.heap.size:=by have:=dI.lt;omega
 have ed:¬ tb=pb:=by have:=dI.lt;omega
 have Nk:¬ pb=tb:=zo;have jb:=a08 eY;have fR:=a08 eZ;rw[HK.out] at t0;clear dI gw jl eg eY eZ
 go_wp2_with fail
 have xS:=H.out.tw.digits _ (Ky H.out.kt) HK.out;refine(hint.go _ xS.1 xS.2.1 xS.2.2).mono ?_;rintro e w3 ⟨rfl,SV⟩;have NB:=a08 SV;clear xS SV
 go_wp2_with fail
 have eg:=nU.out;have gn:pb<w.heap.size:=H.out.d2.2.2;have jL:=fR.out.bK mv.out zo zd;have hz:=NB.out.size;rw[size_alloc,size_setCell] at hz;refine yY (j:=2) KB J gn (by grind [dX,SP.ext,Hid.out,bB.ext]) zo (by grind [dX,bB.ext,Hid.out]) ?_
  ((((iD.out.trans fR.out).alloc _).trans NB.out.toM).alloc _)
 exact KD (by grind [size_alloc]) (blk_alloc_new _ _)
def aCJ(SW:abW){w:Z}(hp:SP w pb tb T k vars d)(hd:d+1<=8)
  (hk:(tk T k).kind=2) :
  Calls bbd 117 #[pp pb] w (j8 eL pb tb T d w (wN (tk T k) (k+1) vars)):=by
 have H:=a08 hp;have HK:=a08 hk;clear hp hk
 go_enter_defers func117,ntmps117
 go_wp2_with fail
 refine(Ax H.out hd).mono ?_;rintro e w1 ⟨rfl,eg,jl,dI,gw⟩;have mv:=a08 jl;have iD:=a08 gw;have kK:=a08 dI;have nU:=a08 eg;obtain⟨n,c,h0,f0,hb,l1,l2,l3,l4,eY,eZ⟩:=dI.on (by have:=HK.out;omega);obtain⟨t0,t1,t2⟩:=dI.toks.at dI.kt;have xX:tb<w1.heap.size:=by have:=dI.lt;omega
 have ed:¬ tb=pb:=by have:=dI.lt;omega
 have Nk:¬ pb=tb:=zo;have jb:=a08 eY;have fR:=a08 eZ;rw[HK.out] at t0;clear dI gw jl eg eY eZ
 go_wp2_with fail
 have lR:=SW.go (tk T k) (jb.out.ext fun b o (h:_=O o)=>dX (o:=ae #[zi 2,aT ((tk T k).text),zi (tk T k).pos] 142) h)
  (H.out.tw.vars _ (Ky H.out.kt) HK.out)
 rw[HK.out] at lR;refine lR.mono ?_;have eg:=nU.out;have gn:pb<w.heap.size:=H.out.d2.2.2;have jL:=fR.out.bK mv.out zo zd;have ak4:∀ o,((GO w1 pb tb k n c).alloc o).heap[w.heap.size]?=_:=fun o=>dX (o:=o) jL;have tN:=fun o=>(iD.out.trans fR.out).alloc o;have jh:∀ o,((GO w1 pb tb k n c).alloc o).heap.size=w.heap.size+2:=(by grind [size_alloc,size_setCell]);have HB:=a08 ak4;have HR:=a08 tN;have HZ:=a08 jh;clear lR jL ak4 tN jh;cases hr:wN (tk T k) (k+1) vars with
 | ok x k' vs=>
  rintro e w3 ⟨v,rfl,hv,gQ,ea⟩;have HV:=a08 hv;have uC:=a08 gQ;have oA:=a08 ea;have AD:=a08 hr;clear hv gQ ea hr
  go_wp2_with fail
  have hz:=HZ.out (ae #[zi 2,aT ((tk T k).text),zi (tk T k).pos] 142);have Fo:=oA.out.size;rw[AD.out];refine yY (j:=2) KB J gn uC.out zo (by grind [dc.bK,Hid.out]) ?_ ((HR.out _).trans oA.out);exact eL.mono zg zg _ _ HV.out
 | err c0 a0=>
  rintro e w3 ⟨⟨b,rfl,eP,gH⟩,ea,gT⟩;have hz:=HZ.out (ae #[zi 2,aT ((tk T k).text),zi (tk T k).pos] 142);exact tR gn gT (by grind [dc.bK,Hid.out]) ⟨b,J,eP,zo⟩ ((HR.out _).trans ea)
def aCK{w:Z}(hp:SP w pb tb T k vars d)(hd:d+1<=8)
  (hk:(tk T k).kind=1) (ho:dQ T (k+1) [40]=G) :
  Calls bbd 117 #[pp pb] w (j8 eL pb tb T d w (.ok (.mk 97 (tk T k).text 0 0 []) (k+1) vars)):=by
 have HO:=a08 ho;clear ho;have H:=a08 hp;have HK:=a08 hk;clear hp hk
 go_enter_defers func117,ntmps117
 go_wp2_with fail
 refine(Ax H.out hd).mono ?_;rintro e w1 ⟨rfl,eg,jl,dI,gw⟩;have mv:=a08 jl;have iD:=a08 gw;have kK:=a08 dI;have nU:=a08 eg;obtain⟨n,c,h0,f0,hb,l1,l2,l3,l4,eY,eZ⟩:=dI.on (by have:=HK.out;omega);obtain⟨t0,t1,t2⟩:=dI.toks.at dI.kt;have xX:tb<w1.heap.size:=by have:=dI.lt;omega
 have ed:¬ tb=pb:=by have:=dI.lt;omega
 have Nk:¬ pb=tb:=zo;have jb:=a08 eY;have fR:=a08 eZ;rw[HK.out] at t0;clear dI gw jl eg eY eZ
 go_wp2_with fail
 refine(qM (jb.out.ext fun b o h=>dX (dX h)) [40] HO.out zd).mono ?_;rintro e w3 ⟨rfl,rfl⟩
 go_wp2_with fail
 have eg:=nU.out;have gn:pb<w.heap.size:=H.out.d2.2.2;have jL:=fR.out.bK mv.out zo zd;refine yY (j:=2) KB J gn (by grind [dX,SP.ext,Hid.out]) zo (by grind [dX]) ?_
  (by grind [bB.alloc,bB.trans,Hid.out])
 exact KD (by grind [size_alloc,size_setCell]) (by grind [Fh,size_alloc,size_setCell])
def aCL(lK:PO f){w:Z}(hp:SP w pb tb T k vars d)(hd:d+1<=8)
  (hk:(tk T k).kind=1) (ho:dQ T (k+1) [40]=A) {r:cd (List Ex)} (hr:mR T f (k+2) vars (d+1) (tk T k).pos []=O r)
  {q:cd Ex} (hq:cd.bind (O r) (fun l k' vars'=>mj T [41] (Ex.mk 99 (tk T k).text 0 0 l) k' vars')=O q) :
  Calls bbd 117 #[pp pb] w (j8 eL pb tb T d w (q)):=by
 have HO:=a08 ho;have HR:=a08 hr;have HQ:=a08 hq;clear ho hr hq;have H:=a08 hp;have HK:=a08 hk;clear hp hk
 go_enter_defers func117,ntmps117
 go_wp2_with fail
 refine(Ax H.out hd).mono ?_;rintro e w1 ⟨rfl,eg,jl,dI,gw⟩;have mv:=a08 jl;have iD:=a08 gw;have kK:=a08 dI;have nU:=a08 eg;obtain⟨n,c,h0,f0,hb,l1,l2,l3,l4,eY,eZ⟩:=dI.on (by have:=HK.out;omega);obtain⟨t0,t1,t2⟩:=dI.toks.at dI.kt;have xX:tb<w1.heap.size:=by have:=dI.lt;omega
 have ed:¬ tb=pb:=by have:=dI.lt;omega
 have Nk:¬ pb=tb:=zo;have jb:=a08 eY;have fR:=a08 eZ;rw[HK.out] at t0;clear dI gw jl eg eY eZ
 go_wp2_with fail
 refine(vu (jb.out.ext fun b o h=>dX (dX h)) [40] HO.out).mono ?_;have eg:=nU.out;have gn:pb<w.heap.size:=H.out.d2.2.2;have xj:=H.out.lt;have jL:=fR.out.bK mv.out zo zd;have ak6:∀ o o',(((GO w1 pb tb k n c).alloc o).alloc o').heap[w.heap.size]?=_:=fun o o'=>dX (o:=o') (dX (o:=o) jL);have hex:∀ o o',(((GO w1 pb tb k n c).alloc o).alloc o').heap[w1.heap.size+1]?=O o':=(by grind [Fh,size_alloc,size_setCell]);have jh:∀ o o',(((GO w1 pb tb k n c).alloc o).alloc o').heap.size=w1.heap.size+2:=(by grind [size_alloc,size_setCell]);have tN:=fun o o'=>((iD.out.trans fR.out).alloc o).alloc o';rintro e w3 ⟨rfl,gQ,ea⟩;have ak7:=ea.bK (ak6 _ _) zo zd;have ak8:=ea.bK (hex _ _) zo zd;have ak9:=(tN _ _).trans ea;have Fo:w1.heap.size+2<=w3.heap.size:=zg;have HB3:=a08 ak7;have NB:=a08 ak8;have oA:=a08 ak9;have uC:=a08 gQ;have HS:=a08 eg;have c2:w3.cell? ⟨w1.heap.size,2,V⟩=O (zi (tk T k).pos):=
  cellOf (ea.bK (b:=w1.heap.size) (dX (Fh (by rw[size_setCell]))) zo zd) J
 clear jL ak6 hex jh tN gQ ea ak7 ak8 ak9 eg t0 t1 t2 h0 f0
 go_wp2_with fail
 refine(lK.go _ uC.out zo HR.out).mono ?_;cases r with
 | err c0 a0=>
  rintro e w4 ⟨⟨b,rfl,eP,gH⟩,ea,gT⟩;have e:=HQ.out;simp only[cd.bind,a07] at e;subst e;have eg:=nU.out;exact tR gn gT (by grind [dc.bK,Hid.out]) ⟨b,J,eP,zo⟩ (oA.out.trans ea)
 | ok l k' vs=>
  rintro e w4 ⟨v,rfl,hv,im,eF⟩;obtain⟨sa,sn,sc,rfl,-,-⟩:=hv.shape;have eg:=nU.out;have ND:=eF.bK NB.out zo zd;have ala:=eF.bK HB3.out zo zd;have x0:w4.cell? ⟨w1.heap.size+1,0,V⟩=O (.int .u8 97):=cellOf ND J;have x4:w4.cell? ⟨w1.heap.size+1,4,V⟩=O bX:=cellOf ND J;have y0:=jX ND 0;have y4:=jX ND 4;have z4:=bh ND;have zb:=eF.size;have tS:=a08 im;have NF:=a08 hv;have tT:=a08 (oA.out.trans eF);have HE4:=a08 ND;have HB4:=a08 ala;clear hv im eF ND ala eg c2
  go_wp2_with fail
  have eg:=nU.out;have n1:w1.heap.size+1≠pb:=zo;have n2:tb<w1.heap.size+1:=zo;have n3:w.heap.size≠w1.heap.size+1:=zo;have ach:=Bk (o:=0) HE4.out (.int .u8 99);have oC:=(tS.out.setOther (o:=0) HE4.out zd n1 n2 (.int .u8 99)).setOther (o:=4) ach zd n1 n2 (.slice sa sn sc);have ald:=Bk (o:=4) ach (.slice sa sn sc);have ale:=(blk_setCell_other (a:=⟨w1.heap.size+1,4,V⟩) n3 (.slice sa sn sc)).trans ((blk_setCell_other (a:=⟨w1.heap.size+1,0,V⟩) n3 (.int .u8 99)).trans HB4.out);have alf:=(tT.out.MY (p:=⟨w1.heap.size+1,0,V⟩) (by show w.heap.size<=w1.heap.size+1;omega) (.int .u8 99)).MY (p:=⟨w1.heap.size+1,4,V⟩) (by show w.heap.size<=w1.heap.size+1;omega) (.slice sa sn sc);have BB:=(NF.out.set (x:=w1.heap.size+1) (o:=0) (fun b hb=>by have:=hb.1;omega) (.int .u8 99)).set (x:=w1.heap.size+1) (o:=4) (fun b hb=>by have:=hb.1;omega) (.slice sa sn sc);have hz6:∀ u v,((w4.setCell ⟨w1.heap.size+1,0,V⟩ u).setCell ⟨w1.heap.size+1,4,V⟩ v).heap.size=w4.heap.size:=(by grind [size_setCell]);have HE6:=a08 ald;have HB6:=a08 ale;have HF6:=a08 alf;have HV6:=a08 BB;have HZ6:=a08 hz6;have HP6:=a08 oC;clear ach oC ald ale alf BB hz6 x0 x4 y0 y4;have hq:=HQ.out;simp only[cd.bind,mj] at hq;by_cases hc:dQ T k' [41]=A
  .rw[zip hc,a07] at hq;subst hq;refine(SI HP6.out [41] hc).mono ?_;rintro e w7 ⟨rfl,mX,zh⟩;have HP7:=a08 mX;have KN:=a08 zh;clear mX zh hc n1 n2 n3 eg
   go_wp2_with fail
   have eg:=nU.out;have hz7:=KN.out.size;rw[HZ6.out] at hz7;refine yY (j:=2) KB J gn HP7.out zo (by grind [dc.bK,Hid.out]) ?_ (HF6.out.trans KN.out);refine abX ⟨zo,zo⟩ (KN.out.bK HE6.out zo zd) ?_;exact aB1 _ _ _ _ _ _ _ HV6.out KN.out fun b hb=>⟨by have:=hb.1;omega,by have:=hb.1;have:=hb.2;exact⟨zo,zo⟩⟩
  .rw[bI hc,a07] at hq;subst hq;refine(SJ HP6.out [41] zg zd).mono ?_;rintro e w7 ⟨⟨b,rfl,eP,gH⟩,ea,gT⟩;rw[HZ6.out] at gH;exact tR gn gT (by grind [dc.bK,Hid.out]) ⟨b,J,eP,zo⟩ (HF6.out.trans ea)
def aCR{w:Z}(hp:SP w pb tb T k vars d)(hd:d+1<=8)
  (hk:(tk T k).kind=0\/(tk T k).kind=4) (hm:dQ T k [45]=G) (hn:dQ T k [40]=G) (hl:dQ T k [91]=G) :
  Calls bbd 117 #[pp pb] w (j8 eL pb tb T d w (.err 2 (tk T k).pos)):=by
 have HM:=a08 hm;have HN:=a08 hn;have HL:=a08 hl;clear hm hn hl;have H:=a08 hp
 go_enter_defers func117,ntmps117
 go_wp2_with fail
 refine(Ax H.out hd).mono ?_;rintro e w1 ⟨rfl,eg,jl,dI,gw⟩;have mv:=a08 jl;have iD:=a08 gw;have kK:=a08 dI;have nU:=a08 eg;obtain⟨n,c,h0,l1,l2,-,l3,l4⟩:=dI.l0;obtain⟨t0,t1,t2⟩:=dI.toks.at dI.kt;obtain⟨kd,ja⟩:∃ kd:Int,kd=((tk T k).kind:Int):=⟨_,J⟩;rw[<- ja] at t0;have k1:(kd == 1)=false:=zg;have k2:(kd == 2)=false:=zg;have k3:(kd == 3)=false:=zg;have Cy:pb<w1.heap.size:=dI.d2.2.2;have xX:tb<w1.heap.size:=a4m dI.lt Cy;have gn:pb<w.heap.size:=hp.d2.2.2;have xj:=hp.lt;clear dI gw jl eg hk ja hp
 go_wp2_with fail
 have BC:∀ o,SP (w1.alloc o) pb tb T k vars (d+1):=(by grind [dX,SP.ext,Hid.out]);have BD:∀ o,(w1.alloc o).heap[w.heap.size]?=_:=fun o=>dX (o:=o) mv.out;have BE:=fun o=>iD.out.alloc o;have BF:∀ o,(w1.alloc o).heap.size=w.heap.size+2:=(by grind [size_alloc,Hid.out]);have AF:=a08 BC;have KO:=a08 BD;have IP:=a08 BE;have IQ:=a08 BF;clear BC BD BE BF;refine(qM (AF.out _) [45] HM.out zd).mono ?_;rintro e w2 ⟨rfl,rfl⟩
 go_wp2_with fail
 refine(qM (AF.out _) [40] HN.out zd).mono ?_;rintro e w2 ⟨rfl,rfl⟩
 go_wp2_with fail
 refine(qM (AF.out _) [91] HL.out zd).mono ?_;rintro e w2 ⟨rfl,rfl⟩
 go_wp2_with fail
 refine(PN (AF.out _)).mono ?_;rintro e w2 ⟨⟨b,rfl,eP,gH⟩,ea,gT⟩;rw[IQ.out] at gH;have eg:=nU.out;exact tR gn gT (by grind [dc.bK,Hid.out]) ⟨b,J,eP,zo⟩ ((IP.out _).trans ea)
def aCS(acj:SM f){w:Z}(hp:SP w pb tb T k vars d)(hd:d+1<=8)
  (hk:(tk T k).kind=0\/(tk T k).kind=4) (hm:dQ T k [45]=G) (hn:dQ T k [40]=G) (hl:dQ T k [91]=A)
  {r:cd Ex} (hr:oq T f (k+1) vars (d+1)=O r) :
  Calls bbd 117 #[pp pb] w (j8 eL pb tb T d w (r)):=by
 have HM:=a08 hm;have HN:=a08 hn;have HL:=a08 hl;have HR:=a08 hr;clear hm hn hl hr;have H:=a08 hp
 go_enter_defers func117,ntmps117
 go_wp2_with fail
 refine(Ax H.out hd).mono ?_;rintro e w1 ⟨rfl,eg,jl,dI,gw⟩;have mv:=a08 jl;have iD:=a08 gw;have kK:=a08 dI;have nU:=a08 eg;obtain⟨n,c,h0,l1,l2,-,l3,l4⟩:=dI.l0;obtain⟨t0,t1,t2⟩:=dI.toks.at dI.kt;obtain⟨kd,ja⟩:∃ kd:Int,kd=((tk T k).kind:Int):=⟨_,J⟩;rw[<- ja] at t0;have k1:(kd == 1)=false:=zg;have k2:(kd == 2)=false:=zg;have k3:(kd == 3)=false:=zg;have Cy:pb<w1.heap.size:=dI.d2.2.2;have xX:tb<w1.heap.size:=a4m dI.lt Cy;have gn:pb<w.heap.size:=hp.d2.2.2;have xj:=hp.lt;clear dI gw jl eg hk ja hp
 go_wp2_with fail
 have BC:∀ o,SP (w1.alloc o) pb tb T k vars (d+1):=(by grind [dX,SP.ext,Hid.out]);have BD:∀ o,(w1.alloc o).heap[w.heap.size]?=_:=fun o=>dX (o:=o) mv.out;have BE:=fun o=>iD.out.alloc o;have BF:∀ o,(w1.alloc o).heap.size=w.heap.size+2:=(by grind [size_alloc,Hid.out]);have AF:=a08 BC;have KO:=a08 BD;have IP:=a08 BE;have IQ:=a08 BF;clear BC BD BE BF;refine(qM (AF.out _) [45] HM.out zd).mono ?_;rintro e w2 ⟨rfl,rfl⟩
 go_wp2_with fail
 refine(qM (AF.out _) [40] HN.out zd).mono ?_;rintro e w2 ⟨rfl,rfl⟩
 go_wp2_with fail
 refine(vu (AF.out _) [91] HL.out).mono ?_;rintro e w2 ⟨rfl,eY,eZ⟩;have jb:=a08 eY;have pL:=eZ.size;rw[IQ.out] at pL;have W1:=a08 (eZ.bK (KO.out _) zo zd);have fR:=a08 ((IP.out _).trans eZ);clear eY eZ
 go_wp2_with fail
 refine(acj.go jb.out zo HR.out).mono ?_;cases r with
 | err c0 a0=>
  rintro e w4 ⟨⟨b,rfl,eP,gH⟩,ea,gT⟩;exact tR gn gT (by grind [dc.bK,Hid.out]) ⟨b,J,eP,zo⟩ (fR.out.trans ea)
 | ok x k' vs=>
  rintro e w4 ⟨v,rfl,hv,im,eF⟩;have HV:=a08 hv;have tS:=a08 im;have tT:=a08 eF;clear hv im eF
  go_wp2_with fail
  refine yY (j:=2) KB J gn tS.out zo (by grind [dc.bK,Hid.out]) ?_ (fR.out.trans tT.out);exact eL.mono zg zg _ _ HV.out
def aCT(ack:IG f){w:Z}(hp:SP w pb tb T k vars d)(hd:d+1<=8)
  (hk:(tk T k).kind=0\/(tk T k).kind=4) (hm:dQ T k [45]=G) (hn:dQ T k [40]=A)
  {r:cd Ex} (hr:gW T f 0 (k+1) vars (d+1)=O r) {q:cd Ex} (hq:cd.bind (O r) (fun x k' vars'=>mj T [41] x k' vars')=O q) :
  Calls bbd 117 #[pp pb] w (j8 eL pb tb T d w (q)):=by
 have HM:=a08 hm;have HN:=a08 hn;have HR:=a08 hr;have HQ:=a08 hq;clear hm hn hr hq;have H:=a08 hp
 go_enter_defers func117,ntmps117
 go_wp2_with fail
 refine(Ax H.out hd).mono ?_;rintro e w1 ⟨rfl,eg,jl,dI,gw⟩;have mv:=a08 jl;have iD:=a08 gw;have kK:=a08 dI;have nU:=a08 eg;obtain⟨n,c,h0,l1,l2,-,l3,l4⟩:=dI.l0;obtain⟨t0,t1,t2⟩:=dI.toks.at dI.kt;obtain⟨kd,ja⟩:∃ kd:Int,kd=((tk T k).kind:Int):=⟨_,J⟩;rw[<- ja] at t0;have k1:(kd == 1)=false:=zg;have k2:(kd == 2)=false:=zg;have k3:(kd == 3)=false:=zg;have Cy:pb<w1.heap.size:=dI.d2.2.2;have xX:tb<w1.heap.size:=a4m dI.lt Cy;have gn:pb<w.heap.size:=hp.d2.2.2;have xj:=hp.lt;clear dI gw jl eg hk ja hp
 go_wp2_with fail
 have BC:∀ o,SP (w1.alloc o) pb tb T k vars (d+1):=(by grind [dX,SP.ext,Hid.out]);have BD:∀ o,(w1.alloc o).heap[w.heap.size]?=_:=fun o=>dX (o:=o) mv.out;have BE:=fun o=>iD.out.alloc o;have BF:∀ o,(w1.alloc o).heap.size=w.heap.size+2:=(by grind [size_alloc,Hid.out]);have AF:=a08 BC;have KO:=a08 BD;have IP:=a08 BE;have IQ:=a08 BF;clear BC BD BE BF;refine(qM (AF.out _) [45] HM.out zd).mono ?_;rintro e w2 ⟨rfl,rfl⟩
 go_wp2_with fail
 refine(vu (AF.out _) [40] HN.out).mono ?_;rintro e w2 ⟨rfl,eY,eZ⟩;have jb:=a08 eY;have pL:=eZ.size;rw[IQ.out] at pL;have W1:=a08 (eZ.bK (KO.out _) zo zd);have fR:=a08 ((IP.out _).trans eZ);clear eY eZ
 go_wp2_with fail
 refine(ack.go jb.out zo HR.out).mono ?_;cases r with
 | err c0 a0=>
  rintro e w4 ⟨⟨b,rfl,eP,gH⟩,ea,gT⟩;have e:=HQ.out;simp only[cd.bind,a07] at e;subst e;exact tR gn gT (by grind [dc.bK,Hid.out]) ⟨b,J,eP,zo⟩ (fR.out.trans ea)
 | ok x k' vs=>
  rintro e w4 ⟨v,rfl,hv,im,eF⟩;have HV:=a08 hv;have tS:=a08 im;have tT:=a08 eF;have HB4:=a08 (eF.bK W1.out zo zd);have zb:=eF.size;clear hv im eF
  go_wp2_with fail
  have hq:=HQ.out;simp only[cd.bind,mj] at hq;by_cases hc:dQ T k' [41]=A
  .rw[zip hc,a07] at hq;subst hq;refine(SI tS.out [41] hc).mono ?_;rintro e w7 ⟨rfl,mX,zh⟩;have HP7:=a08 mX;have KN:=a08 zh;clear mX zh hc
   go_wp2_with fail
   have hz7:=KN.out.size;refine yY (j:=2) KB J gn HP7.out zo (by grind [dc.bK,Hid.out]) ?_ ((fR.out.trans tT.out).trans KN.out);exact KB _ _ _ _ _ _ _ HV.out KN.out zg
  .rw[bI hc,a07] at hq;subst hq;refine(SJ tS.out [41] zg zd).mono ?_;rintro e w7 ⟨⟨b,rfl,eP,gH⟩,ea,gT⟩;exact tR gn gT (by grind [dc.bK,Hid.out]) ⟨b,J,eP,zo⟩ ((fR.out.trans tT.out).trans ea)
abbrev Fq(w:Z)(x:Nat)(a b c:Y):Z:=((w.setCell ⟨x,0,V⟩ a).setCell ⟨x,1,V⟩ b).setCell ⟨x,2,V⟩ c
def alm(w:Z)(x:Nat)(a b c:Y):(Fq w x a b c).heap.size=w.heap.size:=by grind [size_setCell]
theorem acm{w:Z}{x y:Nat}(h:y≠x)(a b c:Y):(Fq w x a b c).heap[y]?=w.heap[y]?:=by
 grind [blk_setCell_other]
def SP.Fq{w:Z}{pb tb x:Nat}{T:List P.Tok}{k:Nat}{vars:List Bs}{d:Nat}{cs:Array Y}{t:TypeId}{z:Nat×Nat}(h:SP w pb tb T k vars d)
  (hx:w.heap[x]?=O (ae cs t z)) (ht:t≠9) (e:x≠pb) (f:tb<x) (a b c:Y):SP (Fq w x a b c) pb tb T k vars d:=
 ((h.setOther hx ht e f a).setOther (Bk hx a) ht e f b).setOther (Bk (Bk hx a) b) ht e f c
def bB.Fq{M:Nat->Obj->Prop}{a b:Z}(h:bB M a b){x:Nat}(hx:a.heap.size<=x)(u v s:Y):bB M a (Fq b x u v s):=
 (by grind [MY])
def aCU{w:Z}(hp:SP w pb tb T k vars d)(hd:d+1<=8)
  (hk:(tk T k).kind=0\/(tk T k).kind=4) (hm:dQ T k [45]=A) (hn:(tk T (k+1)).kind≠3) :
  Calls bbd 117 #[pp pb] w (j8 eL pb tb T d w (.err 2 (tk T (k+1)).pos)):=by
 have HM:=a08 hm;have HN:=a08 hn;clear hm hn;have H:=a08 hp
 go_enter_defers func117,ntmps117
 go_wp2_with fail
 refine(Ax H.out hd).mono ?_;rintro e w1 ⟨rfl,eg,jl,dI,gw⟩;have mv:=a08 jl;have iD:=a08 gw;have kK:=a08 dI;have nU:=a08 eg;obtain⟨n,c,h0,l1,l2,-,l3,l4⟩:=dI.l0;obtain⟨t0,t1,t2⟩:=dI.toks.at dI.kt;obtain⟨kd,ja⟩:∃ kd:Int,kd=((tk T k).kind:Int):=⟨_,J⟩;rw[<- ja] at t0;have k1:(kd == 1)=false:=zg;have k2:(kd == 2)=false:=zg;have k3:(kd == 3)=false:=zg;have Cy:pb<w1.heap.size:=dI.d2.2.2;have xX:tb<w1.heap.size:=a4m dI.lt Cy;have gn:pb<w.heap.size:=hp.d2.2.2;have xj:=hp.lt;clear dI gw jl eg hk ja hp
 go_wp2_with fail
 have BC:∀ o,SP (w1.alloc o) pb tb T k vars (d+1):=(by grind [dX,SP.ext,Hid.out]);have BD:∀ o,(w1.alloc o).heap[w.heap.size]?=_:=fun o=>dX (o:=o) mv.out;have BE:=fun o=>iD.out.alloc o;have BF:∀ o,(w1.alloc o).heap.size=w.heap.size+2:=(by grind [size_alloc,Hid.out]);have AF:=a08 BC;have KO:=a08 BD;have IP:=a08 BE;have IQ:=a08 BF;clear BC BD BE BF;have uD:∀ o,(w1.alloc o).heap[w1.heap.size]?=O o:=(by grind [blk_alloc_new]);refine(vu (AF.out _) [45] HM.out).mono ?_;rintro e w2 ⟨rfl,eY,eZ⟩;have eg:=nU.out;have pL:=eZ.size;rw[IQ.out] at pL;have fk:=eZ.bK (uD _) zo zd;have y0:=jX fk 0;have y1:=jX fk 1;have y2:=jX fk 2;have c0:w2.cell? ⟨w1.heap.size,0,V⟩=O (zi kd):=cellOf fk J;have c1:w2.cell? ⟨w1.heap.size,1,V⟩=O (aT ((tk T k).text)):=cellOf fk J;have c2:w2.cell? ⟨w1.heap.size,2,V⟩=O (zi (tk T k).pos):=cellOf fk J;have jb:=a08 eY;have SR:=a08 fk;have W1:=a08 (eZ.bK (KO.out _) zo zd);have fR:=a08 ((IP.out _).trans eZ);have acd:pb<w2.heap.size:=zo;have aCW:tb<w2.heap.size:=zo;have aCX:w1.heap.size<w2.heap.size:=zo;have q1:¬ w1.heap.size=pb:=zo;have q2:¬ w1.heap.size=tb:=zo;have q3:¬ pb=w1.heap.size:=zo;have q4:¬ tb=w1.heap.size:=zo;obtain⟨n2,cc2,g0,g1,g2,-,g3,g4⟩:=eY.l0;obtain⟨u0,u1,u2⟩:=eY.toks.at eY.kt;obtain⟨kd2,aln⟩:∃ kd:Int,kd=((tk T (k+1)).kind:Int):=⟨_,J⟩;rw[<- aln] at u0;have k32:(kd2 != 3)=true:=by simp;have:=HN.out;omega
 clear eY eZ fk eg uD aln h0 t0 t1 t2
 go_wp2_with fail
 refine(PN (jb.out.Fq SR.out zd q1 zo _ _ _)).mono ?_;rintro e w3 ⟨⟨b,rfl,eP,gH⟩,ea,gT⟩;rw[alm] at gH;have eg:=nU.out;exact tR gn gT (by grind [acm,trans,dc.bK,Hid.out]) ⟨b,J,eP,zo⟩ ((fR.out.Fq zo _ _ _).trans ea)
def aCZ(hint:WL){w:Z}(hp:SP w pb tb T k vars d)(hd:d+1<=8)
  (hk:(tk T k).kind=0\/(tk T k).kind=4) (hm:dQ T k [45]=A) (hn:(tk T (k+1)).kind=3) :
  Calls bbd 117 #[pp pb] w (j8 eL pb tb T d w (.ok (.mk 110 [] (- P.num (tk T (k+1)).text) 0 []) (k+2) vars)):=by
 have HM:=a08 hm;have HN:=a08 hn;clear hm hn;have H:=a08 hp
 go_enter_defers func117,ntmps117
 go_wp2_with fail
 refine(Ax H.out hd).mono ?_;rintro e w1 ⟨rfl,eg,jl,dI,gw⟩;have mv:=a08 jl;have iD:=a08 gw;have kK:=a08 dI;have nU:=a08 eg;obtain⟨n,c,h0,l1,l2,-,l3,l4⟩:=dI.l0;obtain⟨t0,t1,t2⟩:=dI.toks.at dI.kt;obtain⟨kd,ja⟩:∃ kd:Int,kd=((tk T k).kind:Int):=⟨_,J⟩;rw[<- ja] at t0;have k1:(kd == 1)=false:=zg;have k2:(kd == 2)=false:=zg;have k3:(kd == 3)=false:=zg;have Cy:pb<w1.heap.size:=dI.d2.2.2;have xX:tb<w1.heap.size:=a4m dI.lt Cy;have gn:pb<w.heap.size:=hp.d2.2.2;have xj:=hp.lt;clear dI gw jl eg hk ja hp
 go_wp2_with fail
 have BC:∀ o,SP (w1.alloc o) pb tb T k vars (d+1):=(by grind [dX,SP.ext,Hid.out]);have BD:∀ o,(w1.alloc o).heap[w.heap.size]?=_:=fun o=>dX (o:=o) mv.out;have BE:=fun o=>iD.out.alloc o;have BF:∀ o,(w1.alloc o).heap.size=w.heap.size+2:=(by grind [size_alloc,Hid.out]);have AF:=a08 BC;have KO:=a08 BD;have IP:=a08 BE;have IQ:=a08 BF;clear BC BD BE BF;have uD:∀ o,(w1.alloc o).heap[w1.heap.size]?=O o:=(by grind [blk_alloc_new]);refine(vu (AF.out _) [45] HM.out).mono ?_;rintro e w2 ⟨rfl,eY,eZ⟩;have eg:=nU.out;have pL:=eZ.size;rw[IQ.out] at pL;have fk:=eZ.bK (uD _) zo zd;have y0:=jX fk 0;have y1:=jX fk 1;have y2:=jX fk 2;have c0:w2.cell? ⟨w1.heap.size,0,V⟩=O (zi kd):=cellOf fk J;have c1:w2.cell? ⟨w1.heap.size,1,V⟩=O (aT ((tk T k).text)):=cellOf fk J;have c2:w2.cell? ⟨w1.heap.size,2,V⟩=O (zi (tk T k).pos):=cellOf fk J;have jb:=a08 eY;have SR:=a08 fk;have W1:=a08 (eZ.bK (KO.out _) zo zd);have fR:=a08 ((IP.out _).trans eZ);have acd:pb<w2.heap.size:=zo;have aCW:tb<w2.heap.size:=zo;have aCX:w1.heap.size<w2.heap.size:=zo;have q1:¬ w1.heap.size=pb:=zo;have q2:¬ w1.heap.size=tb:=zo;have q3:¬ pb=w1.heap.size:=zo;have q4:¬ tb=w1.heap.size:=zo;have gQ:=eY.Fq fk zg q1 zo (zi 3) (aT ((tk T (k+1)).text)) (zi (tk T (k+1)).pos);obtain⟨n2,cc2,g0,f0,g5,g1,g2,g3,g4,im,eF⟩:=gQ.on (by rw[HN.out];decide);have e0:w2.cell? ⟨pb,0,V⟩=O (.slice (O ⟨tb,(k+1)*3,V⟩) n2 cc2):=by
  grind [World.cell?_of_block,acm]
 have e1:w2.frozen? ⟨pb,0,V⟩=false:=by
  obtain⟨_,_,_,_,q,_⟩:=eY.yW;exact jX q 0
 obtain⟨u0,u1,u2⟩:=eY.toks.at eY.kt;have xS:=eY.tw.digits _ (Ky eY.kt) HN.out;rw[HN.out] at u0;have e2:(k+1)*3=k*3+3:=zo;rw[e2] at e0 u0 u1 u2;have oB:SP ((Fq w2 w1.heap.size (zi 3) (aT ((tk T (k+1)).text)) (zi (tk T (k+1)).pos)).setCell ⟨pb,0,V⟩ (.slice (O ⟨tb,k*3+3+3,V⟩) (n2-1) (cc2-1)))
   pb tb T (k+1+1) vars (d+1):=zg
 have tS:=a08 oB;have HDG:=a08 xS;have HE2:=a08 e2;have nb:=Sb xS.2.1 xS.2.2;obtain⟨nb1,nb2⟩:=nb;clear eY eZ fk eg uD h0 t0 t1 t2 gQ im eF xS g0 f0 g5 e2 oB
 go_wp2_with fail
 refine(hint.go _ HDG.out.1 HDG.out.2.1 HDG.out.2.2).mono ?_;rintro e w3 ⟨rfl,SV⟩;have NB:=a08 SV;clear SV
 go_wp2_with fail
 have eg:=nU.out;have hz:=NB.out.size;rw[size_setCell,alm] at hz;refine yY (j:=2) KB J gn (by grind [dX,SP.ext,Hid.out,bB.ext]) zo
  (by grind [dX,blk_setCell_other,trans,acm,bB.ext,Hid.out]) ?_
  ((((fR.out.Fq zo _ _ _).trans (dc.GN (bB.refl _ _) _)).trans NB.out.toM).alloc _)
 exact KD (by grind [size_alloc]) (blk_alloc_new _ _)
def aC0:SL 0:=⟨fun _ _ h=>by simp [lC] at h⟩
def aC1(t:PO f)(g:IG f)(i:SM f)(u:abW)(hint:WL):SL (f+1):=by
 refine⟨fun{pb tb T k vars d w r} a x h=>?_⟩;rw[lC] at h;by_cases j:P.maxDepth<d+1
 .rw[zip j,a07] at h;subst h;exact aCH a j x
 rw[bI j] at h;have b:d+1<=8:=by grind [P.maxDepth]
 by_cases l:(tk T k).kind=3
 .rw[zip l,a07] at h;subst h;exact aCI hint a b l
 rw[bI l] at h;by_cases m:(tk T k).kind=2
 .rw[zip m,a07] at h;subst h;exact aCJ u a b m
 rw[bI m] at h;by_cases e:(tk T k).kind=1
 .rw[zip e] at h;by_cases n:dQ T (k+1) [40]=A
  .rw[zip n] at h;cases hr:mR T f (k+2) vars (d+1) (tk T k).pos [] with
   | none=>rw[hr] at h;simp [cd.bind] at h
   | some q=>rw[hr] at h;exact aCL t a b e n hr h
  .rw[bI n,a07] at h;subst h;exact aCK a b e zg
 rw[bI e] at h;have hk:(tk T k).kind=0\/(tk T k).kind=4:=by have:=a.tw.kind _ (Ky a.kt);omega
 by_cases hm:dQ T k [45]=A
 .rw[zip hm] at h;by_cases c:(tk T (k+1)).kind=3
  .rw[zip c,a07] at h;subst h;exact aCZ hint a b hk hm c
  .rw[bI c,a07] at h;subst h;exact aCU a b hk hm c
 rw[bI hm] at h;have o:dQ T k [45]=false:=zg;by_cases c:dQ T k [40]=A
 .rw[zip c] at h;cases hr:gW T f 0 (k+1) vars (d+1) with
  | none=>rw[hr] at h;simp [cd.bind] at h
  | some q=>rw[hr] at h;exact aCT g a b hk o c hr h
 rw[bI c] at h;have s:dQ T k [40]=false:=zg;by_cases p:dQ T k [91]=A
 .rw[zip p] at h;exact aCS i a b hk o s p h
 rw[bI p,a07] at h;subst h;exact aCR a b hk o s zg
