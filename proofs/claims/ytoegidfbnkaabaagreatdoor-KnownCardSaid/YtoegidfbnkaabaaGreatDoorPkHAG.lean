/- A part of one proof (SList, SPrim, SPrim2, SPrim3, SPrim4, SPrim5). -/
import Derived.Test.YtoegidfbnkaabaaGreatDoorPkHAF
import Derived.Deep.Cut
set_option linter.all false
set_option maxRecDepth 100000
set_option maxHeartbeats 8000000
open Option renaming some → O, none → V
open Go renaming Value → Y, World → Z
open Bool renaming true → A, false → G
open Go.Obj renaming cells → ae
open Go.Ending renaming returned → ah
open Go.Value renaming tuple → ak
open Option.some renaming injEq → aZ9
open Go.Lib renaming hid → a0a
open And renaming intro → a0b
open List renaming length_cons → a0j, length_nil → a0A
open Go.Value renaming slice → a0m, pointer → a0U
open Go.Obj renaming cells → a0L
open Nat renaming lt_trans → a3k
open Array renaming replicate_zero → a3E, replicate_succ → a3F
open Go.Fence renaming wide → a3Z
open Go.World renaming setCell_alloc_past → a4f
open Go.Proofs.Tryz renaming prog → a9V
open Go.Proofs.Tryz
namespace Go.Proofs.YtoegidfbnkaabaaGreatDoor
open P
open Go.RowKit
variable{B bx cap d f g k n pb tb:Nat}{R:Ending->Z->Prop}{T:List P.Tok}{W w w0:Z}{bl:List Nat}{fn:Func}{v:Y}{iC:Array Y}{vars:List Bs}
def ajA{P:Program}{f:FuncId}{c:Code}{args:Array Y}
  (a:P.funcs[f]?=O fn) (b:fn.body=O c)
  (h:c.wp P (bodyPostM a3Z 3 P fn R) { tmps:=args++Array.replicate (fn.ntmps-args.size) undef,defers:=[] } w):Calls P f args w R:=
 callsIn_wide.1 (callsIn_of_wp_marks (n:=3) a b trivial (wpIn_wide.2 h) J)
def aBD{P:Program}{tmps:Array Y}(hr:(results fn tmps).run P w = .ok v w)(a:R (ah v) w) :
 bodyPostM a3Z 3 P fn R .ret { tmps:=tmps,defers:=[] } w:=⟨v,hr,a⟩
def aBE(hp:SP w pb tb T k vars d)(hc:ep T k [93]=A) :
  Calls a9V 142 #[pp pb] w (jS eG pb tb T d w (.ok (.mk 97 [91,93] 0 0 []) (k+1) vars)):=by
 have dD:=a0a (hp.ext (w':=w.alloc (a0L #[.int .u8 97,aM [91,93],zi 0,zi 0,bH] 178)) (by grind [dQ]));have HC:=a0a hc;have fW:=hp.d2.2.2;clear hp hc;refine ajA func142 J ?_;simp only[ntmps142,List.size_toArray,a0j,a0A,Nat.reduceAdd,Nat.reduceSub,a3F,a3E,List.push_toArray,List.append_toArray,List.nil_append,List.cons_append]
 go_wp2_with fail
 refine(uP dD.out [93] HC.out).mono ?_;rintro e w3 ⟨rfl,gK,dU⟩;have tV:=a0a gK;have nT:=a0a dU;clear gK dU
 go_wp2_with fail
 refine aBD (results_tmp J _ _ _) ⟨_,J,?_,tV.out,((bz.refl _ _).alloc _).trans nT.out⟩;have hz:=nT.out.size;rw[size_alloc] at hz;exact JI zg (by grind [cY.bI,blk_alloc_new,Hid.out])
abbrev JR:Obj:=ae #[.int .u8 97,.string (bs [91,93]),zi 0,zi 0,.slice V 0 0] 178
def LJ(pb tb:Nat)(T:List P.Tok)(d:Nat)(w0:Z)(c:cg (List Ex))(n:Nat)(a:Act)(w:Z):Prop:=
 ∃ (acc:List Ex) (k:Nat) (vs:List Bs) (xs:List Y) (sl e f g h i u8 j l m o p q r u16 s t u x y z B C D E F H I K L u32 M N Q R S U W:Y),a={ tmps:=#[pp pb,e,f,pp w0.heap.size,sl,g,h,i,u8,j,l,m,o,p,q,r,u16,s,t,u,x,y,z,B,C,D,E,F,H,I,K,L,u32,M,N,Q,R,S,U,W],defers:=[] } /\
  w.ownsRow w0.heap.size 106 1 sl acc.length xs/\eH (fun b=>Nu w0 w b/\sl.ownBlock≠O b) w xs acc/\SP w pb tb T k vs d/\cY pb w0 w/\0<acc.length/\acc.length<=k /\
  w.heap[w0.heap.size]?=O JR/\(if ep T k [44] then rS T n (k+1) vs d acc else O (.ok acc k vs))=O c
noncomputable def ajB:Code:=match Tryz.f142.body with
 | some (.seq _ (.seq _ (.seq _ (.seq _ (.seq _ (.seq _ (.seq _ c)))))))=>c
 | _=>.skip
noncomputable def aBG:Code:=match ajB with | .seq c _=>c | _=>.skip
noncomputable def aBH:Code:=match ajB with | .seq _ c=>c | _=>.skip
theorem aa5{B:Z}{row:Option Nat}(c:W.grownBy B row)(hr:∀ r,row=O r->∃ o:Obj,W.heap[r]?=O o/\o.isCells=G)(b:Nat)(cs:Array Y)(t:TypeId)(z:Nat×Nat)
  (h:W.heap[b]?=O (ae cs t z)):B.heap[b]?=O (ae cs t z):=by
 rw[c.block b (bf h) (fun e=>by
  obtain⟨o,a,d⟩:=hr b e.symm;rw[h] at a;cases a;cases d)]
 omega
theorem ajC{o a:Obj}(b:a=o)(h:n=w.heap.size):(w.alloc o).heap[n]?=O a:=by grind [blk_alloc_new]
def LI(pb tb:Nat)(T:List P.Tok)(k:Nat)(vs:List Bs)(d X:Nat)(w0:Z)(bl:List Nat)(acc:List Ex)(x:Ex)(pre:List (Nat×Nat))(W:Z):Prop:=
 SP W pb tb T k vs d/\cY pb w0 W/\eH (fun b=>Nu w0 W b/\b≠X) W (bl.map (fun b=>a0U (O ⟨b,0,V⟩))) acc/\X<W.heap.size /\
 ∃ bv,W.heap[X]?=aN #[pp bv] 106 /\
  (pre=Hu bl pre.length->pre.length<=acc.length->eG (fun b=>Nu w0 W b/\b≠X) W (pp bv) (CZ (acc.drop (acc.length-pre.length)) x))
def LI.own{vs:List Bs}{X:Nat}{acc:List Ex}{x:Ex}(n:w0.heap.size<=B) :
  OwnFrom B (LI pb tb T k vs d X w0 bl acc x):=by
 rintro pre W f row ⟨g,p,h,q,bv,s,i⟩ c hr;have j:=aa5 c (fun r e=>(hr r e).2);have l:∀ (b:Nat) (o:Obj),C8 o->W.heap[b]?=O o->f.heap[b]?=O o:=fun b o m u=>by
  obtain⟨cs,t,z,rfl⟩:=aBi m;grind
 have w:=c.size;refine⟨g.aBh j,(by grind [Nat.le_trans,bz.OL]),?_,zo,bv,zg,fun a b=>?_⟩
 .exact eH.mono zg zg _ _ h
 .exact eG.mono zg zg _ _ (i a b)
def aBI{acc:List Ex}{x:Ex}(b:n<acc.length) :
  CZ (acc.drop (acc.length-(n+1))) x = .mk 99 [46] 0 0 [acc[acc.length-1-n],CZ (acc.drop (acc.length-n)) x]:=by
 have e:acc.length-(n+1)=acc.length-1-n:=zo;have a:acc.length-n=acc.length-1-n+1:=zo;rw[e,a,List.drop_eq_getElem_cons zo];rfl
theorem LI.step{vs:List Bs}{X:Nat}{acc:List Ex}{x:Ex}{pre:List (Nat×Nat)}{y:Nat×Nat}(w:bl.length=acc.length)
  (z:w0.heap.size<=X) (B:pb<w0.heap.size) (h:LI pb tb T k vs d X w0 bl acc x pre W) (bv:Nat) (C:W.heap[X]?=aN #[pp bv] 106) :
  LI pb tb T k vs d X w0 bl acc x (pre++[y])
   (((W.alloc (ae #[pp y.2,pp bv] 106)).alloc (ae #[.int .u8 99,aM [46],zi 0,zi 0,cM W.heap.size 2 2] 178)).setCell ⟨X,0,V⟩ (pp (W.heap.size+1))):=by
 obtain⟨i,j,f,D,a,l,m⟩:=h;have:a=bv:=by
  grind
 subst this;generalize hr:(a0L #[pp y.2,pp a] 106)=row at *;generalize E:(a0L #[.int .u8 99,aM [46],zi 0,zi 0,cM W.heap.size 2 2] 178)=node at *;have n:((W.alloc row).alloc node).heap[X]?=_:=dQ (dQ l);have F:(((W.alloc row).alloc node).setCell ⟨X,0,V⟩ (pp (W.heap.size+1))).heap.size=W.heap.size+2:=by grind [size_setCell,size_alloc]
 have hk:∀ (b:Nat) (o:Obj),b≠X->((W.alloc row).alloc node).heap[b]?=O o->(((W.alloc row).alloc node).setCell ⟨X,0,V⟩ (pp (W.heap.size+1))).heap[b]?=O o:=(by grind [blk_setCell_other]);have p:∀ (b:Nat) (o:Obj),b≠X->W.heap[b]?=O o->(((W.alloc row).alloc node).setCell ⟨X,0,V⟩ (pp (W.heap.size+1))).heap[b]?=O o:=(by grind [dQ]);have hlt:=i.lt;refine⟨(by grind [dQ,SP.setOther,SP.ext]),(by grind [bz.LO,bz.alloc]),?_,zo,W.heap.size+1,by rw[AO n];rfl,fun c q=>?_⟩
 .exact eH.mono zg zg _ _ f
 .simp only[List.length_append,a0j,a0A,Nat.zero_add] at c q ⊢;rw[ajp] at c;obtain⟨r,H⟩:=List.append_inj' c J;have I:y=(bl.length-1-pre.length,bl.getD (bl.length-1-pre.length) 0):=zg;rw[aBI zo];have hx:=m r zo;have s:acc.length-1-pre.length<acc.length:=zo;have g:=f.get (acc.length-1-pre.length) s;have t:y.2=bl.getD (acc.length-1-pre.length) 0:=zg;rw[<- t] at g;have u:w0.heap.size<=W.heap.size:=j.size;have e:W.heap.size≠X:=zo;refine aaV zg (by grind [ajC,size_alloc]) (aaW zg (hk _ _ e (dQ (ajC hr J))) ?_ ?_)
  .exact eG.mono zg zg _ _ g
  .exact eG.mono zg zg _ _ hx
def ajE{vs:List Bs}{nb X:Nat}{acc:List Ex}{x:Ex}{r:cg Ex}(u1 u2 u6 u7 u8 u9 yA yB yC vW vX yD u16 yE yG BL BM BN BO BP BQ BR BT BU Dg Dh Di Hv u32 Hw AU EE F5 F6 Ml Mm:Y)
  (hp:SP w pb tb T k vs d) (hf:cY pb w0 w) (fW:pb<w0.heap.size) (RQ:w0.heap.size<=X) (VW:g≠X) (hL:acc.length<=3000) (oL:bl.length=acc.length) (xy:pb<g)
  (hXb:w.heap[X]?=aN #[pp bx] 106) (hx:eG (fun b=>Nu w0 w b/\b≠X) w (pp bx) x)
  (hg:w.heap[g]?=aN iC 106) (AX:∀ j,j<bl.length->iC[j]?=O (pp (bl.getD j 0)))
  (lu:eH (fun b=>Nu w0 w b/\b≠X) w (bl.map (fun b=>a0U (O ⟨b,0,V⟩))) acc)
  (hr:mZ T [93] (CZ acc x) k vs=O r)
  (K:Act->Z->Prop) (hK:∀ a w,aBH.wp a9V (bodyPostM a3Z 3 a9V Tryz.f142 (jS eG pb tb T d w0 r)) a w->K a w) :
  aBG.wp a9V (Exit.then K (bodyPostM a3Z 3 a9V Tryz.f142 (jS eG pb tb T d w0 r))) { tmps:=#[pp pb,u1,u2,pp nb,cM g acc.length cap,pp X,u6,u7,u8,u9,yA,yB,yC,vW,vX,yD,u16,yE,yG,BL,BM,BN,BO,BP,BQ,BR,BT,BU,Dg,Dh,Di,Hv,u32,Hw,AU,EE,F5,F6,Ml,Mm],defers:=[] } w:=by
 change ∀ a w,Code.wp _ (Code.seq _ _) _ a w->_ at hK;have H:=a0a hp;have HF:=a0a hf;have HX:=a0a hXb;have HE:=a0a hx;have HG:=a0a hg;have HC:=a0a AX;have HXS:=a0a lu;have HR:=a0a hr;have JT:=a0a oL;have Mh:=hf.size;have VX:=bf hXb;clear hp hf hXb hx hg AX lu hr oL;change Code.wp _ (Code.region _ _ _) _ _ _
 go_wp2_with fail
 have hq:=HR.out;rw[mZ] at hq;by_cases hc:ep T k [93]=A
 .rw[zip hc,aZ9] at hq;subst hq;refine(RE H.out [93] hc).mono ?_;rintro e w1 ⟨rfl,dD,fY⟩;have kz:=a0a dD;have iu:=a0a fY;clear dD fY hc HR
  go_wp2_with fail
  refine(backward _ _ _ _).mono ?_;rintro e w2 ⟨rfl,rfl⟩;have pf:=iu.out.size;have Mf:w1.heap[X]?=_:=cY.bI iu.out HX.out zo zd;have tW:w1.heap[g]?=_:=cY.bI iu.out HG.out zo zd;have hI0:LI pb tb T (k+1) vs d X w0 bl acc x [] (w1.alloc (ae #[cM g acc.length cap] 83)):=by
   refine⟨kz.out.ext (by grind [dQ]),(HF.out.trans iu.out).alloc _,?_,by grind [size_alloc],bx,dQ Mf,fun _ _=>?_⟩
   .exact eH.mono (by grind [size_alloc]) (by grind [dQ,cY.ll,Hid.out]) _ _ HXS.out
   .simp only[a0A,Nat.sub_zero,List.drop_length];exact eG.mono (by grind [size_alloc]) (by grind [dQ,cY.ll,Hid.out]) _ _ HE.out
  have hB:(w1.alloc (ae #[cM g acc.length cap] 83)).heap[w1.heap.size]?=_:=blk_alloc_new _ _;have hgB:(w1.alloc (ae #[cM g acc.length cap] 83)).heap[g]?=_:=dQ tW;have aa7:w0.heap.size<=(w1.alloc (ae #[cM g acc.length cap] 83)).heap.size:=zg;have HI:=a0a hI0;have HB:=a0a hB;have HGB:=a0a hgB;have HS2:=a0a aa7;clear hI0 hB hgB aa7 Mf tW
  go_wp2_with fail
  have Mf:X<w1.heap.size:=zo;refine(wpIn_wide (n:=3)).1 (wpIn_rangeFunc_ownF (F:=a3Z) (n:=3) J zo (gf:=175) (lb:=#[pp w1.heap.size]) J trivial (enters_of func175 zk J)
   (aBo a3Z 2 trivial J zo w1.heap.size g cap X bl zo VW (by rw[JT.out];omega) _ (by rw[JT.out];exact HB.out) iC HGB.out HC.out) (by grind [JJ.trans])
   (fun W l o o' _ hl ho _ b cs t z _ hb=>(by grind [aa5,grownBy_putObj'])) (Below.refl _ _) zg
   (LI pb tb T (k+1) vs d X w0 bl acc x) (fun _ _ _=>False) (LI.own HS2.out) (fun c s W W' row h=>h.elim) HI.out
   (fun y=>{ tmps:=#[pp pb,u1,u2,pp nb,cM g acc.length cap,pp X,u6,pp y.2,u8,u9,yA,yB,yC,vW,vX,yD,u16,yE,yG,BL,BM,BN,BO,BP,BQ,BR,BT,BU,pp pb,ak #[],cM g acc.length cap,.func (.func 175) #[] #[pp w1.heap.size],zi (y.1:Int),pp y.2,AU,EE,F5,F6,Ml,Mm],defers:=[] }) ?assign ?body ?done ?stop)
  case assign=>
   intro l y W K hK
   gi_wp2_with (rw[Oper.semAt_eq _ _ _ (fun c h=>by cases h)];go_simp;try go_bits)
   omega
  case body=>
   intro l pre y W hI hlen;obtain⟨bv,mz,-⟩:=hI.2.2.2.2;have pj:W.cell? ⟨X,0,V⟩=O (pp bv):=cellOf mz J;have Gc:=jL mz 0;have hXW:=hI.2.2.2.1;have EI:=LI.step (y:=y) JT.out RQ fW hI bv mz;rw[a4f _ _ _ _ (by rw[size_alloc];omega),a4f _ _ _ _ hXW] at EI;have HST:=a0a EI;clear hI EI mz
   gi_wp2_with (rw[Oper.semAt_eq _ _ _ (fun c h=>by cases h)];go_simp;try go_bits)
   exact⟨(by grind [KeepsOthers.setCell,trans,KeepsOthers.alloc,KeepsOthers.trans]),fun b cs t z hb hc=>(by grind [dQ,blk_setCell_other]),HST.out⟩
  case done=>
   rintro D ys W hD rfl hI hK;have VY:=LI.own HS2.out _ W (W.putObj D (.deferred V)) (O D) hI (grownBy_putObj' W D _) (fun r e=>by cases e;exact⟨hD,_,hK,J⟩);obtain⟨bv,mz,-⟩:=hI.2.2.2.2;have pj:W.cell? ⟨X,0,V⟩=O (pp bv):=cellOf mz J;have hXW:=hI.2.2.2.1;have HBV:=a0a mz;have HII:=a0a VY;have HK:=a0a hK;clear hI VY mz hK
   go_wp2_with fail
   refine⟨zs,.inl ⟨_,_,J,run_takeDeferred HK.out,?_⟩⟩;refine⟨_,results_tmp J _ _ _,?_⟩;obtain⟨g1,g2,g3,g4,bv2,g5,g6⟩:=HII.out;have e5:=aa5 (grownBy_putObj' W D (.deferred V)) (fun r e=>by cases e;exact⟨_,HK.out,J⟩) _ _ _ _ HBV.out;have:bv2=bv:=by
    grind
   subst this;have e6:=g6 (by rw[VP]) (by rw[VP,JT.out];omega);rw[VP,JT.out,Nat.sub_self,List.drop_zero] at e6;exact⟨_,J,eG.mono zg zg _ _ e6,g1,g2⟩
  grind
 .rw[bX hc,aZ9] at hq;subst hq;refine(RF H.out [93] zg zd).mono ?_;rintro e w1 ⟨⟨b,rfl,eK,gy⟩,dU,gN⟩;exact⟨⟨b,J,eK,zo⟩,HF.out.trans dU,gN⟩
def aBP(Dk:∀ m,m<f+1->Hs m){r:cg Ex}(oJ:SP w0 pb tb T k vars d)(hd:d<=8)
  (h:rf T (f+1) k vars d=O r):Calls a9V 142 #[pp pb] w0 (jS eG pb tb T d w0 r):=by
 rw[rf] at h;by_cases pj:ep T k [93]=A
 .rw[zip pj,aZ9] at h;subst h;exact aBE oJ pj
 rw[bX pj] at h;cases Ac:rS T f k vars d [] with
 | none=>rw[Ac] at h;simp [cg.bind] at h
 | some re=>
 rw[Ac] at h;cases f with
 | zero=>simp [rS] at Ac
 | succ f=>
 rw[rS] at Ac;have dD:=a0a (oJ.ext (w':=w0.alloc JR) (by grind [dQ]));have HR:=a0a h;have Mn:=a0a Ac;have xw:=oJ.d2.2.2;have hT:=oJ.tw.len;obtain⟨i0,hi,JM,JO,JP⟩:=info_parts ajn;have iu:Hid (cY pb w0 (w0.alloc JR)):=a0a ((bz.refl _ _).alloc _);clear oJ h Ac;refine ajA func142 J ?_;simp only[ntmps142,List.size_toArray,a0j,a0A,Nat.reduceAdd,Nat.reduceSub,a3F,a3E,List.push_toArray,List.append_toArray,List.nil_append,List.cons_append]
 go_wp2_with fail
 refine(p8 dD.out [93] zg zd).mono ?_;rintro e w3 ⟨rfl,rfl⟩;clear pj
 go_wp2_with fail
 cases hq:jo T f 0 k vars d with
 | none=>have e:=Mn.out;rw[hq] at e;simp [cg.bind] at e
 | some q=>
 have e:=Mn.out;rw[hq] at e;refine((Dk f zo).go dD.out hd hq).mono ?_;cases q with
 | err c0 a0=>
  rintro e2 w4 ⟨⟨b,rfl,eK,gy⟩,dU,gN⟩;simp only[cg.bind,aZ9] at e;subst e;have hr:=HR.out;simp only[cg.bind,aZ9] at hr;subst hr;exact⟨⟨b,J,eK,by grind [size_alloc]⟩,iu.out.trans dU,gN⟩
 | ok x k' uS=>
 rintro e2 w1 ⟨v,rfl,hv,fy,eU⟩;simp only[cg.bind] at e;obtain⟨bx,rfl,jA⟩:=hv.shape;have nA:=(P.mono T f).oper _ _ _ _ _ _ _ hq;have pf:=eU.size;rw[size_alloc] at pf;have C2:=cY.bI eU (blk_alloc_new w0 JR) zo zg;have eO:(w1.alloc (ae #[pp bx] 106)).ownsRow w0.heap.size 106 1 (cM w1.heap.size 1 1) 1 [pp bx]:=
  ⟨J,.inr ⟨w1.heap.size,1,_,J,zo,blk_alloc_new _ _,Nat.le_refl _,zd,J,J⟩⟩
 have iW:eH (fun b=>Nu w0 (w1.alloc (ae #[pp bx] 106)) b/\(a0m (O ⟨w1.heap.size,0,V⟩) 1 1).ownBlock≠O b) (w1.alloc (ae #[pp bx] 106)) [pp bx] [x]:=by
  have:=eH.snoc (l:=[]) (vs:=[]) (F:=fun b=>Nu w0 (w1.alloc (ae #[pp bx] 106)) b/\(a0m (O ⟨w1.heap.size,0,V⟩) 1 1).ownBlock≠O b) (w:=w1.alloc (ae #[pp bx] 106)) (v:=pp bx) (x:=x)
   (eG.mono (fun b hb=>⟨(by grind [size_alloc]),fun e=>by injection e with e;grind⟩) (by grind [dQ]) _ _ hv) (by unfold eH;rfl)
  grind
 have RR:=a0a eO;have lU:=a0a iW;have iQ:=a0a (fy.ext (w':=w1.alloc (ae #[pp bx] 106)) fun b o h=>dQ h);have fK:Hid (cY pb w0 (w1.alloc (ae #[pp bx] 106))):=a0a ((iu.out.trans eU).alloc _);have HN1:Hid ((w1.alloc (ae #[pp bx] 106)).heap[w0.heap.size]?=O JR):=a0a (dQ C2);have HE:=a0a e;have HK:=a0a nA;clear hv fy eU eO iW e hq jA C2 Mn nA iu dD
 go_wp2_with fail
 refine wp_loop_ghost (fun n a w=>n<=f/\LJ pb tb T d w0 re n a w) ⟨f,Nat.le_refl _,[x],k',uS,_,_,_,_,_,_,_,_,_,_,_,_,_,_,_,_,_,_,_,_,_,_,_,_,_,_,_,_,_,_,_,_,_,_,_,_,_,_,_,J,RR.out,lU.out,iQ.out,fK.out,Nat.zero_lt_one,by have:=HK.out;simp;omega,HN1.out,by simpa using HE.out⟩ ?_;clear RR lU iQ fK HK HN1 HE pf;rintro n a w ⟨Zm,acc,k2,vs,xs,sl,u1,u2,u5,u6,u7,u8,u9,yA,yB,yC,vW,vX,yD,u16,yE,yG,BL,BM,BN,BO,BP,BQ,BR,BT,BU,Dg,Dh,Di,Hv,u32,Hw,AU,EE,F5,F6,Ml,Mm,rfl,dR,lu,hp,hf,h0a,VV,C2,hr⟩;have F7:=hp.kt;have hz:=hf.size;have BV:=hp.d2.2.2;obtain⟨g',rk,rfl⟩:∃ g cap,sl = cM g acc.length cap:=by
  obtain⟨g1,g2 | ⟨g,cp,cur,e1,e2,e3,e4⟩⟩:=dR<;>grind
 have HO:=a0a dR;have HX:=a0a lu;have HP:=a0a hp;have HF:=a0a hf;have HN:=a0a C2;by_cases hc:ep T k2 [44]=A
 .rw[zip hc] at hr;cases n with
  | zero=>grind [rS]
  | succ n=>
  rw[rS] at hr;have Ab:=a0a hr;clear dR lu hp hf C2 hr
  go_wp2_with fail
  refine(uP HP.out [44] hc).mono ?_;rintro e w2 ⟨rfl,fy,eU⟩;have iQ:=a0a fy;have fK:=a0a eU;clear fy eU hc
  go_wp2_with fail
  cases hq:jo T n 0 (k2+1) vs d with
  | none=>have e:=Ab.out;rw[hq] at e;simp [cg.bind] at e
  | some q=>
  have e:=Ab.out;rw[hq] at e;refine((Dk n zo).go iQ.out hd hq).mono ?_;cases q with
  | err c0 a0=>
   rintro e2 w4 ⟨⟨b,rfl,eK,gy⟩,dU,gN⟩;simp only[cg.bind,aZ9] at e;subst e;have hr:=HR.out;simp only[cg.bind,aZ9] at hr;subst hr;have:=fK.out.size;exact⟨⟨b,J,eK,zo⟩,(HF.out.trans fK.out).trans dU,gN⟩
  | ok x k' uS=>
  rintro e2 w3 ⟨v,rfl,hv,gK,dU⟩;simp only[cg.bind] at e;obtain⟨bx,rfl,jA⟩:=hv.shape;have nA:=(P.mono T n).oper _ _ _ _ _ _ _ hq;have qL:=fK.out.size;have EH:=dU.size;have jU:=gK.kt;have aa8:=iQ.out.d2.2.2;have rW:=gK.d2.2.2;have xx:w3.ownsRow w0.heap.size 106 1 (cM g' acc.length rk) acc.length xs:=by
   obtain⟨g1,g2 | ⟨g,cp,cur,e1,e2,e3,e4⟩⟩:=HO.out
   .omega
   .exact⟨g1,.inr ⟨g,cp,cur,e1,e2,cY.ll dU ⟨zg,J⟩ (cY.ll fK.out ⟨zg,J⟩ e3 zo) zo,e4⟩⟩
  have JQ:eH (fun b=>Nu w0 w3 b/\(a0m (O ⟨g',0,V⟩) acc.length rk).ownBlock≠O b) w3 xs acc:=
   eH.mono zg (by grind [cY.ll,Hid.out]) _ _ HX.out
  have hn3:w3.heap[w0.heap.size]?=O JR:=(by grind [cY.bI,Hid.out]);have uT:=a0a xx;have lU:=a0a JQ;have HV:=a0a hv;have kz:=a0a gK;have iu:=a0a ((HF.out.trans fK.out).trans dU);have HE:=a0a e;have Aa:=a0a jA;have HK:=a0a nA;have HN3:=a0a hn3;have Dl:w0.heap.size<=g':=(HO.out.lt g' J).1;have AY:g'<w.heap.size:=(HO.out.lt g' J).2;have aBS:g'≠w0.heap.size:=fun e=>by
   obtain⟨g1,g2 | ⟨g,cp,cur,e1,e2,e3,e4⟩⟩:=HO.out
   .omega
   .injection e1 with e1 _ _;injection e1 with e1;injection e1 with e1 _ _;rw[<- e1,e] at e3;rw[HN.out] at e3;injection e3 with e3;injection e3 with _ e3 _;exact absurd e3 zd
  clear hv gK dU xx JQ e hq jA hn3 nA
  go_wp2_with (at_builtin;go_must (refine Rd J _ _ 83 J w0.heap.size 106 i0 _ 1 8 underlying83 hi JM JO JP J zo _ _ _ J (uT.out.alloc _) ⟨w3.heap.size,0,V⟩ 1 1 [pp bx] J J (Ot J) (by simp [Value.oneCell']) (by grind [maxLen]) zo (by simp;omega) ?_;intro v' w4 rV yI AW;obtain⟨g2,Gd,rfl⟩:=LP rV;have F8:=a0a rV;have tU:=a0a yI;have RO:=a0a AW;clear rV yI AW))
  have jt:SP w4 pb tb T k' uS d:=(kz.out.ext fun b o h=>dQ (o:=a0L #[a0U (O ⟨bx,0,V⟩)] 106) h).OK (uT.out.alloc _) zg zo tU.out;have er:cY pb w0 w4:=(iu.out.alloc _).OL tU.out fun k hk=>(uT.out.lt k hk).1;have OP:=tU.out.size;rw[size_alloc] at OP;have OO:∀ (b:Nat) (o:Obj),w3.heap[b]?=O o->(a0m (O ⟨g',0,V⟩) acc.length rk).ownBlock≠O b->w4.heap[b]?=O o:=fun b o h dZ=>by
   have h':=dQ (o:=a0L #[a0U (O ⟨bx,0,V⟩)] 106) h;rw[tU.out.block b (bf h') (fun e=>dZ e.symm)];omega
  have oK:∀ b,b<w3.heap.size->(a0m (O ⟨g',0,V⟩) acc.length rk).ownBlock≠O b->(a0m (O ⟨g2,0,V⟩) (acc.length+1) Gd).ownBlock≠O b:=fun b hb dZ=>by
   rcases RO.out with h | h
   .rw[h];exact dZ
   grind [size_alloc]
  have hbn:∀ b,Nu w2 w3 b->(a0m (O ⟨g',0,V⟩) acc.length rk).ownBlock≠O b:=fun b hb e=>by
   have:=(HO.out.lt b e).2;omega
  have aa9:eH (fun b=>Nu w0 w4 b/\(a0m (O ⟨g2,0,V⟩) (acc.length+1) Gd).ownBlock≠O b) w4 (xs++[pp bx]) (acc++[x]):=
   eH.snoc (eG.mono zg zg _ _ HV.out)
    (eH.mono zg zg _ _ lU.out)
  have hn4:w4.heap[w0.heap.size]?=O JR:=OO _ _ HN3.out (fun e=>aBS (by injection e));have nA:=HK.out;exact⟨n,Nat.lt_succ_self n,zo,acc++[x],k',uS,_,_,_,_,_,_,_,_,_,_,_,_,_,_,_,_,_,_,_,_,_,_,_,_,_,_,_,_,_,_,_,_,_,_,_,_,_,_,_,J,by rw[List.length_append];exact F8.out,aa9,jt,er,zs,zg,hn4,HE.out⟩
 .rw[bX hc,aZ9] at hr;subst hr;clear dR lu hp hf C2
  go_wp2_with fail
  refine(p8 HP.out [44] zg zd).mono ?_;rintro e w2 ⟨rfl,rfl⟩;clear hc;have RQ:w0.heap.size<=w.heap.size:=hz;have hNX:=bf HN.out;have AY:=(HO.out.lt g' J);obtain⟨bl,sX,oL⟩:=HX.out.blocks;subst sX;have AX:∃ cur:Array Y,w.heap[g']?=aN cur 106/\∀ j,j<bl.length->cur[j]?=O (pp (bl.getD j 0)):=by
   obtain⟨g1,g2 | ⟨g,cp,cur,e1,e2,e3,e4,e5,e6,e7⟩⟩:=HO.out
   .omega
   .cases e1;refine⟨cur,e3,fun j hj=>?_⟩;have h1:(cur.toList.take (acc.length*1))[j]?=(bl.map (fun b=>a0U (O ⟨b,0,V⟩)))[j]?:=zg;grind
  obtain⟨cur,gF,AX⟩:=AX;have hbX:(w.alloc (ae #[pp w0.heap.size] 106)).heap[w.heap.size]?=aN #[pp w0.heap.size] 106:=blk_alloc_new _ _;have ajO:eH (fun b=>Nu w0 (w.alloc (ae #[pp w0.heap.size] 106)) b/\b≠w.heap.size) (w.alloc (ae #[pp w0.heap.size] 106)) (bl.map (fun b=>a0U (O ⟨b,0,V⟩))) acc:=
   eH.mono zg (by grind [dQ]) _ _ HX.out
  have VW:(w.alloc (ae #[pp w0.heap.size] 106)).heap[g']?=aN cur 106:=dQ gF;have HPX:=a0a (HP.out.ext (w':=w.alloc (ae #[pp w0.heap.size] 106)) fun b o h=>dQ h);have hFX:cY pb w0 (w.alloc (ae #[pp w0.heap.size] 106)):=HF.out.alloc _;have hnX:(w.alloc (ae #[pp w0.heap.size] 106)).heap[w0.heap.size]?=O JR:=dQ HN.out;have hsX:(w.alloc (ae #[pp w0.heap.size] 106)).heap.size=w.heap.size+1:=size_alloc _ _;have HFX:=a0a hFX;have HNX:=a0a hnX;have Aa:=a0a hbX;have HGX:=a0a VW;have HCU:=a0a AX;have HXX:=a0a ajO;have JT:=a0a oL;have HSX:=a0a hsX;have hr:=HR.out;simp only[cg.bind] at hr;have tW:=AY.1;have jv:=AY.2;clear hFX hnX hbX VW AX ajO oL gF AY HO HX HF HN HP hsX HR;by_cases hb:ep T k2 [124]=A
  .rw[zip hb] at hr;have Ab:=a0a hr;clear hr
   go_wp2_with fail
   refine(uP HPX.out [124] hb).mono ?_;rintro e w3 ⟨rfl,gK,dU⟩;have tV:=a0a gK;have nT:=a0a dU;have EH:=dU.size;rw[HSX.out] at EH;clear gK dU hb;have hXw:w.heap.size<w3.heap.size:=zo
   go_wp2_with fail
   cases hq:jo T (f+1) 0 (k2+1) vs d with
   | none=>have e:=Ab.out;rw[hq] at e;simp [cg.bind] at e
   | some q=>
   have e:=Ab.out;rw[hq] at e;refine((Dk (f+1) zo).go tV.out hd hq).mono ?_;cases q with
   | err c0 a0=>
    rintro e2 w4 ⟨⟨b,rfl,eK,gy⟩,er,uU⟩;simp only[cg.bind,aZ9] at e;subst e;exact⟨⟨b,J,eK,zo⟩,(HFX.out.trans nT.out).trans er,uU⟩
   | ok x k' uS=>
   rintro e2 w4 ⟨v,rfl,hv,jt,er⟩;simp only[cg.bind] at e;obtain⟨bx,rfl,jA⟩:=hv.shape;have AV:=er.size;have aUh:=jt.lt;have hX3:=cY.bI nT.out Aa.out zo zd;have Hy:w4.heap[w.heap.size]?=_:=cY.bI er hX3 zo zd;have OP:=cY.bI er (cY.bI nT.out HGX.out zo zd) zo zd;have hc4:w4.cell? ⟨w.heap.size,0,V⟩=O (pp w0.heap.size):=cellOf Hy J;have Gc:=jL Hy 0;have aUj:w.heap.size<w4.heap.size:=zo;have xz:(w4.setCell ⟨w.heap.size,0,V⟩ (pp bx)).heap.size=w4.heap.size:=size_setCell _ _ _;have Hz:(w4.setCell ⟨w.heap.size,0,V⟩ (pp bx)).heap[w.heap.size]?=aN #[pp bx] 106:=by rw[AO Hy];rfl
   have qM:∀ (b:Nat) (o:Obj),b≠w.heap.size->w4.heap[b]?=O o->(w4.setCell ⟨w.heap.size,0,V⟩ (pp bx)).heap[b]?=O o:=(by grind [blk_setCell_other]);have jW:=jt.setOther (o:=0) Hy zd zo zo (pp bx);have iR:cY pb w0 (w4.setCell ⟨w.heap.size,0,V⟩ (pp bx)):=((HFX.out.trans nT.out).trans er).LO RQ _;have rX:eG (fun b=>Nu w0 (w4.setCell ⟨w.heap.size,0,V⟩ (pp bx)) b/\b≠w.heap.size) (w4.setCell ⟨w.heap.size,0,V⟩ (pp bx)) (pp bx) x:=
    eG.mono zg zg _ _ hv
   have ajX:eH (fun b=>Nu w0 (w4.setCell ⟨w.heap.size,0,V⟩ (pp bx)) b/\b≠w.heap.size) (w4.setCell ⟨w.heap.size,0,V⟩ (pp bx)) (bl.map (fun b=>a0U (O ⟨b,0,V⟩))) acc:=
    eH.mono (by grind [Hid.out]) (by grind [cY.ll,Hid.out]) _ _ HXX.out
   have yJ:=qM g' _ zo OP;have aBU:=a0a (a0b jW (a0b iR (a0b Hz (a0b rX (a0b yJ (a0b ajX e))))));clear jW iR Hz rX yJ ajX e hv jt er hX3 Hy OP qM xz hq jA
   go_upto_region 10 with(fail)
   obtain⟨t1,t2,t3,t4,t5,t6,t7⟩:=aBU.out;exact ajE _ _ _ _ _ _ _ _ _ _ _ _ _ _ _ _ _ _ _ _ _ _ _ _ _ _ _ _ _ _ _ _ _ _ _ _ t1 t2 xw RQ zo zo JT.out zo t3 t4 t5 HCU.out t6 t7 _ (by assumption)
  .rw[bX hb] at hr;have Ab:=a0a hr;clear hr
   go_wp2_with fail
   refine(p8 HPX.out [124] zg zd).mono ?_;rintro e w3 ⟨rfl,rfl⟩;clear hb
   go_upto_region 10 with(fail)
   have Mo:eG (fun b=>Nu w0 (w.alloc (ae #[pp w0.heap.size] 106)) b/\b≠w.heap.size) (w.alloc (ae #[pp w0.heap.size] 106)) (pp w0.heap.size) (.mk 97 [91,93] 0 0 []):=
    JI ⟨⟨Nat.le_refl _,by rw[HSX.out];omega⟩,zo⟩ HNX.out
   exact ajE _ _ _ _ _ _ _ _ _ _ _ _ _ _ _ _ _ _ _ _ _ _ _ _ _ _ _ _ _ _ _ _ _ _ _ _ HPX.out HFX.out xw RQ zo zo JT.out zo Aa.out Mo HGX.out HCU.out HXX.out Ab.out _ (by assumption)
def ajY:RL 0:=⟨fun _ _ h=>by simp [rf] at h⟩
def aBV(a:∀ m,m<f->Hs m):RL f:=by
 cases f with
 | zero=>exact ajY
 | succ f=>exact⟨fun b c h=>aBP a b c h⟩
def aBW(hp:SP w pb tb T k vars d)(hd:8<d+1)(xr:d<=8) :
  Calls a9V 117 #[pp pb] w (jS eG pb tb T d w (.err 4 (tk T k).pos)):=by
 have H:=a0a hp;clear hp
 go_enter_defers func117,ntmps117
 go_wp2_with fail
 refine(VM H.out hd zo).mono ?_;rintro e w1 ⟨⟨b,rfl,hb⟩,hf,hs⟩;exact⟨⟨b,J,hb⟩,hf,hs⟩
def aBX(hint:VN)(hp:SP w pb tb T k vars d)(hd:d+1<=8)
  (hk:(tk T k).kind=3) :
  Calls a9V 117 #[pp pb] w (jS eG pb tb T d w (.ok (.mk 110 [] (P.num (tk T k).text) 0 []) (k+1) vars)):=by
 have H:=a0a hp;have HK:=a0a hk;clear hp hk
 go_enter_defers func117,ntmps117
 go_wp2_with fail
 refine(zU H.out hd).mono ?_;rintro e w1 ⟨rfl,dX,iW,dD,fY⟩;have lU:=a0a iW;have iu:=a0a fY;have kz:=a0a dD;have nB:=a0a dX;obtain⟨n,c,h0,f0,hb,l1,l2,l3,l4,fy,eU⟩:=dD.on (by have:=HK.out;omega);obtain⟨t0,t1,t2⟩:=dD.toks.at dD.kt;have xt:tb<w1.heap.size:=by have:=dD.lt;omega
 have dZ:¬ tb=pb:=by have:=dD.lt;omega
 have RH:¬ pb=tb:=zo;have iQ:=a0a fy;have fK:=a0a eU;rw[HK.out] at t0;clear dD fY iW dX fy eU
 go_wp2_with fail
 have xn:=H.out.tw.digits _ (JD H.out.kt) HK.out;refine(hint.go _ xn.1 xn.2.1 xn.2.2).mono ?_;rintro e w3 ⟨rfl,RS⟩;have Mp:=a0a RS;clear xn RS
 go_wp2_with fail
 have dX:=nB.out;have fW:pb<w.heap.size:=H.out.d2.2.2;have jA:=fK.out.bI lU.out zo zd;have hz:=Mp.out.size;rw[size_alloc,size_setCell] at hz;refine yx (j:=2) JG J fW (by grind [dQ,SP.ext,Hid.out,bz.ext]) zo (by grind [dQ,bz.ext,Hid.out]) ?_
  ((((iu.out.trans fK.out).alloc _).trans Mp.out.toM).alloc _)
 exact JI (by grind [size_alloc]) (blk_alloc_new _ _)
def aBY(RU:aaU)(hp:SP w pb tb T k vars d)(hd:d+1<=8)
  (hk:(tk T k).kind=2) :
  Calls a9V 117 #[pp pb] w (jS eG pb tb T d w (zI (tk T k) (k+1) vars)):=by
 have H:=a0a hp;have HK:=a0a hk;clear hp hk
 go_enter_defers func117,ntmps117
 go_wp2_with fail
 refine(zU H.out hd).mono ?_;rintro e w1 ⟨rfl,dX,iW,dD,fY⟩;have lU:=a0a iW;have iu:=a0a fY;have kz:=a0a dD;have nB:=a0a dX;obtain⟨n,c,h0,f0,hb,l1,l2,l3,l4,fy,eU⟩:=dD.on (by have:=HK.out;omega);obtain⟨t0,t1,t2⟩:=dD.toks.at dD.kt;have xt:tb<w1.heap.size:=by have:=dD.lt;omega
 have dZ:¬ tb=pb:=by have:=dD.lt;omega
 have RH:¬ pb=tb:=zo;have iQ:=a0a fy;have fK:=a0a eU;rw[HK.out] at t0;clear dD fY iW dX fy eU
 go_wp2_with fail
 have lG:=RU.go (tk T k) (iQ.out.ext fun b o (h:_=O o)=>dQ (o:=ae #[zi 2,aM ((tk T k).text),zi (tk T k).pos] 142) h)
  (H.out.tw.vars _ (JD H.out.kt) HK.out)
 rw[HK.out] at lG;refine lG.mono ?_;have dX:=nB.out;have fW:pb<w.heap.size:=H.out.d2.2.2;have jA:=fK.out.bI lU.out zo zd;have ajZ:∀ o,((F3 w1 pb tb k n c).alloc o).heap[w.heap.size]?=_:=fun o=>dQ (o:=o) jA;have sO:=fun o=>(iu.out.trans fK.out).alloc o;have jc:∀ o,((F3 w1 pb tb k n c).alloc o).heap.size=w.heap.size+2:=(by grind [size_alloc,size_setCell]);have HB:=a0a ajZ;have HR:=a0a sO;have HZ:=a0a jc;clear lG jA ajZ sO jc;cases hr:zI (tk T k) (k+1) vars with
 | ok x k' vs=>
  rintro e w3 ⟨v,rfl,hv,gK,dU⟩;have HV:=a0a hv;have tV:=a0a gK;have nT:=a0a dU;have Ab:=a0a hr;clear hv gK dU hr
  go_wp2_with fail
  have hz:=HZ.out (ae #[zi 2,aM ((tk T k).text),zi (tk T k).pos] 142);have EH:=nT.out.size;rw[Ab.out];refine yx (j:=2) JG J fW tV.out zo (by grind [cY.bI,Hid.out]) ?_ ((HR.out _).trans nT.out);exact eG.mono zg zg _ _ HV.out
 | err c0 a0=>
  rintro e w3 ⟨⟨b,rfl,eK,gy⟩,dU,gN⟩;have hz:=HZ.out (ae #[zi 2,aM ((tk T k).text),zi (tk T k).pos] 142);exact sT fW gN (by grind [cY.bI,Hid.out]) ⟨b,J,eK,zo⟩ ((HR.out _).trans dU)
def aBZ(hp:SP w pb tb T k vars d)(hd:d+1<=8)
  (hk:(tk T k).kind=1) (ho:ep T (k+1) [40]=G) :
  Calls a9V 117 #[pp pb] w (jS eG pb tb T d w (.ok (.mk 97 (tk T k).text 0 0 []) (k+1) vars)):=by
 have HO:=a0a ho;clear ho;have H:=a0a hp;have HK:=a0a hk;clear hp hk
 go_enter_defers func117,ntmps117
 go_wp2_with fail
 refine(zU H.out hd).mono ?_;rintro e w1 ⟨rfl,dX,iW,dD,fY⟩;have lU:=a0a iW;have iu:=a0a fY;have kz:=a0a dD;have nB:=a0a dX;obtain⟨n,c,h0,f0,hb,l1,l2,l3,l4,fy,eU⟩:=dD.on (by have:=HK.out;omega);obtain⟨t0,t1,t2⟩:=dD.toks.at dD.kt;have xt:tb<w1.heap.size:=by have:=dD.lt;omega
 have dZ:¬ tb=pb:=by have:=dD.lt;omega
 have RH:¬ pb=tb:=zo;have iQ:=a0a fy;have fK:=a0a eU;rw[HK.out] at t0;clear dD fY iW dX fy eU
 go_wp2_with fail
 refine(p8 (iQ.out.ext fun b o h=>dQ (dQ h)) [40] HO.out zd).mono ?_;rintro e w3 ⟨rfl,rfl⟩
 go_wp2_with fail
 have dX:=nB.out;have fW:pb<w.heap.size:=H.out.d2.2.2;have jA:=fK.out.bI lU.out zo zd;refine yx (j:=2) JG J fW (by grind [dQ,SP.ext,Hid.out]) zo (by grind [dQ]) ?_
  (by grind [bz.alloc,bz.trans,Hid.out])
 exact JI (by grind [size_alloc,size_setCell]) (by grind [EB,size_alloc,size_setCell])
def aB0(ly:OI f)(hp:SP w pb tb T k vars d)(hd:d+1<=8)
  (hk:(tk T k).kind=1) (ho:ep T (k+1) [40]=A) {r:cg (List Ex)} (hr:oX T f (k+2) vars (d+1) (tk T k).pos []=O r)
  {q:cg Ex} (hq:cg.bind (O r) (fun l k' vars'=>mZ T [41] (Ex.mk 99 (tk T k).text 0 0 l) k' vars')=O q) :
  Calls a9V 117 #[pp pb] w (jS eG pb tb T d w (q)):=by
 have HO:=a0a ho;have HR:=a0a hr;have HQ:=a0a hq;clear ho hr hq;have H:=a0a hp;have HK:=a0a hk;clear hp hk
 go_enter_defers func117,ntmps117
 go_wp2_with fail
 refine(zU H.out hd).mono ?_;rintro e w1 ⟨rfl,dX,iW,dD,fY⟩;have lU:=a0a iW;have iu:=a0a fY;have kz:=a0a dD;have nB:=a0a dX;obtain⟨n,c,h0,f0,hb,l1,l2,l3,l4,fy,eU⟩:=dD.on (by have:=HK.out;omega);obtain⟨t0,t1,t2⟩:=dD.toks.at dD.kt;have xt:tb<w1.heap.size:=by have:=dD.lt;omega
 have dZ:¬ tb=pb:=by have:=dD.lt;omega
 have RH:¬ pb=tb:=zo;have iQ:=a0a fy;have fK:=a0a eU;rw[HK.out] at t0;clear dD fY iW dX fy eU
 go_wp2_with fail
 refine(uP (iQ.out.ext fun b o h=>dQ (dQ h)) [40] HO.out).mono ?_;have dX:=nB.out;have fW:pb<w.heap.size:=H.out.d2.2.2;have vZ:=H.out.lt;have jA:=fK.out.bI lU.out zo zd;have aj1:∀ o o',(((F3 w1 pb tb k n c).alloc o).alloc o').heap[w.heap.size]?=_:=fun o o'=>dQ (o:=o') (dQ (o:=o) jA);have hex:∀ o o',(((F3 w1 pb tb k n c).alloc o).alloc o').heap[w1.heap.size+1]?=O o':=(by grind [EB,size_alloc,size_setCell]);have jc:∀ o o',(((F3 w1 pb tb k n c).alloc o).alloc o').heap.size=w1.heap.size+2:=(by grind [size_alloc,size_setCell]);have sO:=fun o o'=>((iu.out.trans fK.out).alloc o).alloc o';rintro e w3 ⟨rfl,gK,dU⟩;have aj2:=dU.bI (aj1 _ _) zo zd;have aj3:=dU.bI (hex _ _) zo zd;have aj4:=(sO _ _).trans dU;have EH:w1.heap.size+2<=w3.heap.size:=zg;have HB3:=a0a aj2;have Mp:=a0a aj3;have nT:=a0a aj4;have tV:=a0a gK;have HS:=a0a dX;have c2:w3.cell? ⟨w1.heap.size,2,V⟩=O (zi (tk T k).pos):=
  cellOf (dU.bI (b:=w1.heap.size) (dQ (EB (by rw[size_setCell]))) zo zd) J
 clear jA aj1 hex jc sO gK dU aj2 aj3 aj4 dX t0 t1 t2 h0 f0
 go_wp2_with fail
 refine(ly.go _ tV.out zo HR.out).mono ?_;cases r with
 | err c0 a0=>
  rintro e w4 ⟨⟨b,rfl,eK,gy⟩,dU,gN⟩;have e:=HQ.out;simp only[cg.bind,aZ9] at e;subst e;have dX:=nB.out;exact sT fW gN (by grind [cY.bI,Hid.out]) ⟨b,J,eK,zo⟩ (nT.out.trans dU)
 | ok l k' vs=>
  rintro e w4 ⟨v,rfl,hv,jt,er⟩;obtain⟨sa,sn,sc,rfl,-,-⟩:=hv.shape;have dX:=nB.out;have Mq:=er.bI Mp.out zo zd;have aj5:=er.bI HB3.out zo zd;have x0:w4.cell? ⟨w1.heap.size+1,0,V⟩=O (.int .u8 97):=cellOf Mq J;have x4:w4.cell? ⟨w1.heap.size+1,4,V⟩=O bH:=cellOf Mq J;have y0:=jL Mq 0;have y4:=jL Mq 4;have z4:=bf Mq;have AV:=er.size;have sU:=a0a jt;have Mr:=a0a hv;have sW:=a0a (nT.out.trans er);have HE4:=a0a Mq;have HB4:=a0a aj5;clear hv jt er Mq aj5 dX c2
  go_wp2_with fail
  have dX:=nB.out;have n1:w1.heap.size+1≠pb:=zo;have n2:tb<w1.heap.size+1:=zo;have n3:w.heap.size≠w1.heap.size+1:=zo;have abc:=AO (o:=0) HE4.out (.int .u8 99);have lz:=(sU.out.setOther (o:=0) HE4.out zd n1 n2 (.int .u8 99)).setOther (o:=4) abc zd n1 n2 (.slice sa sn sc);have aj8:=AO (o:=4) abc (.slice sa sn sc);have aj9:=(blk_setCell_other (a:=⟨w1.heap.size+1,4,V⟩) n3 (.slice sa sn sc)).trans ((blk_setCell_other (a:=⟨w1.heap.size+1,0,V⟩) n3 (.int .u8 99)).trans HB4.out);have aka:=(sW.out.LO (p:=⟨w1.heap.size+1,0,V⟩) (by show w.heap.size<=w1.heap.size+1;omega) (.int .u8 99)).LO (p:=⟨w1.heap.size+1,4,V⟩) (by show w.heap.size<=w1.heap.size+1;omega) (.slice sa sn sc);have AZ:=(Mr.out.set (x:=w1.heap.size+1) (o:=0) (fun b hb=>by have:=hb.1;omega) (.int .u8 99)).set (x:=w1.heap.size+1) (o:=4) (fun b hb=>by have:=hb.1;omega) (.slice sa sn sc);have hz6:∀ u v,((w4.setCell ⟨w1.heap.size+1,0,V⟩ u).setCell ⟨w1.heap.size+1,4,V⟩ v).heap.size=w4.heap.size:=(by grind [size_setCell]);have HE6:=a0a aj8;have HB6:=a0a aj9;have HF6:=a0a aka;have HV6:=a0a AZ;have HZ6:=a0a hz6;have HP6:=a0a lz;clear abc lz aj8 aj9 aka AZ hz6 x0 x4 y0 y4;have hq:=HQ.out;simp only[cg.bind,mZ] at hq;by_cases hc:ep T k' [41]=A
  .rw[zip hc,aZ9] at hq;subst hq;refine(RE HP6.out [41] hc).mono ?_;rintro e w7 ⟨rfl,mB,yK⟩;have HP7:=a0a mB;have JU:=a0a yK;clear mB yK hc n1 n2 n3 dX
   go_wp2_with fail
   have dX:=nB.out;have hz7:=JU.out.size;rw[HZ6.out] at hz7;refine yx (j:=2) JG J fW HP7.out zo (by grind [cY.bI,Hid.out]) ?_ (HF6.out.trans JU.out);refine aaV ⟨zo,zo⟩ (JU.out.bI HE6.out zo zd) ?_;exact aBg _ _ _ _ _ _ _ HV6.out JU.out fun b hb=>⟨by have:=hb.1;omega,by have:=hb.1;have:=hb.2;exact⟨zo,zo⟩⟩
  .rw[bX hc,aZ9] at hq;subst hq;refine(RF HP6.out [41] zg zd).mono ?_;rintro e w7 ⟨⟨b,rfl,eK,gy⟩,dU,gN⟩;rw[HZ6.out] at gy;exact sT fW gN (by grind [cY.bI,Hid.out]) ⟨b,J,eK,zo⟩ (HF6.out.trans dU)
def aB6(hp:SP w pb tb T k vars d)(hd:d+1<=8)
  (hk:(tk T k).kind=0\/(tk T k).kind=4) (hm:ep T k [45]=G) (hn:ep T k [40]=G) (hl:ep T k [91]=G) :
  Calls a9V 117 #[pp pb] w (jS eG pb tb T d w (.err 2 (tk T k).pos)):=by
 have HM:=a0a hm;have HN:=a0a hn;have HL:=a0a hl;clear hm hn hl;have H:=a0a hp
 go_enter_defers func117,ntmps117
 go_wp2_with fail
 refine(zU H.out hd).mono ?_;rintro e w1 ⟨rfl,dX,iW,dD,fY⟩;have lU:=a0a iW;have iu:=a0a fY;have kz:=a0a dD;have nB:=a0a dX;obtain⟨n,c,h0,l1,l2,-,l3,l4⟩:=dD.l0;obtain⟨t0,t1,t2⟩:=dD.toks.at dD.kt;obtain⟨kd,iP⟩:∃ kd:Int,kd=((tk T k).kind:Int):=⟨_,J⟩;rw[<- iP] at t0;have k1:(kd == 1)=false:=zg;have k2:(kd == 2)=false:=zg;have k3:(kd == 3)=false:=zg;have BV:pb<w1.heap.size:=dD.d2.2.2;have xt:tb<w1.heap.size:=a3k dD.lt BV;have fW:pb<w.heap.size:=hp.d2.2.2;have vZ:=hp.lt;clear dD fY iW dX hk iP hp
 go_wp2_with fail
 have xB:∀ o,SP (w1.alloc o) pb tb T k vars (d+1):=(by grind [dQ,SP.ext,Hid.out]);have A2:∀ o,(w1.alloc o).heap[w.heap.size]?=_:=fun o=>dQ (o:=o) lU.out;have A4:=fun o=>iu.out.alloc o;have A5:∀ o,(w1.alloc o).heap.size=w.heap.size+2:=(by grind [size_alloc,Hid.out]);have Ad:=a0a xB;have JV:=a0a A2;have HT:=a0a A4;have HU:=a0a A5;clear xB A2 A4 A5;refine(p8 (Ad.out _) [45] HM.out zd).mono ?_;rintro e w2 ⟨rfl,rfl⟩
 go_wp2_with fail
 refine(p8 (Ad.out _) [40] HN.out zd).mono ?_;rintro e w2 ⟨rfl,rfl⟩
 go_wp2_with fail
 refine(p8 (Ad.out _) [91] HL.out zd).mono ?_;rintro e w2 ⟨rfl,rfl⟩
 go_wp2_with fail
 refine(OH (Ad.out _)).mono ?_;rintro e w2 ⟨⟨b,rfl,eK,gy⟩,dU,gN⟩;rw[HU.out] at gy;have dX:=nB.out;exact sT fW gN (by grind [cY.bI,Hid.out]) ⟨b,J,eK,zo⟩ ((HT.out _).trans dU)
def aB7(abe:RL f)(hp:SP w pb tb T k vars d)(hd:d+1<=8)
  (hk:(tk T k).kind=0\/(tk T k).kind=4) (hm:ep T k [45]=G) (hn:ep T k [40]=G) (hl:ep T k [91]=A)
  {r:cg Ex} (hr:rf T f (k+1) vars (d+1)=O r) :
  Calls a9V 117 #[pp pb] w (jS eG pb tb T d w (r)):=by
 have HM:=a0a hm;have HN:=a0a hn;have HL:=a0a hl;have HR:=a0a hr;clear hm hn hl hr;have H:=a0a hp
 go_enter_defers func117,ntmps117
 go_wp2_with fail
 refine(zU H.out hd).mono ?_;rintro e w1 ⟨rfl,dX,iW,dD,fY⟩;have lU:=a0a iW;have iu:=a0a fY;have kz:=a0a dD;have nB:=a0a dX;obtain⟨n,c,h0,l1,l2,-,l3,l4⟩:=dD.l0;obtain⟨t0,t1,t2⟩:=dD.toks.at dD.kt;obtain⟨kd,iP⟩:∃ kd:Int,kd=((tk T k).kind:Int):=⟨_,J⟩;rw[<- iP] at t0;have k1:(kd == 1)=false:=zg;have k2:(kd == 2)=false:=zg;have k3:(kd == 3)=false:=zg;have BV:pb<w1.heap.size:=dD.d2.2.2;have xt:tb<w1.heap.size:=a3k dD.lt BV;have fW:pb<w.heap.size:=hp.d2.2.2;have vZ:=hp.lt;clear dD fY iW dX hk iP hp
 go_wp2_with fail
 have xB:∀ o,SP (w1.alloc o) pb tb T k vars (d+1):=(by grind [dQ,SP.ext,Hid.out]);have A2:∀ o,(w1.alloc o).heap[w.heap.size]?=_:=fun o=>dQ (o:=o) lU.out;have A4:=fun o=>iu.out.alloc o;have A5:∀ o,(w1.alloc o).heap.size=w.heap.size+2:=(by grind [size_alloc,Hid.out]);have Ad:=a0a xB;have JV:=a0a A2;have HT:=a0a A4;have HU:=a0a A5;clear xB A2 A4 A5;refine(p8 (Ad.out _) [45] HM.out zd).mono ?_;rintro e w2 ⟨rfl,rfl⟩
 go_wp2_with fail
 refine(p8 (Ad.out _) [40] HN.out zd).mono ?_;rintro e w2 ⟨rfl,rfl⟩
 go_wp2_with fail
 refine(uP (Ad.out _) [91] HL.out).mono ?_;rintro e w2 ⟨rfl,fy,eU⟩;have iQ:=a0a fy;have qL:=eU.size;rw[HU.out] at qL;have VZ:=a0a (eU.bI (JV.out _) zo zd);have fK:=a0a ((HT.out _).trans eU);clear fy eU
 go_wp2_with fail
 refine(abe.go iQ.out zo HR.out).mono ?_;cases r with
 | err c0 a0=>
  rintro e w4 ⟨⟨b,rfl,eK,gy⟩,dU,gN⟩;exact sT fW gN (by grind [cY.bI,Hid.out]) ⟨b,J,eK,zo⟩ (fK.out.trans dU)
 | ok x k' vs=>
  rintro e w4 ⟨v,rfl,hv,jt,er⟩;have HV:=a0a hv;have sU:=a0a jt;have sW:=a0a er;clear hv jt er
  go_wp2_with fail
  refine yx (j:=2) JG J fW sU.out zo (by grind [cY.bI,Hid.out]) ?_ (fK.out.trans sW.out);exact eG.mono zg zg _ _ HV.out
def aB8(abf:Hs f)(hp:SP w pb tb T k vars d)(hd:d+1<=8)
  (hk:(tk T k).kind=0\/(tk T k).kind=4) (hm:ep T k [45]=G) (hn:ep T k [40]=A)
  {r:cg Ex} (hr:jo T f 0 (k+1) vars (d+1)=O r) {q:cg Ex} (hq:cg.bind (O r) (fun x k' vars'=>mZ T [41] x k' vars')=O q) :
  Calls a9V 117 #[pp pb] w (jS eG pb tb T d w (q)):=by
 have HM:=a0a hm;have HN:=a0a hn;have HR:=a0a hr;have HQ:=a0a hq;clear hm hn hr hq;have H:=a0a hp
 go_enter_defers func117,ntmps117
 go_wp2_with fail
 refine(zU H.out hd).mono ?_;rintro e w1 ⟨rfl,dX,iW,dD,fY⟩;have lU:=a0a iW;have iu:=a0a fY;have kz:=a0a dD;have nB:=a0a dX;obtain⟨n,c,h0,l1,l2,-,l3,l4⟩:=dD.l0;obtain⟨t0,t1,t2⟩:=dD.toks.at dD.kt;obtain⟨kd,iP⟩:∃ kd:Int,kd=((tk T k).kind:Int):=⟨_,J⟩;rw[<- iP] at t0;have k1:(kd == 1)=false:=zg;have k2:(kd == 2)=false:=zg;have k3:(kd == 3)=false:=zg;have BV:pb<w1.heap.size:=dD.d2.2.2;have xt:tb<w1.heap.size:=a3k dD.lt BV;have fW:pb<w.heap.size:=hp.d2.2.2;have vZ:=hp.lt;clear dD fY iW dX hk iP hp
 go_wp2_with fail
 have xB:∀ o,SP (w1.alloc o) pb tb T k vars (d+1):=(by grind [dQ,SP.ext,Hid.out]);have A2:∀ o,(w1.alloc o).heap[w.heap.size]?=_:=fun o=>dQ (o:=o) lU.out;have A4:=fun o=>iu.out.alloc o;have A5:∀ o,(w1.alloc o).heap.size=w.heap.size+2:=(by grind [size_alloc,Hid.out]);have Ad:=a0a xB;have JV:=a0a A2;have HT:=a0a A4;have HU:=a0a A5;clear xB A2 A4 A5;refine(p8 (Ad.out _) [45] HM.out zd).mono ?_;rintro e w2 ⟨rfl,rfl⟩
 go_wp2_with fail
 refine(uP (Ad.out _) [40] HN.out).mono ?_;rintro e w2 ⟨rfl,fy,eU⟩;have iQ:=a0a fy;have qL:=eU.size;rw[HU.out] at qL;have VZ:=a0a (eU.bI (JV.out _) zo zd);have fK:=a0a ((HT.out _).trans eU);clear fy eU
 go_wp2_with fail
 refine(abf.go iQ.out zo HR.out).mono ?_;cases r with
 | err c0 a0=>
  rintro e w4 ⟨⟨b,rfl,eK,gy⟩,dU,gN⟩;have e:=HQ.out;simp only[cg.bind,aZ9] at e;subst e;exact sT fW gN (by grind [cY.bI,Hid.out]) ⟨b,J,eK,zo⟩ (fK.out.trans dU)
 | ok x k' vs=>
  rintro e w4 ⟨v,rfl,hv,jt,er⟩;have HV:=a0a hv;have sU:=a0a jt;have sW:=a0a er;have HB4:=a0a (er.bI VZ.out zo zd);have AV:=er.size;clear hv jt er
  go_wp2_with fail
  have hq:=HQ.out;simp only[cg.bind,mZ] at hq;by_cases hc:ep T k' [41]=A
  .rw[zip hc,aZ9] at hq;subst hq;refine(RE sU.out [41] hc).mono ?_;rintro e w7 ⟨rfl,mB,yK⟩;have HP7:=a0a mB;have JU:=a0a yK;clear mB yK hc
   go_wp2_with fail
   have hz7:=JU.out.size;refine yx (j:=2) JG J fW HP7.out zo (by grind [cY.bI,Hid.out]) ?_ ((fK.out.trans sW.out).trans JU.out);exact JG _ _ _ _ _ _ _ HV.out JU.out zg
  .rw[bX hc,aZ9] at hq;subst hq;refine(RF sU.out [41] zg zd).mono ?_;rintro e w7 ⟨⟨b,rfl,eK,gy⟩,dU,gN⟩;exact sT fW gN (by grind [cY.bI,Hid.out]) ⟨b,J,eK,zo⟩ ((fK.out.trans sW.out).trans dU)
abbrev EJ(w:Z)(x:Nat)(a b c:Y):Z:=((w.setCell ⟨x,0,V⟩ a).setCell ⟨x,1,V⟩ b).setCell ⟨x,2,V⟩ c
def akg(w:Z)(x:Nat)(a b c:Y):(EJ w x a b c).heap.size=w.heap.size:=by grind [size_setCell]
theorem abg{x y:Nat}(h:y≠x)(a b c:Y):(EJ w x a b c).heap[y]?=w.heap[y]?:=by
 grind [blk_setCell_other]
def SP.EJ{w:Z}{pb tb x:Nat}{T:List P.Tok}{k:Nat}{vars:List Bs}{d:Nat}{cs:Array Y}{t:TypeId}{z:Nat×Nat}(h:SP w pb tb T k vars d)
  (hx:w.heap[x]?=O (ae cs t z)) (ht:t≠9) (e:x≠pb) (f:tb<x) (a b c:Y):SP (EJ w x a b c) pb tb T k vars d:=
 ((h.setOther hx ht e f a).setOther (AO hx a) ht e f b).setOther (AO (AO hx a) b) ht e f c
def bz.EJ{M:Nat->Obj->Prop}{a b:Z}(h:bz M a b){x:Nat}(hx:a.heap.size<=x)(u v s:Y):bz M a (EJ b x u v s):=
 (by grind [LO])
def aB9(hp:SP w pb tb T k vars d)(hd:d+1<=8)
  (hk:(tk T k).kind=0\/(tk T k).kind=4) (hm:ep T k [45]=A) (hn:(tk T (k+1)).kind≠3) :
  Calls a9V 117 #[pp pb] w (jS eG pb tb T d w (.err 2 (tk T (k+1)).pos)):=by
 have HM:=a0a hm;have HN:=a0a hn;clear hm hn;have H:=a0a hp
 go_enter_defers func117,ntmps117
 go_wp2_with fail
 refine(zU H.out hd).mono ?_;rintro e w1 ⟨rfl,dX,iW,dD,fY⟩;have lU:=a0a iW;have iu:=a0a fY;have kz:=a0a dD;have nB:=a0a dX;obtain⟨n,c,h0,l1,l2,-,l3,l4⟩:=dD.l0;obtain⟨t0,t1,t2⟩:=dD.toks.at dD.kt;obtain⟨kd,iP⟩:∃ kd:Int,kd=((tk T k).kind:Int):=⟨_,J⟩;rw[<- iP] at t0;have k1:(kd == 1)=false:=zg;have k2:(kd == 2)=false:=zg;have k3:(kd == 3)=false:=zg;have BV:pb<w1.heap.size:=dD.d2.2.2;have xt:tb<w1.heap.size:=a3k dD.lt BV;have fW:pb<w.heap.size:=hp.d2.2.2;have vZ:=hp.lt;clear dD fY iW dX hk iP hp
 go_wp2_with fail
 have xB:∀ o,SP (w1.alloc o) pb tb T k vars (d+1):=(by grind [dQ,SP.ext,Hid.out]);have A2:∀ o,(w1.alloc o).heap[w.heap.size]?=_:=fun o=>dQ (o:=o) lU.out;have A4:=fun o=>iu.out.alloc o;have A5:∀ o,(w1.alloc o).heap.size=w.heap.size+2:=(by grind [size_alloc,Hid.out]);have Ad:=a0a xB;have JV:=a0a A2;have HT:=a0a A4;have HU:=a0a A5;clear xB A2 A4 A5;have sX:∀ o,(w1.alloc o).heap[w1.heap.size]?=O o:=(by grind [blk_alloc_new]);refine(uP (Ad.out _) [45] HM.out).mono ?_;rintro e w2 ⟨rfl,fy,eU⟩;have dX:=nB.out;have qL:=eU.size;rw[HU.out] at qL;have ff:=eU.bI (sX _) zo zd;have y0:=jL ff 0;have y1:=jL ff 1;have y2:=jL ff 2;have c0:w2.cell? ⟨w1.heap.size,0,V⟩=O (zi kd):=cellOf ff J;have c1:w2.cell? ⟨w1.heap.size,1,V⟩=O (aM ((tk T k).text)):=cellOf ff J;have c2:w2.cell? ⟨w1.heap.size,2,V⟩=O (zi (tk T k).pos):=cellOf ff J;have iQ:=a0a fy;have RP:=a0a ff;have VZ:=a0a (eU.bI (JV.out _) zo zd);have fK:=a0a ((HT.out _).trans eU);have aa8:pb<w2.heap.size:=zo;have aCb:tb<w2.heap.size:=zo;have aCc:w1.heap.size<w2.heap.size:=zo;have q1:¬ w1.heap.size=pb:=zo;have q2:¬ w1.heap.size=tb:=zo;have q3:¬ pb=w1.heap.size:=zo;have q4:¬ tb=w1.heap.size:=zo;obtain⟨n2,cc2,g0,g1,g2,-,g3,g4⟩:=fy.l0;obtain⟨u0,u1,u2⟩:=fy.toks.at fy.kt;obtain⟨kd2,akh⟩:∃ kd:Int,kd=((tk T (k+1)).kind:Int):=⟨_,J⟩;rw[<- akh] at u0;have k32:(kd2 != 3)=true:=by simp;have:=HN.out;omega
 clear fy eU ff dX sX akh h0 t0 t1 t2
 go_wp2_with fail
 refine(OH (iQ.out.EJ RP.out zd q1 zo _ _ _)).mono ?_;rintro e w3 ⟨⟨b,rfl,eK,gy⟩,dU,gN⟩;rw[akg] at gy;have dX:=nB.out;exact sT fW gN (by grind [abg,trans,cY.bI,Hid.out]) ⟨b,J,eK,zo⟩ ((fK.out.EJ zo _ _ _).trans dU)
def aCe(hint:VN)(hp:SP w pb tb T k vars d)(hd:d+1<=8)
  (hk:(tk T k).kind=0\/(tk T k).kind=4) (hm:ep T k [45]=A) (hn:(tk T (k+1)).kind=3) :
  Calls a9V 117 #[pp pb] w (jS eG pb tb T d w (.ok (.mk 110 [] (- P.num (tk T (k+1)).text) 0 []) (k+2) vars)):=by
 have HM:=a0a hm;have HN:=a0a hn;clear hm hn;have H:=a0a hp
 go_enter_defers func117,ntmps117
 go_wp2_with fail
 refine(zU H.out hd).mono ?_;rintro e w1 ⟨rfl,dX,iW,dD,fY⟩;have lU:=a0a iW;have iu:=a0a fY;have kz:=a0a dD;have nB:=a0a dX;obtain⟨n,c,h0,l1,l2,-,l3,l4⟩:=dD.l0;obtain⟨t0,t1,t2⟩:=dD.toks.at dD.kt;obtain⟨kd,iP⟩:∃ kd:Int,kd=((tk T k).kind:Int):=⟨_,J⟩;rw[<- iP] at t0;have k1:(kd == 1)=false:=zg;have k2:(kd == 2)=false:=zg;have k3:(kd == 3)=false:=zg;have BV:pb<w1.heap.size:=dD.d2.2.2;have xt:tb<w1.heap.size:=a3k dD.lt BV;have fW:pb<w.heap.size:=hp.d2.2.2;have vZ:=hp.lt;clear dD fY iW dX hk iP hp
 go_wp2_with fail
 have xB:∀ o,SP (w1.alloc o) pb tb T k vars (d+1):=(by grind [dQ,SP.ext,Hid.out]);have A2:∀ o,(w1.alloc o).heap[w.heap.size]?=_:=fun o=>dQ (o:=o) lU.out;have A4:=fun o=>iu.out.alloc o;have A5:∀ o,(w1.alloc o).heap.size=w.heap.size+2:=(by grind [size_alloc,Hid.out]);have Ad:=a0a xB;have JV:=a0a A2;have HT:=a0a A4;have HU:=a0a A5;clear xB A2 A4 A5;have sX:∀ o,(w1.alloc o).heap[w1.heap.size]?=O o:=(by grind [blk_alloc_new]);refine(uP (Ad.out _) [45] HM.out).mono ?_;rintro e w2 ⟨rfl,fy,eU⟩;have dX:=nB.out;have qL:=eU.size;rw[HU.out] at qL;have ff:=eU.bI (sX _) zo zd;have y0:=jL ff 0;have y1:=jL ff 1;have y2:=jL ff 2;have c0:w2.cell? ⟨w1.heap.size,0,V⟩=O (zi kd):=cellOf ff J;have c1:w2.cell? ⟨w1.heap.size,1,V⟩=O (aM ((tk T k).text)):=cellOf ff J;have c2:w2.cell? ⟨w1.heap.size,2,V⟩=O (zi (tk T k).pos):=cellOf ff J;have iQ:=a0a fy;have RP:=a0a ff;have VZ:=a0a (eU.bI (JV.out _) zo zd);have fK:=a0a ((HT.out _).trans eU);have aa8:pb<w2.heap.size:=zo;have aCb:tb<w2.heap.size:=zo;have aCc:w1.heap.size<w2.heap.size:=zo;have q1:¬ w1.heap.size=pb:=zo;have q2:¬ w1.heap.size=tb:=zo;have q3:¬ pb=w1.heap.size:=zo;have q4:¬ tb=w1.heap.size:=zo;have gK:=fy.EJ ff zg q1 zo (zi 3) (aM ((tk T (k+1)).text)) (zi (tk T (k+1)).pos);obtain⟨n2,cc2,g0,f0,g5,g1,g2,g3,g4,jt,er⟩:=gK.on (by rw[HN.out];decide);have e0:w2.cell? ⟨pb,0,V⟩=O (.slice (O ⟨tb,(k+1)*3,V⟩) n2 cc2):=by
  grind [World.cell?_of_block,abg]
 have e1:w2.frozen? ⟨pb,0,V⟩=false:=by
  obtain⟨_,_,_,_,q,_⟩:=fy.yv;exact jL q 0
 obtain⟨u0,u1,u2⟩:=fy.toks.at fy.kt;have xn:=fy.tw.digits _ (JD fy.kt) HN.out;rw[HN.out] at u0;have e2:(k+1)*3=k*3+3:=zo;rw[e2] at e0 u0 u1 u2;have jW:SP ((EJ w2 w1.heap.size (zi 3) (aM ((tk T (k+1)).text)) (zi (tk T (k+1)).pos)).setCell ⟨pb,0,V⟩ (.slice (O ⟨tb,k*3+3+3,V⟩) (n2-1) (cc2-1)))
   pb tb T (k+1+1) vars (d+1):=zg
 have sU:=a0a jW;have HDG:=a0a xn;have HE2:=a0a e2;have nb:=Zr xn.2.1 xn.2.2;obtain⟨nb1,nb2⟩:=nb;clear fy eU ff dX sX h0 t0 t1 t2 gK jt er xn g0 f0 g5 e2 jW
 go_wp2_with fail
 refine(hint.go _ HDG.out.1 HDG.out.2.1 HDG.out.2.2).mono ?_;rintro e w3 ⟨rfl,RS⟩;have Mp:=a0a RS;clear RS
 go_wp2_with fail
 have dX:=nB.out;have hz:=Mp.out.size;rw[size_setCell,akg] at hz;refine yx (j:=2) JG J fW (by grind [dQ,SP.ext,Hid.out,bz.ext]) zo
  (by grind [dQ,blk_setCell_other,trans,abg,bz.ext,Hid.out]) ?_
  ((((fK.out.EJ zo _ _ _).trans (cY.F2 (bz.refl _ _) _)).trans Mp.out.toM).alloc _)
 exact JI (by grind [size_alloc]) (blk_alloc_new _ _)
def aCf:RI 0:=⟨fun _ _ h=>by simp [pR] at h⟩
def aCg(t:OI f)(g:Hs f)(i:RL f)(u:aaU)(hint:VN):RI (f+1):=by
 refine⟨fun{pb tb T k vars d w r} a x h=>?_⟩;rw[pR] at h;by_cases j:P.maxDepth<d+1
 .rw[zip j,aZ9] at h;subst h;exact aBW a j x
 rw[bX j] at h;have b:d+1<=8:=by grind [P.maxDepth]
 by_cases l:(tk T k).kind=3
 .rw[zip l,aZ9] at h;subst h;exact aBX hint a b l
 rw[bX l] at h;by_cases m:(tk T k).kind=2
 .rw[zip m,aZ9] at h;subst h;exact aBY u a b m
 rw[bX m] at h;by_cases e:(tk T k).kind=1
 .rw[zip e] at h;by_cases n:ep T (k+1) [40]=A
  .rw[zip n] at h;cases hr:oX T f (k+2) vars (d+1) (tk T k).pos [] with
   | none=>rw[hr] at h;simp [cg.bind] at h
   | some q=>rw[hr] at h;exact aB0 t a b e n hr h
  .rw[bX n,aZ9] at h;subst h;exact aBZ a b e zg
 rw[bX e] at h;have hk:(tk T k).kind=0\/(tk T k).kind=4:=by have:=a.tw.kind _ (JD a.kt);omega
 by_cases hm:ep T k [45]=A
 .rw[zip hm] at h;by_cases c:(tk T (k+1)).kind=3
  .rw[zip c,aZ9] at h;subst h;exact aCe hint a b hk hm c
  .rw[bX c,aZ9] at h;subst h;exact aB9 a b hk hm c
 rw[bX hm] at h;have o:ep T k [45]=false:=zg;by_cases c:ep T k [40]=A
 .rw[zip c] at h;cases hr:jo T f 0 (k+1) vars (d+1) with
  | none=>rw[hr] at h;simp [cg.bind] at h
  | some q=>rw[hr] at h;exact aB8 g a b hk o c hr h
 rw[bX c] at h;have s:ep T k [40]=false:=zg;by_cases p:ep T k [91]=A
 .rw[zip p] at h;exact aB7 i a b hk o s p h
 rw[bX p,aZ9] at h;subst h;exact aB6 a b hk o s zg
