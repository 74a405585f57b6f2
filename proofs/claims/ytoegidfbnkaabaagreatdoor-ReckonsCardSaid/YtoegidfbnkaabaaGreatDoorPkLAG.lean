/- A part of one proof (SList, SPrim, SPrim2, SPrim3, SPrim4, SPrim5). -/
import Derived.Test.YtoegidfbnkaabaaGreatDoorPkLAF
import Derived.Deep.Cut
set_option linter.all false
set_option maxRecDepth 100000
set_option maxHeartbeats 8000000
open Option renaming some → O, none → V
open Go renaming Value → Y, World → Z
open Bool renaming true → A, false → G
open Go.Obj renaming cells → ae
open Go.Ending renaming returned → ah
open Go.Value renaming tuple → ak
open Option.some renaming injEq → a1o
open Go.Lib renaming hid → a1p
open And renaming intro → a1q
open List renaming length_cons → a1x, length_nil → a1L
open Go.Value renaming slice → a1D, pointer → a2h
open Go.Obj renaming cells → a17
open Nat renaming lt_trans → a4z
open Array renaming replicate_zero → a4U, replicate_succ → a4V
open Go.Fence renaming wide → a5j
open Go.World renaming setCell_alloc_past → a5x
open Go.Proofs.Tryz renaming prog → bbr
open Go.Proofs.Tryz
namespace Go.Proofs.YtoegidfbnkaabaaGreatDoor
open P
open Go.RowKit
variable{B bx cap d f g k n pb tb:Nat}{R:Ending->Z->Prop}{T:List P.Tok}{W w w0:Z}{bl:List Nat}{fn:Func}{v:Y}{iB:Array Y}{vars:List Bs}
def akv{P:Program}{f:FuncId}{c:Code}{args:Array Y}
  (a:P.funcs[f]?=O fn) (b:fn.body=O c)
  (h:c.wp P (bodyPostM a5j 3 P fn R) { tmps:=args++Array.replicate (fn.ntmps-args.size) undef,defers:=[] } w):Calls P f args w R:=
 callsIn_wide.1 (callsIn_of_wp_marks (n:=3) a b trivial (wpIn_wide.2 h) J)
def aCd{P:Program}{tmps:Array Y}(hr:(results fn tmps).run P w = .ok v w)(a:R (ah v) w) :
 bodyPostM a5j 3 P fn R .ret { tmps:=tmps,defers:=[] } w:=⟨v,hr,a⟩
def aCe(hp:SP w pb tb T k vars d)(hc:dZ T k [93]=A) :
  Calls bbr 142 #[pp pb] w (jW eP pb tb T d w (.ok (.mk 97 [91,93] 0 0 []) (k+1) vars)):=by
 have dE:=a1p (hp.ext (w':=w.alloc (a17 #[.int .u8 97,aT [91,93],zi 0,zi 0,bW] 178)) (by grind [dR]));have HC:=a1p hc;have fZ:=hp.d2.2.2;clear hp hc;refine akv func142 J ?_;simp only[ntmps142,List.size_toArray,a1x,a1L,Nat.reduceAdd,Nat.reduceSub,a4V,a4U,List.push_toArray,List.append_toArray,List.nil_append,List.cons_append]
 go_wp2_with fail
 refine(vh dE.out [93] HC.out).mono ?_;rintro e w3 ⟨rfl,gH,dU⟩;have uA:=a1p gH;have oB:=a1p dU;clear gH dU
 go_wp2_with fail
 refine aCd (results_tmp J _ _ _) ⟨_,J,?_,uA.out,((bB.refl _ _).alloc _).trans oB.out⟩;have hz:=oB.out.size;rw[size_alloc] at hz;exact Kc zg (by grind [db.bJ,blk_alloc_new,Hid.out])
abbrev Kk:Obj:=ae #[.int .u8 97,.string (bs [91,93]),zi 0,zi 0,.slice V 0 0] 178
def LJ(pb tb:Nat)(T:List P.Tok)(d:Nat)(w0:Z)(c:cj (List Ex))(n:Nat)(a:Act)(w:Z):Prop:=
 ∃ (acc:List Ex) (k:Nat) (vs:List Bs) (xs:List Y) (sl e f g h i u8 j l m o p q r u16 s t u x y z B C D E F H I K L u32 M N Q R S U W:Y),a={ tmps:=#[pp pb,e,f,pp w0.heap.size,sl,g,h,i,u8,j,l,m,o,p,q,r,u16,s,t,u,x,y,z,B,C,D,E,F,H,I,K,L,u32,M,N,Q,R,S,U,W],defers:=[] } /\
  w.ownsRow w0.heap.size 106 1 sl acc.length xs/\eQ (fun b=>Nu w0 w b/\sl.ownBlock≠O b) w xs acc/\SP w pb tb T k vs d/\db pb w0 w/\0<acc.length/\acc.length<=k /\
  w.heap[w0.heap.size]?=O Kk/\(if dZ T k [44] then q8 T n (k+1) vs d acc else O (.ok acc k vs))=O c
noncomputable def akw:Code:=match Tryz.f142.body with
 | some (.seq _ (.seq _ (.seq _ (.seq _ (.seq _ (.seq _ (.seq _ c)))))))=>c
 | _=>.skip
noncomputable def aCg:Code:=match akw with | .seq c _=>c | _=>.skip
noncomputable def aCh:Code:=match akw with | .seq _ c=>c | _=>.skip
theorem abY{B:Z}{row:Option Nat}(c:W.grownBy B row)(hr:∀ r,row=O r->∃ o:Obj,W.heap[r]?=O o/\o.isCells=G)(b:Nat)(cs:Array Y)(t:TypeId)(z:Nat×Nat)
  (h:W.heap[b]?=O (ae cs t z)):B.heap[b]?=O (ae cs t z):=by
 rw[c.block b (bg h) (fun e=>by
  obtain⟨o,a,d⟩:=hr b e.symm;rw[h] at a;cases a;cases d)]
 omega
theorem akx{o a:Obj}(b:a=o)(h:n=w.heap.size):(w.alloc o).heap[n]?=O a:=by grind [blk_alloc_new]
def LI(pb tb:Nat)(T:List P.Tok)(k:Nat)(vs:List Bs)(d X:Nat)(w0:Z)(bl:List Nat)(acc:List Ex)(x:Ex)(pre:List (Nat×Nat))(W:Z):Prop:=
 SP W pb tb T k vs d/\db pb w0 W/\eQ (fun b=>Nu w0 W b/\b≠X) W (bl.map (fun b=>a2h (O ⟨b,0,V⟩))) acc/\X<W.heap.size /\
 ∃ bv,W.heap[X]?=aO #[pp bv] 106 /\
  (pre=Ii bl pre.length->pre.length<=acc.length->eP (fun b=>Nu w0 W b/\b≠X) W (pp bv) (Ab (acc.drop (acc.length-pre.length)) x))
def LI.own{vs:List Bs}{X:Nat}{acc:List Ex}{x:Ex}(n:w0.heap.size<=B) :
  OwnFrom B (LI pb tb T k vs d X w0 bl acc x):=by
 rintro pre W f row ⟨g,p,h,q,bv,s,i⟩ c hr;have j:=abY c (fun r e=>(hr r e).2);have l:∀ (b:Nat) (o:Obj),DE o->W.heap[b]?=O o->f.heap[b]?=O o:=fun b o m u=>by
  obtain⟨cs,t,z,rfl⟩:=aBS m;grind
 have w:=c.size;refine⟨g.aBR j,(by grind [Nat.le_trans,bB.Pt]),?_,zo,bv,zg,fun a b=>?_⟩
 .exact eQ.mono zg zg _ _ h
 .exact eP.mono zg zg _ _ (i a b)
def aCi{acc:List Ex}{x:Ex}(b:n<acc.length) :
  Ab (acc.drop (acc.length-(n+1))) x = .mk 99 [46] 0 0 [acc[acc.length-1-n],Ab (acc.drop (acc.length-n)) x]:=by
 have e:acc.length-(n+1)=acc.length-1-n:=zo;have a:acc.length-n=acc.length-1-n+1:=zo;rw[e,a,List.drop_eq_getElem_cons zo];rfl
theorem LI.step{vs:List Bs}{X:Nat}{acc:List Ex}{x:Ex}{pre:List (Nat×Nat)}{y:Nat×Nat}(u:bl.length=acc.length)
  (w:w0.heap.size<=X) (z:pb<w0.heap.size) (h:LI pb tb T k vs d X w0 bl acc x pre W) (bv:Nat) (B:W.heap[X]?=aO #[pp bv] 106) :
  LI pb tb T k vs d X w0 bl acc x (pre++[y])
   (((W.alloc (ae #[pp y.2,pp bv] 106)).alloc (ae #[.int .u8 99,aT [46],zi 0,zi 0,cS W.heap.size 2 2] 178)).setCell ⟨X,0,V⟩ (pp (W.heap.size+1))):=by
 obtain⟨i,j,f,C,a,l,m⟩:=h;have:a=bv:=by
  grind
 subst this;generalize hr:(a17 #[pp y.2,pp a] 106)=row at *;generalize D:(a17 #[.int .u8 99,aT [46],zi 0,zi 0,cS W.heap.size 2 2] 178)=node at *;have n:((W.alloc row).alloc node).heap[X]?=_:=dR (dR l);have E:(((W.alloc row).alloc node).setCell ⟨X,0,V⟩ (pp (W.heap.size+1))).heap.size=W.heap.size+2:=by grind [size_setCell,size_alloc]
 have hk:∀ (b:Nat) (o:Obj),b≠X->((W.alloc row).alloc node).heap[b]?=O o->(((W.alloc row).alloc node).setCell ⟨X,0,V⟩ (pp (W.heap.size+1))).heap[b]?=O o:=(by grind [blk_setCell_other]);have p:∀ (b:Nat) (o:Obj),b≠X->W.heap[b]?=O o->(((W.alloc row).alloc node).setCell ⟨X,0,V⟩ (pp (W.heap.size+1))).heap[b]?=O o:=(by grind [dR]);have hlt:=i.lt;refine⟨(by grind [dR,SP.setOther,SP.ext]),(by grind [bB.Mu,bB.alloc]),?_,zo,W.heap.size+1,by rw[Ba n];rfl,fun c q=>?_⟩
 .exact eQ.mono zg zg _ _ f
 .simp only[List.length_append,a1x,a1L,Nat.zero_add] at c q ⊢;rw[akk] at c;obtain⟨r,F⟩:=List.append_inj' c J;have H:y=(bl.length-1-pre.length,bl.getD (bl.length-1-pre.length) 0):=zg;rw[aCi zo];have hx:=m r zo;have hi:acc.length-1-pre.length<acc.length:=zo;have g:=f.get (acc.length-1-pre.length) hi;have s:y.2=bl.getD (acc.length-1-pre.length) 0:=zg;rw[<- s] at g;have t:w0.heap.size<=W.heap.size:=j.size;have e:W.heap.size≠X:=zo;refine abO zg (by grind [akx,size_alloc]) (abP zg (hk _ _ e (dR (akx hr J))) ?_ ?_)
  .exact eP.mono zg zg _ _ g
  .exact eP.mono zg zg _ _ hx
def akz{vs:List Bs}{nb X:Nat}{acc:List Ex}{x:Ex}{r:cj Ex}(u1 u2 u6 u7 u8 u9 yN yO yP wJ wK yQ u16 yR yS Ce Cf Cg Ch Ci Cj Ck Cm Cn DL DM DN Ij u32 Ik Bl E1 Gx Gy MR MT:Y)
  (hp:SP w pb tb T k vs d) (hf:db pb w0 w) (fZ:pb<w0.heap.size) (SK:w0.heap.size<=X) (WW:g≠X) (hL:acc.length<=3000) (py:bl.length=acc.length) (xL:pb<g)
  (hXb:w.heap[X]?=aO #[pp bx] 106) (hx:eP (fun b=>Nu w0 w b/\b≠X) w (pp bx) x)
  (hg:w.heap[g]?=aO iB 106) (Bo:∀ j,j<bl.length->iB[j]?=O (pp (bl.getD j 0)))
  (ml:eQ (fun b=>Nu w0 w b/\b≠X) w (bl.map (fun b=>a2h (O ⟨b,0,V⟩))) acc)
  (hr:mR T [93] (Ab acc x) k vs=O r)
  (K:Act->Z->Prop) (hK:∀ a w,aCh.wp bbr (bodyPostM a5j 3 bbr Tryz.f142 (jW eP pb tb T d w0 r)) a w->K a w) :
  aCg.wp bbr (Exit.then K (bodyPostM a5j 3 bbr Tryz.f142 (jW eP pb tb T d w0 r))) { tmps:=#[pp pb,u1,u2,pp nb,cS g acc.length cap,pp X,u6,u7,u8,u9,yN,yO,yP,wJ,wK,yQ,u16,yR,yS,Ce,Cf,Cg,Ch,Ci,Cj,Ck,Cm,Cn,DL,DM,DN,Ij,u32,Ik,Bl,E1,Gx,Gy,MR,MT],defers:=[] } w:=by
 change ∀ a w,Code.wp _ (Code.seq _ _) _ a w->_ at hK;have H:=a1p hp;have HF:=a1p hf;have HX:=a1p hXb;have HE:=a1p hx;have HG:=a1p hg;have HC:=a1p Bo;have HXS:=a1p ml;have HR:=a1p hr;have Kl:=a1p py;have MO:=hf.size;have WX:=bg hXb;clear hp hf hXb hx hg Bo ml hr py;change Code.wp _ (Code.region _ _ _) _ _ _
 go_wp2_with fail
 have hq:=HR.out;rw[mR] at hq;by_cases hc:dZ T k [93]=A
 .rw[zip hc,a1o] at hq;subst hq;refine(Sz H.out [93] hc).mono ?_;rintro e w1 ⟨rfl,dE,gj⟩;have ku:=a1p dE;have ix:=a1p gj;clear dE gj hc HR
  go_wp2_with fail
  refine(backward _ _ _ _).mono ?_;rintro e w2 ⟨rfl,rfl⟩;have pR:=ix.out.size;have MM:w1.heap[X]?=_:=db.bJ ix.out HX.out zo zd;have yU:w1.heap[g]?=_:=db.bJ ix.out HG.out zo zd;have hI0:LI pb tb T (k+1) vs d X w0 bl acc x [] (w1.alloc (ae #[cS g acc.length cap] 83)):=by
   refine⟨ku.out.ext (by grind [dR]),(HF.out.trans ix.out).alloc _,?_,by grind [size_alloc],bx,dR MM,fun _ _=>?_⟩
   .exact eQ.mono (by grind [size_alloc]) (by grind [dR,db.lF,Hid.out]) _ _ HXS.out
   .simp only[a1L,Nat.sub_zero,List.drop_length];exact eP.mono (by grind [size_alloc]) (by grind [dR,db.lF,Hid.out]) _ _ HE.out
  have hB:(w1.alloc (ae #[cS g acc.length cap] 83)).heap[w1.heap.size]?=_:=blk_alloc_new _ _;have hgB:(w1.alloc (ae #[cS g acc.length cap] 83)).heap[g]?=_:=dR yU;have ab0:w0.heap.size<=(w1.alloc (ae #[cS g acc.length cap] 83)).heap.size:=zg;have HI:=a1p hI0;have HB:=a1p hB;have HGB:=a1p hgB;have HS2:=a1p ab0;clear hI0 hB hgB ab0 MM yU
  go_wp2_with fail
  have MM:X<w1.heap.size:=zo;refine(wpIn_wide (n:=3)).1 (wpIn_rangeFunc_ownF (F:=a5j) (n:=3) J zo (gf:=175) (lb:=#[pp w1.heap.size]) J trivial (enters_of func175 zk J)
   (aBY a5j 2 trivial J zo w1.heap.size g cap X bl zo WW (by rw[Kl.out];omega) _ (by rw[Kl.out];exact HB.out) iB HGB.out HC.out) (by grind [Kd.trans])
   (fun W l o o' _ hl ho _ b cs t z _ hb=>(by grind [abY,grownBy_putObj'])) (Below.refl _ _) zg
   (LI pb tb T (k+1) vs d X w0 bl acc x) (fun _ _ _=>False) (LI.own HS2.out) (fun c s W W' row h=>h.elim) HI.out
   (fun y=>{ tmps:=#[pp pb,u1,u2,pp nb,cS g acc.length cap,pp X,u6,pp y.2,u8,u9,yN,yO,yP,wJ,wK,yQ,u16,yR,yS,Ce,Cf,Cg,Ch,Ci,Cj,Ck,Cm,Cn,pp pb,ak #[],cS g acc.length cap,.func (.func 175) #[] #[pp w1.heap.size],zi (y.1:Int),pp y.2,Bl,E1,Gx,Gy,MR,MT],defers:=[] }) ?assign ?body ?done ?stop)
  case assign=>
   intro l y W K hK
   gi_wp2_with (rw[Oper.semAt_eq _ _ _ (fun c h=>by cases h)];go_simp;try go_bits)
   omega
  case body=>
   intro l pre y W hI hlen;obtain⟨bv,mV,-⟩:=hI.2.2.2.2;have pS:W.cell? ⟨X,0,V⟩=O (pp bv):=cellOf mV J;have GC:=jJ mV 0;have hXW:=hI.2.2.2.1;have E5:=LI.step (y:=y) Kl.out SK fZ hI bv mV;rw[a5x _ _ _ _ (by rw[size_alloc];omega),a5x _ _ _ _ hXW] at E5;have HST:=a1p E5;clear hI E5 mV
   gi_wp2_with (rw[Oper.semAt_eq _ _ _ (fun c h=>by cases h)];go_simp;try go_bits)
   exact⟨(by grind [KeepsOthers.setCell,trans,KeepsOthers.alloc,KeepsOthers.trans]),fun b cs t z hb hc=>(by grind [dR,blk_setCell_other]),HST.out⟩
  case done=>
   rintro D ys W hD rfl hI hK;have WY:=LI.own HS2.out _ W (W.putObj D (.deferred V)) (O D) hI (grownBy_putObj' W D _) (fun r e=>by cases e;exact⟨hD,_,hK,J⟩);obtain⟨bv,mV,-⟩:=hI.2.2.2.2;have pS:W.cell? ⟨X,0,V⟩=O (pp bv):=cellOf mV J;have hXW:=hI.2.2.2.1;have HBV:=a1p mV;have HII:=a1p WY;have HK:=a1p hK;clear hI WY mV hK
   go_wp2_with fail
   refine⟨zs,.inl ⟨_,_,J,run_takeDeferred HK.out,?_⟩⟩;refine⟨_,results_tmp J _ _ _,?_⟩;obtain⟨g1,g2,g3,g4,bv2,g5,g6⟩:=HII.out;have e5:=abY (grownBy_putObj' W D (.deferred V)) (fun r e=>by cases e;exact⟨_,HK.out,J⟩) _ _ _ _ HBV.out;have:bv2=bv:=by
    grind
   subst this;have e6:=g6 (by rw[WM]) (by rw[WM,Kl.out];omega);rw[WM,Kl.out,Nat.sub_self,List.drop_zero] at e6;exact⟨_,J,eP.mono zg zg _ _ e6,g1,g2⟩
  grind
 .rw[bM hc,a1o] at hq;subst hq;refine(SA H.out [93] zg zd).mono ?_;rintro e w1 ⟨⟨b,rfl,eL,gz⟩,dU,gJ⟩;exact⟨⟨b,J,eL,zo⟩,HF.out.trans dU,gJ⟩
def aCo(DP:∀ m,m<f+1->Ig m){r:cj Ex}(pw:SP w0 pb tb T k vars d)(hd:d<=8)
  (h:qu T (f+1) k vars d=O r):Calls bbr 142 #[pp pb] w0 (jW eP pb tb T d w0 r):=by
 rw[qu] at h;by_cases pS:dZ T k [93]=A
 .rw[zip pS,a1o] at h;subst h;exact aCe pw pS
 rw[bM pS] at h;cases Au:q8 T f k vars d [] with
 | none=>rw[Au] at h;simp [cj.bind] at h
 | some re=>
 rw[Au] at h;cases f with
 | zero=>simp [q8] at Au
 | succ f=>
 rw[q8] at Au;have dE:=a1p (pw.ext (w':=w0.alloc Kk) (by grind [dR]));have HR:=a1p h;have MV:=a1p Au;have xJ:=pw.d2.2.2;have hT:=pw.tw.len;obtain⟨i0,hi,Kg,Kh,Ki⟩:=info_parts aki;have ix:Hid (db pb w0 (w0.alloc Kk)):=a1p ((bB.refl _ _).alloc _);clear pw h Au;refine akv func142 J ?_;simp only[ntmps142,List.size_toArray,a1x,a1L,Nat.reduceAdd,Nat.reduceSub,a4V,a4U,List.push_toArray,List.append_toArray,List.nil_append,List.cons_append]
 go_wp2_with fail
 refine(qD dE.out [93] zg zd).mono ?_;rintro e w3 ⟨rfl,rfl⟩;clear pS
 go_wp2_with fail
 cases hq:iZ T f 0 k vars d with
 | none=>have e:=MV.out;rw[hq] at e;simp [cj.bind] at e
 | some q=>
 have e:=MV.out;rw[hq] at e;refine((DP f zo).go dE.out hd hq).mono ?_;cases q with
 | err c0 a0=>
  rintro e2 w4 ⟨⟨b,rfl,eL,gz⟩,dU,gJ⟩;simp only[cj.bind,a1o] at e;subst e;have hr:=HR.out;simp only[cj.bind,a1o] at hr;subst hr;exact⟨⟨b,J,eL,by grind [size_alloc]⟩,ix.out.trans dU,gJ⟩
 | ok x k' wN=>
 rintro e2 w1 ⟨v,rfl,hv,fa,eW⟩;simp only[cj.bind] at e;obtain⟨bx,rfl,jB⟩:=hv.shape;have nT:=(P.mono T f).oper _ _ _ _ _ _ _ hq;have pR:=eW.size;rw[size_alloc] at pR;have Ah:=db.bJ eW (blk_alloc_new w0 Kk) zo zg;have eG:(w1.alloc (ae #[pp bx] 106)).ownsRow w0.heap.size 106 1 (cS w1.heap.size 1 1) 1 [pp bx]:=
  ⟨J,.inr ⟨w1.heap.size,1,_,J,zo,blk_alloc_new _ _,Nat.le_refl _,zd,J,J⟩⟩
 have iV:eQ (fun b=>Nu w0 (w1.alloc (ae #[pp bx] 106)) b/\(a1D (O ⟨w1.heap.size,0,V⟩) 1 1).ownBlock≠O b) (w1.alloc (ae #[pp bx] 106)) [pp bx] [x]:=by
  have:=eQ.snoc (l:=[]) (vs:=[]) (F:=fun b=>Nu w0 (w1.alloc (ae #[pp bx] 106)) b/\(a1D (O ⟨w1.heap.size,0,V⟩) 1 1).ownBlock≠O b) (w:=w1.alloc (ae #[pp bx] 106)) (v:=pp bx) (x:=x)
   (eP.mono (fun b hb=>⟨(by grind [size_alloc]),fun e=>by injection e with e;grind⟩) (by grind [dR]) _ _ hv) (by unfold eQ;rfl)
  grind
 have SL:=a1p eG;have mm:=a1p iV;have iO:=a1p (fa.ext (w':=w1.alloc (ae #[pp bx] 106)) fun b o h=>dR h);have fO:Hid (db pb w0 (w1.alloc (ae #[pp bx] 106))):=a1p ((ix.out.trans eW).alloc _);have HN1:Hid ((w1.alloc (ae #[pp bx] 106)).heap[w0.heap.size]?=O Kk):=a1p (dR Ah);have HE:=a1p e;have HK:=a1p nT;clear hv fa eW eG iV e hq jB Ah MV nT ix dE
 go_wp2_with fail
 refine wp_loop_ghost (fun n a w=>n<=f/\LJ pb tb T d w0 re n a w) ⟨f,Nat.le_refl _,[x],k',wN,_,_,_,_,_,_,_,_,_,_,_,_,_,_,_,_,_,_,_,_,_,_,_,_,_,_,_,_,_,_,_,_,_,_,_,_,_,_,_,J,SL.out,mm.out,iO.out,fO.out,Nat.zero_lt_one,by have:=HK.out;simp;omega,HN1.out,by simpa using HE.out⟩ ?_;clear SL mm iO fO HK HN1 HE pR;rintro n a w ⟨hnf,acc,k2,vs,xs,sl,u1,u2,u5,u6,u7,u8,u9,yN,yO,yP,wJ,wK,yQ,u16,yR,yS,Ce,Cf,Cg,Ch,Ci,Cj,Ck,Cm,Cn,DL,DM,DN,Ij,u32,Ik,Bl,E1,Gx,Gy,MR,MT,rfl,dS,ml,hp,hf,h0a,WV,Ah,hr⟩;have Im:=hp.kt;have hz:=hf.size;have Cq:=hp.d2.2.2;obtain⟨g',rJ,rfl⟩:∃ g cap,sl = cS g acc.length cap:=by
  obtain⟨g1,g2 | ⟨g,cp,cur,e1,e2,e3,e4⟩⟩:=dS<;>grind
 have HO:=a1p dS;have HX:=a1p ml;have HP:=a1p hp;have HF:=a1p hf;have HN:=a1p Ah;by_cases hc:dZ T k2 [44]=A
 .rw[zip hc] at hr;cases n with
  | zero=>grind [q8]
  | succ n=>
  rw[q8] at hr;have As:=a1p hr;clear dS ml hp hf Ah hr
  go_wp2_with fail
  refine(vh HP.out [44] hc).mono ?_;rintro e w2 ⟨rfl,fa,eW⟩;have iO:=a1p fa;have fO:=a1p eW;clear fa eW hc
  go_wp2_with fail
  cases hq:iZ T n 0 (k2+1) vs d with
  | none=>have e:=As.out;rw[hq] at e;simp [cj.bind] at e
  | some q=>
  have e:=As.out;rw[hq] at e;refine((DP n zo).go iO.out hd hq).mono ?_;cases q with
  | err c0 a0=>
   rintro e2 w4 ⟨⟨b,rfl,eL,gz⟩,dU,gJ⟩;simp only[cj.bind,a1o] at e;subst e;have hr:=HR.out;simp only[cj.bind,a1o] at hr;subst hr;have:=fO.out.size;exact⟨⟨b,J,eL,zo⟩,(HF.out.trans fO.out).trans dU,gJ⟩
  | ok x k' wN=>
  rintro e2 w3 ⟨v,rfl,hv,gH,dU⟩;simp only[cj.bind] at e;obtain⟨bx,rfl,jB⟩:=hv.shape;have nT:=(P.mono T n).oper _ _ _ _ _ _ _ hq;have rj:=fO.out.size;have E3:=dU.size;have jN:=gH.kt;have ab1:=iO.out.d2.2.2;have sW:=gH.d2.2.2;have xK:w3.ownsRow w0.heap.size 106 1 (cS g' acc.length rJ) acc.length xs:=by
   obtain⟨g1,g2 | ⟨g,cp,cur,e1,e2,e3,e4⟩⟩:=HO.out
   .omega
   .exact⟨g1,.inr ⟨g,cp,cur,e1,e2,db.lF dU ⟨zg,J⟩ (db.lF fO.out ⟨zg,J⟩ e3 zo) zo,e4⟩⟩
  have Kj:eQ (fun b=>Nu w0 w3 b/\(a1D (O ⟨g',0,V⟩) acc.length rJ).ownBlock≠O b) w3 xs acc:=
   eQ.mono zg (by grind [db.lF,Hid.out]) _ _ HX.out
  have SM:w3.heap[w0.heap.size]?=O Kk:=(by grind [db.bJ,Hid.out]);have vl:=a1p xK;have mm:=a1p Kj;have HV:=a1p hv;have ku:=a1p gH;have ix:=a1p ((HF.out.trans fO.out).trans dU);have HE:=a1p e;have Ar:=a1p jB;have HK:=a1p nT;have HN3:=a1p SM;have DQ:w0.heap.size<=g':=(HO.out.lt g' J).1;have Bp:g'<w.heap.size:=(HO.out.lt g' J).2;have aCr:g'≠w0.heap.size:=fun e=>by
   obtain⟨g1,g2 | ⟨g,cp,cur,e1,e2,e3,e4⟩⟩:=HO.out
   .omega
   .injection e1 with e1 _ _;injection e1 with e1;injection e1 with e1 _ _;rw[<- e1,e] at e3;rw[HN.out] at e3;injection e3 with e3;injection e3 with _ e3 _;exact absurd e3 zd
  clear hv gH dU xK Kj e hq jB SM nT
  go_wp2_with (at_builtin;go_must (refine R3 J _ _ 83 J w0.heap.size 106 i0 _ 1 8 underlying83 hi Kg Kh Ki J zo _ _ _ J (vl.out.alloc _) ⟨w3.heap.size,0,V⟩ 1 1 [pp bx] J J (O8 J) (by simp [Value.oneCell']) (by grind [maxLen]) zo (by simp;omega) ?_;intro v' w4 sU yT Bn;obtain⟨g2,GD,rfl⟩:=Mv sU;have Gz:=a1p sU;have uz:=a1p yT;have SI:=a1p Bn;clear sU yT Bn))
  have jY:SP w4 pb tb T k' wN d:=(ku.out.ext fun b o h=>dR (o:=a17 #[a2h (O ⟨bx,0,V⟩)] 106) h).Ps (vl.out.alloc _) zg zo uz.out;have ez:db pb w0 w4:=(ix.out.alloc _).Pt uz.out fun k hk=>(vl.out.lt k hk).1;have Py:=uz.out.size;rw[size_alloc] at Py;have Px:∀ (b:Nat) (o:Obj),w3.heap[b]?=O o->(a1D (O ⟨g',0,V⟩) acc.length rJ).ownBlock≠O b->w4.heap[b]?=O o:=fun b o h ee=>by
   have h':=dR (o:=a17 #[a2h (O ⟨bx,0,V⟩)] 106) h;rw[uz.out.block b (bg h') (fun e=>ee e.symm)];omega
  have px:∀ b,b<w3.heap.size->(a1D (O ⟨g',0,V⟩) acc.length rJ).ownBlock≠O b->(a1D (O ⟨g2,0,V⟩) (acc.length+1) GD).ownBlock≠O b:=fun b hb ee=>by
   rcases SI.out with h | h
   .rw[h];exact ee
   grind [size_alloc]
  have hbn:∀ b,Nu w2 w3 b->(a1D (O ⟨g',0,V⟩) acc.length rJ).ownBlock≠O b:=fun b hb e=>by
   have:=(HO.out.lt b e).2;omega
  have ab2:eQ (fun b=>Nu w0 w4 b/\(a1D (O ⟨g2,0,V⟩) (acc.length+1) GD).ownBlock≠O b) w4 (xs++[pp bx]) (acc++[x]):=
   eQ.snoc (eP.mono zg zg _ _ HV.out)
    (eQ.mono zg zg _ _ mm.out)
  have hn4:w4.heap[w0.heap.size]?=O Kk:=Px _ _ HN3.out (fun e=>aCr (by injection e));have nT:=HK.out;exact⟨n,Nat.lt_succ_self n,zo,acc++[x],k',wN,_,_,_,_,_,_,_,_,_,_,_,_,_,_,_,_,_,_,_,_,_,_,_,_,_,_,_,_,_,_,_,_,_,_,_,_,_,_,_,J,by rw[List.length_append];exact Gz.out,ab2,jY,ez,zs,zg,hn4,HE.out⟩
 .rw[bM hc,a1o] at hr;subst hr;clear dS ml hp hf Ah
  go_wp2_with fail
  refine(qD HP.out [44] zg zd).mono ?_;rintro e w2 ⟨rfl,rfl⟩;clear hc;have SK:w0.heap.size<=w.heap.size:=hz;have hNX:=bg HN.out;have Bp:=(HO.out.lt g' J);obtain⟨bl,uB,py⟩:=HX.out.blocks;subst uB;have Bo:∃ cur:Array Y,w.heap[g']?=aO cur 106/\∀ j,j<bl.length->cur[j]?=O (pp (bl.getD j 0)):=by
   obtain⟨g1,g2 | ⟨g,cp,cur,e1,e2,e3,e4,e5,e6,e7⟩⟩:=HO.out
   .omega
   .cases e1;refine⟨cur,e3,fun j hj=>?_⟩;have h1:(cur.toList.take (acc.length*1))[j]?=(bl.map (fun b=>a2h (O ⟨b,0,V⟩)))[j]?:=zg;grind
  obtain⟨cur,gS,Bo⟩:=Bo;have hbX:(w.alloc (ae #[pp w0.heap.size] 106)).heap[w.heap.size]?=aO #[pp w0.heap.size] 106:=blk_alloc_new _ _;have akI:eQ (fun b=>Nu w0 (w.alloc (ae #[pp w0.heap.size] 106)) b/\b≠w.heap.size) (w.alloc (ae #[pp w0.heap.size] 106)) (bl.map (fun b=>a2h (O ⟨b,0,V⟩))) acc:=
   eQ.mono zg (by grind [dR]) _ _ HX.out
  have WW:(w.alloc (ae #[pp w0.heap.size] 106)).heap[g']?=aO cur 106:=dR gS;have HPX:=a1p (HP.out.ext (w':=w.alloc (ae #[pp w0.heap.size] 106)) fun b o h=>dR h);have hFX:db pb w0 (w.alloc (ae #[pp w0.heap.size] 106)):=HF.out.alloc _;have hnX:(w.alloc (ae #[pp w0.heap.size] 106)).heap[w0.heap.size]?=O Kk:=dR HN.out;have hsX:(w.alloc (ae #[pp w0.heap.size] 106)).heap.size=w.heap.size+1:=size_alloc _ _;have HFX:=a1p hFX;have HNX:=a1p hnX;have Ar:=a1p hbX;have HGX:=a1p WW;have HCU:=a1p Bo;have HXX:=a1p akI;have Kl:=a1p py;have HSX:=a1p hsX;have hr:=HR.out;simp only[cj.bind] at hr;have yU:=Bp.1;have jO:=Bp.2;clear hFX hnX hbX WW Bo akI py gS Bp HO HX HF HN HP hsX HR;by_cases hb:dZ T k2 [124]=A
  .rw[zip hb] at hr;have As:=a1p hr;clear hr
   go_wp2_with fail
   refine(vh HPX.out [124] hb).mono ?_;rintro e w3 ⟨rfl,gH,dU⟩;have uA:=a1p gH;have oB:=a1p dU;have E3:=dU.size;rw[HSX.out] at E3;clear gH dU hb;have hXw:w.heap.size<w3.heap.size:=zo
   go_wp2_with fail
   cases hq:iZ T (f+1) 0 (k2+1) vs d with
   | none=>have e:=As.out;rw[hq] at e;simp [cj.bind] at e
   | some q=>
   have e:=As.out;rw[hq] at e;refine((DP (f+1) zo).go uA.out hd hq).mono ?_;cases q with
   | err c0 a0=>
    rintro e2 w4 ⟨⟨b,rfl,eL,gz⟩,ez,vn⟩;simp only[cj.bind,a1o] at e;subst e;exact⟨⟨b,J,eL,zo⟩,(HFX.out.trans oB.out).trans ez,vn⟩
   | ok x k' wN=>
   rintro e2 w4 ⟨v,rfl,hv,jY,ez⟩;simp only[cj.bind] at e;obtain⟨bx,rfl,jB⟩:=hv.shape;have Bm:=ez.size;have aU5:=jY.lt;have hX3:=db.bJ oB.out Ar.out zo zd;have Io:w4.heap[w.heap.size]?=_:=db.bJ ez hX3 zo zd;have Py:=db.bJ ez (db.bJ oB.out HGX.out zo zd) zo zd;have hc4:w4.cell? ⟨w.heap.size,0,V⟩=O (pp w0.heap.size):=cellOf Io J;have GC:=jJ Io 0;have aU7:w.heap.size<w4.heap.size:=zo;have xM:(w4.setCell ⟨w.heap.size,0,V⟩ (pp bx)).heap.size=w4.heap.size:=size_setCell _ _ _;have Ip:(w4.setCell ⟨w.heap.size,0,V⟩ (pp bx)).heap[w.heap.size]?=aO #[pp bx] 106:=by rw[Ba Io];rfl
   have pz:∀ (b:Nat) (o:Obj),b≠w.heap.size->w4.heap[b]?=O o->(w4.setCell ⟨w.heap.size,0,V⟩ (pp bx)).heap[b]?=O o:=(by grind [blk_setCell_other]);have oC:=jY.setOther (o:=0) Io zd zo zo (pp bx);have iP:db pb w0 (w4.setCell ⟨w.heap.size,0,V⟩ (pp bx)):=((HFX.out.trans oB.out).trans ez).Mu SK _;have sX:eP (fun b=>Nu w0 (w4.setCell ⟨w.heap.size,0,V⟩ (pp bx)) b/\b≠w.heap.size) (w4.setCell ⟨w.heap.size,0,V⟩ (pp bx)) (pp bx) x:=
    eP.mono zg zg _ _ hv
   have akR:eQ (fun b=>Nu w0 (w4.setCell ⟨w.heap.size,0,V⟩ (pp bx)) b/\b≠w.heap.size) (w4.setCell ⟨w.heap.size,0,V⟩ (pp bx)) (bl.map (fun b=>a2h (O ⟨b,0,V⟩))) acc:=
    eQ.mono (by grind [Hid.out]) (by grind [db.lF,Hid.out]) _ _ HXX.out
   have yV:=pz g' _ zo Py;have aCt:=a1p (a1q oC (a1q iP (a1q Ip (a1q sX (a1q yV (a1q akR e))))));clear oC iP Ip sX yV akR e hv jY ez hX3 Io Py pz xM hq jB
   go_upto_region 10 with(fail)
   obtain⟨t1,t2,t3,t4,t5,t6,t7⟩:=aCt.out;exact akz _ _ _ _ _ _ _ _ _ _ _ _ _ _ _ _ _ _ _ _ _ _ _ _ _ _ _ _ _ _ _ _ _ _ _ _ t1 t2 xJ SK zo zo Kl.out zo t3 t4 t5 HCU.out t6 t7 _ (by assumption)
  .rw[bM hb] at hr;have As:=a1p hr;clear hr
   go_wp2_with fail
   refine(qD HPX.out [124] zg zd).mono ?_;rintro e w3 ⟨rfl,rfl⟩;clear hb
   go_upto_region 10 with(fail)
   have MX:eP (fun b=>Nu w0 (w.alloc (ae #[pp w0.heap.size] 106)) b/\b≠w.heap.size) (w.alloc (ae #[pp w0.heap.size] 106)) (pp w0.heap.size) (.mk 97 [91,93] 0 0 []):=
    Kc ⟨⟨Nat.le_refl _,by rw[HSX.out];omega⟩,zo⟩ HNX.out
   exact akz _ _ _ _ _ _ _ _ _ _ _ _ _ _ _ _ _ _ _ _ _ _ _ _ _ _ _ _ _ _ _ _ _ _ _ _ HPX.out HFX.out xJ SK zo zo Kl.out zo Ar.out MX HGX.out HCU.out HXX.out As.out _ (by assumption)
def akS:SF 0:=⟨fun _ _ h=>by simp [qu] at h⟩
def aCu(a:∀ m,m<f->Ig m):SF f:=by
 cases f with
 | zero=>exact akS
 | succ f=>exact⟨fun b c h=>aCo a b c h⟩
def aCv(hp:SP w pb tb T k vars d)(hd:8<d+1)(vi:d<=8) :
  Calls bbr 117 #[pp pb] w (jW eP pb tb T d w (.err 4 (tk T k).pos)):=by
 have H:=a1p hp;clear hp
 go_enter_defers func117,ntmps117
 go_wp2_with fail
 refine(WI H.out hd zo).mono ?_;rintro e w1 ⟨⟨b,rfl,hb⟩,hf,hs⟩;exact⟨⟨b,J,hb⟩,hf,hs⟩
def aCw(hint:WJ)(hp:SP w pb tb T k vars d)(hd:d+1<=8)
  (hk:(tk T k).kind=3) :
  Calls bbr 117 #[pp pb] w (jW eP pb tb T d w (.ok (.mk 110 [] (P.num (tk T k).text) 0 []) (k+1) vars)):=by
 have H:=a1p hp;have HK:=a1p hk;clear hp hk
 go_enter_defers func117,ntmps117
 go_wp2_with fail
 refine(An H.out hd).mono ?_;rintro e w1 ⟨rfl,dX,iV,dE,gj⟩;have mm:=a1p iV;have ix:=a1p gj;have ku:=a1p dE;have nU:=a1p dX;obtain⟨n,c,h0,f0,hb,l1,l2,l3,l4,fa,eW⟩:=dE.on (by have:=HK.out;omega);obtain⟨t0,t1,t2⟩:=dE.toks.at dE.kt;have xI:tb<w1.heap.size:=by have:=dE.lt;omega
 have ee:¬ tb=pb:=by have:=dE.lt;omega
 have SD:¬ pb=tb:=zo;have iO:=a1p fa;have fO:=a1p eW;rw[HK.out] at t0;clear dE gj iV dX fa eW
 go_wp2_with fail
 have xG:=H.out.tw.digits _ (J7 H.out.kt) HK.out;refine(hint.go _ xG.1 xG.2.1 xG.2.2).mono ?_;rintro e w3 ⟨rfl,SN⟩;have MY:=a1p SN;clear xG SN
 go_wp2_with fail
 have dX:=nU.out;have fZ:pb<w.heap.size:=H.out.d2.2.2;have jB:=fO.out.bJ mm.out zo zd;have hz:=MY.out.size;rw[size_alloc,size_setCell] at hz;refine yI (j:=2) Ka J fZ (by grind [dR,SP.ext,Hid.out,bB.ext]) zo (by grind [dR,bB.ext,Hid.out]) ?_
  ((((ix.out.trans fO.out).alloc _).trans MY.out.toM).alloc _)
 exact Kc (by grind [size_alloc]) (blk_alloc_new _ _)
def aCx(SO:abN)(hp:SP w pb tb T k vars d)(hd:d+1<=8)
  (hk:(tk T k).kind=2) :
  Calls bbr 117 #[pp pb] w (jW eP pb tb T d w (Aa (tk T k) (k+1) vars)):=by
 have H:=a1p hp;have HK:=a1p hk;clear hp hk
 go_enter_defers func117,ntmps117
 go_wp2_with fail
 refine(An H.out hd).mono ?_;rintro e w1 ⟨rfl,dX,iV,dE,gj⟩;have mm:=a1p iV;have ix:=a1p gj;have ku:=a1p dE;have nU:=a1p dX;obtain⟨n,c,h0,f0,hb,l1,l2,l3,l4,fa,eW⟩:=dE.on (by have:=HK.out;omega);obtain⟨t0,t1,t2⟩:=dE.toks.at dE.kt;have xI:tb<w1.heap.size:=by have:=dE.lt;omega
 have ee:¬ tb=pb:=by have:=dE.lt;omega
 have SD:¬ pb=tb:=zo;have iO:=a1p fa;have fO:=a1p eW;rw[HK.out] at t0;clear dE gj iV dX fa eW
 go_wp2_with fail
 have lQ:=SO.go (tk T k) (iO.out.ext fun b o (h:_=O o)=>dR (o:=ae #[zi 2,aT ((tk T k).text),zi (tk T k).pos] 142) h)
  (H.out.tw.vars _ (J7 H.out.kt) HK.out)
 rw[HK.out] at lQ;refine lQ.mono ?_;have dX:=nU.out;have fZ:pb<w.heap.size:=H.out.d2.2.2;have jB:=fO.out.bJ mm.out zo zd;have akT:∀ o,((Gv w1 pb tb k n c).alloc o).heap[w.heap.size]?=_:=fun o=>dR (o:=o) jB;have tL:=fun o=>(ix.out.trans fO.out).alloc o;have jr:∀ o,((Gv w1 pb tb k n c).alloc o).heap.size=w.heap.size+2:=(by grind [size_alloc,size_setCell]);have HB:=a1p akT;have HR:=a1p tL;have HZ:=a1p jr;clear lQ jB akT tL jr;cases hr:Aa (tk T k) (k+1) vars with
 | ok x k' vs=>
  rintro e w3 ⟨v,rfl,hv,gH,dU⟩;have HV:=a1p hv;have uA:=a1p gH;have oB:=a1p dU;have As:=a1p hr;clear hv gH dU hr
  go_wp2_with fail
  have hz:=HZ.out (ae #[zi 2,aT ((tk T k).text),zi (tk T k).pos] 142);have E3:=oB.out.size;rw[As.out];refine yI (j:=2) Ka J fZ uA.out zo (by grind [db.bJ,Hid.out]) ?_ ((HR.out _).trans oB.out);exact eP.mono zg zg _ _ HV.out
 | err c0 a0=>
  rintro e w3 ⟨⟨b,rfl,eL,gz⟩,dU,gJ⟩;have hz:=HZ.out (ae #[zi 2,aT ((tk T k).text),zi (tk T k).pos] 142);exact tN fZ gJ (by grind [db.bJ,Hid.out]) ⟨b,J,eL,zo⟩ ((HR.out _).trans dU)
def aCy(hp:SP w pb tb T k vars d)(hd:d+1<=8)
  (hk:(tk T k).kind=1) (ho:dZ T (k+1) [40]=G) :
  Calls bbr 117 #[pp pb] w (jW eP pb tb T d w (.ok (.mk 97 (tk T k).text 0 0 []) (k+1) vars)):=by
 have HO:=a1p ho;clear ho;have H:=a1p hp;have HK:=a1p hk;clear hp hk
 go_enter_defers func117,ntmps117
 go_wp2_with fail
 refine(An H.out hd).mono ?_;rintro e w1 ⟨rfl,dX,iV,dE,gj⟩;have mm:=a1p iV;have ix:=a1p gj;have ku:=a1p dE;have nU:=a1p dX;obtain⟨n,c,h0,f0,hb,l1,l2,l3,l4,fa,eW⟩:=dE.on (by have:=HK.out;omega);obtain⟨t0,t1,t2⟩:=dE.toks.at dE.kt;have xI:tb<w1.heap.size:=by have:=dE.lt;omega
 have ee:¬ tb=pb:=by have:=dE.lt;omega
 have SD:¬ pb=tb:=zo;have iO:=a1p fa;have fO:=a1p eW;rw[HK.out] at t0;clear dE gj iV dX fa eW
 go_wp2_with fail
 refine(qD (iO.out.ext fun b o h=>dR (dR h)) [40] HO.out zd).mono ?_;rintro e w3 ⟨rfl,rfl⟩
 go_wp2_with fail
 have dX:=nU.out;have fZ:pb<w.heap.size:=H.out.d2.2.2;have jB:=fO.out.bJ mm.out zo zd;refine yI (j:=2) Ka J fZ (by grind [dR,SP.ext,Hid.out]) zo (by grind [dR]) ?_
  (by grind [bB.alloc,bB.trans,Hid.out])
 exact Kc (by grind [size_alloc,size_setCell]) (by grind [EY,size_alloc,size_setCell])
def aCz(kZ:Pq f)(hp:SP w pb tb T k vars d)(hd:d+1<=8)
  (hk:(tk T k).kind=1) (ho:dZ T (k+1) [40]=A) {r:cj (List Ex)} (hr:oQ T f (k+2) vars (d+1) (tk T k).pos []=O r)
  {q:cj Ex} (hq:cj.bind (O r) (fun l k' vars'=>mR T [41] (Ex.mk 99 (tk T k).text 0 0 l) k' vars')=O q) :
  Calls bbr 117 #[pp pb] w (jW eP pb tb T d w (q)):=by
 have HO:=a1p ho;have HR:=a1p hr;have HQ:=a1p hq;clear ho hr hq;have H:=a1p hp;have HK:=a1p hk;clear hp hk
 go_enter_defers func117,ntmps117
 go_wp2_with fail
 refine(An H.out hd).mono ?_;rintro e w1 ⟨rfl,dX,iV,dE,gj⟩;have mm:=a1p iV;have ix:=a1p gj;have ku:=a1p dE;have nU:=a1p dX;obtain⟨n,c,h0,f0,hb,l1,l2,l3,l4,fa,eW⟩:=dE.on (by have:=HK.out;omega);obtain⟨t0,t1,t2⟩:=dE.toks.at dE.kt;have xI:tb<w1.heap.size:=by have:=dE.lt;omega
 have ee:¬ tb=pb:=by have:=dE.lt;omega
 have SD:¬ pb=tb:=zo;have iO:=a1p fa;have fO:=a1p eW;rw[HK.out] at t0;clear dE gj iV dX fa eW
 go_wp2_with fail
 refine(vh (iO.out.ext fun b o h=>dR (dR h)) [40] HO.out).mono ?_;have dX:=nU.out;have fZ:pb<w.heap.size:=H.out.d2.2.2;have wQ:=H.out.lt;have jB:=fO.out.bJ mm.out zo zd;have akV:∀ o o',(((Gv w1 pb tb k n c).alloc o).alloc o').heap[w.heap.size]?=_:=fun o o'=>dR (o:=o') (dR (o:=o) jB);have hex:∀ o o',(((Gv w1 pb tb k n c).alloc o).alloc o').heap[w1.heap.size+1]?=O o':=(by grind [EY,size_alloc,size_setCell]);have jr:∀ o o',(((Gv w1 pb tb k n c).alloc o).alloc o').heap.size=w1.heap.size+2:=(by grind [size_alloc,size_setCell]);have tL:=fun o o'=>((ix.out.trans fO.out).alloc o).alloc o';rintro e w3 ⟨rfl,gH,dU⟩;have akW:=dU.bJ (akV _ _) zo zd;have akX:=dU.bJ (hex _ _) zo zd;have akY:=(tL _ _).trans dU;have E3:w1.heap.size+2<=w3.heap.size:=zg;have HB3:=a1p akW;have MY:=a1p akX;have oB:=a1p akY;have uA:=a1p gH;have HS:=a1p dX;have c2:w3.cell? ⟨w1.heap.size,2,V⟩=O (zi (tk T k).pos):=
  cellOf (dU.bJ (b:=w1.heap.size) (dR (EY (by rw[size_setCell]))) zo zd) J
 clear jB akV hex jr tL gH dU akW akX akY dX t0 t1 t2 h0 f0
 go_wp2_with fail
 refine(kZ.go _ uA.out zo HR.out).mono ?_;cases r with
 | err c0 a0=>
  rintro e w4 ⟨⟨b,rfl,eL,gz⟩,dU,gJ⟩;have e:=HQ.out;simp only[cj.bind,a1o] at e;subst e;have dX:=nU.out;exact tN fZ gJ (by grind [db.bJ,Hid.out]) ⟨b,J,eL,zo⟩ (oB.out.trans dU)
 | ok l k' vs=>
  rintro e w4 ⟨v,rfl,hv,jY,ez⟩;obtain⟨sa,sn,sc,rfl,-,-⟩:=hv.shape;have dX:=nU.out;have MZ:=ez.bJ MY.out zo zd;have akZ:=ez.bJ HB3.out zo zd;have x0:w4.cell? ⟨w1.heap.size+1,0,V⟩=O (.int .u8 97):=cellOf MZ J;have x4:w4.cell? ⟨w1.heap.size+1,4,V⟩=O bW:=cellOf MZ J;have y0:=jJ MZ 0;have y4:=jJ MZ 4;have z4:=bg MZ;have Bm:=ez.size;have tP:=a1p jY;have M0:=a1p hv;have tQ:=a1p (oB.out.trans ez);have HE4:=a1p MZ;have HB4:=a1p akZ;clear hv jY ez MZ akZ dX c2
  go_wp2_with fail
  have dX:=nU.out;have n1:w1.heap.size+1≠pb:=zo;have n2:tb<w1.heap.size+1:=zo;have n3:w.heap.size≠w1.heap.size+1:=zo;have ab7:=Ba (o:=0) HE4.out (.int .u8 99);have oD:=(tP.out.setOther (o:=0) HE4.out zd n1 n2 (.int .u8 99)).setOther (o:=4) ab7 zd n1 n2 (.slice sa sn sc);have ak2:=Ba (o:=4) ab7 (.slice sa sn sc);have ak3:=(blk_setCell_other (a:=⟨w1.heap.size+1,4,V⟩) n3 (.slice sa sn sc)).trans ((blk_setCell_other (a:=⟨w1.heap.size+1,0,V⟩) n3 (.int .u8 99)).trans HB4.out);have ak4:=(tQ.out.Mu (p:=⟨w1.heap.size+1,0,V⟩) (by show w.heap.size<=w1.heap.size+1;omega) (.int .u8 99)).Mu (p:=⟨w1.heap.size+1,4,V⟩) (by show w.heap.size<=w1.heap.size+1;omega) (.slice sa sn sc);have Br:=(M0.out.set (x:=w1.heap.size+1) (o:=0) (fun b hb=>by have:=hb.1;omega) (.int .u8 99)).set (x:=w1.heap.size+1) (o:=4) (fun b hb=>by have:=hb.1;omega) (.slice sa sn sc);have hz6:∀ u v,((w4.setCell ⟨w1.heap.size+1,0,V⟩ u).setCell ⟨w1.heap.size+1,4,V⟩ v).heap.size=w4.heap.size:=(by grind [size_setCell]);have HE6:=a1p ak2;have HB6:=a1p ak3;have HF6:=a1p ak4;have HV6:=a1p Br;have HZ6:=a1p hz6;have HP6:=a1p oD;clear ab7 oD ak2 ak3 ak4 Br hz6 x0 x4 y0 y4;have hq:=HQ.out;simp only[cj.bind,mR] at hq;by_cases hc:dZ T k' [41]=A
  .rw[zip hc,a1o] at hq;subst hq;refine(Sz HP6.out [41] hc).mono ?_;rintro e w7 ⟨rfl,mW,Bt⟩;have HP7:=a1p mW;have Km:=a1p Bt;clear mW Bt hc n1 n2 n3 dX
   go_wp2_with fail
   have dX:=nU.out;have hz7:=Km.out.size;rw[HZ6.out] at hz7;refine yI (j:=2) Ka J fZ HP7.out zo (by grind [db.bJ,Hid.out]) ?_ (HF6.out.trans Km.out);refine abO ⟨zo,zo⟩ (Km.out.bJ HE6.out zo zd) ?_;exact aBQ _ _ _ _ _ _ _ HV6.out Km.out fun b hb=>⟨by have:=hb.1;omega,by have:=hb.1;have:=hb.2;exact⟨zo,zo⟩⟩
  .rw[bM hc,a1o] at hq;subst hq;refine(SA HP6.out [41] zg zd).mono ?_;rintro e w7 ⟨⟨b,rfl,eL,gz⟩,dU,gJ⟩;rw[HZ6.out] at gz;exact tN fZ gJ (by grind [db.bJ,Hid.out]) ⟨b,J,eL,zo⟩ (HF6.out.trans dU)
def aCF(hp:SP w pb tb T k vars d)(hd:d+1<=8)
  (hk:(tk T k).kind=0\/(tk T k).kind=4) (hm:dZ T k [45]=G) (hn:dZ T k [40]=G) (hl:dZ T k [91]=G) :
  Calls bbr 117 #[pp pb] w (jW eP pb tb T d w (.err 2 (tk T k).pos)):=by
 have HM:=a1p hm;have HN:=a1p hn;have HL:=a1p hl;clear hm hn hl;have H:=a1p hp
 go_enter_defers func117,ntmps117
 go_wp2_with fail
 refine(An H.out hd).mono ?_;rintro e w1 ⟨rfl,dX,iV,dE,gj⟩;have mm:=a1p iV;have ix:=a1p gj;have ku:=a1p dE;have nU:=a1p dX;obtain⟨n,c,h0,l1,l2,-,l3,l4⟩:=dE.l0;obtain⟨t0,t1,t2⟩:=dE.toks.at dE.kt;obtain⟨kd,iN⟩:∃ kd:Int,kd=((tk T k).kind:Int):=⟨_,J⟩;rw[<- iN] at t0;have k1:(kd == 1)=false:=zg;have k2:(kd == 2)=false:=zg;have k3:(kd == 3)=false:=zg;have Cq:pb<w1.heap.size:=dE.d2.2.2;have xI:tb<w1.heap.size:=a4z dE.lt Cq;have fZ:pb<w.heap.size:=hp.d2.2.2;have wQ:=hp.lt;clear dE gj iV dX hk iN hp
 go_wp2_with fail
 have Bu:∀ o,SP (w1.alloc o) pb tb T k vars (d+1):=(by grind [dR,SP.ext,Hid.out]);have Bv:∀ o,(w1.alloc o).heap[w.heap.size]?=_:=fun o=>dR (o:=o) mm.out;have Bw:=fun o=>ix.out.alloc o;have Bx:∀ o,(w1.alloc o).heap.size=w.heap.size+2:=(by grind [size_alloc,Hid.out]);have Av:=a1p Bu;have Kn:=a1p Bv;have Ir:=a1p Bw;have Is:=a1p Bx;clear Bu Bv Bw Bx;refine(qD (Av.out _) [45] HM.out zd).mono ?_;rintro e w2 ⟨rfl,rfl⟩
 go_wp2_with fail
 refine(qD (Av.out _) [40] HN.out zd).mono ?_;rintro e w2 ⟨rfl,rfl⟩
 go_wp2_with fail
 refine(qD (Av.out _) [91] HL.out zd).mono ?_;rintro e w2 ⟨rfl,rfl⟩
 go_wp2_with fail
 refine(Sy (Av.out _)).mono ?_;rintro e w2 ⟨⟨b,rfl,eL,gz⟩,dU,gJ⟩;rw[Is.out] at gz;have dX:=nU.out;exact tN fZ gJ (by grind [db.bJ,Hid.out]) ⟨b,J,eL,zo⟩ ((Ir.out _).trans dU)
def aCG(ab9:SF f)(hp:SP w pb tb T k vars d)(hd:d+1<=8)
  (hk:(tk T k).kind=0\/(tk T k).kind=4) (hm:dZ T k [45]=G) (hn:dZ T k [40]=G) (hl:dZ T k [91]=A)
  {r:cj Ex} (hr:qu T f (k+1) vars (d+1)=O r) :
  Calls bbr 117 #[pp pb] w (jW eP pb tb T d w (r)):=by
 have HM:=a1p hm;have HN:=a1p hn;have HL:=a1p hl;have HR:=a1p hr;clear hm hn hl hr;have H:=a1p hp
 go_enter_defers func117,ntmps117
 go_wp2_with fail
 refine(An H.out hd).mono ?_;rintro e w1 ⟨rfl,dX,iV,dE,gj⟩;have mm:=a1p iV;have ix:=a1p gj;have ku:=a1p dE;have nU:=a1p dX;obtain⟨n,c,h0,l1,l2,-,l3,l4⟩:=dE.l0;obtain⟨t0,t1,t2⟩:=dE.toks.at dE.kt;obtain⟨kd,iN⟩:∃ kd:Int,kd=((tk T k).kind:Int):=⟨_,J⟩;rw[<- iN] at t0;have k1:(kd == 1)=false:=zg;have k2:(kd == 2)=false:=zg;have k3:(kd == 3)=false:=zg;have Cq:pb<w1.heap.size:=dE.d2.2.2;have xI:tb<w1.heap.size:=a4z dE.lt Cq;have fZ:pb<w.heap.size:=hp.d2.2.2;have wQ:=hp.lt;clear dE gj iV dX hk iN hp
 go_wp2_with fail
 have Bu:∀ o,SP (w1.alloc o) pb tb T k vars (d+1):=(by grind [dR,SP.ext,Hid.out]);have Bv:∀ o,(w1.alloc o).heap[w.heap.size]?=_:=fun o=>dR (o:=o) mm.out;have Bw:=fun o=>ix.out.alloc o;have Bx:∀ o,(w1.alloc o).heap.size=w.heap.size+2:=(by grind [size_alloc,Hid.out]);have Av:=a1p Bu;have Kn:=a1p Bv;have Ir:=a1p Bw;have Is:=a1p Bx;clear Bu Bv Bw Bx;refine(qD (Av.out _) [45] HM.out zd).mono ?_;rintro e w2 ⟨rfl,rfl⟩
 go_wp2_with fail
 refine(qD (Av.out _) [40] HN.out zd).mono ?_;rintro e w2 ⟨rfl,rfl⟩
 go_wp2_with fail
 refine(vh (Av.out _) [91] HL.out).mono ?_;rintro e w2 ⟨rfl,fa,eW⟩;have iO:=a1p fa;have rj:=eW.size;rw[Is.out] at rj;have WZ:=a1p (eW.bJ (Kn.out _) zo zd);have fO:=a1p ((Ir.out _).trans eW);clear fa eW
 go_wp2_with fail
 refine(ab9.go iO.out zo HR.out).mono ?_;cases r with
 | err c0 a0=>
  rintro e w4 ⟨⟨b,rfl,eL,gz⟩,dU,gJ⟩;exact tN fZ gJ (by grind [db.bJ,Hid.out]) ⟨b,J,eL,zo⟩ (fO.out.trans dU)
 | ok x k' vs=>
  rintro e w4 ⟨v,rfl,hv,jY,ez⟩;have HV:=a1p hv;have tP:=a1p jY;have tQ:=a1p ez;clear hv jY ez
  go_wp2_with fail
  refine yI (j:=2) Ka J fZ tP.out zo (by grind [db.bJ,Hid.out]) ?_ (fO.out.trans tQ.out);exact eP.mono zg zg _ _ HV.out
def aCH(aca:Ig f)(hp:SP w pb tb T k vars d)(hd:d+1<=8)
  (hk:(tk T k).kind=0\/(tk T k).kind=4) (hm:dZ T k [45]=G) (hn:dZ T k [40]=A)
  {r:cj Ex} (hr:iZ T f 0 (k+1) vars (d+1)=O r) {q:cj Ex} (hq:cj.bind (O r) (fun x k' vars'=>mR T [41] x k' vars')=O q) :
  Calls bbr 117 #[pp pb] w (jW eP pb tb T d w (q)):=by
 have HM:=a1p hm;have HN:=a1p hn;have HR:=a1p hr;have HQ:=a1p hq;clear hm hn hr hq;have H:=a1p hp
 go_enter_defers func117,ntmps117
 go_wp2_with fail
 refine(An H.out hd).mono ?_;rintro e w1 ⟨rfl,dX,iV,dE,gj⟩;have mm:=a1p iV;have ix:=a1p gj;have ku:=a1p dE;have nU:=a1p dX;obtain⟨n,c,h0,l1,l2,-,l3,l4⟩:=dE.l0;obtain⟨t0,t1,t2⟩:=dE.toks.at dE.kt;obtain⟨kd,iN⟩:∃ kd:Int,kd=((tk T k).kind:Int):=⟨_,J⟩;rw[<- iN] at t0;have k1:(kd == 1)=false:=zg;have k2:(kd == 2)=false:=zg;have k3:(kd == 3)=false:=zg;have Cq:pb<w1.heap.size:=dE.d2.2.2;have xI:tb<w1.heap.size:=a4z dE.lt Cq;have fZ:pb<w.heap.size:=hp.d2.2.2;have wQ:=hp.lt;clear dE gj iV dX hk iN hp
 go_wp2_with fail
 have Bu:∀ o,SP (w1.alloc o) pb tb T k vars (d+1):=(by grind [dR,SP.ext,Hid.out]);have Bv:∀ o,(w1.alloc o).heap[w.heap.size]?=_:=fun o=>dR (o:=o) mm.out;have Bw:=fun o=>ix.out.alloc o;have Bx:∀ o,(w1.alloc o).heap.size=w.heap.size+2:=(by grind [size_alloc,Hid.out]);have Av:=a1p Bu;have Kn:=a1p Bv;have Ir:=a1p Bw;have Is:=a1p Bx;clear Bu Bv Bw Bx;refine(qD (Av.out _) [45] HM.out zd).mono ?_;rintro e w2 ⟨rfl,rfl⟩
 go_wp2_with fail
 refine(vh (Av.out _) [40] HN.out).mono ?_;rintro e w2 ⟨rfl,fa,eW⟩;have iO:=a1p fa;have rj:=eW.size;rw[Is.out] at rj;have WZ:=a1p (eW.bJ (Kn.out _) zo zd);have fO:=a1p ((Ir.out _).trans eW);clear fa eW
 go_wp2_with fail
 refine(aca.go iO.out zo HR.out).mono ?_;cases r with
 | err c0 a0=>
  rintro e w4 ⟨⟨b,rfl,eL,gz⟩,dU,gJ⟩;have e:=HQ.out;simp only[cj.bind,a1o] at e;subst e;exact tN fZ gJ (by grind [db.bJ,Hid.out]) ⟨b,J,eL,zo⟩ (fO.out.trans dU)
 | ok x k' vs=>
  rintro e w4 ⟨v,rfl,hv,jY,ez⟩;have HV:=a1p hv;have tP:=a1p jY;have tQ:=a1p ez;have HB4:=a1p (ez.bJ WZ.out zo zd);have Bm:=ez.size;clear hv jY ez
  go_wp2_with fail
  have hq:=HQ.out;simp only[cj.bind,mR] at hq;by_cases hc:dZ T k' [41]=A
  .rw[zip hc,a1o] at hq;subst hq;refine(Sz tP.out [41] hc).mono ?_;rintro e w7 ⟨rfl,mW,Bt⟩;have HP7:=a1p mW;have Km:=a1p Bt;clear mW Bt hc
   go_wp2_with fail
   have hz7:=Km.out.size;refine yI (j:=2) Ka J fZ HP7.out zo (by grind [db.bJ,Hid.out]) ?_ ((fO.out.trans tQ.out).trans Km.out);exact Ka _ _ _ _ _ _ _ HV.out Km.out zg
  .rw[bM hc,a1o] at hq;subst hq;refine(SA tP.out [41] zg zd).mono ?_;rintro e w7 ⟨⟨b,rfl,eL,gz⟩,dU,gJ⟩;exact tN fZ gJ (by grind [db.bJ,Hid.out]) ⟨b,J,eL,zo⟩ ((fO.out.trans tQ.out).trans dU)
abbrev E6(w:Z)(x:Nat)(a b c:Y):Z:=((w.setCell ⟨x,0,V⟩ a).setCell ⟨x,1,V⟩ b).setCell ⟨x,2,V⟩ c
def ala(w:Z)(x:Nat)(a b c:Y):(E6 w x a b c).heap.size=w.heap.size:=by grind [size_setCell]
theorem acb{x y:Nat}(h:y≠x)(a b c:Y):(E6 w x a b c).heap[y]?=w.heap[y]?:=by
 grind [blk_setCell_other]
def SP.E6{w:Z}{pb tb x:Nat}{T:List P.Tok}{k:Nat}{vars:List Bs}{d:Nat}{cs:Array Y}{t:TypeId}{z:Nat×Nat}(h:SP w pb tb T k vars d)
  (hx:w.heap[x]?=O (ae cs t z)) (ht:t≠9) (e:x≠pb) (f:tb<x) (a b c:Y):SP (E6 w x a b c) pb tb T k vars d:=
 ((h.setOther hx ht e f a).setOther (Ba hx a) ht e f b).setOther (Ba (Ba hx a) b) ht e f c
def bB.E6{M:Nat->Obj->Prop}{a b:Z}(h:bB M a b){x:Nat}(hx:a.heap.size<=x)(u v s:Y):bB M a (E6 b x u v s):=
 (by grind [Mu])
def aCI(hp:SP w pb tb T k vars d)(hd:d+1<=8)
  (hk:(tk T k).kind=0\/(tk T k).kind=4) (hm:dZ T k [45]=A) (hn:(tk T (k+1)).kind≠3) :
  Calls bbr 117 #[pp pb] w (jW eP pb tb T d w (.err 2 (tk T (k+1)).pos)):=by
 have HM:=a1p hm;have HN:=a1p hn;clear hm hn;have H:=a1p hp
 go_enter_defers func117,ntmps117
 go_wp2_with fail
 refine(An H.out hd).mono ?_;rintro e w1 ⟨rfl,dX,iV,dE,gj⟩;have mm:=a1p iV;have ix:=a1p gj;have ku:=a1p dE;have nU:=a1p dX;obtain⟨n,c,h0,l1,l2,-,l3,l4⟩:=dE.l0;obtain⟨t0,t1,t2⟩:=dE.toks.at dE.kt;obtain⟨kd,iN⟩:∃ kd:Int,kd=((tk T k).kind:Int):=⟨_,J⟩;rw[<- iN] at t0;have k1:(kd == 1)=false:=zg;have k2:(kd == 2)=false:=zg;have k3:(kd == 3)=false:=zg;have Cq:pb<w1.heap.size:=dE.d2.2.2;have xI:tb<w1.heap.size:=a4z dE.lt Cq;have fZ:pb<w.heap.size:=hp.d2.2.2;have wQ:=hp.lt;clear dE gj iV dX hk iN hp
 go_wp2_with fail
 have Bu:∀ o,SP (w1.alloc o) pb tb T k vars (d+1):=(by grind [dR,SP.ext,Hid.out]);have Bv:∀ o,(w1.alloc o).heap[w.heap.size]?=_:=fun o=>dR (o:=o) mm.out;have Bw:=fun o=>ix.out.alloc o;have Bx:∀ o,(w1.alloc o).heap.size=w.heap.size+2:=(by grind [size_alloc,Hid.out]);have Av:=a1p Bu;have Kn:=a1p Bv;have Ir:=a1p Bw;have Is:=a1p Bx;clear Bu Bv Bw Bx;have uB:∀ o,(w1.alloc o).heap[w1.heap.size]?=O o:=(by grind [blk_alloc_new]);refine(vh (Av.out _) [45] HM.out).mono ?_;rintro e w2 ⟨rfl,fa,eW⟩;have dX:=nU.out;have rj:=eW.size;rw[Is.out] at rj;have fg:=eW.bJ (uB _) zo zd;have y0:=jJ fg 0;have y1:=jJ fg 1;have y2:=jJ fg 2;have c0:w2.cell? ⟨w1.heap.size,0,V⟩=O (zi kd):=cellOf fg J;have c1:w2.cell? ⟨w1.heap.size,1,V⟩=O (aT ((tk T k).text)):=cellOf fg J;have c2:w2.cell? ⟨w1.heap.size,2,V⟩=O (zi (tk T k).pos):=cellOf fg J;have iO:=a1p fa;have SJ:=a1p fg;have WZ:=a1p (eW.bJ (Kn.out _) zo zd);have fO:=a1p ((Ir.out _).trans eW);have ab1:pb<w2.heap.size:=zo;have aCJ:tb<w2.heap.size:=zo;have aCK:w1.heap.size<w2.heap.size:=zo;have q1:¬ w1.heap.size=pb:=zo;have q2:¬ w1.heap.size=tb:=zo;have q3:¬ pb=w1.heap.size:=zo;have q4:¬ tb=w1.heap.size:=zo;obtain⟨n2,cc2,g0,g1,g2,-,g3,g4⟩:=fa.l0;obtain⟨u0,u1,u2⟩:=fa.toks.at fa.kt;obtain⟨kd2,alb⟩:∃ kd:Int,kd=((tk T (k+1)).kind:Int):=⟨_,J⟩;rw[<- alb] at u0;have k32:(kd2 != 3)=true:=by simp;have:=HN.out;omega
 clear fa eW fg dX uB alb h0 t0 t1 t2
 go_wp2_with fail
 refine(Sy (iO.out.E6 SJ.out zd q1 zo _ _ _)).mono ?_;rintro e w3 ⟨⟨b,rfl,eL,gz⟩,dU,gJ⟩;rw[ala] at gz;have dX:=nU.out;exact tN fZ gJ (by grind [acb,trans,db.bJ,Hid.out]) ⟨b,J,eL,zo⟩ ((fO.out.E6 zo _ _ _).trans dU)
def aCM(hint:WJ)(hp:SP w pb tb T k vars d)(hd:d+1<=8)
  (hk:(tk T k).kind=0\/(tk T k).kind=4) (hm:dZ T k [45]=A) (hn:(tk T (k+1)).kind=3) :
  Calls bbr 117 #[pp pb] w (jW eP pb tb T d w (.ok (.mk 110 [] (- P.num (tk T (k+1)).text) 0 []) (k+2) vars)):=by
 have HM:=a1p hm;have HN:=a1p hn;clear hm hn;have H:=a1p hp
 go_enter_defers func117,ntmps117
 go_wp2_with fail
 refine(An H.out hd).mono ?_;rintro e w1 ⟨rfl,dX,iV,dE,gj⟩;have mm:=a1p iV;have ix:=a1p gj;have ku:=a1p dE;have nU:=a1p dX;obtain⟨n,c,h0,l1,l2,-,l3,l4⟩:=dE.l0;obtain⟨t0,t1,t2⟩:=dE.toks.at dE.kt;obtain⟨kd,iN⟩:∃ kd:Int,kd=((tk T k).kind:Int):=⟨_,J⟩;rw[<- iN] at t0;have k1:(kd == 1)=false:=zg;have k2:(kd == 2)=false:=zg;have k3:(kd == 3)=false:=zg;have Cq:pb<w1.heap.size:=dE.d2.2.2;have xI:tb<w1.heap.size:=a4z dE.lt Cq;have fZ:pb<w.heap.size:=hp.d2.2.2;have wQ:=hp.lt;clear dE gj iV dX hk iN hp
 go_wp2_with fail
 have Bu:∀ o,SP (w1.alloc o) pb tb T k vars (d+1):=(by grind [dR,SP.ext,Hid.out]);have Bv:∀ o,(w1.alloc o).heap[w.heap.size]?=_:=fun o=>dR (o:=o) mm.out;have Bw:=fun o=>ix.out.alloc o;have Bx:∀ o,(w1.alloc o).heap.size=w.heap.size+2:=(by grind [size_alloc,Hid.out]);have Av:=a1p Bu;have Kn:=a1p Bv;have Ir:=a1p Bw;have Is:=a1p Bx;clear Bu Bv Bw Bx;have uB:∀ o,(w1.alloc o).heap[w1.heap.size]?=O o:=(by grind [blk_alloc_new]);refine(vh (Av.out _) [45] HM.out).mono ?_;rintro e w2 ⟨rfl,fa,eW⟩;have dX:=nU.out;have rj:=eW.size;rw[Is.out] at rj;have fg:=eW.bJ (uB _) zo zd;have y0:=jJ fg 0;have y1:=jJ fg 1;have y2:=jJ fg 2;have c0:w2.cell? ⟨w1.heap.size,0,V⟩=O (zi kd):=cellOf fg J;have c1:w2.cell? ⟨w1.heap.size,1,V⟩=O (aT ((tk T k).text)):=cellOf fg J;have c2:w2.cell? ⟨w1.heap.size,2,V⟩=O (zi (tk T k).pos):=cellOf fg J;have iO:=a1p fa;have SJ:=a1p fg;have WZ:=a1p (eW.bJ (Kn.out _) zo zd);have fO:=a1p ((Ir.out _).trans eW);have ab1:pb<w2.heap.size:=zo;have aCJ:tb<w2.heap.size:=zo;have aCK:w1.heap.size<w2.heap.size:=zo;have q1:¬ w1.heap.size=pb:=zo;have q2:¬ w1.heap.size=tb:=zo;have q3:¬ pb=w1.heap.size:=zo;have q4:¬ tb=w1.heap.size:=zo;have gH:=fa.E6 fg zg q1 zo (zi 3) (aT ((tk T (k+1)).text)) (zi (tk T (k+1)).pos);obtain⟨n2,cc2,g0,f0,g5,g1,g2,g3,g4,jY,ez⟩:=gH.on (by rw[HN.out];decide);have e0:w2.cell? ⟨pb,0,V⟩=O (.slice (O ⟨tb,(k+1)*3,V⟩) n2 cc2):=by
  grind [World.cell?_of_block,acb]
 have e1:w2.frozen? ⟨pb,0,V⟩=false:=by
  obtain⟨_,_,_,_,q,_⟩:=fa.yD;exact jJ q 0
 obtain⟨u0,u1,u2⟩:=fa.toks.at fa.kt;have xG:=fa.tw.digits _ (J7 fa.kt) HN.out;rw[HN.out] at u0;have e2:(k+1)*3=k*3+3:=zo;rw[e2] at e0 u0 u1 u2;have oC:SP ((E6 w2 w1.heap.size (zi 3) (aT ((tk T (k+1)).text)) (zi (tk T (k+1)).pos)).setCell ⟨pb,0,V⟩ (.slice (O ⟨tb,k*3+3+3,V⟩) (n2-1) (cc2-1)))
   pb tb T (k+1+1) vars (d+1):=zg
 have tP:=a1p oC;have HDG:=a1p xG;have HE2:=a1p e2;have nb:=aaj xG.2.1 xG.2.2;obtain⟨nb1,nb2⟩:=nb;clear fa eW fg dX uB h0 t0 t1 t2 gH jY ez xG g0 f0 g5 e2 oC
 go_wp2_with fail
 refine(hint.go _ HDG.out.1 HDG.out.2.1 HDG.out.2.2).mono ?_;rintro e w3 ⟨rfl,SN⟩;have MY:=a1p SN;clear SN
 go_wp2_with fail
 have dX:=nU.out;have hz:=MY.out.size;rw[size_setCell,ala] at hz;refine yI (j:=2) Ka J fZ (by grind [dR,SP.ext,Hid.out,bB.ext]) zo
  (by grind [dR,blk_setCell_other,trans,acb,bB.ext,Hid.out]) ?_
  ((((fO.out.E6 zo _ _ _).trans (db.Gu (bB.refl _ _) _)).trans MY.out.toM).alloc _)
 exact Kc (by grind [size_alloc]) (blk_alloc_new _ _)
def aCN:SE 0:=⟨fun _ _ h=>by simp [oP] at h⟩
def aCO(t:Pq f)(g:Ig f)(i:SF f)(u:abN)(hint:WJ):SE (f+1):=by
 refine⟨fun{pb tb T k vars d w r} a x h=>?_⟩;rw[oP] at h;by_cases j:P.maxDepth<d+1
 .rw[zip j,a1o] at h;subst h;exact aCv a j x
 rw[bM j] at h;have b:d+1<=8:=by grind [P.maxDepth]
 by_cases l:(tk T k).kind=3
 .rw[zip l,a1o] at h;subst h;exact aCw hint a b l
 rw[bM l] at h;by_cases m:(tk T k).kind=2
 .rw[zip m,a1o] at h;subst h;exact aCx u a b m
 rw[bM m] at h;by_cases e:(tk T k).kind=1
 .rw[zip e] at h;by_cases n:dZ T (k+1) [40]=A
  .rw[zip n] at h;cases hr:oQ T f (k+2) vars (d+1) (tk T k).pos [] with
   | none=>rw[hr] at h;simp [cj.bind] at h
   | some q=>rw[hr] at h;exact aCz t a b e n hr h
  .rw[bM n,a1o] at h;subst h;exact aCy a b e zg
 rw[bM e] at h;have hk:(tk T k).kind=0\/(tk T k).kind=4:=by have:=a.tw.kind _ (J7 a.kt);omega
 by_cases hm:dZ T k [45]=A
 .rw[zip hm] at h;by_cases c:(tk T (k+1)).kind=3
  .rw[zip c,a1o] at h;subst h;exact aCM hint a b hk hm c
  .rw[bM c,a1o] at h;subst h;exact aCI a b hk hm c
 rw[bM hm] at h;have o:dZ T k [45]=false:=zg;by_cases c:dZ T k [40]=A
 .rw[zip c] at h;cases hr:iZ T f 0 (k+1) vars (d+1) with
  | none=>rw[hr] at h;simp [cj.bind] at h
  | some q=>rw[hr] at h;exact aCH g a b hk o c hr h
 rw[bM c] at h;have s:dZ T k [40]=false:=zg;by_cases p:dZ T k [91]=A
 .rw[zip p] at h;exact aCG i a b hk o s p h
 rw[bM p,a1o] at h;subst h;exact aCF a b hk o s zg
