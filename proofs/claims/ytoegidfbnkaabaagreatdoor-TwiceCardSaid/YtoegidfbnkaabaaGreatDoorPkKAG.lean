/- A part of one proof (SList, SPrim, SPrim2, SPrim3, SPrim4, SPrim5). -/
import Derived.Test.YtoegidfbnkaabaaGreatDoorPkKAF
import Derived.Deep.Cut
set_option linter.all false
set_option maxRecDepth 100000
set_option maxHeartbeats 8000000
open Option renaming some → O, none → V
open Go renaming Value → Y, World → Z
open Bool renaming true → A, false → ae
open Go.Obj renaming cells → ah
open Go.Ending renaming returned → ai
open Go.Value renaming tuple → aq
open Option.some renaming injEq → a0z
open Go.Lib renaming hid → a0A
open And renaming intro → a0B
open List renaming length_cons → a0J, length_nil → a0Z
open Go.Value renaming slice → a0M, pointer → a1l
open Go.Obj renaming cells → a1d
open Nat renaming lt_trans → a3J
open Array renaming replicate_zero → a35, replicate_succ → a36
open Go.Fence renaming wide → a4r
open Go.World renaming setCell_alloc_past → a4F
open Go.Proofs.Tryz renaming prog → bap
open Go.Proofs.Tryz
namespace Go.Proofs.YtoegidfbnkaabaaGreatDoor
open P
open Go.RowKit
variable{B bx cap d f g k n pb tb:Nat}{R:Ending->Z->Prop}{T:List P.Tok}{W w w0:Z}{bl:List Nat}{fn:Func}{v:Y}{iK:Array Y}{vars:List Bs}
def akg{P:Program}{f:FuncId}{c:Code}{args:Array Y}
  (a:P.funcs[f]?=O fn) (b:fn.body=O c)
  (h:c.wp P (bodyPostM a4r 3 P fn R) { tmps:=args++Array.replicate (fn.ntmps-args.size) undef,defers:=[] } w):Calls P f args w R:=
 callsIn_wide.1 (callsIn_of_wp_marks (n:=3) a b trivial (wpIn_wide.2 h) J)
def aB4{P:Program}{tmps:Array Y}(hr:(results fn tmps).run P w = .ok v w)(a:R (ai v) w) :
 bodyPostM a4r 3 P fn R .ret { tmps:=tmps,defers:=[] } w:=⟨v,hr,a⟩
def aB5(hp:SP w pb tb T k vars d)(hc:eD T k [93]=A) :
  Calls bap 142 #[pp pb] w (jX eR pb tb T d w (.ok (.mk 97 [91,93] 0 0 []) (k+1) vars)):=by
 have dF:=a0A (hp.ext (w':=w.alloc (a1d #[.int .u8 97,aW [91,93],zi 0,zi 0,b9] 178)) (by grind [dS]));have HC:=a0A hc;have gk:=hp.d2.2.2;clear hp hc;refine akg func142 J ?_;simp only[ntmps142,List.size_toArray,a0J,a0Z,Nat.reduceAdd,Nat.reduceSub,a36,a35,List.push_toArray,List.append_toArray,List.nil_append,List.cons_append]
 go_wp2_with fail
 refine(vd dF.out [93] HC.out).mono ?_;rintro e w3 ⟨rfl,fZ,dV⟩;have uk:=a0A fZ;have og:=a0A dV;clear fZ dV
 go_wp2_with fail
 refine aB4 (results_tmp J _ _ _) ⟨_,J,?_,uk.out,((bD.refl _ _).alloc _).trans og.out⟩;have hz:=og.out.size;rw[size_alloc] at hz;exact JV zg (by grind [dc.bJ,blk_alloc_new,Hid.out])
abbrev J3:Obj:=ah #[.int .u8 97,.string (bs [91,93]),zi 0,zi 0,.slice V 0 0] 178
def LJ(pb tb:Nat)(T:List P.Tok)(d:Nat)(w0:Z)(c:cg (List Ex))(n:Nat)(a:Act)(w:Z):Prop:=
 ∃ (acc:List Ex) (k:Nat) (vs:List Bs) (xs:List Y) (sl e f g h i u8 j l m o p q r u16 s t u x y z B C D E F G H I K u32 L M N Q R S U:Y),a={ tmps:=#[pp pb,e,f,pp w0.heap.size,sl,g,h,i,u8,j,l,m,o,p,q,r,u16,s,t,u,x,y,z,B,C,D,E,F,G,H,I,K,u32,L,M,N,Q,R,S,U],defers:=[] } /\
  w.ownsRow w0.heap.size 106 1 sl acc.length xs/\eT (fun b=>Nu w0 w b/\sl.ownBlock≠O b) w xs acc/\SP w pb tb T k vs d/\dc pb w0 w/\0<acc.length/\acc.length<=k /\
  w.heap[w0.heap.size]?=O J3/\(if eD T k [44] then qk T n (k+1) vs d acc else O (.ok acc k vs))=O c
noncomputable def akh:Code:=match Tryz.f142.body with
 | some (.seq _ (.seq _ (.seq _ (.seq _ (.seq _ (.seq _ (.seq _ c)))))))=>c
 | _=>.skip
noncomputable def aB7:Code:=match akh with | .seq c _=>c | _=>.skip
noncomputable def aB8:Code:=match akh with | .seq _ c=>c | _=>.skip
theorem abx{B:Z}{row:Option Nat}(c:W.grownBy B row)(hr:∀ r,row=O r->∃ o:Obj,W.heap[r]?=O o/\o.isCells=ae)(b:Nat)(cs:Array Y)(t:TypeId)(z:Nat×Nat)
  (h:W.heap[b]?=O (ah cs t z)):B.heap[b]?=O (ah cs t z):=by
 rw[c.block b (bn h) (fun e=>by
  obtain⟨o,a,d⟩:=hr b e.symm;rw[h] at a;cases a;cases d)]
 omega
theorem aki{o a:Obj}(b:a=o)(h:n=w.heap.size):(w.alloc o).heap[n]?=O a:=by grind [blk_alloc_new]
def LI(pb tb:Nat)(T:List P.Tok)(k:Nat)(vs:List Bs)(d X:Nat)(w0:Z)(bl:List Nat)(acc:List Ex)(x:Ex)(pre:List (Nat×Nat))(W:Z):Prop:=
 SP W pb tb T k vs d/\dc pb w0 W/\eT (fun b=>Nu w0 W b/\b≠X) W (bl.map (fun b=>a1l (O ⟨b,0,V⟩))) acc/\X<W.heap.size /\
 ∃ bv,W.heap[X]?=aP #[pp bv] 106 /\
  (pre=HU bl pre.length->pre.length<=acc.length->eR (fun b=>Nu w0 W b/\b≠X) W (pp bv) (Dh (acc.drop (acc.length-pre.length)) x))
def LI.own{vs:List Bs}{X:Nat}{acc:List Ex}{x:Ex}(n:w0.heap.size<=B) :
  OwnFrom B (LI pb tb T k vs d X w0 bl acc x):=by
 rintro pre W f row ⟨g,p,h,q,bv,s,i⟩ c hr;have j:=abx c (fun r e=>(hr r e).2);have l:∀ (b:Nat) (o:Obj),Dt o->W.heap[b]?=O o->f.heap[b]?=O o:=fun b o m u=>by
  obtain⟨cs,t,z,rfl⟩:=aBJ m;grind
 have w:=c.size;refine⟨g.aBI j,(by grind [Nat.le_trans,bD.O0]),?_,zo,bv,zg,fun a b=>?_⟩
 .exact eT.mono zg zg _ _ h
 .exact eR.mono zg zg _ _ (i a b)
def aB9{acc:List Ex}{x:Ex}(b:n<acc.length) :
  Dh (acc.drop (acc.length-(n+1))) x = .mk 99 [46] 0 0 [acc[acc.length-1-n],Dh (acc.drop (acc.length-n)) x]:=by
 have e:acc.length-(n+1)=acc.length-1-n:=zo;have a:acc.length-n=acc.length-1-n+1:=zo;rw[e,a,List.drop_eq_getElem_cons zo];rfl
theorem LI.step{vs:List Bs}{X:Nat}{acc:List Ex}{x:Ex}{pre:List (Nat×Nat)}{y:Nat×Nat}(w:bl.length=acc.length)
  (z:w0.heap.size<=X) (B:pb<w0.heap.size) (h:LI pb tb T k vs d X w0 bl acc x pre W) (bv:Nat) (C:W.heap[X]?=aP #[pp bv] 106) :
  LI pb tb T k vs d X w0 bl acc x (pre++[y])
   (((W.alloc (ah #[pp y.2,pp bv] 106)).alloc (ah #[.int .u8 99,aW [46],zi 0,zi 0,cU W.heap.size 2 2] 178)).setCell ⟨X,0,V⟩ (pp (W.heap.size+1))):=by
 obtain⟨i,j,f,D,a,l,m⟩:=h;have:a=bv:=by
  grind
 subst this;generalize hr:(a1d #[pp y.2,pp a] 106)=row at *;generalize E:(a1d #[.int .u8 99,aW [46],zi 0,zi 0,cU W.heap.size 2 2] 178)=node at *;have n:((W.alloc row).alloc node).heap[X]?=_:=dS (dS l);have F:(((W.alloc row).alloc node).setCell ⟨X,0,V⟩ (pp (W.heap.size+1))).heap.size=W.heap.size+2:=by grind [size_setCell,size_alloc]
 have hk:∀ (b:Nat) (o:Obj),b≠X->((W.alloc row).alloc node).heap[b]?=O o->(((W.alloc row).alloc node).setCell ⟨X,0,V⟩ (pp (W.heap.size+1))).heap[b]?=O o:=(by grind [blk_setCell_other]);have p:∀ (b:Nat) (o:Obj),b≠X->W.heap[b]?=O o->(((W.alloc row).alloc node).setCell ⟨X,0,V⟩ (pp (W.heap.size+1))).heap[b]?=O o:=(by grind [dS]);have hlt:=i.lt;refine⟨(by grind [dS,SP.setOther,SP.ext]),(by grind [bD.L7,bD.alloc]),?_,zo,W.heap.size+1,by rw[AN n];rfl,fun c q=>?_⟩
 .exact eT.mono zg zg _ _ f
 .simp only[List.length_append,a0J,a0Z,Nat.zero_add] at c q ⊢;rw[aj5] at c;obtain⟨r,G⟩:=List.append_inj' c J;have H:y=(bl.length-1-pre.length,bl.getD (bl.length-1-pre.length) 0):=zg;rw[aB9 zo];have hx:=m r zo;have s:acc.length-1-pre.length<acc.length:=zo;have g:=f.get (acc.length-1-pre.length) s;have t:y.2=bl.getD (acc.length-1-pre.length) 0:=zg;rw[<- t] at g;have u:w0.heap.size<=W.heap.size:=j.size;have e:W.heap.size≠X:=zo;refine abm zg (by grind [aki,size_alloc]) (abn zg (hk _ _ e (dS (aki hr J))) ?_ ?_)
  .exact eR.mono zg zg _ _ g
  .exact eR.mono zg zg _ _ hx
def akk{vs:List Bs}{nb X:Nat}{acc:List Ex}{x:Ex}{r:cg Ex}(u1 u2 u6 u7 u8 u9 yO yP yQ wI wJ yR u16 yS yT BY BZ B0 B1 B2 B3 B4 B5 B6 Dz DA DB HW u32 H0 AW ER Gh Gi Mx My:Y)
  (hp:SP w pb tb T k vs d) (hf:dc pb w0 w) (gk:pb<w0.heap.size) (Sd:w0.heap.size<=X) (Wf:g≠X) (hL:acc.length<=3000) (o9:bl.length=acc.length) (xL:pb<g)
  (hXb:w.heap[X]?=aP #[pp bx] 106) (hx:eR (fun b=>Nu w0 w b/\b≠X) w (pp bx) x)
  (hg:w.heap[g]?=aP iK 106) (AZ:∀ j,j<bl.length->iK[j]?=O (pp (bl.getD j 0)))
  (lY:eT (fun b=>Nu w0 w b/\b≠X) w (bl.map (fun b=>a1l (O ⟨b,0,V⟩))) acc)
  (hr:mw T [93] (Dh acc x) k vs=O r)
  (K:Act->Z->Prop) (hK:∀ a w,aB8.wp bap (bodyPostM a4r 3 bap Tryz.f142 (jX eR pb tb T d w0 r)) a w->K a w) :
  aB7.wp bap (Exit.then K (bodyPostM a4r 3 bap Tryz.f142 (jX eR pb tb T d w0 r))) { tmps:=#[pp pb,u1,u2,pp nb,cU g acc.length cap,pp X,u6,u7,u8,u9,yO,yP,yQ,wI,wJ,yR,u16,yS,yT,BY,BZ,B0,B1,B2,B3,B4,B5,B6,Dz,DA,DB,HW,u32,H0,AW,ER,Gh,Gi,Mx,My],defers:=[] } w:=by
 change ∀ a w,Code.wp _ (Code.seq _ _) _ a w->_ at hK;have H:=a0A hp;have HF:=a0A hf;have HX:=a0A hXb;have HE:=a0A hx;have HG:=a0A hg;have HC:=a0A AZ;have HXS:=a0A lY;have HR:=a0A hr;have J4:=a0A o9;have Mu:=hf.size;have Wg:=bn hXb;clear hp hf hXb hx hg AZ lY hr o9;change Code.wp _ (Code.region _ _ _) _ _ _
 go_wp2_with fail
 have hq:=HR.out;rw[mw] at hq;by_cases hc:eD T k [93]=A
 .rw[zip hc,a0z] at hq;subst hq;refine(R3 H.out [93] hc).mono ?_;rintro e w1 ⟨rfl,dF,gm⟩;have kA:=a0A dF;have iA:=a0A gm;clear dF gm hc HR
  go_wp2_with fail
  refine(backward _ _ _ _).mono ?_;rintro e w2 ⟨rfl,rfl⟩;have pH:=iA.out.size;have Ms:w1.heap[X]?=_:=dc.bJ iA.out HX.out zo zd;have vi:w1.heap[g]?=_:=dc.bJ iA.out HG.out zo zd;have hI0:LI pb tb T (k+1) vs d X w0 bl acc x [] (w1.alloc (ah #[cU g acc.length cap] 83)):=by
   refine⟨kA.out.ext (by grind [dS]),(HF.out.trans iA.out).alloc _,?_,by grind [size_alloc],bx,dS Ms,fun _ _=>?_⟩
   .exact eT.mono (by grind [size_alloc]) (by grind [dS,dc.lx,Hid.out]) _ _ HXS.out
   .simp only[a0Z,Nat.sub_zero,List.drop_length];exact eR.mono (by grind [size_alloc]) (by grind [dS,dc.lx,Hid.out]) _ _ HE.out
  have hB:(w1.alloc (ah #[cU g acc.length cap] 83)).heap[w1.heap.size]?=_:=blk_alloc_new _ _;have hgB:(w1.alloc (ah #[cU g acc.length cap] 83)).heap[g]?=_:=dS vi;have abz:w0.heap.size<=(w1.alloc (ah #[cU g acc.length cap] 83)).heap.size:=zg;have HI:=a0A hI0;have HB:=a0A hB;have HGB:=a0A hgB;have HS2:=a0A abz;clear hI0 hB hgB abz Ms vi
  go_wp2_with fail
  have Ms:X<w1.heap.size:=zo;refine(wpIn_wide (n:=3)).1 (wpIn_rangeFunc_ownF (F:=a4r) (n:=3) J zo (gf:=175) (lb:=#[pp w1.heap.size]) J trivial (enters_of func175 zk J)
   (aBP a4r 2 trivial J zo w1.heap.size g cap X bl zo Wf (by rw[J4.out];omega) _ (by rw[J4.out];exact HB.out) iK HGB.out HC.out) (by grind [JW.trans])
   (fun W l o o' _ hl ho _ b cs t z _ hb=>(by grind [abx,grownBy_putObj'])) (Below.refl _ _) zg
   (LI pb tb T (k+1) vs d X w0 bl acc x) (fun _ _ _=>False) (LI.own HS2.out) (fun c s W W' row h=>h.elim) HI.out
   (fun y=>{ tmps:=#[pp pb,u1,u2,pp nb,cU g acc.length cap,pp X,u6,pp y.2,u8,u9,yO,yP,yQ,wI,wJ,yR,u16,yS,yT,BY,BZ,B0,B1,B2,B3,B4,B5,B6,pp pb,aq #[],cU g acc.length cap,.func (.func 175) #[] #[pp w1.heap.size],zi (y.1:Int),pp y.2,AW,ER,Gh,Gi,Mx,My],defers:=[] }) ?assign ?body ?done ?stop)
  case assign=>
   intro l y W K hK
   gi_wp2_with (rw[Oper.semAt_eq _ _ _ (fun c h=>by cases h)];go_simp;try go_bits)
   omega
  case body=>
   intro l pre y W hI hlen;obtain⟨bv,mM,-⟩:=hI.2.2.2.2;have pI:W.cell? ⟨X,0,V⟩=O (pp bv):=cellOf mM J;have Gm:=jO mM 0;have hXW:=hI.2.2.2.1;have EU:=LI.step (y:=y) J4.out Sd gk hI bv mM;rw[a4F _ _ _ _ (by rw[size_alloc];omega),a4F _ _ _ _ hXW] at EU;have HST:=a0A EU;clear hI EU mM
   gi_wp2_with (rw[Oper.semAt_eq _ _ _ (fun c h=>by cases h)];go_simp;try go_bits)
   exact⟨(by grind [KeepsOthers.setCell,trans,KeepsOthers.alloc,KeepsOthers.trans]),fun b cs t z hb hc=>(by grind [dS,blk_setCell_other]),HST.out⟩
  case done=>
   rintro D ys W hD rfl hI hK;have Wh:=LI.own HS2.out _ W (W.putObj D (.deferred V)) (O D) hI (grownBy_putObj' W D _) (fun r e=>by cases e;exact⟨hD,_,hK,J⟩);obtain⟨bv,mM,-⟩:=hI.2.2.2.2;have pI:W.cell? ⟨X,0,V⟩=O (pp bv):=cellOf mM J;have hXW:=hI.2.2.2.1;have HBV:=a0A mM;have HII:=a0A Wh;have HK:=a0A hK;clear hI Wh mM hK
   go_wp2_with fail
   refine⟨zs,.inl ⟨_,_,J,run_takeDeferred HK.out,?_⟩⟩;refine⟨_,results_tmp J _ _ _,?_⟩;obtain⟨g1,g2,g3,g4,bv2,g5,g6⟩:=HII.out;have e5:=abx (grownBy_putObj' W D (.deferred V)) (fun r e=>by cases e;exact⟨_,HK.out,J⟩) _ _ _ _ HBV.out;have:bv2=bv:=by
    grind
   subst this;have e6:=g6 (by rw[V8]) (by rw[V8,J4.out];omega);rw[V8,J4.out,Nat.sub_self,List.drop_zero] at e6;exact⟨_,J,eR.mono zg zg _ _ e6,g1,g2⟩
  grind
 .rw[bO hc,a0z] at hq;subst hq;refine(R4 H.out [93] zg zd).mono ?_;rintro e w1 ⟨⟨b,rfl,eQ,gH⟩,dV,gQ⟩;exact⟨⟨b,J,eQ,zo⟩,HF.out.trans dV,gQ⟩
def aCg(DD:∀ m,m<f+1->HH m){r:cg Ex}(oY:SP w0 pb tb T k vars d)(hd:d<=8)
  (h:pE T (f+1) k vars d=O r):Calls bap 142 #[pp pb] w0 (jX eR pb tb T d w0 r):=by
 rw[pE] at h;by_cases pI:eD T k [93]=A
 .rw[zip pI,a0z] at h;subst h;exact aB5 oY pI
 rw[bO pI] at h;cases Af:qk T f k vars d [] with
 | none=>rw[Af] at h;simp [cg.bind] at h
 | some re=>
 rw[Af] at h;cases f with
 | zero=>simp [qk] at Af
 | succ f=>
 rw[qk] at Af;have dF:=a0A (oY.ext (w':=w0.alloc J3) (by grind [dS]));have HR:=a0A h;have Mz:=a0A Af;have xJ:=oY.d2.2.2;have hT:=oY.tw.len;obtain⟨i0,hi,JZ,J0,J1⟩:=info_parts aj3;have iA:Hid (dc pb w0 (w0.alloc J3)):=a0A ((bD.refl _ _).alloc _);clear oY h Af;refine akg func142 J ?_;simp only[ntmps142,List.size_toArray,a0J,a0Z,Nat.reduceAdd,Nat.reduceSub,a36,a35,List.push_toArray,List.append_toArray,List.nil_append,List.cons_append]
 go_wp2_with fail
 refine(qs dF.out [93] zg zd).mono ?_;rintro e w3 ⟨rfl,rfl⟩;clear pI
 go_wp2_with fail
 cases hq:jl T f 0 k vars d with
 | none=>have e:=Mz.out;rw[hq] at e;simp [cg.bind] at e
 | some q=>
 have e:=Mz.out;rw[hq] at e;refine((DD f zo).go dF.out hd hq).mono ?_;cases q with
 | err c0 a0=>
  rintro e2 w4 ⟨⟨b,rfl,eQ,gH⟩,dV,gQ⟩;simp only[cg.bind,a0z] at e;subst e;have hr:=HR.out;simp only[cg.bind,a0z] at hr;subst hr;exact⟨⟨b,J,eQ,by grind [size_alloc]⟩,iA.out.trans dV,gQ⟩
 | ok x k' wK=>
 rintro e2 w1 ⟨v,rfl,hv,ff,fa⟩;simp only[cg.bind] at e;obtain⟨bx,rfl,jJ⟩:=hv.shape;have nA:=(P.mono T f).oper _ _ _ _ _ _ _ hq;have pH:=fa.size;rw[size_alloc] at pH;have Dk:=dc.bJ fa (blk_alloc_new w0 J3) zo zg;have eU:(w1.alloc (ah #[pp bx] 106)).ownsRow w0.heap.size 106 1 (cU w1.heap.size 1 1) 1 [pp bx]:=
  ⟨J,.inr ⟨w1.heap.size,1,_,J,zo,blk_alloc_new _ _,Nat.le_refl _,zd,J,J⟩⟩
 have je:eT (fun b=>Nu w0 (w1.alloc (ah #[pp bx] 106)) b/\(a0M (O ⟨w1.heap.size,0,V⟩) 1 1).ownBlock≠O b) (w1.alloc (ah #[pp bx] 106)) [pp bx] [x]:=by
  have:=eT.snoc (l:=[]) (vs:=[]) (F:=fun b=>Nu w0 (w1.alloc (ah #[pp bx] 106)) b/\(a0M (O ⟨w1.heap.size,0,V⟩) 1 1).ownBlock≠O b) (w:=w1.alloc (ah #[pp bx] 106)) (v:=pp bx) (x:=x)
   (eR.mono (fun b hb=>⟨(by grind [size_alloc]),fun e=>by injection e with e;grind⟩) (by grind [dS]) _ _ hv) (by unfold eT;rfl)
  grind
 have Se:=a0A eU;have lZ:=a0A je;have iT:=a0A (ff.ext (w':=w1.alloc (ah #[pp bx] 106)) fun b o h=>dS h);have fQ:Hid (dc pb w0 (w1.alloc (ah #[pp bx] 106))):=a0A ((iA.out.trans fa).alloc _);have HN1:Hid ((w1.alloc (ah #[pp bx] 106)).heap[w0.heap.size]?=O J3):=a0A (dS Dk);have HE:=a0A e;have HK:=a0A nA;clear hv ff fa eU je e hq jJ Dk Mz nA iA dF
 go_wp2_with fail
 refine wp_loop_ghost (fun n a w=>n<=f/\LJ pb tb T d w0 re n a w) ⟨f,Nat.le_refl _,[x],k',wK,_,_,_,_,_,_,_,_,_,_,_,_,_,_,_,_,_,_,_,_,_,_,_,_,_,_,_,_,_,_,_,_,_,_,_,_,_,_,_,J,Se.out,lZ.out,iT.out,fQ.out,Nat.zero_lt_one,by have:=HK.out;simp;omega,HN1.out,by simpa using HE.out⟩ ?_;clear Se lZ iT fQ HK HN1 HE pH;rintro n a w ⟨ZO,acc,k2,vs,xs,sl,u1,u2,u5,u6,u7,u8,u9,yO,yP,yQ,wI,wJ,yR,u16,yS,yT,BY,BZ,B0,B1,B2,B3,B4,B5,B6,Dz,DA,DB,HW,u32,H0,AW,ER,Gh,Gi,Mx,My,rfl,dU,lY,hp,hf,h0a,We,Dk,hr⟩;have H5:=hp.kt;have hz:=hf.size;have B8:=hp.d2.2.2;obtain⟨g',rC,rfl⟩:∃ g cap,sl = cU g acc.length cap:=by
  obtain⟨g1,g2 | ⟨g,cp,cur,e1,e2,e3,e4⟩⟩:=dU<;>grind
 have HO:=a0A dU;have HX:=a0A lY;have HP:=a0A hp;have HF:=a0A hf;have HN:=a0A Dk;by_cases hc:eD T k2 [44]=A
 .rw[zip hc] at hr;cases n with
  | zero=>grind [qk]
  | succ n=>
  rw[qk] at hr;have Ae:=a0A hr;clear dU lY hp hf Dk hr
  go_wp2_with fail
  refine(vd HP.out [44] hc).mono ?_;rintro e w2 ⟨rfl,ff,fa⟩;have iT:=a0A ff;have fQ:=a0A fa;clear ff fa hc
  go_wp2_with fail
  cases hq:jl T n 0 (k2+1) vs d with
  | none=>have e:=Ae.out;rw[hq] at e;simp [cg.bind] at e
  | some q=>
  have e:=Ae.out;rw[hq] at e;refine((DD n zo).go iT.out hd hq).mono ?_;cases q with
  | err c0 a0=>
   rintro e2 w4 ⟨⟨b,rfl,eQ,gH⟩,dV,gQ⟩;simp only[cg.bind,a0z] at e;subst e;have hr:=HR.out;simp only[cg.bind,a0z] at hr;subst hr;have:=fQ.out.size;exact⟨⟨b,J,eQ,zo⟩,(HF.out.trans fQ.out).trans dV,gQ⟩
  | ok x k' wK=>
  rintro e2 w3 ⟨v,rfl,hv,fZ,dV⟩;simp only[cg.bind] at e;obtain⟨bx,rfl,jJ⟩:=hv.shape;have nA:=(P.mono T n).oper _ _ _ _ _ _ _ hq;have qV:=fQ.out.size;have ET:=dV.size;have jZ:=fZ.kt;have abA:=iT.out.d2.2.2;have sI:=fZ.d2.2.2;have xK:w3.ownsRow w0.heap.size 106 1 (cU g' acc.length rC) acc.length xs:=by
   obtain⟨g1,g2 | ⟨g,cp,cur,e1,e2,e3,e4⟩⟩:=HO.out
   .omega
   .exact⟨g1,.inr ⟨g,cp,cur,e1,e2,dc.lx dV ⟨zg,J⟩ (dc.lx fQ.out ⟨zg,J⟩ e3 zo) zo,e4⟩⟩
  have J2:eT (fun b=>Nu w0 w3 b/\(a0M (O ⟨g',0,V⟩) acc.length rC).ownBlock≠O b) w3 xs acc:=
   eT.mono zg (by grind [dc.lx,Hid.out]) _ _ HX.out
  have hn3:w3.heap[w0.heap.size]?=O J3:=(by grind [dc.bJ,Hid.out]);have vh:=a0A xK;have lZ:=a0A J2;have HV:=a0A hv;have kA:=a0A fZ;have iA:=a0A ((HF.out.trans fQ.out).trans dV);have HE:=a0A e;have Ad:=a0A jJ;have HK:=a0A nA;have HN3:=a0A hn3;have DE:w0.heap.size<=g':=(HO.out.lt g' J).1;have A2:g'<w.heap.size:=(HO.out.lt g' J).2;have aCj:g'≠w0.heap.size:=fun e=>by
   obtain⟨g1,g2 | ⟨g,cp,cur,e1,e2,e3,e4⟩⟩:=HO.out
   .omega
   .injection e1 with e1 _ _;injection e1 with e1;injection e1 with e1 _ _;rw[<- e1,e] at e3;rw[HN.out] at e3;injection e3 with e3;injection e3 with _ e3 _;exact absurd e3 zd
  clear hv fZ dV xK J2 e hq jJ hn3 nA
  go_wp2_with (at_builtin;go_must (refine Ry J _ _ 83 J w0.heap.size 106 i0 _ 1 8 underlying83 hi JZ J0 J1 J zo _ _ _ J (vh.out.alloc _) ⟨w3.heap.size,0,V⟩ 1 1 [pp bx] J J (OK J) (by simp [Value.oneCell']) (by grind [maxLen]) zo (by simp;omega) ?_;intro v' w4 sH yU AY;obtain⟨g2,Gn,rfl⟩:=Ma sH;have Gj:=a0A sH;have ui:=a0A yU;have Sb:=a0A AY;clear sH yU AY))
  have jd:SP w4 pb tb T k' wK d:=(kA.out.ext fun b o h=>dS (o:=a1d #[a1l (O ⟨bx,0,V⟩)] 106) h).OZ (vh.out.alloc _) zg zo ui.out;have eF:dc pb w0 w4:=(iA.out.alloc _).O0 ui.out fun k hk=>(vh.out.lt k hk).1;have O5:=ui.out.size;rw[size_alloc] at O5;have O4:∀ (b:Nat) (o:Obj),w3.heap[b]?=O o->(a0M (O ⟨g',0,V⟩) acc.length rC).ownBlock≠O b->w4.heap[b]?=O o:=fun b o h eh=>by
   have h':=dS (o:=a1d #[a1l (O ⟨bx,0,V⟩)] 106) h;rw[ui.out.block b (bn h') (fun e=>eh e.symm)];omega
  have oZ:∀ b,b<w3.heap.size->(a0M (O ⟨g',0,V⟩) acc.length rC).ownBlock≠O b->(a0M (O ⟨g2,0,V⟩) (acc.length+1) Gn).ownBlock≠O b:=fun b hb eh=>by
   rcases Sb.out with h | h
   .rw[h];exact eh
   grind [size_alloc]
  have hbn:∀ b,Nu w2 w3 b->(a0M (O ⟨g',0,V⟩) acc.length rC).ownBlock≠O b:=fun b hb e=>by
   have:=(HO.out.lt b e).2;omega
  have abB:eT (fun b=>Nu w0 w4 b/\(a0M (O ⟨g2,0,V⟩) (acc.length+1) Gn).ownBlock≠O b) w4 (xs++[pp bx]) (acc++[x]):=
   eT.snoc (eR.mono zg zg _ _ HV.out)
    (eT.mono zg zg _ _ lZ.out)
  have hn4:w4.heap[w0.heap.size]?=O J3:=O4 _ _ HN3.out (fun e=>aCj (by injection e));have nA:=HK.out;exact⟨n,Nat.lt_succ_self n,zo,acc++[x],k',wK,_,_,_,_,_,_,_,_,_,_,_,_,_,_,_,_,_,_,_,_,_,_,_,_,_,_,_,_,_,_,_,_,_,_,_,_,_,_,_,J,by rw[List.length_append];exact Gj.out,abB,jd,eF,zs,zg,hn4,HE.out⟩
 .rw[bO hc,a0z] at hr;subst hr;clear dU lY hp hf Dk
  go_wp2_with fail
  refine(qs HP.out [44] zg zd).mono ?_;rintro e w2 ⟨rfl,rfl⟩;clear hc;have Sd:w0.heap.size<=w.heap.size:=hz;have hNX:=bn HN.out;have A2:=(HO.out.lt g' J);obtain⟨bl,um,o9⟩:=HX.out.blocks;subst um;have AZ:∃ cur:Array Y,w.heap[g']?=aP cur 106/\∀ j,j<bl.length->cur[j]?=O (pp (bl.getD j 0)):=by
   obtain⟨g1,g2 | ⟨g,cp,cur,e1,e2,e3,e4,e5,e6,e7⟩⟩:=HO.out
   .omega
   .cases e1;refine⟨cur,e3,fun j hj=>?_⟩;have h1:(cur.toList.take (acc.length*1))[j]?=(bl.map (fun b=>a1l (O ⟨b,0,V⟩)))[j]?:=zg;grind
  obtain⟨cur,gX,AZ⟩:=AZ;have hbX:(w.alloc (ah #[pp w0.heap.size] 106)).heap[w.heap.size]?=aP #[pp w0.heap.size] 106:=blk_alloc_new _ _;have aku:eT (fun b=>Nu w0 (w.alloc (ah #[pp w0.heap.size] 106)) b/\b≠w.heap.size) (w.alloc (ah #[pp w0.heap.size] 106)) (bl.map (fun b=>a1l (O ⟨b,0,V⟩))) acc:=
   eT.mono zg (by grind [dS]) _ _ HX.out
  have Wf:(w.alloc (ah #[pp w0.heap.size] 106)).heap[g']?=aP cur 106:=dS gX;have HPX:=a0A (HP.out.ext (w':=w.alloc (ah #[pp w0.heap.size] 106)) fun b o h=>dS h);have hFX:dc pb w0 (w.alloc (ah #[pp w0.heap.size] 106)):=HF.out.alloc _;have hnX:(w.alloc (ah #[pp w0.heap.size] 106)).heap[w0.heap.size]?=O J3:=dS HN.out;have hsX:(w.alloc (ah #[pp w0.heap.size] 106)).heap.size=w.heap.size+1:=size_alloc _ _;have HFX:=a0A hFX;have HNX:=a0A hnX;have Ad:=a0A hbX;have HGX:=a0A Wf;have HCU:=a0A AZ;have HXX:=a0A aku;have J4:=a0A o9;have HSX:=a0A hsX;have hr:=HR.out;simp only[cg.bind] at hr;have vi:=A2.1;have jR:=A2.2;clear hFX hnX hbX Wf AZ aku o9 gX A2 HO HX HF HN HP hsX HR;by_cases hb:eD T k2 [124]=A
  .rw[zip hb] at hr;have Ae:=a0A hr;clear hr
   go_wp2_with fail
   refine(vd HPX.out [124] hb).mono ?_;rintro e w3 ⟨rfl,fZ,dV⟩;have uk:=a0A fZ;have og:=a0A dV;have ET:=dV.size;rw[HSX.out] at ET;clear fZ dV hb;have hXw:w.heap.size<w3.heap.size:=zo
   go_wp2_with fail
   cases hq:jl T (f+1) 0 (k2+1) vs d with
   | none=>have e:=Ae.out;rw[hq] at e;simp [cg.bind] at e
   | some q=>
   have e:=Ae.out;rw[hq] at e;refine((DD (f+1) zo).go uk.out hd hq).mono ?_;cases q with
   | err c0 a0=>
    rintro e2 w4 ⟨⟨b,rfl,eQ,gH⟩,eF,vj⟩;simp only[cg.bind,a0z] at e;subst e;exact⟨⟨b,J,eQ,zo⟩,(HFX.out.trans og.out).trans eF,vj⟩
   | ok x k' wK=>
   rintro e2 w4 ⟨v,rfl,hv,jd,eF⟩;simp only[cg.bind] at e;obtain⟨bx,rfl,jJ⟩:=hv.shape;have AX:=eF.size;have aUD:=jd.lt;have hX3:=dc.bJ og.out Ad.out zo zd;have H6:w4.heap[w.heap.size]?=_:=dc.bJ eF hX3 zo zd;have O5:=dc.bJ eF (dc.bJ og.out HGX.out zo zd) zo zd;have hc4:w4.cell? ⟨w.heap.size,0,V⟩=O (pp w0.heap.size):=cellOf H6 J;have Gm:=jO H6 0;have aUE:w.heap.size<w4.heap.size:=zo;have xM:(w4.setCell ⟨w.heap.size,0,V⟩ (pp bx)).heap.size=w4.heap.size:=size_setCell _ _ _;have H7:(w4.setCell ⟨w.heap.size,0,V⟩ (pp bx)).heap[w.heap.size]?=aP #[pp bx] 106:=by rw[AN H6];rfl
   have qX:∀ (b:Nat) (o:Obj),b≠w.heap.size->w4.heap[b]?=O o->(w4.setCell ⟨w.heap.size,0,V⟩ (pp bx)).heap[b]?=O o:=(by grind [blk_setCell_other]);have lG:=jd.setOther (o:=0) H6 zd zo zo (pp bx);have iU:dc pb w0 (w4.setCell ⟨w.heap.size,0,V⟩ (pp bx)):=((HFX.out.trans og.out).trans eF).L7 Sd _;have sJ:eR (fun b=>Nu w0 (w4.setCell ⟨w.heap.size,0,V⟩ (pp bx)) b/\b≠w.heap.size) (w4.setCell ⟨w.heap.size,0,V⟩ (pp bx)) (pp bx) x:=
    eR.mono zg zg _ _ hv
   have akD:eT (fun b=>Nu w0 (w4.setCell ⟨w.heap.size,0,V⟩ (pp bx)) b/\b≠w.heap.size) (w4.setCell ⟨w.heap.size,0,V⟩ (pp bx)) (bl.map (fun b=>a1l (O ⟨b,0,V⟩))) acc:=
    eT.mono (by grind [Hid.out]) (by grind [dc.lx,Hid.out]) _ _ HXX.out
   have yV:=qX g' _ zo O5;have aCm:=a0A (a0B lG (a0B iU (a0B H7 (a0B sJ (a0B yV (a0B akD e))))));clear lG iU H7 sJ yV akD e hv jd eF hX3 H6 O5 qX xM hq jJ
   go_upto_region 10 with(fail)
   obtain⟨t1,t2,t3,t4,t5,t6,t7⟩:=aCm.out;exact akk _ _ _ _ _ _ _ _ _ _ _ _ _ _ _ _ _ _ _ _ _ _ _ _ _ _ _ _ _ _ _ _ _ _ _ _ t1 t2 xJ Sd zo zo J4.out zo t3 t4 t5 HCU.out t6 t7 _ (by assumption)
  .rw[bO hb] at hr;have Ae:=a0A hr;clear hr
   go_wp2_with fail
   refine(qs HPX.out [124] zg zd).mono ?_;rintro e w3 ⟨rfl,rfl⟩;clear hb
   go_upto_region 10 with(fail)
   have MA:eR (fun b=>Nu w0 (w.alloc (ah #[pp w0.heap.size] 106)) b/\b≠w.heap.size) (w.alloc (ah #[pp w0.heap.size] 106)) (pp w0.heap.size) (.mk 97 [91,93] 0 0 []):=
    JV ⟨⟨Nat.le_refl _,by rw[HSX.out];omega⟩,zo⟩ HNX.out
   exact akk _ _ _ _ _ _ _ _ _ _ _ _ _ _ _ _ _ _ _ _ _ _ _ _ _ _ _ _ _ _ _ _ _ _ _ _ HPX.out HFX.out xJ Sd zo zo J4.out zo Ad.out MA HGX.out HCU.out HXX.out Ae.out _ (by assumption)
def akE:R8 0:=⟨fun _ _ h=>by simp [pE] at h⟩
def aCn(a:∀ m,m<f->HH m):R8 f:=by
 cases f with
 | zero=>exact akE
 | succ f=>exact⟨fun b c h=>aCg a b c h⟩
def aCo(hp:SP w pb tb T k vars d)(hd:8<d+1)(xG:d<=8) :
  Calls bap 117 #[pp pb] w (jX eR pb tb T d w (.err 4 (tk T k).pos)):=by
 have H:=a0A hp;clear hp
 go_enter_defers func117,ntmps117
 go_wp2_with fail
 refine(V5 H.out hd zo).mono ?_;rintro e w1 ⟨⟨b,rfl,hb⟩,hf,hs⟩;exact⟨⟨b,J,hb⟩,hf,hs⟩
def aCp(hint:V6)(hp:SP w pb tb T k vars d)(hd:d+1<=8)
  (hk:(tk T k).kind=3) :
  Calls bap 117 #[pp pb] w (jX eR pb tb T d w (.ok (.mk 110 [] (P.num (tk T k).text) 0 []) (k+1) vars)):=by
 have H:=a0A hp;have HK:=a0A hk;clear hp hk
 go_enter_defers func117,ntmps117
 go_wp2_with fail
 refine(zZ H.out hd).mono ?_;rintro e w1 ⟨rfl,dY,je,dF,gm⟩;have lZ:=a0A je;have iA:=a0A gm;have kA:=a0A dF;have nJ:=a0A dY;obtain⟨n,c,h0,f0,hb,l1,l2,l3,l4,ff,fa⟩:=dF.on (by have:=HK.out;omega);obtain⟨t0,t1,t2⟩:=dF.toks.at dF.kt;have xH:tb<w1.heap.size:=by have:=dF.lt;omega
 have eh:¬ tb=pb:=by have:=dF.lt;omega
 have R6:¬ pb=tb:=zo;have iT:=a0A ff;have fQ:=a0A fa;rw[HK.out] at t0;clear dF gm je dY ff fa
 go_wp2_with fail
 have xE:=H.out.tw.digits _ (JP H.out.kt) HK.out;refine(hint.go _ xE.1 xE.2.1 xE.2.2).mono ?_;rintro e w3 ⟨rfl,Sf⟩;have MC:=a0A Sf;clear xE Sf
 go_wp2_with fail
 have dY:=nJ.out;have gk:pb<w.heap.size:=H.out.d2.2.2;have jJ:=fQ.out.bJ lZ.out zo zd;have hz:=MC.out.size;rw[size_alloc,size_setCell] at hz;refine yK (j:=2) JT J gk (by grind [dS,SP.ext,Hid.out,bD.ext]) zo (by grind [dS,bD.ext,Hid.out]) ?_
  ((((iA.out.trans fQ.out).alloc _).trans MC.out.toM).alloc _)
 exact JV (by grind [size_alloc]) (blk_alloc_new _ _)
def aCq(Sg:abl)(hp:SP w pb tb T k vars d)(hd:d+1<=8)
  (hk:(tk T k).kind=2) :
  Calls bap 117 #[pp pb] w (jX eR pb tb T d w (xA (tk T k) (k+1) vars)):=by
 have H:=a0A hp;have HK:=a0A hk;clear hp hk
 go_enter_defers func117,ntmps117
 go_wp2_with fail
 refine(zZ H.out hd).mono ?_;rintro e w1 ⟨rfl,dY,je,dF,gm⟩;have lZ:=a0A je;have iA:=a0A gm;have kA:=a0A dF;have nJ:=a0A dY;obtain⟨n,c,h0,f0,hb,l1,l2,l3,l4,ff,fa⟩:=dF.on (by have:=HK.out;omega);obtain⟨t0,t1,t2⟩:=dF.toks.at dF.kt;have xH:tb<w1.heap.size:=by have:=dF.lt;omega
 have eh:¬ tb=pb:=by have:=dF.lt;omega
 have R6:¬ pb=tb:=zo;have iT:=a0A ff;have fQ:=a0A fa;rw[HK.out] at t0;clear dF gm je dY ff fa
 go_wp2_with fail
 have lH:=Sg.go (tk T k) (iT.out.ext fun b o (h:_=O o)=>dS (o:=ah #[zi 2,aW ((tk T k).text),zi (tk T k).pos] 142) h)
  (H.out.tw.vars _ (JP H.out.kt) HK.out)
 rw[HK.out] at lH;refine lH.mono ?_;have dY:=nJ.out;have gk:pb<w.heap.size:=H.out.d2.2.2;have jJ:=fQ.out.bJ lZ.out zo zd;have akF:∀ o,((Gf w1 pb tb k n c).alloc o).heap[w.heap.size]?=_:=fun o=>dS (o:=o) jJ;have tE:=fun o=>(iA.out.trans fQ.out).alloc o;have jr:∀ o,((Gf w1 pb tb k n c).alloc o).heap.size=w.heap.size+2:=(by grind [size_alloc,size_setCell]);have HB:=a0A akF;have HR:=a0A tE;have HZ:=a0A jr;clear lH jJ akF tE jr;cases hr:xA (tk T k) (k+1) vars with
 | ok x k' vs=>
  rintro e w3 ⟨v,rfl,hv,fZ,dV⟩;have HV:=a0A hv;have uk:=a0A fZ;have og:=a0A dV;have Ae:=a0A hr;clear hv fZ dV hr
  go_wp2_with fail
  have hz:=HZ.out (ah #[zi 2,aW ((tk T k).text),zi (tk T k).pos] 142);have ET:=og.out.size;rw[Ae.out];refine yK (j:=2) JT J gk uk.out zo (by grind [dc.bJ,Hid.out]) ?_ ((HR.out _).trans og.out);exact eR.mono zg zg _ _ HV.out
 | err c0 a0=>
  rintro e w3 ⟨⟨b,rfl,eQ,gH⟩,dV,gQ⟩;have hz:=HZ.out (ah #[zi 2,aW ((tk T k).text),zi (tk T k).pos] 142);exact tH gk gQ (by grind [dc.bJ,Hid.out]) ⟨b,J,eQ,zo⟩ ((HR.out _).trans dV)
def aCr(hp:SP w pb tb T k vars d)(hd:d+1<=8)
  (hk:(tk T k).kind=1) (ho:eD T (k+1) [40]=ae) :
  Calls bap 117 #[pp pb] w (jX eR pb tb T d w (.ok (.mk 97 (tk T k).text 0 0 []) (k+1) vars)):=by
 have HO:=a0A ho;clear ho;have H:=a0A hp;have HK:=a0A hk;clear hp hk
 go_enter_defers func117,ntmps117
 go_wp2_with fail
 refine(zZ H.out hd).mono ?_;rintro e w1 ⟨rfl,dY,je,dF,gm⟩;have lZ:=a0A je;have iA:=a0A gm;have kA:=a0A dF;have nJ:=a0A dY;obtain⟨n,c,h0,f0,hb,l1,l2,l3,l4,ff,fa⟩:=dF.on (by have:=HK.out;omega);obtain⟨t0,t1,t2⟩:=dF.toks.at dF.kt;have xH:tb<w1.heap.size:=by have:=dF.lt;omega
 have eh:¬ tb=pb:=by have:=dF.lt;omega
 have R6:¬ pb=tb:=zo;have iT:=a0A ff;have fQ:=a0A fa;rw[HK.out] at t0;clear dF gm je dY ff fa
 go_wp2_with fail
 refine(qs (iT.out.ext fun b o h=>dS (dS h)) [40] HO.out zd).mono ?_;rintro e w3 ⟨rfl,rfl⟩
 go_wp2_with fail
 have dY:=nJ.out;have gk:pb<w.heap.size:=H.out.d2.2.2;have jJ:=fQ.out.bJ lZ.out zo zd;refine yK (j:=2) JT J gk (by grind [dS,SP.ext,Hid.out]) zo (by grind [dS]) ?_
  (by grind [bD.alloc,bD.trans,Hid.out])
 exact JV (by grind [size_alloc,size_setCell]) (by grind [EN,size_alloc,size_setCell])
def aCs(lz:OY f)(hp:SP w pb tb T k vars d)(hd:d+1<=8)
  (hk:(tk T k).kind=1) (ho:eD T (k+1) [40]=A) {r:cg (List Ex)} (hr:nW T f (k+2) vars (d+1) (tk T k).pos []=O r)
  {q:cg Ex} (hq:cg.bind (O r) (fun l k' vars'=>mw T [41] (Ex.mk 99 (tk T k).text 0 0 l) k' vars')=O q) :
  Calls bap 117 #[pp pb] w (jX eR pb tb T d w (q)):=by
 have HO:=a0A ho;have HR:=a0A hr;have HQ:=a0A hq;clear ho hr hq;have H:=a0A hp;have HK:=a0A hk;clear hp hk
 go_enter_defers func117,ntmps117
 go_wp2_with fail
 refine(zZ H.out hd).mono ?_;rintro e w1 ⟨rfl,dY,je,dF,gm⟩;have lZ:=a0A je;have iA:=a0A gm;have kA:=a0A dF;have nJ:=a0A dY;obtain⟨n,c,h0,f0,hb,l1,l2,l3,l4,ff,fa⟩:=dF.on (by have:=HK.out;omega);obtain⟨t0,t1,t2⟩:=dF.toks.at dF.kt;have xH:tb<w1.heap.size:=by have:=dF.lt;omega
 have eh:¬ tb=pb:=by have:=dF.lt;omega
 have R6:¬ pb=tb:=zo;have iT:=a0A ff;have fQ:=a0A fa;rw[HK.out] at t0;clear dF gm je dY ff fa
 go_wp2_with fail
 refine(vd (iT.out.ext fun b o h=>dS (dS h)) [40] HO.out).mono ?_;have dY:=nJ.out;have gk:pb<w.heap.size:=H.out.d2.2.2;have wO:=H.out.lt;have jJ:=fQ.out.bJ lZ.out zo zd;have akH:∀ o o',(((Gf w1 pb tb k n c).alloc o).alloc o').heap[w.heap.size]?=_:=fun o o'=>dS (o:=o') (dS (o:=o) jJ);have hex:∀ o o',(((Gf w1 pb tb k n c).alloc o).alloc o').heap[w1.heap.size+1]?=O o':=(by grind [EN,size_alloc,size_setCell]);have jr:∀ o o',(((Gf w1 pb tb k n c).alloc o).alloc o').heap.size=w1.heap.size+2:=(by grind [size_alloc,size_setCell]);have tE:=fun o o'=>((iA.out.trans fQ.out).alloc o).alloc o';rintro e w3 ⟨rfl,fZ,dV⟩;have akI:=dV.bJ (akH _ _) zo zd;have akJ:=dV.bJ (hex _ _) zo zd;have akK:=(tE _ _).trans dV;have ET:w1.heap.size+2<=w3.heap.size:=zg;have HB3:=a0A akI;have MC:=a0A akJ;have og:=a0A akK;have uk:=a0A fZ;have HS:=a0A dY;have c2:w3.cell? ⟨w1.heap.size,2,V⟩=O (zi (tk T k).pos):=
  cellOf (dV.bJ (b:=w1.heap.size) (dS (EN (by rw[size_setCell]))) zo zd) J
 clear jJ akH hex jr tE fZ dV akI akJ akK dY t0 t1 t2 h0 f0
 go_wp2_with fail
 refine(lz.go _ uk.out zo HR.out).mono ?_;cases r with
 | err c0 a0=>
  rintro e w4 ⟨⟨b,rfl,eQ,gH⟩,dV,gQ⟩;have e:=HQ.out;simp only[cg.bind,a0z] at e;subst e;have dY:=nJ.out;exact tH gk gQ (by grind [dc.bJ,Hid.out]) ⟨b,J,eQ,zo⟩ (og.out.trans dV)
 | ok l k' vs=>
  rintro e w4 ⟨v,rfl,hv,jd,eF⟩;obtain⟨sa,sn,sc,rfl,-,-⟩:=hv.shape;have dY:=nJ.out;have MD:=eF.bJ MC.out zo zd;have akL:=eF.bJ HB3.out zo zd;have x0:w4.cell? ⟨w1.heap.size+1,0,V⟩=O (.int .u8 97):=cellOf MD J;have x4:w4.cell? ⟨w1.heap.size+1,4,V⟩=O b9:=cellOf MD J;have y0:=jO MD 0;have y4:=jO MD 4;have z4:=bn MD;have AX:=eF.size;have tI:=a0A jd;have ME:=a0A hv;have tJ:=a0A (og.out.trans eF);have HE4:=a0A MD;have HB4:=a0A akL;clear hv jd eF MD akL dY c2
  go_wp2_with fail
  have dY:=nJ.out;have n1:w1.heap.size+1≠pb:=zo;have n2:tb<w1.heap.size+1:=zo;have n3:w.heap.size≠w1.heap.size+1:=zo;have abE:=AN (o:=0) HE4.out (.int .u8 99);have me:=(tI.out.setOther (o:=0) HE4.out zd n1 n2 (.int .u8 99)).setOther (o:=4) abE zd n1 n2 (.slice sa sn sc);have akO:=AN (o:=4) abE (.slice sa sn sc);have akP:=(blk_setCell_other (a:=⟨w1.heap.size+1,4,V⟩) n3 (.slice sa sn sc)).trans ((blk_setCell_other (a:=⟨w1.heap.size+1,0,V⟩) n3 (.int .u8 99)).trans HB4.out);have akQ:=(tJ.out.L7 (p:=⟨w1.heap.size+1,0,V⟩) (by show w.heap.size<=w1.heap.size+1;omega) (.int .u8 99)).L7 (p:=⟨w1.heap.size+1,4,V⟩) (by show w.heap.size<=w1.heap.size+1;omega) (.slice sa sn sc);have A5:=(ME.out.set (x:=w1.heap.size+1) (o:=0) (fun b hb=>by have:=hb.1;omega) (.int .u8 99)).set (x:=w1.heap.size+1) (o:=4) (fun b hb=>by have:=hb.1;omega) (.slice sa sn sc);have hz6:∀ u v,((w4.setCell ⟨w1.heap.size+1,0,V⟩ u).setCell ⟨w1.heap.size+1,4,V⟩ v).heap.size=w4.heap.size:=(by grind [size_setCell]);have HE6:=a0A akO;have HB6:=a0A akP;have HF6:=a0A akQ;have HV6:=a0A A5;have HZ6:=a0A hz6;have HP6:=a0A me;clear abE me akO akP akQ A5 hz6 x0 x4 y0 y4;have hq:=HQ.out;simp only[cg.bind,mw] at hq;by_cases hc:eD T k' [41]=A
  .rw[zip hc,a0z] at hq;subst hq;refine(R3 HP6.out [41] hc).mono ?_;rintro e w7 ⟨rfl,mN,A6⟩;have HP7:=a0A mN;have J5:=a0A A6;clear mN A6 hc n1 n2 n3 dY
   go_wp2_with fail
   have dY:=nJ.out;have hz7:=J5.out.size;rw[HZ6.out] at hz7;refine yK (j:=2) JT J gk HP7.out zo (by grind [dc.bJ,Hid.out]) ?_ (HF6.out.trans J5.out);refine abm ⟨zo,zo⟩ (J5.out.bJ HE6.out zo zd) ?_;exact aBH _ _ _ _ _ _ _ HV6.out J5.out fun b hb=>⟨by have:=hb.1;omega,by have:=hb.1;have:=hb.2;exact⟨zo,zo⟩⟩
  .rw[bO hc,a0z] at hq;subst hq;refine(R4 HP6.out [41] zg zd).mono ?_;rintro e w7 ⟨⟨b,rfl,eQ,gH⟩,dV,gQ⟩;rw[HZ6.out] at gH;exact tH gk gQ (by grind [dc.bJ,Hid.out]) ⟨b,J,eQ,zo⟩ (HF6.out.trans dV)
def aCy(hp:SP w pb tb T k vars d)(hd:d+1<=8)
  (hk:(tk T k).kind=0\/(tk T k).kind=4) (hm:eD T k [45]=ae) (hn:eD T k [40]=ae) (hl:eD T k [91]=ae) :
  Calls bap 117 #[pp pb] w (jX eR pb tb T d w (.err 2 (tk T k).pos)):=by
 have HM:=a0A hm;have HN:=a0A hn;have HL:=a0A hl;clear hm hn hl;have H:=a0A hp
 go_enter_defers func117,ntmps117
 go_wp2_with fail
 refine(zZ H.out hd).mono ?_;rintro e w1 ⟨rfl,dY,je,dF,gm⟩;have lZ:=a0A je;have iA:=a0A gm;have kA:=a0A dF;have nJ:=a0A dY;obtain⟨n,c,h0,l1,l2,-,l3,l4⟩:=dF.l0;obtain⟨t0,t1,t2⟩:=dF.toks.at dF.kt;obtain⟨kd,iS⟩:∃ kd:Int,kd=((tk T k).kind:Int):=⟨_,J⟩;rw[<- iS] at t0;have k1:(kd == 1)=false:=zg;have k2:(kd == 2)=false:=zg;have k3:(kd == 3)=false:=zg;have B8:pb<w1.heap.size:=dF.d2.2.2;have xH:tb<w1.heap.size:=a3J dF.lt B8;have gk:pb<w.heap.size:=hp.d2.2.2;have wO:=hp.lt;clear dF gm je dY hk iS hp
 go_wp2_with fail
 have A7:∀ o,SP (w1.alloc o) pb tb T k vars (d+1):=(by grind [dS,SP.ext,Hid.out]);have A8:∀ o,(w1.alloc o).heap[w.heap.size]?=_:=fun o=>dS (o:=o) lZ.out;have A9:=fun o=>iA.out.alloc o;have Ba:∀ o,(w1.alloc o).heap.size=w.heap.size+2:=(by grind [size_alloc,Hid.out]);have Ag:=a0A A7;have J6:=a0A A8;have H9:=a0A A9;have Ia:=a0A Ba;clear A7 A8 A9 Ba;refine(qs (Ag.out _) [45] HM.out zd).mono ?_;rintro e w2 ⟨rfl,rfl⟩
 go_wp2_with fail
 refine(qs (Ag.out _) [40] HN.out zd).mono ?_;rintro e w2 ⟨rfl,rfl⟩
 go_wp2_with fail
 refine(qs (Ag.out _) [91] HL.out zd).mono ?_;rintro e w2 ⟨rfl,rfl⟩
 go_wp2_with fail
 refine(R2 (Ag.out _)).mono ?_;rintro e w2 ⟨⟨b,rfl,eQ,gH⟩,dV,gQ⟩;rw[Ia.out] at gH;have dY:=nJ.out;exact tH gk gQ (by grind [dc.bJ,Hid.out]) ⟨b,J,eQ,zo⟩ ((H9.out _).trans dV)
def aCz(abG:R8 f)(hp:SP w pb tb T k vars d)(hd:d+1<=8)
  (hk:(tk T k).kind=0\/(tk T k).kind=4) (hm:eD T k [45]=ae) (hn:eD T k [40]=ae) (hl:eD T k [91]=A)
  {r:cg Ex} (hr:pE T f (k+1) vars (d+1)=O r) :
  Calls bap 117 #[pp pb] w (jX eR pb tb T d w (r)):=by
 have HM:=a0A hm;have HN:=a0A hn;have HL:=a0A hl;have HR:=a0A hr;clear hm hn hl hr;have H:=a0A hp
 go_enter_defers func117,ntmps117
 go_wp2_with fail
 refine(zZ H.out hd).mono ?_;rintro e w1 ⟨rfl,dY,je,dF,gm⟩;have lZ:=a0A je;have iA:=a0A gm;have kA:=a0A dF;have nJ:=a0A dY;obtain⟨n,c,h0,l1,l2,-,l3,l4⟩:=dF.l0;obtain⟨t0,t1,t2⟩:=dF.toks.at dF.kt;obtain⟨kd,iS⟩:∃ kd:Int,kd=((tk T k).kind:Int):=⟨_,J⟩;rw[<- iS] at t0;have k1:(kd == 1)=false:=zg;have k2:(kd == 2)=false:=zg;have k3:(kd == 3)=false:=zg;have B8:pb<w1.heap.size:=dF.d2.2.2;have xH:tb<w1.heap.size:=a3J dF.lt B8;have gk:pb<w.heap.size:=hp.d2.2.2;have wO:=hp.lt;clear dF gm je dY hk iS hp
 go_wp2_with fail
 have A7:∀ o,SP (w1.alloc o) pb tb T k vars (d+1):=(by grind [dS,SP.ext,Hid.out]);have A8:∀ o,(w1.alloc o).heap[w.heap.size]?=_:=fun o=>dS (o:=o) lZ.out;have A9:=fun o=>iA.out.alloc o;have Ba:∀ o,(w1.alloc o).heap.size=w.heap.size+2:=(by grind [size_alloc,Hid.out]);have Ag:=a0A A7;have J6:=a0A A8;have H9:=a0A A9;have Ia:=a0A Ba;clear A7 A8 A9 Ba;refine(qs (Ag.out _) [45] HM.out zd).mono ?_;rintro e w2 ⟨rfl,rfl⟩
 go_wp2_with fail
 refine(qs (Ag.out _) [40] HN.out zd).mono ?_;rintro e w2 ⟨rfl,rfl⟩
 go_wp2_with fail
 refine(vd (Ag.out _) [91] HL.out).mono ?_;rintro e w2 ⟨rfl,ff,fa⟩;have iT:=a0A ff;have qV:=fa.size;rw[Ia.out] at qV;have Wi:=a0A (fa.bJ (J6.out _) zo zd);have fQ:=a0A ((H9.out _).trans fa);clear ff fa
 go_wp2_with fail
 refine(abG.go iT.out zo HR.out).mono ?_;cases r with
 | err c0 a0=>
  rintro e w4 ⟨⟨b,rfl,eQ,gH⟩,dV,gQ⟩;exact tH gk gQ (by grind [dc.bJ,Hid.out]) ⟨b,J,eQ,zo⟩ (fQ.out.trans dV)
 | ok x k' vs=>
  rintro e w4 ⟨v,rfl,hv,jd,eF⟩;have HV:=a0A hv;have tI:=a0A jd;have tJ:=a0A eF;clear hv jd eF
  go_wp2_with fail
  refine yK (j:=2) JT J gk tI.out zo (by grind [dc.bJ,Hid.out]) ?_ (fQ.out.trans tJ.out);exact eR.mono zg zg _ _ HV.out
def aCA(abH:HH f)(hp:SP w pb tb T k vars d)(hd:d+1<=8)
  (hk:(tk T k).kind=0\/(tk T k).kind=4) (hm:eD T k [45]=ae) (hn:eD T k [40]=A)
  {r:cg Ex} (hr:jl T f 0 (k+1) vars (d+1)=O r) {q:cg Ex} (hq:cg.bind (O r) (fun x k' vars'=>mw T [41] x k' vars')=O q) :
  Calls bap 117 #[pp pb] w (jX eR pb tb T d w (q)):=by
 have HM:=a0A hm;have HN:=a0A hn;have HR:=a0A hr;have HQ:=a0A hq;clear hm hn hr hq;have H:=a0A hp
 go_enter_defers func117,ntmps117
 go_wp2_with fail
 refine(zZ H.out hd).mono ?_;rintro e w1 ⟨rfl,dY,je,dF,gm⟩;have lZ:=a0A je;have iA:=a0A gm;have kA:=a0A dF;have nJ:=a0A dY;obtain⟨n,c,h0,l1,l2,-,l3,l4⟩:=dF.l0;obtain⟨t0,t1,t2⟩:=dF.toks.at dF.kt;obtain⟨kd,iS⟩:∃ kd:Int,kd=((tk T k).kind:Int):=⟨_,J⟩;rw[<- iS] at t0;have k1:(kd == 1)=false:=zg;have k2:(kd == 2)=false:=zg;have k3:(kd == 3)=false:=zg;have B8:pb<w1.heap.size:=dF.d2.2.2;have xH:tb<w1.heap.size:=a3J dF.lt B8;have gk:pb<w.heap.size:=hp.d2.2.2;have wO:=hp.lt;clear dF gm je dY hk iS hp
 go_wp2_with fail
 have A7:∀ o,SP (w1.alloc o) pb tb T k vars (d+1):=(by grind [dS,SP.ext,Hid.out]);have A8:∀ o,(w1.alloc o).heap[w.heap.size]?=_:=fun o=>dS (o:=o) lZ.out;have A9:=fun o=>iA.out.alloc o;have Ba:∀ o,(w1.alloc o).heap.size=w.heap.size+2:=(by grind [size_alloc,Hid.out]);have Ag:=a0A A7;have J6:=a0A A8;have H9:=a0A A9;have Ia:=a0A Ba;clear A7 A8 A9 Ba;refine(qs (Ag.out _) [45] HM.out zd).mono ?_;rintro e w2 ⟨rfl,rfl⟩
 go_wp2_with fail
 refine(vd (Ag.out _) [40] HN.out).mono ?_;rintro e w2 ⟨rfl,ff,fa⟩;have iT:=a0A ff;have qV:=fa.size;rw[Ia.out] at qV;have Wi:=a0A (fa.bJ (J6.out _) zo zd);have fQ:=a0A ((H9.out _).trans fa);clear ff fa
 go_wp2_with fail
 refine(abH.go iT.out zo HR.out).mono ?_;cases r with
 | err c0 a0=>
  rintro e w4 ⟨⟨b,rfl,eQ,gH⟩,dV,gQ⟩;have e:=HQ.out;simp only[cg.bind,a0z] at e;subst e;exact tH gk gQ (by grind [dc.bJ,Hid.out]) ⟨b,J,eQ,zo⟩ (fQ.out.trans dV)
 | ok x k' vs=>
  rintro e w4 ⟨v,rfl,hv,jd,eF⟩;have HV:=a0A hv;have tI:=a0A jd;have tJ:=a0A eF;have HB4:=a0A (eF.bJ Wi.out zo zd);have AX:=eF.size;clear hv jd eF
  go_wp2_with fail
  have hq:=HQ.out;simp only[cg.bind,mw] at hq;by_cases hc:eD T k' [41]=A
  .rw[zip hc,a0z] at hq;subst hq;refine(R3 tI.out [41] hc).mono ?_;rintro e w7 ⟨rfl,mN,A6⟩;have HP7:=a0A mN;have J5:=a0A A6;clear mN A6 hc
   go_wp2_with fail
   have hz7:=J5.out.size;refine yK (j:=2) JT J gk HP7.out zo (by grind [dc.bJ,Hid.out]) ?_ ((fQ.out.trans tJ.out).trans J5.out);exact JT _ _ _ _ _ _ _ HV.out J5.out zg
  .rw[bO hc,a0z] at hq;subst hq;refine(R4 tI.out [41] zg zd).mono ?_;rintro e w7 ⟨⟨b,rfl,eQ,gH⟩,dV,gQ⟩;exact tH gk gQ (by grind [dc.bJ,Hid.out]) ⟨b,J,eQ,zo⟩ ((fQ.out.trans tJ.out).trans dV)
abbrev EV(w:Z)(x:Nat)(a b c:Y):Z:=((w.setCell ⟨x,0,V⟩ a).setCell ⟨x,1,V⟩ b).setCell ⟨x,2,V⟩ c
def akW(w:Z)(x:Nat)(a b c:Y):(EV w x a b c).heap.size=w.heap.size:=by grind [size_setCell]
theorem abI{x y:Nat}(h:y≠x)(a b c:Y):(EV w x a b c).heap[y]?=w.heap[y]?:=by
 grind [blk_setCell_other]
def SP.EV{w:Z}{pb tb x:Nat}{T:List P.Tok}{k:Nat}{vars:List Bs}{d:Nat}{cs:Array Y}{t:TypeId}{z:Nat×Nat}(h:SP w pb tb T k vars d)
  (hx:w.heap[x]?=O (ah cs t z)) (ht:t≠9) (e:x≠pb) (f:tb<x) (a b c:Y):SP (EV w x a b c) pb tb T k vars d:=
 ((h.setOther hx ht e f a).setOther (AN hx a) ht e f b).setOther (AN (AN hx a) b) ht e f c
def bD.EV{M:Nat->Obj->Prop}{a b:Z}(h:bD M a b){x:Nat}(hx:a.heap.size<=x)(u v s:Y):bD M a (EV b x u v s):=
 (by grind [L7])
def aCB(hp:SP w pb tb T k vars d)(hd:d+1<=8)
  (hk:(tk T k).kind=0\/(tk T k).kind=4) (hm:eD T k [45]=A) (hn:(tk T (k+1)).kind≠3) :
  Calls bap 117 #[pp pb] w (jX eR pb tb T d w (.err 2 (tk T (k+1)).pos)):=by
 have HM:=a0A hm;have HN:=a0A hn;clear hm hn;have H:=a0A hp
 go_enter_defers func117,ntmps117
 go_wp2_with fail
 refine(zZ H.out hd).mono ?_;rintro e w1 ⟨rfl,dY,je,dF,gm⟩;have lZ:=a0A je;have iA:=a0A gm;have kA:=a0A dF;have nJ:=a0A dY;obtain⟨n,c,h0,l1,l2,-,l3,l4⟩:=dF.l0;obtain⟨t0,t1,t2⟩:=dF.toks.at dF.kt;obtain⟨kd,iS⟩:∃ kd:Int,kd=((tk T k).kind:Int):=⟨_,J⟩;rw[<- iS] at t0;have k1:(kd == 1)=false:=zg;have k2:(kd == 2)=false:=zg;have k3:(kd == 3)=false:=zg;have B8:pb<w1.heap.size:=dF.d2.2.2;have xH:tb<w1.heap.size:=a3J dF.lt B8;have gk:pb<w.heap.size:=hp.d2.2.2;have wO:=hp.lt;clear dF gm je dY hk iS hp
 go_wp2_with fail
 have A7:∀ o,SP (w1.alloc o) pb tb T k vars (d+1):=(by grind [dS,SP.ext,Hid.out]);have A8:∀ o,(w1.alloc o).heap[w.heap.size]?=_:=fun o=>dS (o:=o) lZ.out;have A9:=fun o=>iA.out.alloc o;have Ba:∀ o,(w1.alloc o).heap.size=w.heap.size+2:=(by grind [size_alloc,Hid.out]);have Ag:=a0A A7;have J6:=a0A A8;have H9:=a0A A9;have Ia:=a0A Ba;clear A7 A8 A9 Ba;have um:∀ o,(w1.alloc o).heap[w1.heap.size]?=O o:=(by grind [blk_alloc_new]);refine(vd (Ag.out _) [45] HM.out).mono ?_;rintro e w2 ⟨rfl,ff,fa⟩;have dY:=nJ.out;have qV:=fa.size;rw[Ia.out] at qV;have fm:=fa.bJ (um _) zo zd;have y0:=jO fm 0;have y1:=jO fm 1;have y2:=jO fm 2;have c0:w2.cell? ⟨w1.heap.size,0,V⟩=O (zi kd):=cellOf fm J;have c1:w2.cell? ⟨w1.heap.size,1,V⟩=O (aW ((tk T k).text)):=cellOf fm J;have c2:w2.cell? ⟨w1.heap.size,2,V⟩=O (zi (tk T k).pos):=cellOf fm J;have iT:=a0A ff;have Sc:=a0A fm;have Wi:=a0A (fa.bJ (J6.out _) zo zd);have fQ:=a0A ((H9.out _).trans fa);have abA:pb<w2.heap.size:=zo;have aCD:tb<w2.heap.size:=zo;have aCE:w1.heap.size<w2.heap.size:=zo;have q1:¬ w1.heap.size=pb:=zo;have q2:¬ w1.heap.size=tb:=zo;have q3:¬ pb=w1.heap.size:=zo;have q4:¬ tb=w1.heap.size:=zo;obtain⟨n2,cc2,g0,g1,g2,-,g3,g4⟩:=ff.l0;obtain⟨u0,u1,u2⟩:=ff.toks.at ff.kt;obtain⟨kd2,akX⟩:∃ kd:Int,kd=((tk T (k+1)).kind:Int):=⟨_,J⟩;rw[<- akX] at u0;have k32:(kd2 != 3)=true:=by simp;have:=HN.out;omega
 clear ff fa fm dY um akX h0 t0 t1 t2
 go_wp2_with fail
 refine(R2 (iT.out.EV Sc.out zd q1 zo _ _ _)).mono ?_;rintro e w3 ⟨⟨b,rfl,eQ,gH⟩,dV,gQ⟩;rw[akW] at gH;have dY:=nJ.out;exact tH gk gQ (by grind [abI,trans,dc.bJ,Hid.out]) ⟨b,J,eQ,zo⟩ ((fQ.out.EV zo _ _ _).trans dV)
def aCG(hint:V6)(hp:SP w pb tb T k vars d)(hd:d+1<=8)
  (hk:(tk T k).kind=0\/(tk T k).kind=4) (hm:eD T k [45]=A) (hn:(tk T (k+1)).kind=3) :
  Calls bap 117 #[pp pb] w (jX eR pb tb T d w (.ok (.mk 110 [] (- P.num (tk T (k+1)).text) 0 []) (k+2) vars)):=by
 have HM:=a0A hm;have HN:=a0A hn;clear hm hn;have H:=a0A hp
 go_enter_defers func117,ntmps117
 go_wp2_with fail
 refine(zZ H.out hd).mono ?_;rintro e w1 ⟨rfl,dY,je,dF,gm⟩;have lZ:=a0A je;have iA:=a0A gm;have kA:=a0A dF;have nJ:=a0A dY;obtain⟨n,c,h0,l1,l2,-,l3,l4⟩:=dF.l0;obtain⟨t0,t1,t2⟩:=dF.toks.at dF.kt;obtain⟨kd,iS⟩:∃ kd:Int,kd=((tk T k).kind:Int):=⟨_,J⟩;rw[<- iS] at t0;have k1:(kd == 1)=false:=zg;have k2:(kd == 2)=false:=zg;have k3:(kd == 3)=false:=zg;have B8:pb<w1.heap.size:=dF.d2.2.2;have xH:tb<w1.heap.size:=a3J dF.lt B8;have gk:pb<w.heap.size:=hp.d2.2.2;have wO:=hp.lt;clear dF gm je dY hk iS hp
 go_wp2_with fail
 have A7:∀ o,SP (w1.alloc o) pb tb T k vars (d+1):=(by grind [dS,SP.ext,Hid.out]);have A8:∀ o,(w1.alloc o).heap[w.heap.size]?=_:=fun o=>dS (o:=o) lZ.out;have A9:=fun o=>iA.out.alloc o;have Ba:∀ o,(w1.alloc o).heap.size=w.heap.size+2:=(by grind [size_alloc,Hid.out]);have Ag:=a0A A7;have J6:=a0A A8;have H9:=a0A A9;have Ia:=a0A Ba;clear A7 A8 A9 Ba;have um:∀ o,(w1.alloc o).heap[w1.heap.size]?=O o:=(by grind [blk_alloc_new]);refine(vd (Ag.out _) [45] HM.out).mono ?_;rintro e w2 ⟨rfl,ff,fa⟩;have dY:=nJ.out;have qV:=fa.size;rw[Ia.out] at qV;have fm:=fa.bJ (um _) zo zd;have y0:=jO fm 0;have y1:=jO fm 1;have y2:=jO fm 2;have c0:w2.cell? ⟨w1.heap.size,0,V⟩=O (zi kd):=cellOf fm J;have c1:w2.cell? ⟨w1.heap.size,1,V⟩=O (aW ((tk T k).text)):=cellOf fm J;have c2:w2.cell? ⟨w1.heap.size,2,V⟩=O (zi (tk T k).pos):=cellOf fm J;have iT:=a0A ff;have Sc:=a0A fm;have Wi:=a0A (fa.bJ (J6.out _) zo zd);have fQ:=a0A ((H9.out _).trans fa);have abA:pb<w2.heap.size:=zo;have aCD:tb<w2.heap.size:=zo;have aCE:w1.heap.size<w2.heap.size:=zo;have q1:¬ w1.heap.size=pb:=zo;have q2:¬ w1.heap.size=tb:=zo;have q3:¬ pb=w1.heap.size:=zo;have q4:¬ tb=w1.heap.size:=zo;have fZ:=ff.EV fm zg q1 zo (zi 3) (aW ((tk T (k+1)).text)) (zi (tk T (k+1)).pos);obtain⟨n2,cc2,g0,f0,g5,g1,g2,g3,g4,jd,eF⟩:=fZ.on (by rw[HN.out];decide);have e0:w2.cell? ⟨pb,0,V⟩=O (.slice (O ⟨tb,(k+1)*3,V⟩) n2 cc2):=by
  grind [World.cell?_of_block,abI]
 have e1:w2.frozen? ⟨pb,0,V⟩=false:=by
  obtain⟨_,_,_,_,q,_⟩:=ff.yG;exact jO q 0
 obtain⟨u0,u1,u2⟩:=ff.toks.at ff.kt;have xE:=ff.tw.digits _ (JP ff.kt) HN.out;rw[HN.out] at u0;have e2:(k+1)*3=k*3+3:=zo;rw[e2] at e0 u0 u1 u2;have lG:SP ((EV w2 w1.heap.size (zi 3) (aW ((tk T (k+1)).text)) (zi (tk T (k+1)).pos)).setCell ⟨pb,0,V⟩ (.slice (O ⟨tb,k*3+3+3,V⟩) (n2-1) (cc2-1)))
   pb tb T (k+1+1) vars (d+1):=zg
 have tI:=a0A lG;have HDG:=a0A xE;have HE2:=a0A e2;have nb:=ZS xE.2.1 xE.2.2;obtain⟨nb1,nb2⟩:=nb;clear ff fa fm dY um h0 t0 t1 t2 fZ jd eF xE g0 f0 g5 e2 lG
 go_wp2_with fail
 refine(hint.go _ HDG.out.1 HDG.out.2.1 HDG.out.2.2).mono ?_;rintro e w3 ⟨rfl,Sf⟩;have MC:=a0A Sf;clear Sf
 go_wp2_with fail
 have dY:=nJ.out;have hz:=MC.out.size;rw[size_setCell,akW] at hz;refine yK (j:=2) JT J gk (by grind [dS,SP.ext,Hid.out,bD.ext]) zo
  (by grind [dS,blk_setCell_other,trans,abI,bD.ext,Hid.out]) ?_
  ((((fQ.out.EV zo _ _ _).trans (dc.Ge (bD.refl _ _) _)).trans MC.out.toM).alloc _)
 exact JV (by grind [size_alloc]) (blk_alloc_new _ _)
def aCH:R7 0:=⟨fun _ _ h=>by simp [oE] at h⟩
def aCI(t:OY f)(g:HH f)(i:R8 f)(u:abl)(hint:V6):R7 (f+1):=by
 refine⟨fun{pb tb T k vars d w r} a x h=>?_⟩;rw[oE] at h;by_cases j:P.maxDepth<d+1
 .rw[zip j,a0z] at h;subst h;exact aCo a j x
 rw[bO j] at h;have b:d+1<=8:=by grind [P.maxDepth]
 by_cases l:(tk T k).kind=3
 .rw[zip l,a0z] at h;subst h;exact aCp hint a b l
 rw[bO l] at h;by_cases m:(tk T k).kind=2
 .rw[zip m,a0z] at h;subst h;exact aCq u a b m
 rw[bO m] at h;by_cases e:(tk T k).kind=1
 .rw[zip e] at h;by_cases n:eD T (k+1) [40]=A
  .rw[zip n] at h;cases hr:nW T f (k+2) vars (d+1) (tk T k).pos [] with
   | none=>rw[hr] at h;simp [cg.bind] at h
   | some q=>rw[hr] at h;exact aCs t a b e n hr h
  .rw[bO n,a0z] at h;subst h;exact aCr a b e zg
 rw[bO e] at h;have hk:(tk T k).kind=0\/(tk T k).kind=4:=by have:=a.tw.kind _ (JP a.kt);omega
 by_cases hm:eD T k [45]=A
 .rw[zip hm] at h;by_cases c:(tk T (k+1)).kind=3
  .rw[zip c,a0z] at h;subst h;exact aCG hint a b hk hm c
  .rw[bO c,a0z] at h;subst h;exact aCB a b hk hm c
 rw[bO hm] at h;have o:eD T k [45]=false:=zg;by_cases c:eD T k [40]=A
 .rw[zip c] at h;cases hr:jl T f 0 (k+1) vars (d+1) with
  | none=>rw[hr] at h;simp [cg.bind] at h
  | some q=>rw[hr] at h;exact aCA g a b hk o c hr h
 rw[bO c] at h;have s:eD T k [40]=false:=zg;by_cases p:eD T k [91]=A
 .rw[zip p] at h;exact aCz i a b hk o s p h
 rw[bO p,a0z] at h;subst h;exact aCy a b hk o s zg
