/- A part of one proof (SList, SPrim, SPrim2, SPrim3, SPrim4, SPrim5). -/
import Derived.Test.YtoegidfbnkaabaaGreatDoorPkMAF
import Derived.Deep.Cut
set_option linter.all false
set_option maxRecDepth 100000
set_option maxHeartbeats 8000000
open Option renaming some → O, none → V
open Go renaming Value → Y, World → Z
open Bool renaming true → G, false → ae
open Go.Obj renaming cells → ah
open Go.Ending renaming returned → ai
open Go.Value renaming tuple → aq
open Option.some renaming injEq → a3I
open Go.Lib renaming hid → a3J
open And renaming intro → a3K
open List renaming length_cons → a3N, length_nil → a3V
open Go.Value renaming slice → a3Y, pointer → a4x
open Go.Obj renaming cells → a4p
open Nat renaming lt_trans → a6T
open Array renaming replicate_zero → a7h, replicate_succ → a7i
open Go.Fence renaming wide → a7A
open Go.World renaming setCell_alloc_past → a7P
open Go.Proofs.Tryz renaming prog → bdD
open Go.Proofs.Tryz
namespace Go.Proofs.YtoegidfbnkaabaaGreatDoor
open P
open Go.RowKit
variable{B bx cap d f g k n pb tb:Nat}{R:Ending->Z->Prop}{T:List P.Tok}{W w w0:Z}{bl:List Nat}{fn:Func}{v:Y}{iF:Array Y}{vars:List Bs}
def alR{P:Program}{f:FuncId}{c:Code}{args:Array Y}
  (a:P.funcs[f]?=O fn) (b:fn.body=O c)
  (h:c.wp P (bodyPostM a7A 3 P fn R) { tmps:=args++Array.replicate (fn.ntmps-args.size) undef,defers:=[] } w):Calls P f args w R:=
 callsIn_wide.1 (callsIn_of_wp_marks (n:=3) a b trivial (wpIn_wide.2 h) J)
def aDI{P:Program}{tmps:Array Y}(hr:(results fn tmps).run P w = .ok v w)(a:R (ai v) w) :
 bodyPostM a7A 3 P fn R .ret { tmps:=tmps,defers:=[] } w:=⟨v,hr,a⟩
def aDJ(hp:SP w pb tb T k vars d)(hc:ee T k [93]=G) :
  Calls bdD 142 #[pp pb] w (j6 eQ pb tb T d w (.ok (.mk 97 [91,93] 0 0 []) (k+1) vars)):=by
 have dC:=a3J (hp.ext (w':=w.alloc (a4p #[.int .u8 97,aW [91,93],zi 0,zi 0,bW] 178)) (by grind [dT]));have HC:=a3J hc;have gj:=hp.d2.2.2;clear hp hc;refine alR func142 J ?_;simp only[ntmps142,List.size_toArray,a3N,a3V,Nat.reduceAdd,Nat.reduceSub,a7i,a7h,List.push_toArray,List.append_toArray,List.nil_append,List.cons_append]
 go_wp2_with fail
 refine(vA dC.out [93] HC.out).mono ?_;rintro e w3 ⟨rfl,gL,dV⟩;have uK:=a3J gL;have oE:=a3J dV;clear gL dV
 go_wp2_with fail
 refine aDI (results_tmp J _ _ _) ⟨_,J,?_,uK.out,((bD.refl _ _).alloc _).trans oE.out⟩;have hz:=oE.out.size;rw[size_alloc] at hz;exact KG zg (by grind [db.bL,blk_alloc_new,Hid.out])
abbrev KO:Obj:=ah #[.int .u8 97,.string (bs [91,93]),zi 0,zi 0,.slice V 0 0] 178
def LJ(pb tb:Nat)(T:List P.Tok)(d:Nat)(w0:Z)(c:cr (List Ex))(n:Nat)(a:Act)(w:Z):Prop:=
 ∃ (acc:List Ex) (k:Nat) (vs:List Bs) (xs:List Y) (sl e f g h i u8 j l m o p q r u16 s t u x y z A B C D E F H I K u32 L M N Q R S U:Y),a={ tmps:=#[pp pb,e,f,pp w0.heap.size,sl,g,h,i,u8,j,l,m,o,p,q,r,u16,s,t,u,x,y,z,A,B,C,D,E,F,H,I,K,u32,L,M,N,Q,R,S,U],defers:=[] } /\
  w.ownsRow w0.heap.size 106 1 sl acc.length xs/\eS (fun b=>Nu w0 w b/\sl.ownBlock≠O b) w xs acc/\SP w pb tb T k vs d/\db pb w0 w/\0<acc.length/\acc.length<=k /\
  w.heap[w0.heap.size]?=O KO/\(if ee T k [44] then rj T n (k+1) vs d acc else O (.ok acc k vs))=O c
noncomputable def alS:Code:=match Tryz.f142.body with
 | some (.seq _ (.seq _ (.seq _ (.seq _ (.seq _ (.seq _ (.seq _ c)))))))=>c
 | _=>.skip
noncomputable def aDL:Code:=match alS with | .seq c _=>c | _=>.skip
noncomputable def aDM:Code:=match alS with | .seq _ c=>c | _=>.skip
theorem ada{A B:Z}{row:Option Nat}(c:A.grownBy B row)(hr:∀ r,row=O r->∃ o:Obj,A.heap[r]?=O o/\o.isCells=ae)(b:Nat)(cs:Array Y)(t:TypeId)(z:Nat×Nat)
  (h:A.heap[b]?=O (ah cs t z)):B.heap[b]?=O (ah cs t z):=by
 rw[c.block b (bn h) (fun e=>by
  obtain⟨o,a,d⟩:=hr b e.symm;rw[h] at a;cases a;cases d)]
 omega
theorem alT{o a:Obj}(b:a=o)(h:n=w.heap.size):(w.alloc o).heap[n]?=O a:=by grind [blk_alloc_new]
def LI(pb tb:Nat)(T:List P.Tok)(k:Nat)(vs:List Bs)(d X:Nat)(w0:Z)(bl:List Nat)(acc:List Ex)(x:Ex)(pre:List (Nat×Nat))(W:Z):Prop:=
 SP W pb tb T k vs d/\db pb w0 W/\eS (fun b=>Nu w0 W b/\b≠X) W (bl.map (fun b=>a4x (O ⟨b,0,V⟩))) acc/\X<W.heap.size /\
 ∃ bv,W.heap[X]?=aO #[pp bv] 106 /\
  (pre=IU bl pre.length->pre.length<=acc.length->eQ (fun b=>Nu w0 W b/\b≠X) W (pp bv) (Ar (acc.drop (acc.length-pre.length)) x))
def LI.own{vs:List Bs}{X:Nat}{acc:List Ex}{x:Ex}(n:w0.heap.size<=B) :
  OwnFrom B (LI pb tb T k vs d X w0 bl acc x):=by
 rintro pre W f row ⟨g,p,h,q,bv,s,i⟩ c hr;have j:=ada c (fun r e=>(hr r e).2);have l:∀ (b:Nat) (o:Obj),D0 o->W.heap[b]?=O o->f.heap[b]?=O o:=fun b o m u=>by
  obtain⟨cs,t,z,rfl⟩:=aDn m;grind
 have w:=c.size;refine⟨g.aDm j,(by grind [Nat.le_trans,bD.Ql]),?_,zo,bv,zg,fun a b=>?_⟩
 .exact eS.mono zg zg _ _ h
 .exact eQ.mono zg zg _ _ (i a b)
def aDN{acc:List Ex}{x:Ex}(b:n<acc.length) :
  Ar (acc.drop (acc.length-(n+1))) x = .mk 99 [46] 0 0 [acc[acc.length-1-n],Ar (acc.drop (acc.length-n)) x]:=by
 have e:acc.length-(n+1)=acc.length-1-n:=zo;have a:acc.length-n=acc.length-1-n+1:=zo;rw[e,a,List.drop_eq_getElem_cons zo];rfl
theorem LI.step{vs:List Bs}{X:Nat}{acc:List Ex}{x:Ex}{pre:List (Nat×Nat)}{y:Nat×Nat}(u:bl.length=acc.length)
  (w:w0.heap.size<=X) (z:pb<w0.heap.size) (h:LI pb tb T k vs d X w0 bl acc x pre W) (bv:Nat) (A:W.heap[X]?=aO #[pp bv] 106) :
  LI pb tb T k vs d X w0 bl acc x (pre++[y])
   (((W.alloc (ah #[pp y.2,pp bv] 106)).alloc (ah #[.int .u8 99,aW [46],zi 0,zi 0,cS W.heap.size 2 2] 178)).setCell ⟨X,0,V⟩ (pp (W.heap.size+1))):=by
 obtain⟨i,j,f,B,a,l,m⟩:=h;have:a=bv:=by
  grind
 subst this;generalize hr:(a4p #[pp y.2,pp a] 106)=row at *;generalize C:(a4p #[.int .u8 99,aW [46],zi 0,zi 0,cS W.heap.size 2 2] 178)=node at *;have n:((W.alloc row).alloc node).heap[X]?=_:=dT (dT l);have D:(((W.alloc row).alloc node).setCell ⟨X,0,V⟩ (pp (W.heap.size+1))).heap.size=W.heap.size+2:=by grind [size_setCell,size_alloc]
 have hk:∀ (b:Nat) (o:Obj),b≠X->((W.alloc row).alloc node).heap[b]?=O o->(((W.alloc row).alloc node).setCell ⟨X,0,V⟩ (pp (W.heap.size+1))).heap[b]?=O o:=(by grind [blk_setCell_other]);have p:∀ (b:Nat) (o:Obj),b≠X->W.heap[b]?=O o->(((W.alloc row).alloc node).setCell ⟨X,0,V⟩ (pp (W.heap.size+1))).heap[b]?=O o:=(by grind [dT]);have hlt:=i.lt;refine⟨(by grind [dT,SP.setOther,SP.ext]),(by grind [bD.Na,bD.alloc]),?_,zo,W.heap.size+1,by rw[Bm n];rfl,fun c q=>?_⟩
 .exact eS.mono zg zg _ _ f
 .simp only[List.length_append,a3N,a3V,Nat.zero_add] at c q ⊢;rw[alG] at c;obtain⟨r,E⟩:=List.append_inj' c J;have F:y=(bl.length-1-pre.length,bl.getD (bl.length-1-pre.length) 0):=zg;rw[aDN zo];have hx:=m r zo;have hi:acc.length-1-pre.length<acc.length:=zo;have g:=f.get (acc.length-1-pre.length) hi;have s:y.2=bl.getD (acc.length-1-pre.length) 0:=zg;rw[<- s] at g;have t:w0.heap.size<=W.heap.size:=j.size;have e:W.heap.size≠X:=zo;refine ac0 zg (by grind [alT,size_alloc]) (ac1 zg (hk _ _ e (dT (alT hr J))) ?_ ?_)
  .exact eQ.mono zg zg _ _ g
  .exact eQ.mono zg zg _ _ hx
def alV{vs:List Bs}{nb X:Nat}{acc:List Ex}{x:Ex}{r:cr Ex}(u1 u2 u6 u7 u8 u9 y3 y5 y6 xe xf y7 u16 y8 y9 Cv Cw Cx Cy Cz CB CC CD CE D8 D9 Ea IV u32 IW Bw FA G4 G5 ND NF:Y)
  (hp:SP w pb tb T k vs d) (hf:db pb w0 w) (gj:pb<w0.heap.size) (TG:w0.heap.size<=X) (XO:g≠X) (hL:acc.length<=3000) (pJ:bl.length=acc.length) (x7:pb<g)
  (hXb:w.heap[X]?=aO #[pp bx] 106) (hx:eQ (fun b=>Nu w0 w b/\b≠X) w (pp bx) x)
  (hg:w.heap[g]?=aO iF 106) (BB:∀ j,j<bl.length->iF[j]?=O (pp (bl.getD j 0)))
  (my:eS (fun b=>Nu w0 w b/\b≠X) w (bl.map (fun b=>a4x (O ⟨b,0,V⟩))) acc)
  (hr:mW T [93] (Ar acc x) k vs=O r)
  (K:Act->Z->Prop) (hK:∀ a w,aDM.wp bdD (bodyPostM a7A 3 bdD Tryz.f142 (j6 eQ pb tb T d w0 r)) a w->K a w) :
  aDL.wp bdD (Exit.then K (bodyPostM a7A 3 bdD Tryz.f142 (j6 eQ pb tb T d w0 r))) { tmps:=#[pp pb,u1,u2,pp nb,cS g acc.length cap,pp X,u6,u7,u8,u9,y3,y5,y6,xe,xf,y7,u16,y8,y9,Cv,Cw,Cx,Cy,Cz,CB,CC,CD,CE,D8,D9,Ea,IV,u32,IW,Bw,FA,G4,G5,ND,NF],defers:=[] } w:=by
 change ∀ a w,Code.wp _ (Code.seq _ _) _ a w->_ at hK;have H:=a3J hp;have HF:=a3J hf;have HX:=a3J hXb;have HE:=a3J hx;have HG:=a3J hg;have HC:=a3J BB;have HXS:=a3J my;have HR:=a3J hr;have KP:=a3J pJ;have By:=hf.size;have XP:=bn hXb;clear hp hf hXb hx hg BB my hr pJ;change Code.wp _ (Code.region _ _ _) _ _ _
 go_wp2_with fail
 have hq:=HR.out;rw[mW] at hq;by_cases hc:ee T k [93]=G
 .rw[zip hc,a3I] at hq;subst hq;refine(Tw H.out [93] hc).mono ?_;rintro e w1 ⟨rfl,dC,gn⟩;have kH:=a3J dC;have iz:=a3J gn;clear dC gn hc HR
  go_wp2_with fail
  refine(backward _ _ _ _).mono ?_;rintro e w2 ⟨rfl,rfl⟩;have oZ:=iz.out.size;have Ny:w1.heap[X]?=_:=db.bL iz.out HX.out zo zd;have ti:w1.heap[g]?=_:=db.bL iz.out HG.out zo zd;have hI0:LI pb tb T (k+1) vs d X w0 bl acc x [] (w1.alloc (ah #[cS g acc.length cap] 83)):=by
   refine⟨kH.out.ext (by grind [dT]),(HF.out.trans iz.out).alloc _,?_,by grind [size_alloc],bx,dT Ny,fun _ _=>?_⟩
   .exact eS.mono (by grind [size_alloc]) (by grind [dT,db.lL,Hid.out]) _ _ HXS.out
   .simp only[a3V,Nat.sub_zero,List.drop_length];exact eQ.mono (by grind [size_alloc]) (by grind [dT,db.lL,Hid.out]) _ _ HE.out
  have hB:(w1.alloc (ah #[cS g acc.length cap] 83)).heap[w1.heap.size]?=_:=blk_alloc_new _ _;have hgB:(w1.alloc (ah #[cS g acc.length cap] 83)).heap[g]?=_:=dT ti;have ade:w0.heap.size<=(w1.alloc (ah #[cS g acc.length cap] 83)).heap.size:=zg;have HI:=a3J hI0;have HB:=a3J hB;have HGB:=a3J hgB;have HS2:=a3J ade;clear hI0 hB hgB ade Ny ti
  go_wp2_with fail
  have Ny:X<w1.heap.size:=zo;refine(wpIn_wide (n:=3)).1 (wpIn_rangeFunc_ownF (F:=a7A) (n:=3) J zo (gf:=175) (lb:=#[pp w1.heap.size]) J trivial (enters_of func175 zk J)
   (aDt a7A 2 trivial J zo w1.heap.size g cap X bl zo XO (by rw[KP.out];omega) _ (by rw[KP.out];exact HB.out) iF HGB.out HC.out) (by grind [KH.trans])
   (fun W l o o' _ hl ho _ b cs t z _ hb=>(by grind [ada,grownBy_putObj'])) (Below.refl _ _) zg
   (LI pb tb T (k+1) vs d X w0 bl acc x) (fun _ _ _=>False) (LI.own HS2.out) (fun c s W W' row h=>h.elim) HI.out
   (fun y=>{ tmps:=#[pp pb,u1,u2,pp nb,cS g acc.length cap,pp X,u6,pp y.2,u8,u9,y3,y5,y6,xe,xf,y7,u16,y8,y9,Cv,Cw,Cx,Cy,Cz,CB,CC,CD,CE,pp pb,aq #[],cS g acc.length cap,.func (.func 175) #[] #[pp w1.heap.size],zi (y.1:Int),pp y.2,Bw,FA,G4,G5,ND,NF],defers:=[] }) ?assign ?body ?done ?stop)
  case assign=>
   intro l y W K hK
   gi_wp2_with (rw[Oper.semAt_eq _ _ _ (fun c h=>by cases h)];go_simp;try go_bits)
   omega
  case body=>
   intro l pre y W hI hlen;obtain⟨bv,mZ,-⟩:=hI.2.2.2.2;have nX:W.cell? ⟨X,0,V⟩=O (pp bv):=cellOf mZ J;have G9:=jV mZ 0;have hXW:=hI.2.2.2.1;have FC:=LI.step (y:=y) KP.out TG gj hI bv mZ;rw[a7P _ _ _ _ (by rw[size_alloc];omega),a7P _ _ _ _ hXW] at FC;have HST:=a3J FC;clear hI FC mZ
   gi_wp2_with (rw[Oper.semAt_eq _ _ _ (fun c h=>by cases h)];go_simp;try go_bits)
   exact⟨(by grind [KeepsOthers.setCell,trans,KeepsOthers.alloc,KeepsOthers.trans]),fun b cs t z hb hc=>(by grind [dT,blk_setCell_other]),HST.out⟩
  case done=>
   rintro D ys W hD rfl hI hK;have XQ:=LI.own HS2.out _ W (W.putObj D (.deferred V)) (O D) hI (grownBy_putObj' W D _) (fun r e=>by cases e;exact⟨hD,_,hK,J⟩);obtain⟨bv,mZ,-⟩:=hI.2.2.2.2;have nX:W.cell? ⟨X,0,V⟩=O (pp bv):=cellOf mZ J;have hXW:=hI.2.2.2.1;have HBV:=a3J mZ;have HII:=a3J XQ;have HK:=a3J hK;clear hI XQ mZ hK
   go_wp2_with fail
   refine⟨zs,.inl ⟨_,_,J,run_takeDeferred HK.out,?_⟩⟩;refine⟨_,results_tmp J _ _ _,?_⟩;obtain⟨g1,g2,g3,g4,bv2,g5,g6⟩:=HII.out;have e5:=ada (grownBy_putObj' W D (.deferred V)) (fun r e=>by cases e;exact⟨_,HK.out,J⟩) _ _ _ _ HBV.out;have:bv2=bv:=by
    grind
   subst this;have e6:=g6 (by rw[XH]) (by rw[XH,KP.out];omega);rw[XH,KP.out,Nat.sub_self,List.drop_zero] at e6;exact⟨_,J,eQ.mono zg zg _ _ e6,g1,g2⟩
  grind
 .rw[bU hc,a3I] at hq;subst hq;refine(Tx H.out [93] zg zd).mono ?_;rintro e w1 ⟨⟨b,rfl,eO,gF⟩,dV,gO⟩;exact⟨⟨b,J,eO,zo⟩,HF.out.trans dV,gO⟩
def aDU(Eb:∀ m,m<f+1->IS m){r:cr Ex}(pH:SP w0 pb tb T k vars d)(hd:d<=8)
  (h:qD T (f+1) k vars d=O r):Calls bdD 142 #[pp pb] w0 (j6 eQ pb tb T d w0 r):=by
 rw[qD] at h;by_cases nX:ee T k [93]=G
 .rw[zip nX,a3I] at h;subst h;exact aDJ pH nX
 rw[bU nX] at h;cases AK:rj T f k vars d [] with
 | none=>rw[AK] at h;simp [cr.bind] at h
 | some re=>
 rw[AK] at h;cases f with
 | zero=>simp [rj] at AK
 | succ f=>
 rw[rj] at AK;have dC:=a3J (pH.ext (w':=w0.alloc KO) (by grind [dT]));have HR:=a3J h;have NG:=a3J AK;have xY:=pH.d2.2.2;have hT:=pH.tw.len;obtain⟨i0,hi,KK,KL,KM⟩:=info_parts alE;have iz:Hid (db pb w0 (w0.alloc KO)):=a3J ((bD.refl _ _).alloc _);clear pH h AK;refine alR func142 J ?_;simp only[ntmps142,List.size_toArray,a3N,a3V,Nat.reduceAdd,Nat.reduceSub,a7i,a7h,List.push_toArray,List.append_toArray,List.nil_append,List.cons_append]
 go_wp2_with fail
 refine(qK dC.out [93] zg zd).mono ?_;rintro e w3 ⟨rfl,rfl⟩;clear nX
 go_wp2_with fail
 cases hq:jf T f 0 k vars d with
 | none=>have e:=NG.out;rw[hq] at e;simp [cr.bind] at e
 | some q=>
 have e:=NG.out;rw[hq] at e;refine((Eb f zo).go dC.out hd hq).mono ?_;cases q with
 | err c0 a0=>
  rintro e2 w4 ⟨⟨b,rfl,eO,gF⟩,dV,gO⟩;simp only[cr.bind,a3I] at e;subst e;have hr:=HR.out;simp only[cr.bind,a3I] at hr;subst hr;exact⟨⟨b,J,eO,by grind [size_alloc]⟩,iz.out.trans dV,gO⟩
 | ok x k' xg=>
 rintro e2 w1 ⟨v,rfl,hv,fi,eY⟩;simp only[cr.bind] at e;obtain⟨bx,rfl,jM⟩:=hv.shape;have nW:=(P.mono T f).oper _ _ _ _ _ _ _ hq;have oZ:=eY.size;rw[size_alloc] at oZ;have DU:=db.bL eY (blk_alloc_new w0 KO) zo zg;have eT:(w1.alloc (ah #[pp bx] 106)).ownsRow w0.heap.size 106 1 (cS w1.heap.size 1 1) 1 [pp bx]:=
  ⟨J,.inr ⟨w1.heap.size,1,_,J,zo,blk_alloc_new _ _,Nat.le_refl _,zd,J,J⟩⟩
 have jb:eS (fun b=>Nu w0 (w1.alloc (ah #[pp bx] 106)) b/\(a3Y (O ⟨w1.heap.size,0,V⟩) 1 1).ownBlock≠O b) (w1.alloc (ah #[pp bx] 106)) [pp bx] [x]:=by
  have:=eS.snoc (l:=[]) (vs:=[]) (F:=fun b=>Nu w0 (w1.alloc (ah #[pp bx] 106)) b/\(a3Y (O ⟨w1.heap.size,0,V⟩) 1 1).ownBlock≠O b) (w:=w1.alloc (ah #[pp bx] 106)) (v:=pp bx) (x:=x)
   (eQ.mono (fun b hb=>⟨(by grind [size_alloc]),fun e=>by injection e with e;grind⟩) (by grind [dT]) _ _ hv) (by unfold eS;rfl)
  grind
 have TH:=a3J eT;have mz:=a3J jb;have iU:=a3J (fi.ext (w':=w1.alloc (ah #[pp bx] 106)) fun b o h=>dT h);have fR:Hid (db pb w0 (w1.alloc (ah #[pp bx] 106))):=a3J ((iz.out.trans eY).alloc _);have HN1:Hid ((w1.alloc (ah #[pp bx] 106)).heap[w0.heap.size]?=O KO):=a3J (dT DU);have HE:=a3J e;have HK:=a3J nW;clear hv fi eY eT jb e hq jM DU NG nW iz dC
 go_wp2_with fail
 refine wp_loop_ghost (fun n a w=>n<=f/\LJ pb tb T d w0 re n a w) ⟨f,Nat.le_refl _,[x],k',xg,_,_,_,_,_,_,_,_,_,_,_,_,_,_,_,_,_,_,_,_,_,_,_,_,_,_,_,_,_,_,_,_,_,_,_,_,_,_,_,J,TH.out,mz.out,iU.out,fR.out,Nat.zero_lt_one,by have:=HK.out;simp;omega,HN1.out,by simpa using HE.out⟩ ?_;clear TH mz iU fR HK HN1 HE oZ;rintro n a w ⟨hnf,acc,k2,vs,xs,sl,u1,u2,u5,u6,u7,u8,u9,y3,y5,y6,xe,xf,y7,u16,y8,y9,Cv,Cw,Cx,Cy,Cz,CB,CC,CD,CE,D8,D9,Ea,IV,u32,IW,Bw,FA,G4,G5,ND,NF,rfl,dS,my,hp,hf,h0a,XN,DU,hr⟩;have IY:=hp.kt;have hz:=hf.size;have CH:=hp.d2.2.2;obtain⟨g',pX,rfl⟩:∃ g cap,sl = cS g acc.length cap:=by
  obtain⟨g1,g2 | ⟨g,cp,cur,e1,e2,e3,e4⟩⟩:=dS<;>grind
 have HO:=a3J dS;have HX:=a3J my;have HP:=a3J hp;have HF:=a3J hf;have HN:=a3J DU;by_cases hc:ee T k2 [44]=G
 .rw[zip hc] at hr;cases n with
  | zero=>grind [rj]
  | succ n=>
  rw[rj] at hr;have AI:=a3J hr;clear dS my hp hf DU hr
  go_wp2_with fail
  refine(vA HP.out [44] hc).mono ?_;rintro e w2 ⟨rfl,fi,eY⟩;have iU:=a3J fi;have fR:=a3J eY;clear fi eY hc
  go_wp2_with fail
  cases hq:jf T n 0 (k2+1) vs d with
  | none=>have e:=AI.out;rw[hq] at e;simp [cr.bind] at e
  | some q=>
  have e:=AI.out;rw[hq] at e;refine((Eb n zo).go iU.out hd hq).mono ?_;cases q with
  | err c0 a0=>
   rintro e2 w4 ⟨⟨b,rfl,eO,gF⟩,dV,gO⟩;simp only[cr.bind,a3I] at e;subst e;have hr:=HR.out;simp only[cr.bind,a3I] at hr;subst hr;have:=fR.out.size;exact⟨⟨b,J,eO,zo⟩,(HF.out.trans fR.out).trans dV,gO⟩
  | ok x k' xg=>
  rintro e2 w3 ⟨v,rfl,hv,gL,dV⟩;simp only[cr.bind] at e;obtain⟨bx,rfl,jM⟩:=hv.shape;have nW:=(P.mono T n).oper _ _ _ _ _ _ _ hq;have pY:=fR.out.size;have BA:=dV.size;have jY:=gL.kt;have adf:=iU.out.d2.2.2;have tj:=gL.d2.2.2;have xZ:w3.ownsRow w0.heap.size 106 1 (cS g' acc.length pX) acc.length xs:=by
   obtain⟨g1,g2 | ⟨g,cp,cur,e1,e2,e3,e4⟩⟩:=HO.out
   .omega
   .exact⟨g1,.inr ⟨g,cp,cur,e1,e2,db.lL dV ⟨zg,J⟩ (db.lL fR.out ⟨zg,J⟩ e3 zo) zo,e4⟩⟩
  have KN:eS (fun b=>Nu w0 w3 b/\(a3Y (O ⟨g',0,V⟩) acc.length pX).ownBlock≠O b) w3 xs acc:=
   eS.mono zg (by grind [db.lL,Hid.out]) _ _ HX.out
  have hn3:w3.heap[w0.heap.size]?=O KO:=(by grind [db.bL,Hid.out]);have vD:=a3J xZ;have mz:=a3J KN;have HV:=a3J hv;have kH:=a3J gL;have iz:=a3J ((HF.out.trans fR.out).trans dV);have HE:=a3J e;have AH:=a3J jM;have HK:=a3J nW;have HN3:=a3J hn3;have Ec:w0.heap.size<=g':=(HO.out.lt g' J).1;have BC:g'<w.heap.size:=(HO.out.lt g' J).2;have aDX:g'≠w0.heap.size:=fun e=>by
   obtain⟨g1,g2 | ⟨g,cp,cur,e1,e2,e3,e4⟩⟩:=HO.out
   .omega
   .injection e1 with e1 _ _;injection e1 with e1;injection e1 with e1 _ _;rw[<- e1,e] at e3;rw[HN.out] at e3;injection e3 with e3;injection e3 with _ e3 _;exact absurd e3 zd
  clear hv gL dV xZ KN e hq jM hn3 nW
  go_wp2_with (at_builtin;go_must (refine S2 J _ _ 83 J w0.heap.size 106 i0 _ 1 8 underlying83 hi KK KL KM J zo _ _ _ J (vD.out.alloc _) ⟨w3.heap.size,0,V⟩ 1 1 [pp bx] J J (P3 J) (by simp [Value.oneCell']) (by grind [maxLen]) zo (by simp;omega) ?_;intro v' w4 th zc Bz;obtain⟨g2,Ha,rfl⟩:=Nb th;have G6:=a3J th;have uJ:=a3J zc;have TE:=a3J Bz;clear th zc Bz))
  have j7:SP w4 pb tb T k' xg d:=(kH.out.ext fun b o h=>dT (o:=a4p #[a4x (O ⟨bx,0,V⟩)] 106) h).Qk (vD.out.alloc _) zg zo uJ.out;have eA:db pb w0 w4:=(iz.out.alloc _).Ql uJ.out fun k hk=>(vD.out.lt k hk).1;have KQ:=uJ.out.size;rw[size_alloc] at KQ;have Qo:∀ (b:Nat) (o:Obj),w3.heap[b]?=O o->(a3Y (O ⟨g',0,V⟩) acc.length pX).ownBlock≠O b->w4.heap[b]?=O o:=fun b o h ef=>by
   have h':=dT (o:=a4p #[a4x (O ⟨bx,0,V⟩)] 106) h;rw[uJ.out.block b (bn h') (fun e=>ef e.symm)];omega
  have pI:∀ b,b<w3.heap.size->(a3Y (O ⟨g',0,V⟩) acc.length pX).ownBlock≠O b->(a3Y (O ⟨g2,0,V⟩) (acc.length+1) Ha).ownBlock≠O b:=fun b hb ef=>by
   rcases TE.out with h | h
   .rw[h];exact ef
   grind [size_alloc]
  have hbn:∀ b,Nu w2 w3 b->(a3Y (O ⟨g',0,V⟩) acc.length pX).ownBlock≠O b:=fun b hb e=>by
   have:=(HO.out.lt b e).2;omega
  have adg:eS (fun b=>Nu w0 w4 b/\(a3Y (O ⟨g2,0,V⟩) (acc.length+1) Ha).ownBlock≠O b) w4 (xs++[pp bx]) (acc++[x]):=
   eS.snoc (eQ.mono zg zg _ _ HV.out)
    (eS.mono zg zg _ _ mz.out)
  have hn4:w4.heap[w0.heap.size]?=O KO:=Qo _ _ HN3.out (fun e=>aDX (by injection e));have nW:=HK.out;exact⟨n,Nat.lt_succ_self n,zo,acc++[x],k',xg,_,_,_,_,_,_,_,_,_,_,_,_,_,_,_,_,_,_,_,_,_,_,_,_,_,_,_,_,_,_,_,_,_,_,_,_,_,_,_,J,by rw[List.length_append];exact G6.out,adg,j7,eA,zs,zg,hn4,HE.out⟩
 .rw[bU hc,a3I] at hr;subst hr;clear dS my hp hf DU
  go_wp2_with fail
  refine(qK HP.out [44] zg zd).mono ?_;rintro e w2 ⟨rfl,rfl⟩;clear hc;have TG:w0.heap.size<=w.heap.size:=hz;have hNX:=bn HN.out;have BC:=(HO.out.lt g' J);obtain⟨bl,uL,pJ⟩:=HX.out.blocks;subst uL;have BB:∃ cur:Array Y,w.heap[g']?=aO cur 106/\∀ j,j<bl.length->cur[j]?=O (pp (bl.getD j 0)):=by
   obtain⟨g1,g2 | ⟨g,cp,cur,e1,e2,e3,e4,e5,e6,e7⟩⟩:=HO.out
   .omega
   .cases e1;refine⟨cur,e3,fun j hj=>?_⟩;have h1:(cur.toList.take (acc.length*1))[j]?=(bl.map (fun b=>a4x (O ⟨b,0,V⟩)))[j]?:=zg;grind
  obtain⟨cur,gX,BB⟩:=BB;have hbX:(w.alloc (ah #[pp w0.heap.size] 106)).heap[w.heap.size]?=aO #[pp w0.heap.size] 106:=blk_alloc_new _ _;have al5:eS (fun b=>Nu w0 (w.alloc (ah #[pp w0.heap.size] 106)) b/\b≠w.heap.size) (w.alloc (ah #[pp w0.heap.size] 106)) (bl.map (fun b=>a4x (O ⟨b,0,V⟩))) acc:=
   eS.mono zg (by grind [dT]) _ _ HX.out
  have XO:(w.alloc (ah #[pp w0.heap.size] 106)).heap[g']?=aO cur 106:=dT gX;have HPX:=a3J (HP.out.ext (w':=w.alloc (ah #[pp w0.heap.size] 106)) fun b o h=>dT h);have hFX:db pb w0 (w.alloc (ah #[pp w0.heap.size] 106)):=HF.out.alloc _;have hnX:(w.alloc (ah #[pp w0.heap.size] 106)).heap[w0.heap.size]?=O KO:=dT HN.out;have hsX:(w.alloc (ah #[pp w0.heap.size] 106)).heap.size=w.heap.size+1:=size_alloc _ _;have HFX:=a3J hFX;have HNX:=a3J hnX;have AH:=a3J hbX;have HGX:=a3J XO;have HCU:=a3J BB;have HXX:=a3J al5;have KP:=a3J pJ;have HSX:=a3J hsX;have hr:=HR.out;simp only[cr.bind] at hr;have ti:=BC.1;have jt:=BC.2;clear hFX hnX hbX XO BB al5 pJ gX BC HO HX HF HN HP hsX HR;by_cases hb:ee T k2 [124]=G
  .rw[zip hb] at hr;have AI:=a3J hr;clear hr
   go_wp2_with fail
   refine(vA HPX.out [124] hb).mono ?_;rintro e w3 ⟨rfl,gL,dV⟩;have uK:=a3J gL;have oE:=a3J dV;have BA:=dV.size;rw[HSX.out] at BA;clear gL dV hb;have hXw:w.heap.size<w3.heap.size:=zo
   go_wp2_with fail
   cases hq:jf T (f+1) 0 (k2+1) vs d with
   | none=>have e:=AI.out;rw[hq] at e;simp [cr.bind] at e
   | some q=>
   have e:=AI.out;rw[hq] at e;refine((Eb (f+1) zo).go uK.out hd hq).mono ?_;cases q with
   | err c0 a0=>
    rintro e2 w4 ⟨⟨b,rfl,eO,gF⟩,eA,vF⟩;simp only[cr.bind,a3I] at e;subst e;exact⟨⟨b,J,eO,zo⟩,(HFX.out.trans oE.out).trans eA,vF⟩
   | ok x k' xg=>
   rintro e2 w4 ⟨v,rfl,hv,j7,eA⟩;simp only[cr.bind] at e;obtain⟨bx,rfl,jM⟩:=hv.shape;have Bx:=eA.size;have aW6:=j7.lt;have hX3:=db.bL oE.out AH.out zo zd;have IZ:w4.heap[w.heap.size]?=_:=db.bL eA hX3 zo zd;have KQ:=db.bL eA (db.bL oE.out HGX.out zo zd) zo zd;have hc4:w4.cell? ⟨w.heap.size,0,V⟩=O (pp w0.heap.size):=cellOf IZ J;have G9:=jV IZ 0;have aW8:w.heap.size<w4.heap.size:=zo;have x8:(w4.setCell ⟨w.heap.size,0,V⟩ (pp bx)).heap.size=w4.heap.size:=size_setCell _ _ _;have I0:(w4.setCell ⟨w.heap.size,0,V⟩ (pp bx)).heap[w.heap.size]?=aO #[pp bx] 106:=by rw[Bm IZ];rfl
   have ru:∀ (b:Nat) (o:Obj),b≠w.heap.size->w4.heap[b]?=O o->(w4.setCell ⟨w.heap.size,0,V⟩ (pp bx)).heap[b]?=O o:=(by grind [blk_setCell_other]);have oF:=j7.setOther (o:=0) IZ zd zo zo (pp bx);have iV:db pb w0 (w4.setCell ⟨w.heap.size,0,V⟩ (pp bx)):=((HFX.out.trans oE.out).trans eA).Na TG _;have tl:eQ (fun b=>Nu w0 (w4.setCell ⟨w.heap.size,0,V⟩ (pp bx)) b/\b≠w.heap.size) (w4.setCell ⟨w.heap.size,0,V⟩ (pp bx)) (pp bx) x:=
    eQ.mono zg zg _ _ hv
   have ame:eS (fun b=>Nu w0 (w4.setCell ⟨w.heap.size,0,V⟩ (pp bx)) b/\b≠w.heap.size) (w4.setCell ⟨w.heap.size,0,V⟩ (pp bx)) (bl.map (fun b=>a4x (O ⟨b,0,V⟩))) acc:=
    eS.mono (by grind [Hid.out]) (by grind [db.lL,Hid.out]) _ _ HXX.out
   have ze:=ru g' _ zo KQ;have aDZ:=a3J (a3K oF (a3K iV (a3K I0 (a3K tl (a3K ze (a3K ame e))))));clear oF iV I0 tl ze ame e hv j7 eA hX3 IZ KQ ru x8 hq jM
   go_upto_region 10 with(fail)
   obtain⟨t1,t2,t3,t4,t5,t6,t7⟩:=aDZ.out;exact alV _ _ _ _ _ _ _ _ _ _ _ _ _ _ _ _ _ _ _ _ _ _ _ _ _ _ _ _ _ _ _ _ _ _ _ _ t1 t2 xY TG zo zo KP.out zo t3 t4 t5 HCU.out t6 t7 _ (by assumption)
  .rw[bU hb] at hr;have AI:=a3J hr;clear hr
   go_wp2_with fail
   refine(qK HPX.out [124] zg zd).mono ?_;rintro e w3 ⟨rfl,rfl⟩;clear hb
   go_upto_region 10 with(fail)
   have NH:eQ (fun b=>Nu w0 (w.alloc (ah #[pp w0.heap.size] 106)) b/\b≠w.heap.size) (w.alloc (ah #[pp w0.heap.size] 106)) (pp w0.heap.size) (.mk 97 [91,93] 0 0 []):=
    KG ⟨⟨Nat.le_refl _,by rw[HSX.out];omega⟩,zo⟩ HNX.out
   exact alV _ _ _ _ _ _ _ _ _ _ _ _ _ _ _ _ _ _ _ _ _ _ _ _ _ _ _ _ _ _ _ _ _ _ _ _ HPX.out HFX.out xY TG zo zo KP.out zo AH.out NH HGX.out HCU.out HXX.out AI.out _ (by assumption)
def amf:TB 0:=⟨fun _ _ h=>by simp [qD] at h⟩
def aD0(a:∀ m,m<f->IS m):TB f:=by
 cases f with
 | zero=>exact amf
 | succ f=>exact⟨fun b c h=>aDU a b c h⟩
def aD1(hp:SP w pb tb T k vars d)(hd:8<d+1)(xV:d<=8) :
  Calls bdD 117 #[pp pb] w (j6 eQ pb tb T d w (.err 4 (tk T k).pos)):=by
 have H:=a3J hp;clear hp
 go_enter_defers func117,ntmps117
 go_wp2_with fail
 refine(XE H.out hd zo).mono ?_;rintro e w1 ⟨⟨b,rfl,hb⟩,hf,hs⟩;exact⟨⟨b,J,hb⟩,hf,hs⟩
def aD2(hint:XF)(hp:SP w pb tb T k vars d)(hd:d+1<=8)
  (hk:(tk T k).kind=3) :
  Calls bdD 117 #[pp pb] w (j6 eQ pb tb T d w (.ok (.mk 110 [] (P.num (tk T k).text) 0 []) (k+1) vars)):=by
 have H:=a3J hp;have HK:=a3J hk;clear hp hk
 go_enter_defers func117,ntmps117
 go_wp2_with fail
 refine(AE H.out hd).mono ?_;rintro e w1 ⟨rfl,dZ,jb,dC,gn⟩;have mz:=a3J jb;have iz:=a3J gn;have kH:=a3J dC;have nY:=a3J dZ;obtain⟨n,c,h0,f0,hb,l1,l2,l3,l4,fi,eY⟩:=dC.on (by have:=HK.out;omega);obtain⟨t0,t1,t2⟩:=dC.toks.at dC.kt;have xW:tb<w1.heap.size:=by have:=dC.lt;omega
 have ef:¬ tb=pb:=by have:=dC.lt;omega
 have Tz:¬ pb=tb:=zo;have iU:=a3J fi;have fR:=a3J eY;rw[HK.out] at t0;clear dC gn jb dZ fi eY
 go_wp2_with fail
 have xS:=H.out.tw.digits _ (KC H.out.kt) HK.out;refine(hint.go _ xS.1 xS.2.1 xS.2.2).mono ?_;rintro e w3 ⟨rfl,TI⟩;have NI:=a3J TI;clear xS TI
 go_wp2_with fail
 have dZ:=nY.out;have gj:pb<w.heap.size:=H.out.d2.2.2;have jM:=fR.out.bL mz.out zo zd;have hz:=NI.out.size;rw[size_alloc,size_setCell] at hz;refine yY (j:=2) KF J gj (by grind [dT,SP.ext,Hid.out,bD.ext]) zo (by grind [dT,bD.ext,Hid.out]) ?_
  ((((iz.out.trans fR.out).alloc _).trans NI.out.toM).alloc _)
 exact KG (by grind [size_alloc]) (blk_alloc_new _ _)
def aD3(TJ:acZ)(hp:SP w pb tb T k vars d)(hd:d+1<=8)
  (hk:(tk T k).kind=2) :
  Calls bdD 117 #[pp pb] w (j6 eQ pb tb T d w (Aq (tk T k) (k+1) vars)):=by
 have H:=a3J hp;have HK:=a3J hk;clear hp hk
 go_enter_defers func117,ntmps117
 go_wp2_with fail
 refine(AE H.out hd).mono ?_;rintro e w1 ⟨rfl,dZ,jb,dC,gn⟩;have mz:=a3J jb;have iz:=a3J gn;have kH:=a3J dC;have nY:=a3J dZ;obtain⟨n,c,h0,f0,hb,l1,l2,l3,l4,fi,eY⟩:=dC.on (by have:=HK.out;omega);obtain⟨t0,t1,t2⟩:=dC.toks.at dC.kt;have xW:tb<w1.heap.size:=by have:=dC.lt;omega
 have ef:¬ tb=pb:=by have:=dC.lt;omega
 have Tz:¬ pb=tb:=zo;have iU:=a3J fi;have fR:=a3J eY;rw[HK.out] at t0;clear dC gn jb dZ fi eY
 go_wp2_with fail
 have lX:=TJ.go (tk T k) (iU.out.ext fun b o (h:_=O o)=>dT (o:=ah #[zi 2,aW ((tk T k).text),zi (tk T k).pos] 142) h)
  (H.out.tw.vars _ (KC H.out.kt) HK.out)
 rw[HK.out] at lX;refine lX.mono ?_;have dZ:=nY.out;have gj:pb<w.heap.size:=H.out.d2.2.2;have jM:=fR.out.bL mz.out zo zd;have amg:∀ o,((G2 w1 pb tb k n c).alloc o).heap[w.heap.size]?=_:=fun o=>dT (o:=o) jM;have tX:=fun o=>(iz.out.trans fR.out).alloc o;have jC:∀ o,((G2 w1 pb tb k n c).alloc o).heap.size=w.heap.size+2:=(by grind [size_alloc,size_setCell]);have HB:=a3J amg;have HR:=a3J tX;have HZ:=a3J jC;clear lX jM amg tX jC;cases hr:Aq (tk T k) (k+1) vars with
 | ok x k' vs=>
  rintro e w3 ⟨v,rfl,hv,gL,dV⟩;have HV:=a3J hv;have uK:=a3J gL;have oE:=a3J dV;have AI:=a3J hr;clear hv gL dV hr
  go_wp2_with fail
  have hz:=HZ.out (ah #[zi 2,aW ((tk T k).text),zi (tk T k).pos] 142);have BA:=oE.out.size;rw[AI.out];refine yY (j:=2) KF J gj uK.out zo (by grind [db.bL,Hid.out]) ?_ ((HR.out _).trans oE.out);exact eQ.mono zg zg _ _ HV.out
 | err c0 a0=>
  rintro e w3 ⟨⟨b,rfl,eO,gF⟩,dV,gO⟩;have hz:=HZ.out (ah #[zi 2,aW ((tk T k).text),zi (tk T k).pos] 142);exact tZ gj gO (by grind [db.bL,Hid.out]) ⟨b,J,eO,zo⟩ ((HR.out _).trans dV)
def aD4(hp:SP w pb tb T k vars d)(hd:d+1<=8)
  (hk:(tk T k).kind=1) (ho:ee T (k+1) [40]=ae) :
  Calls bdD 117 #[pp pb] w (j6 eQ pb tb T d w (.ok (.mk 97 (tk T k).text 0 0 []) (k+1) vars)):=by
 have HO:=a3J ho;clear ho;have H:=a3J hp;have HK:=a3J hk;clear hp hk
 go_enter_defers func117,ntmps117
 go_wp2_with fail
 refine(AE H.out hd).mono ?_;rintro e w1 ⟨rfl,dZ,jb,dC,gn⟩;have mz:=a3J jb;have iz:=a3J gn;have kH:=a3J dC;have nY:=a3J dZ;obtain⟨n,c,h0,f0,hb,l1,l2,l3,l4,fi,eY⟩:=dC.on (by have:=HK.out;omega);obtain⟨t0,t1,t2⟩:=dC.toks.at dC.kt;have xW:tb<w1.heap.size:=by have:=dC.lt;omega
 have ef:¬ tb=pb:=by have:=dC.lt;omega
 have Tz:¬ pb=tb:=zo;have iU:=a3J fi;have fR:=a3J eY;rw[HK.out] at t0;clear dC gn jb dZ fi eY
 go_wp2_with fail
 refine(qK (iU.out.ext fun b o h=>dT (dT h)) [40] HO.out zd).mono ?_;rintro e w3 ⟨rfl,rfl⟩
 go_wp2_with fail
 have dZ:=nY.out;have gj:pb<w.heap.size:=H.out.d2.2.2;have jM:=fR.out.bL mz.out zo zd;refine yY (j:=2) KF J gj (by grind [dT,SP.ext,Hid.out]) zo (by grind [dT]) ?_
  (by grind [bD.alloc,bD.trans,Hid.out])
 exact KG (by grind [size_alloc,size_setCell]) (by grind [Fx,size_alloc,size_setCell])
def aD5(lN:Qj f)(hp:SP w pb tb T k vars d)(hd:d+1<=8)
  (hk:(tk T k).kind=1) (ho:ee T (k+1) [40]=G) {r:cr (List Ex)} (hr:oV T f (k+2) vars (d+1) (tk T k).pos []=O r)
  {q:cr Ex} (hq:cr.bind (O r) (fun l k' vars'=>mW T [41] (Ex.mk 99 (tk T k).text 0 0 l) k' vars')=O q) :
  Calls bdD 117 #[pp pb] w (j6 eQ pb tb T d w (q)):=by
 have HO:=a3J ho;have HR:=a3J hr;have HQ:=a3J hq;clear ho hr hq;have H:=a3J hp;have HK:=a3J hk;clear hp hk
 go_enter_defers func117,ntmps117
 go_wp2_with fail
 refine(AE H.out hd).mono ?_;rintro e w1 ⟨rfl,dZ,jb,dC,gn⟩;have mz:=a3J jb;have iz:=a3J gn;have kH:=a3J dC;have nY:=a3J dZ;obtain⟨n,c,h0,f0,hb,l1,l2,l3,l4,fi,eY⟩:=dC.on (by have:=HK.out;omega);obtain⟨t0,t1,t2⟩:=dC.toks.at dC.kt;have xW:tb<w1.heap.size:=by have:=dC.lt;omega
 have ef:¬ tb=pb:=by have:=dC.lt;omega
 have Tz:¬ pb=tb:=zo;have iU:=a3J fi;have fR:=a3J eY;rw[HK.out] at t0;clear dC gn jb dZ fi eY
 go_wp2_with fail
 refine(vA (iU.out.ext fun b o h=>dT (dT h)) [40] HO.out).mono ?_;have dZ:=nY.out;have gj:pb<w.heap.size:=H.out.d2.2.2;have xi:=H.out.lt;have jM:=fR.out.bL mz.out zo zd;have ami:∀ o o',(((G2 w1 pb tb k n c).alloc o).alloc o').heap[w.heap.size]?=_:=fun o o'=>dT (o:=o') (dT (o:=o) jM);have hex:∀ o o',(((G2 w1 pb tb k n c).alloc o).alloc o').heap[w1.heap.size+1]?=O o':=(by grind [Fx,size_alloc,size_setCell]);have jC:∀ o o',(((G2 w1 pb tb k n c).alloc o).alloc o').heap.size=w1.heap.size+2:=(by grind [size_alloc,size_setCell]);have tX:=fun o o'=>((iz.out.trans fR.out).alloc o).alloc o';rintro e w3 ⟨rfl,gL,dV⟩;have amj:=dV.bL (ami _ _) zo zd;have amk:=dV.bL (hex _ _) zo zd;have aml:=(tX _ _).trans dV;have BA:w1.heap.size+2<=w3.heap.size:=zg;have HB3:=a3J amj;have NI:=a3J amk;have oE:=a3J aml;have uK:=a3J gL;have HS:=a3J dZ;have c2:w3.cell? ⟨w1.heap.size,2,V⟩=O (zi (tk T k).pos):=
  cellOf (dV.bL (b:=w1.heap.size) (dT (Fx (by rw[size_setCell]))) zo zd) J
 clear jM ami hex jC tX gL dV amj amk aml dZ t0 t1 t2 h0 f0
 go_wp2_with fail
 refine(lN.go _ uK.out zo HR.out).mono ?_;cases r with
 | err c0 a0=>
  rintro e w4 ⟨⟨b,rfl,eO,gF⟩,dV,gO⟩;have e:=HQ.out;simp only[cr.bind,a3I] at e;subst e;have dZ:=nY.out;exact tZ gj gO (by grind [db.bL,Hid.out]) ⟨b,J,eO,zo⟩ (oE.out.trans dV)
 | ok l k' vs=>
  rintro e w4 ⟨v,rfl,hv,j7,eA⟩;obtain⟨sa,sn,sc,rfl,-,-⟩:=hv.shape;have dZ:=nY.out;have NJ:=eA.bL NI.out zo zd;have amm:=eA.bL HB3.out zo zd;have x0:w4.cell? ⟨w1.heap.size+1,0,V⟩=O (.int .u8 97):=cellOf NJ J;have x4:w4.cell? ⟨w1.heap.size+1,4,V⟩=O bW:=cellOf NJ J;have y0:=jV NJ 0;have y4:=jV NJ 4;have z4:=bn NJ;have Bx:=eA.size;have ud:=a3J j7;have NK:=a3J hv;have ue:=a3J (oE.out.trans eA);have HE4:=a3J NJ;have HB4:=a3J amm;clear hv j7 eA NJ amm dZ c2
  go_wp2_with fail
  have dZ:=nY.out;have n1:w1.heap.size+1≠pb:=zo;have n2:tb<w1.heap.size+1:=zo;have n3:w.heap.size≠w1.heap.size+1:=zo;have adj:=Bm (o:=0) HE4.out (.int .u8 99);have oG:=(ud.out.setOther (o:=0) HE4.out zd n1 n2 (.int .u8 99)).setOther (o:=4) adj zd n1 n2 (.slice sa sn sc);have amp:=Bm (o:=4) adj (.slice sa sn sc);have amq:=(blk_setCell_other (a:=⟨w1.heap.size+1,4,V⟩) n3 (.slice sa sn sc)).trans ((blk_setCell_other (a:=⟨w1.heap.size+1,0,V⟩) n3 (.int .u8 99)).trans HB4.out);have amr:=(ue.out.Na (p:=⟨w1.heap.size+1,0,V⟩) (by show w.heap.size<=w1.heap.size+1;omega) (.int .u8 99)).Na (p:=⟨w1.heap.size+1,4,V⟩) (by show w.heap.size<=w1.heap.size+1;omega) (.slice sa sn sc);have BD:=(NK.out.set (x:=w1.heap.size+1) (o:=0) (fun b hb=>by have:=hb.1;omega) (.int .u8 99)).set (x:=w1.heap.size+1) (o:=4) (fun b hb=>by have:=hb.1;omega) (.slice sa sn sc);have Qp:∀ u v,((w4.setCell ⟨w1.heap.size+1,0,V⟩ u).setCell ⟨w1.heap.size+1,4,V⟩ v).heap.size=w4.heap.size:=(by grind [size_setCell]);have HE6:=a3J amp;have HB6:=a3J amq;have HF6:=a3J amr;have HV6:=a3J BD;have HZ6:=a3J Qp;have HP6:=a3J oG;clear adj oG amp amq amr BD Qp x0 x4 y0 y4;have hq:=HQ.out;simp only[cr.bind,mW] at hq;by_cases hc:ee T k' [41]=G
  .rw[zip hc,a3I] at hq;subst hq;refine(Tw HP6.out [41] hc).mono ?_;rintro e w7 ⟨rfl,ng,BE⟩;have HP7:=a3J ng;have KR:=a3J BE;clear ng BE hc n1 n2 n3 dZ
   go_wp2_with fail
   have dZ:=nY.out;have hz7:=KR.out.size;rw[HZ6.out] at hz7;refine yY (j:=2) KF J gj HP7.out zo (by grind [db.bL,Hid.out]) ?_ (HF6.out.trans KR.out);refine ac0 ⟨zo,zo⟩ (KR.out.bL HE6.out zo zd) ?_;exact aDl _ _ _ _ _ _ _ HV6.out KR.out fun b hb=>⟨by have:=hb.1;omega,by have:=hb.1;have:=hb.2;exact⟨zo,zo⟩⟩
  .rw[bU hc,a3I] at hq;subst hq;refine(Tx HP6.out [41] zg zd).mono ?_;rintro e w7 ⟨⟨b,rfl,eO,gF⟩,dV,gO⟩;rw[HZ6.out] at gF;exact tZ gj gO (by grind [db.bL,Hid.out]) ⟨b,J,eO,zo⟩ (HF6.out.trans dV)
def aEb(hp:SP w pb tb T k vars d)(hd:d+1<=8)
  (hk:(tk T k).kind=0\/(tk T k).kind=4) (hm:ee T k [45]=ae) (hn:ee T k [40]=ae) (hl:ee T k [91]=ae) :
  Calls bdD 117 #[pp pb] w (j6 eQ pb tb T d w (.err 2 (tk T k).pos)):=by
 have HM:=a3J hm;have HN:=a3J hn;have HL:=a3J hl;clear hm hn hl;have H:=a3J hp
 go_enter_defers func117,ntmps117
 go_wp2_with fail
 refine(AE H.out hd).mono ?_;rintro e w1 ⟨rfl,dZ,jb,dC,gn⟩;have mz:=a3J jb;have iz:=a3J gn;have kH:=a3J dC;have nY:=a3J dZ;obtain⟨n,c,h0,l1,l2,-,l3,l4⟩:=dC.l0;obtain⟨t0,t1,t2⟩:=dC.toks.at dC.kt;obtain⟨kd,iT⟩:∃ kd:Int,kd=((tk T k).kind:Int):=⟨_,J⟩;rw[<- iT] at t0;have k1:(kd == 1)=false:=zg;have k2:(kd == 2)=false:=zg;have k3:(kd == 3)=false:=zg;have CH:pb<w1.heap.size:=dC.d2.2.2;have xW:tb<w1.heap.size:=a6T dC.lt CH;have gj:pb<w.heap.size:=hp.d2.2.2;have xi:=hp.lt;clear dC gn jb dZ hk iT hp
 go_wp2_with fail
 have BF:∀ o,SP (w1.alloc o) pb tb T k vars (d+1):=(by grind [dT,SP.ext,Hid.out]);have BG:∀ o,(w1.alloc o).heap[w.heap.size]?=_:=fun o=>dT (o:=o) mz.out;have BH:=fun o=>iz.out.alloc o;have BI:∀ o,(w1.alloc o).heap.size=w.heap.size+2:=(by grind [size_alloc,Hid.out]);have AL:=a3J BF;have KS:=a3J BG;have I2:=a3J BH;have I3:=a3J BI;clear BF BG BH BI;refine(qK (AL.out _) [45] HM.out zd).mono ?_;rintro e w2 ⟨rfl,rfl⟩
 go_wp2_with fail
 refine(qK (AL.out _) [40] HN.out zd).mono ?_;rintro e w2 ⟨rfl,rfl⟩
 go_wp2_with fail
 refine(qK (AL.out _) [91] HL.out zd).mono ?_;rintro e w2 ⟨rfl,rfl⟩
 go_wp2_with fail
 refine(Tv (AL.out _)).mono ?_;rintro e w2 ⟨⟨b,rfl,eO,gF⟩,dV,gO⟩;rw[I3.out] at gF;have dZ:=nY.out;exact tZ gj gO (by grind [db.bL,Hid.out]) ⟨b,J,eO,zo⟩ ((I2.out _).trans dV)
def aEc(adl:TB f)(hp:SP w pb tb T k vars d)(hd:d+1<=8)
  (hk:(tk T k).kind=0\/(tk T k).kind=4) (hm:ee T k [45]=ae) (hn:ee T k [40]=ae) (hl:ee T k [91]=G)
  {r:cr Ex} (hr:qD T f (k+1) vars (d+1)=O r) :
  Calls bdD 117 #[pp pb] w (j6 eQ pb tb T d w (r)):=by
 have HM:=a3J hm;have HN:=a3J hn;have HL:=a3J hl;have HR:=a3J hr;clear hm hn hl hr;have H:=a3J hp
 go_enter_defers func117,ntmps117
 go_wp2_with fail
 refine(AE H.out hd).mono ?_;rintro e w1 ⟨rfl,dZ,jb,dC,gn⟩;have mz:=a3J jb;have iz:=a3J gn;have kH:=a3J dC;have nY:=a3J dZ;obtain⟨n,c,h0,l1,l2,-,l3,l4⟩:=dC.l0;obtain⟨t0,t1,t2⟩:=dC.toks.at dC.kt;obtain⟨kd,iT⟩:∃ kd:Int,kd=((tk T k).kind:Int):=⟨_,J⟩;rw[<- iT] at t0;have k1:(kd == 1)=false:=zg;have k2:(kd == 2)=false:=zg;have k3:(kd == 3)=false:=zg;have CH:pb<w1.heap.size:=dC.d2.2.2;have xW:tb<w1.heap.size:=a6T dC.lt CH;have gj:pb<w.heap.size:=hp.d2.2.2;have xi:=hp.lt;clear dC gn jb dZ hk iT hp
 go_wp2_with fail
 have BF:∀ o,SP (w1.alloc o) pb tb T k vars (d+1):=(by grind [dT,SP.ext,Hid.out]);have BG:∀ o,(w1.alloc o).heap[w.heap.size]?=_:=fun o=>dT (o:=o) mz.out;have BH:=fun o=>iz.out.alloc o;have BI:∀ o,(w1.alloc o).heap.size=w.heap.size+2:=(by grind [size_alloc,Hid.out]);have AL:=a3J BF;have KS:=a3J BG;have I2:=a3J BH;have I3:=a3J BI;clear BF BG BH BI;refine(qK (AL.out _) [45] HM.out zd).mono ?_;rintro e w2 ⟨rfl,rfl⟩
 go_wp2_with fail
 refine(qK (AL.out _) [40] HN.out zd).mono ?_;rintro e w2 ⟨rfl,rfl⟩
 go_wp2_with fail
 refine(vA (AL.out _) [91] HL.out).mono ?_;rintro e w2 ⟨rfl,fi,eY⟩;have iU:=a3J fi;have pY:=eY.size;rw[I3.out] at pY;have XR:=a3J (eY.bL (KS.out _) zo zd);have fR:=a3J ((I2.out _).trans eY);clear fi eY
 go_wp2_with fail
 refine(adl.go iU.out zo HR.out).mono ?_;cases r with
 | err c0 a0=>
  rintro e w4 ⟨⟨b,rfl,eO,gF⟩,dV,gO⟩;exact tZ gj gO (by grind [db.bL,Hid.out]) ⟨b,J,eO,zo⟩ (fR.out.trans dV)
 | ok x k' vs=>
  rintro e w4 ⟨v,rfl,hv,j7,eA⟩;have HV:=a3J hv;have ud:=a3J j7;have ue:=a3J eA;clear hv j7 eA
  go_wp2_with fail
  refine yY (j:=2) KF J gj ud.out zo (by grind [db.bL,Hid.out]) ?_ (fR.out.trans ue.out);exact eQ.mono zg zg _ _ HV.out
def aEd(adm:IS f)(hp:SP w pb tb T k vars d)(hd:d+1<=8)
  (hk:(tk T k).kind=0\/(tk T k).kind=4) (hm:ee T k [45]=ae) (hn:ee T k [40]=G)
  {r:cr Ex} (hr:jf T f 0 (k+1) vars (d+1)=O r) {q:cr Ex} (hq:cr.bind (O r) (fun x k' vars'=>mW T [41] x k' vars')=O q) :
  Calls bdD 117 #[pp pb] w (j6 eQ pb tb T d w (q)):=by
 have HM:=a3J hm;have HN:=a3J hn;have HR:=a3J hr;have HQ:=a3J hq;clear hm hn hr hq;have H:=a3J hp
 go_enter_defers func117,ntmps117
 go_wp2_with fail
 refine(AE H.out hd).mono ?_;rintro e w1 ⟨rfl,dZ,jb,dC,gn⟩;have mz:=a3J jb;have iz:=a3J gn;have kH:=a3J dC;have nY:=a3J dZ;obtain⟨n,c,h0,l1,l2,-,l3,l4⟩:=dC.l0;obtain⟨t0,t1,t2⟩:=dC.toks.at dC.kt;obtain⟨kd,iT⟩:∃ kd:Int,kd=((tk T k).kind:Int):=⟨_,J⟩;rw[<- iT] at t0;have k1:(kd == 1)=false:=zg;have k2:(kd == 2)=false:=zg;have k3:(kd == 3)=false:=zg;have CH:pb<w1.heap.size:=dC.d2.2.2;have xW:tb<w1.heap.size:=a6T dC.lt CH;have gj:pb<w.heap.size:=hp.d2.2.2;have xi:=hp.lt;clear dC gn jb dZ hk iT hp
 go_wp2_with fail
 have BF:∀ o,SP (w1.alloc o) pb tb T k vars (d+1):=(by grind [dT,SP.ext,Hid.out]);have BG:∀ o,(w1.alloc o).heap[w.heap.size]?=_:=fun o=>dT (o:=o) mz.out;have BH:=fun o=>iz.out.alloc o;have BI:∀ o,(w1.alloc o).heap.size=w.heap.size+2:=(by grind [size_alloc,Hid.out]);have AL:=a3J BF;have KS:=a3J BG;have I2:=a3J BH;have I3:=a3J BI;clear BF BG BH BI;refine(qK (AL.out _) [45] HM.out zd).mono ?_;rintro e w2 ⟨rfl,rfl⟩
 go_wp2_with fail
 refine(vA (AL.out _) [40] HN.out).mono ?_;rintro e w2 ⟨rfl,fi,eY⟩;have iU:=a3J fi;have pY:=eY.size;rw[I3.out] at pY;have XR:=a3J (eY.bL (KS.out _) zo zd);have fR:=a3J ((I2.out _).trans eY);clear fi eY
 go_wp2_with fail
 refine(adm.go iU.out zo HR.out).mono ?_;cases r with
 | err c0 a0=>
  rintro e w4 ⟨⟨b,rfl,eO,gF⟩,dV,gO⟩;have e:=HQ.out;simp only[cr.bind,a3I] at e;subst e;exact tZ gj gO (by grind [db.bL,Hid.out]) ⟨b,J,eO,zo⟩ (fR.out.trans dV)
 | ok x k' vs=>
  rintro e w4 ⟨v,rfl,hv,j7,eA⟩;have HV:=a3J hv;have ud:=a3J j7;have ue:=a3J eA;have HB4:=a3J (eA.bL XR.out zo zd);have Bx:=eA.size;clear hv j7 eA
  go_wp2_with fail
  have hq:=HQ.out;simp only[cr.bind,mW] at hq;by_cases hc:ee T k' [41]=G
  .rw[zip hc,a3I] at hq;subst hq;refine(Tw ud.out [41] hc).mono ?_;rintro e w7 ⟨rfl,ng,BE⟩;have HP7:=a3J ng;have KR:=a3J BE;clear ng BE hc
   go_wp2_with fail
   have hz7:=KR.out.size;refine yY (j:=2) KF J gj HP7.out zo (by grind [db.bL,Hid.out]) ?_ ((fR.out.trans ue.out).trans KR.out);exact KF _ _ _ _ _ _ _ HV.out KR.out zg
  .rw[bU hc,a3I] at hq;subst hq;refine(Tx ud.out [41] zg zd).mono ?_;rintro e w7 ⟨⟨b,rfl,eO,gF⟩,dV,gO⟩;exact tZ gj gO (by grind [db.bL,Hid.out]) ⟨b,J,eO,zo⟩ ((fR.out.trans ue.out).trans dV)
abbrev FD(w:Z)(x:Nat)(a b c:Y):Z:=((w.setCell ⟨x,0,V⟩ a).setCell ⟨x,1,V⟩ b).setCell ⟨x,2,V⟩ c
def amw(w:Z)(x:Nat)(a b c:Y):(FD w x a b c).heap.size=w.heap.size:=by grind [size_setCell]
theorem adn{x y:Nat}(h:y≠x)(a b c:Y):(FD w x a b c).heap[y]?=w.heap[y]?:=by
 grind [blk_setCell_other]
def SP.FD{w:Z}{pb tb x:Nat}{T:List P.Tok}{k:Nat}{vars:List Bs}{d:Nat}{cs:Array Y}{t:TypeId}{z:Nat×Nat}(h:SP w pb tb T k vars d)
  (hx:w.heap[x]?=O (ah cs t z)) (ht:t≠9) (e:x≠pb) (f:tb<x) (a b c:Y):SP (FD w x a b c) pb tb T k vars d:=
 ((h.setOther hx ht e f a).setOther (Bm hx a) ht e f b).setOther (Bm (Bm hx a) b) ht e f c
def bD.FD{M:Nat->Obj->Prop}{a b:Z}(h:bD M a b){x:Nat}(hx:a.heap.size<=x)(u v s:Y):bD M a (FD b x u v s):=
 (by grind [Na])
def aEe(hp:SP w pb tb T k vars d)(hd:d+1<=8)
  (hk:(tk T k).kind=0\/(tk T k).kind=4) (hm:ee T k [45]=G) (hn:(tk T (k+1)).kind≠3) :
  Calls bdD 117 #[pp pb] w (j6 eQ pb tb T d w (.err 2 (tk T (k+1)).pos)):=by
 have HM:=a3J hm;have HN:=a3J hn;clear hm hn;have H:=a3J hp
 go_enter_defers func117,ntmps117
 go_wp2_with fail
 refine(AE H.out hd).mono ?_;rintro e w1 ⟨rfl,dZ,jb,dC,gn⟩;have mz:=a3J jb;have iz:=a3J gn;have kH:=a3J dC;have nY:=a3J dZ;obtain⟨n,c,h0,l1,l2,-,l3,l4⟩:=dC.l0;obtain⟨t0,t1,t2⟩:=dC.toks.at dC.kt;obtain⟨kd,iT⟩:∃ kd:Int,kd=((tk T k).kind:Int):=⟨_,J⟩;rw[<- iT] at t0;have k1:(kd == 1)=false:=zg;have k2:(kd == 2)=false:=zg;have k3:(kd == 3)=false:=zg;have CH:pb<w1.heap.size:=dC.d2.2.2;have xW:tb<w1.heap.size:=a6T dC.lt CH;have gj:pb<w.heap.size:=hp.d2.2.2;have xi:=hp.lt;clear dC gn jb dZ hk iT hp
 go_wp2_with fail
 have BF:∀ o,SP (w1.alloc o) pb tb T k vars (d+1):=(by grind [dT,SP.ext,Hid.out]);have BG:∀ o,(w1.alloc o).heap[w.heap.size]?=_:=fun o=>dT (o:=o) mz.out;have BH:=fun o=>iz.out.alloc o;have BI:∀ o,(w1.alloc o).heap.size=w.heap.size+2:=(by grind [size_alloc,Hid.out]);have AL:=a3J BF;have KS:=a3J BG;have I2:=a3J BH;have I3:=a3J BI;clear BF BG BH BI;have uL:∀ o,(w1.alloc o).heap[w1.heap.size]?=O o:=(by grind [blk_alloc_new]);refine(vA (AL.out _) [45] HM.out).mono ?_;rintro e w2 ⟨rfl,fi,eY⟩;have dZ:=nY.out;have pY:=eY.size;rw[I3.out] at pY;have fh:=eY.bL (uL _) zo zd;have y0:=jV fh 0;have y1:=jV fh 1;have y2:=jV fh 2;have c0:w2.cell? ⟨w1.heap.size,0,V⟩=O (zi kd):=cellOf fh J;have c1:w2.cell? ⟨w1.heap.size,1,V⟩=O (aW ((tk T k).text)):=cellOf fh J;have c2:w2.cell? ⟨w1.heap.size,2,V⟩=O (zi (tk T k).pos):=cellOf fh J;have iU:=a3J fi;have TF:=a3J fh;have XR:=a3J (eY.bL (KS.out _) zo zd);have fR:=a3J ((I2.out _).trans eY);have adf:pb<w2.heap.size:=zo;have aEg:tb<w2.heap.size:=zo;have aEh:w1.heap.size<w2.heap.size:=zo;have q1:¬ w1.heap.size=pb:=zo;have q2:¬ w1.heap.size=tb:=zo;have q3:¬ pb=w1.heap.size:=zo;have q4:¬ tb=w1.heap.size:=zo;obtain⟨n2,cc2,g0,g1,g2,-,g3,g4⟩:=fi.l0;obtain⟨u0,u1,u2⟩:=fi.toks.at fi.kt;obtain⟨kd2,amx⟩:∃ kd:Int,kd=((tk T (k+1)).kind:Int):=⟨_,J⟩;rw[<- amx] at u0;have k32:(kd2 != 3)=true:=by simp;have:=HN.out;omega
 clear fi eY fh dZ uL amx h0 t0 t1 t2
 go_wp2_with fail
 refine(Tv (iU.out.FD TF.out zd q1 zo _ _ _)).mono ?_;rintro e w3 ⟨⟨b,rfl,eO,gF⟩,dV,gO⟩;rw[amw] at gF;have dZ:=nY.out;exact tZ gj gO (by grind [adn,trans,db.bL,Hid.out]) ⟨b,J,eO,zo⟩ ((fR.out.FD zo _ _ _).trans dV)
def aEj(hint:XF)(hp:SP w pb tb T k vars d)(hd:d+1<=8)
  (hk:(tk T k).kind=0\/(tk T k).kind=4) (hm:ee T k [45]=G) (hn:(tk T (k+1)).kind=3) :
  Calls bdD 117 #[pp pb] w (j6 eQ pb tb T d w (.ok (.mk 110 [] (- P.num (tk T (k+1)).text) 0 []) (k+2) vars)):=by
 have HM:=a3J hm;have HN:=a3J hn;clear hm hn;have H:=a3J hp
 go_enter_defers func117,ntmps117
 go_wp2_with fail
 refine(AE H.out hd).mono ?_;rintro e w1 ⟨rfl,dZ,jb,dC,gn⟩;have mz:=a3J jb;have iz:=a3J gn;have kH:=a3J dC;have nY:=a3J dZ;obtain⟨n,c,h0,l1,l2,-,l3,l4⟩:=dC.l0;obtain⟨t0,t1,t2⟩:=dC.toks.at dC.kt;obtain⟨kd,iT⟩:∃ kd:Int,kd=((tk T k).kind:Int):=⟨_,J⟩;rw[<- iT] at t0;have k1:(kd == 1)=false:=zg;have k2:(kd == 2)=false:=zg;have k3:(kd == 3)=false:=zg;have CH:pb<w1.heap.size:=dC.d2.2.2;have xW:tb<w1.heap.size:=a6T dC.lt CH;have gj:pb<w.heap.size:=hp.d2.2.2;have xi:=hp.lt;clear dC gn jb dZ hk iT hp
 go_wp2_with fail
 have BF:∀ o,SP (w1.alloc o) pb tb T k vars (d+1):=(by grind [dT,SP.ext,Hid.out]);have BG:∀ o,(w1.alloc o).heap[w.heap.size]?=_:=fun o=>dT (o:=o) mz.out;have BH:=fun o=>iz.out.alloc o;have BI:∀ o,(w1.alloc o).heap.size=w.heap.size+2:=(by grind [size_alloc,Hid.out]);have AL:=a3J BF;have KS:=a3J BG;have I2:=a3J BH;have I3:=a3J BI;clear BF BG BH BI;have uL:∀ o,(w1.alloc o).heap[w1.heap.size]?=O o:=(by grind [blk_alloc_new]);refine(vA (AL.out _) [45] HM.out).mono ?_;rintro e w2 ⟨rfl,fi,eY⟩;have dZ:=nY.out;have pY:=eY.size;rw[I3.out] at pY;have fh:=eY.bL (uL _) zo zd;have y0:=jV fh 0;have y1:=jV fh 1;have y2:=jV fh 2;have c0:w2.cell? ⟨w1.heap.size,0,V⟩=O (zi kd):=cellOf fh J;have c1:w2.cell? ⟨w1.heap.size,1,V⟩=O (aW ((tk T k).text)):=cellOf fh J;have c2:w2.cell? ⟨w1.heap.size,2,V⟩=O (zi (tk T k).pos):=cellOf fh J;have iU:=a3J fi;have TF:=a3J fh;have XR:=a3J (eY.bL (KS.out _) zo zd);have fR:=a3J ((I2.out _).trans eY);have adf:pb<w2.heap.size:=zo;have aEg:tb<w2.heap.size:=zo;have aEh:w1.heap.size<w2.heap.size:=zo;have q1:¬ w1.heap.size=pb:=zo;have q2:¬ w1.heap.size=tb:=zo;have q3:¬ pb=w1.heap.size:=zo;have q4:¬ tb=w1.heap.size:=zo;have gL:=fi.FD fh zg q1 zo (zi 3) (aW ((tk T (k+1)).text)) (zi (tk T (k+1)).pos);obtain⟨n2,cc2,g0,f0,g5,g1,g2,g3,g4,j7,eA⟩:=gL.on (by rw[HN.out];decide);have e0:w2.cell? ⟨pb,0,V⟩=O (.slice (O ⟨tb,(k+1)*3,V⟩) n2 cc2):=by
  grind [World.cell?_of_block,adn]
 have e1:w2.frozen? ⟨pb,0,V⟩=false:=by
  obtain⟨_,_,_,_,q,_⟩:=fi.yV;exact jV q 0
 obtain⟨u0,u1,u2⟩:=fi.toks.at fi.kt;have xS:=fi.tw.digits _ (KC fi.kt) HN.out;rw[HN.out] at u0;have e2:(k+1)*3=k*3+3:=zo;rw[e2] at e0 u0 u1 u2;have oF:SP ((FD w2 w1.heap.size (zi 3) (aW ((tk T (k+1)).text)) (zi (tk T (k+1)).pos)).setCell ⟨pb,0,V⟩ (.slice (O ⟨tb,k*3+3+3,V⟩) (n2-1) (cc2-1)))
   pb tb T (k+1+1) vars (d+1):=zg
 have ud:=a3J oF;have HDG:=a3J xS;have HE2:=a3J e2;have nb:=abp xS.2.1 xS.2.2;obtain⟨nb1,nb2⟩:=nb;clear fi eY fh dZ uL h0 t0 t1 t2 gL j7 eA xS g0 f0 g5 e2 oF
 go_wp2_with fail
 refine(hint.go _ HDG.out.1 HDG.out.2.1 HDG.out.2.2).mono ?_;rintro e w3 ⟨rfl,TI⟩;have NI:=a3J TI;clear TI
 go_wp2_with fail
 have dZ:=nY.out;have hz:=NI.out.size;rw[size_setCell,amw] at hz;refine yY (j:=2) KF J gj (by grind [dT,SP.ext,Hid.out,bD.ext]) zo
  (by grind [dT,blk_setCell_other,trans,adn,bD.ext,Hid.out]) ?_
  ((((fR.out.FD zo _ _ _).trans (db.G1 (bD.refl _ _) _)).trans NI.out.toM).alloc _)
 exact KG (by grind [size_alloc]) (blk_alloc_new _ _)
def aEk:TA 0:=⟨fun _ _ h=>by simp [oU] at h⟩
def aEl(t:Qj f)(g:IS f)(i:TB f)(u:acZ)(hint:XF):TA (f+1):=by
 refine⟨fun{pb tb T k vars d w r} a x h=>?_⟩;rw[oU] at h;by_cases j:P.maxDepth<d+1
 .rw[zip j,a3I] at h;subst h;exact aD1 a j x
 rw[bU j] at h;have b:d+1<=8:=by grind [P.maxDepth]
 by_cases l:(tk T k).kind=3
 .rw[zip l,a3I] at h;subst h;exact aD2 hint a b l
 rw[bU l] at h;by_cases m:(tk T k).kind=2
 .rw[zip m,a3I] at h;subst h;exact aD3 u a b m
 rw[bU m] at h;by_cases e:(tk T k).kind=1
 .rw[zip e] at h;by_cases n:ee T (k+1) [40]=G
  .rw[zip n] at h;cases hr:oV T f (k+2) vars (d+1) (tk T k).pos [] with
   | none=>rw[hr] at h;simp [cr.bind] at h
   | some q=>rw[hr] at h;exact aD5 t a b e n hr h
  .rw[bU n,a3I] at h;subst h;exact aD4 a b e zg
 rw[bU e] at h;have hk:(tk T k).kind=0\/(tk T k).kind=4:=by have:=a.tw.kind _ (KC a.kt);omega
 by_cases hm:ee T k [45]=G
 .rw[zip hm] at h;by_cases c:(tk T (k+1)).kind=3
  .rw[zip c,a3I] at h;subst h;exact aEj hint a b hk hm c
  .rw[bU c,a3I] at h;subst h;exact aEe a b hk hm c
 rw[bU hm] at h;have o:ee T k [45]=false:=zg;by_cases c:ee T k [40]=G
 .rw[zip c] at h;cases hr:jf T f 0 (k+1) vars (d+1) with
  | none=>rw[hr] at h;simp [cr.bind] at h
  | some q=>rw[hr] at h;exact aEd g a b hk o c hr h
 rw[bU c] at h;have s:ee T k [40]=false:=zg;by_cases p:ee T k [91]=G
 .rw[zip p] at h;exact aEc i a b hk o s p h
 rw[bU p,a3I] at h;subst h;exact aEb a b hk o s zg
