/- A part of one proof (SList, SPrim, SPrim2, SPrim3, SPrim4, SPrim5). -/
import Derived.Test.YtoegidfbnkaabaaGreatDoorPkJAF
import Derived.Deep.Cut
set_option linter.all false
set_option maxRecDepth 100000
set_option maxHeartbeats 8000000
open Option renaming some → O, none → V
open Go renaming Value → Y, World → Z
open Bool renaming true → A, false → G
open Go.Obj renaming cells → ae
open Go.Ending renaming returned → ah
open Go.Value renaming tuple → ak
open Option.some renaming injEq → aZG
open Go.Lib renaming hid → aZH
open And renaming intro → aZI
open List renaming length_cons → aZQ, length_nil → aZ5
open Go.Value renaming slice → aZT, pointer → a0s
open Go.Obj renaming cells → a0i
open Nat renaming lt_trans → a2J
open Array renaming replicate_zero → a3a, replicate_succ → a3b
open Go.Fence renaming wide → a3u
open Go.World renaming setCell_alloc_past → a3I
open Go.Proofs.Tryz renaming prog → a9u
open Go.Proofs.Tryz
namespace Go.Proofs.YtoegidfbnkaabaaGreatDoor
open P
open Go.RowKit
variable{B bx cap d f g k n pb tb:Nat}{R:Ending->Z->Prop}{T:List P.Tok}{W w w0:Z}{bl:List Nat}{fn:Func}{v:Y}{iB:Array Y}{vars:List Bs}
def ajA{P:Program}{f:FuncId}{c:Code}{args:Array Y}
  (a:P.funcs[f]?=O fn) (b:fn.body=O c)
  (h:c.wp P (bodyPostM a3u 3 P fn R) { tmps:=args++Array.replicate (fn.ntmps-args.size) undef,defers:=[] } w):Calls P f args w R:=
 callsIn_wide.1 (callsIn_of_wp_marks (n:=3) a b trivial (wpIn_wide.2 h) J)
def aA9{P:Program}{tmps:Array Y}(hr:(results fn tmps).run P w = .ok v w)(a:R (ah v) w) :
 bodyPostM a3u 3 P fn R .ret { tmps:=tmps,defers:=[] } w:=⟨v,hr,a⟩
def aBa(hp:SP w pb tb T k vars d)(hc:eh T k [93]=A) :
  Calls a9u 142 #[pp pb] w (jN eL pb tb T d w (.ok (.mk 97 [91,93] 0 0 []) (k+1) vars)):=by
 have dD:=aZH (hp.ext (w':=w.alloc (a0i #[.int .u8 97,aT [91,93],zi 0,zi 0,bV] 178)) (by grind [dQ]));have HC:=aZH hc;have fY:=hp.d2.2.2;clear hp hc;refine ajA func142 J ?_;simp only[ntmps142,List.size_toArray,aZQ,aZ5,Nat.reduceAdd,Nat.reduceSub,a3b,a3a,List.push_toArray,List.append_toArray,List.nil_append,List.cons_append]
 go_wp2_with fail
 refine(uE dD.out [93] HC.out).mono ?_;rintro e w3 ⟨rfl,gH,dU⟩;have tK:=aZH gH;have nR:=aZH dU;clear gH dU
 go_wp2_with fail
 refine aA9 (results_tmp J _ _ _) ⟨_,J,?_,tK.out,((bB.refl _ _).alloc _).trans nR.out⟩;have hz:=nR.out.size;rw[size_alloc] at hz;exact JG zg (by grind [cZ.bH,blk_alloc_new,Hid.out])
abbrev JP:Obj:=ae #[.int .u8 97,.string (bs [91,93]),zi 0,zi 0,.slice V 0 0] 178
def LJ(pb tb:Nat)(T:List P.Tok)(d:Nat)(w0:Z)(c:cj (List Ex))(n:Nat)(a:Act)(w:Z):Prop:=
 ∃ (acc:List Ex) (k:Nat) (vs:List Bs) (xs:List Y) (sl e f g h i u8 j l m o p q r u16 s t u x y z B C D E F H I K L u32 M N Q R S U W:Y),a={ tmps:=#[pp pb,e,f,pp w0.heap.size,sl,g,h,i,u8,j,l,m,o,p,q,r,u16,s,t,u,x,y,z,B,C,D,E,F,H,I,K,L,u32,M,N,Q,R,S,U,W],defers:=[] } /\
  w.ownsRow w0.heap.size 106 1 sl acc.length xs/\eO (fun b=>Nu w0 w b/\sl.ownBlock≠O b) w xs acc/\SP w pb tb T k vs d/\cZ pb w0 w/\0<acc.length/\acc.length<=k /\
  w.heap[w0.heap.size]?=O JP/\(if eh T k [44] then rK T n (k+1) vs d acc else O (.ok acc k vs))=O c
noncomputable def ajB:Code:=match Tryz.f142.body with
 | some (.seq _ (.seq _ (.seq _ (.seq _ (.seq _ (.seq _ (.seq _ c)))))))=>c
 | _=>.skip
noncomputable def aBc:Code:=match ajB with | .seq c _=>c | _=>.skip
noncomputable def aBd:Code:=match ajB with | .seq _ c=>c | _=>.skip
theorem aa7{B:Z}{row:Option Nat}(c:W.grownBy B row)(hr:∀ r,row=O r->∃ o:Obj,W.heap[r]?=O o/\o.isCells=G)(b:Nat)(cs:Array Y)(t:TypeId)(z:Nat×Nat)
  (h:W.heap[b]?=O (ae cs t z)):B.heap[b]?=O (ae cs t z):=by
 rw[c.block b (bg h) (fun e=>by
  obtain⟨o,a,d⟩:=hr b e.symm;rw[h] at a;cases a;cases d)]
 omega
theorem ajC{o a:Obj}(b:a=o)(h:n=w.heap.size):(w.alloc o).heap[n]?=O a:=by grind [blk_alloc_new]
def LI(pb tb:Nat)(T:List P.Tok)(k:Nat)(vs:List Bs)(d X:Nat)(w0:Z)(bl:List Nat)(acc:List Ex)(x:Ex)(pre:List (Nat×Nat))(W:Z):Prop:=
 SP W pb tb T k vs d/\cZ pb w0 W/\eO (fun b=>Nu w0 W b/\b≠X) W (bl.map (fun b=>a0s (O ⟨b,0,V⟩))) acc/\X<W.heap.size /\
 ∃ bv,W.heap[X]?=aM #[pp bv] 106 /\
  (pre=Hr bl pre.length->pre.length<=acc.length->eL (fun b=>Nu w0 W b/\b≠X) W (pp bv) (CU (acc.drop (acc.length-pre.length)) x))
def LI.own{vs:List Bs}{X:Nat}{acc:List Ex}{x:Ex}(n:w0.heap.size<=B) :
  OwnFrom B (LI pb tb T k vs d X w0 bl acc x):=by
 rintro pre W f row ⟨g,p,h,q,bv,s,i⟩ c hr;have j:=aa7 c (fun r e=>(hr r e).2);have l:∀ (b:Nat) (o:Obj),C5 o->W.heap[b]?=O o->f.heap[b]?=O o:=fun b o m u=>by
  obtain⟨cs,t,z,rfl⟩:=aAO m;grind
 have w:=c.size;refine⟨g.aAN j,(by grind [Nat.le_trans,bB.OE]),?_,zo,bv,zg,fun a b=>?_⟩
 .exact eO.mono zg zg _ _ h
 .exact eL.mono zg zg _ _ (i a b)
def aBe{acc:List Ex}{x:Ex}(b:n<acc.length) :
  CU (acc.drop (acc.length-(n+1))) x = .mk 99 [46] 0 0 [acc[acc.length-1-n],CU (acc.drop (acc.length-n)) x]:=by
 have e:acc.length-(n+1)=acc.length-1-n:=zo;have a:acc.length-n=acc.length-1-n+1:=zo;rw[e,a,List.drop_eq_getElem_cons zo];rfl
theorem LI.step{vs:List Bs}{X:Nat}{acc:List Ex}{x:Ex}{pre:List (Nat×Nat)}{y:Nat×Nat}(w:bl.length=acc.length)
  (z:w0.heap.size<=X) (B:pb<w0.heap.size) (h:LI pb tb T k vs d X w0 bl acc x pre W) (bv:Nat) (C:W.heap[X]?=aM #[pp bv] 106) :
  LI pb tb T k vs d X w0 bl acc x (pre++[y])
   (((W.alloc (ae #[pp y.2,pp bv] 106)).alloc (ae #[.int .u8 99,aT [46],zi 0,zi 0,cR W.heap.size 2 2] 178)).setCell ⟨X,0,V⟩ (pp (W.heap.size+1))):=by
 obtain⟨i,j,f,D,a,l,m⟩:=h;have:a=bv:=by
  grind
 subst this;generalize hr:(a0i #[pp y.2,pp a] 106)=row at *;generalize E:(a0i #[.int .u8 99,aT [46],zi 0,zi 0,cR W.heap.size 2 2] 178)=node at *;have n:((W.alloc row).alloc node).heap[X]?=_:=dQ (dQ l);have F:(((W.alloc row).alloc node).setCell ⟨X,0,V⟩ (pp (W.heap.size+1))).heap.size=W.heap.size+2:=by grind [size_setCell,size_alloc]
 have hk:∀ (b:Nat) (o:Obj),b≠X->((W.alloc row).alloc node).heap[b]?=O o->(((W.alloc row).alloc node).setCell ⟨X,0,V⟩ (pp (W.heap.size+1))).heap[b]?=O o:=(by grind [blk_setCell_other]);have p:∀ (b:Nat) (o:Obj),b≠X->W.heap[b]?=O o->(((W.alloc row).alloc node).setCell ⟨X,0,V⟩ (pp (W.heap.size+1))).heap[b]?=O o:=(by grind [dQ]);have hlt:=i.lt;refine⟨(by grind [dQ,SP.setOther,SP.ext]),(by grind [bB.LF,bB.alloc]),?_,zo,W.heap.size+1,by rw[Az n];rfl,fun c q=>?_⟩
 .exact eO.mono zg zg _ _ f
 .simp only[List.length_append,aZQ,aZ5,Nat.zero_add] at c q ⊢;rw[ajp] at c;obtain⟨r,H⟩:=List.append_inj' c J;have I:y=(bl.length-1-pre.length,bl.getD (bl.length-1-pre.length) 0):=zg;rw[aBe zo];have hx:=m r zo;have s:acc.length-1-pre.length<acc.length:=zo;have g:=f.get (acc.length-1-pre.length) s;have t:y.2=bl.getD (acc.length-1-pre.length) 0:=zg;rw[<- t] at g;have u:w0.heap.size<=W.heap.size:=j.size;have e:W.heap.size≠X:=zo;refine aaY zg (by grind [ajC,size_alloc]) (aaZ zg (hk _ _ e (dQ (ajC hr J))) ?_ ?_)
  .exact eL.mono zg zg _ _ g
  .exact eL.mono zg zg _ _ hx
def ajE{vs:List Bs}{nb X:Nat}{acc:List Ex}{x:Ex}{r:cj Ex}(u1 u2 u6 u7 u8 u9 ym yn yo vI vJ yp u16 yq yr BI BJ BK BL BM BN BO BP BQ Dc Dd De Hs u32 Ht AL Ev FZ F0 Md Me:Y)
  (hp:SP w pb tb T k vs d) (hf:cZ pb w0 w) (fY:pb<w0.heap.size) (RR:w0.heap.size<=X) (VT:g≠X) (hL:acc.length<=3000) (oK:bl.length=acc.length) (xi:pb<g)
  (hXb:w.heap[X]?=aM #[pp bx] 106) (hx:eL (fun b=>Nu w0 w b/\b≠X) w (pp bx) x)
  (hg:w.heap[g]?=aM iB 106) (AO:∀ j,j<bl.length->iB[j]?=O (pp (bl.getD j 0)))
  (lR:eO (fun b=>Nu w0 w b/\b≠X) w (bl.map (fun b=>a0s (O ⟨b,0,V⟩))) acc)
  (hr:mW T [93] (CU acc x) k vs=O r)
  (K:Act->Z->Prop) (hK:∀ a w,aBd.wp a9u (bodyPostM a3u 3 a9u Tryz.f142 (jN eL pb tb T d w0 r)) a w->K a w) :
  aBc.wp a9u (Exit.then K (bodyPostM a3u 3 a9u Tryz.f142 (jN eL pb tb T d w0 r))) { tmps:=#[pp pb,u1,u2,pp nb,cR g acc.length cap,pp X,u6,u7,u8,u9,ym,yn,yo,vI,vJ,yp,u16,yq,yr,BI,BJ,BK,BL,BM,BN,BO,BP,BQ,Dc,Dd,De,Hs,u32,Ht,AL,Ev,FZ,F0,Md,Me],defers:=[] } w:=by
 change ∀ a w,Code.wp _ (Code.seq _ _) _ a w->_ at hK;have H:=aZH hp;have HF:=aZH hf;have HX:=aZH hXb;have HE:=aZH hx;have HG:=aZH hg;have HC:=aZH AO;have HXS:=aZH lR;have HR:=aZH hr;have JQ:=aZH oK;have Ey:=hf.size;have VU:=bg hXb;clear hp hf hXb hx hg AO lR hr oK;change Code.wp _ (Code.region _ _ _) _ _ _
 go_wp2_with fail
 have hq:=HR.out;rw[mW] at hq;by_cases hc:eh T k [93]=A
 .rw[zip hc,aZG] at hq;subst hq;refine(RF H.out [93] hc).mono ?_;rintro e w1 ⟨rfl,dD,gi⟩;have kh:=aZH dD;have im:=aZH gi;clear dD gi hc HR
  go_wp2_with fail
  refine(backward _ _ _ _).mono ?_;rintro e w2 ⟨rfl,rfl⟩;have oZ:=im.out.size;have L7:w1.heap[X]?=_:=cZ.bH im.out HX.out zo zd;have tL:w1.heap[g]?=_:=cZ.bH im.out HG.out zo zd;have hI0:LI pb tb T (k+1) vs d X w0 bl acc x [] (w1.alloc (ae #[cR g acc.length cap] 83)):=by
   refine⟨kh.out.ext (by grind [dQ]),(HF.out.trans im.out).alloc _,?_,by grind [size_alloc],bx,dQ L7,fun _ _=>?_⟩
   .exact eO.mono (by grind [size_alloc]) (by grind [dQ,cZ.kX,Hid.out]) _ _ HXS.out
   .simp only[aZ5,Nat.sub_zero,List.drop_length];exact eL.mono (by grind [size_alloc]) (by grind [dQ,cZ.kX,Hid.out]) _ _ HE.out
  have hB:(w1.alloc (ae #[cR g acc.length cap] 83)).heap[w1.heap.size]?=_:=blk_alloc_new _ _;have hgB:(w1.alloc (ae #[cR g acc.length cap] 83)).heap[g]?=_:=dQ tL;have aa9:w0.heap.size<=(w1.alloc (ae #[cR g acc.length cap] 83)).heap.size:=zg;have HI:=aZH hI0;have HB:=aZH hB;have HGB:=aZH hgB;have HS2:=aZH aa9;clear hI0 hB hgB aa9 L7 tL
  go_wp2_with fail
  have L7:X<w1.heap.size:=zo;refine(wpIn_wide (n:=3)).1 (wpIn_rangeFunc_ownF (F:=a3u) (n:=3) J zo (gf:=175) (lb:=#[pp w1.heap.size]) J trivial (enters_of func175 zk J)
   (aAU a3u 2 trivial J zo w1.heap.size g cap X bl zo VT (by rw[JQ.out];omega) _ (by rw[JQ.out];exact HB.out) iB HGB.out HC.out) (by grind [JH.trans])
   (fun W l o o' _ hl ho _ b cs t z _ hb=>(by grind [aa7,grownBy_putObj'])) (Below.refl _ _) zg
   (LI pb tb T (k+1) vs d X w0 bl acc x) (fun _ _ _=>False) (LI.own HS2.out) (fun c s W W' row h=>h.elim) HI.out
   (fun y=>{ tmps:=#[pp pb,u1,u2,pp nb,cR g acc.length cap,pp X,u6,pp y.2,u8,u9,ym,yn,yo,vI,vJ,yp,u16,yq,yr,BI,BJ,BK,BL,BM,BN,BO,BP,BQ,pp pb,ak #[],cR g acc.length cap,.func (.func 175) #[] #[pp w1.heap.size],zi (y.1:Int),pp y.2,AL,Ev,FZ,F0,Md,Me],defers:=[] }) ?assign ?body ?done ?stop)
  case assign=>
   intro l y W K hK
   gi_wp2_with (rw[Oper.semAt_eq _ _ _ (fun c h=>by cases h)];go_simp;try go_bits)
   omega
  case body=>
   intro l pre y W hI hlen;obtain⟨bv,mn,-⟩:=hI.2.2.2.2;have mO:W.cell? ⟨X,0,V⟩=O (pp bv):=cellOf mn J;have F4:=jH mn 0;have hXW:=hI.2.2.2.1;have EB:=LI.step (y:=y) JQ.out RR fY hI bv mn;rw[a3I _ _ _ _ (by rw[size_alloc];omega),a3I _ _ _ _ hXW] at EB;have HST:=aZH EB;clear hI EB mn
   gi_wp2_with (rw[Oper.semAt_eq _ _ _ (fun c h=>by cases h)];go_simp;try go_bits)
   exact⟨(by grind [KeepsOthers.setCell,trans,KeepsOthers.alloc,KeepsOthers.trans]),fun b cs t z hb hc=>(by grind [dQ,blk_setCell_other]),HST.out⟩
  case done=>
   rintro D ys W hD rfl hI hK;have VV:=LI.own HS2.out _ W (W.putObj D (.deferred V)) (O D) hI (grownBy_putObj' W D _) (fun r e=>by cases e;exact⟨hD,_,hK,J⟩);obtain⟨bv,mn,-⟩:=hI.2.2.2.2;have mO:W.cell? ⟨X,0,V⟩=O (pp bv):=cellOf mn J;have hXW:=hI.2.2.2.1;have HBV:=aZH mn;have HII:=aZH VV;have HK:=aZH hK;clear hI VV mn hK
   go_wp2_with fail
   refine⟨zs,.inl ⟨_,_,J,run_takeDeferred HK.out,?_⟩⟩;refine⟨_,results_tmp J _ _ _,?_⟩;obtain⟨g1,g2,g3,g4,bv2,g5,g6⟩:=HII.out;have e5:=aa7 (grownBy_putObj' W D (.deferred V)) (fun r e=>by cases e;exact⟨_,HK.out,J⟩) _ _ _ _ HBV.out;have:bv2=bv:=by
    grind
   subst this;have e6:=g6 (by rw[VM]) (by rw[VM,JQ.out];omega);rw[VM,JQ.out,Nat.sub_self,List.drop_zero] at e6;exact⟨_,J,eL.mono zg zg _ _ e6,g1,g2⟩
  grind
 .rw[bZ hc,aZG] at hq;subst hq;refine(RG H.out [93] zg zd).mono ?_;rintro e w1 ⟨⟨b,rfl,eK,gn⟩,dU,gJ⟩;exact⟨⟨b,J,eK,zo⟩,HF.out.trans dU,gJ⟩
def aBl(Dg:∀ m,m<f+1->Ho m){r:cj Ex}(oI:SP w0 pb tb T k vars d)(hd:d<=8)
  (h:qV T (f+1) k vars d=O r):Calls a9u 142 #[pp pb] w0 (jN eL pb tb T d w0 r):=by
 rw[qV] at h;by_cases mO:eh T k [93]=A
 .rw[zip mO,aZG] at h;subst h;exact aBa oI mO
 rw[bZ mO] at h;cases zK:rK T f k vars d [] with
 | none=>rw[zK] at h;simp [cj.bind] at h
 | some re=>
 rw[zK] at h;cases f with
 | zero=>simp [rK] at zK
 | succ f=>
 rw[rK] at zK;have dD:=aZH (oI.ext (w':=w0.alloc JP) (by grind [dQ]));have HR:=aZH h;have Mf:=aZH zK;have xg:=oI.d2.2.2;have hT:=oI.tw.len;obtain⟨i0,hi,JK,JL,JM⟩:=info_parts ajn;have im:Hid (cZ pb w0 (w0.alloc JP)):=aZH ((bB.refl _ _).alloc _);clear oI h zK;refine ajA func142 J ?_;simp only[ntmps142,List.size_toArray,aZQ,aZ5,Nat.reduceAdd,Nat.reduceSub,a3b,a3a,List.push_toArray,List.append_toArray,List.nil_append,List.cons_append]
 go_wp2_with fail
 refine(pW dD.out [93] zg zd).mono ?_;rintro e w3 ⟨rfl,rfl⟩;clear mO
 go_wp2_with fail
 cases hq:jt T f 0 k vars d with
 | none=>have e:=Mf.out;rw[hq] at e;simp [cj.bind] at e
 | some q=>
 have e:=Mf.out;rw[hq] at e;refine((Dg f zo).go dD.out hd hq).mono ?_;cases q with
 | err c0 a0=>
  rintro e2 w4 ⟨⟨b,rfl,eK,gn⟩,dU,gJ⟩;simp only[cj.bind,aZG] at e;subst e;have hr:=HR.out;simp only[cj.bind,aZG] at hr;subst hr;exact⟨⟨b,J,eK,by grind [size_alloc]⟩,im.out.trans dU,gJ⟩
 | ok x k' vK=>
 rintro e2 w1 ⟨v,rfl,hv,fc,eV⟩;simp only[cj.bind] at e;obtain⟨bx,rfl,jy⟩:=hv.shape;have nu:=(P.mono T f).oper _ _ _ _ _ _ _ hq;have oZ:=eV.size;rw[size_alloc] at oZ;have zu:=cZ.bH eV (blk_alloc_new w0 JP) zo zg;have eP:(w1.alloc (ae #[pp bx] 106)).ownsRow w0.heap.size 106 1 (cR w1.heap.size 1 1) 1 [pp bx]:=
  ⟨J,.inr ⟨w1.heap.size,1,_,J,zo,blk_alloc_new _ _,Nat.le_refl _,zd,J,J⟩⟩
 have iV:eO (fun b=>Nu w0 (w1.alloc (ae #[pp bx] 106)) b/\(aZT (O ⟨w1.heap.size,0,V⟩) 1 1).ownBlock≠O b) (w1.alloc (ae #[pp bx] 106)) [pp bx] [x]:=by
  have:=eO.snoc (l:=[]) (vs:=[]) (F:=fun b=>Nu w0 (w1.alloc (ae #[pp bx] 106)) b/\(aZT (O ⟨w1.heap.size,0,V⟩) 1 1).ownBlock≠O b) (w:=w1.alloc (ae #[pp bx] 106)) (v:=pp bx) (x:=x)
   (eL.mono (fun b hb=>⟨(by grind [size_alloc]),fun e=>by injection e with e;grind⟩) (by grind [dQ]) _ _ hv) (by unfold eO;rfl)
  grind
 have RS:=aZH eP;have lS:=aZH iV;have iO:=aZH (fc.ext (w':=w1.alloc (ae #[pp bx] 106)) fun b o h=>dQ h);have fO:Hid (cZ pb w0 (w1.alloc (ae #[pp bx] 106))):=aZH ((im.out.trans eV).alloc _);have HN1:Hid ((w1.alloc (ae #[pp bx] 106)).heap[w0.heap.size]?=O JP):=aZH (dQ zu);have HE:=aZH e;have HK:=aZH nu;clear hv fc eV eP iV e hq jy zu Mf nu im dD
 go_wp2_with fail
 refine wp_loop_ghost (fun n a w=>n<=f/\LJ pb tb T d w0 re n a w) ⟨f,Nat.le_refl _,[x],k',vK,_,_,_,_,_,_,_,_,_,_,_,_,_,_,_,_,_,_,_,_,_,_,_,_,_,_,_,_,_,_,_,_,_,_,_,_,_,_,_,J,RS.out,lS.out,iO.out,fO.out,Nat.zero_lt_one,by have:=HK.out;simp;omega,HN1.out,by simpa using HE.out⟩ ?_;clear RS lS iO fO HK HN1 HE oZ;rintro n a w ⟨Zn,acc,k2,vs,xs,sl,u1,u2,u5,u6,u7,u8,u9,ym,yn,yo,vI,vJ,yp,u16,yq,yr,BI,BJ,BK,BL,BM,BN,BO,BP,BQ,Dc,Dd,De,Hs,u32,Ht,AL,Ev,FZ,F0,Md,Me,rfl,dR,lR,hp,hf,h0a,VS,zu,hr⟩;have Hv:=hp.kt;have hz:=hf.size;have BR:=hp.d2.2.2;obtain⟨g',qZ,rfl⟩:∃ g cap,sl = cR g acc.length cap:=by
  obtain⟨g1,g2 | ⟨g,cp,cur,e1,e2,e3,e4⟩⟩:=dR<;>grind
 have HO:=aZH dR;have HX:=aZH lR;have HP:=aZH hp;have HF:=aZH hf;have HN:=aZH zu;by_cases hc:eh T k2 [44]=A
 .rw[zip hc] at hr;cases n with
  | zero=>grind [rK]
  | succ n=>
  rw[rK] at hr;have zJ:=aZH hr;clear dR lR hp hf zu hr
  go_wp2_with fail
  refine(uE HP.out [44] hc).mono ?_;rintro e w2 ⟨rfl,fc,eV⟩;have iO:=aZH fc;have fO:=aZH eV;clear fc eV hc
  go_wp2_with fail
  cases hq:jt T n 0 (k2+1) vs d with
  | none=>have e:=zJ.out;rw[hq] at e;simp [cj.bind] at e
  | some q=>
  have e:=zJ.out;rw[hq] at e;refine((Dg n zo).go iO.out hd hq).mono ?_;cases q with
  | err c0 a0=>
   rintro e2 w4 ⟨⟨b,rfl,eK,gn⟩,dU,gJ⟩;simp only[cj.bind,aZG] at e;subst e;have hr:=HR.out;simp only[cj.bind,aZG] at hr;subst hr;have:=fO.out.size;exact⟨⟨b,J,eK,zo⟩,(HF.out.trans fO.out).trans dU,gJ⟩
  | ok x k' vK=>
  rintro e2 w3 ⟨v,rfl,hv,gH,dU⟩;simp only[cj.bind] at e;obtain⟨bx,rfl,jy⟩:=hv.shape;have nu:=(P.mono T n).oper _ _ _ _ _ _ _ hq;have qE:=fO.out.size;have EA:=dU.size;have jQ:=gH.kt;have aba:=iO.out.d2.2.2;have rR:=gH.d2.2.2;have xh:w3.ownsRow w0.heap.size 106 1 (cR g' acc.length qZ) acc.length xs:=by
   obtain⟨g1,g2 | ⟨g,cp,cur,e1,e2,e3,e4⟩⟩:=HO.out
   .omega
   .exact⟨g1,.inr ⟨g,cp,cur,e1,e2,cZ.kX dU ⟨zg,J⟩ (cZ.kX fO.out ⟨zg,J⟩ e3 zo) zo,e4⟩⟩
  have JO:eO (fun b=>Nu w0 w3 b/\(aZT (O ⟨g',0,V⟩) acc.length qZ).ownBlock≠O b) w3 xs acc:=
   eO.mono zg (by grind [cZ.kX,Hid.out]) _ _ HX.out
  have hn3:w3.heap[w0.heap.size]?=O JP:=(by grind [cZ.bH,Hid.out]);have uH:=aZH xh;have lS:=aZH JO;have HV:=aZH hv;have kh:=aZH gH;have im:=aZH ((HF.out.trans fO.out).trans dU);have HE:=aZH e;have zI:=aZH jy;have HK:=aZH nu;have HN3:=aZH hn3;have Dh:w0.heap.size<=g':=(HO.out.lt g' J).1;have AP:g'<w.heap.size:=(HO.out.lt g' J).2;have aBo:g'≠w0.heap.size:=fun e=>by
   obtain⟨g1,g2 | ⟨g,cp,cur,e1,e2,e3,e4⟩⟩:=HO.out
   .omega
   .injection e1 with e1 _ _;injection e1 with e1;injection e1 with e1 _ _;rw[<- e1,e] at e3;rw[HN.out] at e3;injection e3 with e3;injection e3 with _ e3 _;exact absurd e3 zd
  clear hv gH dU xh JO e hq jy hn3 nu
  go_wp2_with (at_builtin;go_must (refine Rc J _ _ 83 J w0.heap.size 106 i0 _ 1 8 underlying83 hi JK JL JM J zo _ _ _ J (uH.out.alloc _) ⟨w3.heap.size,0,V⟩ 1 1 [pp bx] J J (Oj J) (by simp [Value.oneCell']) (by grind [maxLen]) zo (by simp;omega) ?_;intro v' w4 rQ yt AN;obtain⟨g2,F5,rfl⟩:=LG rQ;have F1:=aZH rQ;have tJ:=aZH yt;have RP:=aZH AN;clear rQ yt AN))
  have jP:SP w4 pb tb T k' vK d:=(kh.out.ext fun b o h=>dQ (o:=a0i #[a0s (O ⟨bx,0,V⟩)] 106) h).OD (uH.out.alloc _) zg zo tJ.out;have eo:cZ pb w0 w4:=(im.out.alloc _).OE tJ.out fun k hk=>(uH.out.lt k hk).1;have OK:=tJ.out.size;rw[size_alloc] at OK;have OI:∀ (b:Nat) (o:Obj),w3.heap[b]?=O o->(aZT (O ⟨g',0,V⟩) acc.length qZ).ownBlock≠O b->w4.heap[b]?=O o:=fun b o h ed=>by
   have h':=dQ (o:=a0i #[a0s (O ⟨bx,0,V⟩)] 106) h;rw[tJ.out.block b (bg h') (fun e=>ed e.symm)];omega
  have oJ:∀ b,b<w3.heap.size->(aZT (O ⟨g',0,V⟩) acc.length qZ).ownBlock≠O b->(aZT (O ⟨g2,0,V⟩) (acc.length+1) F5).ownBlock≠O b:=fun b hb ed=>by
   rcases RP.out with h | h
   .rw[h];exact ed
   grind [size_alloc]
  have hbn:∀ b,Nu w2 w3 b->(aZT (O ⟨g',0,V⟩) acc.length qZ).ownBlock≠O b:=fun b hb e=>by
   have:=(HO.out.lt b e).2;omega
  have abb:eO (fun b=>Nu w0 w4 b/\(aZT (O ⟨g2,0,V⟩) (acc.length+1) F5).ownBlock≠O b) w4 (xs++[pp bx]) (acc++[x]):=
   eO.snoc (eL.mono zg zg _ _ HV.out)
    (eO.mono zg zg _ _ lS.out)
  have hn4:w4.heap[w0.heap.size]?=O JP:=OI _ _ HN3.out (fun e=>aBo (by injection e));have nu:=HK.out;exact⟨n,Nat.lt_succ_self n,zo,acc++[x],k',vK,_,_,_,_,_,_,_,_,_,_,_,_,_,_,_,_,_,_,_,_,_,_,_,_,_,_,_,_,_,_,_,_,_,_,_,_,_,_,_,J,by rw[List.length_append];exact F1.out,abb,jP,eo,zs,zg,hn4,HE.out⟩
 .rw[bZ hc,aZG] at hr;subst hr;clear dR lR hp hf zu
  go_wp2_with fail
  refine(pW HP.out [44] zg zd).mono ?_;rintro e w2 ⟨rfl,rfl⟩;clear hc;have RR:w0.heap.size<=w.heap.size:=hz;have hNX:=bg HN.out;have AP:=(HO.out.lt g' J);obtain⟨bl,tM,oK⟩:=HX.out.blocks;subst tM;have AO:∃ cur:Array Y,w.heap[g']?=aM cur 106/\∀ j,j<bl.length->cur[j]?=O (pp (bl.getD j 0)):=by
   obtain⟨g1,g2 | ⟨g,cp,cur,e1,e2,e3,e4,e5,e6,e7⟩⟩:=HO.out
   .omega
   .cases e1;refine⟨cur,e3,fun j hj=>?_⟩;have h1:(cur.toList.take (acc.length*1))[j]?=(bl.map (fun b=>a0s (O ⟨b,0,V⟩)))[j]?:=zg;grind
  obtain⟨cur,gS,AO⟩:=AO;have hbX:(w.alloc (ae #[pp w0.heap.size] 106)).heap[w.heap.size]?=aM #[pp w0.heap.size] 106:=blk_alloc_new _ _;have ajO:eO (fun b=>Nu w0 (w.alloc (ae #[pp w0.heap.size] 106)) b/\b≠w.heap.size) (w.alloc (ae #[pp w0.heap.size] 106)) (bl.map (fun b=>a0s (O ⟨b,0,V⟩))) acc:=
   eO.mono zg (by grind [dQ]) _ _ HX.out
  have VT:(w.alloc (ae #[pp w0.heap.size] 106)).heap[g']?=aM cur 106:=dQ gS;have HPX:=aZH (HP.out.ext (w':=w.alloc (ae #[pp w0.heap.size] 106)) fun b o h=>dQ h);have hFX:cZ pb w0 (w.alloc (ae #[pp w0.heap.size] 106)):=HF.out.alloc _;have hnX:(w.alloc (ae #[pp w0.heap.size] 106)).heap[w0.heap.size]?=O JP:=dQ HN.out;have hsX:(w.alloc (ae #[pp w0.heap.size] 106)).heap.size=w.heap.size+1:=size_alloc _ _;have HFX:=aZH hFX;have HNX:=aZH hnX;have zI:=aZH hbX;have HGX:=aZH VT;have HCU:=aZH AO;have HXX:=aZH ajO;have JQ:=aZH oK;have HSX:=aZH hsX;have hr:=HR.out;simp only[cj.bind] at hr;have tL:=AP.1;have jf:=AP.2;clear hFX hnX hbX VT AO ajO oK gS AP HO HX HF HN HP hsX HR;by_cases hb:eh T k2 [124]=A
  .rw[zip hb] at hr;have zJ:=aZH hr;clear hr
   go_wp2_with fail
   refine(uE HPX.out [124] hb).mono ?_;rintro e w3 ⟨rfl,gH,dU⟩;have tK:=aZH gH;have nR:=aZH dU;have EA:=dU.size;rw[HSX.out] at EA;clear gH dU hb;have hXw:w.heap.size<w3.heap.size:=zo
   go_wp2_with fail
   cases hq:jt T (f+1) 0 (k2+1) vs d with
   | none=>have e:=zJ.out;rw[hq] at e;simp [cj.bind] at e
   | some q=>
   have e:=zJ.out;rw[hq] at e;refine((Dg (f+1) zo).go tK.out hd hq).mono ?_;cases q with
   | err c0 a0=>
    rintro e2 w4 ⟨⟨b,rfl,eK,gn⟩,eo,uI⟩;simp only[cj.bind,aZG] at e;subst e;exact⟨⟨b,J,eK,zo⟩,(HFX.out.trans nR.out).trans eo,uI⟩
   | ok x k' vK=>
   rintro e2 w4 ⟨v,rfl,hv,jP,eo⟩;simp only[cj.bind] at e;obtain⟨bx,rfl,jy⟩:=hv.shape;have AM:=eo.size;have aTJ:=jP.lt;have hX3:=cZ.bH nR.out zI.out zo zd;have Hw:w4.heap[w.heap.size]?=_:=cZ.bH eo hX3 zo zd;have OK:=cZ.bH eo (cZ.bH nR.out HGX.out zo zd) zo zd;have hc4:w4.cell? ⟨w.heap.size,0,V⟩=O (pp w0.heap.size):=cellOf Hw J;have F4:=jH Hw 0;have aTL:w.heap.size<w4.heap.size:=zo;have xj:(w4.setCell ⟨w.heap.size,0,V⟩ (pp bx)).heap.size=w4.heap.size:=size_setCell _ _ _;have Hx:(w4.setCell ⟨w.heap.size,0,V⟩ (pp bx)).heap[w.heap.size]?=aM #[pp bx] 106:=by rw[Az Hw];rfl
   have qF:∀ (b:Nat) (o:Obj),b≠w.heap.size->w4.heap[b]?=O o->(w4.setCell ⟨w.heap.size,0,V⟩ (pp bx)).heap[b]?=O o:=(by grind [blk_setCell_other]);have mP:=jP.setOther (o:=0) Hw zd zo zo (pp bx);have iP:cZ pb w0 (w4.setCell ⟨w.heap.size,0,V⟩ (pp bx)):=((HFX.out.trans nR.out).trans eo).LF RR _;have p8:eL (fun b=>Nu w0 (w4.setCell ⟨w.heap.size,0,V⟩ (pp bx)) b/\b≠w.heap.size) (w4.setCell ⟨w.heap.size,0,V⟩ (pp bx)) (pp bx) x:=
    eL.mono zg zg _ _ hv
   have ajX:eO (fun b=>Nu w0 (w4.setCell ⟨w.heap.size,0,V⟩ (pp bx)) b/\b≠w.heap.size) (w4.setCell ⟨w.heap.size,0,V⟩ (pp bx)) (bl.map (fun b=>a0s (O ⟨b,0,V⟩))) acc:=
    eO.mono (by grind [Hid.out]) (by grind [cZ.kX,Hid.out]) _ _ HXX.out
   have yu:=qF g' _ zo OK;have aBq:=aZH (aZI mP (aZI iP (aZI Hx (aZI p8 (aZI yu (aZI ajX e))))));clear mP iP Hx p8 yu ajX e hv jP eo hX3 Hw OK qF xj hq jy
   go_upto_region 10 with(fail)
   obtain⟨t1,t2,t3,t4,t5,t6,t7⟩:=aBq.out;exact ajE _ _ _ _ _ _ _ _ _ _ _ _ _ _ _ _ _ _ _ _ _ _ _ _ _ _ _ _ _ _ _ _ _ _ _ _ t1 t2 xg RR zo zo JQ.out zo t3 t4 t5 HCU.out t6 t7 _ (by assumption)
  .rw[bZ hb] at hr;have zJ:=aZH hr;clear hr
   go_wp2_with fail
   refine(pW HPX.out [124] zg zd).mono ?_;rintro e w3 ⟨rfl,rfl⟩;clear hb
   go_upto_region 10 with(fail)
   have Mg:eL (fun b=>Nu w0 (w.alloc (ae #[pp w0.heap.size] 106)) b/\b≠w.heap.size) (w.alloc (ae #[pp w0.heap.size] 106)) (pp w0.heap.size) (.mk 97 [91,93] 0 0 []):=
    JG ⟨⟨Nat.le_refl _,by rw[HSX.out];omega⟩,zo⟩ HNX.out
   exact ajE _ _ _ _ _ _ _ _ _ _ _ _ _ _ _ _ _ _ _ _ _ _ _ _ _ _ _ _ _ _ _ _ _ _ _ _ HPX.out HFX.out xg RR zo zo JQ.out zo zI.out Mg HGX.out HCU.out HXX.out zJ.out _ (by assumption)
def ajY:RM 0:=⟨fun _ _ h=>by simp [qV] at h⟩
def aBr(a:∀ m,m<f->Ho m):RM f:=by
 cases f with
 | zero=>exact ajY
 | succ f=>exact⟨fun b c h=>aBl a b c h⟩
def aBs(hp:SP w pb tb T k vars d)(hd:8<d+1)(xe:d<=8) :
  Calls a9u 117 #[pp pb] w (jN eL pb tb T d w (.err 4 (tk T k).pos)):=by
 have H:=aZH hp;clear hp
 go_enter_defers func117,ntmps117
 go_wp2_with fail
 refine(VH H.out hd zo).mono ?_;rintro e w1 ⟨⟨b,rfl,hb⟩,hf,hs⟩;exact⟨⟨b,J,hb⟩,hf,hs⟩
def aBt(hint:VI)(hp:SP w pb tb T k vars d)(hd:d+1<=8)
  (hk:(tk T k).kind=3) :
  Calls a9u 117 #[pp pb] w (jN eL pb tb T d w (.ok (.mk 110 [] (P.num (tk T k).text) 0 []) (k+1) vars)):=by
 have H:=aZH hp;have HK:=aZH hk;clear hp hk
 go_enter_defers func117,ntmps117
 go_wp2_with fail
 refine(zD H.out hd).mono ?_;rintro e w1 ⟨rfl,dX,iV,dD,gi⟩;have lS:=aZH iV;have im:=aZH gi;have kh:=aZH dD;have nw:=aZH dX;obtain⟨n,c,h0,f0,hb,l1,l2,l3,l4,fc,eV⟩:=dD.on (by have:=HK.out;omega);obtain⟨t0,t1,t2⟩:=dD.toks.at dD.kt;have xf:tb<w1.heap.size:=by have:=dD.lt;omega
 have ed:¬ tb=pb:=by have:=dD.lt;omega
 have RI:¬ pb=tb:=zo;have iO:=aZH fc;have fO:=aZH eV;rw[HK.out] at t0;clear dD gi iV dX fc eV
 go_wp2_with fail
 have wZ:=H.out.tw.digits _ (JB H.out.kt) HK.out;refine(hint.go _ wZ.1 wZ.2.1 wZ.2.2).mono ?_;rintro e w3 ⟨rfl,RU⟩;have Mh:=aZH RU;clear wZ RU
 go_wp2_with fail
 have dX:=nw.out;have fY:pb<w.heap.size:=H.out.d2.2.2;have jy:=fO.out.bH lS.out zo zd;have hz:=Mh.out.size;rw[size_alloc,size_setCell] at hz;refine yj (j:=2) JE J fY (by grind [dQ,SP.ext,Hid.out,bB.ext]) zo (by grind [dQ,bB.ext,Hid.out]) ?_
  ((((im.out.trans fO.out).alloc _).trans Mh.out.toM).alloc _)
 exact JG (by grind [size_alloc]) (blk_alloc_new _ _)
def aBu(RV:aaX)(hp:SP w pb tb T k vars d)(hd:d+1<=8)
  (hk:(tk T k).kind=2) :
  Calls a9u 117 #[pp pb] w (jN eL pb tb T d w (zj (tk T k) (k+1) vars)):=by
 have H:=aZH hp;have HK:=aZH hk;clear hp hk
 go_enter_defers func117,ntmps117
 go_wp2_with fail
 refine(zD H.out hd).mono ?_;rintro e w1 ⟨rfl,dX,iV,dD,gi⟩;have lS:=aZH iV;have im:=aZH gi;have kh:=aZH dD;have nw:=aZH dX;obtain⟨n,c,h0,f0,hb,l1,l2,l3,l4,fc,eV⟩:=dD.on (by have:=HK.out;omega);obtain⟨t0,t1,t2⟩:=dD.toks.at dD.kt;have xf:tb<w1.heap.size:=by have:=dD.lt;omega
 have ed:¬ tb=pb:=by have:=dD.lt;omega
 have RI:¬ pb=tb:=zo;have iO:=aZH fc;have fO:=aZH eV;rw[HK.out] at t0;clear dD gi iV dX fc eV
 go_wp2_with fail
 have lx:=RV.go (tk T k) (iO.out.ext fun b o (h:_=O o)=>dQ (o:=ae #[zi 2,aT ((tk T k).text),zi (tk T k).pos] 142) h)
  (H.out.tw.vars _ (JB H.out.kt) HK.out)
 rw[HK.out] at lx;refine lx.mono ?_;have dX:=nw.out;have fY:pb<w.heap.size:=H.out.d2.2.2;have jy:=fO.out.bH lS.out zo zd;have ajZ:∀ o,((FX w1 pb tb k n c).alloc o).heap[w.heap.size]?=_:=fun o=>dQ (o:=o) jy;have sH:=fun o=>(im.out.trans fO.out).alloc o;have jm:∀ o,((FX w1 pb tb k n c).alloc o).heap.size=w.heap.size+2:=(by grind [size_alloc,size_setCell]);have HB:=aZH ajZ;have HR:=aZH sH;have HZ:=aZH jm;clear lx jy ajZ sH jm;cases hr:zj (tk T k) (k+1) vars with
 | ok x k' vs=>
  rintro e w3 ⟨v,rfl,hv,gH,dU⟩;have HV:=aZH hv;have tK:=aZH gH;have nR:=aZH dU;have zJ:=aZH hr;clear hv gH dU hr
  go_wp2_with fail
  have hz:=HZ.out (ae #[zi 2,aT ((tk T k).text),zi (tk T k).pos] 142);have EA:=nR.out.size;rw[zJ.out];refine yj (j:=2) JE J fY tK.out zo (by grind [cZ.bH,Hid.out]) ?_ ((HR.out _).trans nR.out);exact eL.mono zg zg _ _ HV.out
 | err c0 a0=>
  rintro e w3 ⟨⟨b,rfl,eK,gn⟩,dU,gJ⟩;have hz:=HZ.out (ae #[zi 2,aT ((tk T k).text),zi (tk T k).pos] 142);exact sK fY gJ (by grind [cZ.bH,Hid.out]) ⟨b,J,eK,zo⟩ ((HR.out _).trans dU)
def aBv(hp:SP w pb tb T k vars d)(hd:d+1<=8)
  (hk:(tk T k).kind=1) (ho:eh T (k+1) [40]=G) :
  Calls a9u 117 #[pp pb] w (jN eL pb tb T d w (.ok (.mk 97 (tk T k).text 0 0 []) (k+1) vars)):=by
 have HO:=aZH ho;clear ho;have H:=aZH hp;have HK:=aZH hk;clear hp hk
 go_enter_defers func117,ntmps117
 go_wp2_with fail
 refine(zD H.out hd).mono ?_;rintro e w1 ⟨rfl,dX,iV,dD,gi⟩;have lS:=aZH iV;have im:=aZH gi;have kh:=aZH dD;have nw:=aZH dX;obtain⟨n,c,h0,f0,hb,l1,l2,l3,l4,fc,eV⟩:=dD.on (by have:=HK.out;omega);obtain⟨t0,t1,t2⟩:=dD.toks.at dD.kt;have xf:tb<w1.heap.size:=by have:=dD.lt;omega
 have ed:¬ tb=pb:=by have:=dD.lt;omega
 have RI:¬ pb=tb:=zo;have iO:=aZH fc;have fO:=aZH eV;rw[HK.out] at t0;clear dD gi iV dX fc eV
 go_wp2_with fail
 refine(pW (iO.out.ext fun b o h=>dQ (dQ h)) [40] HO.out zd).mono ?_;rintro e w3 ⟨rfl,rfl⟩
 go_wp2_with fail
 have dX:=nw.out;have fY:pb<w.heap.size:=H.out.d2.2.2;have jy:=fO.out.bH lS.out zo zd;refine yj (j:=2) JE J fY (by grind [dQ,SP.ext,Hid.out]) zo (by grind [dQ]) ?_
  (by grind [bB.alloc,bB.trans,Hid.out])
 exact JG (by grind [size_alloc,size_setCell]) (by grind [Es,size_alloc,size_setCell])
def aBw(kZ:OC f)(hp:SP w pb tb T k vars d)(hd:d+1<=8)
  (hk:(tk T k).kind=1) (ho:eh T (k+1) [40]=A) {r:cj (List Ex)} (hr:oW T f (k+2) vars (d+1) (tk T k).pos []=O r)
  {q:cj Ex} (hq:cj.bind (O r) (fun l k' vars'=>mW T [41] (Ex.mk 99 (tk T k).text 0 0 l) k' vars')=O q) :
  Calls a9u 117 #[pp pb] w (jN eL pb tb T d w (q)):=by
 have HO:=aZH ho;have HR:=aZH hr;have HQ:=aZH hq;clear ho hr hq;have H:=aZH hp;have HK:=aZH hk;clear hp hk
 go_enter_defers func117,ntmps117
 go_wp2_with fail
 refine(zD H.out hd).mono ?_;rintro e w1 ⟨rfl,dX,iV,dD,gi⟩;have lS:=aZH iV;have im:=aZH gi;have kh:=aZH dD;have nw:=aZH dX;obtain⟨n,c,h0,f0,hb,l1,l2,l3,l4,fc,eV⟩:=dD.on (by have:=HK.out;omega);obtain⟨t0,t1,t2⟩:=dD.toks.at dD.kt;have xf:tb<w1.heap.size:=by have:=dD.lt;omega
 have ed:¬ tb=pb:=by have:=dD.lt;omega
 have RI:¬ pb=tb:=zo;have iO:=aZH fc;have fO:=aZH eV;rw[HK.out] at t0;clear dD gi iV dX fc eV
 go_wp2_with fail
 refine(uE (iO.out.ext fun b o h=>dQ (dQ h)) [40] HO.out).mono ?_;have dX:=nw.out;have fY:pb<w.heap.size:=H.out.d2.2.2;have vM:=H.out.lt;have jy:=fO.out.bH lS.out zo zd;have aj1:∀ o o',(((FX w1 pb tb k n c).alloc o).alloc o').heap[w.heap.size]?=_:=fun o o'=>dQ (o:=o') (dQ (o:=o) jy);have hex:∀ o o',(((FX w1 pb tb k n c).alloc o).alloc o').heap[w1.heap.size+1]?=O o':=(by grind [Es,size_alloc,size_setCell]);have jm:∀ o o',(((FX w1 pb tb k n c).alloc o).alloc o').heap.size=w1.heap.size+2:=(by grind [size_alloc,size_setCell]);have sH:=fun o o'=>((im.out.trans fO.out).alloc o).alloc o';rintro e w3 ⟨rfl,gH,dU⟩;have aj2:=dU.bH (aj1 _ _) zo zd;have aj3:=dU.bH (hex _ _) zo zd;have aj4:=(sH _ _).trans dU;have EA:w1.heap.size+2<=w3.heap.size:=zg;have HB3:=aZH aj2;have Mh:=aZH aj3;have nR:=aZH aj4;have tK:=aZH gH;have HS:=aZH dX;have c2:w3.cell? ⟨w1.heap.size,2,V⟩=O (zi (tk T k).pos):=
  cellOf (dU.bH (b:=w1.heap.size) (dQ (Es (by rw[size_setCell]))) zo zd) J
 clear jy aj1 hex jm sH gH dU aj2 aj3 aj4 dX t0 t1 t2 h0 f0
 go_wp2_with fail
 refine(kZ.go _ tK.out zo HR.out).mono ?_;cases r with
 | err c0 a0=>
  rintro e w4 ⟨⟨b,rfl,eK,gn⟩,dU,gJ⟩;have e:=HQ.out;simp only[cj.bind,aZG] at e;subst e;have dX:=nw.out;exact sK fY gJ (by grind [cZ.bH,Hid.out]) ⟨b,J,eK,zo⟩ (nR.out.trans dU)
 | ok l k' vs=>
  rintro e w4 ⟨v,rfl,hv,jP,eo⟩;obtain⟨sa,sn,sc,rfl,-,-⟩:=hv.shape;have dX:=nw.out;have Mi:=eo.bH Mh.out zo zd;have aj5:=eo.bH HB3.out zo zd;have x0:w4.cell? ⟨w1.heap.size+1,0,V⟩=O (.int .u8 97):=cellOf Mi J;have x4:w4.cell? ⟨w1.heap.size+1,4,V⟩=O bV:=cellOf Mi J;have y0:=jH Mi 0;have y4:=jH Mi 4;have z4:=bg Mi;have AM:=eo.size;have sL:=aZH jP;have Mj:=aZH hv;have sN:=aZH (nR.out.trans eo);have HE4:=aZH Mi;have HB4:=aZH aj5;clear hv jP eo Mi aj5 dX c2
  go_wp2_with fail
  have dX:=nw.out;have n1:w1.heap.size+1≠pb:=zo;have n2:tb<w1.heap.size+1:=zo;have n3:w.heap.size≠w1.heap.size+1:=zo;have abe:=Az (o:=0) HE4.out (.int .u8 99);have mQ:=(sL.out.setOther (o:=0) HE4.out zd n1 n2 (.int .u8 99)).setOther (o:=4) abe zd n1 n2 (.slice sa sn sc);have aj8:=Az (o:=4) abe (.slice sa sn sc);have aj9:=(blk_setCell_other (a:=⟨w1.heap.size+1,4,V⟩) n3 (.slice sa sn sc)).trans ((blk_setCell_other (a:=⟨w1.heap.size+1,0,V⟩) n3 (.int .u8 99)).trans HB4.out);have aka:=(sN.out.LF (p:=⟨w1.heap.size+1,0,V⟩) (by show w.heap.size<=w1.heap.size+1;omega) (.int .u8 99)).LF (p:=⟨w1.heap.size+1,4,V⟩) (by show w.heap.size<=w1.heap.size+1;omega) (.slice sa sn sc);have AQ:=(Mj.out.set (x:=w1.heap.size+1) (o:=0) (fun b hb=>by have:=hb.1;omega) (.int .u8 99)).set (x:=w1.heap.size+1) (o:=4) (fun b hb=>by have:=hb.1;omega) (.slice sa sn sc);have VW:∀ u v,((w4.setCell ⟨w1.heap.size+1,0,V⟩ u).setCell ⟨w1.heap.size+1,4,V⟩ v).heap.size=w4.heap.size:=(by grind [size_setCell]);have HE6:=aZH aj8;have HB6:=aZH aj9;have HF6:=aZH aka;have HV6:=aZH AQ;have HZ6:=aZH VW;have HP6:=aZH mQ;clear abe mQ aj8 aj9 aka AQ VW x0 x4 y0 y4;have hq:=HQ.out;simp only[cj.bind,mW] at hq;by_cases hc:eh T k' [41]=A
  .rw[zip hc,aZG] at hq;subst hq;refine(RF HP6.out [41] hc).mono ?_;rintro e w7 ⟨rfl,lD,AR⟩;have HP7:=aZH lD;have JR:=aZH AR;clear lD AR hc n1 n2 n3 dX
   go_wp2_with fail
   have dX:=nw.out;have hz7:=JR.out.size;rw[HZ6.out] at hz7;refine yj (j:=2) JE J fY HP7.out zo (by grind [cZ.bH,Hid.out]) ?_ (HF6.out.trans JR.out);refine aaY ⟨zo,zo⟩ (JR.out.bH HE6.out zo zd) ?_;exact aAM _ _ _ _ _ _ _ HV6.out JR.out fun b hb=>⟨by have:=hb.1;omega,by have:=hb.1;have:=hb.2;exact⟨zo,zo⟩⟩
  .rw[bZ hc,aZG] at hq;subst hq;refine(RG HP6.out [41] zg zd).mono ?_;rintro e w7 ⟨⟨b,rfl,eK,gn⟩,dU,gJ⟩;rw[HZ6.out] at gn;exact sK fY gJ (by grind [cZ.bH,Hid.out]) ⟨b,J,eK,zo⟩ (HF6.out.trans dU)
def aBC(hp:SP w pb tb T k vars d)(hd:d+1<=8)
  (hk:(tk T k).kind=0\/(tk T k).kind=4) (hm:eh T k [45]=G) (hn:eh T k [40]=G) (hl:eh T k [91]=G) :
  Calls a9u 117 #[pp pb] w (jN eL pb tb T d w (.err 2 (tk T k).pos)):=by
 have HM:=aZH hm;have HN:=aZH hn;have HL:=aZH hl;clear hm hn hl;have H:=aZH hp
 go_enter_defers func117,ntmps117
 go_wp2_with fail
 refine(zD H.out hd).mono ?_;rintro e w1 ⟨rfl,dX,iV,dD,gi⟩;have lS:=aZH iV;have im:=aZH gi;have kh:=aZH dD;have nw:=aZH dX;obtain⟨n,c,h0,l1,l2,-,l3,l4⟩:=dD.l0;obtain⟨t0,t1,t2⟩:=dD.toks.at dD.kt;obtain⟨kd,iN⟩:∃ kd:Int,kd=((tk T k).kind:Int):=⟨_,J⟩;rw[<- iN] at t0;have k1:(kd == 1)=false:=zg;have k2:(kd == 2)=false:=zg;have k3:(kd == 3)=false:=zg;have BR:pb<w1.heap.size:=dD.d2.2.2;have xf:tb<w1.heap.size:=a2J dD.lt BR;have fY:pb<w.heap.size:=hp.d2.2.2;have vM:=hp.lt;clear dD gi iV dX hk iN hp
 go_wp2_with fail
 have AS:∀ o,SP (w1.alloc o) pb tb T k vars (d+1):=(by grind [dQ,SP.ext,Hid.out]);have AT:∀ o,(w1.alloc o).heap[w.heap.size]?=_:=fun o=>dQ (o:=o) lS.out;have AU:=fun o=>im.out.alloc o;have AV:∀ o,(w1.alloc o).heap.size=w.heap.size+2:=(by grind [size_alloc,Hid.out]);have zP:=aZH AS;have JT:=aZH AT;have Hz:=aZH AU;have HH:=aZH AV;clear AS AT AU AV;refine(pW (zP.out _) [45] HM.out zd).mono ?_;rintro e w2 ⟨rfl,rfl⟩
 go_wp2_with fail
 refine(pW (zP.out _) [40] HN.out zd).mono ?_;rintro e w2 ⟨rfl,rfl⟩
 go_wp2_with fail
 refine(pW (zP.out _) [91] HL.out zd).mono ?_;rintro e w2 ⟨rfl,rfl⟩
 go_wp2_with fail
 refine(RE (zP.out _)).mono ?_;rintro e w2 ⟨⟨b,rfl,eK,gn⟩,dU,gJ⟩;rw[HH.out] at gn;have dX:=nw.out;exact sK fY gJ (by grind [cZ.bH,Hid.out]) ⟨b,J,eK,zo⟩ ((Hz.out _).trans dU)
def aBD(abg:RM f)(hp:SP w pb tb T k vars d)(hd:d+1<=8)
  (hk:(tk T k).kind=0\/(tk T k).kind=4) (hm:eh T k [45]=G) (hn:eh T k [40]=G) (hl:eh T k [91]=A)
  {r:cj Ex} (hr:qV T f (k+1) vars (d+1)=O r) :
  Calls a9u 117 #[pp pb] w (jN eL pb tb T d w (r)):=by
 have HM:=aZH hm;have HN:=aZH hn;have HL:=aZH hl;have HR:=aZH hr;clear hm hn hl hr;have H:=aZH hp
 go_enter_defers func117,ntmps117
 go_wp2_with fail
 refine(zD H.out hd).mono ?_;rintro e w1 ⟨rfl,dX,iV,dD,gi⟩;have lS:=aZH iV;have im:=aZH gi;have kh:=aZH dD;have nw:=aZH dX;obtain⟨n,c,h0,l1,l2,-,l3,l4⟩:=dD.l0;obtain⟨t0,t1,t2⟩:=dD.toks.at dD.kt;obtain⟨kd,iN⟩:∃ kd:Int,kd=((tk T k).kind:Int):=⟨_,J⟩;rw[<- iN] at t0;have k1:(kd == 1)=false:=zg;have k2:(kd == 2)=false:=zg;have k3:(kd == 3)=false:=zg;have BR:pb<w1.heap.size:=dD.d2.2.2;have xf:tb<w1.heap.size:=a2J dD.lt BR;have fY:pb<w.heap.size:=hp.d2.2.2;have vM:=hp.lt;clear dD gi iV dX hk iN hp
 go_wp2_with fail
 have AS:∀ o,SP (w1.alloc o) pb tb T k vars (d+1):=(by grind [dQ,SP.ext,Hid.out]);have AT:∀ o,(w1.alloc o).heap[w.heap.size]?=_:=fun o=>dQ (o:=o) lS.out;have AU:=fun o=>im.out.alloc o;have AV:∀ o,(w1.alloc o).heap.size=w.heap.size+2:=(by grind [size_alloc,Hid.out]);have zP:=aZH AS;have JT:=aZH AT;have Hz:=aZH AU;have HH:=aZH AV;clear AS AT AU AV;refine(pW (zP.out _) [45] HM.out zd).mono ?_;rintro e w2 ⟨rfl,rfl⟩
 go_wp2_with fail
 refine(pW (zP.out _) [40] HN.out zd).mono ?_;rintro e w2 ⟨rfl,rfl⟩
 go_wp2_with fail
 refine(uE (zP.out _) [91] HL.out).mono ?_;rintro e w2 ⟨rfl,fc,eV⟩;have iO:=aZH fc;have qE:=eV.size;rw[HH.out] at qE;have VX:=aZH (eV.bH (JT.out _) zo zd);have fO:=aZH ((Hz.out _).trans eV);clear fc eV
 go_wp2_with fail
 refine(abg.go iO.out zo HR.out).mono ?_;cases r with
 | err c0 a0=>
  rintro e w4 ⟨⟨b,rfl,eK,gn⟩,dU,gJ⟩;exact sK fY gJ (by grind [cZ.bH,Hid.out]) ⟨b,J,eK,zo⟩ (fO.out.trans dU)
 | ok x k' vs=>
  rintro e w4 ⟨v,rfl,hv,jP,eo⟩;have HV:=aZH hv;have sL:=aZH jP;have sN:=aZH eo;clear hv jP eo
  go_wp2_with fail
  refine yj (j:=2) JE J fY sL.out zo (by grind [cZ.bH,Hid.out]) ?_ (fO.out.trans sN.out);exact eL.mono zg zg _ _ HV.out
def aBE(abh:Ho f)(hp:SP w pb tb T k vars d)(hd:d+1<=8)
  (hk:(tk T k).kind=0\/(tk T k).kind=4) (hm:eh T k [45]=G) (hn:eh T k [40]=A)
  {r:cj Ex} (hr:jt T f 0 (k+1) vars (d+1)=O r) {q:cj Ex} (hq:cj.bind (O r) (fun x k' vars'=>mW T [41] x k' vars')=O q) :
  Calls a9u 117 #[pp pb] w (jN eL pb tb T d w (q)):=by
 have HM:=aZH hm;have HN:=aZH hn;have HR:=aZH hr;have HQ:=aZH hq;clear hm hn hr hq;have H:=aZH hp
 go_enter_defers func117,ntmps117
 go_wp2_with fail
 refine(zD H.out hd).mono ?_;rintro e w1 ⟨rfl,dX,iV,dD,gi⟩;have lS:=aZH iV;have im:=aZH gi;have kh:=aZH dD;have nw:=aZH dX;obtain⟨n,c,h0,l1,l2,-,l3,l4⟩:=dD.l0;obtain⟨t0,t1,t2⟩:=dD.toks.at dD.kt;obtain⟨kd,iN⟩:∃ kd:Int,kd=((tk T k).kind:Int):=⟨_,J⟩;rw[<- iN] at t0;have k1:(kd == 1)=false:=zg;have k2:(kd == 2)=false:=zg;have k3:(kd == 3)=false:=zg;have BR:pb<w1.heap.size:=dD.d2.2.2;have xf:tb<w1.heap.size:=a2J dD.lt BR;have fY:pb<w.heap.size:=hp.d2.2.2;have vM:=hp.lt;clear dD gi iV dX hk iN hp
 go_wp2_with fail
 have AS:∀ o,SP (w1.alloc o) pb tb T k vars (d+1):=(by grind [dQ,SP.ext,Hid.out]);have AT:∀ o,(w1.alloc o).heap[w.heap.size]?=_:=fun o=>dQ (o:=o) lS.out;have AU:=fun o=>im.out.alloc o;have AV:∀ o,(w1.alloc o).heap.size=w.heap.size+2:=(by grind [size_alloc,Hid.out]);have zP:=aZH AS;have JT:=aZH AT;have Hz:=aZH AU;have HH:=aZH AV;clear AS AT AU AV;refine(pW (zP.out _) [45] HM.out zd).mono ?_;rintro e w2 ⟨rfl,rfl⟩
 go_wp2_with fail
 refine(uE (zP.out _) [40] HN.out).mono ?_;rintro e w2 ⟨rfl,fc,eV⟩;have iO:=aZH fc;have qE:=eV.size;rw[HH.out] at qE;have VX:=aZH (eV.bH (JT.out _) zo zd);have fO:=aZH ((Hz.out _).trans eV);clear fc eV
 go_wp2_with fail
 refine(abh.go iO.out zo HR.out).mono ?_;cases r with
 | err c0 a0=>
  rintro e w4 ⟨⟨b,rfl,eK,gn⟩,dU,gJ⟩;have e:=HQ.out;simp only[cj.bind,aZG] at e;subst e;exact sK fY gJ (by grind [cZ.bH,Hid.out]) ⟨b,J,eK,zo⟩ (fO.out.trans dU)
 | ok x k' vs=>
  rintro e w4 ⟨v,rfl,hv,jP,eo⟩;have HV:=aZH hv;have sL:=aZH jP;have sN:=aZH eo;have HB4:=aZH (eo.bH VX.out zo zd);have AM:=eo.size;clear hv jP eo
  go_wp2_with fail
  have hq:=HQ.out;simp only[cj.bind,mW] at hq;by_cases hc:eh T k' [41]=A
  .rw[zip hc,aZG] at hq;subst hq;refine(RF sL.out [41] hc).mono ?_;rintro e w7 ⟨rfl,lD,AR⟩;have HP7:=aZH lD;have JR:=aZH AR;clear lD AR hc
   go_wp2_with fail
   have hz7:=JR.out.size;refine yj (j:=2) JE J fY HP7.out zo (by grind [cZ.bH,Hid.out]) ?_ ((fO.out.trans sN.out).trans JR.out);exact JE _ _ _ _ _ _ _ HV.out JR.out zg
  .rw[bZ hc,aZG] at hq;subst hq;refine(RG sL.out [41] zg zd).mono ?_;rintro e w7 ⟨⟨b,rfl,eK,gn⟩,dU,gJ⟩;exact sK fY gJ (by grind [cZ.bH,Hid.out]) ⟨b,J,eK,zo⟩ ((fO.out.trans sN.out).trans dU)
abbrev EC(w:Z)(x:Nat)(a b c:Y):Z:=((w.setCell ⟨x,0,V⟩ a).setCell ⟨x,1,V⟩ b).setCell ⟨x,2,V⟩ c
def akf(w:Z)(x:Nat)(a b c:Y):(EC w x a b c).heap.size=w.heap.size:=by grind [size_setCell]
theorem abi{x y:Nat}(h:y≠x)(a b c:Y):(EC w x a b c).heap[y]?=w.heap[y]?:=by
 grind [blk_setCell_other]
def SP.EC{w:Z}{pb tb x:Nat}{T:List P.Tok}{k:Nat}{vars:List Bs}{d:Nat}{cs:Array Y}{t:TypeId}{z:Nat×Nat}(h:SP w pb tb T k vars d)
  (hx:w.heap[x]?=O (ae cs t z)) (ht:t≠9) (e:x≠pb) (f:tb<x) (a b c:Y):SP (EC w x a b c) pb tb T k vars d:=
 ((h.setOther hx ht e f a).setOther (Az hx a) ht e f b).setOther (Az (Az hx a) b) ht e f c
def bB.EC{M:Nat->Obj->Prop}{a b:Z}(h:bB M a b){x:Nat}(hx:a.heap.size<=x)(u v s:Y):bB M a (EC b x u v s):=
 (by grind [LF])
def aBF(hp:SP w pb tb T k vars d)(hd:d+1<=8)
  (hk:(tk T k).kind=0\/(tk T k).kind=4) (hm:eh T k [45]=A) (hn:(tk T (k+1)).kind≠3) :
  Calls a9u 117 #[pp pb] w (jN eL pb tb T d w (.err 2 (tk T (k+1)).pos)):=by
 have HM:=aZH hm;have HN:=aZH hn;clear hm hn;have H:=aZH hp
 go_enter_defers func117,ntmps117
 go_wp2_with fail
 refine(zD H.out hd).mono ?_;rintro e w1 ⟨rfl,dX,iV,dD,gi⟩;have lS:=aZH iV;have im:=aZH gi;have kh:=aZH dD;have nw:=aZH dX;obtain⟨n,c,h0,l1,l2,-,l3,l4⟩:=dD.l0;obtain⟨t0,t1,t2⟩:=dD.toks.at dD.kt;obtain⟨kd,iN⟩:∃ kd:Int,kd=((tk T k).kind:Int):=⟨_,J⟩;rw[<- iN] at t0;have k1:(kd == 1)=false:=zg;have k2:(kd == 2)=false:=zg;have k3:(kd == 3)=false:=zg;have BR:pb<w1.heap.size:=dD.d2.2.2;have xf:tb<w1.heap.size:=a2J dD.lt BR;have fY:pb<w.heap.size:=hp.d2.2.2;have vM:=hp.lt;clear dD gi iV dX hk iN hp
 go_wp2_with fail
 have AS:∀ o,SP (w1.alloc o) pb tb T k vars (d+1):=(by grind [dQ,SP.ext,Hid.out]);have AT:∀ o,(w1.alloc o).heap[w.heap.size]?=_:=fun o=>dQ (o:=o) lS.out;have AU:=fun o=>im.out.alloc o;have AV:∀ o,(w1.alloc o).heap.size=w.heap.size+2:=(by grind [size_alloc,Hid.out]);have zP:=aZH AS;have JT:=aZH AT;have Hz:=aZH AU;have HH:=aZH AV;clear AS AT AU AV;have tM:∀ o,(w1.alloc o).heap[w1.heap.size]?=O o:=(by grind [blk_alloc_new]);refine(uE (zP.out _) [45] HM.out).mono ?_;rintro e w2 ⟨rfl,fc,eV⟩;have dX:=nw.out;have qE:=eV.size;rw[HH.out] at qE;have fh:=eV.bH (tM _) zo zd;have y0:=jH fh 0;have y1:=jH fh 1;have y2:=jH fh 2;have c0:w2.cell? ⟨w1.heap.size,0,V⟩=O (zi kd):=cellOf fh J;have c1:w2.cell? ⟨w1.heap.size,1,V⟩=O (aT ((tk T k).text)):=cellOf fh J;have c2:w2.cell? ⟨w1.heap.size,2,V⟩=O (zi (tk T k).pos):=cellOf fh J;have iO:=aZH fc;have RQ:=aZH fh;have VX:=aZH (eV.bH (JT.out _) zo zd);have fO:=aZH ((Hz.out _).trans eV);have aba:pb<w2.heap.size:=zo;have aBH:tb<w2.heap.size:=zo;have aBI:w1.heap.size<w2.heap.size:=zo;have q1:¬ w1.heap.size=pb:=zo;have q2:¬ w1.heap.size=tb:=zo;have q3:¬ pb=w1.heap.size:=zo;have q4:¬ tb=w1.heap.size:=zo;obtain⟨n2,cc2,g0,g1,g2,-,g3,g4⟩:=fc.l0;obtain⟨u0,u1,u2⟩:=fc.toks.at fc.kt;obtain⟨kd2,akg⟩:∃ kd:Int,kd=((tk T (k+1)).kind:Int):=⟨_,J⟩;rw[<- akg] at u0;have k32:(kd2 != 3)=true:=by simp;have:=HN.out;omega
 clear fc eV fh dX tM akg h0 t0 t1 t2
 go_wp2_with fail
 refine(RE (iO.out.EC RQ.out zd q1 zo _ _ _)).mono ?_;rintro e w3 ⟨⟨b,rfl,eK,gn⟩,dU,gJ⟩;rw[akf] at gn;have dX:=nw.out;exact sK fY gJ (by grind [abi,trans,cZ.bH,Hid.out]) ⟨b,J,eK,zo⟩ ((fO.out.EC zo _ _ _).trans dU)
def aBK(hint:VI)(hp:SP w pb tb T k vars d)(hd:d+1<=8)
  (hk:(tk T k).kind=0\/(tk T k).kind=4) (hm:eh T k [45]=A) (hn:(tk T (k+1)).kind=3) :
  Calls a9u 117 #[pp pb] w (jN eL pb tb T d w (.ok (.mk 110 [] (- P.num (tk T (k+1)).text) 0 []) (k+2) vars)):=by
 have HM:=aZH hm;have HN:=aZH hn;clear hm hn;have H:=aZH hp
 go_enter_defers func117,ntmps117
 go_wp2_with fail
 refine(zD H.out hd).mono ?_;rintro e w1 ⟨rfl,dX,iV,dD,gi⟩;have lS:=aZH iV;have im:=aZH gi;have kh:=aZH dD;have nw:=aZH dX;obtain⟨n,c,h0,l1,l2,-,l3,l4⟩:=dD.l0;obtain⟨t0,t1,t2⟩:=dD.toks.at dD.kt;obtain⟨kd,iN⟩:∃ kd:Int,kd=((tk T k).kind:Int):=⟨_,J⟩;rw[<- iN] at t0;have k1:(kd == 1)=false:=zg;have k2:(kd == 2)=false:=zg;have k3:(kd == 3)=false:=zg;have BR:pb<w1.heap.size:=dD.d2.2.2;have xf:tb<w1.heap.size:=a2J dD.lt BR;have fY:pb<w.heap.size:=hp.d2.2.2;have vM:=hp.lt;clear dD gi iV dX hk iN hp
 go_wp2_with fail
 have AS:∀ o,SP (w1.alloc o) pb tb T k vars (d+1):=(by grind [dQ,SP.ext,Hid.out]);have AT:∀ o,(w1.alloc o).heap[w.heap.size]?=_:=fun o=>dQ (o:=o) lS.out;have AU:=fun o=>im.out.alloc o;have AV:∀ o,(w1.alloc o).heap.size=w.heap.size+2:=(by grind [size_alloc,Hid.out]);have zP:=aZH AS;have JT:=aZH AT;have Hz:=aZH AU;have HH:=aZH AV;clear AS AT AU AV;have tM:∀ o,(w1.alloc o).heap[w1.heap.size]?=O o:=(by grind [blk_alloc_new]);refine(uE (zP.out _) [45] HM.out).mono ?_;rintro e w2 ⟨rfl,fc,eV⟩;have dX:=nw.out;have qE:=eV.size;rw[HH.out] at qE;have fh:=eV.bH (tM _) zo zd;have y0:=jH fh 0;have y1:=jH fh 1;have y2:=jH fh 2;have c0:w2.cell? ⟨w1.heap.size,0,V⟩=O (zi kd):=cellOf fh J;have c1:w2.cell? ⟨w1.heap.size,1,V⟩=O (aT ((tk T k).text)):=cellOf fh J;have c2:w2.cell? ⟨w1.heap.size,2,V⟩=O (zi (tk T k).pos):=cellOf fh J;have iO:=aZH fc;have RQ:=aZH fh;have VX:=aZH (eV.bH (JT.out _) zo zd);have fO:=aZH ((Hz.out _).trans eV);have aba:pb<w2.heap.size:=zo;have aBH:tb<w2.heap.size:=zo;have aBI:w1.heap.size<w2.heap.size:=zo;have q1:¬ w1.heap.size=pb:=zo;have q2:¬ w1.heap.size=tb:=zo;have q3:¬ pb=w1.heap.size:=zo;have q4:¬ tb=w1.heap.size:=zo;have gH:=fc.EC fh zg q1 zo (zi 3) (aT ((tk T (k+1)).text)) (zi (tk T (k+1)).pos);obtain⟨n2,cc2,g0,f0,g5,g1,g2,g3,g4,jP,eo⟩:=gH.on (by rw[HN.out];decide);have e0:w2.cell? ⟨pb,0,V⟩=O (.slice (O ⟨tb,(k+1)*3,V⟩) n2 cc2):=by
  grind [World.cell?_of_block,abi]
 have e1:w2.frozen? ⟨pb,0,V⟩=false:=by
  obtain⟨_,_,_,_,q,_⟩:=fc.yg;exact jH q 0
 obtain⟨u0,u1,u2⟩:=fc.toks.at fc.kt;have wZ:=fc.tw.digits _ (JB fc.kt) HN.out;rw[HN.out] at u0;have e2:(k+1)*3=k*3+3:=zo;rw[e2] at e0 u0 u1 u2;have mP:SP ((EC w2 w1.heap.size (zi 3) (aT ((tk T (k+1)).text)) (zi (tk T (k+1)).pos)).setCell ⟨pb,0,V⟩ (.slice (O ⟨tb,k*3+3+3,V⟩) (n2-1) (cc2-1)))
   pb tb T (k+1+1) vars (d+1):=zg
 have sL:=aZH mP;have HDG:=aZH wZ;have HE2:=aZH e2;have nb:=Zs wZ.2.1 wZ.2.2;obtain⟨nb1,nb2⟩:=nb;clear fc eV fh dX tM h0 t0 t1 t2 gH jP eo wZ g0 f0 g5 e2 mP
 go_wp2_with fail
 refine(hint.go _ HDG.out.1 HDG.out.2.1 HDG.out.2.2).mono ?_;rintro e w3 ⟨rfl,RU⟩;have Mh:=aZH RU;clear RU
 go_wp2_with fail
 have dX:=nw.out;have hz:=Mh.out.size;rw[size_setCell,akf] at hz;refine yj (j:=2) JE J fY (by grind [dQ,SP.ext,Hid.out,bB.ext]) zo
  (by grind [dQ,blk_setCell_other,trans,abi,bB.ext,Hid.out]) ?_
  ((((fO.out.EC zo _ _ _).trans (cZ.FW (bB.refl _ _) _)).trans Mh.out.toM).alloc _)
 exact JG (by grind [size_alloc]) (blk_alloc_new _ _)
def aBL:RL 0:=⟨fun _ _ h=>by simp [pN] at h⟩
def aBM(t:OC f)(g:Ho f)(i:RM f)(u:aaX)(hint:VI):RL (f+1):=by
 refine⟨fun{pb tb T k vars d w r} a x h=>?_⟩;rw[pN] at h;by_cases j:P.maxDepth<d+1
 .rw[zip j,aZG] at h;subst h;exact aBs a j x
 rw[bZ j] at h;have b:d+1<=8:=by grind [P.maxDepth]
 by_cases l:(tk T k).kind=3
 .rw[zip l,aZG] at h;subst h;exact aBt hint a b l
 rw[bZ l] at h;by_cases m:(tk T k).kind=2
 .rw[zip m,aZG] at h;subst h;exact aBu u a b m
 rw[bZ m] at h;by_cases e:(tk T k).kind=1
 .rw[zip e] at h;by_cases n:eh T (k+1) [40]=A
  .rw[zip n] at h;cases hr:oW T f (k+2) vars (d+1) (tk T k).pos [] with
   | none=>rw[hr] at h;simp [cj.bind] at h
   | some q=>rw[hr] at h;exact aBw t a b e n hr h
  .rw[bZ n,aZG] at h;subst h;exact aBv a b e zg
 rw[bZ e] at h;have hk:(tk T k).kind=0\/(tk T k).kind=4:=by have:=a.tw.kind _ (JB a.kt);omega
 by_cases hm:eh T k [45]=A
 .rw[zip hm] at h;by_cases c:(tk T (k+1)).kind=3
  .rw[zip c,aZG] at h;subst h;exact aBK hint a b hk hm c
  .rw[bZ c,aZG] at h;subst h;exact aBF a b hk hm c
 rw[bZ hm] at h;have o:eh T k [45]=false:=zg;by_cases c:eh T k [40]=A
 .rw[zip c] at h;cases hr:jt T f 0 (k+1) vars (d+1) with
  | none=>rw[hr] at h;simp [cj.bind] at h
  | some q=>rw[hr] at h;exact aBE g a b hk o c hr h
 rw[bZ c] at h;have s:eh T k [40]=false:=zg;by_cases p:eh T k [91]=A
 .rw[zip p] at h;exact aBD i a b hk o s p h
 rw[bZ p,aZG] at h;subst h;exact aBC a b hk o s zg
