/- A part of one proof (SBody, SBody2, SLit, SLit2, SIdxArr, PureN, SLitEnd, SLit3, SJoin). -/
import Derived.Test.YtoegidfbnkaabaaGreatDoorPkIAI
import Derived.StillTailTactics
import Derived.Deep.Cut
set_option linter.all false
set_option maxRecDepth 100000
set_option maxHeartbeats 8000000
open Option renaming some → O, none → V
open Go renaming Value → Y, World → Z
open Bool renaming true → A, false → G
open Go.Obj renaming cells → ae
open Option.some renaming injEq → a07
open Go.Lib renaming hid → a08
open Go.Value renaming slice → a1n, ownBlock → a1R
open Go.Obj renaming cells → a1K
open Array renaming getElem?_eq_getElem → a2L
open Go.Proofs.Tryz renaming prog → bbg
open Go.Proofs.Tryz
namespace Go.Proofs.YtoegidfbnkaabaaGreatDoor
open P
open Go.RowKit
variable{T:List P.Tok}{W w0 w2 w3:Z}{av tv vv:Y}{bx cap d f g k k' n pb so tb:Nat}{vars:List Bs}
def P.isArrow(x:Bd):Prop:=x.kind=63/\x.parts.length=2
instance (x:Bd):Decidable (P.isArrow x):=by unfold P.isArrow;infer_instance
def P.P3(T:List P.Tok)(f a:Nat)(v1:List Bs)(d:Nat)(x:Bd):Option (cd Bd):=
 if P.isArrow x then
  if dQ T a [59] then cd.bind (qG T f (a+1) v1 d) fun c e v3=>O (.ok (.mk 63 [] [] (x.parts++[c])) e v3)
  else O (.ok (.mk 63 [] [] (x.parts++[An])) a v1)
 else if dQ T a [59] then cd.bind (qG T f (a+1) v1 d) fun b g v2=>O (.ok (.mk 59 [] [] [x,b]) g v2) else O (.ok x a v1)
def P.alR{x:Bd}(h:P.whole x):¬ P.isArrow x:=by
 cases x with
 | mk kind name args parts=>
  rintro ⟨a,b⟩;have:=h a;grind [Bd.parts]
def P.aDX(T:List P.Tok)(f k:Nat)(vars:List Bs)(d:Nat) :
  mT T (f+1) k vars d=cd.bind (P.Te T f k vars d) fun x b v1=>P.P3 T f b v1 d x:=by
 rw[mT,P.Te];cases g:ot T f k vars d with
 | none=>rfl
 | some q=>
  cases q with
  | err c a=>rfl
  | ok x b v1=>
   have hw:=P.alR ((acK T f).row _ _ _ _ _ _ g);by_cases e:dQ T b [45,62]=A
   .simp only[cd.bind,zip e];cases h:ot T f (b+1) v1 d with
    | none=>rfl
    | some q=>
     cases q with
     | err c a=>rfl
     | ok y i v2=>
      have:P.isArrow (Bd.mk 63 [] [] [x,y]):=⟨J,J⟩;simp only[P.P3,zip this];rfl
   .simp only[cd.bind,bI e,P.P3,bI hw]
def alS{a b c:Bd}(E:Nu w0 W n)(F:Nu w0 W g)(l:n≠g)(H:w0.heap.size<=W.heap.size)(I:pb<w0.heap.size)
  (p:W.heap[n]?=aN #[.int .u8 63,aT [],bX,cV g 2 2] 149)
  (q:dP (fun m=>Nu w0 W m/\m≠n/\m≠g) W tv a) (r:dP (fun m=>Nu w0 W m/\m≠n/\m≠g) W vv b) (s:dP (fun m=>Nu w0 W m/\m≠n/\m≠g) W av c)
  (f:w2.ownsRow w0.heap.size 84 1 (cV cap (2+1) k') (2+1) ([tv,vv]++[av])) (i:(W.alloc (ae #[av] 84)).grownBy w2 (a1n (O ⟨g,0,V⟩) 2 2).ownBlock)
  (t:(a1n (O ⟨cap,0,V⟩) (2+1) k').ownBlock=(a1n (O ⟨g,0,V⟩) 2 2).ownBlock\/∀ k,(a1n (O ⟨cap,0,V⟩) (2+1) k').ownBlock=O k->(W.alloc (ae #[av] 84)).heap.size<=k) :
  (∃ cs:Array Y,w2.heap[n]?=aN cs 149/\cs.size=4)/\W.heap.size<w2.heap.size/\(∀ (m:Nat) (o:Obj),m≠n->m≠g->W.heap[m]?=O o->(w2.setCell ⟨n,3,V⟩ (cV cap (2+1) k')).heap[m]?=O o) /\
   dP (Nu w0 w2) (w2.setCell ⟨n,3,V⟩ (cV cap (2+1) k')) (pp n) (.mk 63 [] [] [a,b,c]):=by
 have u:=i.size;rw[size_alloc] at u;have w:∀ (m:Nat) (o:Obj),m≠g->W.heap[m]?=O o->w2.heap[m]?=O o:=fun m o y z=>by
  have j:=dX (o:=a1K #[av] 84) z;rw[i.block m (bh j) (fun e=>y (by simp only[a1R] at e;injection e))];exact j
 have B:=w n _ l p;have K:∀ (m:Nat) (o:Obj),m≠n->w2.heap[m]?=O o->(w2.setCell ⟨n,3,V⟩ (cV cap (2+1) k')).heap[m]?=O o:=(by grind [blk_setCell_other]);have C:cap≠n:=by
  rcases t with h | h
  .grind [a1R]
  .have:=h cap J;grind [size_alloc]
 refine⟨zg,zo,zg,?_⟩;have D:fJ (fun m=>Nu w0 w2 m/\m≠n) w2 84 (cV cap (2+1) k') ([tv,vv]++[av]):=Fi f fun m hm=>⟨f.lt m hm,by grind [a1R]⟩;have d:∀ {v:Y} {x:Bd},dP (fun m=>Nu w0 W m/\m≠n/\m≠g) W v x->dP (Nu w0 w2) (w2.setCell ⟨n,3,V⟩ (cV cap (2+1) k')) v x:=fun h=>
  dP.mono zg zg _ _ h
 refine Ea zg (by rw[Bk B];rfl) IY ⟨_,D.mono zg zg,?_⟩;unfold gF;refine⟨tv,[vv,av],J,d q,?_⟩;unfold gF;refine⟨vv,[av],J,d r,?_⟩;unfold gF;exact⟨av,[],J,d s,by unfold gF;rfl⟩
def aDY(eS:P2 f)(KV:∀ m,m<f->KT m){r:cd Bd}(pH:SP w0 pb tb T k vars d)(qd:mZ w0 tb)(hd:d<=8)
  (h:mT T (f+1) k vars d=O r):Calls bbg 53 #[pp pb] w0 (j8 dP pb tb T d w0 r):=by
 rw[P.aDX] at h;have Td:=a08 pH;have IZ:=a08 qd;have HR:=a08 h;have xY:=pH.d2.2.2;have xj:=pH.lt;obtain⟨i0,hi,KH,KI,KJ⟩:=info_parts alN;clear pH h qd
 go_enter_defers func53,ntmps53
 go_wp2_with fail
 cases hq:P.Te T f k vars d with
 | none=>have e:=HR.out;rw[hq] at e;simp [cd.bind] at e
 | some q=>
 have e:=HR.out;rw[hq] at e;refine(aDV eS Td.out IZ.out hd hq).mono ?_;cases q with
 | err c0 a0=>
  rintro e2 w4 ⟨⟨b,rfl,eP,gH⟩,ea,gT⟩;simp only[cd.bind,a07] at e;subst e;exact⟨⟨b,J,eP,gH⟩,ea,gT⟩
 | ok x k1 v1=>
 rintro e2 w1 ⟨v,rfl,hv,dI,gw⟩;simp only[cd.bind] at e;have p8:=gw.size;have kK:=a08 dI;have iD:=a08 gw;have j3:=dI.d2.2.2;clear dI gw hq HR;rcases hv with⟨hw,nW⟩| ⟨a,b,n,g,va,vb,rfl,rfl,hn,hg,Xg,yf,CD,ha,hb⟩
 .rw[P.P3,bI (P.alR hw)] at e;have HE:=a08 e;have HV:=a08 nW;cases x with
  | mk kind name args parts=>
  unfold dP at nW;obtain⟨n,av,pv,vs,us,rfl,hn,yf,h4,h5,h6,h7⟩:=nW;obtain⟨pa,pn,pc,rfl,CG,-,-⟩:=h6.shape;have hlen:=h7.length;have c0:w1.cell? ⟨n,0,V⟩=O (.int .u8 kind):=cellOf yf J;have c3:w1.cell? ⟨n,3,V⟩=O (.slice pa pn pc):=cellOf yf J;have yg:n<w1.heap.size:=hn.2;have nT:kind=63/\pn=3\/((kind:Int) == 63)=false:=by
   by_cases hk:kind=63
   .exact .inl ⟨hk,by have:=hw hk;omega⟩
   grind
  clear h4 h5 h6 h7 hw yf hn e hlen CG;rcases nT with⟨rfl,rfl⟩| DV;all_goals (
   by_cases hs:dQ T k1 [59]=A
   .go_wp2_with fail
    refine(vu kK.out [59] hs).mono ?_;rintro e w2 ⟨rfl,eY,eZ⟩;have jb:=a08 eY;have fR:=a08 eZ;have pL:=eZ.size;clear eY eZ c0 c3
    go_wp2_with fail
    have e:=HE.out;rw[zip hs] at e;cases f with
    | zero=>simp [qG,cd.bind] at e
    | succ f=>
    rw[qG] at e;by_cases oW:P.maxDepth<d+1
    .rw[zip oW] at e;simp only[cd.bind,a07] at e;subst e;refine(WJ jb.out oW zo).mono ?_;rintro e w3 ⟨⟨b,rfl,eP,gH⟩,ea,gT⟩;exact⟨⟨b,J,eP,zo⟩,(iD.out.trans fR.out).trans ea,gT⟩
    rw[bI oW] at e;have Bo:d+1<=8:=by unfold P.maxDepth at oW;omega
    refine(Ax jb.out Bo).mono ?_;rintro e2 w3 ⟨rfl,gT,CH,gQ,ea⟩;have Xh:=a08 CH;have oA:=a08 ea;have uC:=a08 gQ;have GV:=a08 e;have Tf:=a08 gT;clear CH ea gQ e hs gT oW
    go_wp2_with fail
    have e:=GV.out;cases hq:mT T f (k1+1) v1 (d+1) with
    | none=>rw[hq] at e;simp [cd.bind] at e
    | some q=>
    rw[hq] at e;refine((KV f zo).go uC.out (IZ.out.fr ((iD.out.trans fR.out).trans oA.out) xj) zo hq).mono ?_;have gT:=Tf.out;cases q with
    | err c0 a0=>
     rintro e2 w4 ⟨⟨b,rfl,eP,gH⟩,eF,vA⟩;simp only[cd.bind,a07] at e;subst e;exact tR xY vA (by grind [dc.bK,Hid.out]) ⟨b,J,eP,zo⟩ (by grind [trans,bB.trans,Hid.out])
    | ok y k2 v2=>
    rintro e2 w4 ⟨v,rfl,hv,im,eF⟩;simp only[cd.bind,a07] at e;subst e;obtain⟨G6,rfl,ou⟩:=hv.shape;have zb:=eF.size;have NF:=a08 hv;have tS:=a08 im;have tT:=a08 eF;clear hv im eF ou hq HE GV gT
    go_wp2_with fail
    have gT:=Tf.out;have gY:∀ o o',((w4.alloc o).alloc o').heap.size=w4.heap.size+2:=(by grind [size_alloc]);refine yY (j:=2) GP J xY (by grind [dX,SP.ext,Hid.out]) zo (by grind [dX,dc.bK,Hid.out]) ?_
     (by grind [trans,bB.alloc,bB.trans,Hid.out])
    refine Ea zg (by grind [Fh,size_alloc]) IY (aDP zg (dX (blk_alloc_new _ _)) ?_ ?_)
    .exact dP.mono zg
      (by grind [dX,dc.lG,Hid.out]) _ _ HV.out
    .exact dP.mono zg
      (by grind [dX]) _ _ NF.out
   .go_wp2_with fail
    refine(qM kK.out [59] (by simpa using hs) zd).mono ?_;rintro e w2 ⟨rfl,rfl⟩
    go_wp2_with fail
    have e:=HE.out;rw[bI hs,a07] at e;subst e;exact⟨_,results_tmp J _ _ _,pp _,J,HV.out,kK.out,iD.out⟩)
 .have HE:=a08 e;have c0:w1.cell? ⟨n,0,V⟩=O (.int .u8 63):=cellOf yf J;have c3:w1.cell? ⟨n,3,V⟩=O (cV g 2 2):=cellOf yf J;have yg:n<w1.heap.size:=hn.2;have hn0:w0.heap.size<=n:=hn.1;have BA:g<w1.heap.size:=hg.2;have x7:w0.heap.size<=g:=hg.1;have hF:=(P.P3 T f k1 v1 d (.mk 63 [] [] [a,b]));have lp:P.isArrow (Bd.mk 63 [] [] [a,b]):=⟨J,J⟩;rw[P.P3,zip lp] at e;have HEB:=a08 e;have alT:=a08 yf;have alU:=a08 CD;have HA1:=a08 ha;have HB1:=a08 hb;clear yf CD ha hb hn hg e HE lp hF;generalize hfo:(a1K #[.int .u8 103,aT [102,97,105,108],bX,bX] 149)=fo;have HPF:=a08 (kK.out.ext (w':=w1.alloc fo) fun b o h=>dX h);have Xi:Hid (dc pb w0 (w1.alloc fo)):=a08 (iD.out.alloc _);have HNF:Hid ((w1.alloc fo).heap[n]?=_):=a08 (dX alT.out);have HGF:Hid ((w1.alloc fo).heap[g]?=_):=a08 (dX alU.out);have aD2:Hid (w0.heap.size<=(w1.alloc fo).heap.size):=(by grind [a08,size_alloc]);subst hfo;by_cases hs:dQ T k1 [59]=A
  .go_wp2_with fail
   refine(vu HPF.out [59] hs).mono ?_;rintro e w2 ⟨rfl,eY,eZ⟩;have jb:=a08 eY;have fR:=a08 eZ;have pL:=eZ.size;rw[size_alloc] at pL;clear eY eZ c0 c3
   go_wp2_with fail
   have e:=HEB.out;rw[zip hs] at e;cases f with
   | zero=>simp [qG,cd.bind] at e
   | succ f=>
   rw[qG] at e;by_cases oW:P.maxDepth<d+1
   .rw[zip oW] at e;simp only[cd.bind,a07] at e;subst e;refine(WJ jb.out oW zo).mono ?_;rintro e w3 ⟨⟨b,rfl,eP,gH⟩,ea,gT⟩;exact⟨⟨b,J,eP,zo⟩,(Xi.out.trans fR.out).trans ea,gT⟩
   rw[bI oW] at e;have Bo:d+1<=8:=by grind [P.maxDepth]
   refine(Ax jb.out Bo).mono ?_;rintro e2 w3 ⟨rfl,gT,CH,gQ,ea⟩;have Xh:=a08 CH;have oA:=a08 ea;have uC:=a08 gQ;have GV:=a08 e;have Tf:=a08 gT;clear CH ea gQ e hs gT oW
   go_wp2_with fail
   have e:=GV.out;cases hq:mT T f (k1+1) v1 (d+1) with
   | none=>rw[hq] at e;simp [cd.bind] at e
   | some q=>
   rw[hq] at e;refine((KV f zo).go uC.out (IZ.out.fr ((Xi.out.trans fR.out).trans oA.out) xj) zo hq).mono ?_;have gT:=Tf.out;cases q with
   | err c0 a0=>
    rintro e2 w4 ⟨⟨b,rfl,eP,gH⟩,eF,vA⟩;simp only[cd.bind,a07] at e;subst e;exact tR xY vA (by grind [dc.bK,Hid.out]) ⟨b,J,eP,zo⟩ (by grind [trans,bB.trans,Hid.out])
   | ok y k2 v2=>
   rintro e2 w5 ⟨v,rfl,hv,oB,jc⟩;simp only[cd.bind,a07] at e;subst e;obtain⟨G6,rfl,ou⟩:=hv.shape;have hz5:=jc.size;have HV5:=a08 hv;have Xj:=a08 oB;have P4:=a08 jc;have HK5:Hid (∀ (m:Nat) (cs:Array Y) (t:TypeId) (z:Nat×Nat),m<w1.heap.size->m≠pb->t≠9->w1.heap[m]?=O (ae cs t z)->w5.heap[m]?=O (ae cs t z)):=
    (by grind [a08,dc.bK,dX,Hid.out])
   have HXS:Hid (w5.heap[w2.heap.size]?=_):=a08 (dc.bK jc Xh.out zo zd);have aD3:Hid (w0.heap.size<=w5.heap.size):=zg;have HN:Hid (Nu w0 w5 n):=zg;have HG:Hid (Nu w0 w5 g):=zg;have HN5:Hid (w5.heap[n]?=_):=a08 (HK5.out _ _ _ _ yg zo zd alT.out);have HG5:Hid (w5.heap[g]?=_):=a08 (HK5.out _ _ _ _ BA zo zd alU.out);have gY:∀ {v:Y} {x:Bd},dP (fun m=>Nu w0 w1 m/\m≠n/\m≠g) w1 v x->dP (fun m=>Nu w0 w5 m/\m≠n/\m≠g) w5 v x:=fun h=>
    dP.mono zg (by grind [dc.lG,dX,Hid.out]) _ _ h
   have HA:=a08 (gY HA1.out);have HB:=a08 (gY HB1.out);have HCC:Hid (dP (fun m=>Nu w0 w5 m/\m≠n/\m≠g) w5 (pp G6) y):=
    a08 (dP.mono zg zg _ _ hv)
   have vz:Hid ((w5.alloc (ae #[pp G6] 84)).ownsRow w0.heap.size 84 1 (cV g 2 2) 2 [va,vb]):=
    a08 ⟨J,.inr ⟨g,2,_,J,x7,dX HG5.out,Nat.le_refl _,zd,J,J⟩⟩
   have HSZ:Hid (w0.heap.size<=(w5.alloc (ae #[pp G6] 84)).heap.size):=(by grind [a08,size_alloc]);have c0:w5.cell? ⟨n,0,V⟩=O (.int .u8 63):=cellOf HN5.out J;have c3:w5.cell? ⟨n,3,V⟩=O (cV g 2 2):=cellOf HN5.out J;have aVt:n<w5.heap.size:=zo;clear hv oB jc ou hq HEB GV gT gY
   go_wp2_with (at_builtin;go_must (refine Sd J _ _ 147 J w0.heap.size 84 i0 _ 1 8 underlying147 hi KH KI KJ J zd _ _ _ J vz.out ⟨w5.heap.size,0,V⟩ 1 1 [pp G6] J J (Pw J) (by simp [Value.oneCell']) (by unfold maxLen;omega) zo (by have:=HSZ.out;omega) ?_;intro v' w9 tg zc By;obtain⟨g2,GY,rfl⟩:=MZ tg;obtain⟨⟨cs9,G7,al0⟩,aD5,Th,Ti⟩:=alS HN.out HG.out Xg aD3.out xY HN5.out HA.out HB.out HCC.out tg zc By;have c9:w9.cell? ⟨n,3,V⟩=O (cs9[3]' zo):=cellOf G7 (by simp [a2L,al0]);have f9:=jX G7 3;have l9:=bh G7;have uB:=a08 zc;have GU:=a08 tg;have HK9:=a08 Th;have acR:=a08 Ti;have aD7:=a08 G7;clear tg zc By Th Ti G7))
   have gT:=Tf.out;have Xk:SP w9 pb tb T k2 v2 (d+1):=(Xj.out.ext fun b o h=>dX (o:=a1K #[Value.pointer (O ⟨G6,0,V⟩)] 84) h).PQ vz.out zg xY uB.out;have CJ:dc pb w0 w9:=(((((Xi.out.trans fR.out).trans oA.out).trans P4.out)).alloc _).PR uB.out fun k hk=>(vz.out.lt k hk).1;refine yY (j:=2) GP J xY (by grind [SP.setOther,Hid.out]) zo (by grind [Hid.out]) ?_ (by grind [bB.MY]);exact dP.mono (by grind [size_setCell]) zg _ _ acR.out
  .have HN:Hid (Nu w0 (w1.alloc (ae #[.int .u8 103,aT [102,97,105,108],bX,bX] 149)) n):=zg;have HG:Hid (Nu w0 (w1.alloc (ae #[.int .u8 103,aT [102,97,105,108],bX,bX] 149)) g):=zg;have HA:Hid (dP (fun m=>Nu w0 (w1.alloc (ae #[.int .u8 103,aT [102,97,105,108],bX,bX] 149)) m/\m≠n/\m≠g) (w1.alloc (ae #[.int .u8 103,aT [102,97,105,108],bX,bX] 149)) va a):=
    a08 (dP.mono (by grind [size_alloc]) (by grind [dX]) _ _ HA1.out)
   have HB:Hid (dP (fun m=>Nu w0 (w1.alloc (ae #[.int .u8 103,aT [102,97,105,108],bX,bX] 149)) m/\m≠n/\m≠g) (w1.alloc (ae #[.int .u8 103,aT [102,97,105,108],bX,bX] 149)) vb b):=
    a08 (dP.mono (by grind [size_alloc]) (by grind [dX]) _ _ HB1.out)
   have HCC:Hid (dP (fun m=>Nu w0 (w1.alloc (ae #[.int .u8 103,aT [102,97,105,108],bX,bX] 149)) m/\m≠n/\m≠g) (w1.alloc (ae #[.int .u8 103,aT [102,97,105,108],bX,bX] 149)) (pp w1.heap.size) An):=
    a08 (Ea (by grind [size_alloc]) (blk_alloc_new _ _) IY KU)
   have HCN:=HNF;have vz:Hid (((w1.alloc (ae #[.int .u8 103,aT [102,97,105,108],bX,bX] 149)).alloc (ae #[pp w1.heap.size] 84)).ownsRow w0.heap.size 84 1 (cV g 2 2) 2 [va,vb]):=
    a08 ⟨J,.inr ⟨g,2,_,J,x7,dX HGF.out,Nat.le_refl _,zd,J,J⟩⟩
   have HSZ:Hid (w0.heap.size<=((w1.alloc (ae #[.int .u8 103,aT [102,97,105,108],bX,bX] 149)).alloc (ae #[pp w1.heap.size] 84)).heap.size):=(by grind [a08,size_alloc])
   go_wp2_with fail
   refine(qM HPF.out [59] zg zd).mono ?_;rintro e w2 ⟨rfl,rfl⟩
   go_wp2_with (at_builtin;go_must (refine Sd J _ _ 147 J w0.heap.size 84 i0 _ 1 8 underlying147 hi KH KI KJ J zo _ _ _ J vz.out ⟨w1.heap.size+1,0,V⟩ 1 1 [pp w1.heap.size] J J (by grind [Pw,size_alloc]) (by simp [Value.oneCell']) (by grind [maxLen]) zo (by have:=HSZ.out;omega) ?_;intro v' w9 tg zc By;obtain⟨g2,GY,rfl⟩:=MZ tg;obtain⟨⟨cs9,G7,al0⟩,aD5,Th,Ti⟩:=alS HN.out HG.out Xg aD2.out xY HCN.out HA.out HB.out HCC.out tg zc By;have c9:w9.cell? ⟨n,3,V⟩=O (cs9[3]' zo):=(by grind [cellOf,a2L]);have f9:=jX G7 3;have l9:=bh G7;have uB:=a08 zc;have GU:=a08 tg;have HK9:=a08 Th;have acR:=a08 Ti;have aD7:=a08 G7;clear tg zc By Th Ti G7))
   have e:=HEB.out;rw[bI hs,a07] at e;subst e;have Xk:SP w9 pb tb T k1 v1 d:=(HPF.out.ext fun b o h=>dX (o:=a1K #[Value.pointer (O ⟨w1.heap.size,0,V⟩)] 84) h).PQ vz.out zg xY uB.out;have CJ:dc pb w0 w9:=(Xi.out.alloc _).PR uB.out fun k hk=>(vz.out.lt k hk).1;refine⟨_,results_tmp J _ _ _,pp n,J,?_,(by grind [SP.setOther,Hid.out]),(by grind [bB.MY])⟩;exact dP.mono (by grind [size_setCell]) zg _ _ acR.out
def aD9:KT 0:=⟨fun _ _ _ h=>by simp [mT] at h⟩
theorem aEa(a:P2 f)(b:∀ m,m<f->KT m):KT (f+1):=⟨fun c d e h=>aDY a b c d e h⟩
def aEb{w:Z}(hp:SP w pb tb T k vars d)(hd:8<d+1)(xW:d<=8) :
  Calls bbg 115 #[pp pb] w (j8 dP pb tb T d w (.err 4 (tk T k).pos)):=by
 have H:=a08 hp;clear hp
 go_enter_defers func115,ntmps115
 go_wp2_with fail
 refine(WJ H.out hd zo).mono ?_;rintro e w1 ⟨⟨b,rfl,hb⟩,hf,hs⟩;exact⟨⟨b,J,hb⟩,hf,hs⟩
def aEc{w:Z}(hp:SP w pb tb T k vars d)(hd:d+1<=8)(h1:dQ T k [33]=A) :
  Calls bbg 115 #[pp pb] w (j8 dP pb tb T d w (.ok (.mk 33 [] [] []) (k+1) vars)):=by
 have H:=a08 hp;have gn:=hp.d2.2.2;clear hp
 go_enter_defers func115,ntmps115
 go_wp2_with fail
 refine(Ax H.out hd).mono ?_;rintro e w1 ⟨rfl,eg,jl,dI,gw⟩;have mv:=a08 jl;have iD:=a08 gw;have kK:=a08 dI;have nU:=a08 eg;clear jl gw dI eg
 go_wp2_with fail
 refine(vu kK.out [33] h1).mono ?_;rintro e w2 ⟨rfl,eY,eZ⟩;have jb:=a08 eY;have fR:=a08 eZ;clear eY eZ h1
 go_wp2_with fail
 have eg:=nU.out;have pL:=fR.out.size;refine yY (j:=2) GP J gn (jb.out.ext (by grind [dX])) zo (by grind [dX,dc.bK,Hid.out]) ?_ ((iD.out.trans fR.out).alloc _);exact Ea (by grind [size_alloc]) (blk_alloc_new _ _) IY KU
def aEd(NR:P1 f){w:Z}(hp:SP w pb tb T k vars d)(hc:mZ w tb)(hd:d+1<=8)(h1:dQ T k [33]=G)(h2:dQ T k [92,43]=A)
  {r:cd Bd} (hr:nQ T f (k+1) vars (d+1)=O r) {q:cd Bd} (hq:cd.bind (O r) (fun b k' vars'=>O (.ok (Bd.mk 126 [] [] [b]) k' vars'))=O q) :
  Calls bbg 115 #[pp pb] w (j8 dP pb tb T d w q):=by
 have H:=a08 hp;have HC:=a08 hc;have HR:=a08 hr;have HQ:=a08 hq;have H1:=a08 h1;have H2:=a08 h2;have gn:=hp.d2.2.2;have xj:=hp.lt;clear hp hc hr hq h1 h2
 go_enter_defers func115,ntmps115
 go_wp2_with fail
 refine(Ax H.out hd).mono ?_;rintro e w1 ⟨rfl,eg,jl,dI,gw⟩;have mv:=a08 jl;have iD:=a08 gw;have kK:=a08 dI;have nU:=a08 eg;clear jl gw dI eg
 go_wp2_with fail
 refine(qM kK.out [33] H1.out zd).mono ?_;rintro e w2 ⟨rfl,rfl⟩
 go_wp2_with fail
 refine(vu kK.out [92,43] H2.out).mono ?_;rintro e w3 ⟨rfl,gQ,ea⟩;have uC:=a08 gQ;have oA:=a08 ea;clear gQ ea
 go_wp2_with fail
 refine(NR.go uC.out (HC.out.fr (iD.out.trans oA.out) xj) zo HR.out).mono ?_;have eg:=nU.out;have Fo:=oA.out.size;have e:=HQ.out;cases r with
 | err c0 a0=>
  rintro e2 w4 ⟨⟨b,rfl,eP,gH⟩,eF,vA⟩;simp only[cd.bind,a07] at e;subst e;exact tR gn vA (by grind [dc.bK,Hid.out]) ⟨b,J,eP,zo⟩ ((iD.out.trans oA.out).trans eF)
 | ok y k2 v2=>
 rintro e2 w4 ⟨v,rfl,hv,im,eF⟩;simp only[cd.bind,a07] at e;subst e;obtain⟨G6,rfl,ou⟩:=hv.shape;have zb:=eF.size;have NF:=a08 hv;have tS:=a08 im;have tT:=a08 eF;clear hv im eF ou eg HQ
 go_wp2_with fail
 have eg:=nU.out;have gY:∀ o o',((w4.alloc o).alloc o').heap.size=w4.heap.size+2:=(by grind [size_alloc]);refine yY (j:=2) GP J gn (by grind [dX,SP.ext,Hid.out]) zo (by grind [dX,dc.bK,Hid.out]) ?_
  (by grind [trans,bB.alloc,bB.trans,Hid.out])
 refine Ea zg (by grind [Fh,size_alloc]) IY (aDO zg (dX (blk_alloc_new _ _)) ?_);exact dP.mono zg (by grind [dX]) _ _ NF.out
def TW.paren(h:TW T)(hk:k<T.length)(b:dQ T k [40]=A):(tk T k).kind=4/\(tk T k).text=[40]:=by
 unfold dQ at b;simp only[Bool.and_eq_true,Bool.or_eq_true,beq_iff_eq] at b;obtain⟨a,d⟩:=b;refine⟨?_,d⟩;rcases a with a | a
 .omega
 .obtain⟨c,r,e,f⟩:=h.words _ (Ky hk) a;rw[d] at e;cases e;exact absurd f zd
def aEe(a:dQ T k [40]=G):(tk T k).kind≠4\/(tk T k).text≠[40]:=by
 grind [dQ,tk]
def aEf(KV:KT f){w:Z}(hp:SP w pb tb T k vars d)(hc:mZ w tb)(hd:d+1<=8)(h1:dQ T k [33]=G)(h2:dQ T k [92,43]=G)
  (h3:dQ T k [40]=A)
  {r:cd Bd} (hr:mT T f (k+1) vars (d+1)=O r) {q:cd Bd} (hq:cd.bind (O r) (fun b k' vars'=>mj T [41] b k' vars')=O q) :
  Calls bbg 115 #[pp pb] w (j8 dP pb tb T d w q):=by
 have H:=a08 hp;have HC:=a08 hc;have HR:=a08 hr;have HQ:=a08 hq;have H1:=a08 h1;have H2:=a08 h2;have H3:=a08 h3;have HK:=a08 (hp.tw.paren hp.kt h3);have gn:=hp.d2.2.2;have xj:=hp.lt;clear hp hc hr hq h1 h2 h3
 go_enter_defers func115,ntmps115
 go_wp2_with fail
 refine(Ax H.out hd).mono ?_;rintro e w1 ⟨rfl,eg,jl,dI,gw⟩;have mv:=a08 jl;have iD:=a08 gw;have kK:=a08 dI;have nU:=a08 eg;clear jl gw dI eg
 go_wp2_with fail
 refine(qM kK.out [33] H1.out zd).mono ?_;rintro e w2 ⟨rfl,rfl⟩
 go_wp2_with fail
 refine(qM kK.out [92,43] H2.out zd).mono ?_;rintro e w2 ⟨rfl,rfl⟩;have dI:=kK.out;obtain⟨n,c,h0,f0,hb,l1,l2,l3,l4,eY,eZ⟩:=dI.on (by have:=HK.out;omega);obtain⟨t0,t1,t2⟩:=dI.toks.at dI.kt;have xX:tb<w1.heap.size:=zo;have ed:¬ tb=pb:=zo;have Nk:¬ pb=tb:=zo;have jb:=a08 eY;have fR:=a08 eZ;rw[HK.out.1] at t0;rw[HK.out.2] at t1;clear dI eY eZ t2
 go_wp2_with fail
 refine(KV.go jb.out (HC.out.fr (iD.out.trans fR.out) xj) zo HR.out).mono ?_;have eg:=nU.out;have pL:=fR.out.size;have e:=HQ.out;have rX:((GO w1 pb tb k n c)).heap[w.heap.size]?=_:=fR.out.bK mv.out zo zd;cases r with
 | err c0 a0=>
  rintro e2 w4 ⟨⟨b,rfl,eP,gH⟩,eF,vA⟩;simp only[cd.bind,a07] at e;subst e;exact tR gn vA (by grind [dc.bK]) ⟨b,J,eP,zo⟩ ((iD.out.trans fR.out).trans eF)
 | ok y k2 v2=>
 rintro e2 w4 ⟨v,rfl,hv,im,eF⟩;simp only[cd.bind] at e;obtain⟨G6,rfl,ou⟩:=hv.shape;have zb:=eF.size;have NF:=a08 hv;have tS:=a08 im;have tT:=a08 ((iD.out.trans fR.out).trans eF);have HX4:=a08 (eF.bK rX zo zd);have HE:=a08 e;have HBY:=a08 ou;clear hv im eF ou HQ rX h0 f0 t0 t1 e;have aVv:w.heap.size+1<=w4.heap.size:=zo;have acS:w.heap.size+1<=(GO w1 pb tb k n c).heap.size:=zo;have aEg:=a08 acS;clear eg pL zb acS
 go_wp2_with fail
 have e:=HE.out;unfold mj at e;by_cases hm:dQ T k2 [41]=A
 .rw[zip hm,a07] at e;subst e;refine(SI tS.out [41] hm).mono ?_;rintro e w5 ⟨rfl,oB,jc⟩;have Xj:=a08 oB;have P4:=a08 jc;clear oB jc hm HE
  go_wp2_with fail
  have hz5:=P4.out.size;have acS:=aEg.out;refine yY (j:=2) GP J gn Xj.out zo (by grind [dc.bK,Hid.out]) ?_ (tT.out.trans P4.out);exact GP _ _ _ _ _ _ _ NF.out P4.out zg
 .rw[bI hm,a07] at e;subst e;refine(SJ tS.out [41] zg zd).mono ?_;rintro e w5 ⟨⟨b,rfl,eP,gH⟩,jc,x8⟩;exact tR gn x8 (by grind [dc.bK,Hid.out]) ⟨b,J,eP,zo⟩ (tT.out.trans jc)
def aEh(a b c d e f g h i:Bs)(j:Nat)(hj:j<9)(v:Y)(hv:(#[Value.string (bs a),aT b,aT c,aT d,aT e,aT f,aT g,aT h,aT i]:Array Y)[j]?=O v)(w:Z) :
  (Instr.index 282 (.agg #[Value.string (bs a),aT b,aT c,aT d,aT e,aT f,aT g,aT h,aT i]) (zi j)).run bbg w = .ok v w:=by
 have e1:(sizeOf 9).run bbg w = .ok 1 w:=by simp [go_sem,sizeOf9,isAgg9]
 have e2:(isAgg 9).run bbg w = .ok G w:=by simp [go_sem,sizeOf9,isAgg9]
 simp [Instr.index,run_underlying underlying282,asIntOf,hj,go_sem,e1,e2];grind
namespace P
def named(x:Ex):Prop:=x.kind=97\/x.kind=99->x.name≠[]
theorem aEi{t:Tok}{v v':List Bs}{x:Ex}(h:wN t k v = .ok x k' v'):named x:=by
 grind [wN,named,Ex.kind]
theorem al1{all:List Ex}{x:Ex}(hx:named x):named (vj all x):=by
 cases all with
 | nil=>exact hx
 | cons a l=>simp [vj,named,Ex.name]
structure aEj(T:List Tok)(f:Nat):Prop where
 Bx:∀ k v d x k' v',lC T f k v d=O (.ok x k' v')->named x
 list:∀ k v d x k' v',oq T f k v d=O (.ok x k' v')->named x
 oper:∀ l k v d x k' v',gW T f l k v d=O (.ok x k' v')->named x
 more:∀ l y k v d x k' v',named y->mS T f l y k v d=O (.ok x k' v')->named x
def al2(T:List Tok)(g:∀ k,(tk T k).kind=1->(tk T k).text≠[]):∀ f,aEj T f
 | 0=>⟨by simp_all [lC],by simp_all [oq],by simp_all [gW],by simp_all [mS]⟩
 | f+1=>by
  have ih:=al2 T g f;refine⟨?_,?_,?_,?_⟩
  .intro k v d x k' v' h;rw[lC] at h;split at h
   .grind
   split at h
   .grind [a07,cd.ok.injEq,named,Ex.kind]
   split at h
   .grind [a07,aEi]
   split at h
   .rename_i hk;split at h
    .obtain⟨a,e,v1,c,b⟩:=ee h;rw[(mV b).2.1];exact fun _=>g k hk
    .simp only[a07,cd.ok.injEq] at h;rw[<- h.1];exact fun _=>g k hk
   split at h
   .grind [a07,cd.ok.injEq,named,Ex.kind]
   split at h
   .obtain⟨a,e,v1,c,b⟩:=ee h;rw[(mV b).2.1];exact ih.oper _ _ _ _ _ _ _ c
   split at h
   .exact ih.list _ _ _ _ _ _ h
   grind
  .intro k v d x k' v' h;rw[oq] at h;have n:named (.mk 97 [91,93] 0 0 []):=by simp [named,Ex.name]
   split at h
   .grind
   .obtain⟨y,e,v1,c,b⟩:=ee h;split at b
    .obtain⟨z,p,v2,i,j⟩:=ee b;rw[(mV j).2.1];exact al1 (ih.oper _ _ _ _ _ _ _ i)
    grind [mV,al1]
  .intro l k v d x k' v' h;rw[gW] at h;split at h
   .exact ih.Bx _ _ _ _ _ _ h
   .obtain⟨y,e,v1,c,b⟩:=ee h;exact ih.more _ _ _ _ _ _ _ _ (ih.oper _ _ _ _ _ _ _ c) b
  .intro l y k v d x k' v' q h;rw[mS] at h;split at h
   .grind
   .rename_i o m;obtain⟨z,e,v1,c,b⟩:=ee h;refine ih.more _ _ _ _ _ _ _ _ ?_ b;intro _;have hm:=List.mem_of_find?_eq_some m;rw[show(Ex.mk 99 o 0 0 [y,z]).name=o from rfl];rintro rfl;grind [ops]
end P
noncomputable def acT:Code:=match Tryz.f115.body with
 | some (.seq _ (.seq _ (.seq _ (.seq _ (.seq _ (.seq _ c))))))=>c
 | _=>.skip
noncomputable def aEk:Code:=match acT with | .seq (.seq c _) _=>c | _=>.skip
noncomputable def aEl:Code:=match acT with | .seq (.seq _ c) _=>c | _=>.skip
noncomputable def aEm:Code:=match acT with | .seq _ c=>c | _=>.skip
def P.I1(at_:Nat)(x:Ex)(k':Nat)(vars':List Bs):Option (cd Bd):=
 if E7 x then O (.err 2 at_)
 else if 0<=jW x.name/\jW x.name≠x.args.length then O (.err 3 at_)
 else O (.ok (.mk 103 x.name x.args []) k' vars')
def P.al3{name:Bs}{a:Int}{args:List Ex}{t:Int}(b:E7 (.mk cap name a so args)=G)(ht:t=jW name) :
  P.I1 pb (.mk cap name a so args) k' vars=if 0<=t/\t≠args.length then O (.err 3 pb) else O (.ok (.mk 103 name args []) k' vars):=by
 subst ht;unfold P.I1;rw[bI (by simp [b])];rfl
def aEn{w:Z}{x:Ex}{q:cd Bd}(u1 u2 u3 u6 u7 u8 u9 y5 y6 y7 xg xh y8 u16 y9 za Cp Cq Cr Cs Ct Cu Cv Cw Cx DY DZ D0 II u32 IJ Bw Fk GQ GR Nw Ny u40 u41 u42 u43 u44 u45 u46 u47 u48 u49 u50 u51 u52 u53 u54 u55 u56 u57 u58 u59 u60 u61 u62 u63 u64 u65 u66 u67 u68 u69 u70 u71 u72 u73 u74 u75 u76 u77 u78 u79 u80 u81 u82 u83 u84 u85 u86 u87 u88 u89 u90 u91 u92 u93 u94 u95 u96 u97 u98 u99 aFl aFm aFn aFo aFp aFq aFr aFs aFt aFu aFv aFw aFx aFy aFz aFA aFB aFC aFD aFE aFF aFG aFH aFI aFJ aFK aFL aFM aFN aFO aFP aFQ aFR aFS aFT aFU aFV aFW aFX aFY aFZ aF0 aF1 aF2 aF3 aF4 aF5 aF6 aF7 aF8 aF9 aGa aGb aGc aGd aGe aGf aGg aGh aGi:Y)
  (hp:SP w3 pb tb T so vars (d+1)) (hd:d+1<=8) (hf:dc pb w w3) (gn:pb<w.heap.size) (hb0:w.heap.size<=cap) (jL:w3.heap[cap]?=aN #[pp pb] 139)
  (hx:eL (Nu w w3) w3 (pp bx) x) (mU:P.named x) (hq:P.I1 k' x so vars=O q) (K1 K:Act->Z->Prop) (hK:∀ a w',aEm.wp bbg (bodyPostD bbg Tryz.f115 (j8 dP pb tb T d w q)) a w'->K a w') (hK1:∀ a w',aEl.wp bbg (Exit.then K (bodyPostD bbg Tryz.f115 (j8 dP pb tb T d w q))) a w'->K1 a w') :
  aEk.wp bbg (Exit.then K1 (Exit.then K (bodyPostD bbg Tryz.f115 (j8 dP pb tb T d w q)))) { tmps:=#[pp pb,u1,u2,u3,zi k',pp bx,u6,u7,u8,u9,y5,y6,y7,xg,xh,y8,u16,y9,za,Cp,Cq,Cr,Cs,Ct,Cu,Cv,Cw,Cx,DY,DZ,D0,II,u32,IJ,Bw,Fk,GQ,GR,Nw,Ny,u40,u41,u42,u43,u44,u45,u46,u47,u48,u49,u50,u51,u52,u53,u54,u55,u56,u57,u58,u59,u60,u61,u62,u63,u64,u65,u66,u67,u68,u69,u70,u71,u72,u73,u74,u75,u76,u77,u78,u79,u80,u81,u82,u83,u84,u85,u86,u87,u88,u89,u90,u91,u92,u93,u94,u95,u96,u97,u98,u99,aFl,aFm,aFn,aFo,aFp,aFq,aFr,aFs,aFt,aFu,aFv,aFw,aFx,aFy,aFz,aFA,aFB,aFC,aFD,aFE,aFF,aFG,aFH,aFI,aFJ,aFK,aFL,aFM,aFN,aFO,aFP,aFQ,aFR,aFS,aFT,aFU,aFV,aFW,aFX,aFY,aFZ,aF0,aF1,aF2,aF3,aF4,aF5,aF6,aF7,aF8,aF9,aGa,aGb,aGc,aGd,aGe,aGf,aGg,aGh,aGi],defers:=[SN cap] } w3:=by
 change ∀ a w',Code.wp _ (Code.seq _ _) _ a w'->_ at hK;change ∀ a w',Code.wp _ (Code.cond _ _ _) _ a w'->_ at hK1;have HP:=a08 hp;have HF:=a08 hf;have AB:=a08 jL;have HX:=a08 hx;have HQ:=a08 hq;cases x with
 | mk kind name nn kk args=>
 unfold eL at hx;obtain⟨bx',av,vs,e1,hF,oV,h4,h5⟩:=hx;cases e1;obtain⟨pa,pn,pc,rfl,CG,-,-⟩:=h4.shape;have hlen:=h5.length;have c0:w3.cell? ⟨bx,0,V⟩=O (.int .u8 kind):=cellOf oV J;have c1:w3.cell? ⟨bx,1,V⟩=O (aT name):=cellOf oV J;have c4:w3.cell? ⟨bx,4,V⟩=O (.slice pa pn pc):=cellOf oV J;have pK:=hF.2;have HA:Hid (lH (Nu w w3) w3 (.slice pa pn pc) args):=a08 ⟨vs,h4,h5⟩;have kg:pn=args.length:=zo;have hl:=bh jL;clear hF oV h4 h5 hp hf jL hq CG hlen;change Code.wp _ (Code.region _ _ _) _ _ _;by_cases hA:kind≠97/\kind≠99
 .have k1:((kind:Int) == 97)=false:=zg;have k2':((kind:Int) == 99)=false:=zg
  go_wp2_with fail
  refine(Cm _ _ _ pb HP.out.sb).mono ?_;rintro e2 w5 ⟨⟨b,rfl,eP,gH⟩,jc,x8⟩;have e:=HQ.out;rw[P.I1,zip (by grind [E7,Ex.kind])] at e;simp only[a07] at e;subst e;have:=HF.out.size;exact tR gn x8 (by grind [dc.bK,Hid.out]) ⟨b,J,eP,zo⟩ (HF.out.trans jc)
 .obtain⟨cc,rr,rfl⟩:∃ cc rr,name=cc::rr:=by
   cases name with
   | nil=>exact absurd J (mU (by grind [Ex.kind]))
   | cons a l=>grind
  have nT:kind=97\/kind=99:=zo;clear hA mU HX;by_cases hB:cc::rr=[46]
  .rw[hB] at c1 HQ;rcases nT with rfl | rfl;all_goals (
    go_wp2_with fail
    refine(Cm _ _ _ pb HP.out.sb).mono ?_;rintro e2 w5 ⟨⟨b,rfl,eP,gH⟩,jc,x8⟩;have e:=HQ.out;rw[P.I1,zip (by simp [E7,Ex.name])] at e;simp only[a07] at e;subst e;have:=HF.out.size;exact tR gn x8 (by grind [dc.bK,Hid.out]) ⟨b,J,eP,zo⟩ (HF.out.trans jc))
  by_cases hC:cc::rr=[91,93]
  .rw[hC] at c1 HQ;rcases nT with rfl | rfl;all_goals (
    go_wp2_with fail
    refine(Cm _ _ _ pb HP.out.sb).mono ?_;rintro e2 w5 ⟨⟨b,rfl,eP,gH⟩,jc,x8⟩;have e:=HQ.out;rw[P.I1,zip (by simp [E7,Ex.name])] at e;simp only[a07] at e;subst e;have:=HF.out.size;exact tR gn x8 (by grind [dc.bK,Hid.out]) ⟨b,J,eP,zo⟩ (HF.out.trans jc))
  have d1:(cc::rr == ([46]:Bs))=false:=zg;have d2:(cc::rr == ([91,93]:Bs))=false:=zg;rcases nT with rfl | rfl;all_goals (
   go_wp2_with fail
   refine(alz cc).mono ?_;rintro e2 w5 ⟨rfl,rfl⟩;by_cases hD:P.cls cc=115
   ·
    rw[hD];have d4:((cc::rr == ([109,111,100]:Bs))=G)\/cc::rr=[109,111,100]:=by
     by_cases h:cc::rr=[109,111,100]
     .exact .inr h
     .exact zg
    rcases d4 with d4 | d4
    .go_wp2_with fail
     have hM:¬ (cc::rr=[109,111,100]):=by simpa using d4
     refine(NL _).mono ?_;rintro e2 w6 ⟨rfl,rfl⟩;obtain⟨tt,Tk⟩:=cg (jW (cc::rr));rw[<- Tk];have e:=HQ.out;rw[P.al3 (by simp [E7,Ex.name,Ex.kind,Ex.args];simp [hD,hB,hC,hM] at *;simp_all) Tk] at e;have HE:=a08 e;clear e Tk;by_cases h0:0<=tt
     .by_cases h1:tt=pn
      .have rV:(tt == (pn:Int))=true:=by simpa using h1
       subst h1
       go_wp2_with fail
       have e:=HE.out;rw[bI (by rintro ⟨_,h⟩;exact h (by rw[kg]))] at e;simp only[a07] at e;subst e;have jb:Hid (SP w6.drew pb tb T so vars (d+1)):=a08 (HP.out.ext fun b o h=>h);have fR:Hid (dc pb w w6.drew):=a08 HF.out.drew;have KX:Hid (w6.drew.heap[cap]?=aN #[pp pb] 139):=a08 AB.out;have KY:Hid (lH (Nu w w6.drew) w6.drew (.slice pa pn pc) args):=a08 (lH.mono (F:=Nu w w6) (F':=Nu w w6.drew) (w:=w6) (w':=w6.drew) (fun b hb=>hb) (fun b o _ _ ho=>ho) HA.out);have pG:cap<w6.drew.heap.size:=hl;have hz:=fR.out.size
       go_still_tail 9,zk
       change wpList _ _ _ _ _ w6.drew;generalize w6.drew=w7 at jb fR KX KY pG hz ⊢;clear HP HF AB HA hl pK c0 c1 c4
       go_wp2_with fail
       have KZ:=KY.out;rw[kg] at KZ;refine yY (j:=2) GP J gn (jb.out.ext (by grind [dX])) zo (dX KX.out) ?_ (fR.out.alloc _);exact Ea (by grind [size_alloc]) (blk_alloc_new _ _) (lH.mono (F:=Nu w w7) (F':=Nu w _) (w:=w7) (by grind [size_alloc]) (by grind [dX]) KZ) KU
      .have rV:(tt == (pn:Int))=false:=by simpa using h1
       have h1n:=h1;have h0n:=h0
       go_wp2_with fail
       have e:=HE.out;rw[zip ⟨h0n,by rw[<- kg];exact h1n⟩] at e;simp only[a07] at e;subst e;refine(Cm _ _ _ pb HP.out.sb).mono ?_;rintro e2 w7 ⟨⟨b,rfl,eP,gH⟩,jc,x8⟩;have:=HF.out.size;exact tR gn x8 (by grind [dc.bK,Hid.out]) ⟨b,J,eP,zo⟩ (HF.out.trans jc)
     .go_wp2_with fail
      have e:=HE.out;rw[bI (by rintro ⟨h,_⟩;omega)] at e;simp only[a07] at e;subst e;have jb:Hid (SP w6.drew pb tb T so vars (d+1)):=a08 (HP.out.ext fun b o h=>h);have fR:Hid (dc pb w w6.drew):=a08 HF.out.drew;have KX:Hid (w6.drew.heap[cap]?=aN #[pp pb] 139):=a08 AB.out;have KY:Hid (lH (Nu w w6.drew) w6.drew (.slice pa pn pc) args):=a08 (lH.mono (F:=Nu w w6) (F':=Nu w w6.drew) (w:=w6) (w':=w6.drew) (fun b hb=>hb) (fun b o _ _ ho=>ho) HA.out);have pG:cap<w6.drew.heap.size:=hl;have hz:=fR.out.size
      go_still_tail 9,zk
      change wpList _ _ _ _ _ w6.drew;generalize w6.drew=w7 at jb fR KX KY pG hz ⊢;clear HP HF AB HA hl pK c0 c1 c4
      go_wp2_with fail
      have KZ:=KY.out;rw[kg] at KZ;refine yY (j:=2) GP J gn (jb.out.ext (by grind [dX])) zo (dX KX.out) ?_ (fR.out.alloc _);exact Ea (by grind [size_alloc]) (blk_alloc_new _ _) (lH.mono (F:=Nu w w7) (F':=Nu w _) (w:=w7) (by grind [size_alloc]) (by grind [dX]) KZ) KU
    .rw[d4] at c1 HQ;have d5:(([109,111,100]:Bs) == [109,111,100])=true:=zd;by_cases eY:pn=2
     .have yd:((pn:Int) == 2)=true:=by simp;omega
      go_wp2_with fail
      have e:=HQ.out;rw[P.I1,zip (by simp [E7,Ex.name,Ex.args];omega)] at e;simp only[a07] at e;subst e;refine(Cm _ _ _ pb HP.out.sb).mono ?_;rintro e2 w7 ⟨⟨b,rfl,eP,gH⟩,jc,x8⟩;have:=HF.out.size;exact tR gn x8 (by grind [dc.bK,Hid.out]) ⟨b,J,eP,zo⟩ (HF.out.trans jc)
     .have yd:((pn:Int) == 2)=false:=by simp;omega
      go_wp2_with fail
      refine(NL _).mono ?_;rintro e2 w6 ⟨rfl,rfl⟩;have Tk:jW [109,111,100]=-1:=zd;rw[Tk];have e:=HQ.out;rw[P.al3 (t:=-1) (by simp [E7,Ex.name,Ex.kind,Ex.args];first | omega | (simp [P.cls];omega) | decide) zd] at e;rw[bI (by rintro ⟨h,_⟩;omega)] at e;simp only[a07] at e;subst e
      go_wp2_with fail
      have jb:Hid (SP w6.drew pb tb T so vars (d+1)):=a08 (HP.out.ext fun b o h=>h);have fR:Hid (dc pb w w6.drew):=a08 HF.out.drew;have KX:Hid (w6.drew.heap[cap]?=aN #[pp pb] 139):=a08 AB.out;have KY:Hid (lH (Nu w w6.drew) w6.drew (.slice pa pn pc) args):=a08 (lH.mono (F:=Nu w w6) (F':=Nu w w6.drew) (w:=w6) (w':=w6.drew) (fun b hb=>hb) (fun b o _ _ ho=>ho) HA.out);have pG:cap<w6.drew.heap.size:=hl;have hz:=fR.out.size
      go_still_tail 9,zk
      change wpList _ _ _ _ _ w6.drew;generalize w6.drew=w7 at jb fR KX KY pG hz ⊢;clear HP HF AB HA hl pK c0 c1 c4
      go_wp2_with fail
      have KZ:=KY.out;rw[kg] at KZ;refine yY (j:=2) GP J gn (jb.out.ext (by grind [dX])) zo (dX KX.out) ?_ (fR.out.alloc _);exact Ea (by grind [size_alloc]) (blk_alloc_new _ _) (lH.mono (F:=Nu w w7) (F':=Nu w _) (w:=w7) (by grind [size_alloc]) (by grind [dX]) KZ) KU
   .have d3:((P.cls cc:Int) == 115)=false:=by simp;omega
    go_wp2_with fail
    refine(Cm _ _ _ pb HP.out.sb).mono ?_;rintro e2 w5 ⟨⟨b,rfl,eP,gH⟩,jc,x8⟩;have e:=HQ.out;rw[P.I1,zip (by simp [E7,Ex.name,hD])] at e;simp only[a07] at e;subst e;have:=HF.out.size;exact tR gn x8 (by grind [dc.bK,Hid.out]) ⟨b,J,eP,zo⟩ (HF.out.trans jc))
def P.al4(T:List P.Tok)(f at_ d:Nat)(x:Ex)(k':Nat)(vars':List Bs):Option (cd Bd):=
 match MV T k' with
 | some c=>cd.bind (gW T f 0 (k'+1) vars' (d+1)) fun y a b=>O (.ok (.mk 103 c [x,y] []) a b)
 | none=>
  if E7 x then O (.err 2 at_)
  else if 0<=jW x.name/\jW x.name≠x.args.length then O (.err 3 at_)
  else O (.ok (.mk 103 x.name x.args []) k' vars')
def aGm{w:Z}(hp:SP w pb tb T k vars d)(hc:mZ w tb)(hd:d+1<=8)(h1:dQ T k [33]=G)(h2:dQ T k [92,43]=G)
  (h3:dQ T k [40]=G) {r:cd Ex} (hr:gW T f 0 k vars (d+1)=O r) {q:cd Bd} (hq:cd.bind (O r) (fun x k' vars'=>P.al4 T f (tk T k).pos d x k' vars')=O q) :
  Calls bbg 115 #[pp pb] w (j8 dP pb tb T d w q):=by
 have H:=a08 hp;have HC:=a08 hc;have HR:=a08 hr;have HQ:=a08 hq;have H1:=a08 h1;have H2:=a08 h2;have H3:=a08 h3;have HK:=aEe h3;have gn:=hp.d2.2.2;have xj:=hp.lt;clear hp hc hr hq h1 h2 h3
 go_enter_defers func115,ntmps115
 go_wp2_with fail
 refine(Ax H.out hd).mono ?_;rintro e w1 ⟨rfl,eg,jl,dI,gw⟩;have mv:=a08 jl;have iD:=a08 gw;have kK:=a08 dI;have nU:=a08 eg;clear jl gw dI eg
 go_wp2_with fail
 refine(qM kK.out [33] H1.out zd).mono ?_;rintro e w2 ⟨rfl,rfl⟩
 go_wp2_with fail
 refine(qM kK.out [92,43] H2.out zd).mono ?_;rintro e w2 ⟨rfl,rfl⟩;have dI:=kK.out;obtain⟨n,c,h0,l1,l2,-,l3,l4⟩:=dI.l0;obtain⟨t0,t1,t2⟩:=dI.toks.at dI.kt;have xX:tb<w1.heap.size:=Nat.lt_trans dI.lt dI.d2.2.2;have Cy:=dI.d2.2.2;obtain⟨kd,ja⟩:∃ kd:Int,kd=((tk T k).kind:Int):=⟨_,J⟩;obtain⟨tx,Xl⟩:=cg ((tk T k).text);rw[<- ja] at t0;rw[<- Xl] at t1;have GS:(tx == [40])=G\/tx=[40]/\(kd == 4)=false:=by
  grind
 clear dI ja Xl HK;rcases GS with GS | ⟨rfl,GS⟩;all_goals (
  go_wp2_with fail
  refine((acB f).go kK.out zo HR.out).mono ?_;have eg:=nU.out;cases r with
  | err c0 a0=>
   rintro e2 w4 ⟨⟨b,rfl,eP,gH⟩,eF,vA⟩;have e:=HQ.out;simp only[cd.bind,a07] at e;subst e;exact tR gn vA (by grind [dc.bK,Hid.out]) ⟨b,J,eP,zo⟩ (iD.out.trans eF)
  | ok x k2 v2=>
  rintro e2 w3 ⟨v,rfl,hv,gQ,ea⟩;obtain⟨bx,rfl,jL⟩:=hv.shape;have Xf:=a08 hv;have uC:=a08 gQ;have oA:=a08 ea;have HC3:=a08 (HC.out.fr (iD.out.trans ea) xj);obtain⟨cf,Tl⟩:∃ cf:Nat->Bs,∀ j,cf j=MU.getD j []:=⟨_,fun _=>rfl⟩;have AK:∀ j,j<9->w3.cell? ⟨3,j,V⟩=O (aT (cf j)):=(by grind [mZ.cell,Hid.out]);have Tn:=a08 Tl;have BA:=HC3.out.lt;have aVy:=gQ.d2.2.2;have a0:=AK 0 zd;have a1:=AK 1 zd;have a2:=AK 2 zd;have a3:=AK 3 zd;have a4:=AK 4 zd;have a5:=AK 5 zd;have a6:=AK 6 zd;have a7:=AK 7 zd;have a8:=AK 8 zd;have D3:3<w3.heap.size:=zo;have e:=HQ.out;simp only[cd.bind] at e;unfold P.al4 at e;have HE:=a08 e;have Xh:=a08 (ea.bK mv.out zo zd);have Fo:=ea.size;clear hv gQ ea AK t0 t1 t2 h0 e Tl
  go_wp2_with fail
  go_loop [7,66] (fun s i=>∃ j:Nat,j<=9/\i=zi j/\∀ j',j'<j->dQ T k2 (cf j')=G) (fun _ i=>9-(intOf i).toNat)
  case atStart=>exact zg
  case round=>
   obtain⟨j,hj,rfl,mi⟩:=hrel;have Fl:=a08 mi;clear mi;by_cases hlt:j<9
   .have hj9:j=0\/j=1\/j=2\/j=3\/j=4\/j=5\/j=6\/j=7\/j=8:=zo;have Nr:(cf j).all P.digit=false:=by rw[Tn.out];rcases hj9 with rfl | rfl | rfl | rfl | rfl | rfl | rfl | rfl | rfl<;>decide
    have P5:dQ T k2 (cf j)=A->MV T k2=O (cf j):=fun h=>by
     rw[MV,aap (j:=j) (by simp [MU];omega) (by rw[<- Tn.out];exact h) (fun j' Xn=>by rw[<- Tn.out];exact Fl.out j' Xn),<- Tn.out]
    have HFI:=a08 P5;have HSD:=a08 Nr;clear P5 Nr hj;have hix:∀ w,(Instr.index 282 (.agg #[aT (cf 0),aT (cf 1),aT (cf 2),aT (cf 3),aT (cf 4),aT (cf 5),aT (cf 6),aT (cf 7),aT (cf 8)]) (zi j)).run bbg w = .ok (aT (cf j)) w:=
     fun w=>aEh _ _ _ _ _ _ _ _ _ j hlt _ (by rcases hj9 with rfl | rfl | rfl | rfl | rfl | rfl | rfl | rfl | rfl<;>rfl) w
    clear hj9;by_cases qQ:dQ T k2 (cf j)=A
    ·(
      go_wp2_with fail
      refine(vu uC.out _ qQ).mono ?_;rintro e w4 ⟨rfl,im,eF⟩;have tS:=a08 im;have tT:=a08 eF;have zb:=eF.size;clear im eF a0 a1 a2 a3 a4 a5 a6 a7 a8
      go_wp2_with fail
      have e:=HE.out;rw[HFI.out qQ] at e;dsimp only at e;cases hq:gW T f 0 (k2+1) v2 (d+1) with
      | none=>rw[hq] at e;simp [cd.bind] at e
      | some q2=>
      rw[hq] at e;refine((acB f).go tS.out zo hq).mono ?_;cases q2 with
      | err c0 a0=>
       rintro e2 w5 ⟨⟨b,rfl,eP,gH⟩,jc,x8⟩;simp only[cd.bind,a07] at e;subst e;exact tR gn x8 (jc.bK (by grind [dc.bK,Hid.out]) zo zd) ⟨b,J,eP,zo⟩ (by grind [trans,bB.trans,Hid.out])
      | ok y k5 v5=>
      rintro e2 w5 ⟨v,rfl,hv,oB,jc⟩;simp only[cd.bind,a07] at e;subst e;obtain⟨G6,rfl,ou⟩:=hv.shape;have hz5:=jc.size;have HV5:=a08 hv;have Xj:=a08 oB;have P4:=a08 jc;clear hv oB jc ou hq HE
      go_wp2_with fail
      have gY:∀ o o',((w5.alloc o).alloc o').heap.size=w5.heap.size+2:=(by grind [size_alloc]);refine yY (j:=2) GP J gn (by grind [dX,SP.ext,Hid.out]) zo (by grind [dX,dc.bK,Hid.out]) ?_
       (by grind [trans,bB.alloc,bB.trans,Hid.out])
      refine Ea zg (by grind [Fh,size_alloc]) (abY zg (dX (blk_alloc_new _ _)) ?_ ?_) KU
      .exact eL.mono zg
        (by grind [dX,dc.lG,Hid.out]) _ _ Xf.out
      .exact eL.mono zg
        (by grind [dX]) _ _ HV5.out)
    ·(
      go_wp2_with fail
      refine(qM uC.out _ (by simpa using qQ) HSD.out).mono ?_;rintro e w4 ⟨rfl,rfl⟩;have aGp:=a08 qQ;clear qQ
      go_wp2_with fail
      refine⟨⟨j+1,zo,zs,fun j' Xn=>?_⟩,?_⟩
      .rcases Nat.lt_or_ge j' j with h | h
       .exact Fl.out j' h
       .obtain rfl:j'=j:=zo;simpa using aGp.out
      .simp only[intOf];omega)
   .have:j=9:=zo;subst this;have ye:MV T k2=none:=aiU fun j' Xn=>by rw[<- Tn.out];exact Fl.out j' Xn
    have e:=HE.out;rw[ye] at e;dsimp only at e;have mU:=(al2 T (fun k hk=>by
     rcases Nat.lt_or_ge k T.length with h | h
     .obtain⟨c,r,e1,_⟩:=H.out.tw.words _ (Ky h) hk;rw[e1];simp
     .rw[show tk T k=tk T T.length by simp [tk,List.getD_eq_getElem?_getD,List.getElem?_eq_none h]] at hk;simp [tk] at hk) f).oper _ _ _ _ _ _ _ HR.out
    have xn:eL (Nu w w3) w3 (pp bx) x:=eL.mono (F:=Nu w1 w3) zg zg _ _ Xf.out;have hle:P.I1 (tk T k).pos x k2 v2=O q:=e;have HVV:=a08 xn;have HLE:=a08 hle;have HNM:=a08 mU;clear xn hle mU e HE ye a0 a1 a2 a3 a4 a5 a6 a7 a8
    go_upto_region 19 with(fail)
    exact aEn _ _ _ _ _ _ _ _ _ _ _ _ _ _ _ _ _ _ _ _ _ _ _ _ _ _ _ _ _ _ _ _ _ _ _ _ _ _ _ _ _ _ _ _ _ _ _ _ _ _ _ _ _ _ _ _ _ _ _ _ _ _ _ _ _ _ _ _ _ _ _ _ _ _ _ _ _ _ _ _ _ _ _ _ _ _ _ _ _ _ _ _ _ _ _ _ _ _ _ _ _ _ _ _ _ _ _ _ _ _ _ _ _ _ _ _ _ _ _ _ _ _ _ _ _ _ _ _ _ _ _ _ _ _ _ _ _ _ _ _ _ _ _ _ _ _ _ _ _ _ _ _ _ _ _ _ _ uC.out hd (iD.out.trans oA.out) gn zo Xh.out HVV.out HNM.out HLE.out _ _ (by assumption) (by assumption))
theorem aGt(m:P1 f)(n:KT f):P1 (f+1):=⟨by
 intro pb tb T k vars d w q b e o a;by_cases c:d+1<=8
 .rw[nQ,bI (by grind [P.maxDepth])] at a;by_cases g:dQ T k [33]=A
  .rw[zip g] at a;simp only[a07] at a;subst a;exact aEc b c g
  rw[bI g] at a;have h:dQ T k [33]=false:=zg;by_cases i:dQ T k [92,43]=A
  .rw[zip i] at a;cases hr:nQ T f (k+1) vars (d+1) with
   | none=>rw[hr] at a;simp [cd.bind] at a
   | some r=>rw[hr] at a;exact aEd m b e c h i hr a
  rw[bI i] at a;have l:dQ T k [92,43]=false:=zg;by_cases j:dQ T k [40]=A
  .rw[zip j] at a;cases hr:mT T f (k+1) vars (d+1) with
   | none=>rw[hr] at a;simp [cd.bind] at a
   | some r=>rw[hr] at a;exact aEf n b e c h l j hr a
  rw[bI j] at a;have p:dQ T k [40]=false:=zg;cases hr:gW T f 0 k vars (d+1) with
  | none=>rw[hr] at a;simp [cd.bind] at a
  | some r=>rw[hr] at a;exact aGm b e c h l p hr a
 .rw[nQ,zip (by grind [P.maxDepth])] at a;simp only[a07] at a;subst a;exact aEb b zo o⟩
def aGu(f:Nat):P1 f/\P2 f/\KT f:=by
 induction f using Nat.strongRecOn with
 | ind f ih=>
  cases f with
  | zero=>exact⟨⟨fun _ _ _ h=>by simp [nQ] at h⟩,alQ,aD9⟩
  | succ f=>
   have a:=ih f (Nat.lt_succ_self _);grind [aDT,aGt,aEa]
def al5(f:Nat):KT f:=(aGu f).2.2
