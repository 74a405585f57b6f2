/- A part of one proof (SBody, SBody2, SLit, SLit2, SIdxArr, PureN, SLitEnd, SLit3, SJoin). -/
import Derived.Test.YtoegidfbnkaabaaGreatDoorPkLAI
import Derived.StillTailTactics
import Derived.Deep.Cut
set_option linter.all false
set_option maxRecDepth 100000
set_option maxHeartbeats 8000000
open Option renaming some → O, none → V
open Go renaming Value → Y, World → Z
open Bool renaming true → A, false → G
open Go.Obj renaming cells → ae
open Option.some renaming injEq → a1o
open Go.Lib renaming hid → a1p
open Go.Value renaming slice → a1D, ownBlock → a2f
open Go.Obj renaming cells → a17
open Array renaming getElem?_eq_getElem → a23
open Go.Proofs.Tryz renaming prog → bbu
open Go.Proofs.Tryz
namespace Go.Proofs.YtoegidfbnkaabaaGreatDoor
open P
open Go.RowKit
variable{T:List P.Tok}{W w w0 w2 w3:Z}{av tv vv:Y}{bx cap d f g k k' n pb so tb:Nat}{vars:List Bs}
def P.isArrow(x:Bd):Prop:=x.kind=63/\x.parts.length=2
instance (x:Bd):Decidable (P.isArrow x):=by unfold P.isArrow;infer_instance
def P.PI(T:List P.Tok)(f a:Nat)(v1:List Bs)(d:Nat)(x:Bd):Option (cj Bd):=
 if P.isArrow x then
  if dZ T a [59] then cj.bind (qx T f (a+1) v1 d) fun c e v3=>O (.ok (.mk 63 [] [] (x.parts++[c])) e v3)
  else O (.ok (.mk 63 [] [] (x.parts++[Ac])) a v1)
 else if dZ T a [59] then cj.bind (qx T f (a+1) v1 d) fun b g v2=>O (.ok (.mk 59 [] [] [x,b]) g v2) else O (.ok x a v1)
def P.alH{x:Bd}(h:P.whole x):¬ P.isArrow x:=by
 cases x with
 | mk kind name args parts=>
  rintro ⟨a,b⟩;have:=h a;grind [Bd.parts]
def P.aDL(T:List P.Tok)(f k:Nat)(vars:List Bs)(d:Nat) :
  mS T (f+1) k vars d=cj.bind (P.Td T f k vars d) fun x b v1=>P.PI T f b v1 d x:=by
 rw[mS,P.Td];cases g:oo T f k vars d with
 | none=>rfl
 | some q=>
  cases q with
  | err c a=>rfl
  | ok x b v1=>
   have hw:=P.alH ((acA T f).row _ _ _ _ _ _ g);by_cases e:dZ T b [45,62]=A
   .simp only[cj.bind,zip e];cases h:oo T f (b+1) v1 d with
    | none=>rfl
    | some q=>
     cases q with
     | err c a=>rfl
     | ok y i v2=>
      have:P.isArrow (Bd.mk 63 [] [] [x,y]):=⟨J,J⟩;simp only[P.PI,zip this];rfl
   .simp only[cj.bind,bM e,P.PI,bM hw]
def alI{a b c:Bd}(E:Nu w0 W n)(F:Nu w0 W g)(l:n≠g)(H:w0.heap.size<=W.heap.size)(I:pb<w0.heap.size)
  (p:W.heap[n]?=aO #[.int .u8 63,aT [],bW,cS g 2 2] 149)
  (q:dJ (fun m=>Nu w0 W m/\m≠n/\m≠g) W tv a) (r:dJ (fun m=>Nu w0 W m/\m≠n/\m≠g) W vv b) (s:dJ (fun m=>Nu w0 W m/\m≠n/\m≠g) W av c)
  (f:w2.ownsRow w0.heap.size 84 1 (cS cap (2+1) k') (2+1) ([tv,vv]++[av])) (i:(W.alloc (ae #[av] 84)).grownBy w2 (a1D (O ⟨g,0,V⟩) 2 2).ownBlock)
  (t:(a1D (O ⟨cap,0,V⟩) (2+1) k').ownBlock=(a1D (O ⟨g,0,V⟩) 2 2).ownBlock\/∀ k,(a1D (O ⟨cap,0,V⟩) (2+1) k').ownBlock=O k->(W.alloc (ae #[av] 84)).heap.size<=k) :
  (∃ cs:Array Y,w2.heap[n]?=aO cs 149/\cs.size=4)/\W.heap.size<w2.heap.size/\(∀ (m:Nat) (o:Obj),m≠n->m≠g->W.heap[m]?=O o->(w2.setCell ⟨n,3,V⟩ (cS cap (2+1) k')).heap[m]?=O o) /\
   dJ (Nu w0 w2) (w2.setCell ⟨n,3,V⟩ (cS cap (2+1) k')) (pp n) (.mk 63 [] [] [a,b,c]):=by
 have u:=i.size;rw[size_alloc] at u;have w:∀ (m:Nat) (o:Obj),m≠g->W.heap[m]?=O o->w2.heap[m]?=O o:=fun m o y z=>by
  have j:=dR (o:=a17 #[av] 84) z;rw[i.block m (bg j) (fun e=>y (by simp only[a2f] at e;injection e))];exact j
 have B:=w n _ l p;have K:∀ (m:Nat) (o:Obj),m≠n->w2.heap[m]?=O o->(w2.setCell ⟨n,3,V⟩ (cS cap (2+1) k')).heap[m]?=O o:=(by grind [blk_setCell_other]);have C:cap≠n:=by
  rcases t with h | h
  .grind [a2f]
  .have:=h cap J;grind [size_alloc]
 refine⟨zg,zo,zg,?_⟩;have D:fJ (fun m=>Nu w0 w2 m/\m≠n) w2 84 (cS cap (2+1) k') ([tv,vv]++[av]):=EZ f fun m hm=>⟨f.lt m hm,by grind [a2f]⟩;have d:∀ {v:Y} {x:Bd},dJ (fun m=>Nu w0 W m/\m≠n/\m≠g) W v x->dJ (Nu w0 w2) (w2.setCell ⟨n,3,V⟩ (cS cap (2+1) k')) v x:=fun h=>
  dJ.mono zg zg _ _ h
 refine DU zg (by rw[Ba B];rfl) Iz ⟨_,D.mono zg zg,?_⟩;unfold gy;refine⟨tv,[vv,av],J,d q,?_⟩;unfold gy;refine⟨vv,[av],J,d r,?_⟩;unfold gy;exact⟨av,[],J,d s,by unfold gy;rfl⟩
def aDM(eG:PH f)(Kt:∀ m,m<f->Kr m){r:cj Bd}(pw:SP w0 pb tb T k vars d)(pS:mY w0 tb)(hd:d<=8)
  (h:mS T (f+1) k vars d=O r):Calls bbu 53 #[pp pb] w0 (jW dJ pb tb T d w0 r):=by
 rw[P.aDL] at h;have Tc:=a1p pw;have IA:=a1p pS;have HR:=a1p h;have xJ:=pw.d2.2.2;have wQ:=pw.lt;obtain⟨i0,hi,Kg,Kh,Ki⟩:=info_parts alD;clear pw h pS
 go_enter_defers func53,ntmps53
 go_wp2_with fail
 cases hq:P.Td T f k vars d with
 | none=>have e:=HR.out;rw[hq] at e;simp [cj.bind] at e
 | some q=>
 have e:=HR.out;rw[hq] at e;refine(aDJ eG Tc.out IA.out hd hq).mono ?_;cases q with
 | err c0 a0=>
  rintro e2 w4 ⟨⟨b,rfl,eL,gz⟩,dU,gJ⟩;simp only[cj.bind,a1o] at e;subst e;exact⟨⟨b,J,eL,gz⟩,dU,gJ⟩
 | ok x k1 v1=>
 rintro e2 w1 ⟨v,rfl,hv,dE,gj⟩;simp only[cj.bind] at e;have pR:=gj.size;have ku:=a1p dE;have ix:=a1p gj;have jP:=dE.d2.2.2;clear dE gj hq HR;rcases hv with⟨hw,nW⟩| ⟨a,b,n,g,va,vb,rfl,rfl,hn,hg,Xc,xP,Ct,ha,hb⟩
 .rw[P.PI,bM (P.alH hw)] at e;have HE:=a1p e;have HV:=a1p nW;cases x with
  | mk kind name args parts=>
  unfold dJ at nW;obtain⟨n,av,pv,vs,us,rfl,hn,xP,h4,h5,h6,h7⟩:=nW;obtain⟨pa,pn,pc,rfl,Cx,-,-⟩:=h6.shape;have hlen:=h7.length;have c0:w1.cell? ⟨n,0,V⟩=O (.int .u8 kind):=cellOf xP J;have c3:w1.cell? ⟨n,3,V⟩=O (.slice pa pn pc):=cellOf xP J;have xQ:n<w1.heap.size:=hn.2;have nT:kind=63/\pn=3\/((kind:Int) == 63)=false:=by
   by_cases hk:kind=63
   .exact .inl ⟨hk,by have:=hw hk;omega⟩
   grind
  clear h4 h5 h6 h7 hw xP hn e hlen Cx;rcases nT with⟨rfl,rfl⟩| yJ;all_goals (
   by_cases hs:dZ T k1 [59]=A
   .go_wp2_with fail
    refine(vh ku.out [59] hs).mono ?_;rintro e w2 ⟨rfl,fa,eW⟩;have iO:=a1p fa;have fO:=a1p eW;have rj:=eW.size;clear fa eW c0 c3
    go_wp2_with fail
    have e:=HE.out;rw[zip hs] at e;cases f with
    | zero=>simp [qx,cj.bind] at e
    | succ f=>
    rw[qx] at e;by_cases oT:P.maxDepth<d+1
    .rw[zip oT] at e;simp only[cj.bind,a1o] at e;subst e;refine(WI iO.out oT zo).mono ?_;rintro e w3 ⟨⟨b,rfl,eL,gz⟩,dU,gJ⟩;exact⟨⟨b,J,eL,zo⟩,(ix.out.trans fO.out).trans dU,gJ⟩
    rw[bM oT] at e;have Bg:d+1<=8:=by unfold P.maxDepth at oT;omega
    refine(An iO.out Bg).mono ?_;rintro e2 w3 ⟨rfl,gJ,Cy,gH,dU⟩;have Xd:=a1p Cy;have oB:=a1p dU;have uA:=a1p gH;have GA:=a1p e;have Te:=a1p gJ;clear Cy dU gH e hs gJ oT
    go_wp2_with fail
    have e:=GA.out;cases hq:mS T f (k1+1) v1 (d+1) with
    | none=>rw[hq] at e;simp [cj.bind] at e
    | some q=>
    rw[hq] at e;refine((Kt f zo).go uA.out (IA.out.fr ((ix.out.trans fO.out).trans oB.out) wQ) zo hq).mono ?_;have gJ:=Te.out;cases q with
    | err c0 a0=>
     rintro e2 w4 ⟨⟨b,rfl,eL,gz⟩,ez,vn⟩;simp only[cj.bind,a1o] at e;subst e;exact tN xJ vn (by grind [db.bJ,Hid.out]) ⟨b,J,eL,zo⟩ (by grind [trans,bB.trans,Hid.out])
    | ok y k2 v2=>
    rintro e2 w4 ⟨v,rfl,hv,jY,ez⟩;simp only[cj.bind,a1o] at e;subst e;obtain⟨GP,rfl,oq⟩:=hv.shape;have Bm:=ez.size;have M0:=a1p hv;have tP:=a1p jY;have tQ:=a1p ez;clear hv jY ez oq hq HE GA gJ
    go_wp2_with fail
    have gJ:=Te.out;have gT:∀ o o',((w4.alloc o).alloc o').heap.size=w4.heap.size+2:=(by grind [size_alloc]);refine yI (j:=2) Gw J xJ (by grind [dR,SP.ext,Hid.out]) zo (by grind [dR,db.bJ,Hid.out]) ?_
     (by grind [trans,bB.alloc,bB.trans,Hid.out])
    refine DU zg (by grind [EY,size_alloc]) Iz (aDD zg (dR (blk_alloc_new _ _)) ?_ ?_)
    .exact dJ.mono zg
      (by grind [dR,db.lF,Hid.out]) _ _ HV.out
    .exact dJ.mono zg
      (by grind [dR]) _ _ M0.out
   .go_wp2_with fail
    refine(qD ku.out [59] (by simpa using hs) zd).mono ?_;rintro e w2 ⟨rfl,rfl⟩
    go_wp2_with fail
    have e:=HE.out;rw[bM hs,a1o] at e;subst e;exact⟨_,results_tmp J _ _ _,pp _,J,HV.out,ku.out,ix.out⟩)
 .have HE:=a1p e;have c0:w1.cell? ⟨n,0,V⟩=O (.int .u8 63):=cellOf xP J;have c3:w1.cell? ⟨n,3,V⟩=O (cS g 2 2):=cellOf xP J;have xQ:n<w1.heap.size:=hn.2;have SZ:w0.heap.size<=n:=hn.1;have Bp:g<w1.heap.size:=hg.2;have xL:w0.heap.size<=g:=hg.1;have hF:=(P.PI T f k1 v1 d (.mk 63 [] [] [a,b]));have ll:P.isArrow (Bd.mk 63 [] [] [a,b]):=⟨J,J⟩;rw[P.PI,zip ll] at e;have HEB:=a1p e;have alJ:=a1p xP;have alK:=a1p Ct;have HA1:=a1p ha;have HB1:=a1p hb;clear xP Ct ha hb hn hg e HE ll hF;generalize hfo:(a17 #[.int .u8 103,aT [102,97,105,108],bW,bW] 149)=fo;have HPF:=a1p (ku.out.ext (w':=w1.alloc fo) fun b o h=>dR h);have Xe:Hid (db pb w0 (w1.alloc fo)):=a1p (ix.out.alloc _);have HNF:Hid ((w1.alloc fo).heap[n]?=_):=a1p (dR alJ.out);have HGF:Hid ((w1.alloc fo).heap[g]?=_):=a1p (dR alK.out);have aDQ:Hid (w0.heap.size<=(w1.alloc fo).heap.size):=(by grind [a1p,size_alloc]);subst hfo;by_cases hs:dZ T k1 [59]=A
  .go_wp2_with fail
   refine(vh HPF.out [59] hs).mono ?_;rintro e w2 ⟨rfl,fa,eW⟩;have iO:=a1p fa;have fO:=a1p eW;have rj:=eW.size;rw[size_alloc] at rj;clear fa eW c0 c3
   go_wp2_with fail
   have e:=HEB.out;rw[zip hs] at e;cases f with
   | zero=>simp [qx,cj.bind] at e
   | succ f=>
   rw[qx] at e;by_cases oT:P.maxDepth<d+1
   .rw[zip oT] at e;simp only[cj.bind,a1o] at e;subst e;refine(WI iO.out oT zo).mono ?_;rintro e w3 ⟨⟨b,rfl,eL,gz⟩,dU,gJ⟩;exact⟨⟨b,J,eL,zo⟩,(Xe.out.trans fO.out).trans dU,gJ⟩
   rw[bM oT] at e;have Bg:d+1<=8:=by grind [P.maxDepth]
   refine(An iO.out Bg).mono ?_;rintro e2 w3 ⟨rfl,gJ,Cy,gH,dU⟩;have Xd:=a1p Cy;have oB:=a1p dU;have uA:=a1p gH;have GA:=a1p e;have Te:=a1p gJ;clear Cy dU gH e hs gJ oT
   go_wp2_with fail
   have e:=GA.out;cases hq:mS T f (k1+1) v1 (d+1) with
   | none=>rw[hq] at e;simp [cj.bind] at e
   | some q=>
   rw[hq] at e;refine((Kt f zo).go uA.out (IA.out.fr ((Xe.out.trans fO.out).trans oB.out) wQ) zo hq).mono ?_;have gJ:=Te.out;cases q with
   | err c0 a0=>
    rintro e2 w4 ⟨⟨b,rfl,eL,gz⟩,ez,vn⟩;simp only[cj.bind,a1o] at e;subst e;exact tN xJ vn (by grind [db.bJ,Hid.out]) ⟨b,J,eL,zo⟩ (by grind [trans,bB.trans,Hid.out])
   | ok y k2 v2=>
   rintro e2 w5 ⟨v,rfl,hv,oC,iP⟩;simp only[cj.bind,a1o] at e;subst e;obtain⟨GP,rfl,oq⟩:=hv.shape;have hz5:=iP.size;have HV5:=a1p hv;have Xf:=a1p oC;have PJ:=a1p iP;have HK5:Hid (∀ (m:Nat) (cs:Array Y) (t:TypeId) (z:Nat×Nat),m<w1.heap.size->m≠pb->t≠9->w1.heap[m]?=O (ae cs t z)->w5.heap[m]?=O (ae cs t z)):=
    (by grind [a1p,db.bJ,dR,Hid.out])
   have HXS:Hid (w5.heap[w2.heap.size]?=_):=a1p (db.bJ iP Xd.out zo zd);have aDR:Hid (w0.heap.size<=w5.heap.size):=zg;have HN:Hid (Nu w0 w5 n):=zg;have HG:Hid (Nu w0 w5 g):=zg;have HN5:Hid (w5.heap[n]?=_):=a1p (HK5.out _ _ _ _ xQ zo zd alJ.out);have HG5:Hid (w5.heap[g]?=_):=a1p (HK5.out _ _ _ _ Bp zo zd alK.out);have gT:∀ {v:Y} {x:Bd},dJ (fun m=>Nu w0 w1 m/\m≠n/\m≠g) w1 v x->dJ (fun m=>Nu w0 w5 m/\m≠n/\m≠g) w5 v x:=fun h=>
    dJ.mono zg (by grind [db.lF,dR,Hid.out]) _ _ h
   have HA:=a1p (gT HA1.out);have HB:=a1p (gT HB1.out);have HCC:Hid (dJ (fun m=>Nu w0 w5 m/\m≠n/\m≠g) w5 (pp GP) y):=
    a1p (dJ.mono zg zg _ _ hv)
   have vl:Hid ((w5.alloc (ae #[pp GP] 84)).ownsRow w0.heap.size 84 1 (cS g 2 2) 2 [va,vb]):=
    a1p ⟨J,.inr ⟨g,2,_,J,xL,dR HG5.out,Nat.le_refl _,zd,J,J⟩⟩
   have HSZ:Hid (w0.heap.size<=(w5.alloc (ae #[pp GP] 84)).heap.size):=(by grind [a1p,size_alloc]);have c0:w5.cell? ⟨n,0,V⟩=O (.int .u8 63):=cellOf HN5.out J;have c3:w5.cell? ⟨n,3,V⟩=O (cS g 2 2):=cellOf HN5.out J;have aVm:n<w5.heap.size:=zo;clear hv oC iP oq hq HEB GA gJ gT
   go_wp2_with (at_builtin;go_must (refine R3 J _ _ 147 J w0.heap.size 84 i0 _ 1 8 underlying147 hi Kg Kh Ki J zd _ _ _ J vl.out ⟨w5.heap.size,0,V⟩ 1 1 [pp GP] J J (O8 J) (by simp [Value.oneCell']) (by unfold maxLen;omega) zo (by have:=HSZ.out;omega) ?_;intro v' w9 sU yT Bn;obtain⟨g2,GD,rfl⟩:=Mv sU;obtain⟨⟨cs9,GQ,alQ⟩,aDT,Tg,Th⟩:=alI HN.out HG.out Xc aDR.out xJ HN5.out HA.out HB.out HCC.out sU yT Bn;have c9:w9.cell? ⟨n,3,V⟩=O (cs9[3]' zo):=cellOf GQ (by simp [a23,alQ]);have f9:=jJ GQ 3;have l9:=bg GQ;have uz:=a1p yT;have Gz:=a1p sU;have HK9:=a1p Tg;have acH:=a1p Th;have aDV:=a1p GQ;clear sU yT Bn Tg Th GQ))
   have gJ:=Te.out;have Xg:SP w9 pb tb T k2 v2 (d+1):=(Xf.out.ext fun b o h=>dR (o:=a17 #[Value.pointer (O ⟨GP,0,V⟩)] 84) h).Ps vl.out zg xJ uz.out;have Cz:db pb w0 w9:=(((((Xe.out.trans fO.out).trans oB.out).trans PJ.out)).alloc _).Pt uz.out fun k hk=>(vl.out.lt k hk).1;refine yI (j:=2) Gw J xJ (by grind [SP.setOther,Hid.out]) zo (by grind [Hid.out]) ?_ (by grind [bB.Mu]);exact dJ.mono (by grind [size_setCell]) zg _ _ acH.out
  .have HN:Hid (Nu w0 (w1.alloc (ae #[.int .u8 103,aT [102,97,105,108],bW,bW] 149)) n):=zg;have HG:Hid (Nu w0 (w1.alloc (ae #[.int .u8 103,aT [102,97,105,108],bW,bW] 149)) g):=zg;have HA:Hid (dJ (fun m=>Nu w0 (w1.alloc (ae #[.int .u8 103,aT [102,97,105,108],bW,bW] 149)) m/\m≠n/\m≠g) (w1.alloc (ae #[.int .u8 103,aT [102,97,105,108],bW,bW] 149)) va a):=
    a1p (dJ.mono (by grind [size_alloc]) (by grind [dR]) _ _ HA1.out)
   have HB:Hid (dJ (fun m=>Nu w0 (w1.alloc (ae #[.int .u8 103,aT [102,97,105,108],bW,bW] 149)) m/\m≠n/\m≠g) (w1.alloc (ae #[.int .u8 103,aT [102,97,105,108],bW,bW] 149)) vb b):=
    a1p (dJ.mono (by grind [size_alloc]) (by grind [dR]) _ _ HB1.out)
   have HCC:Hid (dJ (fun m=>Nu w0 (w1.alloc (ae #[.int .u8 103,aT [102,97,105,108],bW,bW] 149)) m/\m≠n/\m≠g) (w1.alloc (ae #[.int .u8 103,aT [102,97,105,108],bW,bW] 149)) (pp w1.heap.size) Ac):=
    a1p (DU (by grind [size_alloc]) (blk_alloc_new _ _) Iz Ks)
   have HCN:=HNF;have vl:Hid (((w1.alloc (ae #[.int .u8 103,aT [102,97,105,108],bW,bW] 149)).alloc (ae #[pp w1.heap.size] 84)).ownsRow w0.heap.size 84 1 (cS g 2 2) 2 [va,vb]):=
    a1p ⟨J,.inr ⟨g,2,_,J,xL,dR HGF.out,Nat.le_refl _,zd,J,J⟩⟩
   have HSZ:Hid (w0.heap.size<=((w1.alloc (ae #[.int .u8 103,aT [102,97,105,108],bW,bW] 149)).alloc (ae #[pp w1.heap.size] 84)).heap.size):=(by grind [a1p,size_alloc])
   go_wp2_with fail
   refine(qD HPF.out [59] zg zd).mono ?_;rintro e w2 ⟨rfl,rfl⟩
   go_wp2_with (at_builtin;go_must (refine R3 J _ _ 147 J w0.heap.size 84 i0 _ 1 8 underlying147 hi Kg Kh Ki J zo _ _ _ J vl.out ⟨w1.heap.size+1,0,V⟩ 1 1 [pp w1.heap.size] J J (by grind [O8,size_alloc]) (by simp [Value.oneCell']) (by grind [maxLen]) zo (by have:=HSZ.out;omega) ?_;intro v' w9 sU yT Bn;obtain⟨g2,GD,rfl⟩:=Mv sU;obtain⟨⟨cs9,GQ,alQ⟩,aDT,Tg,Th⟩:=alI HN.out HG.out Xc aDQ.out xJ HCN.out HA.out HB.out HCC.out sU yT Bn;have c9:w9.cell? ⟨n,3,V⟩=O (cs9[3]' zo):=(by grind [cellOf,a23]);have f9:=jJ GQ 3;have l9:=bg GQ;have uz:=a1p yT;have Gz:=a1p sU;have HK9:=a1p Tg;have acH:=a1p Th;have aDV:=a1p GQ;clear sU yT Bn Tg Th GQ))
   have e:=HEB.out;rw[bM hs,a1o] at e;subst e;have Xg:SP w9 pb tb T k1 v1 d:=(HPF.out.ext fun b o h=>dR (o:=a17 #[Value.pointer (O ⟨w1.heap.size,0,V⟩)] 84) h).Ps vl.out zg xJ uz.out;have Cz:db pb w0 w9:=(Xe.out.alloc _).Pt uz.out fun k hk=>(vl.out.lt k hk).1;refine⟨_,results_tmp J _ _ _,pp n,J,?_,(by grind [SP.setOther,Hid.out]),(by grind [bB.Mu])⟩;exact dJ.mono (by grind [size_setCell]) zg _ _ acH.out
def aDX:Kr 0:=⟨fun _ _ _ h=>by simp [mS] at h⟩
theorem aDY(a:PH f)(b:∀ m,m<f->Kr m):Kr (f+1):=⟨fun c d e h=>aDM a b c d e h⟩
def aDZ(hp:SP w pb tb T k vars d)(hd:8<d+1)(vi:d<=8) :
  Calls bbu 115 #[pp pb] w (jW dJ pb tb T d w (.err 4 (tk T k).pos)):=by
 have H:=a1p hp;clear hp
 go_enter_defers func115,ntmps115
 go_wp2_with fail
 refine(WI H.out hd zo).mono ?_;rintro e w1 ⟨⟨b,rfl,hb⟩,hf,hs⟩;exact⟨⟨b,J,hb⟩,hf,hs⟩
def aD0(hp:SP w pb tb T k vars d)(hd:d+1<=8)(h1:dZ T k [33]=A) :
  Calls bbu 115 #[pp pb] w (jW dJ pb tb T d w (.ok (.mk 33 [] [] []) (k+1) vars)):=by
 have H:=a1p hp;have fZ:=hp.d2.2.2;clear hp
 go_enter_defers func115,ntmps115
 go_wp2_with fail
 refine(An H.out hd).mono ?_;rintro e w1 ⟨rfl,dX,iV,dE,gj⟩;have mm:=a1p iV;have ix:=a1p gj;have ku:=a1p dE;have nU:=a1p dX;clear iV gj dE dX
 go_wp2_with fail
 refine(vh ku.out [33] h1).mono ?_;rintro e w2 ⟨rfl,fa,eW⟩;have iO:=a1p fa;have fO:=a1p eW;clear fa eW h1
 go_wp2_with fail
 have dX:=nU.out;have rj:=fO.out.size;refine yI (j:=2) Gw J fZ (iO.out.ext (by grind [dR])) zo (by grind [dR,db.bJ,Hid.out]) ?_ ((ix.out.trans fO.out).alloc _);exact DU (by grind [size_alloc]) (blk_alloc_new _ _) Iz Ks
def aD1(Nc:PG f)(hp:SP w pb tb T k vars d)(hc:mY w tb)(hd:d+1<=8)(h1:dZ T k [33]=G)(h2:dZ T k [92,43]=A)
  {r:cj Bd} (hr:nQ T f (k+1) vars (d+1)=O r) {q:cj Bd} (hq:cj.bind (O r) (fun b k' vars'=>O (.ok (Bd.mk 126 [] [] [b]) k' vars'))=O q) :
  Calls bbu 115 #[pp pb] w (jW dJ pb tb T d w q):=by
 have H:=a1p hp;have HC:=a1p hc;have HR:=a1p hr;have HQ:=a1p hq;have H1:=a1p h1;have H2:=a1p h2;have fZ:=hp.d2.2.2;have wQ:=hp.lt;clear hp hc hr hq h1 h2
 go_enter_defers func115,ntmps115
 go_wp2_with fail
 refine(An H.out hd).mono ?_;rintro e w1 ⟨rfl,dX,iV,dE,gj⟩;have mm:=a1p iV;have ix:=a1p gj;have ku:=a1p dE;have nU:=a1p dX;clear iV gj dE dX
 go_wp2_with fail
 refine(qD ku.out [33] H1.out zd).mono ?_;rintro e w2 ⟨rfl,rfl⟩
 go_wp2_with fail
 refine(vh ku.out [92,43] H2.out).mono ?_;rintro e w3 ⟨rfl,gH,dU⟩;have uA:=a1p gH;have oB:=a1p dU;clear gH dU
 go_wp2_with fail
 refine(Nc.go uA.out (HC.out.fr (ix.out.trans oB.out) wQ) zo HR.out).mono ?_;have dX:=nU.out;have E3:=oB.out.size;have e:=HQ.out;cases r with
 | err c0 a0=>
  rintro e2 w4 ⟨⟨b,rfl,eL,gz⟩,ez,vn⟩;simp only[cj.bind,a1o] at e;subst e;exact tN fZ vn (by grind [db.bJ,Hid.out]) ⟨b,J,eL,zo⟩ ((ix.out.trans oB.out).trans ez)
 | ok y k2 v2=>
 rintro e2 w4 ⟨v,rfl,hv,jY,ez⟩;simp only[cj.bind,a1o] at e;subst e;obtain⟨GP,rfl,oq⟩:=hv.shape;have Bm:=ez.size;have M0:=a1p hv;have tP:=a1p jY;have tQ:=a1p ez;clear hv jY ez oq dX HQ
 go_wp2_with fail
 have dX:=nU.out;have gT:∀ o o',((w4.alloc o).alloc o').heap.size=w4.heap.size+2:=(by grind [size_alloc]);refine yI (j:=2) Gw J fZ (by grind [dR,SP.ext,Hid.out]) zo (by grind [dR,db.bJ,Hid.out]) ?_
  (by grind [trans,bB.alloc,bB.trans,Hid.out])
 refine DU zg (by grind [EY,size_alloc]) Iz (aDC zg (dR (blk_alloc_new _ _)) ?_);exact dJ.mono zg (by grind [dR]) _ _ M0.out
def TW.paren(h:TW T)(hk:k<T.length)(hi:dZ T k [40]=A):(tk T k).kind=4/\(tk T k).text=[40]:=by
 unfold dZ at hi;simp only[Bool.and_eq_true,Bool.or_eq_true,beq_iff_eq] at hi;obtain⟨a,b⟩:=hi;refine⟨?_,b⟩;rcases a with a | a
 .omega
 .obtain⟨c,r,d,e⟩:=h.words _ (J7 hk) a;rw[b] at d;cases d;exact absurd e zd
def aD2(hi:dZ T k [40]=G):(tk T k).kind≠4\/(tk T k).text≠[40]:=by
 grind [dZ,tk]
def aD3(Kt:Kr f)(hp:SP w pb tb T k vars d)(hc:mY w tb)(hd:d+1<=8)(h1:dZ T k [33]=G)(h2:dZ T k [92,43]=G)
  (h3:dZ T k [40]=A)
  {r:cj Bd} (hr:mS T f (k+1) vars (d+1)=O r) {q:cj Bd} (hq:cj.bind (O r) (fun b k' vars'=>mR T [41] b k' vars')=O q) :
  Calls bbu 115 #[pp pb] w (jW dJ pb tb T d w q):=by
 have H:=a1p hp;have HC:=a1p hc;have HR:=a1p hr;have HQ:=a1p hq;have H1:=a1p h1;have H2:=a1p h2;have H3:=a1p h3;have HK:=a1p (hp.tw.paren hp.kt h3);have fZ:=hp.d2.2.2;have wQ:=hp.lt;clear hp hc hr hq h1 h2 h3
 go_enter_defers func115,ntmps115
 go_wp2_with fail
 refine(An H.out hd).mono ?_;rintro e w1 ⟨rfl,dX,iV,dE,gj⟩;have mm:=a1p iV;have ix:=a1p gj;have ku:=a1p dE;have nU:=a1p dX;clear iV gj dE dX
 go_wp2_with fail
 refine(qD ku.out [33] H1.out zd).mono ?_;rintro e w2 ⟨rfl,rfl⟩
 go_wp2_with fail
 refine(qD ku.out [92,43] H2.out zd).mono ?_;rintro e w2 ⟨rfl,rfl⟩;have dE:=ku.out;obtain⟨n,c,h0,f0,hb,l1,l2,l3,l4,fa,eW⟩:=dE.on (by have:=HK.out;omega);obtain⟨t0,t1,t2⟩:=dE.toks.at dE.kt;have xI:tb<w1.heap.size:=zo;have ee:¬ tb=pb:=zo;have SD:¬ pb=tb:=zo;have iO:=a1p fa;have fO:=a1p eW;rw[HK.out.1] at t0;rw[HK.out.2] at t1;clear dE fa eW t2
 go_wp2_with fail
 refine(Kt.go iO.out (HC.out.fr (ix.out.trans fO.out) wQ) zo HR.out).mono ?_;have dX:=nU.out;have rj:=fO.out.size;have e:=HQ.out;have rM:((Gv w1 pb tb k n c)).heap[w.heap.size]?=_:=fO.out.bJ mm.out zo zd;cases r with
 | err c0 a0=>
  rintro e2 w4 ⟨⟨b,rfl,eL,gz⟩,ez,vn⟩;simp only[cj.bind,a1o] at e;subst e;exact tN fZ vn (by grind [db.bJ]) ⟨b,J,eL,zo⟩ ((ix.out.trans fO.out).trans ez)
 | ok y k2 v2=>
 rintro e2 w4 ⟨v,rfl,hv,jY,ez⟩;simp only[cj.bind] at e;obtain⟨GP,rfl,oq⟩:=hv.shape;have Bm:=ez.size;have M0:=a1p hv;have tP:=a1p jY;have tQ:=a1p ((ix.out.trans fO.out).trans ez);have HX4:=a1p (ez.bJ rM zo zd);have HE:=a1p e;have HBY:=a1p oq;clear hv jY ez oq HQ rM h0 f0 t0 t1 e;have aVo:w.heap.size+1<=w4.heap.size:=zo;have acI:w.heap.size+1<=(Gv w1 pb tb k n c).heap.size:=zo;have aD4:=a1p acI;clear dX rj Bm acI
 go_wp2_with fail
 have e:=HE.out;unfold mR at e;by_cases hm:dZ T k2 [41]=A
 .rw[zip hm,a1o] at e;subst e;refine(Sz tP.out [41] hm).mono ?_;rintro e w5 ⟨rfl,oC,iP⟩;have Xf:=a1p oC;have PJ:=a1p iP;clear oC iP hm HE
  go_wp2_with fail
  have hz5:=PJ.out.size;have acI:=aD4.out;refine yI (j:=2) Gw J fZ Xf.out zo (by grind [db.bJ,Hid.out]) ?_ (tQ.out.trans PJ.out);exact Gw _ _ _ _ _ _ _ M0.out PJ.out zg
 .rw[bM hm,a1o] at e;subst e;refine(SA tP.out [41] zg zd).mono ?_;rintro e w5 ⟨⟨b,rfl,eL,gz⟩,iP,xM⟩;exact tN fZ xM (by grind [db.bJ,Hid.out]) ⟨b,J,eL,zo⟩ (tQ.out.trans iP)
def aD5(a b c d e f g h i:Bs)(j:Nat)(hj:j<9)(v:Y)(hv:(#[Value.string (bs a),aT b,aT c,aT d,aT e,aT f,aT g,aT h,aT i]:Array Y)[j]?=O v)(w:Z) :
  (Instr.index 282 (.agg #[Value.string (bs a),aT b,aT c,aT d,aT e,aT f,aT g,aT h,aT i]) (zi j)).run bbu w = .ok v w:=by
 have e1:(sizeOf 9).run bbu w = .ok 1 w:=by simp [go_sem,sizeOf9,isAgg9]
 have e2:(isAgg 9).run bbu w = .ok G w:=by simp [go_sem,sizeOf9,isAgg9]
 simp [Instr.index,run_underlying underlying282,asIntOf,hj,go_sem,e1,e2];grind
namespace P
def named(x:Ex):Prop:=x.kind=97\/x.kind=99->x.name≠[]
theorem aD6{t:Tok}{v v':List Bs}{x:Ex}(h:Aa t k v = .ok x k' v'):named x:=by
 grind [Aa,named,Ex.kind]
theorem alR{all:List Ex}{x:Ex}(hx:named x):named (Ab all x):=by
 cases all with
 | nil=>exact hx
 | cons a l=>simp [Ab,named,Ex.name]
structure aD7(T:List Tok)(f:Nat):Prop where
 Cp:∀ k v d x k' v',oP T f k v d=O (.ok x k' v')->named x
 list:∀ k v d x k' v',qu T f k v d=O (.ok x k' v')->named x
 oper:∀ l k v d x k' v',iZ T f l k v d=O (.ok x k' v')->named x
 more:∀ l y k v d x k' v',named y->pj T f l y k v d=O (.ok x k' v')->named x
def alS(T:List Tok)(g:∀ k,(tk T k).kind=1->(tk T k).text≠[]):∀ f,aD7 T f
 | 0=>⟨by simp_all [oP],by simp_all [qu],by simp_all [iZ],by simp_all [pj]⟩
 | f+1=>by
  have ih:=alS T g f;refine⟨?_,?_,?_,?_⟩
  .intro k v d x k' v' h;rw[oP] at h;split at h
   .grind
   split at h
   .grind [a1o,cj.ok.injEq,named,Ex.kind]
   split at h
   .grind [a1o,aD6]
   split at h
   .rename_i hk;split at h
    .obtain⟨a,e,v1,c,b⟩:=eh h;rw[(oz b).2.1];exact fun _=>g k hk
    .simp only[a1o,cj.ok.injEq] at h;rw[<- h.1];exact fun _=>g k hk
   split at h
   .grind [a1o,cj.ok.injEq,named,Ex.kind]
   split at h
   .obtain⟨a,e,v1,c,b⟩:=eh h;rw[(oz b).2.1];exact ih.oper _ _ _ _ _ _ _ c
   split at h
   .exact ih.list _ _ _ _ _ _ h
   grind
  .intro k v d x k' v' h;rw[qu] at h;have n:named (.mk 97 [91,93] 0 0 []):=by simp [named,Ex.name]
   split at h
   .grind
   .obtain⟨y,e,v1,c,b⟩:=eh h;split at b
    .obtain⟨z,p,v2,i,j⟩:=eh b;rw[(oz j).2.1];exact alR (ih.oper _ _ _ _ _ _ _ i)
    grind [oz,alR]
  .intro l k v d x k' v' h;rw[iZ] at h;split at h
   .exact ih.Cp _ _ _ _ _ _ h
   .obtain⟨y,e,v1,c,b⟩:=eh h;exact ih.more _ _ _ _ _ _ _ _ (ih.oper _ _ _ _ _ _ _ c) b
  .intro l y k v d x k' v' q h;rw[pj] at h;split at h
   .grind
   .rename_i o m;obtain⟨z,e,v1,c,b⟩:=eh h;refine ih.more _ _ _ _ _ _ _ _ ?_ b;intro _;have hm:=List.mem_of_find?_eq_some m;rw[show(Ex.mk 99 o 0 0 [y,z]).name=o from rfl];rintro rfl;grind [ops]
end P
noncomputable def acJ:Code:=match Tryz.f115.body with
 | some (.seq _ (.seq _ (.seq _ (.seq _ (.seq _ (.seq _ c))))))=>c
 | _=>.skip
noncomputable def aD8:Code:=match acJ with | .seq (.seq c _) _=>c | _=>.skip
noncomputable def aD9:Code:=match acJ with | .seq (.seq _ c) _=>c | _=>.skip
noncomputable def aEa:Code:=match acJ with | .seq _ c=>c | _=>.skip
def P.IC(at_:Nat)(x:Ex)(k':Nat)(vars':List Bs):Option (cj Bd):=
 if EO x then O (.err 2 at_)
 else if 0<=jw x.name/\jw x.name≠x.args.length then O (.err 3 at_)
 else O (.ok (.mk 103 x.name x.args []) k' vars')
def P.alT{name:Bs}{a:Int}{args:List Ex}{t:Int}(b:EO (.mk cap name a so args)=G)(ht:t=jw name) :
  P.IC pb (.mk cap name a so args) k' vars=if 0<=t/\t≠args.length then O (.err 3 pb) else O (.ok (.mk 103 name args []) k' vars):=by
 subst ht;unfold P.IC;rw[bM (by simp [b])];rfl
def aEb{x:Ex}{q:cj Bd}(u1 u2 u3 u6 u7 u8 u9 yN yO yP wJ wK yQ u16 yR yS Ce Cf Cg Ch Ci Cj Ck Cm Cn DL DM DN Ij u32 Ik Bl E1 Gx Gy MR MT u40 u41 u42 u43 u44 u45 u46 u47 u48 u49 u50 u51 u52 u53 u54 u55 u56 u57 u58 u59 u60 u61 u62 u63 u64 u65 u66 u67 u68 u69 u70 u71 u72 u73 u74 u75 u76 u77 u78 u79 u80 u81 u82 u83 u84 u85 u86 u87 u88 u89 u90 u91 u92 u93 u94 u95 u96 u97 u98 u99 aFa aFb aFc aFd aFe aFf aFg aFh aFi aFj aFk aFl aFm aFn aFo aFp aFq aFr aFs aFt aFu aFv aFw aFx aFy aFz aFA aFB aFC aFD aFE aFF aFG aFH aFI aFJ aFK aFL aFM aFN aFO aFP aFQ aFR aFS aFT aFU aFV aFW aFX aFY aFZ aF0 aF1 aF2 aF3 aF4 aF5 aF6 aF7:Y)
  (hp:SP w3 pb tb T so vars (d+1)) (hd:d+1<=8) (hf:db pb w w3) (fZ:pb<w.heap.size) (hb0:w.heap.size<=cap) (jB:w3.heap[cap]?=aO #[pp pb] 139)
  (hx:eP (Nu w w3) w3 (pp bx) x) (mT:P.named x) (hq:P.IC k' x so vars=O q) (K1 K:Act->Z->Prop) (hK:∀ a w',aEa.wp bbu (bodyPostD bbu Tryz.f115 (jW dJ pb tb T d w q)) a w'->K a w') (hK1:∀ a w',aD9.wp bbu (Exit.then K (bodyPostD bbu Tryz.f115 (jW dJ pb tb T d w q))) a w'->K1 a w') :
  aD8.wp bbu (Exit.then K1 (Exit.then K (bodyPostD bbu Tryz.f115 (jW dJ pb tb T d w q)))) { tmps:=#[pp pb,u1,u2,u3,zi k',pp bx,u6,u7,u8,u9,yN,yO,yP,wJ,wK,yQ,u16,yR,yS,Ce,Cf,Cg,Ch,Ci,Cj,Ck,Cm,Cn,DL,DM,DN,Ij,u32,Ik,Bl,E1,Gx,Gy,MR,MT,u40,u41,u42,u43,u44,u45,u46,u47,u48,u49,u50,u51,u52,u53,u54,u55,u56,u57,u58,u59,u60,u61,u62,u63,u64,u65,u66,u67,u68,u69,u70,u71,u72,u73,u74,u75,u76,u77,u78,u79,u80,u81,u82,u83,u84,u85,u86,u87,u88,u89,u90,u91,u92,u93,u94,u95,u96,u97,u98,u99,aFa,aFb,aFc,aFd,aFe,aFf,aFg,aFh,aFi,aFj,aFk,aFl,aFm,aFn,aFo,aFp,aFq,aFr,aFs,aFt,aFu,aFv,aFw,aFx,aFy,aFz,aFA,aFB,aFC,aFD,aFE,aFF,aFG,aFH,aFI,aFJ,aFK,aFL,aFM,aFN,aFO,aFP,aFQ,aFR,aFS,aFT,aFU,aFV,aFW,aFX,aFY,aFZ,aF0,aF1,aF2,aF3,aF4,aF5,aF6,aF7],defers:=[SG cap] } w3:=by
 change ∀ a w',Code.wp _ (Code.seq _ _) _ a w'->_ at hK;change ∀ a w',Code.wp _ (Code.cond _ _ _) _ a w'->_ at hK1;have HP:=a1p hp;have HF:=a1p hf;have Ar:=a1p jB;have HX:=a1p hx;have HQ:=a1p hq;cases x with
 | mk kind name nn kk args=>
 unfold eP at hx;obtain⟨bx',av,vs,e1,hF,nJ,h4,h5⟩:=hx;cases e1;obtain⟨pa,pn,pc,rfl,Cx,-,-⟩:=h4.shape;have hlen:=h5.length;have c0:w3.cell? ⟨bx,0,V⟩=O (.int .u8 kind):=cellOf nJ J;have c1:w3.cell? ⟨bx,1,V⟩=O (aT name):=cellOf nJ J;have c4:w3.cell? ⟨bx,4,V⟩=O (.slice pa pn pc):=cellOf nJ J;have py:=hF.2;have HA:Hid (lO (Nu w w3) w3 (.slice pa pn pc) args):=a1p ⟨vs,h4,h5⟩;have j3:pn=args.length:=zo;have hl:=bg jB;clear hF nJ h4 h5 hp hf jB hq Cx hlen;change Code.wp _ (Code.region _ _ _) _ _ _;by_cases hA:kind≠97/\kind≠99
 .have k1:((kind:Int) == 97)=false:=zg;have k2':((kind:Int) == 99)=false:=zg
  go_wp2_with fail
  refine(Cb _ _ _ pb HP.out.sb).mono ?_;rintro e2 w5 ⟨⟨b,rfl,eL,gz⟩,iP,xM⟩;have e:=HQ.out;rw[P.IC,zip (by grind [EO,Ex.kind])] at e;simp only[a1o] at e;subst e;have:=HF.out.size;exact tN fZ xM (by grind [db.bJ,Hid.out]) ⟨b,J,eL,zo⟩ (HF.out.trans iP)
 .obtain⟨cc,rr,rfl⟩:∃ cc rr,name=cc::rr:=by
   cases name with
   | nil=>exact absurd J (mT (by grind [Ex.kind]))
   | cons a l=>grind
  have nT:kind=97\/kind=99:=zo;clear hA mT HX;by_cases hB:cc::rr=[46]
  .rw[hB] at c1 HQ;rcases nT with rfl | rfl;all_goals (
    go_wp2_with fail
    refine(Cb _ _ _ pb HP.out.sb).mono ?_;rintro e2 w5 ⟨⟨b,rfl,eL,gz⟩,iP,xM⟩;have e:=HQ.out;rw[P.IC,zip (by simp [EO,Ex.name])] at e;simp only[a1o] at e;subst e;have:=HF.out.size;exact tN fZ xM (by grind [db.bJ,Hid.out]) ⟨b,J,eL,zo⟩ (HF.out.trans iP))
  by_cases hC:cc::rr=[91,93]
  .rw[hC] at c1 HQ;rcases nT with rfl | rfl;all_goals (
    go_wp2_with fail
    refine(Cb _ _ _ pb HP.out.sb).mono ?_;rintro e2 w5 ⟨⟨b,rfl,eL,gz⟩,iP,xM⟩;have e:=HQ.out;rw[P.IC,zip (by simp [EO,Ex.name])] at e;simp only[a1o] at e;subst e;have:=HF.out.size;exact tN fZ xM (by grind [db.bJ,Hid.out]) ⟨b,J,eL,zo⟩ (HF.out.trans iP))
  have d1:(cc::rr == ([46]:Bs))=false:=zg;have d2:(cc::rr == ([91,93]:Bs))=false:=zg;rcases nT with rfl | rfl;all_goals (
   go_wp2_with fail
   refine(aln cc).mono ?_;rintro e2 w5 ⟨rfl,rfl⟩;by_cases hD:P.cls cc=115
   ·
    rw[hD];have d4:((cc::rr == ([109,111,100]:Bs))=G)\/cc::rr=[109,111,100]:=by
     by_cases h:cc::rr=[109,111,100]
     .exact .inr h
     .exact zg
    rcases d4 with d4 | d4
    .go_wp2_with fail
     have hM:¬ (cc::rr=[109,111,100]):=by simpa using d4
     refine(M7 _).mono ?_;rintro e2 w6 ⟨rfl,rfl⟩;obtain⟨tt,Ti⟩:=cg (jw (cc::rr));rw[<- Ti];have e:=HQ.out;rw[P.alT (by simp [EO,Ex.name,Ex.kind,Ex.args];simp [hD,hB,hC,hM] at *;simp_all) Ti] at e;have HE:=a1p e;clear e Ti;by_cases h0:0<=tt
     .by_cases h1:tt=pn
      .have Ax:(tt == (pn:Int))=true:=by simpa using h1
       subst h1
       go_wp2_with fail
       have e:=HE.out;rw[bM (by rintro ⟨_,h⟩;exact h (by rw[j3]))] at e;simp only[a1o] at e;subst e;have iO:Hid (SP w6.drew pb tb T so vars (d+1)):=a1p (HP.out.ext fun b o h=>h);have fO:Hid (db pb w w6.drew):=a1p HF.out.drew;have Kv:Hid (w6.drew.heap[cap]?=aO #[pp pb] 139):=a1p Ar.out;have Kw:Hid (lO (Nu w w6.drew) w6.drew (.slice pa pn pc) args):=a1p (lO.mono (F:=Nu w w6) (F':=Nu w w6.drew) (w:=w6) (w':=w6.drew) (fun b hb=>hb) (fun b o _ _ ho=>ho) HA.out);have qF:cap<w6.drew.heap.size:=hl;have hz:=fO.out.size
       go_still_tail 9,zk
       change wpList _ _ _ _ _ w6.drew;generalize w6.drew=w7 at iO fO Kv Kw qF hz ⊢;clear HP HF Ar HA hl py c0 c1 c4
       go_wp2_with fail
       have Kx:=Kw.out;rw[j3] at Kx;refine yI (j:=2) Gw J fZ (iO.out.ext (by grind [dR])) zo (dR Kv.out) ?_ (fO.out.alloc _);exact DU (by grind [size_alloc]) (blk_alloc_new _ _) (lO.mono (F:=Nu w w7) (F':=Nu w _) (w:=w7) (by grind [size_alloc]) (by grind [dR]) Kx) Ks
      .have Ax:(tt == (pn:Int))=false:=by simpa using h1
       have h1n:=h1;have h0n:=h0
       go_wp2_with fail
       have e:=HE.out;rw[zip ⟨h0n,by rw[<- j3];exact h1n⟩] at e;simp only[a1o] at e;subst e;refine(Cb _ _ _ pb HP.out.sb).mono ?_;rintro e2 w7 ⟨⟨b,rfl,eL,gz⟩,iP,xM⟩;have:=HF.out.size;exact tN fZ xM (by grind [db.bJ,Hid.out]) ⟨b,J,eL,zo⟩ (HF.out.trans iP)
     .go_wp2_with fail
      have e:=HE.out;rw[bM (by rintro ⟨h,_⟩;omega)] at e;simp only[a1o] at e;subst e;have iO:Hid (SP w6.drew pb tb T so vars (d+1)):=a1p (HP.out.ext fun b o h=>h);have fO:Hid (db pb w w6.drew):=a1p HF.out.drew;have Kv:Hid (w6.drew.heap[cap]?=aO #[pp pb] 139):=a1p Ar.out;have Kw:Hid (lO (Nu w w6.drew) w6.drew (.slice pa pn pc) args):=a1p (lO.mono (F:=Nu w w6) (F':=Nu w w6.drew) (w:=w6) (w':=w6.drew) (fun b hb=>hb) (fun b o _ _ ho=>ho) HA.out);have qF:cap<w6.drew.heap.size:=hl;have hz:=fO.out.size
      go_still_tail 9,zk
      change wpList _ _ _ _ _ w6.drew;generalize w6.drew=w7 at iO fO Kv Kw qF hz ⊢;clear HP HF Ar HA hl py c0 c1 c4
      go_wp2_with fail
      have Kx:=Kw.out;rw[j3] at Kx;refine yI (j:=2) Gw J fZ (iO.out.ext (by grind [dR])) zo (dR Kv.out) ?_ (fO.out.alloc _);exact DU (by grind [size_alloc]) (blk_alloc_new _ _) (lO.mono (F:=Nu w w7) (F':=Nu w _) (w:=w7) (by grind [size_alloc]) (by grind [dR]) Kx) Ks
    .rw[d4] at c1 HQ;have d5:(([109,111,100]:Bs) == [109,111,100])=true:=zd;by_cases fa:pn=2
     .have By:((pn:Int) == 2)=true:=by simp;omega
      go_wp2_with fail
      have e:=HQ.out;rw[P.IC,zip (by simp [EO,Ex.name,Ex.args];omega)] at e;simp only[a1o] at e;subst e;refine(Cb _ _ _ pb HP.out.sb).mono ?_;rintro e2 w7 ⟨⟨b,rfl,eL,gz⟩,iP,xM⟩;have:=HF.out.size;exact tN fZ xM (by grind [db.bJ,Hid.out]) ⟨b,J,eL,zo⟩ (HF.out.trans iP)
     .have By:((pn:Int) == 2)=false:=by simp;omega
      go_wp2_with fail
      refine(M7 _).mono ?_;rintro e2 w6 ⟨rfl,rfl⟩;have Ti:jw [109,111,100]=-1:=zd;rw[Ti];have e:=HQ.out;rw[P.alT (t:=-1) (by simp [EO,Ex.name,Ex.kind,Ex.args];first | omega | (simp [P.cls];omega) | decide) zd] at e;rw[bM (by rintro ⟨h,_⟩;omega)] at e;simp only[a1o] at e;subst e
      go_wp2_with fail
      have iO:Hid (SP w6.drew pb tb T so vars (d+1)):=a1p (HP.out.ext fun b o h=>h);have fO:Hid (db pb w w6.drew):=a1p HF.out.drew;have Kv:Hid (w6.drew.heap[cap]?=aO #[pp pb] 139):=a1p Ar.out;have Kw:Hid (lO (Nu w w6.drew) w6.drew (.slice pa pn pc) args):=a1p (lO.mono (F:=Nu w w6) (F':=Nu w w6.drew) (w:=w6) (w':=w6.drew) (fun b hb=>hb) (fun b o _ _ ho=>ho) HA.out);have qF:cap<w6.drew.heap.size:=hl;have hz:=fO.out.size
      go_still_tail 9,zk
      change wpList _ _ _ _ _ w6.drew;generalize w6.drew=w7 at iO fO Kv Kw qF hz ⊢;clear HP HF Ar HA hl py c0 c1 c4
      go_wp2_with fail
      have Kx:=Kw.out;rw[j3] at Kx;refine yI (j:=2) Gw J fZ (iO.out.ext (by grind [dR])) zo (dR Kv.out) ?_ (fO.out.alloc _);exact DU (by grind [size_alloc]) (blk_alloc_new _ _) (lO.mono (F:=Nu w w7) (F':=Nu w _) (w:=w7) (by grind [size_alloc]) (by grind [dR]) Kx) Ks
   .have d3:((P.cls cc:Int) == 115)=false:=by simp;omega
    go_wp2_with fail
    refine(Cb _ _ _ pb HP.out.sb).mono ?_;rintro e2 w5 ⟨⟨b,rfl,eL,gz⟩,iP,xM⟩;have e:=HQ.out;rw[P.IC,zip (by simp [EO,Ex.name,hD])] at e;simp only[a1o] at e;subst e;have:=HF.out.size;exact tN fZ xM (by grind [db.bJ,Hid.out]) ⟨b,J,eL,zo⟩ (HF.out.trans iP))
def P.alU(T:List P.Tok)(f at_ d:Nat)(x:Ex)(k':Nat)(vars':List Bs):Option (cj Bd):=
 match Ms T k' with
 | some c=>cj.bind (iZ T f 0 (k'+1) vars' (d+1)) fun y a b=>O (.ok (.mk 103 c [x,y] []) a b)
 | none=>
  if EO x then O (.err 2 at_)
  else if 0<=jw x.name/\jw x.name≠x.args.length then O (.err 3 at_)
  else O (.ok (.mk 103 x.name x.args []) k' vars')
def aGb(hp:SP w pb tb T k vars d)(hc:mY w tb)(hd:d+1<=8)(h1:dZ T k [33]=G)(h2:dZ T k [92,43]=G)
  (h3:dZ T k [40]=G) {r:cj Ex} (hr:iZ T f 0 k vars (d+1)=O r) {q:cj Bd} (hq:cj.bind (O r) (fun x k' vars'=>P.alU T f (tk T k).pos d x k' vars')=O q) :
  Calls bbu 115 #[pp pb] w (jW dJ pb tb T d w q):=by
 have H:=a1p hp;have HC:=a1p hc;have HR:=a1p hr;have HQ:=a1p hq;have H1:=a1p h1;have H2:=a1p h2;have H3:=a1p h3;have HK:=aD2 h3;have fZ:=hp.d2.2.2;have wQ:=hp.lt;clear hp hc hr hq h1 h2 h3
 go_enter_defers func115,ntmps115
 go_wp2_with fail
 refine(An H.out hd).mono ?_;rintro e w1 ⟨rfl,dX,iV,dE,gj⟩;have mm:=a1p iV;have ix:=a1p gj;have ku:=a1p dE;have nU:=a1p dX;clear iV gj dE dX
 go_wp2_with fail
 refine(qD ku.out [33] H1.out zd).mono ?_;rintro e w2 ⟨rfl,rfl⟩
 go_wp2_with fail
 refine(qD ku.out [92,43] H2.out zd).mono ?_;rintro e w2 ⟨rfl,rfl⟩;have dE:=ku.out;obtain⟨n,c,h0,l1,l2,-,l3,l4⟩:=dE.l0;obtain⟨t0,t1,t2⟩:=dE.toks.at dE.kt;have xI:tb<w1.heap.size:=Nat.lt_trans dE.lt dE.d2.2.2;have Cq:=dE.d2.2.2;obtain⟨kd,iN⟩:∃ kd:Int,kd=((tk T k).kind:Int):=⟨_,J⟩;obtain⟨tx,htx⟩:=cg ((tk T k).text);rw[<- iN] at t0;rw[<- htx] at t1;have Im:(tx == [40])=G\/tx=[40]/\(kd == 4)=false:=by
  grind
 clear dE iN htx HK;rcases Im with Im | ⟨rfl,Im⟩;all_goals (
  go_wp2_with fail
  refine((alm f).go ku.out zo HR.out).mono ?_;have dX:=nU.out;cases r with
  | err c0 a0=>
   rintro e2 w4 ⟨⟨b,rfl,eL,gz⟩,ez,vn⟩;have e:=HQ.out;simp only[cj.bind,a1o] at e;subst e;exact tN fZ vn (by grind [db.bJ,Hid.out]) ⟨b,J,eL,zo⟩ (ix.out.trans ez)
  | ok x k2 v2=>
  rintro e2 w3 ⟨v,rfl,hv,gH,dU⟩;obtain⟨bx,rfl,jB⟩:=hv.shape;have Xa:=a1p hv;have uA:=a1p gH;have oB:=a1p dU;have HC3:=a1p (HC.out.fr (ix.out.trans dU) wQ);obtain⟨cf,Tj⟩:∃ cf:Nat->Bs,∀ j,cf j=Mr.getD j []:=⟨_,fun _=>rfl⟩;have AA:∀ j,j<9->w3.cell? ⟨3,j,V⟩=O (aT (cf j)):=(by grind [mY.cell,Hid.out]);have Tk:=a1p Tj;have Bp:=HC3.out.lt;have aVr:=gH.d2.2.2;have a0:=AA 0 zd;have a1:=AA 1 zd;have a2:=AA 2 zd;have a3:=AA 3 zd;have a4:=AA 4 zd;have a5:=AA 5 zd;have a6:=AA 6 zd;have a7:=AA 7 zd;have a8:=AA 8 zd;have DQ:3<w3.heap.size:=zo;have e:=HQ.out;simp only[cj.bind] at e;unfold P.alU at e;have HE:=a1p e;have Xd:=a1p (dU.bJ mm.out zo zd);have E3:=dU.size;clear hv gH dU AA t0 t1 t2 h0 e Tj
  go_wp2_with fail
  go_loop [7,66] (fun s i=>∃ j:Nat,j<=9/\i=zi j/\∀ j',j'<j->dZ T k2 (cf j')=G) (fun _ i=>9-(intOf i).toNat)
  case atStart=>exact zg
  case round=>
   obtain⟨j,hj,rfl,mg⟩:=hrel;have E2:=a1p mg;clear mg;by_cases hlt:j<9
   .have hj9:j=0\/j=1\/j=2\/j=3\/j=4\/j=5\/j=6\/j=7\/j=8:=zo;have MN:(cf j).all P.digit=false:=by rw[Tk.out];rcases hj9 with rfl | rfl | rfl | rfl | rfl | rfl | rfl | rfl | rfl<;>decide
    have PK:dZ T k2 (cf j)=A->Ms T k2=O (cf j):=fun h=>by
     rw[Ms,aai (j:=j) (by simp [Mr];omega) (by rw[<- Tk.out];exact h) (fun j' Xi=>by rw[<- Tk.out];exact E2.out j' Xi),<- Tk.out]
    have HFI:=a1p PK;have HSD:=a1p MN;clear PK MN hj;have hix:∀ w,(Instr.index 282 (.agg #[aT (cf 0),aT (cf 1),aT (cf 2),aT (cf 3),aT (cf 4),aT (cf 5),aT (cf 6),aT (cf 7),aT (cf 8)]) (zi j)).run bbu w = .ok (aT (cf j)) w:=
     fun w=>aD5 _ _ _ _ _ _ _ _ _ j hlt _ (by rcases hj9 with rfl | rfl | rfl | rfl | rfl | rfl | rfl | rfl | rfl<;>rfl) w
    clear hj9;by_cases qH:dZ T k2 (cf j)=A
    ·(
      go_wp2_with fail
      refine(vh uA.out _ qH).mono ?_;rintro e w4 ⟨rfl,jY,ez⟩;have tP:=a1p jY;have tQ:=a1p ez;have Bm:=ez.size;clear jY ez a0 a1 a2 a3 a4 a5 a6 a7 a8
      go_wp2_with fail
      have e:=HE.out;rw[HFI.out qH] at e;dsimp only at e;cases hq:iZ T f 0 (k2+1) v2 (d+1) with
      | none=>rw[hq] at e;simp [cj.bind] at e
      | some q2=>
      rw[hq] at e;refine((alm f).go tP.out zo hq).mono ?_;cases q2 with
      | err c0 a0=>
       rintro e2 w5 ⟨⟨b,rfl,eL,gz⟩,iP,xM⟩;simp only[cj.bind,a1o] at e;subst e;exact tN fZ xM (iP.bJ (by grind [db.bJ,Hid.out]) zo zd) ⟨b,J,eL,zo⟩ (by grind [trans,bB.trans,Hid.out])
      | ok y k5 v5=>
      rintro e2 w5 ⟨v,rfl,hv,oC,iP⟩;simp only[cj.bind,a1o] at e;subst e;obtain⟨GP,rfl,oq⟩:=hv.shape;have hz5:=iP.size;have HV5:=a1p hv;have Xf:=a1p oC;have PJ:=a1p iP;clear hv oC iP oq hq HE
      go_wp2_with fail
      have gT:∀ o o',((w5.alloc o).alloc o').heap.size=w5.heap.size+2:=(by grind [size_alloc]);refine yI (j:=2) Gw J fZ (by grind [dR,SP.ext,Hid.out]) zo (by grind [dR,db.bJ,Hid.out]) ?_
       (by grind [trans,bB.alloc,bB.trans,Hid.out])
      refine DU zg (by grind [EY,size_alloc]) (abP zg (dR (blk_alloc_new _ _)) ?_ ?_) Ks
      .exact eP.mono zg
        (by grind [dR,db.lF,Hid.out]) _ _ Xa.out
      .exact eP.mono zg
        (by grind [dR]) _ _ HV5.out)
    ·(
      go_wp2_with fail
      refine(qD uA.out _ (by simpa using qH) HSD.out).mono ?_;rintro e w4 ⟨rfl,rfl⟩;have aGe:=a1p qH;clear qH
      go_wp2_with fail
      refine⟨⟨j+1,zo,zs,fun j' Xi=>?_⟩,?_⟩
      .rcases Nat.lt_or_ge j' j with h | h
       .exact E2.out j' h
       .obtain rfl:j'=j:=zo;simpa using aGe.out
      .simp only[intOf];omega)
   .have:j=9:=zo;subst this;have xO:Ms T k2=none:=aiH fun j' Xi=>by rw[<- Tk.out];exact E2.out j' Xi
    have e:=HE.out;rw[xO] at e;dsimp only at e;have mT:=(alS T (fun k hk=>by
     rcases Nat.lt_or_ge k T.length with h | h
     .obtain⟨c,r,e1,_⟩:=H.out.tw.words _ (J7 h) hk;rw[e1];simp
     .rw[show tk T k=tk T T.length by simp [tk,List.getD_eq_getElem?_getD,List.getElem?_eq_none h]] at hk;simp [tk] at hk) f).oper _ _ _ _ _ _ _ HR.out
    have wX:eP (Nu w w3) w3 (pp bx) x:=eP.mono (F:=Nu w1 w3) zg zg _ _ Xa.out;have hle:P.IC (tk T k).pos x k2 v2=O q:=e;have HVV:=a1p wX;have HLE:=a1p hle;have HNM:=a1p mT;clear wX hle mT e HE xO a0 a1 a2 a3 a4 a5 a6 a7 a8
    go_upto_region 19 with(fail)
    exact aEb _ _ _ _ _ _ _ _ _ _ _ _ _ _ _ _ _ _ _ _ _ _ _ _ _ _ _ _ _ _ _ _ _ _ _ _ _ _ _ _ _ _ _ _ _ _ _ _ _ _ _ _ _ _ _ _ _ _ _ _ _ _ _ _ _ _ _ _ _ _ _ _ _ _ _ _ _ _ _ _ _ _ _ _ _ _ _ _ _ _ _ _ _ _ _ _ _ _ _ _ _ _ _ _ _ _ _ _ _ _ _ _ _ _ _ _ _ _ _ _ _ _ _ _ _ _ _ _ _ _ _ _ _ _ _ _ _ _ _ _ _ _ _ _ _ _ _ _ _ _ _ _ _ _ _ _ _ uA.out hd (ix.out.trans oB.out) fZ zo Xd.out HVV.out HNM.out HLE.out _ _ (by assumption) (by assumption))
theorem aGi(m:PG f)(n:Kr f):PG (f+1):=⟨by
 intro pb tb T k vars d w q b e o a;by_cases c:d+1<=8
 .rw[nQ,bM (by grind [P.maxDepth])] at a;by_cases g:dZ T k [33]=A
  .rw[zip g] at a;simp only[a1o] at a;subst a;exact aD0 b c g
  rw[bM g] at a;have h:dZ T k [33]=false:=zg;by_cases i:dZ T k [92,43]=A
  .rw[zip i] at a;cases hr:nQ T f (k+1) vars (d+1) with
   | none=>rw[hr] at a;simp [cj.bind] at a
   | some r=>rw[hr] at a;exact aD1 m b e c h i hr a
  rw[bM i] at a;have l:dZ T k [92,43]=false:=zg;by_cases j:dZ T k [40]=A
  .rw[zip j] at a;cases hr:mS T f (k+1) vars (d+1) with
   | none=>rw[hr] at a;simp [cj.bind] at a
   | some r=>rw[hr] at a;exact aD3 n b e c h l j hr a
  rw[bM j] at a;have p:dZ T k [40]=false:=zg;cases hr:iZ T f 0 k vars (d+1) with
  | none=>rw[hr] at a;simp [cj.bind] at a
  | some r=>rw[hr] at a;exact aGb b e c h l p hr a
 .rw[nQ,zip (by grind [P.maxDepth])] at a;simp only[a1o] at a;subst a;exact aDZ b zo o⟩
def aGj(f:Nat):PG f/\PH f/\Kr f:=by
 induction f using Nat.strongRecOn with
 | ind f ih=>
  cases f with
  | zero=>exact⟨⟨fun _ _ _ h=>by simp [nQ] at h⟩,alG,aDX⟩
  | succ f=>
   have a:=ih f (Nat.lt_succ_self _);grind [aDH,aGi,aDY]
def alW(f:Nat):Kr f:=(aGj f).2.2
