/- A part of one proof (SBody, SBody2, SLit, SLit2, SIdxArr, PureN, SLitEnd, SLit3, SJoin). -/
import Derived.Test.YtoegidfbnkaabaaGreatDoorPkJAI
import Derived.StillTailTactics
import Derived.Deep.Cut
set_option linter.all false
set_option maxRecDepth 100000
set_option maxHeartbeats 8000000
open Option renaming some → O, none → V
open Go renaming Value → Y, World → Z
open Bool renaming true → A, false → G
open Go.Obj renaming cells → ae
open Option.some renaming injEq → aZG
open Go.Lib renaming hid → aZH
open Go.Value renaming slice → aZT, ownBlock → a0q
open Go.Obj renaming cells → a0i
open Array renaming getElem?_eq_getElem → a1c
open Go.Proofs.Tryz renaming prog → a9x
open Go.Proofs.Tryz
namespace Go.Proofs.YtoegidfbnkaabaaGreatDoor
open P
open Go.RowKit
variable{T:List P.Tok}{W w w0 w2 w3:Z}{av tv vv:Y}{bx cap d f g k k' n pb so tb:Nat}{vars:List Bs}
def P.isArrow(x:Bd):Prop:=x.kind=63/\x.parts.length=2
instance (x:Bd):Decidable (P.isArrow x):=by unfold P.isArrow;infer_instance
def P.OR(T:List P.Tok)(f a:Nat)(v1:List Bs)(d:Nat)(x:Bd):Option (cj Bd):=
 if P.isArrow x then
  if eh T a [59] then cj.bind (pP T f (a+1) v1 d) fun c e v3=>O (.ok (.mk 63 [] [] (x.parts++[c])) e v3)
  else O (.ok (.mk 63 [] [] (x.parts++[zl])) a v1)
 else if eh T a [59] then cj.bind (pP T f (a+1) v1 d) fun b g v2=>O (.ok (.mk 59 [] [] [x,b]) g v2) else O (.ok x a v1)
def P.akK{x:Bd}(h:P.whole x):¬ P.isArrow x:=by
 cases x with
 | mk kind name args parts=>
  rintro ⟨a,b⟩;have:=h a;grind [Bd.parts]
def P.aCJ(T:List P.Tok)(f k:Nat)(vars:List Bs)(d:Nat) :
  ml T (f+1) k vars d=cj.bind (P.Sg T f k vars d) fun x b v1=>P.OR T f b v1 d x:=by
 rw[ml,P.Sg];cases g:nJ T f k vars d with
 | none=>rfl
 | some q=>
  cases q with
  | err c a=>rfl
  | ok x b v1=>
   have hw:=P.akK ((abE T f).row _ _ _ _ _ _ g);by_cases e:eh T b [45,62]=A
   .simp only[cj.bind,zip e];cases h:nJ T f (b+1) v1 d with
    | none=>rfl
    | some q=>
     cases q with
     | err c a=>rfl
     | ok y i v2=>
      have:P.isArrow (Bd.mk 63 [] [] [x,y]):=⟨J,J⟩;simp only[P.OR,zip this];rfl
   .simp only[cj.bind,bZ e,P.OR,bZ hw]
def akL{a b c:Bd}(E:Nu w0 W n)(F:Nu w0 W g)(l:n≠g)(H:w0.heap.size<=W.heap.size)(I:pb<w0.heap.size)
  (p:W.heap[n]?=aM #[.int .u8 63,aT [],bV,cR g 2 2] 149)
  (q:dL (fun m=>Nu w0 W m/\m≠n/\m≠g) W tv a) (r:dL (fun m=>Nu w0 W m/\m≠n/\m≠g) W vv b) (s:dL (fun m=>Nu w0 W m/\m≠n/\m≠g) W av c)
  (f:w2.ownsRow w0.heap.size 84 1 (cR cap (2+1) k') (2+1) ([tv,vv]++[av])) (i:(W.alloc (ae #[av] 84)).grownBy w2 (aZT (O ⟨g,0,V⟩) 2 2).ownBlock)
  (t:(aZT (O ⟨cap,0,V⟩) (2+1) k').ownBlock=(aZT (O ⟨g,0,V⟩) 2 2).ownBlock\/∀ k,(aZT (O ⟨cap,0,V⟩) (2+1) k').ownBlock=O k->(W.alloc (ae #[av] 84)).heap.size<=k) :
  (∃ cs:Array Y,w2.heap[n]?=aM cs 149/\cs.size=4)/\W.heap.size<w2.heap.size/\(∀ (m:Nat) (o:Obj),m≠n->m≠g->W.heap[m]?=O o->(w2.setCell ⟨n,3,V⟩ (cR cap (2+1) k')).heap[m]?=O o) /\
   dL (Nu w0 w2) (w2.setCell ⟨n,3,V⟩ (cR cap (2+1) k')) (pp n) (.mk 63 [] [] [a,b,c]):=by
 have u:=i.size;rw[size_alloc] at u;have w:∀ (m:Nat) (o:Obj),m≠g->W.heap[m]?=O o->w2.heap[m]?=O o:=fun m o y z=>by
  have j:=dQ (o:=a0i #[av] 84) z;rw[i.block m (bg j) (fun e=>y (by simp only[a0q] at e;injection e))];exact j
 have B:=w n _ l p;have K:∀ (m:Nat) (o:Obj),m≠n->w2.heap[m]?=O o->(w2.setCell ⟨n,3,V⟩ (cR cap (2+1) k')).heap[m]?=O o:=(by grind [blk_setCell_other]);have C:cap≠n:=by
  rcases t with h | h
  .grind [a0q]
  .have:=h cap J;grind [size_alloc]
 refine⟨zg,zo,zg,?_⟩;have D:fK (fun m=>Nu w0 w2 m/\m≠n) w2 84 (cR cap (2+1) k') ([tv,vv]++[av]):=Et f fun m hm=>⟨f.lt m hm,by grind [a0q]⟩;have d:∀ {v:Y} {x:Bd},dL (fun m=>Nu w0 W m/\m≠n/\m≠g) W v x->dL (Nu w0 w2) (w2.setCell ⟨n,3,V⟩ (cR cap (2+1) k')) v x:=fun h=>
  dL.mono zg zg _ _ h
 refine Dp zg (by rw[Az B];rfl) H6 ⟨_,D.mono zg zg,?_⟩;unfold gx;refine⟨tv,[vv,av],J,d q,?_⟩;unfold gx;refine⟨vv,[av],J,d r,?_⟩;unfold gx;exact⟨av,[],J,d s,by unfold gx;rfl⟩
def aCK(eP:OQ f)(JZ:∀ m,m<f->JX m){r:cj Bd}(oI:SP w0 pb tb T k vars d)(mO:mw w0 tb)(hd:d<=8)
  (h:ml T (f+1) k vars d=O r):Calls a9x 53 #[pp pb] w0 (jN dL pb tb T d w0 r):=by
 rw[P.aCJ] at h;have Sf:=aZH oI;have H7:=aZH mO;have HR:=aZH h;have xg:=oI.d2.2.2;have vM:=oI.lt;obtain⟨i0,hi,JK,JL,JM⟩:=info_parts akG;clear oI h mO
 go_enter_defers func53,ntmps53
 go_wp2_with fail
 cases hq:P.Sg T f k vars d with
 | none=>have e:=HR.out;rw[hq] at e;simp [cj.bind] at e
 | some q=>
 have e:=HR.out;rw[hq] at e;refine(aCH eP Sf.out H7.out hd hq).mono ?_;cases q with
 | err c0 a0=>
  rintro e2 w4 ⟨⟨b,rfl,eK,gn⟩,dU,gJ⟩;simp only[cj.bind,aZG] at e;subst e;exact⟨⟨b,J,eK,gn⟩,dU,gJ⟩
 | ok x k1 v1=>
 rintro e2 w1 ⟨v,rfl,hv,dD,gi⟩;simp only[cj.bind] at e;have oZ:=gi.size;have kh:=aZH dD;have im:=aZH gi;have jK:=dD.d2.2.2;clear dD gi hq HR;rcases hv with⟨hw,ny⟩| ⟨a,b,n,g,va,vb,rfl,rfl,hn,hg,V8,xm,BU,ha,hb⟩
 .rw[P.OR,bZ (P.akK hw)] at e;have HE:=aZH e;have HV:=aZH ny;cases x with
  | mk kind name args parts=>
  unfold dL at ny;obtain⟨n,av,pv,vs,us,rfl,hn,xm,h4,h5,h6,h7⟩:=ny;obtain⟨pa,pn,pc,rfl,BY,-,-⟩:=h6.shape;have hlen:=h7.length;have c0:w1.cell? ⟨n,0,V⟩=O (.int .u8 kind):=cellOf xm J;have c3:w1.cell? ⟨n,3,V⟩=O (.slice pa pn pc):=cellOf xm J;have xn:n<w1.heap.size:=hn.2;have nu:kind=63/\pn=3\/((kind:Int) == 63)=false:=by
   by_cases hk:kind=63
   .exact .inl ⟨hk,by have:=hw hk;omega⟩
   grind
  clear h4 h5 h6 h7 hw xm hn e hlen BY;rcases nu with⟨rfl,rfl⟩| C9;all_goals (
   by_cases hs:eh T k1 [59]=A
   .go_wp2_with fail
    refine(uE kh.out [59] hs).mono ?_;rintro e w2 ⟨rfl,fc,eV⟩;have iO:=aZH fc;have fO:=aZH eV;have qE:=eV.size;clear fc eV c0 c3
    go_wp2_with fail
    have e:=HE.out;rw[zip hs] at e;cases f with
    | zero=>simp [pP,cj.bind] at e
    | succ f=>
    rw[pP] at e;by_cases ot:P.maxDepth<d+1
    .rw[zip ot] at e;simp only[cj.bind,aZG] at e;subst e;refine(VH iO.out ot zo).mono ?_;rintro e w3 ⟨⟨b,rfl,eK,gn⟩,dU,gJ⟩;exact⟨⟨b,J,eK,zo⟩,(im.out.trans fO.out).trans dU,gJ⟩
    rw[bZ ot] at e;have AF:d+1<=8:=by unfold P.maxDepth at ot;omega
    refine(zD iO.out AF).mono ?_;rintro e2 w3 ⟨rfl,gJ,BZ,gH,dU⟩;have V9:=aZH BZ;have nR:=aZH dU;have tK:=aZH gH;have F2:=aZH e;have Sh:=aZH gJ;clear BZ dU gH e hs gJ ot
    go_wp2_with fail
    have e:=F2.out;cases hq:ml T f (k1+1) v1 (d+1) with
    | none=>rw[hq] at e;simp [cj.bind] at e
    | some q=>
    rw[hq] at e;refine((JZ f zo).go tK.out (H7.out.fr ((im.out.trans fO.out).trans nR.out) vM) zo hq).mono ?_;have gJ:=Sh.out;cases q with
    | err c0 a0=>
     rintro e2 w4 ⟨⟨b,rfl,eK,gn⟩,eo,uI⟩;simp only[cj.bind,aZG] at e;subst e;exact sK xg uI (by grind [cZ.bH,Hid.out]) ⟨b,J,eK,zo⟩ (by grind [trans,bB.trans,Hid.out])
    | ok y k2 v2=>
    rintro e2 w4 ⟨v,rfl,hv,jP,eo⟩;simp only[cj.bind,aZG] at e;subst e;obtain⟨Gf,rfl,nK⟩:=hv.shape;have AM:=eo.size;have Mj:=aZH hv;have sL:=aZH jP;have sN:=aZH eo;clear hv jP eo nK hq HE F2 gJ
    go_wp2_with fail
    have gJ:=Sh.out;have gK:∀ o o',((w4.alloc o).alloc o').heap.size=w4.heap.size+2:=(by grind [size_alloc]);refine yj (j:=2) FY J xg (by grind [dQ,SP.ext,Hid.out]) zo (by grind [dQ,cZ.bH,Hid.out]) ?_
     (by grind [trans,bB.alloc,bB.trans,Hid.out])
    refine Dp zg (by grind [Es,size_alloc]) H6 (aCB zg (dQ (blk_alloc_new _ _)) ?_ ?_)
    .exact dL.mono zg
      (by grind [dQ,cZ.kX,Hid.out]) _ _ HV.out
    .exact dL.mono zg
      (by grind [dQ]) _ _ Mj.out
   .go_wp2_with fail
    refine(pW kh.out [59] (by simpa using hs) zd).mono ?_;rintro e w2 ⟨rfl,rfl⟩
    go_wp2_with fail
    have e:=HE.out;rw[bZ hs,aZG] at e;subst e;exact⟨_,results_tmp J _ _ _,pp _,J,HV.out,kh.out,im.out⟩)
 .have HE:=aZH e;have c0:w1.cell? ⟨n,0,V⟩=O (.int .u8 63):=cellOf xm J;have c3:w1.cell? ⟨n,3,V⟩=O (cR g 2 2):=cellOf xm J;have xn:n<w1.heap.size:=hn.2;have R3:w0.heap.size<=n:=hn.1;have AP:g<w1.heap.size:=hg.2;have xi:w0.heap.size<=g:=hg.1;have hF:=(P.OR T f k1 v1 d (.mk 63 [] [] [a,b]));have kL:P.isArrow (Bd.mk 63 [] [] [a,b]):=⟨J,J⟩;rw[P.OR,zip kL] at e;have HEB:=aZH e;have akM:=aZH xm;have akN:=aZH BU;have HA1:=aZH ha;have HB1:=aZH hb;clear xm BU ha hb hn hg e HE kL hF;generalize hfo:(a0i #[.int .u8 103,aT [102,97,105,108],bV,bV] 149)=fo;have HPF:=aZH (kh.out.ext (w':=w1.alloc fo) fun b o h=>dQ h);have Wa:Hid (cZ pb w0 (w1.alloc fo)):=aZH (im.out.alloc _);have HNF:Hid ((w1.alloc fo).heap[n]?=_):=aZH (dQ akM.out);have HGF:Hid ((w1.alloc fo).heap[g]?=_):=aZH (dQ akN.out);have aCO:Hid (w0.heap.size<=(w1.alloc fo).heap.size):=(by grind [aZH,size_alloc]);subst hfo;by_cases hs:eh T k1 [59]=A
  .go_wp2_with fail
   refine(uE HPF.out [59] hs).mono ?_;rintro e w2 ⟨rfl,fc,eV⟩;have iO:=aZH fc;have fO:=aZH eV;have qE:=eV.size;rw[size_alloc] at qE;clear fc eV c0 c3
   go_wp2_with fail
   have e:=HEB.out;rw[zip hs] at e;cases f with
   | zero=>simp [pP,cj.bind] at e
   | succ f=>
   rw[pP] at e;by_cases ot:P.maxDepth<d+1
   .rw[zip ot] at e;simp only[cj.bind,aZG] at e;subst e;refine(VH iO.out ot zo).mono ?_;rintro e w3 ⟨⟨b,rfl,eK,gn⟩,dU,gJ⟩;exact⟨⟨b,J,eK,zo⟩,(Wa.out.trans fO.out).trans dU,gJ⟩
   rw[bZ ot] at e;have AF:d+1<=8:=by grind [P.maxDepth]
   refine(zD iO.out AF).mono ?_;rintro e2 w3 ⟨rfl,gJ,BZ,gH,dU⟩;have V9:=aZH BZ;have nR:=aZH dU;have tK:=aZH gH;have F2:=aZH e;have Sh:=aZH gJ;clear BZ dU gH e hs gJ ot
   go_wp2_with fail
   have e:=F2.out;cases hq:ml T f (k1+1) v1 (d+1) with
   | none=>rw[hq] at e;simp [cj.bind] at e
   | some q=>
   rw[hq] at e;refine((JZ f zo).go tK.out (H7.out.fr ((Wa.out.trans fO.out).trans nR.out) vM) zo hq).mono ?_;have gJ:=Sh.out;cases q with
   | err c0 a0=>
    rintro e2 w4 ⟨⟨b,rfl,eK,gn⟩,eo,uI⟩;simp only[cj.bind,aZG] at e;subst e;exact sK xg uI (by grind [cZ.bH,Hid.out]) ⟨b,J,eK,zo⟩ (by grind [trans,bB.trans,Hid.out])
   | ok y k2 v2=>
   rintro e2 w5 ⟨v,rfl,hv,mP,iP⟩;simp only[cj.bind,aZG] at e;subst e;obtain⟨Gf,rfl,nK⟩:=hv.shape;have hz5:=iP.size;have HV5:=aZH hv;have Wc:=aZH mP;have OS:=aZH iP;have HK5:Hid (∀ (m:Nat) (cs:Array Y) (t:TypeId) (z:Nat×Nat),m<w1.heap.size->m≠pb->t≠9->w1.heap[m]?=O (ae cs t z)->w5.heap[m]?=O (ae cs t z)):=
    (by grind [aZH,cZ.bH,dQ,Hid.out])
   have HXS:Hid (w5.heap[w2.heap.size]?=_):=aZH (cZ.bH iP V9.out zo zd);have aCP:Hid (w0.heap.size<=w5.heap.size):=zg;have HN:Hid (Nu w0 w5 n):=zg;have HG:Hid (Nu w0 w5 g):=zg;have HN5:Hid (w5.heap[n]?=_):=aZH (HK5.out _ _ _ _ xn zo zd akM.out);have HG5:Hid (w5.heap[g]?=_):=aZH (HK5.out _ _ _ _ AP zo zd akN.out);have gK:∀ {v:Y} {x:Bd},dL (fun m=>Nu w0 w1 m/\m≠n/\m≠g) w1 v x->dL (fun m=>Nu w0 w5 m/\m≠n/\m≠g) w5 v x:=fun h=>
    dL.mono zg (by grind [cZ.kX,dQ,Hid.out]) _ _ h
   have HA:=aZH (gK HA1.out);have HB:=aZH (gK HB1.out);have HCC:Hid (dL (fun m=>Nu w0 w5 m/\m≠n/\m≠g) w5 (pp Gf) y):=
    aZH (dL.mono zg zg _ _ hv)
   have uH:Hid ((w5.alloc (ae #[pp Gf] 84)).ownsRow w0.heap.size 84 1 (cR g 2 2) 2 [va,vb]):=
    aZH ⟨J,.inr ⟨g,2,_,J,xi,dQ HG5.out,Nat.le_refl _,zd,J,J⟩⟩
   have HSZ:Hid (w0.heap.size<=(w5.alloc (ae #[pp Gf] 84)).heap.size):=(by grind [aZH,size_alloc]);have c0:w5.cell? ⟨n,0,V⟩=O (.int .u8 63):=cellOf HN5.out J;have c3:w5.cell? ⟨n,3,V⟩=O (cR g 2 2):=cellOf HN5.out J;have aT0:n<w5.heap.size:=zo;clear hv mP iP nK hq HEB F2 gJ gK
   go_wp2_with (at_builtin;go_must (refine Rc J _ _ 147 J w0.heap.size 84 i0 _ 1 8 underlying147 hi JK JL JM J zd _ _ _ J uH.out ⟨w5.heap.size,0,V⟩ 1 1 [pp Gf] J J (Oj J) (by simp [Value.oneCell']) (by unfold maxLen;omega) zo (by have:=HSZ.out;omega) ?_;intro v' w9 rQ yt AN;obtain⟨g2,F5,rfl⟩:=LG rQ;obtain⟨⟨cs9,Gg,akT⟩,aCR,Sj,Sk⟩:=akL HN.out HG.out V8 aCP.out xg HN5.out HA.out HB.out HCC.out rQ yt AN;have c9:w9.cell? ⟨n,3,V⟩=O (cs9[3]' zo):=cellOf Gg (by simp [a1c,akT]);have f9:=jH Gg 3;have l9:=bg Gg;have tJ:=aZH yt;have F1:=aZH rQ;have HK9:=aZH Sj;have abL:=aZH Sk;have aCT:=aZH Gg;clear rQ yt AN Sj Sk Gg))
   have gJ:=Sh.out;have Wd:SP w9 pb tb T k2 v2 (d+1):=(Wc.out.ext fun b o h=>dQ (o:=a0i #[Value.pointer (O ⟨Gf,0,V⟩)] 84) h).OD uH.out zg xg tJ.out;have B0:cZ pb w0 w9:=(((((Wa.out.trans fO.out).trans nR.out).trans OS.out)).alloc _).OE tJ.out fun k hk=>(uH.out.lt k hk).1;refine yj (j:=2) FY J xg (by grind [SP.setOther,Hid.out]) zo (by grind [Hid.out]) ?_ (by grind [bB.LF]);exact dL.mono (by grind [size_setCell]) zg _ _ abL.out
  .have HN:Hid (Nu w0 (w1.alloc (ae #[.int .u8 103,aT [102,97,105,108],bV,bV] 149)) n):=zg;have HG:Hid (Nu w0 (w1.alloc (ae #[.int .u8 103,aT [102,97,105,108],bV,bV] 149)) g):=zg;have HA:Hid (dL (fun m=>Nu w0 (w1.alloc (ae #[.int .u8 103,aT [102,97,105,108],bV,bV] 149)) m/\m≠n/\m≠g) (w1.alloc (ae #[.int .u8 103,aT [102,97,105,108],bV,bV] 149)) va a):=
    aZH (dL.mono (by grind [size_alloc]) (by grind [dQ]) _ _ HA1.out)
   have HB:Hid (dL (fun m=>Nu w0 (w1.alloc (ae #[.int .u8 103,aT [102,97,105,108],bV,bV] 149)) m/\m≠n/\m≠g) (w1.alloc (ae #[.int .u8 103,aT [102,97,105,108],bV,bV] 149)) vb b):=
    aZH (dL.mono (by grind [size_alloc]) (by grind [dQ]) _ _ HB1.out)
   have HCC:Hid (dL (fun m=>Nu w0 (w1.alloc (ae #[.int .u8 103,aT [102,97,105,108],bV,bV] 149)) m/\m≠n/\m≠g) (w1.alloc (ae #[.int .u8 103,aT [102,97,105,108],bV,bV] 149)) (pp w1.heap.size) zl):=
    aZH (Dp (by grind [size_alloc]) (blk_alloc_new _ _) H6 JY)
   have HCN:=HNF;have uH:Hid (((w1.alloc (ae #[.int .u8 103,aT [102,97,105,108],bV,bV] 149)).alloc (ae #[pp w1.heap.size] 84)).ownsRow w0.heap.size 84 1 (cR g 2 2) 2 [va,vb]):=
    aZH ⟨J,.inr ⟨g,2,_,J,xi,dQ HGF.out,Nat.le_refl _,zd,J,J⟩⟩
   have HSZ:Hid (w0.heap.size<=((w1.alloc (ae #[.int .u8 103,aT [102,97,105,108],bV,bV] 149)).alloc (ae #[pp w1.heap.size] 84)).heap.size):=(by grind [aZH,size_alloc])
   go_wp2_with fail
   refine(pW HPF.out [59] zg zd).mono ?_;rintro e w2 ⟨rfl,rfl⟩
   go_wp2_with (at_builtin;go_must (refine Rc J _ _ 147 J w0.heap.size 84 i0 _ 1 8 underlying147 hi JK JL JM J zo _ _ _ J uH.out ⟨w1.heap.size+1,0,V⟩ 1 1 [pp w1.heap.size] J J (by grind [Oj,size_alloc]) (by simp [Value.oneCell']) (by grind [maxLen]) zo (by have:=HSZ.out;omega) ?_;intro v' w9 rQ yt AN;obtain⟨g2,F5,rfl⟩:=LG rQ;obtain⟨⟨cs9,Gg,akT⟩,aCR,Sj,Sk⟩:=akL HN.out HG.out V8 aCO.out xg HCN.out HA.out HB.out HCC.out rQ yt AN;have c9:w9.cell? ⟨n,3,V⟩=O (cs9[3]' zo):=(by grind [cellOf,a1c]);have f9:=jH Gg 3;have l9:=bg Gg;have tJ:=aZH yt;have F1:=aZH rQ;have HK9:=aZH Sj;have abL:=aZH Sk;have aCT:=aZH Gg;clear rQ yt AN Sj Sk Gg))
   have e:=HEB.out;rw[bZ hs,aZG] at e;subst e;have Wd:SP w9 pb tb T k1 v1 d:=(HPF.out.ext fun b o h=>dQ (o:=a0i #[Value.pointer (O ⟨w1.heap.size,0,V⟩)] 84) h).OD uH.out zg xg tJ.out;have B0:cZ pb w0 w9:=(Wa.out.alloc _).OE tJ.out fun k hk=>(uH.out.lt k hk).1;refine⟨_,results_tmp J _ _ _,pp n,J,?_,(by grind [SP.setOther,Hid.out]),(by grind [bB.LF])⟩;exact dL.mono (by grind [size_setCell]) zg _ _ abL.out
def aCV:JX 0:=⟨fun _ _ _ h=>by simp [ml] at h⟩
theorem aCW(a:OQ f)(b:∀ m,m<f->JX m):JX (f+1):=⟨fun c d e h=>aCK a b c d e h⟩
def aCX(hp:SP w pb tb T k vars d)(hd:8<d+1)(xe:d<=8) :
  Calls a9x 115 #[pp pb] w (jN dL pb tb T d w (.err 4 (tk T k).pos)):=by
 have H:=aZH hp;clear hp
 go_enter_defers func115,ntmps115
 go_wp2_with fail
 refine(VH H.out hd zo).mono ?_;rintro e w1 ⟨⟨b,rfl,hb⟩,hf,hs⟩;exact⟨⟨b,J,hb⟩,hf,hs⟩
def aCY(hp:SP w pb tb T k vars d)(hd:d+1<=8)(h1:eh T k [33]=A) :
  Calls a9x 115 #[pp pb] w (jN dL pb tb T d w (.ok (.mk 33 [] [] []) (k+1) vars)):=by
 have H:=aZH hp;have fY:=hp.d2.2.2;clear hp
 go_enter_defers func115,ntmps115
 go_wp2_with fail
 refine(zD H.out hd).mono ?_;rintro e w1 ⟨rfl,dX,iV,dD,gi⟩;have lS:=aZH iV;have im:=aZH gi;have kh:=aZH dD;have nw:=aZH dX;clear iV gi dD dX
 go_wp2_with fail
 refine(uE kh.out [33] h1).mono ?_;rintro e w2 ⟨rfl,fc,eV⟩;have iO:=aZH fc;have fO:=aZH eV;clear fc eV h1
 go_wp2_with fail
 have dX:=nw.out;have qE:=fO.out.size;refine yj (j:=2) FY J fY (iO.out.ext (by grind [dQ])) zo (by grind [dQ,cZ.bH,Hid.out]) ?_ ((im.out.trans fO.out).alloc _);exact Dp (by grind [size_alloc]) (blk_alloc_new _ _) H6 JY
def aCZ(Mv:OP f)(hp:SP w pb tb T k vars d)(hc:mw w tb)(hd:d+1<=8)(h1:eh T k [33]=G)(h2:eh T k [92,43]=A)
  {r:cj Bd} (hr:np T f (k+1) vars (d+1)=O r) {q:cj Bd} (hq:cj.bind (O r) (fun b k' vars'=>O (.ok (Bd.mk 126 [] [] [b]) k' vars'))=O q) :
  Calls a9x 115 #[pp pb] w (jN dL pb tb T d w q):=by
 have H:=aZH hp;have HC:=aZH hc;have HR:=aZH hr;have HQ:=aZH hq;have H1:=aZH h1;have H2:=aZH h2;have fY:=hp.d2.2.2;have vM:=hp.lt;clear hp hc hr hq h1 h2
 go_enter_defers func115,ntmps115
 go_wp2_with fail
 refine(zD H.out hd).mono ?_;rintro e w1 ⟨rfl,dX,iV,dD,gi⟩;have lS:=aZH iV;have im:=aZH gi;have kh:=aZH dD;have nw:=aZH dX;clear iV gi dD dX
 go_wp2_with fail
 refine(pW kh.out [33] H1.out zd).mono ?_;rintro e w2 ⟨rfl,rfl⟩
 go_wp2_with fail
 refine(uE kh.out [92,43] H2.out).mono ?_;rintro e w3 ⟨rfl,gH,dU⟩;have tK:=aZH gH;have nR:=aZH dU;clear gH dU
 go_wp2_with fail
 refine(Mv.go tK.out (HC.out.fr (im.out.trans nR.out) vM) zo HR.out).mono ?_;have dX:=nw.out;have EA:=nR.out.size;have e:=HQ.out;cases r with
 | err c0 a0=>
  rintro e2 w4 ⟨⟨b,rfl,eK,gn⟩,eo,uI⟩;simp only[cj.bind,aZG] at e;subst e;exact sK fY uI (by grind [cZ.bH,Hid.out]) ⟨b,J,eK,zo⟩ ((im.out.trans nR.out).trans eo)
 | ok y k2 v2=>
 rintro e2 w4 ⟨v,rfl,hv,jP,eo⟩;simp only[cj.bind,aZG] at e;subst e;obtain⟨Gf,rfl,nK⟩:=hv.shape;have AM:=eo.size;have Mj:=aZH hv;have sL:=aZH jP;have sN:=aZH eo;clear hv jP eo nK dX HQ
 go_wp2_with fail
 have dX:=nw.out;have gK:∀ o o',((w4.alloc o).alloc o').heap.size=w4.heap.size+2:=(by grind [size_alloc]);refine yj (j:=2) FY J fY (by grind [dQ,SP.ext,Hid.out]) zo (by grind [dQ,cZ.bH,Hid.out]) ?_
  (by grind [trans,bB.alloc,bB.trans,Hid.out])
 refine Dp zg (by grind [Es,size_alloc]) H6 (aCA zg (dQ (blk_alloc_new _ _)) ?_);exact dL.mono zg (by grind [dQ]) _ _ Mj.out
def TW.paren(h:TW T)(hk:k<T.length)(b:eh T k [40]=A):(tk T k).kind=4/\(tk T k).text=[40]:=by
 unfold eh at b;simp only[Bool.and_eq_true,Bool.or_eq_true,beq_iff_eq] at b;obtain⟨a,d⟩:=b;refine⟨?_,d⟩;rcases a with a | a
 .omega
 .obtain⟨c,r,e,f⟩:=h.words _ (JB hk) a;rw[d] at e;cases e;exact absurd f zd
def aC0(a:eh T k [40]=G):(tk T k).kind≠4\/(tk T k).text≠[40]:=by
 grind [eh,tk]
def aC1(JZ:JX f)(hp:SP w pb tb T k vars d)(hc:mw w tb)(hd:d+1<=8)(h1:eh T k [33]=G)(h2:eh T k [92,43]=G)
  (h3:eh T k [40]=A)
  {r:cj Bd} (hr:ml T f (k+1) vars (d+1)=O r) {q:cj Bd} (hq:cj.bind (O r) (fun b k' vars'=>mW T [41] b k' vars')=O q) :
  Calls a9x 115 #[pp pb] w (jN dL pb tb T d w q):=by
 have H:=aZH hp;have HC:=aZH hc;have HR:=aZH hr;have HQ:=aZH hq;have H1:=aZH h1;have H2:=aZH h2;have H3:=aZH h3;have HK:=aZH (hp.tw.paren hp.kt h3);have fY:=hp.d2.2.2;have vM:=hp.lt;clear hp hc hr hq h1 h2 h3
 go_enter_defers func115,ntmps115
 go_wp2_with fail
 refine(zD H.out hd).mono ?_;rintro e w1 ⟨rfl,dX,iV,dD,gi⟩;have lS:=aZH iV;have im:=aZH gi;have kh:=aZH dD;have nw:=aZH dX;clear iV gi dD dX
 go_wp2_with fail
 refine(pW kh.out [33] H1.out zd).mono ?_;rintro e w2 ⟨rfl,rfl⟩
 go_wp2_with fail
 refine(pW kh.out [92,43] H2.out zd).mono ?_;rintro e w2 ⟨rfl,rfl⟩;have dD:=kh.out;obtain⟨n,c,h0,f0,hb,l1,l2,l3,l4,fc,eV⟩:=dD.on (by have:=HK.out;omega);obtain⟨t0,t1,t2⟩:=dD.toks.at dD.kt;have xf:tb<w1.heap.size:=zo;have ed:¬ tb=pb:=zo;have RI:¬ pb=tb:=zo;have iO:=aZH fc;have fO:=aZH eV;rw[HK.out.1] at t0;rw[HK.out.2] at t1;clear dD fc eV t2
 go_wp2_with fail
 refine(JZ.go iO.out (HC.out.fr (im.out.trans fO.out) vM) zo HR.out).mono ?_;have dX:=nw.out;have qE:=fO.out.size;have e:=HQ.out;have q9:((FX w1 pb tb k n c)).heap[w.heap.size]?=_:=fO.out.bH lS.out zo zd;cases r with
 | err c0 a0=>
  rintro e2 w4 ⟨⟨b,rfl,eK,gn⟩,eo,uI⟩;simp only[cj.bind,aZG] at e;subst e;exact sK fY uI (by grind [cZ.bH]) ⟨b,J,eK,zo⟩ ((im.out.trans fO.out).trans eo)
 | ok y k2 v2=>
 rintro e2 w4 ⟨v,rfl,hv,jP,eo⟩;simp only[cj.bind] at e;obtain⟨Gf,rfl,nK⟩:=hv.shape;have AM:=eo.size;have Mj:=aZH hv;have sL:=aZH jP;have sN:=aZH ((im.out.trans fO.out).trans eo);have HX4:=aZH (eo.bH q9 zo zd);have HE:=aZH e;have HBY:=aZH nK;clear hv jP eo nK HQ q9 h0 f0 t0 t1 e;have aT2:w.heap.size+1<=w4.heap.size:=zo;have abM:w.heap.size+1<=(FX w1 pb tb k n c).heap.size:=zo;have aC2:=aZH abM;clear dX qE AM abM
 go_wp2_with fail
 have e:=HE.out;unfold mW at e;by_cases hm:eh T k2 [41]=A
 .rw[zip hm,aZG] at e;subst e;refine(RF sL.out [41] hm).mono ?_;rintro e w5 ⟨rfl,mP,iP⟩;have Wc:=aZH mP;have OS:=aZH iP;clear mP iP hm HE
  go_wp2_with fail
  have hz5:=OS.out.size;have abM:=aC2.out;refine yj (j:=2) FY J fY Wc.out zo (by grind [cZ.bH,Hid.out]) ?_ (sN.out.trans OS.out);exact FY _ _ _ _ _ _ _ Mj.out OS.out zg
 .rw[bZ hm,aZG] at e;subst e;refine(RG sL.out [41] zg zd).mono ?_;rintro e w5 ⟨⟨b,rfl,eK,gn⟩,iP,xj⟩;exact sK fY xj (by grind [cZ.bH,Hid.out]) ⟨b,J,eK,zo⟩ (sN.out.trans iP)
def aC3(a b c d e f g h i:Bs)(j:Nat)(hj:j<9)(v:Y)(hv:(#[Value.string (bs a),aT b,aT c,aT d,aT e,aT f,aT g,aT h,aT i]:Array Y)[j]?=O v)(w:Z) :
  (Instr.index 282 (.agg #[Value.string (bs a),aT b,aT c,aT d,aT e,aT f,aT g,aT h,aT i]) (zi j)).run a9x w = .ok v w:=by
 have e1:(sizeOf 9).run a9x w = .ok 1 w:=by simp [go_sem,sizeOf9,isAgg9]
 have e2:(isAgg 9).run a9x w = .ok G w:=by simp [go_sem,sizeOf9,isAgg9]
 simp [Instr.index,run_underlying underlying282,asIntOf,hj,go_sem,e1,e2];grind
namespace P
def named(x:Ex):Prop:=x.kind=97\/x.kind=99->x.name≠[]
theorem aC4{t:Tok}{v v':List Bs}{x:Ex}(h:zj t k v = .ok x k' v'):named x:=by
 grind [zj,named,Ex.kind]
theorem akU{all:List Ex}{x:Ex}(hx:named x):named (CU all x):=by
 cases all with
 | nil=>exact hx
 | cons a l=>simp [CU,named,Ex.name]
structure aC5(T:List Tok)(f:Nat):Prop where
 Ez:∀ k v d x k' v',pN T f k v d=O (.ok x k' v')->named x
 list:∀ k v d x k' v',qV T f k v d=O (.ok x k' v')->named x
 oper:∀ l k v d x k' v',jt T f l k v d=O (.ok x k' v')->named x
 more:∀ l y k v d x k' v',named y->qx T f l y k v d=O (.ok x k' v')->named x
def akV(T:List Tok)(g:∀ k,(tk T k).kind=1->(tk T k).text≠[]):∀ f,aC5 T f
 | 0=>⟨by simp_all [pN],by simp_all [qV],by simp_all [jt],by simp_all [qx]⟩
 | f+1=>by
  have ih:=akV T g f;refine⟨?_,?_,?_,?_⟩
  .intro k v d x k' v' h;rw[pN] at h;split at h
   .grind
   split at h
   .grind [aZG,cj.ok.injEq,named,Ex.kind]
   split at h
   .grind [aZG,aC4]
   split at h
   .rename_i hk;split at h
    .obtain⟨a,e,v1,c,b⟩:=ee h;rw[(nP b).2.1];exact fun _=>g k hk
    .simp only[aZG,cj.ok.injEq] at h;rw[<- h.1];exact fun _=>g k hk
   split at h
   .grind [aZG,cj.ok.injEq,named,Ex.kind]
   split at h
   .obtain⟨a,e,v1,c,b⟩:=ee h;rw[(nP b).2.1];exact ih.oper _ _ _ _ _ _ _ c
   split at h
   .exact ih.list _ _ _ _ _ _ h
   grind
  .intro k v d x k' v' h;rw[qV] at h;have n:named (.mk 97 [91,93] 0 0 []):=by simp [named,Ex.name]
   split at h
   .grind
   .obtain⟨y,e,v1,c,b⟩:=ee h;split at b
    .obtain⟨z,p,v2,i,j⟩:=ee b;rw[(nP j).2.1];exact akU (ih.oper _ _ _ _ _ _ _ i)
    grind [nP,akU]
  .intro l k v d x k' v' h;rw[jt] at h;split at h
   .exact ih.Ez _ _ _ _ _ _ h
   .obtain⟨y,e,v1,c,b⟩:=ee h;exact ih.more _ _ _ _ _ _ _ _ (ih.oper _ _ _ _ _ _ _ c) b
  .intro l y k v d x k' v' q h;rw[qx] at h;split at h
   .grind
   .rename_i o m;obtain⟨z,e,v1,c,b⟩:=ee h;refine ih.more _ _ _ _ _ _ _ _ ?_ b;intro _;have hm:=List.mem_of_find?_eq_some m;rw[show(Ex.mk 99 o 0 0 [y,z]).name=o from rfl];rintro rfl;grind [ops]
end P
noncomputable def abN:Code:=match Tryz.f115.body with
 | some (.seq _ (.seq _ (.seq _ (.seq _ (.seq _ (.seq _ c))))))=>c
 | _=>.skip
noncomputable def aC6:Code:=match abN with | .seq (.seq c _) _=>c | _=>.skip
noncomputable def aC7:Code:=match abN with | .seq (.seq _ c) _=>c | _=>.skip
noncomputable def aC8:Code:=match abN with | .seq _ c=>c | _=>.skip
def P.H9(at_:Nat)(x:Ex)(k':Nat)(vars':List Bs):Option (cj Bd):=
 if Eh x then O (.err 2 at_)
 else if 0<=jG x.name/\jG x.name≠x.args.length then O (.err 3 at_)
 else O (.ok (.mk 103 x.name x.args []) k' vars')
def P.akW{name:Bs}{a:Int}{args:List Ex}{t:Int}(b:Eh (.mk cap name a so args)=G)(ht:t=jG name) :
  P.H9 pb (.mk cap name a so args) k' vars=if 0<=t/\t≠args.length then O (.err 3 pb) else O (.ok (.mk 103 name args []) k' vars):=by
 subst ht;unfold P.H9;rw[bZ (by simp [b])];rfl
def aC9{x:Ex}{q:cj Bd}(u1 u2 u3 u6 u7 u8 u9 ym yn yo vI vJ yp u16 yq yr BI BJ BK BL BM BN BO BP BQ Dc Dd De Hs u32 Ht AL Ev FZ F0 Md Me u40 u41 u42 u43 u44 u45 u46 u47 u48 u49 u50 u51 u52 u53 u54 u55 u56 u57 u58 u59 u60 u61 u62 u63 u64 u65 u66 u67 u68 u69 u70 u71 u72 u73 u74 u75 u76 u77 u78 u79 u80 u81 u82 u83 u84 u85 u86 u87 u88 u89 u90 u91 u92 u93 u94 u95 u96 u97 u98 u99 aD7 aD8 aD9 aEa aEb aEc aEd aEe aEf aEg aEh aEi aEj aEk aEl aEm aEn aEo aEp aEq aEr aEs aEt aEu aEv aEw aEx aEy aEz aEA aEB aEC aED aEE aEF aEG aEH aEI aEJ aEK aEL aEM aEN aEO aEP aEQ aER aES aET aEU aEV aEW aEX aEY aEZ aE0 aE1 aE2 aE3 aE4:Y)
  (hp:SP w3 pb tb T so vars (d+1)) (hd:d+1<=8) (hf:cZ pb w w3) (fY:pb<w.heap.size) (hb0:w.heap.size<=cap) (jy:w3.heap[cap]?=aM #[pp pb] 139)
  (hx:eL (Nu w w3) w3 (pp bx) x) (mm:P.named x) (hq:P.H9 k' x so vars=O q) (K1 K:Act->Z->Prop) (hK:∀ a w',aC8.wp a9x (bodyPostD a9x Tryz.f115 (jN dL pb tb T d w q)) a w'->K a w') (hK1:∀ a w',aC7.wp a9x (Exit.then K (bodyPostD a9x Tryz.f115 (jN dL pb tb T d w q))) a w'->K1 a w') :
  aC6.wp a9x (Exit.then K1 (Exit.then K (bodyPostD a9x Tryz.f115 (jN dL pb tb T d w q)))) { tmps:=#[pp pb,u1,u2,u3,zi k',pp bx,u6,u7,u8,u9,ym,yn,yo,vI,vJ,yp,u16,yq,yr,BI,BJ,BK,BL,BM,BN,BO,BP,BQ,Dc,Dd,De,Hs,u32,Ht,AL,Ev,FZ,F0,Md,Me,u40,u41,u42,u43,u44,u45,u46,u47,u48,u49,u50,u51,u52,u53,u54,u55,u56,u57,u58,u59,u60,u61,u62,u63,u64,u65,u66,u67,u68,u69,u70,u71,u72,u73,u74,u75,u76,u77,u78,u79,u80,u81,u82,u83,u84,u85,u86,u87,u88,u89,u90,u91,u92,u93,u94,u95,u96,u97,u98,u99,aD7,aD8,aD9,aEa,aEb,aEc,aEd,aEe,aEf,aEg,aEh,aEi,aEj,aEk,aEl,aEm,aEn,aEo,aEp,aEq,aEr,aEs,aEt,aEu,aEv,aEw,aEx,aEy,aEz,aEA,aEB,aEC,aED,aEE,aEF,aEG,aEH,aEI,aEJ,aEK,aEL,aEM,aEN,aEO,aEP,aEQ,aER,aES,aET,aEU,aEV,aEW,aEX,aEY,aEZ,aE0,aE1,aE2,aE3,aE4],defers:=[RN cap] } w3:=by
 change ∀ a w',Code.wp _ (Code.seq _ _) _ a w'->_ at hK;change ∀ a w',Code.wp _ (Code.cond _ _ _) _ a w'->_ at hK1;have HP:=aZH hp;have HF:=aZH hf;have zI:=aZH jy;have HX:=aZH hx;have HQ:=aZH hq;cases x with
 | mk kind name nn kk args=>
 unfold eL at hx;obtain⟨bx',av,vs,e1,hF,ns,h4,h5⟩:=hx;cases e1;obtain⟨pa,pn,pc,rfl,BY,-,-⟩:=h4.shape;have hlen:=h5.length;have c0:w3.cell? ⟨bx,0,V⟩=O (.int .u8 kind):=cellOf ns J;have c1:w3.cell? ⟨bx,1,V⟩=O (aT name):=cellOf ns J;have c4:w3.cell? ⟨bx,4,V⟩=O (.slice pa pn pc):=cellOf ns J;have oK:=hF.2;have HA:Hid (lp (Nu w w3) w3 (.slice pa pn pc) args):=aZH ⟨vs,h4,h5⟩;have jS:pn=args.length:=zo;have hl:=bg jy;clear hF ns h4 h5 hp hf jy hq BY hlen;change Code.wp _ (Code.region _ _ _) _ _ _;by_cases hA:kind≠97/\kind≠99
 .have k1:((kind:Int) == 97)=false:=zg;have k2':((kind:Int) == 99)=false:=zg
  go_wp2_with fail
  refine(BF _ _ _ pb HP.out.sb).mono ?_;rintro e2 w5 ⟨⟨b,rfl,eK,gn⟩,iP,xj⟩;have e:=HQ.out;rw[P.H9,zip (by grind [Eh,Ex.kind])] at e;simp only[aZG] at e;subst e;have:=HF.out.size;exact sK fY xj (by grind [cZ.bH,Hid.out]) ⟨b,J,eK,zo⟩ (HF.out.trans iP)
 .obtain⟨cc,rr,rfl⟩:∃ cc rr,name=cc::rr:=by
   cases name with
   | nil=>exact absurd J (mm (by grind [Ex.kind]))
   | cons a l=>grind
  have nu:kind=97\/kind=99:=zo;clear hA mm HX;by_cases hB:cc::rr=[46]
  .rw[hB] at c1 HQ;rcases nu with rfl | rfl;all_goals (
    go_wp2_with fail
    refine(BF _ _ _ pb HP.out.sb).mono ?_;rintro e2 w5 ⟨⟨b,rfl,eK,gn⟩,iP,xj⟩;have e:=HQ.out;rw[P.H9,zip (by simp [Eh,Ex.name])] at e;simp only[aZG] at e;subst e;have:=HF.out.size;exact sK fY xj (by grind [cZ.bH,Hid.out]) ⟨b,J,eK,zo⟩ (HF.out.trans iP))
  by_cases hC:cc::rr=[91,93]
  .rw[hC] at c1 HQ;rcases nu with rfl | rfl;all_goals (
    go_wp2_with fail
    refine(BF _ _ _ pb HP.out.sb).mono ?_;rintro e2 w5 ⟨⟨b,rfl,eK,gn⟩,iP,xj⟩;have e:=HQ.out;rw[P.H9,zip (by simp [Eh,Ex.name])] at e;simp only[aZG] at e;subst e;have:=HF.out.size;exact sK fY xj (by grind [cZ.bH,Hid.out]) ⟨b,J,eK,zo⟩ (HF.out.trans iP))
  have d1:(cc::rr == ([46]:Bs))=false:=zg;have d2:(cc::rr == ([91,93]:Bs))=false:=zg;rcases nu with rfl | rfl;all_goals (
   go_wp2_with fail
   refine(akr cc).mono ?_;rintro e2 w5 ⟨rfl,rfl⟩;by_cases hD:P.cls cc=115
   ·
    rw[hD];have d4:((cc::rr == ([109,111,100]:Bs))=G)\/cc::rr=[109,111,100]:=by
     by_cases h:cc::rr=[109,111,100]
     .exact .inr h
     .exact zg
    rcases d4 with d4 | d4
    .go_wp2_with fail
     have hM:¬ (cc::rr=[109,111,100]):=by simpa using d4
     refine(Mq _).mono ?_;rintro e2 w6 ⟨rfl,rfl⟩;obtain⟨tt,Sm⟩:=cd (jG (cc::rr));rw[<- Sm];have e:=HQ.out;rw[P.akW (by simp [Eh,Ex.name,Ex.kind,Ex.args];simp [hD,hB,hC,hM] at *;simp_all) Sm] at e;have HE:=aZH e;clear e Sm;by_cases h0:0<=tt
     .by_cases h1:tt=pn
      .have zU:(tt == (pn:Int))=true:=by simpa using h1
       subst h1
       go_wp2_with fail
       have e:=HE.out;rw[bZ (by rintro ⟨_,h⟩;exact h (by rw[jS]))] at e;simp only[aZG] at e;subst e;have iO:Hid (SP w6.drew pb tb T so vars (d+1)):=aZH (HP.out.ext fun b o h=>h);have fO:Hid (cZ pb w w6.drew):=aZH HF.out.drew;have J1:Hid (w6.drew.heap[cap]?=aM #[pp pb] 139):=aZH zI.out;have J2:Hid (lp (Nu w w6.drew) w6.drew (.slice pa pn pc) args):=aZH (lp.mono (F:=Nu w w6) (F':=Nu w w6.drew) (w:=w6) (w':=w6.drew) (fun b hb=>hb) (fun b o _ _ ho=>ho) HA.out);have pY:cap<w6.drew.heap.size:=hl;have hz:=fO.out.size
       go_still_tail 9,zk
       change wpList _ _ _ _ _ w6.drew;generalize w6.drew=w7 at iO fO J1 J2 pY hz ⊢;clear HP HF zI HA hl oK c0 c1 c4
       go_wp2_with fail
       have J3:=J2.out;rw[jS] at J3;refine yj (j:=2) FY J fY (iO.out.ext (by grind [dQ])) zo (dQ J1.out) ?_ (fO.out.alloc _);exact Dp (by grind [size_alloc]) (blk_alloc_new _ _) (lp.mono (F:=Nu w w7) (F':=Nu w _) (w:=w7) (by grind [size_alloc]) (by grind [dQ]) J3) JY
      .have zU:(tt == (pn:Int))=false:=by simpa using h1
       have h1n:=h1;have h0n:=h0
       go_wp2_with fail
       have e:=HE.out;rw[zip ⟨h0n,by rw[<- jS];exact h1n⟩] at e;simp only[aZG] at e;subst e;refine(BF _ _ _ pb HP.out.sb).mono ?_;rintro e2 w7 ⟨⟨b,rfl,eK,gn⟩,iP,xj⟩;have:=HF.out.size;exact sK fY xj (by grind [cZ.bH,Hid.out]) ⟨b,J,eK,zo⟩ (HF.out.trans iP)
     .go_wp2_with fail
      have e:=HE.out;rw[bZ (by rintro ⟨h,_⟩;omega)] at e;simp only[aZG] at e;subst e;have iO:Hid (SP w6.drew pb tb T so vars (d+1)):=aZH (HP.out.ext fun b o h=>h);have fO:Hid (cZ pb w w6.drew):=aZH HF.out.drew;have J1:Hid (w6.drew.heap[cap]?=aM #[pp pb] 139):=aZH zI.out;have J2:Hid (lp (Nu w w6.drew) w6.drew (.slice pa pn pc) args):=aZH (lp.mono (F:=Nu w w6) (F':=Nu w w6.drew) (w:=w6) (w':=w6.drew) (fun b hb=>hb) (fun b o _ _ ho=>ho) HA.out);have pY:cap<w6.drew.heap.size:=hl;have hz:=fO.out.size
      go_still_tail 9,zk
      change wpList _ _ _ _ _ w6.drew;generalize w6.drew=w7 at iO fO J1 J2 pY hz ⊢;clear HP HF zI HA hl oK c0 c1 c4
      go_wp2_with fail
      have J3:=J2.out;rw[jS] at J3;refine yj (j:=2) FY J fY (iO.out.ext (by grind [dQ])) zo (dQ J1.out) ?_ (fO.out.alloc _);exact Dp (by grind [size_alloc]) (blk_alloc_new _ _) (lp.mono (F:=Nu w w7) (F':=Nu w _) (w:=w7) (by grind [size_alloc]) (by grind [dQ]) J3) JY
    .rw[d4] at c1 HQ;have d5:(([109,111,100]:Bs) == [109,111,100])=true:=zd;by_cases fc:pn=2
     .have AX:((pn:Int) == 2)=true:=by simp;omega
      go_wp2_with fail
      have e:=HQ.out;rw[P.H9,zip (by simp [Eh,Ex.name,Ex.args];omega)] at e;simp only[aZG] at e;subst e;refine(BF _ _ _ pb HP.out.sb).mono ?_;rintro e2 w7 ⟨⟨b,rfl,eK,gn⟩,iP,xj⟩;have:=HF.out.size;exact sK fY xj (by grind [cZ.bH,Hid.out]) ⟨b,J,eK,zo⟩ (HF.out.trans iP)
     .have AX:((pn:Int) == 2)=false:=by simp;omega
      go_wp2_with fail
      refine(Mq _).mono ?_;rintro e2 w6 ⟨rfl,rfl⟩;have Sm:jG [109,111,100]=-1:=zd;rw[Sm];have e:=HQ.out;rw[P.akW (t:=-1) (by simp [Eh,Ex.name,Ex.kind,Ex.args];first | omega | (simp [P.cls];omega) | decide) zd] at e;rw[bZ (by rintro ⟨h,_⟩;omega)] at e;simp only[aZG] at e;subst e
      go_wp2_with fail
      have iO:Hid (SP w6.drew pb tb T so vars (d+1)):=aZH (HP.out.ext fun b o h=>h);have fO:Hid (cZ pb w w6.drew):=aZH HF.out.drew;have J1:Hid (w6.drew.heap[cap]?=aM #[pp pb] 139):=aZH zI.out;have J2:Hid (lp (Nu w w6.drew) w6.drew (.slice pa pn pc) args):=aZH (lp.mono (F:=Nu w w6) (F':=Nu w w6.drew) (w:=w6) (w':=w6.drew) (fun b hb=>hb) (fun b o _ _ ho=>ho) HA.out);have pY:cap<w6.drew.heap.size:=hl;have hz:=fO.out.size
      go_still_tail 9,zk
      change wpList _ _ _ _ _ w6.drew;generalize w6.drew=w7 at iO fO J1 J2 pY hz ⊢;clear HP HF zI HA hl oK c0 c1 c4
      go_wp2_with fail
      have J3:=J2.out;rw[jS] at J3;refine yj (j:=2) FY J fY (iO.out.ext (by grind [dQ])) zo (dQ J1.out) ?_ (fO.out.alloc _);exact Dp (by grind [size_alloc]) (blk_alloc_new _ _) (lp.mono (F:=Nu w w7) (F':=Nu w _) (w:=w7) (by grind [size_alloc]) (by grind [dQ]) J3) JY
   .have d3:((P.cls cc:Int) == 115)=false:=by simp;omega
    go_wp2_with fail
    refine(BF _ _ _ pb HP.out.sb).mono ?_;rintro e2 w5 ⟨⟨b,rfl,eK,gn⟩,iP,xj⟩;have e:=HQ.out;rw[P.H9,zip (by simp [Eh,Ex.name,hD])] at e;simp only[aZG] at e;subst e;have:=HF.out.size;exact sK fY xj (by grind [cZ.bH,Hid.out]) ⟨b,J,eK,zo⟩ (HF.out.trans iP))
def P.akX(T:List P.Tok)(f at_ d:Nat)(x:Ex)(k':Nat)(vars':List Bs):Option (cj Bd):=
 match LB T k' with
 | some c=>cj.bind (jt T f 0 (k'+1) vars' (d+1)) fun y a b=>O (.ok (.mk 103 c [x,y] []) a b)
 | none=>
  if Eh x then O (.err 2 at_)
  else if 0<=jG x.name/\jG x.name≠x.args.length then O (.err 3 at_)
  else O (.ok (.mk 103 x.name x.args []) k' vars')
def aE8(hp:SP w pb tb T k vars d)(hc:mw w tb)(hd:d+1<=8)(h1:eh T k [33]=G)(h2:eh T k [92,43]=G)
  (h3:eh T k [40]=G) {r:cj Ex} (hr:jt T f 0 k vars (d+1)=O r) {q:cj Bd} (hq:cj.bind (O r) (fun x k' vars'=>P.akX T f (tk T k).pos d x k' vars')=O q) :
  Calls a9x 115 #[pp pb] w (jN dL pb tb T d w q):=by
 have H:=aZH hp;have HC:=aZH hc;have HR:=aZH hr;have HQ:=aZH hq;have H1:=aZH h1;have H2:=aZH h2;have H3:=aZH h3;have HK:=aC0 h3;have fY:=hp.d2.2.2;have vM:=hp.lt;clear hp hc hr hq h1 h2 h3
 go_enter_defers func115,ntmps115
 go_wp2_with fail
 refine(zD H.out hd).mono ?_;rintro e w1 ⟨rfl,dX,iV,dD,gi⟩;have lS:=aZH iV;have im:=aZH gi;have kh:=aZH dD;have nw:=aZH dX;clear iV gi dD dX
 go_wp2_with fail
 refine(pW kh.out [33] H1.out zd).mono ?_;rintro e w2 ⟨rfl,rfl⟩
 go_wp2_with fail
 refine(pW kh.out [92,43] H2.out zd).mono ?_;rintro e w2 ⟨rfl,rfl⟩;have dD:=kh.out;obtain⟨n,c,h0,l1,l2,-,l3,l4⟩:=dD.l0;obtain⟨t0,t1,t2⟩:=dD.toks.at dD.kt;have xf:tb<w1.heap.size:=Nat.lt_trans dD.lt dD.d2.2.2;have BR:=dD.d2.2.2;obtain⟨kd,iN⟩:∃ kd:Int,kd=((tk T k).kind:Int):=⟨_,J⟩;obtain⟨tx,htx⟩:=cd ((tk T k).text);rw[<- iN] at t0;rw[<- htx] at t1;have Hv:(tx == [40])=G\/tx=[40]/\(kd == 4)=false:=by
  grind
 clear dD iN htx HK;rcases Hv with Hv | ⟨rfl,Hv⟩;all_goals (
  go_wp2_with fail
  refine((akq f).go kh.out zo HR.out).mono ?_;have dX:=nw.out;cases r with
  | err c0 a0=>
   rintro e2 w4 ⟨⟨b,rfl,eK,gn⟩,eo,uI⟩;have e:=HQ.out;simp only[cj.bind,aZG] at e;subst e;exact sK fY uI (by grind [cZ.bH,Hid.out]) ⟨b,J,eK,zo⟩ (im.out.trans eo)
  | ok x k2 v2=>
  rintro e2 w3 ⟨v,rfl,hv,gH,dU⟩;obtain⟨bx,rfl,jy⟩:=hv.shape;have V7:=aZH hv;have tK:=aZH gH;have nR:=aZH dU;have HC3:=aZH (HC.out.fr (im.out.trans dU) vM);obtain⟨cf,Ia⟩:∃ cf:Nat->Bs,∀ j,cf j=LA.getD j []:=⟨_,fun _=>rfl⟩;have zZ:∀ j,j<9->w3.cell? ⟨3,j,V⟩=O (aT (cf j)):=(by grind [mw.cell,Hid.out]);have Sn:=aZH Ia;have AP:=HC3.out.lt;have aT5:=gH.d2.2.2;have a0:=zZ 0 zd;have a1:=zZ 1 zd;have a2:=zZ 2 zd;have a3:=zZ 3 zd;have a4:=zZ 4 zd;have a5:=zZ 5 zd;have a6:=zZ 6 zd;have a7:=zZ 7 zd;have a8:=zZ 8 zd;have Dh:3<w3.heap.size:=zo;have e:=HQ.out;simp only[cj.bind] at e;unfold P.akX at e;have HE:=aZH e;have V9:=aZH (dU.bH lS.out zo zd);have EA:=dU.size;clear hv gH dU zZ t0 t1 t2 h0 e Ia
  go_wp2_with fail
  go_loop [7,66] (fun s i=>∃ j:Nat,j<=9/\i=zi j/\∀ j',j'<j->eh T k2 (cf j')=G) (fun _ i=>9-(intOf i).toNat)
  case atStart=>exact zg
  case round=>
   obtain⟨j,hj,rfl,lM⟩:=hrel;have Ew:=aZH lM;clear lM;by_cases hlt:j<9
   .have hj9:j=0\/j=1\/j=2\/j=3\/j=4\/j=5\/j=6\/j=7\/j=8:=zo;have Ma:(cf j).all P.digit=false:=by rw[Sn.out];rcases hj9 with rfl | rfl | rfl | rfl | rfl | rfl | rfl | rfl | rfl<;>decide
    have OU:eh T k2 (cf j)=A->LB T k2=O (cf j):=fun h=>by
     rw[LB,Zr (j:=j) (by simp [LA];omega) (by rw[<- Sn.out];exact h) (fun j' Wf=>by rw[<- Sn.out];exact Ew.out j' Wf),<- Sn.out]
    have HFI:=aZH OU;have HSD:=aZH Ma;clear OU Ma hj;have hix:∀ w,(Instr.index 282 (.agg #[aT (cf 0),aT (cf 1),aT (cf 2),aT (cf 3),aT (cf 4),aT (cf 5),aT (cf 6),aT (cf 7),aT (cf 8)]) (zi j)).run a9x w = .ok (aT (cf j)) w:=
     fun w=>aC3 _ _ _ _ _ _ _ _ _ j hlt _ (by rcases hj9 with rfl | rfl | rfl | rfl | rfl | rfl | rfl | rfl | rfl<;>rfl) w
    clear hj9;by_cases qd:eh T k2 (cf j)=A
    ·(
      go_wp2_with fail
      refine(uE tK.out _ qd).mono ?_;rintro e w4 ⟨rfl,jP,eo⟩;have sL:=aZH jP;have sN:=aZH eo;have AM:=eo.size;clear jP eo a0 a1 a2 a3 a4 a5 a6 a7 a8
      go_wp2_with fail
      have e:=HE.out;rw[HFI.out qd] at e;dsimp only at e;cases hq:jt T f 0 (k2+1) v2 (d+1) with
      | none=>rw[hq] at e;simp [cj.bind] at e
      | some q2=>
      rw[hq] at e;refine((akq f).go sL.out zo hq).mono ?_;cases q2 with
      | err c0 a0=>
       rintro e2 w5 ⟨⟨b,rfl,eK,gn⟩,iP,xj⟩;simp only[cj.bind,aZG] at e;subst e;exact sK fY xj (iP.bH (by grind [cZ.bH,Hid.out]) zo zd) ⟨b,J,eK,zo⟩ (by grind [trans,bB.trans,Hid.out])
      | ok y k5 v5=>
      rintro e2 w5 ⟨v,rfl,hv,mP,iP⟩;simp only[cj.bind,aZG] at e;subst e;obtain⟨Gf,rfl,nK⟩:=hv.shape;have hz5:=iP.size;have HV5:=aZH hv;have Wc:=aZH mP;have OS:=aZH iP;clear hv mP iP nK hq HE
      go_wp2_with fail
      have gK:∀ o o',((w5.alloc o).alloc o').heap.size=w5.heap.size+2:=(by grind [size_alloc]);refine yj (j:=2) FY J fY (by grind [dQ,SP.ext,Hid.out]) zo (by grind [dQ,cZ.bH,Hid.out]) ?_
       (by grind [trans,bB.alloc,bB.trans,Hid.out])
      refine Dp zg (by grind [Es,size_alloc]) (aaZ zg (dQ (blk_alloc_new _ _)) ?_ ?_) JY
      .exact eL.mono zg
        (by grind [dQ,cZ.kX,Hid.out]) _ _ V7.out
      .exact eL.mono zg
        (by grind [dQ]) _ _ HV5.out)
    ·(
      go_wp2_with fail
      refine(pW tK.out _ (by simpa using qd) HSD.out).mono ?_;rintro e w4 ⟨rfl,rfl⟩;have aFb:=aZH qd;clear qd
      go_wp2_with fail
      refine⟨⟨j+1,zo,zs,fun j' Wf=>?_⟩,?_⟩
      .rcases Nat.lt_or_ge j' j with h | h
       .exact Ew.out j' h
       .obtain rfl:j'=j:=zo;simpa using aFb.out
      .simp only[intOf];omega)
   .have:j=9:=zo;subst this;have xl:LB T k2=none:=ahM fun j' Wf=>by rw[<- Sn.out];exact Ew.out j' Wf
    have e:=HE.out;rw[xl] at e;dsimp only at e;have mm:=(akV T (fun k hk=>by
     rcases Nat.lt_or_ge k T.length with h | h
     .obtain⟨c,r,e1,_⟩:=H.out.tw.words _ (JB h) hk;rw[e1];simp
     .rw[show tk T k=tk T T.length by simp [tk,List.getD_eq_getElem?_getD,List.getElem?_eq_none h]] at hk;simp [tk] at hk) f).oper _ _ _ _ _ _ _ HR.out
    have vQ:eL (Nu w w3) w3 (pp bx) x:=eL.mono (F:=Nu w1 w3) zg zg _ _ V7.out;have hle:P.H9 (tk T k).pos x k2 v2=O q:=e;have HVV:=aZH vQ;have HLE:=aZH hle;have HNM:=aZH mm;clear vQ hle mm e HE xl a0 a1 a2 a3 a4 a5 a6 a7 a8
    go_upto_region 19 with(fail)
    exact aC9 _ _ _ _ _ _ _ _ _ _ _ _ _ _ _ _ _ _ _ _ _ _ _ _ _ _ _ _ _ _ _ _ _ _ _ _ _ _ _ _ _ _ _ _ _ _ _ _ _ _ _ _ _ _ _ _ _ _ _ _ _ _ _ _ _ _ _ _ _ _ _ _ _ _ _ _ _ _ _ _ _ _ _ _ _ _ _ _ _ _ _ _ _ _ _ _ _ _ _ _ _ _ _ _ _ _ _ _ _ _ _ _ _ _ _ _ _ _ _ _ _ _ _ _ _ _ _ _ _ _ _ _ _ _ _ _ _ _ _ _ _ _ _ _ _ _ _ _ _ _ _ _ _ _ _ _ _ tK.out hd (im.out.trans nR.out) fY zo V9.out HVV.out HNM.out HLE.out _ _ (by assumption) (by assumption))
theorem aFf(m:OP f)(n:JX f):OP (f+1):=⟨by
 intro pb tb T k vars d w q b e o a;by_cases c:d+1<=8
 .rw[np,bZ (by grind [P.maxDepth])] at a;by_cases g:eh T k [33]=A
  .rw[zip g] at a;simp only[aZG] at a;subst a;exact aCY b c g
  rw[bZ g] at a;have h:eh T k [33]=false:=zg;by_cases i:eh T k [92,43]=A
  .rw[zip i] at a;cases hr:np T f (k+1) vars (d+1) with
   | none=>rw[hr] at a;simp [cj.bind] at a
   | some r=>rw[hr] at a;exact aCZ m b e c h i hr a
  rw[bZ i] at a;have l:eh T k [92,43]=false:=zg;by_cases j:eh T k [40]=A
  .rw[zip j] at a;cases hr:ml T f (k+1) vars (d+1) with
   | none=>rw[hr] at a;simp [cj.bind] at a
   | some r=>rw[hr] at a;exact aC1 n b e c h l j hr a
  rw[bZ j] at a;have p:eh T k [40]=false:=zg;cases hr:jt T f 0 k vars (d+1) with
  | none=>rw[hr] at a;simp [cj.bind] at a
  | some r=>rw[hr] at a;exact aE8 b e c h l p hr a
 .rw[np,zip (by grind [P.maxDepth])] at a;simp only[aZG] at a;subst a;exact aCX b zo o⟩
def aFg(f:Nat):OP f/\OQ f/\JX f:=by
 induction f using Nat.strongRecOn with
 | ind f ih=>
  cases f with
  | zero=>exact⟨⟨fun _ _ _ h=>by simp [np] at h⟩,akJ,aCV⟩
  | succ f=>
   have a:=ih f (Nat.lt_succ_self _);grind [aCF,aFf,aCW]
def akZ(f:Nat):JX f:=(aFg f).2.2
