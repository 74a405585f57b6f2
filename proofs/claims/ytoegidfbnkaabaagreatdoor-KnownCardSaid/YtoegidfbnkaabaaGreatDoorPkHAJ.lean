/- A part of one proof (SBody, SBody2, SLit, SLit2, SIdxArr, PureN, SLitEnd, SLit3, SJoin). -/
import Derived.Test.YtoegidfbnkaabaaGreatDoorPkHAI
import Derived.StillTailTactics
import Derived.Deep.Cut
set_option linter.all false
set_option maxRecDepth 100000
set_option maxHeartbeats 8000000
open Option renaming some → O, none → V
open Go renaming Value → Y, World → Z
open Bool renaming true → A, false → G
open Go.Obj renaming cells → ae
open Option.some renaming injEq → aZ9
open Go.Lib renaming hid → a0a
open Go.Value renaming slice → a0m, ownBlock → a0T
open Go.Obj renaming cells → a0L
open Array renaming getElem?_eq_getElem → a1I
open Go.Proofs.Tryz renaming prog → a9Y
open Go.Proofs.Tryz
namespace Go.Proofs.YtoegidfbnkaabaaGreatDoor
open P
open Go.RowKit
variable{T:List P.Tok}{W w w0 w2 w3:Z}{av tv vv:Y}{bx cap d f g k k' n pb so tb:Nat}{vars:List Bs}
def P.isArrow(x:Bd):Prop:=x.kind=63/\x.parts.length=2
instance (x:Bd):Decidable (P.isArrow x):=by unfold P.isArrow;infer_instance
def P.OW(T:List P.Tok)(f a:Nat)(v1:List Bs)(d:Nat)(x:Bd):Option (cg Bd):=
 if P.isArrow x then
  if ep T a [59] then cg.bind (pU T f (a+1) v1 d) fun c e v3=>O (.ok (.mk 63 [] [] (x.parts++[c])) e v3)
  else O (.ok (.mk 63 [] [] (x.parts++[zJ])) a v1)
 else if ep T a [59] then cg.bind (pU T f (a+1) v1 d) fun b g v2=>O (.ok (.mk 59 [] [] [x,b]) g v2) else O (.ok x a v1)
def P.akL{x:Bd}(h:P.whole x):¬ P.isArrow x:=by
 cases x with
 | mk kind name args parts=>
  rintro ⟨a,b⟩;have:=h a;grind [Bd.parts]
def P.aDc(T:List P.Tok)(f k:Nat)(vars:List Bs)(d:Nat) :
  mw T (f+1) k vars d=cg.bind (P.Sc T f k vars d) fun x b v1=>P.OW T f b v1 d x:=by
 rw[mw,P.Sc];cases g:nN T f k vars d with
 | none=>rfl
 | some q=>
  cases q with
  | err c a=>rfl
  | ok x b v1=>
   have hw:=P.akL ((abD T f).row _ _ _ _ _ _ g);by_cases e:ep T b [45,62]=A
   .simp only[cg.bind,zip e];cases h:nN T f (b+1) v1 d with
    | none=>rfl
    | some q=>
     cases q with
     | err c a=>rfl
     | ok y i v2=>
      have:P.isArrow (Bd.mk 63 [] [] [x,y]):=⟨J,J⟩;simp only[P.OW,zip this];rfl
   .simp only[cg.bind,bX e,P.OW,bX hw]
def akM{a b c:Bd}(E:Nu w0 W n)(F:Nu w0 W g)(l:n≠g)(H:w0.heap.size<=W.heap.size)(I:pb<w0.heap.size)
  (p:W.heap[n]?=aN #[.int .u8 63,aM [],bH,cM g 2 2] 149)
  (q:dJ (fun m=>Nu w0 W m/\m≠n/\m≠g) W tv a) (r:dJ (fun m=>Nu w0 W m/\m≠n/\m≠g) W vv b) (s:dJ (fun m=>Nu w0 W m/\m≠n/\m≠g) W av c)
  (f:w2.ownsRow w0.heap.size 84 1 (cM cap (2+1) k') (2+1) ([tv,vv]++[av])) (i:(W.alloc (ae #[av] 84)).grownBy w2 (a0m (O ⟨g,0,V⟩) 2 2).ownBlock)
  (t:(a0m (O ⟨cap,0,V⟩) (2+1) k').ownBlock=(a0m (O ⟨g,0,V⟩) 2 2).ownBlock\/∀ k,(a0m (O ⟨cap,0,V⟩) (2+1) k').ownBlock=O k->(W.alloc (ae #[av] 84)).heap.size<=k) :
  (∃ cs:Array Y,w2.heap[n]?=aN cs 149/\cs.size=4)/\W.heap.size<w2.heap.size/\(∀ (m:Nat) (o:Obj),m≠n->m≠g->W.heap[m]?=O o->(w2.setCell ⟨n,3,V⟩ (cM cap (2+1) k')).heap[m]?=O o) /\
   dJ (Nu w0 w2) (w2.setCell ⟨n,3,V⟩ (cM cap (2+1) k')) (pp n) (.mk 63 [] [] [a,b,c]):=by
 have u:=i.size;rw[size_alloc] at u;have w:∀ (m:Nat) (o:Obj),m≠g->W.heap[m]?=O o->w2.heap[m]?=O o:=fun m o y z=>by
  have j:=dQ (o:=a0L #[av] 84) z;rw[i.block m (bf j) (fun e=>y (by simp only[a0T] at e;injection e))];exact j
 have B:=w n _ l p;have K:∀ (m:Nat) (o:Obj),m≠n->w2.heap[m]?=O o->(w2.setCell ⟨n,3,V⟩ (cM cap (2+1) k')).heap[m]?=O o:=(by grind [blk_setCell_other]);have C:cap≠n:=by
  rcases t with h | h
  .grind [a0T]
  .have:=h cap J;grind [size_alloc]
 refine⟨zg,zo,zg,?_⟩;have D:fD (fun m=>Nu w0 w2 m/\m≠n) w2 84 (cM cap (2+1) k') ([tv,vv]++[av]):=EC f fun m hm=>⟨f.lt m hm,by grind [a0T]⟩;have d:∀ {v:Y} {x:Bd},dJ (fun m=>Nu w0 W m/\m≠n/\m≠g) W v x->dJ (Nu w0 w2) (w2.setCell ⟨n,3,V⟩ (cM cap (2+1) k')) v x:=fun h=>
  dJ.mono zg zg _ _ h
 refine Dv zg (by rw[AO B];rfl) H7 ⟨_,D.mono zg zg,?_⟩;unfold gx;refine⟨tv,[vv,av],J,d q,?_⟩;unfold gx;refine⟨vv,[av],J,d r,?_⟩;unfold gx;exact⟨av,[],J,d s,by unfold gx;rfl⟩
def aDd(eO:OV f)(J3:∀ m,m<f->J1 m){r:cg Bd}(oJ:SP w0 pb tb T k vars d)(pj:mF w0 tb)(hd:d<=8)
  (h:mw T (f+1) k vars d=O r):Calls a9Y 53 #[pp pb] w0 (jS dJ pb tb T d w0 r):=by
 rw[P.aDc] at h;have Sb:=a0a oJ;have H8:=a0a pj;have HR:=a0a h;have xw:=oJ.d2.2.2;have vZ:=oJ.lt;obtain⟨i0,hi,JM,JO,JP⟩:=info_parts akH;clear oJ h pj
 go_enter_defers func53,ntmps53
 go_wp2_with fail
 cases hq:P.Sc T f k vars d with
 | none=>have e:=HR.out;rw[hq] at e;simp [cg.bind] at e
 | some q=>
 have e:=HR.out;rw[hq] at e;refine(aDa eO Sb.out H8.out hd hq).mono ?_;cases q with
 | err c0 a0=>
  rintro e2 w4 ⟨⟨b,rfl,eK,gy⟩,dU,gN⟩;simp only[cg.bind,aZ9] at e;subst e;exact⟨⟨b,J,eK,gy⟩,dU,gN⟩
 | ok x k1 v1=>
 rintro e2 w1 ⟨v,rfl,hv,dD,fY⟩;simp only[cg.bind] at e;have pf:=fY.size;have kz:=a0a dD;have iu:=a0a fY;have jN:=dD.d2.2.2;clear dD fY hq HR;rcases hv with⟨hw,nE⟩| ⟨a,b,n,g,va,vb,rfl,rfl,hn,hg,Wc,sZ,BZ,ha,hb⟩
 .rw[P.OW,bX (P.akL hw)] at e;have HE:=a0a e;have HV:=a0a nE;cases x with
  | mk kind name args parts=>
  unfold dJ at nE;obtain⟨n,av,pv,vs,us,rfl,hn,sZ,h4,h5,h6,h7⟩:=nE;obtain⟨pa,pn,pc,rfl,B1,-,-⟩:=h6.shape;have hlen:=h7.length;have c0:w1.cell? ⟨n,0,V⟩=O (.int .u8 kind):=cellOf sZ J;have c3:w1.cell? ⟨n,3,V⟩=O (.slice pa pn pc):=cellOf sZ J;have xE:n<w1.heap.size:=hn.2;have nA:kind=63/\pn=3\/((kind:Int) == 63)=false:=by
   by_cases hk:kind=63
   .exact .inl ⟨hk,by have:=hw hk;omega⟩
   grind
  clear h4 h5 h6 h7 hw sZ hn e hlen B1;rcases nA with⟨rfl,rfl⟩| Dd;all_goals (
   by_cases hs:ep T k1 [59]=A
   .go_wp2_with fail
    refine(uP kz.out [59] hs).mono ?_;rintro e w2 ⟨rfl,fy,eU⟩;have iQ:=a0a fy;have fK:=a0a eU;have qL:=eU.size;clear fy eU c0 c3
    go_wp2_with fail
    have e:=HE.out;rw[zip hs] at e;cases f with
    | zero=>simp [pU,cg.bind] at e
    | succ f=>
    rw[pU] at e;by_cases oy:P.maxDepth<d+1
    .rw[zip oy] at e;simp only[cg.bind,aZ9] at e;subst e;refine(VM iQ.out oy zo).mono ?_;rintro e w3 ⟨⟨b,rfl,eK,gy⟩,dU,gN⟩;exact⟨⟨b,J,eK,zo⟩,(iu.out.trans fK.out).trans dU,gN⟩
    rw[bX oy] at e;have AR:d+1<=8:=by unfold P.maxDepth at oy;omega
    refine(zU iQ.out AR).mono ?_;rintro e2 w3 ⟨rfl,gN,B2,gK,dU⟩;have Wd:=a0a B2;have nT:=a0a dU;have tV:=a0a gK;have F9:=a0a e;have Sd:=a0a gN;clear B2 dU gK e hs gN oy
    go_wp2_with fail
    have e:=F9.out;cases hq:mw T f (k1+1) v1 (d+1) with
    | none=>rw[hq] at e;simp [cg.bind] at e
    | some q=>
    rw[hq] at e;refine((J3 f zo).go tV.out (H8.out.fr ((iu.out.trans fK.out).trans nT.out) vZ) zo hq).mono ?_;have gN:=Sd.out;cases q with
    | err c0 a0=>
     rintro e2 w4 ⟨⟨b,rfl,eK,gy⟩,er,uU⟩;simp only[cg.bind,aZ9] at e;subst e;exact sT xw uU (by grind [cY.bI,Hid.out]) ⟨b,J,eK,zo⟩ (by grind [trans,bz.trans,Hid.out])
    | ok y k2 v2=>
    rintro e2 w4 ⟨v,rfl,hv,jt,er⟩;simp only[cg.bind,aZ9] at e;subst e;obtain⟨Gm,rfl,nO⟩:=hv.shape;have AV:=er.size;have Mr:=a0a hv;have sU:=a0a jt;have sW:=a0a er;clear hv jt er nO hq HE F9 gN
    go_wp2_with fail
    have gN:=Sd.out;have gS:∀ o o',((w4.alloc o).alloc o').heap.size=w4.heap.size+2:=(by grind [size_alloc]);refine yx (j:=2) F4 J xw (by grind [dQ,SP.ext,Hid.out]) zo (by grind [dQ,cY.bI,Hid.out]) ?_
     (by grind [trans,bz.alloc,bz.trans,Hid.out])
    refine Dv zg (by grind [EB,size_alloc]) H7 (aC4 zg (dQ (blk_alloc_new _ _)) ?_ ?_)
    .exact dJ.mono zg
      (by grind [dQ,cY.ll,Hid.out]) _ _ HV.out
    .exact dJ.mono zg
      (by grind [dQ]) _ _ Mr.out
   .go_wp2_with fail
    refine(p8 kz.out [59] (by simpa using hs) zd).mono ?_;rintro e w2 ⟨rfl,rfl⟩
    go_wp2_with fail
    have e:=HE.out;rw[bX hs,aZ9] at e;subst e;exact⟨_,results_tmp J _ _ _,pp _,J,HV.out,kz.out,iu.out⟩)
 .have HE:=a0a e;have c0:w1.cell? ⟨n,0,V⟩=O (.int .u8 63):=cellOf sZ J;have c3:w1.cell? ⟨n,3,V⟩=O (cM g 2 2):=cellOf sZ J;have xE:n<w1.heap.size:=hn.2;have hn0:w0.heap.size<=n:=hn.1;have AY:g<w1.heap.size:=hg.2;have xy:w0.heap.size<=g:=hg.1;have hF:=(P.OW T f k1 v1 d (.mk 63 [] [] [a,b]));have kT:P.isArrow (Bd.mk 63 [] [] [a,b]):=⟨J,J⟩;rw[P.OW,zip kT] at e;have HEB:=a0a e;have akN:=a0a sZ;have akO:=a0a BZ;have HA1:=a0a ha;have HB1:=a0a hb;clear sZ BZ ha hb hn hg e HE kT hF;generalize hfo:(a0L #[.int .u8 103,aM [102,97,105,108],bH,bH] 149)=fo;have HPF:=a0a (kz.out.ext (w':=w1.alloc fo) fun b o h=>dQ h);have We:Hid (cY pb w0 (w1.alloc fo)):=a0a (iu.out.alloc _);have HNF:Hid ((w1.alloc fo).heap[n]?=_):=a0a (dQ akN.out);have HGF:Hid ((w1.alloc fo).heap[g]?=_):=a0a (dQ akO.out);have aDh:Hid (w0.heap.size<=(w1.alloc fo).heap.size):=(by grind [a0a,size_alloc]);subst hfo;by_cases hs:ep T k1 [59]=A
  .go_wp2_with fail
   refine(uP HPF.out [59] hs).mono ?_;rintro e w2 ⟨rfl,fy,eU⟩;have iQ:=a0a fy;have fK:=a0a eU;have qL:=eU.size;rw[size_alloc] at qL;clear fy eU c0 c3
   go_wp2_with fail
   have e:=HEB.out;rw[zip hs] at e;cases f with
   | zero=>simp [pU,cg.bind] at e
   | succ f=>
   rw[pU] at e;by_cases oy:P.maxDepth<d+1
   .rw[zip oy] at e;simp only[cg.bind,aZ9] at e;subst e;refine(VM iQ.out oy zo).mono ?_;rintro e w3 ⟨⟨b,rfl,eK,gy⟩,dU,gN⟩;exact⟨⟨b,J,eK,zo⟩,(We.out.trans fK.out).trans dU,gN⟩
   rw[bX oy] at e;have AR:d+1<=8:=by grind [P.maxDepth]
   refine(zU iQ.out AR).mono ?_;rintro e2 w3 ⟨rfl,gN,B2,gK,dU⟩;have Wd:=a0a B2;have nT:=a0a dU;have tV:=a0a gK;have F9:=a0a e;have Sd:=a0a gN;clear B2 dU gK e hs gN oy
   go_wp2_with fail
   have e:=F9.out;cases hq:mw T f (k1+1) v1 (d+1) with
   | none=>rw[hq] at e;simp [cg.bind] at e
   | some q=>
   rw[hq] at e;refine((J3 f zo).go tV.out (H8.out.fr ((We.out.trans fK.out).trans nT.out) vZ) zo hq).mono ?_;have gN:=Sd.out;cases q with
   | err c0 a0=>
    rintro e2 w4 ⟨⟨b,rfl,eK,gy⟩,er,uU⟩;simp only[cg.bind,aZ9] at e;subst e;exact sT xw uU (by grind [cY.bI,Hid.out]) ⟨b,J,eK,zo⟩ (by grind [trans,bz.trans,Hid.out])
   | ok y k2 v2=>
   rintro e2 w5 ⟨v,rfl,hv,jW,iR⟩;simp only[cg.bind,aZ9] at e;subst e;obtain⟨Gm,rfl,nO⟩:=hv.shape;have hz5:=iR.size;have HV5:=a0a hv;have Wf:=a0a jW;have OX:=a0a iR;have HK5:Hid (∀ (m:Nat) (cs:Array Y) (t:TypeId) (z:Nat×Nat),m<w1.heap.size->m≠pb->t≠9->w1.heap[m]?=O (ae cs t z)->w5.heap[m]?=O (ae cs t z)):=
    (by grind [a0a,cY.bI,dQ,Hid.out])
   have HXS:Hid (w5.heap[w2.heap.size]?=_):=a0a (cY.bI iR Wd.out zo zd);have aDi:Hid (w0.heap.size<=w5.heap.size):=zg;have HN:Hid (Nu w0 w5 n):=zg;have HG:Hid (Nu w0 w5 g):=zg;have HN5:Hid (w5.heap[n]?=_):=a0a (HK5.out _ _ _ _ xE zo zd akN.out);have HG5:Hid (w5.heap[g]?=_):=a0a (HK5.out _ _ _ _ AY zo zd akO.out);have gS:∀ {v:Y} {x:Bd},dJ (fun m=>Nu w0 w1 m/\m≠n/\m≠g) w1 v x->dJ (fun m=>Nu w0 w5 m/\m≠n/\m≠g) w5 v x:=fun h=>
    dJ.mono zg (by grind [cY.ll,dQ,Hid.out]) _ _ h
   have HA:=a0a (gS HA1.out);have HB:=a0a (gS HB1.out);have HCC:Hid (dJ (fun m=>Nu w0 w5 m/\m≠n/\m≠g) w5 (pp Gm) y):=
    a0a (dJ.mono zg zg _ _ hv)
   have uT:Hid ((w5.alloc (ae #[pp Gm] 84)).ownsRow w0.heap.size 84 1 (cM g 2 2) 2 [va,vb]):=
    a0a ⟨J,.inr ⟨g,2,_,J,xy,dQ HG5.out,Nat.le_refl _,zd,J,J⟩⟩
   have HSZ:Hid (w0.heap.size<=(w5.alloc (ae #[pp Gm] 84)).heap.size):=(by grind [a0a,size_alloc]);have c0:w5.cell? ⟨n,0,V⟩=O (.int .u8 63):=cellOf HN5.out J;have c3:w5.cell? ⟨n,3,V⟩=O (cM g 2 2):=cellOf HN5.out J;have aUy:n<w5.heap.size:=zo;clear hv jW iR nO hq HEB F9 gN gS
   go_wp2_with (at_builtin;go_must (refine Rd J _ _ 147 J w0.heap.size 84 i0 _ 1 8 underlying147 hi JM JO JP J zd _ _ _ J uT.out ⟨w5.heap.size,0,V⟩ 1 1 [pp Gm] J J (Ot J) (by simp [Value.oneCell']) (by unfold maxLen;omega) zo (by have:=HSZ.out;omega) ?_;intro v' w9 rV yI AW;obtain⟨g2,Gd,rfl⟩:=LP rV;obtain⟨⟨cs9,Gn,akU⟩,aDk,Sf,Sg⟩:=akM HN.out HG.out Wc aDi.out xw HN5.out HA.out HB.out HCC.out rV yI AW;have c9:w9.cell? ⟨n,3,V⟩=O (cs9[3]' zo):=cellOf Gn (by simp [a1I,akU]);have f9:=jL Gn 3;have l9:=bf Gn;have tU:=a0a yI;have F8:=a0a rV;have HK9:=a0a Sf;have abK:=a0a Sg;have aDm:=a0a Gn;clear rV yI AW Sf Sg Gn))
   have gN:=Sd.out;have Wg:SP w9 pb tb T k2 v2 (d+1):=(Wf.out.ext fun b o h=>dQ (o:=a0L #[Value.pointer (O ⟨Gm,0,V⟩)] 84) h).OK uT.out zg xw tU.out;have B3:cY pb w0 w9:=(((((We.out.trans fK.out).trans nT.out).trans OX.out)).alloc _).OL tU.out fun k hk=>(uT.out.lt k hk).1;refine yx (j:=2) F4 J xw (by grind [SP.setOther,Hid.out]) zo (by grind [Hid.out]) ?_ (by grind [bz.LO]);exact dJ.mono (by grind [size_setCell]) zg _ _ abK.out
  .have HN:Hid (Nu w0 (w1.alloc (ae #[.int .u8 103,aM [102,97,105,108],bH,bH] 149)) n):=zg;have HG:Hid (Nu w0 (w1.alloc (ae #[.int .u8 103,aM [102,97,105,108],bH,bH] 149)) g):=zg;have HA:Hid (dJ (fun m=>Nu w0 (w1.alloc (ae #[.int .u8 103,aM [102,97,105,108],bH,bH] 149)) m/\m≠n/\m≠g) (w1.alloc (ae #[.int .u8 103,aM [102,97,105,108],bH,bH] 149)) va a):=
    a0a (dJ.mono (by grind [size_alloc]) (by grind [dQ]) _ _ HA1.out)
   have HB:Hid (dJ (fun m=>Nu w0 (w1.alloc (ae #[.int .u8 103,aM [102,97,105,108],bH,bH] 149)) m/\m≠n/\m≠g) (w1.alloc (ae #[.int .u8 103,aM [102,97,105,108],bH,bH] 149)) vb b):=
    a0a (dJ.mono (by grind [size_alloc]) (by grind [dQ]) _ _ HB1.out)
   have HCC:Hid (dJ (fun m=>Nu w0 (w1.alloc (ae #[.int .u8 103,aM [102,97,105,108],bH,bH] 149)) m/\m≠n/\m≠g) (w1.alloc (ae #[.int .u8 103,aM [102,97,105,108],bH,bH] 149)) (pp w1.heap.size) zJ):=
    a0a (Dv (by grind [size_alloc]) (blk_alloc_new _ _) H7 J2)
   have HCN:=HNF;have uT:Hid (((w1.alloc (ae #[.int .u8 103,aM [102,97,105,108],bH,bH] 149)).alloc (ae #[pp w1.heap.size] 84)).ownsRow w0.heap.size 84 1 (cM g 2 2) 2 [va,vb]):=
    a0a ⟨J,.inr ⟨g,2,_,J,xy,dQ HGF.out,Nat.le_refl _,zd,J,J⟩⟩
   have HSZ:Hid (w0.heap.size<=((w1.alloc (ae #[.int .u8 103,aM [102,97,105,108],bH,bH] 149)).alloc (ae #[pp w1.heap.size] 84)).heap.size):=(by grind [a0a,size_alloc])
   go_wp2_with fail
   refine(p8 HPF.out [59] zg zd).mono ?_;rintro e w2 ⟨rfl,rfl⟩
   go_wp2_with (at_builtin;go_must (refine Rd J _ _ 147 J w0.heap.size 84 i0 _ 1 8 underlying147 hi JM JO JP J zo _ _ _ J uT.out ⟨w1.heap.size+1,0,V⟩ 1 1 [pp w1.heap.size] J J (by grind [Ot,size_alloc]) (by simp [Value.oneCell']) (by grind [maxLen]) zo (by have:=HSZ.out;omega) ?_;intro v' w9 rV yI AW;obtain⟨g2,Gd,rfl⟩:=LP rV;obtain⟨⟨cs9,Gn,akU⟩,aDk,Sf,Sg⟩:=akM HN.out HG.out Wc aDh.out xw HCN.out HA.out HB.out HCC.out rV yI AW;have c9:w9.cell? ⟨n,3,V⟩=O (cs9[3]' zo):=(by grind [cellOf,a1I]);have f9:=jL Gn 3;have l9:=bf Gn;have tU:=a0a yI;have F8:=a0a rV;have HK9:=a0a Sf;have abK:=a0a Sg;have aDm:=a0a Gn;clear rV yI AW Sf Sg Gn))
   have e:=HEB.out;rw[bX hs,aZ9] at e;subst e;have Wg:SP w9 pb tb T k1 v1 d:=(HPF.out.ext fun b o h=>dQ (o:=a0L #[Value.pointer (O ⟨w1.heap.size,0,V⟩)] 84) h).OK uT.out zg xw tU.out;have B3:cY pb w0 w9:=(We.out.alloc _).OL tU.out fun k hk=>(uT.out.lt k hk).1;refine⟨_,results_tmp J _ _ _,pp n,J,?_,(by grind [SP.setOther,Hid.out]),(by grind [bz.LO])⟩;exact dJ.mono (by grind [size_setCell]) zg _ _ abK.out
def aDo:J1 0:=⟨fun _ _ _ h=>by simp [mw] at h⟩
theorem aDp(a:OV f)(b:∀ m,m<f->J1 m):J1 (f+1):=⟨fun c d e h=>aDd a b c d e h⟩
def aDq(hp:SP w pb tb T k vars d)(hd:8<d+1)(xr:d<=8) :
  Calls a9Y 115 #[pp pb] w (jS dJ pb tb T d w (.err 4 (tk T k).pos)):=by
 have H:=a0a hp;clear hp
 go_enter_defers func115,ntmps115
 go_wp2_with fail
 refine(VM H.out hd zo).mono ?_;rintro e w1 ⟨⟨b,rfl,hb⟩,hf,hs⟩;exact⟨⟨b,J,hb⟩,hf,hs⟩
def aDr(hp:SP w pb tb T k vars d)(hd:d+1<=8)(h1:ep T k [33]=A) :
  Calls a9Y 115 #[pp pb] w (jS dJ pb tb T d w (.ok (.mk 33 [] [] []) (k+1) vars)):=by
 have H:=a0a hp;have fW:=hp.d2.2.2;clear hp
 go_enter_defers func115,ntmps115
 go_wp2_with fail
 refine(zU H.out hd).mono ?_;rintro e w1 ⟨rfl,dX,iW,dD,fY⟩;have lU:=a0a iW;have iu:=a0a fY;have kz:=a0a dD;have nB:=a0a dX;clear iW fY dD dX
 go_wp2_with fail
 refine(uP kz.out [33] h1).mono ?_;rintro e w2 ⟨rfl,fy,eU⟩;have iQ:=a0a fy;have fK:=a0a eU;clear fy eU h1
 go_wp2_with fail
 have dX:=nB.out;have qL:=fK.out.size;refine yx (j:=2) F4 J fW (iQ.out.ext (by grind [dQ])) zo (by grind [dQ,cY.bI,Hid.out]) ?_ ((iu.out.trans fK.out).alloc _);exact Dv (by grind [size_alloc]) (blk_alloc_new _ _) H7 J2
def aDs(MD:OU f)(hp:SP w pb tb T k vars d)(hc:mF w tb)(hd:d+1<=8)(h1:ep T k [33]=G)(h2:ep T k [92,43]=A)
  {r:cg Bd} (hr:nt T f (k+1) vars (d+1)=O r) {q:cg Bd} (hq:cg.bind (O r) (fun b k' vars'=>O (.ok (Bd.mk 126 [] [] [b]) k' vars'))=O q) :
  Calls a9Y 115 #[pp pb] w (jS dJ pb tb T d w q):=by
 have H:=a0a hp;have HC:=a0a hc;have HR:=a0a hr;have HQ:=a0a hq;have H1:=a0a h1;have H2:=a0a h2;have fW:=hp.d2.2.2;have vZ:=hp.lt;clear hp hc hr hq h1 h2
 go_enter_defers func115,ntmps115
 go_wp2_with fail
 refine(zU H.out hd).mono ?_;rintro e w1 ⟨rfl,dX,iW,dD,fY⟩;have lU:=a0a iW;have iu:=a0a fY;have kz:=a0a dD;have nB:=a0a dX;clear iW fY dD dX
 go_wp2_with fail
 refine(p8 kz.out [33] H1.out zd).mono ?_;rintro e w2 ⟨rfl,rfl⟩
 go_wp2_with fail
 refine(uP kz.out [92,43] H2.out).mono ?_;rintro e w3 ⟨rfl,gK,dU⟩;have tV:=a0a gK;have nT:=a0a dU;clear gK dU
 go_wp2_with fail
 refine(MD.go tV.out (HC.out.fr (iu.out.trans nT.out) vZ) zo HR.out).mono ?_;have dX:=nB.out;have EH:=nT.out.size;have e:=HQ.out;cases r with
 | err c0 a0=>
  rintro e2 w4 ⟨⟨b,rfl,eK,gy⟩,er,uU⟩;simp only[cg.bind,aZ9] at e;subst e;exact sT fW uU (by grind [cY.bI,Hid.out]) ⟨b,J,eK,zo⟩ ((iu.out.trans nT.out).trans er)
 | ok y k2 v2=>
 rintro e2 w4 ⟨v,rfl,hv,jt,er⟩;simp only[cg.bind,aZ9] at e;subst e;obtain⟨Gm,rfl,nO⟩:=hv.shape;have AV:=er.size;have Mr:=a0a hv;have sU:=a0a jt;have sW:=a0a er;clear hv jt er nO dX HQ
 go_wp2_with fail
 have dX:=nB.out;have gS:∀ o o',((w4.alloc o).alloc o').heap.size=w4.heap.size+2:=(by grind [size_alloc]);refine yx (j:=2) F4 J fW (by grind [dQ,SP.ext,Hid.out]) zo (by grind [dQ,cY.bI,Hid.out]) ?_
  (by grind [trans,bz.alloc,bz.trans,Hid.out])
 refine Dv zg (by grind [EB,size_alloc]) H7 (aC3 zg (dQ (blk_alloc_new _ _)) ?_);exact dJ.mono zg (by grind [dQ]) _ _ Mr.out
def TW.paren(h:TW T)(hk:k<T.length)(b:ep T k [40]=A):(tk T k).kind=4/\(tk T k).text=[40]:=by
 unfold ep at b;simp only[Bool.and_eq_true,Bool.or_eq_true,beq_iff_eq] at b;obtain⟨a,d⟩:=b;refine⟨?_,d⟩;rcases a with a | a
 .omega
 .obtain⟨c,r,e,f⟩:=h.words _ (JD hk) a;rw[d] at e;cases e;exact absurd f zd
def aDt(a:ep T k [40]=G):(tk T k).kind≠4\/(tk T k).text≠[40]:=by
 grind [ep,tk]
def aDu(J3:J1 f)(hp:SP w pb tb T k vars d)(hc:mF w tb)(hd:d+1<=8)(h1:ep T k [33]=G)(h2:ep T k [92,43]=G)
  (h3:ep T k [40]=A)
  {r:cg Bd} (hr:mw T f (k+1) vars (d+1)=O r) {q:cg Bd} (hq:cg.bind (O r) (fun b k' vars'=>mZ T [41] b k' vars')=O q) :
  Calls a9Y 115 #[pp pb] w (jS dJ pb tb T d w q):=by
 have H:=a0a hp;have HC:=a0a hc;have HR:=a0a hr;have HQ:=a0a hq;have H1:=a0a h1;have H2:=a0a h2;have H3:=a0a h3;have HK:=a0a (hp.tw.paren hp.kt h3);have fW:=hp.d2.2.2;have vZ:=hp.lt;clear hp hc hr hq h1 h2 h3
 go_enter_defers func115,ntmps115
 go_wp2_with fail
 refine(zU H.out hd).mono ?_;rintro e w1 ⟨rfl,dX,iW,dD,fY⟩;have lU:=a0a iW;have iu:=a0a fY;have kz:=a0a dD;have nB:=a0a dX;clear iW fY dD dX
 go_wp2_with fail
 refine(p8 kz.out [33] H1.out zd).mono ?_;rintro e w2 ⟨rfl,rfl⟩
 go_wp2_with fail
 refine(p8 kz.out [92,43] H2.out zd).mono ?_;rintro e w2 ⟨rfl,rfl⟩;have dD:=kz.out;obtain⟨n,c,h0,f0,hb,l1,l2,l3,l4,fy,eU⟩:=dD.on (by have:=HK.out;omega);obtain⟨t0,t1,t2⟩:=dD.toks.at dD.kt;have xt:tb<w1.heap.size:=zo;have dZ:¬ tb=pb:=zo;have RH:¬ pb=tb:=zo;have iQ:=a0a fy;have fK:=a0a eU;rw[HK.out.1] at t0;rw[HK.out.2] at t1;clear dD fy eU t2
 go_wp2_with fail
 refine(J3.go iQ.out (HC.out.fr (iu.out.trans fK.out) vZ) zo HR.out).mono ?_;have dX:=nB.out;have qL:=fK.out.size;have e:=HQ.out;have rp:((F3 w1 pb tb k n c)).heap[w.heap.size]?=_:=fK.out.bI lU.out zo zd;cases r with
 | err c0 a0=>
  rintro e2 w4 ⟨⟨b,rfl,eK,gy⟩,er,uU⟩;simp only[cg.bind,aZ9] at e;subst e;exact sT fW uU (by grind [cY.bI]) ⟨b,J,eK,zo⟩ ((iu.out.trans fK.out).trans er)
 | ok y k2 v2=>
 rintro e2 w4 ⟨v,rfl,hv,jt,er⟩;simp only[cg.bind] at e;obtain⟨Gm,rfl,nO⟩:=hv.shape;have AV:=er.size;have Mr:=a0a hv;have sU:=a0a jt;have sW:=a0a ((iu.out.trans fK.out).trans er);have HX4:=a0a (er.bI rp zo zd);have HE:=a0a e;have HBY:=a0a nO;clear hv jt er nO HQ rp h0 f0 t0 t1 e;have aUA:w.heap.size+1<=w4.heap.size:=zo;have abL:w.heap.size+1<=(F3 w1 pb tb k n c).heap.size:=zo;have aDv:=a0a abL;clear dX qL AV abL
 go_wp2_with fail
 have e:=HE.out;unfold mZ at e;by_cases hm:ep T k2 [41]=A
 .rw[zip hm,aZ9] at e;subst e;refine(RE sU.out [41] hm).mono ?_;rintro e w5 ⟨rfl,jW,iR⟩;have Wf:=a0a jW;have OX:=a0a iR;clear jW iR hm HE
  go_wp2_with fail
  have hz5:=OX.out.size;have abL:=aDv.out;refine yx (j:=2) F4 J fW Wf.out zo (by grind [cY.bI,Hid.out]) ?_ (sW.out.trans OX.out);exact F4 _ _ _ _ _ _ _ Mr.out OX.out zg
 .rw[bX hm,aZ9] at e;subst e;refine(RF sU.out [41] zg zd).mono ?_;rintro e w5 ⟨⟨b,rfl,eK,gy⟩,iR,xz⟩;exact sT fW xz (by grind [cY.bI,Hid.out]) ⟨b,J,eK,zo⟩ (sW.out.trans iR)
def aDw(a b c d e f g h i:Bs)(j:Nat)(hj:j<9)(v:Y)(hv:(#[Value.string (bs a),aM b,aM c,aM d,aM e,aM f,aM g,aM h,aM i]:Array Y)[j]?=O v)(w:Z) :
  (Instr.index 282 (.agg #[Value.string (bs a),aM b,aM c,aM d,aM e,aM f,aM g,aM h,aM i]) (zi j)).run a9Y w = .ok v w:=by
 have e1:(sizeOf 9).run a9Y w = .ok 1 w:=by simp [go_sem,sizeOf9,isAgg9]
 have e2:(isAgg 9).run a9Y w = .ok G w:=by simp [go_sem,sizeOf9,isAgg9]
 simp [Instr.index,run_underlying underlying282,asIntOf,hj,go_sem,e1,e2];grind
namespace P
def named(x:Ex):Prop:=x.kind=97\/x.kind=99->x.name≠[]
theorem aDx{t:Tok}{v v':List Bs}{x:Ex}(h:zI t k v = .ok x k' v'):named x:=by
 grind [zI,named,Ex.kind]
theorem akV{all:List Ex}{x:Ex}(hx:named x):named (CZ all x):=by
 cases all with
 | nil=>exact hx
 | cons a l=>simp [CZ,named,Ex.name]
structure aDy(T:List Tok)(f:Nat):Prop where
 EG:∀ k v d x k' v',pR T f k v d=O (.ok x k' v')->named x
 list:∀ k v d x k' v',rf T f k v d=O (.ok x k' v')->named x
 oper:∀ l k v d x k' v',jo T f l k v d=O (.ok x k' v')->named x
 more:∀ l y k v d x k' v',named y->qD T f l y k v d=O (.ok x k' v')->named x
def akW(T:List Tok)(g:∀ k,(tk T k).kind=1->(tk T k).text≠[]):∀ f,aDy T f
 | 0=>⟨by simp_all [pR],by simp_all [rf],by simp_all [jo],by simp_all [qD]⟩
 | f+1=>by
  have ih:=akW T g f;refine⟨?_,?_,?_,?_⟩
  .intro k v d x k' v' h;rw[pR] at h;split at h
   .grind
   split at h
   .grind [aZ9,cg.ok.injEq,named,Ex.kind]
   split at h
   .grind [aZ9,aDx]
   split at h
   .rename_i hk;split at h
    .obtain⟨a,e,v1,c,b⟩:=eh h;rw[(nR b).2.1];exact fun _=>g k hk
    .simp only[aZ9,cg.ok.injEq] at h;rw[<- h.1];exact fun _=>g k hk
   split at h
   .grind [aZ9,cg.ok.injEq,named,Ex.kind]
   split at h
   .obtain⟨a,e,v1,c,b⟩:=eh h;rw[(nR b).2.1];exact ih.oper _ _ _ _ _ _ _ c
   split at h
   .exact ih.list _ _ _ _ _ _ h
   grind
  .intro k v d x k' v' h;rw[rf] at h;have n:named (.mk 97 [91,93] 0 0 []):=by simp [named,Ex.name]
   split at h
   .grind
   .obtain⟨y,e,v1,c,b⟩:=eh h;split at b
    .obtain⟨z,p,v2,i,j⟩:=eh b;rw[(nR j).2.1];exact akV (ih.oper _ _ _ _ _ _ _ i)
    grind [nR,akV]
  .intro l k v d x k' v' h;rw[jo] at h;split at h
   .exact ih.EG _ _ _ _ _ _ h
   .obtain⟨y,e,v1,c,b⟩:=eh h;exact ih.more _ _ _ _ _ _ _ _ (ih.oper _ _ _ _ _ _ _ c) b
  .intro l y k v d x k' v' q h;rw[qD] at h;split at h
   .grind
   .rename_i o m;obtain⟨z,e,v1,c,b⟩:=eh h;refine ih.more _ _ _ _ _ _ _ _ ?_ b;intro _;have hm:=List.mem_of_find?_eq_some m;rw[show(Ex.mk 99 o 0 0 [y,z]).name=o from rfl];rintro rfl;grind [ops]
end P
noncomputable def abM:Code:=match Tryz.f115.body with
 | some (.seq _ (.seq _ (.seq _ (.seq _ (.seq _ (.seq _ c))))))=>c
 | _=>.skip
noncomputable def aDz:Code:=match abM with | .seq (.seq c _) _=>c | _=>.skip
noncomputable def aDA:Code:=match abM with | .seq (.seq _ c) _=>c | _=>.skip
noncomputable def aDB:Code:=match abM with | .seq _ c=>c | _=>.skip
def P.Ia(at_:Nat)(x:Ex)(k':Nat)(vars':List Bs):Option (cg Bd):=
 if Ep x then O (.err 2 at_)
 else if 0<=jK x.name/\jK x.name≠x.args.length then O (.err 3 at_)
 else O (.ok (.mk 103 x.name x.args []) k' vars')
def P.akX{name:Bs}{a:Int}{args:List Ex}{t:Int}(b:Ep (.mk cap name a so args)=G)(ht:t=jK name) :
  P.Ia pb (.mk cap name a so args) k' vars=if 0<=t/\t≠args.length then O (.err 3 pb) else O (.ok (.mk 103 name args []) k' vars):=by
 subst ht;unfold P.Ia;rw[bX (by simp [b])];rfl
def aDC{x:Ex}{q:cg Bd}(u1 u2 u3 u6 u7 u8 u9 yA yB yC vW vX yD u16 yE yG BL BM BN BO BP BQ BR BT BU Dg Dh Di Hv u32 Hw AU EE F5 F6 Ml Mm u40 u41 u42 u43 u44 u45 u46 u47 u48 u49 u50 u51 u52 u53 u54 u55 u56 u57 u58 u59 u60 u61 u62 u63 u64 u65 u66 u67 u68 u69 u70 u71 u72 u73 u74 u75 u76 u77 u78 u79 u80 u81 u82 u83 u84 u85 u86 u87 u88 u89 u90 u91 u92 u93 u94 u95 u96 u97 u98 u99 aEA aEB aEC aED aEE aEF aEG aEH aEI aEJ aEK aEL aEM aEN aEO aEP aEQ aER aES aET aEU aEV aEW aEX aEY aEZ aE0 aE1 aE2 aE3 aE4 aE5 aE6 aE7 aE8 aE9 aFa aFb aFc aFd aFe aFf aFg aFh aFi aFj aFk aFl aFm aFn aFo aFp aFq aFr aFs aFt aFu aFv aFw aFx:Y)
  (hp:SP w3 pb tb T so vars (d+1)) (hd:d+1<=8) (hf:cY pb w w3) (fW:pb<w.heap.size) (hb0:w.heap.size<=cap) (jA:w3.heap[cap]?=aN #[pp pb] 139)
  (hx:eG (Nu w w3) w3 (pp bx) x) (my:P.named x) (hq:P.Ia k' x so vars=O q) (K1 K:Act->Z->Prop) (hK:∀ a w',aDB.wp a9Y (bodyPostD a9Y Tryz.f115 (jS dJ pb tb T d w q)) a w'->K a w') (hK1:∀ a w',aDA.wp a9Y (Exit.then K (bodyPostD a9Y Tryz.f115 (jS dJ pb tb T d w q))) a w'->K1 a w') :
  aDz.wp a9Y (Exit.then K1 (Exit.then K (bodyPostD a9Y Tryz.f115 (jS dJ pb tb T d w q)))) { tmps:=#[pp pb,u1,u2,u3,zi k',pp bx,u6,u7,u8,u9,yA,yB,yC,vW,vX,yD,u16,yE,yG,BL,BM,BN,BO,BP,BQ,BR,BT,BU,Dg,Dh,Di,Hv,u32,Hw,AU,EE,F5,F6,Ml,Mm,u40,u41,u42,u43,u44,u45,u46,u47,u48,u49,u50,u51,u52,u53,u54,u55,u56,u57,u58,u59,u60,u61,u62,u63,u64,u65,u66,u67,u68,u69,u70,u71,u72,u73,u74,u75,u76,u77,u78,u79,u80,u81,u82,u83,u84,u85,u86,u87,u88,u89,u90,u91,u92,u93,u94,u95,u96,u97,u98,u99,aEA,aEB,aEC,aED,aEE,aEF,aEG,aEH,aEI,aEJ,aEK,aEL,aEM,aEN,aEO,aEP,aEQ,aER,aES,aET,aEU,aEV,aEW,aEX,aEY,aEZ,aE0,aE1,aE2,aE3,aE4,aE5,aE6,aE7,aE8,aE9,aFa,aFb,aFc,aFd,aFe,aFf,aFg,aFh,aFi,aFj,aFk,aFl,aFm,aFn,aFo,aFp,aFq,aFr,aFs,aFt,aFu,aFv,aFw,aFx],defers:=[RM cap] } w3:=by
 change ∀ a w',Code.wp _ (Code.seq _ _) _ a w'->_ at hK;change ∀ a w',Code.wp _ (Code.cond _ _ _) _ a w'->_ at hK1;have HP:=a0a hp;have HF:=a0a hf;have Aa:=a0a jA;have HX:=a0a hx;have HQ:=a0a hq;cases x with
 | mk kind name nn kk args=>
 unfold eG at hx;obtain⟨bx',av,vs,e1,hF,ox,h4,h5⟩:=hx;cases e1;obtain⟨pa,pn,pc,rfl,B1,-,-⟩:=h4.shape;have hlen:=h5.length;have c0:w3.cell? ⟨bx,0,V⟩=O (.int .u8 kind):=cellOf ox J;have c1:w3.cell? ⟨bx,1,V⟩=O (aM name):=cellOf ox J;have c4:w3.cell? ⟨bx,4,V⟩=O (.slice pa pn pc):=cellOf ox J;have oL:=hF.2;have HA:Hid (ln (Nu w w3) w3 (.slice pa pn pc) args):=a0a ⟨vs,h4,h5⟩;have jY:pn=args.length:=zo;have hl:=bf jA;clear hF ox h4 h5 hp hf jA hq B1 hlen;change Code.wp _ (Code.region _ _ _) _ _ _;by_cases hA:kind≠97/\kind≠99
 .have k1:((kind:Int) == 97)=false:=zg;have k2':((kind:Int) == 99)=false:=zg
  go_wp2_with fail
  refine(BI _ _ _ pb HP.out.sb).mono ?_;rintro e2 w5 ⟨⟨b,rfl,eK,gy⟩,iR,xz⟩;have e:=HQ.out;rw[P.Ia,zip (by grind [Ep,Ex.kind])] at e;simp only[aZ9] at e;subst e;have:=HF.out.size;exact sT fW xz (by grind [cY.bI,Hid.out]) ⟨b,J,eK,zo⟩ (HF.out.trans iR)
 .obtain⟨cc,rr,rfl⟩:∃ cc rr,name=cc::rr:=by
   cases name with
   | nil=>exact absurd J (my (by grind [Ex.kind]))
   | cons a l=>grind
  have nA:kind=97\/kind=99:=zo;clear hA my HX;by_cases hB:cc::rr=[46]
  .rw[hB] at c1 HQ;rcases nA with rfl | rfl;all_goals (
    go_wp2_with fail
    refine(BI _ _ _ pb HP.out.sb).mono ?_;rintro e2 w5 ⟨⟨b,rfl,eK,gy⟩,iR,xz⟩;have e:=HQ.out;rw[P.Ia,zip (by simp [Ep,Ex.name])] at e;simp only[aZ9] at e;subst e;have:=HF.out.size;exact sT fW xz (by grind [cY.bI,Hid.out]) ⟨b,J,eK,zo⟩ (HF.out.trans iR))
  by_cases hC:cc::rr=[91,93]
  .rw[hC] at c1 HQ;rcases nA with rfl | rfl;all_goals (
    go_wp2_with fail
    refine(BI _ _ _ pb HP.out.sb).mono ?_;rintro e2 w5 ⟨⟨b,rfl,eK,gy⟩,iR,xz⟩;have e:=HQ.out;rw[P.Ia,zip (by simp [Ep,Ex.name])] at e;simp only[aZ9] at e;subst e;have:=HF.out.size;exact sT fW xz (by grind [cY.bI,Hid.out]) ⟨b,J,eK,zo⟩ (HF.out.trans iR))
  have d1:(cc::rr == ([46]:Bs))=false:=zg;have d2:(cc::rr == ([91,93]:Bs))=false:=zg;rcases nA with rfl | rfl;all_goals (
   go_wp2_with fail
   refine(aks cc).mono ?_;rintro e2 w5 ⟨rfl,rfl⟩;by_cases hD:P.cls cc=115
   ·
    rw[hD];have d4:((cc::rr == ([109,111,100]:Bs))=G)\/cc::rr=[109,111,100]:=by
     by_cases h:cc::rr=[109,111,100]
     .exact .inr h
     .exact zg
    rcases d4 with d4 | d4
    .go_wp2_with fail
     have hM:¬ (cc::rr=[109,111,100]):=by simpa using d4
     refine(Mx _).mono ?_;rintro e2 w6 ⟨rfl,rfl⟩;obtain⟨tt,Si⟩:=b9 (jK (cc::rr));rw[<- Si];have e:=HQ.out;rw[P.akX (by simp [Ep,Ex.name,Ex.kind,Ex.args];simp [hD,hB,hC,hM] at *;simp_all) Si] at e;have HE:=a0a e;clear e Si;by_cases h0:0<=tt
     .by_cases h1:tt=pn
      .have Af:(tt == (pn:Int))=true:=by simpa using h1
       subst h1
       go_wp2_with fail
       have e:=HE.out;rw[bX (by rintro ⟨_,h⟩;exact h (by rw[jY]))] at e;simp only[aZ9] at e;subst e;have iQ:Hid (SP w6.drew pb tb T so vars (d+1)):=a0a (HP.out.ext fun b o h=>h);have fK:Hid (cY pb w w6.drew):=a0a HF.out.drew;have J5:Hid (w6.drew.heap[cap]?=aN #[pp pb] 139):=a0a Aa.out;have J6:Hid (ln (Nu w w6.drew) w6.drew (.slice pa pn pc) args):=a0a (ln.mono (F:=Nu w w6) (F':=Nu w w6.drew) (w:=w6) (w':=w6.drew) (fun b hb=>hb) (fun b o _ _ ho=>ho) HA.out);have qf:cap<w6.drew.heap.size:=hl;have hz:=fK.out.size
       go_still_tail 9,zk
       change wpList _ _ _ _ _ w6.drew;generalize w6.drew=w7 at iQ fK J5 J6 qf hz ⊢;clear HP HF Aa HA hl oL c0 c1 c4
       go_wp2_with fail
       have J7:=J6.out;rw[jY] at J7;refine yx (j:=2) F4 J fW (iQ.out.ext (by grind [dQ])) zo (dQ J5.out) ?_ (fK.out.alloc _);exact Dv (by grind [size_alloc]) (blk_alloc_new _ _) (ln.mono (F:=Nu w w7) (F':=Nu w _) (w:=w7) (by grind [size_alloc]) (by grind [dQ]) J7) J2
      .have Af:(tt == (pn:Int))=false:=by simpa using h1
       have h1n:=h1;have h0n:=h0
       go_wp2_with fail
       have e:=HE.out;rw[zip ⟨h0n,by rw[<- jY];exact h1n⟩] at e;simp only[aZ9] at e;subst e;refine(BI _ _ _ pb HP.out.sb).mono ?_;rintro e2 w7 ⟨⟨b,rfl,eK,gy⟩,iR,xz⟩;have:=HF.out.size;exact sT fW xz (by grind [cY.bI,Hid.out]) ⟨b,J,eK,zo⟩ (HF.out.trans iR)
     .go_wp2_with fail
      have e:=HE.out;rw[bX (by rintro ⟨h,_⟩;omega)] at e;simp only[aZ9] at e;subst e;have iQ:Hid (SP w6.drew pb tb T so vars (d+1)):=a0a (HP.out.ext fun b o h=>h);have fK:Hid (cY pb w w6.drew):=a0a HF.out.drew;have J5:Hid (w6.drew.heap[cap]?=aN #[pp pb] 139):=a0a Aa.out;have J6:Hid (ln (Nu w w6.drew) w6.drew (.slice pa pn pc) args):=a0a (ln.mono (F:=Nu w w6) (F':=Nu w w6.drew) (w:=w6) (w':=w6.drew) (fun b hb=>hb) (fun b o _ _ ho=>ho) HA.out);have qf:cap<w6.drew.heap.size:=hl;have hz:=fK.out.size
      go_still_tail 9,zk
      change wpList _ _ _ _ _ w6.drew;generalize w6.drew=w7 at iQ fK J5 J6 qf hz ⊢;clear HP HF Aa HA hl oL c0 c1 c4
      go_wp2_with fail
      have J7:=J6.out;rw[jY] at J7;refine yx (j:=2) F4 J fW (iQ.out.ext (by grind [dQ])) zo (dQ J5.out) ?_ (fK.out.alloc _);exact Dv (by grind [size_alloc]) (blk_alloc_new _ _) (ln.mono (F:=Nu w w7) (F':=Nu w _) (w:=w7) (by grind [size_alloc]) (by grind [dQ]) J7) J2
    .rw[d4] at c1 HQ;have d5:(([109,111,100]:Bs) == [109,111,100])=true:=zd;by_cases fy:pn=2
     .have xC:((pn:Int) == 2)=true:=by simp;omega
      go_wp2_with fail
      have e:=HQ.out;rw[P.Ia,zip (by simp [Ep,Ex.name,Ex.args];omega)] at e;simp only[aZ9] at e;subst e;refine(BI _ _ _ pb HP.out.sb).mono ?_;rintro e2 w7 ⟨⟨b,rfl,eK,gy⟩,iR,xz⟩;have:=HF.out.size;exact sT fW xz (by grind [cY.bI,Hid.out]) ⟨b,J,eK,zo⟩ (HF.out.trans iR)
     .have xC:((pn:Int) == 2)=false:=by simp;omega
      go_wp2_with fail
      refine(Mx _).mono ?_;rintro e2 w6 ⟨rfl,rfl⟩;have Si:jK [109,111,100]=-1:=zd;rw[Si];have e:=HQ.out;rw[P.akX (t:=-1) (by simp [Ep,Ex.name,Ex.kind,Ex.args];first | omega | (simp [P.cls];omega) | decide) zd] at e;rw[bX (by rintro ⟨h,_⟩;omega)] at e;simp only[aZ9] at e;subst e
      go_wp2_with fail
      have iQ:Hid (SP w6.drew pb tb T so vars (d+1)):=a0a (HP.out.ext fun b o h=>h);have fK:Hid (cY pb w w6.drew):=a0a HF.out.drew;have J5:Hid (w6.drew.heap[cap]?=aN #[pp pb] 139):=a0a Aa.out;have J6:Hid (ln (Nu w w6.drew) w6.drew (.slice pa pn pc) args):=a0a (ln.mono (F:=Nu w w6) (F':=Nu w w6.drew) (w:=w6) (w':=w6.drew) (fun b hb=>hb) (fun b o _ _ ho=>ho) HA.out);have qf:cap<w6.drew.heap.size:=hl;have hz:=fK.out.size
      go_still_tail 9,zk
      change wpList _ _ _ _ _ w6.drew;generalize w6.drew=w7 at iQ fK J5 J6 qf hz ⊢;clear HP HF Aa HA hl oL c0 c1 c4
      go_wp2_with fail
      have J7:=J6.out;rw[jY] at J7;refine yx (j:=2) F4 J fW (iQ.out.ext (by grind [dQ])) zo (dQ J5.out) ?_ (fK.out.alloc _);exact Dv (by grind [size_alloc]) (blk_alloc_new _ _) (ln.mono (F:=Nu w w7) (F':=Nu w _) (w:=w7) (by grind [size_alloc]) (by grind [dQ]) J7) J2
   .have d3:((P.cls cc:Int) == 115)=false:=by simp;omega
    go_wp2_with fail
    refine(BI _ _ _ pb HP.out.sb).mono ?_;rintro e2 w5 ⟨⟨b,rfl,eK,gy⟩,iR,xz⟩;have e:=HQ.out;rw[P.Ia,zip (by simp [Ep,Ex.name,hD])] at e;simp only[aZ9] at e;subst e;have:=HF.out.size;exact sT fW xz (by grind [cY.bI,Hid.out]) ⟨b,J,eK,zo⟩ (HF.out.trans iR))
def P.akY(T:List P.Tok)(f at_ d:Nat)(x:Ex)(k':Nat)(vars':List Bs):Option (cg Bd):=
 match LK T k' with
 | some c=>cg.bind (jo T f 0 (k'+1) vars' (d+1)) fun y a b=>O (.ok (.mk 103 c [x,y] []) a b)
 | none=>
  if Ep x then O (.err 2 at_)
  else if 0<=jK x.name/\jK x.name≠x.args.length then O (.err 3 at_)
  else O (.ok (.mk 103 x.name x.args []) k' vars')
def aFB(hp:SP w pb tb T k vars d)(hc:mF w tb)(hd:d+1<=8)(h1:ep T k [33]=G)(h2:ep T k [92,43]=G)
  (h3:ep T k [40]=G) {r:cg Ex} (hr:jo T f 0 k vars (d+1)=O r) {q:cg Bd} (hq:cg.bind (O r) (fun x k' vars'=>P.akY T f (tk T k).pos d x k' vars')=O q) :
  Calls a9Y 115 #[pp pb] w (jS dJ pb tb T d w q):=by
 have H:=a0a hp;have HC:=a0a hc;have HR:=a0a hr;have HQ:=a0a hq;have H1:=a0a h1;have H2:=a0a h2;have H3:=a0a h3;have HK:=aDt h3;have fW:=hp.d2.2.2;have vZ:=hp.lt;clear hp hc hr hq h1 h2 h3
 go_enter_defers func115,ntmps115
 go_wp2_with fail
 refine(zU H.out hd).mono ?_;rintro e w1 ⟨rfl,dX,iW,dD,fY⟩;have lU:=a0a iW;have iu:=a0a fY;have kz:=a0a dD;have nB:=a0a dX;clear iW fY dD dX
 go_wp2_with fail
 refine(p8 kz.out [33] H1.out zd).mono ?_;rintro e w2 ⟨rfl,rfl⟩
 go_wp2_with fail
 refine(p8 kz.out [92,43] H2.out zd).mono ?_;rintro e w2 ⟨rfl,rfl⟩;have dD:=kz.out;obtain⟨n,c,h0,l1,l2,-,l3,l4⟩:=dD.l0;obtain⟨t0,t1,t2⟩:=dD.toks.at dD.kt;have xt:tb<w1.heap.size:=Nat.lt_trans dD.lt dD.d2.2.2;have BV:=dD.d2.2.2;obtain⟨kd,iP⟩:∃ kd:Int,kd=((tk T k).kind:Int):=⟨_,J⟩;obtain⟨tx,htx⟩:=b9 ((tk T k).text);rw[<- iP] at t0;rw[<- htx] at t1;have F7:(tx == [40])=G\/tx=[40]/\(kd == 4)=false:=by
  grind
 clear dD iP htx HK;rcases F7 with F7 | ⟨rfl,F7⟩;all_goals (
  go_wp2_with fail
  refine((abu f).go kz.out zo HR.out).mono ?_;have dX:=nB.out;cases r with
  | err c0 a0=>
   rintro e2 w4 ⟨⟨b,rfl,eK,gy⟩,er,uU⟩;have e:=HQ.out;simp only[cg.bind,aZ9] at e;subst e;exact sT fW uU (by grind [cY.bI,Hid.out]) ⟨b,J,eK,zo⟩ (iu.out.trans er)
  | ok x k2 v2=>
  rintro e2 w3 ⟨v,rfl,hv,gK,dU⟩;obtain⟨bx,rfl,jA⟩:=hv.shape;have Wa:=a0a hv;have tV:=a0a gK;have nT:=a0a dU;have HC3:=a0a (HC.out.fr (iu.out.trans dU) vZ);obtain⟨cf,Sj⟩:∃ cf:Nat->Bs,∀ j,cf j=LH.getD j []:=⟨_,fun _=>rfl⟩;have Ai:∀ j,j<9->w3.cell? ⟨3,j,V⟩=O (aM (cf j)):=(by grind [mF.cell,Hid.out]);have Sk:=a0a Sj;have AY:=HC3.out.lt;have aUD:=gK.d2.2.2;have a0:=Ai 0 zd;have a1:=Ai 1 zd;have a2:=Ai 2 zd;have a3:=Ai 3 zd;have a4:=Ai 4 zd;have a5:=Ai 5 zd;have a6:=Ai 6 zd;have a7:=Ai 7 zd;have a8:=Ai 8 zd;have Dl:3<w3.heap.size:=zo;have e:=HQ.out;simp only[cg.bind] at e;unfold P.akY at e;have HE:=a0a e;have Wd:=a0a (dU.bI lU.out zo zd);have EH:=dU.size;clear hv gK dU Ai t0 t1 t2 h0 e Sj
  go_wp2_with fail
  go_loop [7,66] (fun s i=>∃ j:Nat,j<=9/\i=zi j/\∀ j',j'<j->ep T k2 (cf j')=G) (fun _ i=>9-(intOf i).toNat)
  case atStart=>exact zg
  case round=>
   obtain⟨j,hj,rfl,lQ⟩:=hrel;have EF:=a0a lQ;clear lQ;by_cases hlt:j<9
   .have hj9:j=0\/j=1\/j=2\/j=3\/j=4\/j=5\/j=6\/j=7\/j=8:=zo;have Mg:(cf j).all P.digit=false:=by rw[Sk.out];rcases hj9 with rfl | rfl | rfl | rfl | rfl | rfl | rfl | rfl | rfl<;>decide
    have OY:ep T k2 (cf j)=A->LK T k2=O (cf j):=fun h=>by
     rw[LK,Zq (j:=j) (by simp [LH];omega) (by rw[<- Sk.out];exact h) (fun j' Wi=>by rw[<- Sk.out];exact EF.out j' Wi),<- Sk.out]
    have HFI:=a0a OY;have HSD:=a0a Mg;clear OY Mg hj;have hix:∀ w,(Instr.index 282 (.agg #[aM (cf 0),aM (cf 1),aM (cf 2),aM (cf 3),aM (cf 4),aM (cf 5),aM (cf 6),aM (cf 7),aM (cf 8)]) (zi j)).run a9Y w = .ok (aM (cf j)) w:=
     fun w=>aDw _ _ _ _ _ _ _ _ _ j hlt _ (by rcases hj9 with rfl | rfl | rfl | rfl | rfl | rfl | rfl | rfl | rfl<;>rfl) w
    clear hj9;by_cases qh:ep T k2 (cf j)=A
    ·(
      go_wp2_with fail
      refine(uP tV.out _ qh).mono ?_;rintro e w4 ⟨rfl,jt,er⟩;have sU:=a0a jt;have sW:=a0a er;have AV:=er.size;clear jt er a0 a1 a2 a3 a4 a5 a6 a7 a8
      go_wp2_with fail
      have e:=HE.out;rw[HFI.out qh] at e;dsimp only at e;cases hq:jo T f 0 (k2+1) v2 (d+1) with
      | none=>rw[hq] at e;simp [cg.bind] at e
      | some q2=>
      rw[hq] at e;refine((abu f).go sU.out zo hq).mono ?_;cases q2 with
      | err c0 a0=>
       rintro e2 w5 ⟨⟨b,rfl,eK,gy⟩,iR,xz⟩;simp only[cg.bind,aZ9] at e;subst e;exact sT fW xz (iR.bI (by grind [cY.bI,Hid.out]) zo zd) ⟨b,J,eK,zo⟩ (by grind [trans,bz.trans,Hid.out])
      | ok y k5 v5=>
      rintro e2 w5 ⟨v,rfl,hv,jW,iR⟩;simp only[cg.bind,aZ9] at e;subst e;obtain⟨Gm,rfl,nO⟩:=hv.shape;have hz5:=iR.size;have HV5:=a0a hv;have Wf:=a0a jW;have OX:=a0a iR;clear hv jW iR nO hq HE
      go_wp2_with fail
      have gS:∀ o o',((w5.alloc o).alloc o').heap.size=w5.heap.size+2:=(by grind [size_alloc]);refine yx (j:=2) F4 J fW (by grind [dQ,SP.ext,Hid.out]) zo (by grind [dQ,cY.bI,Hid.out]) ?_
       (by grind [trans,bz.alloc,bz.trans,Hid.out])
      refine Dv zg (by grind [EB,size_alloc]) (aaW zg (dQ (blk_alloc_new _ _)) ?_ ?_) J2
      .exact eG.mono zg
        (by grind [dQ,cY.ll,Hid.out]) _ _ Wa.out
      .exact eG.mono zg
        (by grind [dQ]) _ _ HV5.out)
    ·(
      go_wp2_with fail
      refine(p8 tV.out _ (by simpa using qh) HSD.out).mono ?_;rintro e w4 ⟨rfl,rfl⟩;have aFE:=a0a qh;clear qh
      go_wp2_with fail
      refine⟨⟨j+1,zo,zs,fun j' Wi=>?_⟩,?_⟩
      .rcases Nat.lt_or_ge j' j with h | h
       .exact EF.out j' h
       .obtain rfl:j'=j:=zo;simpa using aFE.out
      .simp only[intOf];omega)
   .have:j=9:=zo;subst this;have xD:LK T k2=none:=ahK fun j' Wi=>by rw[<- Sk.out];exact EF.out j' Wi
    have e:=HE.out;rw[xD] at e;dsimp only at e;have my:=(akW T (fun k hk=>by
     rcases Nat.lt_or_ge k T.length with h | h
     .obtain⟨c,r,e1,_⟩:=H.out.tw.words _ (JD h) hk;rw[e1];simp
     .rw[show tk T k=tk T T.length by simp [tk,List.getD_eq_getElem?_getD,List.getElem?_eq_none h]] at hk;simp [tk] at hk) f).oper _ _ _ _ _ _ _ HR.out
    have wh:eG (Nu w w3) w3 (pp bx) x:=eG.mono (F:=Nu w1 w3) zg zg _ _ Wa.out;have hle:P.Ia (tk T k).pos x k2 v2=O q:=e;have HVV:=a0a wh;have HLE:=a0a hle;have HNM:=a0a my;clear wh hle my e HE xD a0 a1 a2 a3 a4 a5 a6 a7 a8
    go_upto_region 19 with(fail)
    exact aDC _ _ _ _ _ _ _ _ _ _ _ _ _ _ _ _ _ _ _ _ _ _ _ _ _ _ _ _ _ _ _ _ _ _ _ _ _ _ _ _ _ _ _ _ _ _ _ _ _ _ _ _ _ _ _ _ _ _ _ _ _ _ _ _ _ _ _ _ _ _ _ _ _ _ _ _ _ _ _ _ _ _ _ _ _ _ _ _ _ _ _ _ _ _ _ _ _ _ _ _ _ _ _ _ _ _ _ _ _ _ _ _ _ _ _ _ _ _ _ _ _ _ _ _ _ _ _ _ _ _ _ _ _ _ _ _ _ _ _ _ _ _ _ _ _ _ _ _ _ _ _ _ _ _ _ _ _ tV.out hd (iu.out.trans nT.out) fW zo Wd.out HVV.out HNM.out HLE.out _ _ (by assumption) (by assumption))
theorem aFI(m:OU f)(n:J1 f):OU (f+1):=⟨by
 intro pb tb T k vars d w q b e o a;by_cases c:d+1<=8
 .rw[nt,bX (by grind [P.maxDepth])] at a;by_cases g:ep T k [33]=A
  .rw[zip g] at a;simp only[aZ9] at a;subst a;exact aDr b c g
  rw[bX g] at a;have h:ep T k [33]=false:=zg;by_cases i:ep T k [92,43]=A
  .rw[zip i] at a;cases hr:nt T f (k+1) vars (d+1) with
   | none=>rw[hr] at a;simp [cg.bind] at a
   | some r=>rw[hr] at a;exact aDs m b e c h i hr a
  rw[bX i] at a;have l:ep T k [92,43]=false:=zg;by_cases j:ep T k [40]=A
  .rw[zip j] at a;cases hr:mw T f (k+1) vars (d+1) with
   | none=>rw[hr] at a;simp [cg.bind] at a
   | some r=>rw[hr] at a;exact aDu n b e c h l j hr a
  rw[bX j] at a;have p:ep T k [40]=false:=zg;cases hr:jo T f 0 k vars (d+1) with
  | none=>rw[hr] at a;simp [cg.bind] at a
  | some r=>rw[hr] at a;exact aFB b e c h l p hr a
 .rw[nt,zip (by grind [P.maxDepth])] at a;simp only[aZ9] at a;subst a;exact aDq b zo o⟩
def aFJ(f:Nat):OU f/\OV f/\J1 f:=by
 induction f using Nat.strongRecOn with
 | ind f ih=>
  cases f with
  | zero=>exact⟨⟨fun _ _ _ h=>by simp [nt] at h⟩,akK,aDo⟩
  | succ f=>
   have a:=ih f (Nat.lt_succ_self _);grind [aC8,aFI,aDp]
def ak0(f:Nat):J1 f:=(aFJ f).2.2
