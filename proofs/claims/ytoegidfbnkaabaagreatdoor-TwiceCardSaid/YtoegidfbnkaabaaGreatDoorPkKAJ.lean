/- A part of one proof (SBody, SBody2, SLit, SLit2, SIdxArr, PureN, SLitEnd, SLit3, SJoin). -/
import Derived.Test.YtoegidfbnkaabaaGreatDoorPkKAI
import Derived.StillTailTactics
import Derived.Deep.Cut
set_option linter.all false
set_option maxRecDepth 100000
set_option maxHeartbeats 8000000
open Option renaming some → O, none → V
open Go renaming Value → Y, World → Z
open Bool renaming true → A, false → ae
open Go.Obj renaming cells → ah
open Option.some renaming injEq → a0z
open Go.Lib renaming hid → a0A
open Go.Value renaming slice → a0M, ownBlock → a1k
open Go.Obj renaming cells → a1d
open Array renaming getElem?_eq_getElem → a2b
open Go.Proofs.Tryz renaming prog → bas
open Go.Proofs.Tryz
namespace Go.Proofs.YtoegidfbnkaabaaGreatDoor
open P
open Go.RowKit
variable{T:List P.Tok}{W w w0 w2 w3:Z}{av tv vv:Y}{bx cap d f g k k' n pb so tb:Nat}{vars:List Bs}
def P.isArrow(x:Bd):Prop:=x.kind=63/\x.parts.length=2
instance (x:Bd):Decidable (P.isArrow x):=by unfold P.isArrow;infer_instance
def P.Pc(T:List P.Tok)(f a:Nat)(v1:List Bs)(d:Nat)(x:Bd):Option (cg Bd):=
 if P.isArrow x then
  if eD T a [59] then cg.bind (oG T f (a+1) v1 d) fun c e v3=>O (.ok (.mk 63 [] [] (x.parts++[c])) e v3)
  else O (.ok (.mk 63 [] [] (x.parts++[yA])) a v1)
 else if eD T a [59] then cg.bind (oG T f (a+1) v1 d) fun b g v2=>O (.ok (.mk 59 [] [] [x,b]) g v2) else O (.ok x a v1)
def P.als{x:Bd}(h:P.whole x):¬ P.isArrow x:=by
 cases x with
 | mk kind name args parts=>
  rintro ⟨a,b⟩;have:=h a;grind [Bd.parts]
def P.aDF(T:List P.Tok)(f k:Nat)(vars:List Bs)(d:Nat) :
  lM T (f+1) k vars d=cg.bind (P.SF T f k vars d) fun x b v1=>P.Pc T f b v1 d x:=by
 rw[lM,P.SF];cases g:ng T f k vars d with
 | none=>rfl
 | some q=>
  cases q with
  | err c a=>rfl
  | ok x b v1=>
   have hw:=P.als ((ab5 T f).row _ _ _ _ _ _ g);by_cases e:eD T b [45,62]=A
   .simp only[cg.bind,zip e];cases h:ng T f (b+1) v1 d with
    | none=>rfl
    | some q=>
     cases q with
     | err c a=>rfl
     | ok y i v2=>
      have:P.isArrow (Bd.mk 63 [] [] [x,y]):=⟨J,J⟩;simp only[P.Pc,zip this];rfl
   .simp only[cg.bind,bO e,P.Pc,bO hw]
def alu{a b c:Bd}(E:Nu w0 W n)(F:Nu w0 W g)(l:n≠g)(G:w0.heap.size<=W.heap.size)(H:pb<w0.heap.size)
  (p:W.heap[n]?=aP #[.int .u8 63,aW [],b9,cU g 2 2] 149)
  (q:dM (fun m=>Nu w0 W m/\m≠n/\m≠g) W tv a) (r:dM (fun m=>Nu w0 W m/\m≠n/\m≠g) W vv b) (s:dM (fun m=>Nu w0 W m/\m≠n/\m≠g) W av c)
  (f:w2.ownsRow w0.heap.size 84 1 (cU cap (2+1) k') (2+1) ([tv,vv]++[av])) (i:(W.alloc (ah #[av] 84)).grownBy w2 (a0M (O ⟨g,0,V⟩) 2 2).ownBlock)
  (t:(a0M (O ⟨cap,0,V⟩) (2+1) k').ownBlock=(a0M (O ⟨g,0,V⟩) 2 2).ownBlock\/∀ k,(a0M (O ⟨cap,0,V⟩) (2+1) k').ownBlock=O k->(W.alloc (ah #[av] 84)).heap.size<=k) :
  (∃ cs:Array Y,w2.heap[n]?=aP cs 149/\cs.size=4)/\W.heap.size<w2.heap.size/\(∀ (m:Nat) (o:Obj),m≠n->m≠g->W.heap[m]?=O o->(w2.setCell ⟨n,3,V⟩ (cU cap (2+1) k')).heap[m]?=O o) /\
   dM (Nu w0 w2) (w2.setCell ⟨n,3,V⟩ (cU cap (2+1) k')) (pp n) (.mk 63 [] [] [a,b,c]):=by
 have u:=i.size;rw[size_alloc] at u;have w:∀ (m:Nat) (o:Obj),m≠g->W.heap[m]?=O o->w2.heap[m]?=O o:=fun m o y z=>by
  have j:=dS (o:=a1d #[av] 84) z;rw[i.block m (bn j) (fun e=>y (by simp only[a1k] at e;injection e))];exact j
 have B:=w n _ l p;have I:∀ (m:Nat) (o:Obj),m≠n->w2.heap[m]?=O o->(w2.setCell ⟨n,3,V⟩ (cU cap (2+1) k')).heap[m]?=O o:=(by grind [blk_setCell_other]);have C:cap≠n:=by
  rcases t with h | h
  .grind [a1k]
  .have:=h cap J;grind [size_alloc]
 refine⟨zg,zo,zg,?_⟩;have D:fO (fun m=>Nu w0 w2 m/\m≠n) w2 84 (cU cap (2+1) k') ([tv,vv]++[av]):=EO f fun m hm=>⟨f.lt m hm,by grind [a1k]⟩;have d:∀ {v:Y} {x:Bd},dM (fun m=>Nu w0 W m/\m≠n/\m≠g) W v x->dM (Nu w0 w2) (w2.setCell ⟨n,3,V⟩ (cU cap (2+1) k')) v x:=fun h=>
  dM.mono zg zg _ _ h
 refine DJ zg (by rw[AN B];rfl) Ij ⟨_,D.mono zg zg,?_⟩;unfold gF;refine⟨tv,[vv,av],J,d q,?_⟩;unfold gF;refine⟨vv,[av],J,d r,?_⟩;unfold gF;exact⟨av,[],J,d s,by unfold gF;rfl⟩
def aDG(eU:Pb f)(Kd:∀ m,m<f->Kb m){r:cg Bd}(oY:SP w0 pb tb T k vars d)(pI:mP w0 tb)(hd:d<=8)
  (h:lM T (f+1) k vars d=O r):Calls bas 53 #[pp pb] w0 (jX dM pb tb T d w0 r):=by
 rw[P.aDF] at h;have SE:=a0A oY;have Ik:=a0A pI;have HR:=a0A h;have xJ:=oY.d2.2.2;have wO:=oY.lt;obtain⟨i0,hi,JZ,J0,J1⟩:=info_parts alo;clear oY h pI
 go_enter_defers func53,ntmps53
 go_wp2_with fail
 cases hq:P.SF T f k vars d with
 | none=>have e:=HR.out;rw[hq] at e;simp [cg.bind] at e
 | some q=>
 have e:=HR.out;rw[hq] at e;refine(aDD eU SE.out Ik.out hd hq).mono ?_;cases q with
 | err c0 a0=>
  rintro e2 w4 ⟨⟨b,rfl,eQ,gH⟩,dV,gQ⟩;simp only[cg.bind,a0z] at e;subst e;exact⟨⟨b,J,eQ,gH⟩,dV,gQ⟩
 | ok x k1 v1=>
 rintro e2 w1 ⟨v,rfl,hv,dF,gm⟩;simp only[cg.bind] at e;have pH:=gm.size;have kA:=a0A dF;have iA:=a0A gm;have jS:=dF.d2.2.2;clear dF gm hq HR;rcases hv with⟨hw,nK⟩| ⟨a,b,n,g,va,vb,rfl,rfl,hn,hg,Wv,xP,Cc,ha,hb⟩
 .rw[P.Pc,bO (P.als hw)] at e;have HE:=a0A e;have HV:=a0A nK;cases x with
  | mk kind name args parts=>
  unfold dM at nK;obtain⟨n,av,pv,vs,us,rfl,hn,xP,h4,h5,h6,h7⟩:=nK;obtain⟨pa,pn,pc,rfl,Cf,-,-⟩:=h6.shape;have hlen:=h7.length;have c0:w1.cell? ⟨n,0,V⟩=O (.int .u8 kind):=cellOf xP J;have c3:w1.cell? ⟨n,3,V⟩=O (.slice pa pn pc):=cellOf xP J;have xQ:n<w1.heap.size:=hn.2;have nA:kind=63/\pn=3\/((kind:Int) == 63)=false:=by
   by_cases hk:kind=63
   .exact .inl ⟨hk,by have:=hw hk;omega⟩
   grind
  clear h4 h5 h6 h7 hw xP hn e hlen Cf;rcases nA with⟨rfl,rfl⟩| Aa;all_goals (
   by_cases hs:eD T k1 [59]=A
   .go_wp2_with fail
    refine(vd kA.out [59] hs).mono ?_;rintro e w2 ⟨rfl,ff,fa⟩;have iT:=a0A ff;have fQ:=a0A fa;have qV:=fa.size;clear ff fa c0 c3
    go_wp2_with fail
    have e:=HE.out;rw[zip hs] at e;cases f with
    | zero=>simp [oG,cg.bind] at e
    | succ f=>
    rw[oG] at e;by_cases oJ:P.maxDepth<d+1
    .rw[zip oJ] at e;simp only[cg.bind,a0z] at e;subst e;refine(V5 iT.out oJ zo).mono ?_;rintro e w3 ⟨⟨b,rfl,eQ,gH⟩,dV,gQ⟩;exact⟨⟨b,J,eQ,zo⟩,(iA.out.trans fQ.out).trans dV,gQ⟩
    rw[bO oJ] at e;have yD:d+1<=8:=by unfold P.maxDepth at oJ;omega
    refine(zZ iT.out yD).mono ?_;rintro e2 w3 ⟨rfl,gQ,vl,fZ,dV⟩;have Ww:=a0A vl;have og:=a0A dV;have uk:=a0A fZ;have Gk:=a0A e;have SG:=a0A gQ;clear vl dV fZ e hs gQ oJ
    go_wp2_with fail
    have e:=Gk.out;cases hq:lM T f (k1+1) v1 (d+1) with
    | none=>rw[hq] at e;simp [cg.bind] at e
    | some q=>
    rw[hq] at e;refine((Kd f zo).go uk.out (Ik.out.fr ((iA.out.trans fQ.out).trans og.out) wO) zo hq).mono ?_;have gQ:=SG.out;cases q with
    | err c0 a0=>
     rintro e2 w4 ⟨⟨b,rfl,eQ,gH⟩,eF,vj⟩;simp only[cg.bind,a0z] at e;subst e;exact tH xJ vj (by grind [dc.bJ,Hid.out]) ⟨b,J,eQ,zo⟩ (by grind [trans,bD.trans,Hid.out])
    | ok y k2 v2=>
    rintro e2 w4 ⟨v,rfl,hv,jd,eF⟩;simp only[cg.bind,a0z] at e;subst e;obtain⟨Gy,rfl,nX⟩:=hv.shape;have AX:=eF.size;have ME:=a0A hv;have tI:=a0A jd;have tJ:=a0A eF;clear hv jd eF nX hq HE Gk gQ
    go_wp2_with fail
    have gQ:=SG.out;have gR:∀ o o',((w4.alloc o).alloc o').heap.size=w4.heap.size+2:=(by grind [size_alloc]);refine yK (j:=2) Gg J xJ (by grind [dS,SP.ext,Hid.out]) zo (by grind [dS,dc.bJ,Hid.out]) ?_
     (by grind [trans,bD.alloc,bD.trans,Hid.out])
    refine DJ zg (by grind [EN,size_alloc]) Ij (aDx zg (dS (blk_alloc_new _ _)) ?_ ?_)
    .exact dM.mono zg
      (by grind [dS,dc.lx,Hid.out]) _ _ HV.out
    .exact dM.mono zg
      (by grind [dS]) _ _ ME.out
   .go_wp2_with fail
    refine(qs kA.out [59] (by simpa using hs) zd).mono ?_;rintro e w2 ⟨rfl,rfl⟩
    go_wp2_with fail
    have e:=HE.out;rw[bO hs,a0z] at e;subst e;exact⟨_,results_tmp J _ _ _,pp _,J,HV.out,kA.out,iA.out⟩)
 .have HE:=a0A e;have c0:w1.cell? ⟨n,0,V⟩=O (.int .u8 63):=cellOf xP J;have c3:w1.cell? ⟨n,3,V⟩=O (cU g 2 2):=cellOf xP J;have xQ:n<w1.heap.size:=hn.2;have hn0:w0.heap.size<=n:=hn.1;have A2:g<w1.heap.size:=hg.2;have xL:w0.heap.size<=g:=hg.1;have hF:=(P.Pc T f k1 v1 d (.mk 63 [] [] [a,b]));have kU:P.isArrow (Bd.mk 63 [] [] [a,b]):=⟨J,J⟩;rw[P.Pc,zip kU] at e;have HEB:=a0A e;have alv:=a0A xP;have alw:=a0A Cc;have HA1:=a0A ha;have HB1:=a0A hb;clear xP Cc ha hb hn hg e HE kU hF;generalize hfo:(a1d #[.int .u8 103,aW [102,97,105,108],b9,b9] 149)=fo;have HPF:=a0A (kA.out.ext (w':=w1.alloc fo) fun b o h=>dS h);have Wx:Hid (dc pb w0 (w1.alloc fo)):=a0A (iA.out.alloc _);have HNF:Hid ((w1.alloc fo).heap[n]?=_):=a0A (dS alv.out);have HGF:Hid ((w1.alloc fo).heap[g]?=_):=a0A (dS alw.out);have aDK:Hid (w0.heap.size<=(w1.alloc fo).heap.size):=(by grind [a0A,size_alloc]);subst hfo;by_cases hs:eD T k1 [59]=A
  .go_wp2_with fail
   refine(vd HPF.out [59] hs).mono ?_;rintro e w2 ⟨rfl,ff,fa⟩;have iT:=a0A ff;have fQ:=a0A fa;have qV:=fa.size;rw[size_alloc] at qV;clear ff fa c0 c3
   go_wp2_with fail
   have e:=HEB.out;rw[zip hs] at e;cases f with
   | zero=>simp [oG,cg.bind] at e
   | succ f=>
   rw[oG] at e;by_cases oJ:P.maxDepth<d+1
   .rw[zip oJ] at e;simp only[cg.bind,a0z] at e;subst e;refine(V5 iT.out oJ zo).mono ?_;rintro e w3 ⟨⟨b,rfl,eQ,gH⟩,dV,gQ⟩;exact⟨⟨b,J,eQ,zo⟩,(Wx.out.trans fQ.out).trans dV,gQ⟩
   rw[bO oJ] at e;have yD:d+1<=8:=by grind [P.maxDepth]
   refine(zZ iT.out yD).mono ?_;rintro e2 w3 ⟨rfl,gQ,vl,fZ,dV⟩;have Ww:=a0A vl;have og:=a0A dV;have uk:=a0A fZ;have Gk:=a0A e;have SG:=a0A gQ;clear vl dV fZ e hs gQ oJ
   go_wp2_with fail
   have e:=Gk.out;cases hq:lM T f (k1+1) v1 (d+1) with
   | none=>rw[hq] at e;simp [cg.bind] at e
   | some q=>
   rw[hq] at e;refine((Kd f zo).go uk.out (Ik.out.fr ((Wx.out.trans fQ.out).trans og.out) wO) zo hq).mono ?_;have gQ:=SG.out;cases q with
   | err c0 a0=>
    rintro e2 w4 ⟨⟨b,rfl,eQ,gH⟩,eF,vj⟩;simp only[cg.bind,a0z] at e;subst e;exact tH xJ vj (by grind [dc.bJ,Hid.out]) ⟨b,J,eQ,zo⟩ (by grind [trans,bD.trans,Hid.out])
   | ok y k2 v2=>
   rintro e2 w5 ⟨v,rfl,hv,lG,iU⟩;simp only[cg.bind,a0z] at e;subst e;obtain⟨Gy,rfl,nX⟩:=hv.shape;have hz5:=iU.size;have HV5:=a0A hv;have Wy:=a0A lG;have Pe:=a0A iU;have HK5:Hid (∀ (m:Nat) (cs:Array Y) (t:TypeId) (z:Nat×Nat),m<w1.heap.size->m≠pb->t≠9->w1.heap[m]?=O (ah cs t z)->w5.heap[m]?=O (ah cs t z)):=
    (by grind [a0A,dc.bJ,dS,Hid.out])
   have HXS:Hid (w5.heap[w2.heap.size]?=_):=a0A (dc.bJ iU Ww.out zo zd);have aDL:Hid (w0.heap.size<=w5.heap.size):=zg;have HN:Hid (Nu w0 w5 n):=zg;have HG:Hid (Nu w0 w5 g):=zg;have HN5:Hid (w5.heap[n]?=_):=a0A (HK5.out _ _ _ _ xQ zo zd alv.out);have HG5:Hid (w5.heap[g]?=_):=a0A (HK5.out _ _ _ _ A2 zo zd alw.out);have gR:∀ {v:Y} {x:Bd},dM (fun m=>Nu w0 w1 m/\m≠n/\m≠g) w1 v x->dM (fun m=>Nu w0 w5 m/\m≠n/\m≠g) w5 v x:=fun h=>
    dM.mono zg (by grind [dc.lx,dS,Hid.out]) _ _ h
   have HA:=a0A (gR HA1.out);have HB:=a0A (gR HB1.out);have HCC:Hid (dM (fun m=>Nu w0 w5 m/\m≠n/\m≠g) w5 (pp Gy) y):=
    a0A (dM.mono zg zg _ _ hv)
   have vh:Hid ((w5.alloc (ah #[pp Gy] 84)).ownsRow w0.heap.size 84 1 (cU g 2 2) 2 [va,vb]):=
    a0A ⟨J,.inr ⟨g,2,_,J,xL,dS HG5.out,Nat.le_refl _,zd,J,J⟩⟩
   have HSZ:Hid (w0.heap.size<=(w5.alloc (ah #[pp Gy] 84)).heap.size):=(by grind [a0A,size_alloc]);have c0:w5.cell? ⟨n,0,V⟩=O (.int .u8 63):=cellOf HN5.out J;have c3:w5.cell? ⟨n,3,V⟩=O (cU g 2 2):=cellOf HN5.out J;have aUT:n<w5.heap.size:=zo;clear hv lG iU nX hq HEB Gk gQ gR
   go_wp2_with (at_builtin;go_must (refine Ry J _ _ 147 J w0.heap.size 84 i0 _ 1 8 underlying147 hi JZ J0 J1 J zd _ _ _ J vh.out ⟨w5.heap.size,0,V⟩ 1 1 [pp Gy] J J (OK J) (by simp [Value.oneCell']) (by unfold maxLen;omega) zo (by have:=HSZ.out;omega) ?_;intro v' w9 sH yU AY;obtain⟨g2,Gn,rfl⟩:=Ma sH;obtain⟨⟨cs9,Gz,alC⟩,aDN,SI,SJ⟩:=alu HN.out HG.out Wv aDL.out xJ HN5.out HA.out HB.out HCC.out sH yU AY;have c9:w9.cell? ⟨n,3,V⟩=O (cs9[3]' zo):=cellOf Gz (by simp [a2b,alC]);have f9:=jO Gz 3;have l9:=bn Gz;have ui:=a0A yU;have Gj:=a0A sH;have HK9:=a0A SI;have acd:=a0A SJ;have aDP:=a0A Gz;clear sH yU AY SI SJ Gz))
   have gQ:=SG.out;have Wz:SP w9 pb tb T k2 v2 (d+1):=(Wy.out.ext fun b o h=>dS (o:=a1d #[Value.pointer (O ⟨Gy,0,V⟩)] 84) h).OZ vh.out zg xJ ui.out;have Cg:dc pb w0 w9:=(((((Wx.out.trans fQ.out).trans og.out).trans Pe.out)).alloc _).O0 ui.out fun k hk=>(vh.out.lt k hk).1;refine yK (j:=2) Gg J xJ (by grind [SP.setOther,Hid.out]) zo (by grind [Hid.out]) ?_ (by grind [bD.L7]);exact dM.mono (by grind [size_setCell]) zg _ _ acd.out
  .have HN:Hid (Nu w0 (w1.alloc (ah #[.int .u8 103,aW [102,97,105,108],b9,b9] 149)) n):=zg;have HG:Hid (Nu w0 (w1.alloc (ah #[.int .u8 103,aW [102,97,105,108],b9,b9] 149)) g):=zg;have HA:Hid (dM (fun m=>Nu w0 (w1.alloc (ah #[.int .u8 103,aW [102,97,105,108],b9,b9] 149)) m/\m≠n/\m≠g) (w1.alloc (ah #[.int .u8 103,aW [102,97,105,108],b9,b9] 149)) va a):=
    a0A (dM.mono (by grind [size_alloc]) (by grind [dS]) _ _ HA1.out)
   have HB:Hid (dM (fun m=>Nu w0 (w1.alloc (ah #[.int .u8 103,aW [102,97,105,108],b9,b9] 149)) m/\m≠n/\m≠g) (w1.alloc (ah #[.int .u8 103,aW [102,97,105,108],b9,b9] 149)) vb b):=
    a0A (dM.mono (by grind [size_alloc]) (by grind [dS]) _ _ HB1.out)
   have HCC:Hid (dM (fun m=>Nu w0 (w1.alloc (ah #[.int .u8 103,aW [102,97,105,108],b9,b9] 149)) m/\m≠n/\m≠g) (w1.alloc (ah #[.int .u8 103,aW [102,97,105,108],b9,b9] 149)) (pp w1.heap.size) yA):=
    a0A (DJ (by grind [size_alloc]) (blk_alloc_new _ _) Ij Kc)
   have HCN:=HNF;have vh:Hid (((w1.alloc (ah #[.int .u8 103,aW [102,97,105,108],b9,b9] 149)).alloc (ah #[pp w1.heap.size] 84)).ownsRow w0.heap.size 84 1 (cU g 2 2) 2 [va,vb]):=
    a0A ⟨J,.inr ⟨g,2,_,J,xL,dS HGF.out,Nat.le_refl _,zd,J,J⟩⟩
   have HSZ:Hid (w0.heap.size<=((w1.alloc (ah #[.int .u8 103,aW [102,97,105,108],b9,b9] 149)).alloc (ah #[pp w1.heap.size] 84)).heap.size):=(by grind [a0A,size_alloc])
   go_wp2_with fail
   refine(qs HPF.out [59] zg zd).mono ?_;rintro e w2 ⟨rfl,rfl⟩
   go_wp2_with (at_builtin;go_must (refine Ry J _ _ 147 J w0.heap.size 84 i0 _ 1 8 underlying147 hi JZ J0 J1 J zo _ _ _ J vh.out ⟨w1.heap.size+1,0,V⟩ 1 1 [pp w1.heap.size] J J (by grind [OK,size_alloc]) (by simp [Value.oneCell']) (by grind [maxLen]) zo (by have:=HSZ.out;omega) ?_;intro v' w9 sH yU AY;obtain⟨g2,Gn,rfl⟩:=Ma sH;obtain⟨⟨cs9,Gz,alC⟩,aDN,SI,SJ⟩:=alu HN.out HG.out Wv aDK.out xJ HCN.out HA.out HB.out HCC.out sH yU AY;have c9:w9.cell? ⟨n,3,V⟩=O (cs9[3]' zo):=(by grind [cellOf,a2b]);have f9:=jO Gz 3;have l9:=bn Gz;have ui:=a0A yU;have Gj:=a0A sH;have HK9:=a0A SI;have acd:=a0A SJ;have aDP:=a0A Gz;clear sH yU AY SI SJ Gz))
   have e:=HEB.out;rw[bO hs,a0z] at e;subst e;have Wz:SP w9 pb tb T k1 v1 d:=(HPF.out.ext fun b o h=>dS (o:=a1d #[Value.pointer (O ⟨w1.heap.size,0,V⟩)] 84) h).OZ vh.out zg xJ ui.out;have Cg:dc pb w0 w9:=(Wx.out.alloc _).O0 ui.out fun k hk=>(vh.out.lt k hk).1;refine⟨_,results_tmp J _ _ _,pp n,J,?_,(by grind [SP.setOther,Hid.out]),(by grind [bD.L7])⟩;exact dM.mono (by grind [size_setCell]) zg _ _ acd.out
def aDR:Kb 0:=⟨fun _ _ _ h=>by simp [lM] at h⟩
theorem aDS(a:Pb f)(b:∀ m,m<f->Kb m):Kb (f+1):=⟨fun c d e h=>aDG a b c d e h⟩
def aDT(hp:SP w pb tb T k vars d)(hd:8<d+1)(xG:d<=8) :
  Calls bas 115 #[pp pb] w (jX dM pb tb T d w (.err 4 (tk T k).pos)):=by
 have H:=a0A hp;clear hp
 go_enter_defers func115,ntmps115
 go_wp2_with fail
 refine(V5 H.out hd zo).mono ?_;rintro e w1 ⟨⟨b,rfl,hb⟩,hf,hs⟩;exact⟨⟨b,J,hb⟩,hf,hs⟩
def aDU(hp:SP w pb tb T k vars d)(hd:d+1<=8)(h1:eD T k [33]=A) :
  Calls bas 115 #[pp pb] w (jX dM pb tb T d w (.ok (.mk 33 [] [] []) (k+1) vars)):=by
 have H:=a0A hp;have gk:=hp.d2.2.2;clear hp
 go_enter_defers func115,ntmps115
 go_wp2_with fail
 refine(zZ H.out hd).mono ?_;rintro e w1 ⟨rfl,dY,je,dF,gm⟩;have lZ:=a0A je;have iA:=a0A gm;have kA:=a0A dF;have nJ:=a0A dY;clear je gm dF dY
 go_wp2_with fail
 refine(vd kA.out [33] h1).mono ?_;rintro e w2 ⟨rfl,ff,fa⟩;have iT:=a0A ff;have fQ:=a0A fa;clear ff fa h1
 go_wp2_with fail
 have dY:=nJ.out;have qV:=fQ.out.size;refine yK (j:=2) Gg J gk (iT.out.ext (by grind [dS])) zo (by grind [dS,dc.bJ,Hid.out]) ?_ ((iA.out.trans fQ.out).alloc _);exact DJ (by grind [size_alloc]) (blk_alloc_new _ _) Ij Kc
def aDV(MP:Pa f)(hp:SP w pb tb T k vars d)(hc:mP w tb)(hd:d+1<=8)(h1:eD T k [33]=ae)(h2:eD T k [92,43]=A)
  {r:cg Bd} (hr:mL T f (k+1) vars (d+1)=O r) {q:cg Bd} (hq:cg.bind (O r) (fun b k' vars'=>O (.ok (Bd.mk 126 [] [] [b]) k' vars'))=O q) :
  Calls bas 115 #[pp pb] w (jX dM pb tb T d w q):=by
 have H:=a0A hp;have HC:=a0A hc;have HR:=a0A hr;have HQ:=a0A hq;have H1:=a0A h1;have H2:=a0A h2;have gk:=hp.d2.2.2;have wO:=hp.lt;clear hp hc hr hq h1 h2
 go_enter_defers func115,ntmps115
 go_wp2_with fail
 refine(zZ H.out hd).mono ?_;rintro e w1 ⟨rfl,dY,je,dF,gm⟩;have lZ:=a0A je;have iA:=a0A gm;have kA:=a0A dF;have nJ:=a0A dY;clear je gm dF dY
 go_wp2_with fail
 refine(qs kA.out [33] H1.out zd).mono ?_;rintro e w2 ⟨rfl,rfl⟩
 go_wp2_with fail
 refine(vd kA.out [92,43] H2.out).mono ?_;rintro e w3 ⟨rfl,fZ,dV⟩;have uk:=a0A fZ;have og:=a0A dV;clear fZ dV
 go_wp2_with fail
 refine(MP.go uk.out (HC.out.fr (iA.out.trans og.out) wO) zo HR.out).mono ?_;have dY:=nJ.out;have ET:=og.out.size;have e:=HQ.out;cases r with
 | err c0 a0=>
  rintro e2 w4 ⟨⟨b,rfl,eQ,gH⟩,eF,vj⟩;simp only[cg.bind,a0z] at e;subst e;exact tH gk vj (by grind [dc.bJ,Hid.out]) ⟨b,J,eQ,zo⟩ ((iA.out.trans og.out).trans eF)
 | ok y k2 v2=>
 rintro e2 w4 ⟨v,rfl,hv,jd,eF⟩;simp only[cg.bind,a0z] at e;subst e;obtain⟨Gy,rfl,nX⟩:=hv.shape;have AX:=eF.size;have ME:=a0A hv;have tI:=a0A jd;have tJ:=a0A eF;clear hv jd eF nX dY HQ
 go_wp2_with fail
 have dY:=nJ.out;have gR:∀ o o',((w4.alloc o).alloc o').heap.size=w4.heap.size+2:=(by grind [size_alloc]);refine yK (j:=2) Gg J gk (by grind [dS,SP.ext,Hid.out]) zo (by grind [dS,dc.bJ,Hid.out]) ?_
  (by grind [trans,bD.alloc,bD.trans,Hid.out])
 refine DJ zg (by grind [EN,size_alloc]) Ij (aDw zg (dS (blk_alloc_new _ _)) ?_);exact dM.mono zg (by grind [dS]) _ _ ME.out
def TW.paren(h:TW T)(hk:k<T.length)(b:eD T k [40]=A):(tk T k).kind=4/\(tk T k).text=[40]:=by
 unfold eD at b;simp only[Bool.and_eq_true,Bool.or_eq_true,beq_iff_eq] at b;obtain⟨a,d⟩:=b;refine⟨?_,d⟩;rcases a with a | a
 .omega
 .obtain⟨c,r,e,f⟩:=h.words _ (JP hk) a;rw[d] at e;cases e;exact absurd f zd
def aDW(a:eD T k [40]=ae):(tk T k).kind≠4\/(tk T k).text≠[40]:=by
 grind [eD,tk]
def aDX(Kd:Kb f)(hp:SP w pb tb T k vars d)(hc:mP w tb)(hd:d+1<=8)(h1:eD T k [33]=ae)(h2:eD T k [92,43]=ae)
  (h3:eD T k [40]=A)
  {r:cg Bd} (hr:lM T f (k+1) vars (d+1)=O r) {q:cg Bd} (hq:cg.bind (O r) (fun b k' vars'=>mw T [41] b k' vars')=O q) :
  Calls bas 115 #[pp pb] w (jX dM pb tb T d w q):=by
 have H:=a0A hp;have HC:=a0A hc;have HR:=a0A hr;have HQ:=a0A hq;have H1:=a0A h1;have H2:=a0A h2;have H3:=a0A h3;have HK:=a0A (hp.tw.paren hp.kt h3);have gk:=hp.d2.2.2;have wO:=hp.lt;clear hp hc hr hq h1 h2 h3
 go_enter_defers func115,ntmps115
 go_wp2_with fail
 refine(zZ H.out hd).mono ?_;rintro e w1 ⟨rfl,dY,je,dF,gm⟩;have lZ:=a0A je;have iA:=a0A gm;have kA:=a0A dF;have nJ:=a0A dY;clear je gm dF dY
 go_wp2_with fail
 refine(qs kA.out [33] H1.out zd).mono ?_;rintro e w2 ⟨rfl,rfl⟩
 go_wp2_with fail
 refine(qs kA.out [92,43] H2.out zd).mono ?_;rintro e w2 ⟨rfl,rfl⟩;have dF:=kA.out;obtain⟨n,c,h0,f0,hb,l1,l2,l3,l4,ff,fa⟩:=dF.on (by have:=HK.out;omega);obtain⟨t0,t1,t2⟩:=dF.toks.at dF.kt;have xH:tb<w1.heap.size:=zo;have eh:¬ tb=pb:=zo;have R6:¬ pb=tb:=zo;have iT:=a0A ff;have fQ:=a0A fa;rw[HK.out.1] at t0;rw[HK.out.2] at t1;clear dF ff fa t2
 go_wp2_with fail
 refine(Kd.go iT.out (HC.out.fr (iA.out.trans fQ.out) wO) zo HR.out).mono ?_;have dY:=nJ.out;have qV:=fQ.out.size;have e:=HQ.out;have rE:((Gf w1 pb tb k n c)).heap[w.heap.size]?=_:=fQ.out.bJ lZ.out zo zd;cases r with
 | err c0 a0=>
  rintro e2 w4 ⟨⟨b,rfl,eQ,gH⟩,eF,vj⟩;simp only[cg.bind,a0z] at e;subst e;exact tH gk vj (by grind [dc.bJ]) ⟨b,J,eQ,zo⟩ ((iA.out.trans fQ.out).trans eF)
 | ok y k2 v2=>
 rintro e2 w4 ⟨v,rfl,hv,jd,eF⟩;simp only[cg.bind] at e;obtain⟨Gy,rfl,nX⟩:=hv.shape;have AX:=eF.size;have ME:=a0A hv;have tI:=a0A jd;have tJ:=a0A ((iA.out.trans fQ.out).trans eF);have HX4:=a0A (eF.bJ rE zo zd);have HE:=a0A e;have HBY:=a0A nX;clear hv jd eF nX HQ rE h0 f0 t0 t1 e;have aUV:w.heap.size+1<=w4.heap.size:=zo;have ace:w.heap.size+1<=(Gf w1 pb tb k n c).heap.size:=zo;have aDY:=a0A ace;clear dY qV AX ace
 go_wp2_with fail
 have e:=HE.out;unfold mw at e;by_cases hm:eD T k2 [41]=A
 .rw[zip hm,a0z] at e;subst e;refine(R3 tI.out [41] hm).mono ?_;rintro e w5 ⟨rfl,lG,iU⟩;have Wy:=a0A lG;have Pe:=a0A iU;clear lG iU hm HE
  go_wp2_with fail
  have hz5:=Pe.out.size;have ace:=aDY.out;refine yK (j:=2) Gg J gk Wy.out zo (by grind [dc.bJ,Hid.out]) ?_ (tJ.out.trans Pe.out);exact Gg _ _ _ _ _ _ _ ME.out Pe.out zg
 .rw[bO hm,a0z] at e;subst e;refine(R4 tI.out [41] zg zd).mono ?_;rintro e w5 ⟨⟨b,rfl,eQ,gH⟩,iU,xM⟩;exact tH gk xM (by grind [dc.bJ,Hid.out]) ⟨b,J,eQ,zo⟩ (tJ.out.trans iU)
def aDZ(a b c d e f g h i:Bs)(j:Nat)(hj:j<9)(v:Y)(hv:(#[Value.string (bs a),aW b,aW c,aW d,aW e,aW f,aW g,aW h,aW i]:Array Y)[j]?=O v)(w:Z) :
  (Instr.index 282 (.agg #[Value.string (bs a),aW b,aW c,aW d,aW e,aW f,aW g,aW h,aW i]) (zi j)).run bas w = .ok v w:=by
 have e1:(sizeOf 9).run bas w = .ok 1 w:=by simp [go_sem,sizeOf9,isAgg9]
 have e2:(isAgg 9).run bas w = .ok ae w:=by simp [go_sem,sizeOf9,isAgg9]
 simp [Instr.index,run_underlying underlying282,asIntOf,hj,go_sem,e1,e2];grind
namespace P
def named(x:Ex):Prop:=x.kind=97\/x.kind=99->x.name≠[]
theorem aD0{t:Tok}{v v':List Bs}{x:Ex}(h:xA t k v = .ok x k' v'):named x:=by
 grind [xA,named,Ex.kind]
theorem alD{all:List Ex}{x:Ex}(hx:named x):named (Dh all x):=by
 cases all with
 | nil=>exact hx
 | cons a l=>simp [Dh,named,Ex.name]
structure aD1(T:List Tok)(f:Nat):Prop where
 B7:∀ k v d x k' v',oE T f k v d=O (.ok x k' v')->named x
 list:∀ k v d x k' v',pE T f k v d=O (.ok x k' v')->named x
 oper:∀ l k v d x k' v',jl T f l k v d=O (.ok x k' v')->named x
 more:∀ l y k v d x k' v',named y->oT T f l y k v d=O (.ok x k' v')->named x
def alE(T:List Tok)(g:∀ k,(tk T k).kind=1->(tk T k).text≠[]):∀ f,aD1 T f
 | 0=>⟨by simp_all [oE],by simp_all [pE],by simp_all [jl],by simp_all [oT]⟩
 | f+1=>by
  have ih:=alE T g f;refine⟨?_,?_,?_,?_⟩
  .intro k v d x k' v' h;rw[oE] at h;split at h
   .grind
   split at h
   .grind [a0z,cg.ok.injEq,named,Ex.kind]
   split at h
   .grind [a0z,aD0]
   split at h
   .rename_i hk;split at h
    .obtain⟨a,e,v1,c,b⟩:=ek h;rw[(od b).2.1];exact fun _=>g k hk
    .simp only[a0z,cg.ok.injEq] at h;rw[<- h.1];exact fun _=>g k hk
   split at h
   .grind [a0z,cg.ok.injEq,named,Ex.kind]
   split at h
   .obtain⟨a,e,v1,c,b⟩:=ek h;rw[(od b).2.1];exact ih.oper _ _ _ _ _ _ _ c
   split at h
   .exact ih.list _ _ _ _ _ _ h
   grind
  .intro k v d x k' v' h;rw[pE] at h;have n:named (.mk 97 [91,93] 0 0 []):=by simp [named,Ex.name]
   split at h
   .grind
   .obtain⟨y,e,v1,c,b⟩:=ek h;split at b
    .obtain⟨z,p,v2,i,j⟩:=ek b;rw[(od j).2.1];exact alD (ih.oper _ _ _ _ _ _ _ i)
    grind [od,alD]
  .intro l k v d x k' v' h;rw[jl] at h;split at h
   .exact ih.B7 _ _ _ _ _ _ h
   .obtain⟨y,e,v1,c,b⟩:=ek h;exact ih.more _ _ _ _ _ _ _ _ (ih.oper _ _ _ _ _ _ _ c) b
  .intro l y k v d x k' v' q h;rw[oT] at h;split at h
   .grind
   .rename_i o m;obtain⟨z,e,v1,c,b⟩:=ek h;refine ih.more _ _ _ _ _ _ _ _ ?_ b;intro _;have hm:=List.mem_of_find?_eq_some m;rw[show(Ex.mk 99 o 0 0 [y,z]).name=o from rfl];rintro rfl;grind [ops]
end P
noncomputable def acf:Code:=match Tryz.f115.body with
 | some (.seq _ (.seq _ (.seq _ (.seq _ (.seq _ (.seq _ c))))))=>c
 | _=>.skip
noncomputable def aD2:Code:=match acf with | .seq (.seq c _) _=>c | _=>.skip
noncomputable def aD3:Code:=match acf with | .seq (.seq _ c) _=>c | _=>.skip
noncomputable def aD4:Code:=match acf with | .seq _ c=>c | _=>.skip
def P.Im(at_:Nat)(x:Ex)(k':Nat)(vars':List Bs):Option (cg Bd):=
 if EE x then O (.err 2 at_)
 else if 0<=jx x.name/\jx x.name≠x.args.length then O (.err 3 at_)
 else O (.ok (.mk 103 x.name x.args []) k' vars')
def P.alF{name:Bs}{a:Int}{args:List Ex}{t:Int}(b:EE (.mk cap name a so args)=ae)(ht:t=jx name) :
  P.Im pb (.mk cap name a so args) k' vars=if 0<=t/\t≠args.length then O (.err 3 pb) else O (.ok (.mk 103 name args []) k' vars):=by
 subst ht;unfold P.Im;rw[bO (by simp [b])];rfl
def aD5{x:Ex}{q:cg Bd}(u1 u2 u3 u6 u7 u8 u9 yO yP yQ wI wJ yR u16 yS yT BY BZ B0 B1 B2 B3 B4 B5 B6 Dz DA DB HW u32 H0 AW ER Gh Gi Mx My u40 u41 u42 u43 u44 u45 u46 u47 u48 u49 u50 u51 u52 u53 u54 u55 u56 u57 u58 u59 u60 u61 u62 u63 u64 u65 u66 u67 u68 u69 u70 u71 u72 u73 u74 u75 u76 u77 u78 u79 u80 u81 u82 u83 u84 u85 u86 u87 u88 u89 u90 u91 u92 u93 u94 u95 u96 u97 u98 u99 aE3 aE4 aE5 aE6 aE7 aE8 aE9 aFa aFb aFc aFd aFe aFf aFg aFh aFi aFj aFk aFl aFm aFn aFo aFp aFq aFr aFs aFt aFu aFv aFw aFx aFy aFz aFA aFB aFC aFD aFE aFF aFG aFH aFI aFJ aFK aFL aFM aFN aFO aFP aFQ aFR aFS aFT aFU aFV aFW aFX aFY aFZ aF0:Y)
  (hp:SP w3 pb tb T so vars (d+1)) (hd:d+1<=8) (hf:dc pb w w3) (gk:pb<w.heap.size) (hb0:w.heap.size<=cap) (jJ:w3.heap[cap]?=aP #[pp pb] 139)
  (hx:eR (Nu w w3) w3 (pp bx) x) (my:P.named x) (hq:P.Im k' x so vars=O q) (K1 K:Act->Z->Prop) (hK:∀ a w',aD4.wp bas (bodyPostD bas Tryz.f115 (jX dM pb tb T d w q)) a w'->K a w') (hK1:∀ a w',aD3.wp bas (Exit.then K (bodyPostD bas Tryz.f115 (jX dM pb tb T d w q))) a w'->K1 a w') :
  aD2.wp bas (Exit.then K1 (Exit.then K (bodyPostD bas Tryz.f115 (jX dM pb tb T d w q)))) { tmps:=#[pp pb,u1,u2,u3,zi k',pp bx,u6,u7,u8,u9,yO,yP,yQ,wI,wJ,yR,u16,yS,yT,BY,BZ,B0,B1,B2,B3,B4,B5,B6,Dz,DA,DB,HW,u32,H0,AW,ER,Gh,Gi,Mx,My,u40,u41,u42,u43,u44,u45,u46,u47,u48,u49,u50,u51,u52,u53,u54,u55,u56,u57,u58,u59,u60,u61,u62,u63,u64,u65,u66,u67,u68,u69,u70,u71,u72,u73,u74,u75,u76,u77,u78,u79,u80,u81,u82,u83,u84,u85,u86,u87,u88,u89,u90,u91,u92,u93,u94,u95,u96,u97,u98,u99,aE3,aE4,aE5,aE6,aE7,aE8,aE9,aFa,aFb,aFc,aFd,aFe,aFf,aFg,aFh,aFi,aFj,aFk,aFl,aFm,aFn,aFo,aFp,aFq,aFr,aFs,aFt,aFu,aFv,aFw,aFx,aFy,aFz,aFA,aFB,aFC,aFD,aFE,aFF,aFG,aFH,aFI,aFJ,aFK,aFL,aFM,aFN,aFO,aFP,aFQ,aFR,aFS,aFT,aFU,aFV,aFW,aFX,aFY,aFZ,aF0],defers:=[R9 cap] } w3:=by
 change ∀ a w',Code.wp _ (Code.seq _ _) _ a w'->_ at hK;change ∀ a w',Code.wp _ (Code.cond _ _ _) _ a w'->_ at hK1;have HP:=a0A hp;have HF:=a0A hf;have Ad:=a0A jJ;have HX:=a0A hx;have HQ:=a0A hq;cases x with
 | mk kind name nn kk args=>
 unfold eR at hx;obtain⟨bx',av,vs,e1,hF,nH,h4,h5⟩:=hx;cases e1;obtain⟨pa,pn,pc,rfl,Cf,-,-⟩:=h4.shape;have hlen:=h5.length;have c0:w3.cell? ⟨bx,0,V⟩=O (.int .u8 kind):=cellOf nH J;have c1:w3.cell? ⟨bx,1,V⟩=O (aW name):=cellOf nH J;have c4:w3.cell? ⟨bx,4,V⟩=O (.slice pa pn pc):=cellOf nH J;have o9:=hF.2;have HA:Hid (lE (Nu w w3) w3 (.slice pa pn pc) args):=a0A ⟨vs,h4,h5⟩;have jT:pn=args.length:=zo;have hl:=bn jJ;clear hF nH h4 h5 hp hf jJ hq Cf hlen;change Code.wp _ (Code.region _ _ _) _ _ _;by_cases hA:kind≠97/\kind≠99
 .have k1:((kind:Int) == 97)=false:=zg;have k2':((kind:Int) == 99)=false:=zg
  go_wp2_with fail
  refine(BV _ _ _ pb HP.out.sb).mono ?_;rintro e2 w5 ⟨⟨b,rfl,eQ,gH⟩,iU,xM⟩;have e:=HQ.out;rw[P.Im,zip (by grind [EE,Ex.kind])] at e;simp only[a0z] at e;subst e;have:=HF.out.size;exact tH gk xM (by grind [dc.bJ,Hid.out]) ⟨b,J,eQ,zo⟩ (HF.out.trans iU)
 .obtain⟨cc,rr,rfl⟩:∃ cc rr,name=cc::rr:=by
   cases name with
   | nil=>exact absurd J (my (by grind [Ex.kind]))
   | cons a l=>grind
  have nA:kind=97\/kind=99:=zo;clear hA my HX;by_cases hB:cc::rr=[46]
  .rw[hB] at c1 HQ;rcases nA with rfl | rfl;all_goals (
    go_wp2_with fail
    refine(BV _ _ _ pb HP.out.sb).mono ?_;rintro e2 w5 ⟨⟨b,rfl,eQ,gH⟩,iU,xM⟩;have e:=HQ.out;rw[P.Im,zip (by simp [EE,Ex.name])] at e;simp only[a0z] at e;subst e;have:=HF.out.size;exact tH gk xM (by grind [dc.bJ,Hid.out]) ⟨b,J,eQ,zo⟩ (HF.out.trans iU))
  by_cases hC:cc::rr=[91,93]
  .rw[hC] at c1 HQ;rcases nA with rfl | rfl;all_goals (
    go_wp2_with fail
    refine(BV _ _ _ pb HP.out.sb).mono ?_;rintro e2 w5 ⟨⟨b,rfl,eQ,gH⟩,iU,xM⟩;have e:=HQ.out;rw[P.Im,zip (by simp [EE,Ex.name])] at e;simp only[a0z] at e;subst e;have:=HF.out.size;exact tH gk xM (by grind [dc.bJ,Hid.out]) ⟨b,J,eQ,zo⟩ (HF.out.trans iU))
  have d1:(cc::rr == ([46]:Bs))=false:=zg;have d2:(cc::rr == ([91,93]:Bs))=false:=zg;rcases nA with rfl | rfl;all_goals (
   go_wp2_with fail
   refine(ak9 cc).mono ?_;rintro e2 w5 ⟨rfl,rfl⟩;by_cases hD:P.cls cc=115
   ·
    rw[hD];have d4:((cc::rr == ([109,111,100]:Bs))=ae)\/cc::rr=[109,111,100]:=by
     by_cases h:cc::rr=[109,111,100]
     .exact .inr h
     .exact zg
    rcases d4 with d4 | d4
    .go_wp2_with fail
     have hM:¬ (cc::rr=[109,111,100]):=by simpa using d4
     refine(MK _).mono ?_;rintro e2 w6 ⟨rfl,rfl⟩;obtain⟨tt,SK⟩:=ck (jx (cc::rr));rw[<- SK];have e:=HQ.out;rw[P.alF (by simp [EE,Ex.name,Ex.kind,Ex.args];simp [hD,hB,hC,hM] at *;simp_all) SK] at e;have HE:=a0A e;clear e SK;by_cases h0:0<=tt
     .by_cases h1:tt=pn
      .have Ai:(tt == (pn:Int))=true:=by simpa using h1
       subst h1
       go_wp2_with fail
       have e:=HE.out;rw[bO (by rintro ⟨_,h⟩;exact h (by rw[jT]))] at e;simp only[a0z] at e;subst e;have iT:Hid (SP w6.drew pb tb T so vars (d+1)):=a0A (HP.out.ext fun b o h=>h);have fQ:Hid (dc pb w w6.drew):=a0A HF.out.drew;have Kg:Hid (w6.drew.heap[cap]?=aP #[pp pb] 139):=a0A Ad.out;have Kh:Hid (lE (Nu w w6.drew) w6.drew (.slice pa pn pc) args):=a0A (lE.mono (F:=Nu w w6) (F':=Nu w w6.drew) (w:=w6) (w':=w6.drew) (fun b hb=>hb) (fun b o _ _ ho=>ho) HA.out);have qu:cap<w6.drew.heap.size:=hl;have hz:=fQ.out.size
       go_still_tail 9,zk
       change wpList _ _ _ _ _ w6.drew;generalize w6.drew=w7 at iT fQ Kg Kh qu hz ⊢;clear HP HF Ad HA hl o9 c0 c1 c4
       go_wp2_with fail
       have Ki:=Kh.out;rw[jT] at Ki;refine yK (j:=2) Gg J gk (iT.out.ext (by grind [dS])) zo (dS Kg.out) ?_ (fQ.out.alloc _);exact DJ (by grind [size_alloc]) (blk_alloc_new _ _) (lE.mono (F:=Nu w w7) (F':=Nu w _) (w:=w7) (by grind [size_alloc]) (by grind [dS]) Ki) Kc
      .have Ai:(tt == (pn:Int))=false:=by simpa using h1
       have h1n:=h1;have h0n:=h0
       go_wp2_with fail
       have e:=HE.out;rw[zip ⟨h0n,by rw[<- jT];exact h1n⟩] at e;simp only[a0z] at e;subst e;refine(BV _ _ _ pb HP.out.sb).mono ?_;rintro e2 w7 ⟨⟨b,rfl,eQ,gH⟩,iU,xM⟩;have:=HF.out.size;exact tH gk xM (by grind [dc.bJ,Hid.out]) ⟨b,J,eQ,zo⟩ (HF.out.trans iU)
     .go_wp2_with fail
      have e:=HE.out;rw[bO (by rintro ⟨h,_⟩;omega)] at e;simp only[a0z] at e;subst e;have iT:Hid (SP w6.drew pb tb T so vars (d+1)):=a0A (HP.out.ext fun b o h=>h);have fQ:Hid (dc pb w w6.drew):=a0A HF.out.drew;have Kg:Hid (w6.drew.heap[cap]?=aP #[pp pb] 139):=a0A Ad.out;have Kh:Hid (lE (Nu w w6.drew) w6.drew (.slice pa pn pc) args):=a0A (lE.mono (F:=Nu w w6) (F':=Nu w w6.drew) (w:=w6) (w':=w6.drew) (fun b hb=>hb) (fun b o _ _ ho=>ho) HA.out);have qu:cap<w6.drew.heap.size:=hl;have hz:=fQ.out.size
      go_still_tail 9,zk
      change wpList _ _ _ _ _ w6.drew;generalize w6.drew=w7 at iT fQ Kg Kh qu hz ⊢;clear HP HF Ad HA hl o9 c0 c1 c4
      go_wp2_with fail
      have Ki:=Kh.out;rw[jT] at Ki;refine yK (j:=2) Gg J gk (iT.out.ext (by grind [dS])) zo (dS Kg.out) ?_ (fQ.out.alloc _);exact DJ (by grind [size_alloc]) (blk_alloc_new _ _) (lE.mono (F:=Nu w w7) (F':=Nu w _) (w:=w7) (by grind [size_alloc]) (by grind [dS]) Ki) Kc
    .rw[d4] at c1 HQ;have d5:(([109,111,100]:Bs) == [109,111,100])=true:=zd;by_cases ff:pn=2
     .have Bc:((pn:Int) == 2)=true:=by simp;omega
      go_wp2_with fail
      have e:=HQ.out;rw[P.Im,zip (by simp [EE,Ex.name,Ex.args];omega)] at e;simp only[a0z] at e;subst e;refine(BV _ _ _ pb HP.out.sb).mono ?_;rintro e2 w7 ⟨⟨b,rfl,eQ,gH⟩,iU,xM⟩;have:=HF.out.size;exact tH gk xM (by grind [dc.bJ,Hid.out]) ⟨b,J,eQ,zo⟩ (HF.out.trans iU)
     .have Bc:((pn:Int) == 2)=false:=by simp;omega
      go_wp2_with fail
      refine(MK _).mono ?_;rintro e2 w6 ⟨rfl,rfl⟩;have SK:jx [109,111,100]=-1:=zd;rw[SK];have e:=HQ.out;rw[P.alF (t:=-1) (by simp [EE,Ex.name,Ex.kind,Ex.args];first | omega | (simp [P.cls];omega) | decide) zd] at e;rw[bO (by rintro ⟨h,_⟩;omega)] at e;simp only[a0z] at e;subst e
      go_wp2_with fail
      have iT:Hid (SP w6.drew pb tb T so vars (d+1)):=a0A (HP.out.ext fun b o h=>h);have fQ:Hid (dc pb w w6.drew):=a0A HF.out.drew;have Kg:Hid (w6.drew.heap[cap]?=aP #[pp pb] 139):=a0A Ad.out;have Kh:Hid (lE (Nu w w6.drew) w6.drew (.slice pa pn pc) args):=a0A (lE.mono (F:=Nu w w6) (F':=Nu w w6.drew) (w:=w6) (w':=w6.drew) (fun b hb=>hb) (fun b o _ _ ho=>ho) HA.out);have qu:cap<w6.drew.heap.size:=hl;have hz:=fQ.out.size
      go_still_tail 9,zk
      change wpList _ _ _ _ _ w6.drew;generalize w6.drew=w7 at iT fQ Kg Kh qu hz ⊢;clear HP HF Ad HA hl o9 c0 c1 c4
      go_wp2_with fail
      have Ki:=Kh.out;rw[jT] at Ki;refine yK (j:=2) Gg J gk (iT.out.ext (by grind [dS])) zo (dS Kg.out) ?_ (fQ.out.alloc _);exact DJ (by grind [size_alloc]) (blk_alloc_new _ _) (lE.mono (F:=Nu w w7) (F':=Nu w _) (w:=w7) (by grind [size_alloc]) (by grind [dS]) Ki) Kc
   .have d3:((P.cls cc:Int) == 115)=false:=by simp;omega
    go_wp2_with fail
    refine(BV _ _ _ pb HP.out.sb).mono ?_;rintro e2 w5 ⟨⟨b,rfl,eQ,gH⟩,iU,xM⟩;have e:=HQ.out;rw[P.Im,zip (by simp [EE,Ex.name,hD])] at e;simp only[a0z] at e;subst e;have:=HF.out.size;exact tH gk xM (by grind [dc.bJ,Hid.out]) ⟨b,J,eQ,zo⟩ (HF.out.trans iU))
def P.alG(T:List P.Tok)(f at_ d:Nat)(x:Ex)(k':Nat)(vars':List Bs):Option (cg Bd):=
 match LY T k' with
 | some c=>cg.bind (jl T f 0 (k'+1) vars' (d+1)) fun y a b=>O (.ok (.mk 103 c [x,y] []) a b)
 | none=>
  if EE x then O (.err 2 at_)
  else if 0<=jx x.name/\jx x.name≠x.args.length then O (.err 3 at_)
  else O (.ok (.mk 103 x.name x.args []) k' vars')
def aF4(hp:SP w pb tb T k vars d)(hc:mP w tb)(hd:d+1<=8)(h1:eD T k [33]=ae)(h2:eD T k [92,43]=ae)
  (h3:eD T k [40]=ae) {r:cg Ex} (hr:jl T f 0 k vars (d+1)=O r) {q:cg Bd} (hq:cg.bind (O r) (fun x k' vars'=>P.alG T f (tk T k).pos d x k' vars')=O q) :
  Calls bas 115 #[pp pb] w (jX dM pb tb T d w q):=by
 have H:=a0A hp;have HC:=a0A hc;have HR:=a0A hr;have HQ:=a0A hq;have H1:=a0A h1;have H2:=a0A h2;have H3:=a0A h3;have HK:=aDW h3;have gk:=hp.d2.2.2;have wO:=hp.lt;clear hp hc hr hq h1 h2 h3
 go_enter_defers func115,ntmps115
 go_wp2_with fail
 refine(zZ H.out hd).mono ?_;rintro e w1 ⟨rfl,dY,je,dF,gm⟩;have lZ:=a0A je;have iA:=a0A gm;have kA:=a0A dF;have nJ:=a0A dY;clear je gm dF dY
 go_wp2_with fail
 refine(qs kA.out [33] H1.out zd).mono ?_;rintro e w2 ⟨rfl,rfl⟩
 go_wp2_with fail
 refine(qs kA.out [92,43] H2.out zd).mono ?_;rintro e w2 ⟨rfl,rfl⟩;have dF:=kA.out;obtain⟨n,c,h0,l1,l2,-,l3,l4⟩:=dF.l0;obtain⟨t0,t1,t2⟩:=dF.toks.at dF.kt;have xH:tb<w1.heap.size:=Nat.lt_trans dF.lt dF.d2.2.2;have B8:=dF.d2.2.2;obtain⟨kd,iS⟩:∃ kd:Int,kd=((tk T k).kind:Int):=⟨_,J⟩;obtain⟨tx,htx⟩:=ck ((tk T k).text);rw[<- iS] at t0;rw[<- htx] at t1;have H5:(tx == [40])=ae\/tx=[40]/\(kd == 4)=false:=by
  grind
 clear dF iS htx HK;rcases H5 with H5 | ⟨rfl,H5⟩;all_goals (
  go_wp2_with fail
  refine((ak8 f).go kA.out zo HR.out).mono ?_;have dY:=nJ.out;cases r with
  | err c0 a0=>
   rintro e2 w4 ⟨⟨b,rfl,eQ,gH⟩,eF,vj⟩;have e:=HQ.out;simp only[cg.bind,a0z] at e;subst e;exact tH gk vj (by grind [dc.bJ,Hid.out]) ⟨b,J,eQ,zo⟩ (iA.out.trans eF)
  | ok x k2 v2=>
  rintro e2 w3 ⟨v,rfl,hv,fZ,dV⟩;obtain⟨bx,rfl,jJ⟩:=hv.shape;have Wu:=a0A hv;have uk:=a0A fZ;have og:=a0A dV;have HC3:=a0A (HC.out.fr (iA.out.trans dV) wO);obtain⟨cf,SL⟩:∃ cf:Nat->Bs,∀ j,cf j=LX.getD j []:=⟨_,fun _=>rfl⟩;have Al:∀ j,j<9->w3.cell? ⟨3,j,V⟩=O (aW (cf j)):=(by grind [mP.cell,Hid.out]);have SM:=a0A SL;have A2:=HC3.out.lt;have aUY:=fZ.d2.2.2;have a0:=Al 0 zd;have a1:=Al 1 zd;have a2:=Al 2 zd;have a3:=Al 3 zd;have a4:=Al 4 zd;have a5:=Al 5 zd;have a6:=Al 6 zd;have a7:=Al 7 zd;have a8:=Al 8 zd;have DE:3<w3.heap.size:=zo;have e:=HQ.out;simp only[cg.bind] at e;unfold P.alG at e;have HE:=a0A e;have Ww:=a0A (dV.bJ lZ.out zo zd);have ET:=dV.size;clear hv fZ dV Al t0 t1 t2 h0 e SL
  go_wp2_with fail
  go_loop [7,66] (fun s i=>∃ j:Nat,j<=9/\i=zi j/\∀ j',j'<j->eD T k2 (cf j')=ae) (fun _ i=>9-(intOf i).toNat)
  case atStart=>exact zg
  case round=>
   obtain⟨j,hj,rfl,lT⟩:=hrel;have ES:=a0A lT;clear lT;by_cases hlt:j<9
   .have hj9:j=0\/j=1\/j=2\/j=3\/j=4\/j=5\/j=6\/j=7\/j=8:=zo;have Mt:(cf j).all P.digit=false:=by rw[SM.out];rcases hj9 with rfl | rfl | rfl | rfl | rfl | rfl | rfl | rfl | rfl<;>decide
    have Pf:eD T k2 (cf j)=A->LY T k2=O (cf j):=fun h=>by
     rw[LY,ZR (j:=j) (by simp [LX];omega) (by rw[<- SM.out];exact h) (fun j' WB=>by rw[<- SM.out];exact ES.out j' WB),<- SM.out]
    have HFI:=a0A Pf;have HSD:=a0A Mt;clear Pf Mt hj;have hix:∀ w,(Instr.index 282 (.agg #[aW (cf 0),aW (cf 1),aW (cf 2),aW (cf 3),aW (cf 4),aW (cf 5),aW (cf 6),aW (cf 7),aW (cf 8)]) (zi j)).run bas w = .ok (aW (cf j)) w:=
     fun w=>aDZ _ _ _ _ _ _ _ _ _ j hlt _ (by rcases hj9 with rfl | rfl | rfl | rfl | rfl | rfl | rfl | rfl | rfl<;>rfl) w
    clear hj9;by_cases qx:eD T k2 (cf j)=A
    ·(
      go_wp2_with fail
      refine(vd uk.out _ qx).mono ?_;rintro e w4 ⟨rfl,jd,eF⟩;have tI:=a0A jd;have tJ:=a0A eF;have AX:=eF.size;clear jd eF a0 a1 a2 a3 a4 a5 a6 a7 a8
      go_wp2_with fail
      have e:=HE.out;rw[HFI.out qx] at e;dsimp only at e;cases hq:jl T f 0 (k2+1) v2 (d+1) with
      | none=>rw[hq] at e;simp [cg.bind] at e
      | some q2=>
      rw[hq] at e;refine((ak8 f).go tI.out zo hq).mono ?_;cases q2 with
      | err c0 a0=>
       rintro e2 w5 ⟨⟨b,rfl,eQ,gH⟩,iU,xM⟩;simp only[cg.bind,a0z] at e;subst e;exact tH gk xM (iU.bJ (by grind [dc.bJ,Hid.out]) zo zd) ⟨b,J,eQ,zo⟩ (by grind [trans,bD.trans,Hid.out])
      | ok y k5 v5=>
      rintro e2 w5 ⟨v,rfl,hv,lG,iU⟩;simp only[cg.bind,a0z] at e;subst e;obtain⟨Gy,rfl,nX⟩:=hv.shape;have hz5:=iU.size;have HV5:=a0A hv;have Wy:=a0A lG;have Pe:=a0A iU;clear hv lG iU nX hq HE
      go_wp2_with fail
      have gR:∀ o o',((w5.alloc o).alloc o').heap.size=w5.heap.size+2:=(by grind [size_alloc]);refine yK (j:=2) Gg J gk (by grind [dS,SP.ext,Hid.out]) zo (by grind [dS,dc.bJ,Hid.out]) ?_
       (by grind [trans,bD.alloc,bD.trans,Hid.out])
      refine DJ zg (by grind [EN,size_alloc]) (abn zg (dS (blk_alloc_new _ _)) ?_ ?_) Kc
      .exact eR.mono zg
        (by grind [dS,dc.lx,Hid.out]) _ _ Wu.out
      .exact eR.mono zg
        (by grind [dS]) _ _ HV5.out)
    ·(
      go_wp2_with fail
      refine(qs uk.out _ (by simpa using qx) HSD.out).mono ?_;rintro e w4 ⟨rfl,rfl⟩;have aF7:=a0A qx;clear qx
      go_wp2_with fail
      refine⟨⟨j+1,zo,zs,fun j' WB=>?_⟩,?_⟩
      .rcases Nat.lt_or_ge j' j with h | h
       .exact ES.out j' h
       .obtain rfl:j'=j:=zo;simpa using aF7.out
      .simp only[intOf];omega)
   .have:j=9:=zo;subst this;have xO:LY T k2=none:=ais fun j' WB=>by rw[<- SM.out];exact ES.out j' WB
    have e:=HE.out;rw[xO] at e;dsimp only at e;have my:=(alE T (fun k hk=>by
     rcases Nat.lt_or_ge k T.length with h | h
     .obtain⟨c,r,e1,_⟩:=H.out.tw.words _ (JP h) hk;rw[e1];simp
     .rw[show tk T k=tk T T.length by simp [tk,List.getD_eq_getElem?_getD,List.getElem?_eq_none h]] at hk;simp [tk] at hk) f).oper _ _ _ _ _ _ _ HR.out
    have wX:eR (Nu w w3) w3 (pp bx) x:=eR.mono (F:=Nu w1 w3) zg zg _ _ Wu.out;have hle:P.Im (tk T k).pos x k2 v2=O q:=e;have HVV:=a0A wX;have HLE:=a0A hle;have HNM:=a0A my;clear wX hle my e HE xO a0 a1 a2 a3 a4 a5 a6 a7 a8
    go_upto_region 19 with(fail)
    exact aD5 _ _ _ _ _ _ _ _ _ _ _ _ _ _ _ _ _ _ _ _ _ _ _ _ _ _ _ _ _ _ _ _ _ _ _ _ _ _ _ _ _ _ _ _ _ _ _ _ _ _ _ _ _ _ _ _ _ _ _ _ _ _ _ _ _ _ _ _ _ _ _ _ _ _ _ _ _ _ _ _ _ _ _ _ _ _ _ _ _ _ _ _ _ _ _ _ _ _ _ _ _ _ _ _ _ _ _ _ _ _ _ _ _ _ _ _ _ _ _ _ _ _ _ _ _ _ _ _ _ _ _ _ _ _ _ _ _ _ _ _ _ _ _ _ _ _ _ _ _ _ _ _ _ _ _ _ _ uk.out hd (iA.out.trans og.out) gk zo Ww.out HVV.out HNM.out HLE.out _ _ (by assumption) (by assumption))
theorem aGb(m:Pa f)(n:Kb f):Pa (f+1):=⟨by
 intro pb tb T k vars d w q b e o a;by_cases c:d+1<=8
 .rw[mL,bO (by grind [P.maxDepth])] at a;by_cases g:eD T k [33]=A
  .rw[zip g] at a;simp only[a0z] at a;subst a;exact aDU b c g
  rw[bO g] at a;have h:eD T k [33]=false:=zg;by_cases i:eD T k [92,43]=A
  .rw[zip i] at a;cases hr:mL T f (k+1) vars (d+1) with
   | none=>rw[hr] at a;simp [cg.bind] at a
   | some r=>rw[hr] at a;exact aDV m b e c h i hr a
  rw[bO i] at a;have l:eD T k [92,43]=false:=zg;by_cases j:eD T k [40]=A
  .rw[zip j] at a;cases hr:lM T f (k+1) vars (d+1) with
   | none=>rw[hr] at a;simp [cg.bind] at a
   | some r=>rw[hr] at a;exact aDX n b e c h l j hr a
  rw[bO j] at a;have p:eD T k [40]=false:=zg;cases hr:jl T f 0 k vars (d+1) with
  | none=>rw[hr] at a;simp [cg.bind] at a
  | some r=>rw[hr] at a;exact aF4 b e c h l p hr a
 .rw[mL,zip (by grind [P.maxDepth])] at a;simp only[a0z] at a;subst a;exact aDT b zo o⟩
def aGc(f:Nat):Pa f/\Pb f/\Kb f:=by
 induction f using Nat.strongRecOn with
 | ind f ih=>
  cases f with
  | zero=>exact⟨⟨fun _ _ _ h=>by simp [mL] at h⟩,alr,aDR⟩
  | succ f=>
   have a:=ih f (Nat.lt_succ_self _);grind [aDB,aGb,aDS]
def alI(f:Nat):Kb f:=(aGc f).2.2
