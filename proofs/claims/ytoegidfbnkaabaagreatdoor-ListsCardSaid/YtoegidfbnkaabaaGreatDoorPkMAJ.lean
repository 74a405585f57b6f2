/- A part of one proof (SBody, SBody2, SLit, SLit2, SIdxArr, PureN, SLitEnd, SLit3, SJoin). -/
import Derived.Test.YtoegidfbnkaabaaGreatDoorPkMAI
import Derived.StillTailTactics
import Derived.Deep.Cut
set_option linter.all false
set_option maxRecDepth 100000
set_option maxHeartbeats 8000000
open Option renaming some → O, none → V
open Go renaming Value → Y, World → Z
open Bool renaming true → G, false → ae
open Go.Obj renaming cells → ah
open Option.some renaming injEq → a3I
open Go.Lib renaming hid → a3J
open Go.Value renaming slice → a3Y, ownBlock → a4w
open Go.Obj renaming cells → a4p
open Array renaming getElem?_eq_getElem → a5q
open Go.Proofs.Tryz renaming prog → bdH
open Go.Proofs.Tryz
namespace Go.Proofs.YtoegidfbnkaabaaGreatDoor
open P
open Go.RowKit
variable{T:List P.Tok}{W w w0 w2 w3:Z}{av tv vv:Y}{bx d f g k k' n pb so tb told:Nat}{vars:List Bs}
def P.isArrow(x:Bd):Prop:=x.kind=63/\x.parts.length=2
instance (x:Bd):Decidable (P.isArrow x):=by unfold P.isArrow;infer_instance
def P.Qz(T:List P.Tok)(f a:Nat)(v1:List Bs)(d:Nat)(x:Bd):Option (cr Bd):=
 if P.isArrow x then
  if ee T a [59] then cr.bind (qF T f (a+1) v1 d) fun c e v3=>O (.ok (.mk 63 [] [] (x.parts++[c])) e v3)
  else O (.ok (.mk 63 [] [] (x.parts++[As])) a v1)
 else if ee T a [59] then cr.bind (qF T f (a+1) v1 d) fun b g v2=>O (.ok (.mk 59 [] [] [x,b]) g v2) else O (.ok x a v1)
def P.am2{x:Bd}(h:P.whole x):¬ P.isArrow x:=by
 cases x with
 | mk kind name args parts=>
  rintro ⟨a,b⟩;have:=h a;grind [Bd.parts]
def P.aFi(T:List P.Tok)(f k:Nat)(vars:List Bs)(d:Nat) :
  mX T (f+1) k vars d=cr.bind (P.T5 T f k vars d) fun x b v1=>P.Qz T f b v1 d x:=by
 rw[mX,P.T5];cases g:ow T f k vars d with
 | none=>rfl
 | some q=>
  cases q with
  | err c a=>rfl
  | ok x b v1=>
   have hw:=P.am2 ((adI T f).row _ _ _ _ _ _ g);by_cases e:ee T b [45,62]=G
   .simp only[cr.bind,zip e];cases h:ow T f (b+1) v1 d with
    | none=>rfl
    | some q=>
     cases q with
     | err c a=>rfl
     | ok y i v2=>
      have:P.isArrow (Bd.mk 63 [] [] [x,y]):=⟨J,J⟩;simp only[P.Qz,zip this];rfl
   .simp only[cr.bind,bU e,P.Qz,bU hw]
def am3{a b c:Bd}(D:Nu w0 W n)(E:Nu w0 W g)(l:n≠g)(F:w0.heap.size<=W.heap.size)(H:pb<w0.heap.size)
  (p:W.heap[n]?=aO #[.int .u8 63,aW [],bW,cS g 2 2] 149)
  (q:dL (fun m=>Nu w0 W m/\m≠n/\m≠g) W tv a) (r:dL (fun m=>Nu w0 W m/\m≠n/\m≠g) W vv b) (s:dL (fun m=>Nu w0 W m/\m≠n/\m≠g) W av c)
  (f:w2.ownsRow w0.heap.size 84 1 (cS k' (2+1) so) (2+1) ([tv,vv]++[av])) (i:(W.alloc (ah #[av] 84)).grownBy w2 (a3Y (O ⟨g,0,V⟩) 2 2).ownBlock)
  (t:(a3Y (O ⟨k',0,V⟩) (2+1) so).ownBlock=(a3Y (O ⟨g,0,V⟩) 2 2).ownBlock\/∀ k,(a3Y (O ⟨k',0,V⟩) (2+1) so).ownBlock=O k->(W.alloc (ah #[av] 84)).heap.size<=k) :
  (∃ cs:Array Y,w2.heap[n]?=aO cs 149/\cs.size=4)/\W.heap.size<w2.heap.size/\(∀ (m:Nat) (o:Obj),m≠n->m≠g->W.heap[m]?=O o->(w2.setCell ⟨n,3,V⟩ (cS k' (2+1) so)).heap[m]?=O o) /\
   dL (Nu w0 w2) (w2.setCell ⟨n,3,V⟩ (cS k' (2+1) so)) (pp n) (.mk 63 [] [] [a,b,c]):=by
 have u:=i.size;rw[size_alloc] at u;have w:∀ (m:Nat) (o:Obj),m≠g->W.heap[m]?=O o->w2.heap[m]?=O o:=fun m o y z=>by
  have j:=dT (o:=a4p #[av] 84) z;rw[i.block m (bn j) (fun e=>y (by simp only[a4w] at e;injection e))];exact j
 have A:=w n _ l p;have I:∀ (m:Nat) (o:Obj),m≠n->w2.heap[m]?=O o->(w2.setCell ⟨n,3,V⟩ (cS k' (2+1) so)).heap[m]?=O o:=(by grind [blk_setCell_other]);have B:k'≠n:=by
  rcases t with h | h
  .grind [a4w]
  .have:=h k' J;grind [size_alloc]
 refine⟨zg,zo,zg,?_⟩;have C:fO (fun m=>Nu w0 w2 m/\m≠n) w2 84 (cS k' (2+1) so) ([tv,vv]++[av]):=Fy f fun m hm=>⟨f.lt m hm,by grind [a4w]⟩;have d:∀ {v:Y} {x:Bd},dL (fun m=>Nu w0 W m/\m≠n/\m≠g) W v x->dL (Nu w0 w2) (w2.setCell ⟨n,3,V⟩ (cS k' (2+1) so)) v x:=fun h=>
  dL.mono zg zg _ _ h
 refine Eh zg (by rw[Bm A];rfl) Jb ⟨_,C.mono zg zg,?_⟩;unfold gD;refine⟨tv,[vv,av],J,d q,?_⟩;unfold gD;refine⟨vv,[av],J,d r,?_⟩;unfold gD;exact⟨av,[],J,d s,by unfold gD;rfl⟩
def aFj(eT:Qy f)(KY:∀ m,m<f->KW m){r:cr Bd}(pH:SP w0 pb tb T k vars d)(nX:nk w0 tb)(hd:d<=8)
  (h:mX T (f+1) k vars d=O r):Calls bdH 53 #[pp pb] w0 (j6 dL pb tb T d w0 r):=by
 rw[P.aFi] at h;have T4:=a3J pH;have Jc:=a3J nX;have HR:=a3J h;have xY:=pH.d2.2.2;have xi:=pH.lt;obtain⟨i0,hi,KK,KL,KM⟩:=info_parts amY;clear pH h nX
 go_enter_defers func53,ntmps53
 go_wp2_with fail
 cases hq:P.T5 T f k vars d with
 | none=>have e:=HR.out;rw[hq] at e;simp [cr.bind] at e
 | some q=>
 have e:=HR.out;rw[hq] at e;refine(aFg eT T4.out Jc.out hd hq).mono ?_;cases q with
 | err c0 a0=>
  rintro e2 w4 ⟨⟨b,rfl,eO,gF⟩,dV,gO⟩;simp only[cr.bind,a3I] at e;subst e;exact⟨⟨b,J,eO,gF⟩,dV,gO⟩
 | ok x k1 v1=>
 rintro e2 w1 ⟨v,rfl,hv,dC,gn⟩;simp only[cr.bind] at e;have oZ:=gn.size;have kH:=a3J dC;have iz:=a3J gn;have jZ:=dC.d2.2.2;clear dC gn hq HR;rcases hv with⟨hw,nZ⟩| ⟨a,b,n,g,va,vb,rfl,rfl,hn,hg,X1,ye,CN,ha,hb⟩
 .rw[P.Qz,bU (P.am2 hw)] at e;have HE:=a3J e;have HV:=a3J nZ;cases x with
  | mk kind name args parts=>
  unfold dL at nZ;obtain⟨n,av,pv,vs,us,rfl,hn,ye,h4,h5,h6,h7⟩:=nZ;obtain⟨pa,pn,pc,rfl,CT,-,-⟩:=h6.shape;have hlen:=h7.length;have c0:w1.cell? ⟨n,0,V⟩=O (.int .u8 kind):=cellOf ye J;have c3:w1.cell? ⟨n,3,V⟩=O (.slice pa pn pc):=cellOf ye J;have yf:n<w1.heap.size:=hn.2;have nW:kind=63/\pn=3\/((kind:Int) == 63)=false:=by
   by_cases hk:kind=63
   .exact .inl ⟨hk,by have:=hw hk;omega⟩
   grind
  clear h4 h5 h6 h7 hw ye hn e hlen CT;rcases nW with⟨rfl,rfl⟩| Cs;all_goals (
   by_cases hs:ee T k1 [59]=G
   .go_wp2_with fail
    refine(vA kH.out [59] hs).mono ?_;rintro e w2 ⟨rfl,fi,eY⟩;have iU:=a3J fi;have fR:=a3J eY;have pY:=eY.size;clear fi eY c0 c3
    go_wp2_with fail
    have e:=HE.out;rw[zip hs] at e;cases f with
    | zero=>simp [qF,cr.bind] at e
    | succ f=>
    rw[qF] at e;by_cases o9:P.maxDepth<d+1
    .rw[zip o9] at e;simp only[cr.bind,a3I] at e;subst e;refine(XE iU.out o9 zo).mono ?_;rintro e w3 ⟨⟨b,rfl,eO,gF⟩,dV,gO⟩;exact⟨⟨b,J,eO,zo⟩,(iz.out.trans fR.out).trans dV,gO⟩
    rw[bU o9] at e;have Br:d+1<=8:=by unfold P.maxDepth at o9;omega
    refine(AE iU.out Br).mono ?_;rintro e2 w3 ⟨rfl,gO,CU,gL,dV⟩;have X3:=a3J CU;have oE:=a3J dV;have uK:=a3J gL;have G7:=a3J e;have T6:=a3J gO;clear CU dV gL e hs gO o9
    go_wp2_with fail
    have e:=G7.out;cases hq:mX T f (k1+1) v1 (d+1) with
    | none=>rw[hq] at e;simp [cr.bind] at e
    | some q=>
    rw[hq] at e;refine((KY f zo).go uK.out (Jc.out.fr ((iz.out.trans fR.out).trans oE.out) xi) zo hq).mono ?_;have gO:=T6.out;cases q with
    | err c0 a0=>
     rintro e2 w4 ⟨⟨b,rfl,eO,gF⟩,eA,vF⟩;simp only[cr.bind,a3I] at e;subst e;exact tZ xY vF (by grind [db.bL,Hid.out]) ⟨b,J,eO,zo⟩ (by grind [trans,bD.trans,Hid.out])
    | ok y k2 v2=>
    rintro e2 w4 ⟨v,rfl,hv,j7,eA⟩;simp only[cr.bind,a3I] at e;subst e;obtain⟨Hj,rfl,ox⟩:=hv.shape;have Bx:=eA.size;have NK:=a3J hv;have ud:=a3J j7;have ue:=a3J eA;clear hv j7 eA ox hq HE G7 gO
    go_wp2_with fail
    have gO:=T6.out;have gY:∀ o o',((w4.alloc o).alloc o').heap.size=w4.heap.size+2:=(by grind [size_alloc]);refine yY (j:=2) G3 J xY (by grind [dT,SP.ext,Hid.out]) zo (by grind [dT,db.bL,Hid.out]) ?_
     (by grind [trans,bD.alloc,bD.trans,Hid.out])
    refine Eh zg (by grind [Fx,size_alloc]) Jb (aFa zg (dT (blk_alloc_new _ _)) ?_ ?_)
    .exact dL.mono zg
      (by grind [dT,db.lL,Hid.out]) _ _ HV.out
    .exact dL.mono zg
      (by grind [dT]) _ _ NK.out
   .go_wp2_with fail
    refine(qK kH.out [59] (by simpa using hs) zd).mono ?_;rintro e w2 ⟨rfl,rfl⟩
    go_wp2_with fail
    have e:=HE.out;rw[bU hs,a3I] at e;subst e;exact⟨_,results_tmp J _ _ _,pp _,J,HV.out,kH.out,iz.out⟩)
 .have HE:=a3J e;have c0:w1.cell? ⟨n,0,V⟩=O (.int .u8 63):=cellOf ye J;have c3:w1.cell? ⟨n,3,V⟩=O (cS g 2 2):=cellOf ye J;have yf:n<w1.heap.size:=hn.2;have hn0:w0.heap.size<=n:=hn.1;have BC:g<w1.heap.size:=hg.2;have x7:w0.heap.size<=g:=hg.1;have hF:=(P.Qz T f k1 v1 d (.mk 63 [] [] [a,b]));have lu:P.isArrow (Bd.mk 63 [] [] [a,b]):=⟨J,J⟩;rw[P.Qz,zip lu] at e;have HEB:=a3J e;have am4:=a3J ye;have am5:=a3J CN;have HA1:=a3J ha;have HB1:=a3J hb;clear ye CN ha hb hn hg e HE lu hF;generalize hfo:(a4p #[.int .u8 103,aW [102,97,105,108],bW,bW] 149)=fo;have HPF:=a3J (kH.out.ext (w':=w1.alloc fo) fun b o h=>dT h);have X4:Hid (db pb w0 (w1.alloc fo)):=a3J (iz.out.alloc _);have HNF:Hid ((w1.alloc fo).heap[n]?=_):=a3J (dT am4.out);have HGF:Hid ((w1.alloc fo).heap[g]?=_):=a3J (dT am5.out);have aFn:Hid (w0.heap.size<=(w1.alloc fo).heap.size):=(by grind [a3J,size_alloc]);subst hfo;by_cases hs:ee T k1 [59]=G
  .go_wp2_with fail
   refine(vA HPF.out [59] hs).mono ?_;rintro e w2 ⟨rfl,fi,eY⟩;have iU:=a3J fi;have fR:=a3J eY;have pY:=eY.size;rw[size_alloc] at pY;clear fi eY c0 c3
   go_wp2_with fail
   have e:=HEB.out;rw[zip hs] at e;cases f with
   | zero=>simp [qF,cr.bind] at e
   | succ f=>
   rw[qF] at e;by_cases o9:P.maxDepth<d+1
   .rw[zip o9] at e;simp only[cr.bind,a3I] at e;subst e;refine(XE iU.out o9 zo).mono ?_;rintro e w3 ⟨⟨b,rfl,eO,gF⟩,dV,gO⟩;exact⟨⟨b,J,eO,zo⟩,(X4.out.trans fR.out).trans dV,gO⟩
   rw[bU o9] at e;have Br:d+1<=8:=by grind [P.maxDepth]
   refine(AE iU.out Br).mono ?_;rintro e2 w3 ⟨rfl,gO,CU,gL,dV⟩;have X3:=a3J CU;have oE:=a3J dV;have uK:=a3J gL;have G7:=a3J e;have T6:=a3J gO;clear CU dV gL e hs gO o9
   go_wp2_with fail
   have e:=G7.out;cases hq:mX T f (k1+1) v1 (d+1) with
   | none=>rw[hq] at e;simp [cr.bind] at e
   | some q=>
   rw[hq] at e;refine((KY f zo).go uK.out (Jc.out.fr ((X4.out.trans fR.out).trans oE.out) xi) zo hq).mono ?_;have gO:=T6.out;cases q with
   | err c0 a0=>
    rintro e2 w4 ⟨⟨b,rfl,eO,gF⟩,eA,vF⟩;simp only[cr.bind,a3I] at e;subst e;exact tZ xY vF (by grind [db.bL,Hid.out]) ⟨b,J,eO,zo⟩ (by grind [trans,bD.trans,Hid.out])
   | ok y k2 v2=>
   rintro e2 w5 ⟨v,rfl,hv,oF,iV⟩;simp only[cr.bind,a3I] at e;subst e;obtain⟨Hj,rfl,ox⟩:=hv.shape;have hz5:=iV.size;have HV5:=a3J hv;have X5:=a3J oF;have QA:=a3J iV;have HK5:Hid (∀ (m:Nat) (cs:Array Y) (t:TypeId) (z:Nat×Nat),m<w1.heap.size->m≠pb->t≠9->w1.heap[m]?=O (ah cs t z)->w5.heap[m]?=O (ah cs t z)):=
    (by grind [a3J,db.bL,dT,Hid.out])
   have HXS:Hid (w5.heap[w2.heap.size]?=_):=a3J (db.bL iV X3.out zo zd);have aFo:Hid (w0.heap.size<=w5.heap.size):=zg;have HN:Hid (Nu w0 w5 n):=zg;have HG:Hid (Nu w0 w5 g):=zg;have HN5:Hid (w5.heap[n]?=_):=a3J (HK5.out _ _ _ _ yf zo zd am4.out);have HG5:Hid (w5.heap[g]?=_):=a3J (HK5.out _ _ _ _ BC zo zd am5.out);have gY:∀ {v:Y} {x:Bd},dL (fun m=>Nu w0 w1 m/\m≠n/\m≠g) w1 v x->dL (fun m=>Nu w0 w5 m/\m≠n/\m≠g) w5 v x:=fun h=>
    dL.mono zg (by grind [db.lL,dT,Hid.out]) _ _ h
   have HA:=a3J (gY HA1.out);have HB:=a3J (gY HB1.out);have HCC:Hid (dL (fun m=>Nu w0 w5 m/\m≠n/\m≠g) w5 (pp Hj) y):=
    a3J (dL.mono zg zg _ _ hv)
   have vD:Hid ((w5.alloc (ah #[pp Hj] 84)).ownsRow w0.heap.size 84 1 (cS g 2 2) 2 [va,vb]):=
    a3J ⟨J,.inr ⟨g,2,_,J,x7,dT HG5.out,Nat.le_refl _,zd,J,J⟩⟩
   have HSZ:Hid (w0.heap.size<=(w5.alloc (ah #[pp Hj] 84)).heap.size):=(by grind [a3J,size_alloc]);have c0:w5.cell? ⟨n,0,V⟩=O (.int .u8 63):=cellOf HN5.out J;have c3:w5.cell? ⟨n,3,V⟩=O (cS g 2 2):=cellOf HN5.out J;have aXn:n<w5.heap.size:=zo;clear hv oF iV ox hq HEB G7 gO gY
   go_wp2_with (at_builtin;go_must (refine S2 J _ _ 147 J w0.heap.size 84 i0 _ 1 8 underlying147 hi KK KL KM J zd _ _ _ J vD.out ⟨w5.heap.size,0,V⟩ 1 1 [pp Hj] J J (P3 J) (by simp [Value.oneCell']) (by unfold maxLen;omega) zo (by have:=HSZ.out;omega) ?_;intro v' w9 th zc Bz;obtain⟨g2,Ha,rfl⟩:=Nb th;obtain⟨⟨cs9,Hk,anb⟩,aFq,T8,T9⟩:=am3 HN.out HG.out X1 aFo.out xY HN5.out HA.out HB.out HCC.out th zc Bz;have c9:w9.cell? ⟨n,3,V⟩=O (cs9[3]' zo):=cellOf Hk (by simp [a5q,anb]);have f9:=jV Hk 3;have l9:=bn Hk;have uJ:=a3J zc;have G6:=a3J th;have HK9:=a3J T8;have adP:=a3J T9;have aFs:=a3J Hk;clear th zc Bz T8 T9 Hk))
   have gO:=T6.out;have X6:SP w9 pb tb T k2 v2 (d+1):=(X5.out.ext fun b o h=>dT (o:=a4p #[Value.pointer (O ⟨Hj,0,V⟩)] 84) h).Qk vD.out zg xY uJ.out;have CX:db pb w0 w9:=(((((X4.out.trans fR.out).trans oE.out).trans QA.out)).alloc _).Ql uJ.out fun k hk=>(vD.out.lt k hk).1;refine yY (j:=2) G3 J xY (by grind [SP.setOther,Hid.out]) zo (by grind [Hid.out]) ?_ (by grind [bD.Na]);exact dL.mono (by grind [size_setCell]) zg _ _ adP.out
  .have HN:Hid (Nu w0 (w1.alloc (ah #[.int .u8 103,aW [102,97,105,108],bW,bW] 149)) n):=zg;have HG:Hid (Nu w0 (w1.alloc (ah #[.int .u8 103,aW [102,97,105,108],bW,bW] 149)) g):=zg;have HA:Hid (dL (fun m=>Nu w0 (w1.alloc (ah #[.int .u8 103,aW [102,97,105,108],bW,bW] 149)) m/\m≠n/\m≠g) (w1.alloc (ah #[.int .u8 103,aW [102,97,105,108],bW,bW] 149)) va a):=
    a3J (dL.mono (by grind [size_alloc]) (by grind [dT]) _ _ HA1.out)
   have HB:Hid (dL (fun m=>Nu w0 (w1.alloc (ah #[.int .u8 103,aW [102,97,105,108],bW,bW] 149)) m/\m≠n/\m≠g) (w1.alloc (ah #[.int .u8 103,aW [102,97,105,108],bW,bW] 149)) vb b):=
    a3J (dL.mono (by grind [size_alloc]) (by grind [dT]) _ _ HB1.out)
   have HCC:Hid (dL (fun m=>Nu w0 (w1.alloc (ah #[.int .u8 103,aW [102,97,105,108],bW,bW] 149)) m/\m≠n/\m≠g) (w1.alloc (ah #[.int .u8 103,aW [102,97,105,108],bW,bW] 149)) (pp w1.heap.size) As):=
    a3J (Eh (by grind [size_alloc]) (blk_alloc_new _ _) Jb KX)
   have HCN:=HNF;have vD:Hid (((w1.alloc (ah #[.int .u8 103,aW [102,97,105,108],bW,bW] 149)).alloc (ah #[pp w1.heap.size] 84)).ownsRow w0.heap.size 84 1 (cS g 2 2) 2 [va,vb]):=
    a3J ⟨J,.inr ⟨g,2,_,J,x7,dT HGF.out,Nat.le_refl _,zd,J,J⟩⟩
   have HSZ:Hid (w0.heap.size<=((w1.alloc (ah #[.int .u8 103,aW [102,97,105,108],bW,bW] 149)).alloc (ah #[pp w1.heap.size] 84)).heap.size):=(by grind [a3J,size_alloc])
   go_wp2_with fail
   refine(qK HPF.out [59] zg zd).mono ?_;rintro e w2 ⟨rfl,rfl⟩
   go_wp2_with (at_builtin;go_must (refine S2 J _ _ 147 J w0.heap.size 84 i0 _ 1 8 underlying147 hi KK KL KM J zo _ _ _ J vD.out ⟨w1.heap.size+1,0,V⟩ 1 1 [pp w1.heap.size] J J (by grind [P3,size_alloc]) (by simp [Value.oneCell']) (by grind [maxLen]) zo (by have:=HSZ.out;omega) ?_;intro v' w9 th zc Bz;obtain⟨g2,Ha,rfl⟩:=Nb th;obtain⟨⟨cs9,Hk,anb⟩,aFq,T8,T9⟩:=am3 HN.out HG.out X1 aFn.out xY HCN.out HA.out HB.out HCC.out th zc Bz;have c9:w9.cell? ⟨n,3,V⟩=O (cs9[3]' zo):=(by grind [cellOf,a5q]);have f9:=jV Hk 3;have l9:=bn Hk;have uJ:=a3J zc;have G6:=a3J th;have HK9:=a3J T8;have adP:=a3J T9;have aFs:=a3J Hk;clear th zc Bz T8 T9 Hk))
   have e:=HEB.out;rw[bU hs,a3I] at e;subst e;have X6:SP w9 pb tb T k1 v1 d:=(HPF.out.ext fun b o h=>dT (o:=a4p #[Value.pointer (O ⟨w1.heap.size,0,V⟩)] 84) h).Qk vD.out zg xY uJ.out;have CX:db pb w0 w9:=(X4.out.alloc _).Ql uJ.out fun k hk=>(vD.out.lt k hk).1;refine⟨_,results_tmp J _ _ _,pp n,J,?_,(by grind [SP.setOther,Hid.out]),(by grind [bD.Na])⟩;exact dL.mono (by grind [size_setCell]) zg _ _ adP.out
def aFu:KW 0:=⟨fun _ _ _ h=>by simp [mX] at h⟩
theorem aFv(a:Qy f)(b:∀ m,m<f->KW m):KW (f+1):=⟨fun c d e h=>aFj a b c d e h⟩
def aFw(hp:SP w pb tb T k vars d)(hd:8<d+1)(xV:d<=8) :
  Calls bdH 115 #[pp pb] w (j6 dL pb tb T d w (.err 4 (tk T k).pos)):=by
 have H:=a3J hp;clear hp
 go_enter_defers func115,ntmps115
 go_wp2_with fail
 refine(XE H.out hd zo).mono ?_;rintro e w1 ⟨⟨b,rfl,hb⟩,hf,hs⟩;exact⟨⟨b,J,hb⟩,hf,hs⟩
def aFx(hp:SP w pb tb T k vars d)(hd:d+1<=8)(h1:ee T k [33]=G) :
  Calls bdH 115 #[pp pb] w (j6 dL pb tb T d w (.ok (.mk 33 [] [] []) (k+1) vars)):=by
 have H:=a3J hp;have gj:=hp.d2.2.2;clear hp
 go_enter_defers func115,ntmps115
 go_wp2_with fail
 refine(AE H.out hd).mono ?_;rintro e w1 ⟨rfl,dZ,jb,dC,gn⟩;have mz:=a3J jb;have iz:=a3J gn;have kH:=a3J dC;have nY:=a3J dZ;clear jb gn dC dZ
 go_wp2_with fail
 refine(vA kH.out [33] h1).mono ?_;rintro e w2 ⟨rfl,fi,eY⟩;have iU:=a3J fi;have fR:=a3J eY;clear fi eY h1
 go_wp2_with fail
 have dZ:=nY.out;have pY:=fR.out.size;refine yY (j:=2) G3 J gj (iU.out.ext (by grind [dT])) zo (by grind [dT,db.bL,Hid.out]) ?_ ((iz.out.trans fR.out).alloc _);exact Eh (by grind [size_alloc]) (blk_alloc_new _ _) Jb KX
def aFy(NZ:Qx f)(hp:SP w pb tb T k vars d)(hc:nk w tb)(hd:d+1<=8)(h1:ee T k [33]=ae)(h2:ee T k [92,43]=G)
  {r:cr Bd} (hr:nU T f (k+1) vars (d+1)=O r) {q:cr Bd} (hq:cr.bind (O r) (fun b k' vars'=>O (.ok (Bd.mk 126 [] [] [b]) k' vars'))=O q) :
  Calls bdH 115 #[pp pb] w (j6 dL pb tb T d w q):=by
 have H:=a3J hp;have HC:=a3J hc;have HR:=a3J hr;have HQ:=a3J hq;have H1:=a3J h1;have H2:=a3J h2;have gj:=hp.d2.2.2;have xi:=hp.lt;clear hp hc hr hq h1 h2
 go_enter_defers func115,ntmps115
 go_wp2_with fail
 refine(AE H.out hd).mono ?_;rintro e w1 ⟨rfl,dZ,jb,dC,gn⟩;have mz:=a3J jb;have iz:=a3J gn;have kH:=a3J dC;have nY:=a3J dZ;clear jb gn dC dZ
 go_wp2_with fail
 refine(qK kH.out [33] H1.out zd).mono ?_;rintro e w2 ⟨rfl,rfl⟩
 go_wp2_with fail
 refine(vA kH.out [92,43] H2.out).mono ?_;rintro e w3 ⟨rfl,gL,dV⟩;have uK:=a3J gL;have oE:=a3J dV;clear gL dV
 go_wp2_with fail
 refine(NZ.go uK.out (HC.out.fr (iz.out.trans oE.out) xi) zo HR.out).mono ?_;have dZ:=nY.out;have BA:=oE.out.size;have e:=HQ.out;cases r with
 | err c0 a0=>
  rintro e2 w4 ⟨⟨b,rfl,eO,gF⟩,eA,vF⟩;simp only[cr.bind,a3I] at e;subst e;exact tZ gj vF (by grind [db.bL,Hid.out]) ⟨b,J,eO,zo⟩ ((iz.out.trans oE.out).trans eA)
 | ok y k2 v2=>
 rintro e2 w4 ⟨v,rfl,hv,j7,eA⟩;simp only[cr.bind,a3I] at e;subst e;obtain⟨Hj,rfl,ox⟩:=hv.shape;have Bx:=eA.size;have NK:=a3J hv;have ud:=a3J j7;have ue:=a3J eA;clear hv j7 eA ox dZ HQ
 go_wp2_with fail
 have dZ:=nY.out;have gY:∀ o o',((w4.alloc o).alloc o').heap.size=w4.heap.size+2:=(by grind [size_alloc]);refine yY (j:=2) G3 J gj (by grind [dT,SP.ext,Hid.out]) zo (by grind [dT,db.bL,Hid.out]) ?_
  (by grind [trans,bD.alloc,bD.trans,Hid.out])
 refine Eh zg (by grind [Fx,size_alloc]) Jb (aE9 zg (dT (blk_alloc_new _ _)) ?_);exact dL.mono zg (by grind [dT]) _ _ NK.out
def TW.paren(h:TW T)(hk:k<T.length)(hi:ee T k [40]=G):(tk T k).kind=4/\(tk T k).text=[40]:=by
 unfold ee at hi;simp only[Bool.and_eq_true,Bool.or_eq_true,beq_iff_eq] at hi;obtain⟨a,b⟩:=hi;refine⟨?_,b⟩;rcases a with a | a
 .omega
 .obtain⟨c,r,d,e⟩:=h.words _ (KC hk) a;rw[b] at d;cases d;exact absurd e zd
def aFz(hi:ee T k [40]=ae):(tk T k).kind≠4\/(tk T k).text≠[40]:=by
 grind [ee,tk]
def aFA(KY:KW f)(hp:SP w pb tb T k vars d)(hc:nk w tb)(hd:d+1<=8)(h1:ee T k [33]=ae)(h2:ee T k [92,43]=ae)
  (h3:ee T k [40]=G)
  {r:cr Bd} (hr:mX T f (k+1) vars (d+1)=O r) {q:cr Bd} (hq:cr.bind (O r) (fun b k' vars'=>mW T [41] b k' vars')=O q) :
  Calls bdH 115 #[pp pb] w (j6 dL pb tb T d w q):=by
 have H:=a3J hp;have HC:=a3J hc;have HR:=a3J hr;have HQ:=a3J hq;have H1:=a3J h1;have H2:=a3J h2;have H3:=a3J h3;have HK:=a3J (hp.tw.paren hp.kt h3);have gj:=hp.d2.2.2;have xi:=hp.lt;clear hp hc hr hq h1 h2 h3
 go_enter_defers func115,ntmps115
 go_wp2_with fail
 refine(AE H.out hd).mono ?_;rintro e w1 ⟨rfl,dZ,jb,dC,gn⟩;have mz:=a3J jb;have iz:=a3J gn;have kH:=a3J dC;have nY:=a3J dZ;clear jb gn dC dZ
 go_wp2_with fail
 refine(qK kH.out [33] H1.out zd).mono ?_;rintro e w2 ⟨rfl,rfl⟩
 go_wp2_with fail
 refine(qK kH.out [92,43] H2.out zd).mono ?_;rintro e w2 ⟨rfl,rfl⟩;have dC:=kH.out;obtain⟨n,c,h0,f0,hb,l1,l2,l3,l4,fi,eY⟩:=dC.on (by have:=HK.out;omega);obtain⟨t0,t1,t2⟩:=dC.toks.at dC.kt;have xW:tb<w1.heap.size:=zo;have ef:¬ tb=pb:=zo;have Tz:¬ pb=tb:=zo;have iU:=a3J fi;have fR:=a3J eY;rw[HK.out.1] at t0;rw[HK.out.2] at t1;clear dC fi eY t2
 go_wp2_with fail
 refine(KY.go iU.out (HC.out.fr (iz.out.trans fR.out) xi) zo HR.out).mono ?_;have dZ:=nY.out;have pY:=fR.out.size;have e:=HQ.out;have rS:((G2 w1 pb tb k n c)).heap[w.heap.size]?=_:=fR.out.bL mz.out zo zd;cases r with
 | err c0 a0=>
  rintro e2 w4 ⟨⟨b,rfl,eO,gF⟩,eA,vF⟩;simp only[cr.bind,a3I] at e;subst e;exact tZ gj vF (by grind [db.bL]) ⟨b,J,eO,zo⟩ ((iz.out.trans fR.out).trans eA)
 | ok y k2 v2=>
 rintro e2 w4 ⟨v,rfl,hv,j7,eA⟩;simp only[cr.bind] at e;obtain⟨Hj,rfl,ox⟩:=hv.shape;have Bx:=eA.size;have NK:=a3J hv;have ud:=a3J j7;have ue:=a3J ((iz.out.trans fR.out).trans eA);have HX4:=a3J (eA.bL rS zo zd);have HE:=a3J e;have HBY:=a3J ox;clear hv j7 eA ox HQ rS h0 f0 t0 t1 e;have aXp:w.heap.size+1<=w4.heap.size:=zo;have adQ:w.heap.size+1<=(G2 w1 pb tb k n c).heap.size:=zo;have aFB:=a3J adQ;clear dZ pY Bx adQ
 go_wp2_with fail
 have e:=HE.out;unfold mW at e;by_cases hm:ee T k2 [41]=G
 .rw[zip hm,a3I] at e;subst e;refine(Tw ud.out [41] hm).mono ?_;rintro e w5 ⟨rfl,oF,iV⟩;have X5:=a3J oF;have QA:=a3J iV;clear oF iV hm HE
  go_wp2_with fail
  have hz5:=QA.out.size;have adQ:=aFB.out;refine yY (j:=2) G3 J gj X5.out zo (by grind [db.bL,Hid.out]) ?_ (ue.out.trans QA.out);exact G3 _ _ _ _ _ _ _ NK.out QA.out zg
 .rw[bU hm,a3I] at e;subst e;refine(Tx ud.out [41] zg zd).mono ?_;rintro e w5 ⟨⟨b,rfl,eO,gF⟩,iV,x8⟩;exact tZ gj x8 (by grind [db.bL,Hid.out]) ⟨b,J,eO,zo⟩ (ue.out.trans iV)
def aFC(a b c d e f g h i:Bs)(j:Nat)(hj:j<9)(v:Y)(hv:(#[Value.string (bs a),aW b,aW c,aW d,aW e,aW f,aW g,aW h,aW i]:Array Y)[j]?=O v)(w:Z) :
  (Instr.index 282 (.agg #[Value.string (bs a),aW b,aW c,aW d,aW e,aW f,aW g,aW h,aW i]) (zi j)).run bdH w = .ok v w:=by
 have e1:(sizeOf 9).run bdH w = .ok 1 w:=by simp [go_sem,sizeOf9,isAgg9]
 have e2:(isAgg 9).run bdH w = .ok ae w:=by simp [go_sem,sizeOf9,isAgg9]
 simp [Instr.index,run_underlying underlying282,asIntOf,hj,go_sem,e1,e2];grind
namespace P
def named(x:Ex):Prop:=x.kind=97\/x.kind=99->x.name≠[]
theorem aFD{t:Tok}{v v':List Bs}{x:Ex}(h:Aq t k v = .ok x k' v'):named x:=by
 grind [Aq,named,Ex.kind]
theorem anc{all:List Ex}{x:Ex}(hx:named x):named (Ar all x):=by
 cases all with
 | nil=>exact hx
 | cons a l=>simp [Ar,named,Ex.name]
structure aFE(T:List Tok)(f:Nat):Prop where
 CF:∀ k v d x k' v',oU T f k v d=O (.ok x k' v')->named x
 list:∀ k v d x k' v',qD T f k v d=O (.ok x k' v')->named x
 oper:∀ l k v d x k' v',jf T f l k v d=O (.ok x k' v')->named x
 more:∀ l y k v d x k' v',named y->pE T f l y k v d=O (.ok x k' v')->named x
def ane(T:List Tok)(g:∀ k,(tk T k).kind=1->(tk T k).text≠[]):∀ f,aFE T f
 | 0=>⟨by simp_all [oU],by simp_all [qD],by simp_all [jf],by simp_all [pE]⟩
 | f+1=>by
  have ih:=ane T g f;refine⟨?_,?_,?_,?_⟩
  .intro k v d x k' v' h;rw[oU] at h;split at h
   .grind
   split at h
   .grind [a3I,cr.ok.injEq,named,Ex.kind]
   split at h
   .grind [a3I,aFD]
   split at h
   .rename_i hk;split at h
    .obtain⟨a,e,v1,c,b⟩:=eo h;rw[(oC b).2.1];exact fun _=>g k hk
    .simp only[a3I,cr.ok.injEq] at h;rw[<- h.1];exact fun _=>g k hk
   split at h
   .grind [a3I,cr.ok.injEq,named,Ex.kind]
   split at h
   .obtain⟨a,e,v1,c,b⟩:=eo h;rw[(oC b).2.1];exact ih.oper _ _ _ _ _ _ _ c
   split at h
   .exact ih.list _ _ _ _ _ _ h
   grind
  .intro k v d x k' v' h;rw[qD] at h;have n:named (.mk 97 [91,93] 0 0 []):=by simp [named,Ex.name]
   split at h
   .grind
   .obtain⟨y,e,v1,c,b⟩:=eo h;split at b
    .obtain⟨z,p,v2,i,j⟩:=eo b;rw[(oC j).2.1];exact anc (ih.oper _ _ _ _ _ _ _ i)
    grind [oC,anc]
  .intro l k v d x k' v' h;rw[jf] at h;split at h
   .exact ih.CF _ _ _ _ _ _ h
   .obtain⟨y,e,v1,c,b⟩:=eo h;exact ih.more _ _ _ _ _ _ _ _ (ih.oper _ _ _ _ _ _ _ c) b
  .intro l y k v d x k' v' q h;rw[pE] at h;split at h
   .grind
   .rename_i o m;obtain⟨z,e,v1,c,b⟩:=eo h;refine ih.more _ _ _ _ _ _ _ _ ?_ b;intro _;have hm:=List.mem_of_find?_eq_some m;rw[show(Ex.mk 99 o 0 0 [y,z]).name=o from rfl];rintro rfl;grind [ops]
end P
noncomputable def adR:Code:=match Tryz.f115.body with
 | some (.seq _ (.seq _ (.seq _ (.seq _ (.seq _ (.seq _ c))))))=>c
 | _=>.skip
noncomputable def aFF:Code:=match adR with | .seq (.seq c _) _=>c | _=>.skip
noncomputable def aFG:Code:=match adR with | .seq (.seq _ c) _=>c | _=>.skip
noncomputable def aFH:Code:=match adR with | .seq _ c=>c | _=>.skip
def P.Je(at_:Nat)(x:Ex)(k':Nat)(vars':List Bs):Option (cr Bd):=
 if Fj x then O (.err 2 at_)
 else if 0<=jx x.name/\jx x.name≠x.args.length then O (.err 3 at_)
 else O (.ok (.mk 103 x.name x.args []) k' vars')
def P.anf{name:Bs}{a:Int}{args:List Ex}{t:Int}(b:Fj (.mk so name a told args)=ae)(ht:t=jx name) :
  P.Je pb (.mk so name a told args) k' vars=if 0<=t/\t≠args.length then O (.err 3 pb) else O (.ok (.mk 103 name args []) k' vars):=by
 subst ht;unfold P.Je;rw[bU (by simp [b])];rfl
def aFI{x:Ex}{q:cr Bd}(u1 u2 u3 u6 u7 u8 u9 y3 y5 y6 xe xf y7 u16 y8 y9 Cv Cw Cx Cy Cz CB CC CD CE D8 D9 Ea IV u32 IW Bw FA G4 G5 ND NF u40 u41 u42 u43 u44 u45 u46 u47 u48 u49 u50 u51 u52 u53 u54 u55 u56 u57 u58 u59 u60 u61 u62 u63 u64 u65 u66 u67 u68 u69 u70 u71 u72 u73 u74 u75 u76 u77 u78 u79 u80 u81 u82 u83 u84 u85 u86 u87 u88 u89 u90 u91 u92 u93 u94 u95 u96 u97 u98 u99 aGG aGH aGI aGJ aGK aGL aGM aGN aGO aGP aGQ aGR aGS aGT aGU aGV aGW aGX aGY aGZ aG0 aG1 aG2 aG3 aG4 aG5 aG6 aG7 aG8 aG9 aHa aHb aHc aHd aHe aHf aHg aHh aHi aHj aHk aHl aHm aHn aHo aHp aHq aHr aHs aHt aHu aHv aHw aHx aHy aHz aHA aHB aHC aHD:Y)
  (hp:SP w3 pb tb T told vars (d+1)) (hd:d+1<=8) (hf:db pb w w3) (gj:pb<w.heap.size) (hb0:w.heap.size<=k') (jM:w3.heap[k']?=aO #[pp pb] 139)
  (hx:eQ (Nu w w3) w3 (pp bx) x) (mY:P.named x) (hq:P.Je so x told vars=O q) (K1 K:Act->Z->Prop) (hK:∀ a w',aFH.wp bdH (bodyPostD bdH Tryz.f115 (j6 dL pb tb T d w q)) a w'->K a w') (hK1:∀ a w',aFG.wp bdH (Exit.then K (bodyPostD bdH Tryz.f115 (j6 dL pb tb T d w q))) a w'->K1 a w') :
  aFF.wp bdH (Exit.then K1 (Exit.then K (bodyPostD bdH Tryz.f115 (j6 dL pb tb T d w q)))) { tmps:=#[pp pb,u1,u2,u3,zi so,pp bx,u6,u7,u8,u9,y3,y5,y6,xe,xf,y7,u16,y8,y9,Cv,Cw,Cx,Cy,Cz,CB,CC,CD,CE,D8,D9,Ea,IV,u32,IW,Bw,FA,G4,G5,ND,NF,u40,u41,u42,u43,u44,u45,u46,u47,u48,u49,u50,u51,u52,u53,u54,u55,u56,u57,u58,u59,u60,u61,u62,u63,u64,u65,u66,u67,u68,u69,u70,u71,u72,u73,u74,u75,u76,u77,u78,u79,u80,u81,u82,u83,u84,u85,u86,u87,u88,u89,u90,u91,u92,u93,u94,u95,u96,u97,u98,u99,aGG,aGH,aGI,aGJ,aGK,aGL,aGM,aGN,aGO,aGP,aGQ,aGR,aGS,aGT,aGU,aGV,aGW,aGX,aGY,aGZ,aG0,aG1,aG2,aG3,aG4,aG5,aG6,aG7,aG8,aG9,aHa,aHb,aHc,aHd,aHe,aHf,aHg,aHh,aHi,aHj,aHk,aHl,aHm,aHn,aHo,aHp,aHq,aHr,aHs,aHt,aHu,aHv,aHw,aHx,aHy,aHz,aHA,aHB,aHC,aHD],defers:=[TC k'] } w3:=by
 change ∀ a w',Code.wp _ (Code.seq _ _) _ a w'->_ at hK;change ∀ a w',Code.wp _ (Code.cond _ _ _) _ a w'->_ at hK1;have HP:=a3J hp;have HF:=a3J hf;have AH:=a3J jM;have HX:=a3J hx;have HQ:=a3J hq;cases x with
 | mk kind name nn kk args=>
 unfold eQ at hx;obtain⟨bx',av,vs,e1,hF,nE,h4,h5⟩:=hx;cases e1;obtain⟨pa,pn,pc,rfl,CT,-,-⟩:=h4.shape;have hlen:=h5.length;have c0:w3.cell? ⟨bx,0,V⟩=O (.int .u8 kind):=cellOf nE J;have c1:w3.cell? ⟨bx,1,V⟩=O (aW name):=cellOf nE J;have c4:w3.cell? ⟨bx,4,V⟩=O (.slice pa pn pc):=cellOf nE J;have pJ:=hF.2;have HA:Hid (lV (Nu w w3) w3 (.slice pa pn pc) args):=a3J ⟨vs,h4,h5⟩;have j3:pn=args.length:=zo;have hl:=bn jM;clear hF nE h4 h5 hp hf jM hq CT hlen;change Code.wp _ (Code.region _ _ _) _ _ _;by_cases hA:kind≠97/\kind≠99
 .have k1:((kind:Int) == 97)=false:=zg;have k2':((kind:Int) == 99)=false:=zg
  go_wp2_with fail
  refine(Cr _ _ _ pb HP.out.sb).mono ?_;rintro e2 w5 ⟨⟨b,rfl,eO,gF⟩,iV,x8⟩;have e:=HQ.out;rw[P.Je,zip (by grind [Fj,Ex.kind])] at e;simp only[a3I] at e;subst e;have:=HF.out.size;exact tZ gj x8 (by grind [db.bL,Hid.out]) ⟨b,J,eO,zo⟩ (HF.out.trans iV)
 .obtain⟨cc,rr,rfl⟩:∃ cc rr,name=cc::rr:=by
   cases name with
   | nil=>exact absurd J (mY (by grind [Ex.kind]))
   | cons a l=>grind
  have nW:kind=97\/kind=99:=zo;clear hA mY HX;by_cases hB:cc::rr=[46]
  .rw[hB] at c1 HQ;rcases nW with rfl | rfl;all_goals (
    go_wp2_with fail
    refine(Cr _ _ _ pb HP.out.sb).mono ?_;rintro e2 w5 ⟨⟨b,rfl,eO,gF⟩,iV,x8⟩;have e:=HQ.out;rw[P.Je,zip (by simp [Fj,Ex.name])] at e;simp only[a3I] at e;subst e;have:=HF.out.size;exact tZ gj x8 (by grind [db.bL,Hid.out]) ⟨b,J,eO,zo⟩ (HF.out.trans iV))
  by_cases hC:cc::rr=[91,93]
  .rw[hC] at c1 HQ;rcases nW with rfl | rfl;all_goals (
    go_wp2_with fail
    refine(Cr _ _ _ pb HP.out.sb).mono ?_;rintro e2 w5 ⟨⟨b,rfl,eO,gF⟩,iV,x8⟩;have e:=HQ.out;rw[P.Je,zip (by simp [Fj,Ex.name])] at e;simp only[a3I] at e;subst e;have:=HF.out.size;exact tZ gj x8 (by grind [db.bL,Hid.out]) ⟨b,J,eO,zo⟩ (HF.out.trans iV))
  have d1:(cc::rr == ([46]:Bs))=false:=zg;have d2:(cc::rr == ([91,93]:Bs))=false:=zg;rcases nW with rfl | rfl;all_goals (
   go_wp2_with fail
   refine(amJ cc).mono ?_;rintro e2 w5 ⟨rfl,rfl⟩;by_cases hD:P.cls cc=115
   ·
    rw[hD];have d4:((cc::rr == ([109,111,100]:Bs))=ae)\/cc::rr=[109,111,100]:=by
     by_cases h:cc::rr=[109,111,100]
     .exact .inr h
     .exact zg
    rcases d4 with d4 | d4
    .go_wp2_with fail
     have hM:¬ (cc::rr=[109,111,100]):=by simpa using d4
     refine(NR _).mono ?_;rintro e2 w6 ⟨rfl,rfl⟩;obtain⟨tt,Ub⟩:=cj (jx (cc::rr));rw[<- Ub];have e:=HQ.out;rw[P.anf (by simp [Fj,Ex.name,Ex.kind,Ex.args];simp [hD,hB,hC,hM] at *;simp_all) Ub] at e;have HE:=a3J e;clear e Ub;by_cases h0:0<=tt
     .by_cases h1:tt=pn
      .have AN:(tt == (pn:Int))=true:=by simpa using h1
       subst h1
       go_wp2_with fail
       have e:=HE.out;rw[bU (by rintro ⟨_,h⟩;exact h (by rw[j3]))] at e;simp only[a3I] at e;subst e;have iU:Hid (SP w6.drew pb tb T told vars (d+1)):=a3J (HP.out.ext fun b o h=>h);have fR:Hid (db pb w w6.drew):=a3J HF.out.drew;have K0:Hid (w6.drew.heap[k']?=aO #[pp pb] 139):=a3J AH.out;have K2:Hid (lV (Nu w w6.drew) w6.drew (.slice pa pn pc) args):=a3J (lV.mono (F:=Nu w w6) (F':=Nu w w6.drew) (w:=w6) (w':=w6.drew) (fun b hb=>hb) (fun b o _ _ ho=>ho) HA.out);have qM:k'<w6.drew.heap.size:=hl;have hz:=fR.out.size
       go_still_tail 9,zk
       change wpList _ _ _ _ _ w6.drew;generalize w6.drew=w7 at iU fR K0 K2 qM hz ⊢;clear HP HF AH HA hl pJ c0 c1 c4
       go_wp2_with fail
       have K3:=K2.out;rw[j3] at K3;refine yY (j:=2) G3 J gj (iU.out.ext (by grind [dT])) zo (dT K0.out) ?_ (fR.out.alloc _);exact Eh (by grind [size_alloc]) (blk_alloc_new _ _) (lV.mono (F:=Nu w w7) (F':=Nu w _) (w:=w7) (by grind [size_alloc]) (by grind [dT]) K3) KX
      .have AN:(tt == (pn:Int))=false:=by simpa using h1
       have h1n:=h1;have h0n:=h0
       go_wp2_with fail
       have e:=HE.out;rw[zip ⟨h0n,by rw[<- j3];exact h1n⟩] at e;simp only[a3I] at e;subst e;refine(Cr _ _ _ pb HP.out.sb).mono ?_;rintro e2 w7 ⟨⟨b,rfl,eO,gF⟩,iV,x8⟩;have:=HF.out.size;exact tZ gj x8 (by grind [db.bL,Hid.out]) ⟨b,J,eO,zo⟩ (HF.out.trans iV)
     .go_wp2_with fail
      have e:=HE.out;rw[bU (by rintro ⟨h,_⟩;omega)] at e;simp only[a3I] at e;subst e;have iU:Hid (SP w6.drew pb tb T told vars (d+1)):=a3J (HP.out.ext fun b o h=>h);have fR:Hid (db pb w w6.drew):=a3J HF.out.drew;have K0:Hid (w6.drew.heap[k']?=aO #[pp pb] 139):=a3J AH.out;have K2:Hid (lV (Nu w w6.drew) w6.drew (.slice pa pn pc) args):=a3J (lV.mono (F:=Nu w w6) (F':=Nu w w6.drew) (w:=w6) (w':=w6.drew) (fun b hb=>hb) (fun b o _ _ ho=>ho) HA.out);have qM:k'<w6.drew.heap.size:=hl;have hz:=fR.out.size
      go_still_tail 9,zk
      change wpList _ _ _ _ _ w6.drew;generalize w6.drew=w7 at iU fR K0 K2 qM hz ⊢;clear HP HF AH HA hl pJ c0 c1 c4
      go_wp2_with fail
      have K3:=K2.out;rw[j3] at K3;refine yY (j:=2) G3 J gj (iU.out.ext (by grind [dT])) zo (dT K0.out) ?_ (fR.out.alloc _);exact Eh (by grind [size_alloc]) (blk_alloc_new _ _) (lV.mono (F:=Nu w w7) (F':=Nu w _) (w:=w7) (by grind [size_alloc]) (by grind [dT]) K3) KX
    .rw[d4] at c1 HQ;have d5:(([109,111,100]:Bs) == [109,111,100])=true:=zd;by_cases fi:pn=2
     .have BK:((pn:Int) == 2)=true:=by simp;omega
      go_wp2_with fail
      have e:=HQ.out;rw[P.Je,zip (by simp [Fj,Ex.name,Ex.args];omega)] at e;simp only[a3I] at e;subst e;refine(Cr _ _ _ pb HP.out.sb).mono ?_;rintro e2 w7 ⟨⟨b,rfl,eO,gF⟩,iV,x8⟩;have:=HF.out.size;exact tZ gj x8 (by grind [db.bL,Hid.out]) ⟨b,J,eO,zo⟩ (HF.out.trans iV)
     .have BK:((pn:Int) == 2)=false:=by simp;omega
      go_wp2_with fail
      refine(NR _).mono ?_;rintro e2 w6 ⟨rfl,rfl⟩;have Ub:jx [109,111,100]=-1:=zd;rw[Ub];have e:=HQ.out;rw[P.anf (t:=-1) (by simp [Fj,Ex.name,Ex.kind,Ex.args];first | omega | (simp [P.cls];omega) | decide) zd] at e;rw[bU (by rintro ⟨h,_⟩;omega)] at e;simp only[a3I] at e;subst e
      go_wp2_with fail
      have iU:Hid (SP w6.drew pb tb T told vars (d+1)):=a3J (HP.out.ext fun b o h=>h);have fR:Hid (db pb w w6.drew):=a3J HF.out.drew;have K0:Hid (w6.drew.heap[k']?=aO #[pp pb] 139):=a3J AH.out;have K2:Hid (lV (Nu w w6.drew) w6.drew (.slice pa pn pc) args):=a3J (lV.mono (F:=Nu w w6) (F':=Nu w w6.drew) (w:=w6) (w':=w6.drew) (fun b hb=>hb) (fun b o _ _ ho=>ho) HA.out);have qM:k'<w6.drew.heap.size:=hl;have hz:=fR.out.size
      go_still_tail 9,zk
      change wpList _ _ _ _ _ w6.drew;generalize w6.drew=w7 at iU fR K0 K2 qM hz ⊢;clear HP HF AH HA hl pJ c0 c1 c4
      go_wp2_with fail
      have K3:=K2.out;rw[j3] at K3;refine yY (j:=2) G3 J gj (iU.out.ext (by grind [dT])) zo (dT K0.out) ?_ (fR.out.alloc _);exact Eh (by grind [size_alloc]) (blk_alloc_new _ _) (lV.mono (F:=Nu w w7) (F':=Nu w _) (w:=w7) (by grind [size_alloc]) (by grind [dT]) K3) KX
   .have d3:((P.cls cc:Int) == 115)=false:=by simp;omega
    go_wp2_with fail
    refine(Cr _ _ _ pb HP.out.sb).mono ?_;rintro e2 w5 ⟨⟨b,rfl,eO,gF⟩,iV,x8⟩;have e:=HQ.out;rw[P.Je,zip (by simp [Fj,Ex.name,hD])] at e;simp only[a3I] at e;subst e;have:=HF.out.size;exact tZ gj x8 (by grind [db.bL,Hid.out]) ⟨b,J,eO,zo⟩ (HF.out.trans iV))
def P.ang(T:List P.Tok)(f at_ d:Nat)(x:Ex)(k':Nat)(vars':List Bs):Option (cr Bd):=
 match M8 T k' with
 | some c=>cr.bind (jf T f 0 (k'+1) vars' (d+1)) fun y a b=>O (.ok (.mk 103 c [x,y] []) a b)
 | none=>
  if Fj x then O (.err 2 at_)
  else if 0<=jx x.name/\jx x.name≠x.args.length then O (.err 3 at_)
  else O (.ok (.mk 103 x.name x.args []) k' vars')
def aHH(hp:SP w pb tb T k vars d)(hc:nk w tb)(hd:d+1<=8)(h1:ee T k [33]=ae)(h2:ee T k [92,43]=ae)
  (h3:ee T k [40]=ae) {r:cr Ex} (hr:jf T f 0 k vars (d+1)=O r) {q:cr Bd} (hq:cr.bind (O r) (fun x k' vars'=>P.ang T f (tk T k).pos d x k' vars')=O q) :
  Calls bdH 115 #[pp pb] w (j6 dL pb tb T d w q):=by
 have H:=a3J hp;have HC:=a3J hc;have HR:=a3J hr;have HQ:=a3J hq;have H1:=a3J h1;have H2:=a3J h2;have H3:=a3J h3;have HK:=aFz h3;have gj:=hp.d2.2.2;have xi:=hp.lt;clear hp hc hr hq h1 h2 h3
 go_enter_defers func115,ntmps115
 go_wp2_with fail
 refine(AE H.out hd).mono ?_;rintro e w1 ⟨rfl,dZ,jb,dC,gn⟩;have mz:=a3J jb;have iz:=a3J gn;have kH:=a3J dC;have nY:=a3J dZ;clear jb gn dC dZ
 go_wp2_with fail
 refine(qK kH.out [33] H1.out zd).mono ?_;rintro e w2 ⟨rfl,rfl⟩
 go_wp2_with fail
 refine(qK kH.out [92,43] H2.out zd).mono ?_;rintro e w2 ⟨rfl,rfl⟩;have dC:=kH.out;obtain⟨n,c,h0,l1,l2,-,l3,l4⟩:=dC.l0;obtain⟨t0,t1,t2⟩:=dC.toks.at dC.kt;have xW:tb<w1.heap.size:=Nat.lt_trans dC.lt dC.d2.2.2;have CH:=dC.d2.2.2;obtain⟨kd,iT⟩:∃ kd:Int,kd=((tk T k).kind:Int):=⟨_,J⟩;obtain⟨tx,htx⟩:=cj ((tk T k).text);rw[<- iT] at t0;rw[<- htx] at t1;have IY:(tx == [40])=ae\/tx=[40]/\(kd == 4)=false:=by
  grind
 clear dC iT htx HK;rcases IY with IY | ⟨rfl,IY⟩;all_goals (
  go_wp2_with fail
  refine((amI f).go kH.out zo HR.out).mono ?_;have dZ:=nY.out;cases r with
  | err c0 a0=>
   rintro e2 w4 ⟨⟨b,rfl,eO,gF⟩,eA,vF⟩;have e:=HQ.out;simp only[cr.bind,a3I] at e;subst e;exact tZ gj vF (by grind [db.bL,Hid.out]) ⟨b,J,eO,zo⟩ (iz.out.trans eA)
  | ok x k2 v2=>
  rintro e2 w3 ⟨v,rfl,hv,gL,dV⟩;obtain⟨bx,rfl,jM⟩:=hv.shape;have X0:=a3J hv;have uK:=a3J gL;have oE:=a3J dV;have HC3:=a3J (HC.out.fr (iz.out.trans dV) xi);obtain⟨cf,Uc⟩:∃ cf:Nat->Bs,∀ j,cf j=M7.getD j []:=⟨_,fun _=>rfl⟩;have AQ:∀ j,j<9->w3.cell? ⟨3,j,V⟩=O (aW (cf j)):=(by grind [nk.cell,Hid.out]);have Ud:=a3J Uc;have BC:=HC3.out.lt;have aXs:=gL.d2.2.2;have a0:=AQ 0 zd;have a1:=AQ 1 zd;have a2:=AQ 2 zd;have a3:=AQ 3 zd;have a4:=AQ 4 zd;have a5:=AQ 5 zd;have a6:=AQ 6 zd;have a7:=AQ 7 zd;have a8:=AQ 8 zd;have Ec:3<w3.heap.size:=zo;have e:=HQ.out;simp only[cr.bind] at e;unfold P.ang at e;have HE:=a3J e;have X3:=a3J (dV.bL mz.out zo zd);have BA:=dV.size;clear hv gL dV AQ t0 t1 t2 h0 e Uc
  go_wp2_with fail
  go_loop [7,66] (fun s i=>∃ j:Nat,j<=9/\i=zi j/\∀ j',j'<j->ee T k2 (cf j')=ae) (fun _ i=>9-(intOf i).toNat)
  case atStart=>exact zg
  case round=>
   obtain⟨j,hj,rfl,mn⟩:=hrel;have FB:=a3J mn;clear mn;by_cases hlt:j<9
   .have hj9:j=0\/j=1\/j=2\/j=3\/j=4\/j=5\/j=6\/j=7\/j=8:=zo;have Nz:(cf j).all P.digit=false:=by rw[Ud.out];rcases hj9 with rfl | rfl | rfl | rfl | rfl | rfl | rfl | rfl | rfl<;>decide
    have QB:ee T k2 (cf j)=G->M8 T k2=O (cf j):=fun h=>by
     rw[M8,abo (j:=j) (by simp [M7];omega) (by rw[<- Ud.out];exact h) (fun j' X8=>by rw[<- Ud.out];exact FB.out j' X8),<- Ud.out]
    have HFI:=a3J QB;have HSD:=a3J Nz;clear QB Nz hj;have hix:∀ w,(Instr.index 282 (.agg #[aW (cf 0),aW (cf 1),aW (cf 2),aW (cf 3),aW (cf 4),aW (cf 5),aW (cf 6),aW (cf 7),aW (cf 8)]) (zi j)).run bdH w = .ok (aW (cf j)) w:=
     fun w=>aFC _ _ _ _ _ _ _ _ _ j hlt _ (by rcases hj9 with rfl | rfl | rfl | rfl | rfl | rfl | rfl | rfl | rfl<;>rfl) w
    clear hj9;by_cases qN:ee T k2 (cf j)=G
    ·(
      go_wp2_with fail
      refine(vA uK.out _ qN).mono ?_;rintro e w4 ⟨rfl,j7,eA⟩;have ud:=a3J j7;have ue:=a3J eA;have Bx:=eA.size;clear j7 eA a0 a1 a2 a3 a4 a5 a6 a7 a8
      go_wp2_with fail
      have e:=HE.out;rw[HFI.out qN] at e;dsimp only at e;cases hq:jf T f 0 (k2+1) v2 (d+1) with
      | none=>rw[hq] at e;simp [cr.bind] at e
      | some q2=>
      rw[hq] at e;refine((amI f).go ud.out zo hq).mono ?_;cases q2 with
      | err c0 a0=>
       rintro e2 w5 ⟨⟨b,rfl,eO,gF⟩,iV,x8⟩;simp only[cr.bind,a3I] at e;subst e;exact tZ gj x8 (iV.bL (by grind [db.bL,Hid.out]) zo zd) ⟨b,J,eO,zo⟩ (by grind [trans,bD.trans,Hid.out])
      | ok y k5 v5=>
      rintro e2 w5 ⟨v,rfl,hv,oF,iV⟩;simp only[cr.bind,a3I] at e;subst e;obtain⟨Hj,rfl,ox⟩:=hv.shape;have hz5:=iV.size;have HV5:=a3J hv;have X5:=a3J oF;have QA:=a3J iV;clear hv oF iV ox hq HE
      go_wp2_with fail
      have gY:∀ o o',((w5.alloc o).alloc o').heap.size=w5.heap.size+2:=(by grind [size_alloc]);refine yY (j:=2) G3 J gj (by grind [dT,SP.ext,Hid.out]) zo (by grind [dT,db.bL,Hid.out]) ?_
       (by grind [trans,bD.alloc,bD.trans,Hid.out])
      refine Eh zg (by grind [Fx,size_alloc]) (ac1 zg (dT (blk_alloc_new _ _)) ?_ ?_) KX
      .exact eQ.mono zg
        (by grind [dT,db.lL,Hid.out]) _ _ X0.out
      .exact eQ.mono zg
        (by grind [dT]) _ _ HV5.out)
    ·(
      go_wp2_with fail
      refine(qK uK.out _ (by simpa using qN) HSD.out).mono ?_;rintro e w4 ⟨rfl,rfl⟩;have aHK:=a3J qN;clear qN
      go_wp2_with fail
      refine⟨⟨j+1,zo,zs,fun j' X8=>?_⟩,?_⟩
      .rcases Nat.lt_or_ge j' j with h | h
       .exact FB.out j' h
       .obtain rfl:j'=j:=zo;simpa using aHK.out
      .simp only[intOf];omega)
   .have:j=9:=zo;subst this;have yd:M8 T k2=none:=aj2 fun j' X8=>by rw[<- Ud.out];exact FB.out j' X8
    have e:=HE.out;rw[yd] at e;dsimp only at e;have mY:=(ane T (fun k hk=>by
     rcases Nat.lt_or_ge k T.length with h | h
     .obtain⟨c,r,e1,_⟩:=H.out.tw.words _ (KC h) hk;rw[e1];simp
     .rw[show tk T k=tk T T.length by simp [tk,List.getD_eq_getElem?_getD,List.getElem?_eq_none h]] at hk;simp [tk] at hk) f).oper _ _ _ _ _ _ _ HR.out
    have xm:eQ (Nu w w3) w3 (pp bx) x:=eQ.mono (F:=Nu w1 w3) zg zg _ _ X0.out;have hle:P.Je (tk T k).pos x k2 v2=O q:=e;have HVV:=a3J xm;have HLE:=a3J hle;have HNM:=a3J mY;clear xm hle mY e HE yd a0 a1 a2 a3 a4 a5 a6 a7 a8
    go_upto_region 19 with(fail)
    exact aFI _ _ _ _ _ _ _ _ _ _ _ _ _ _ _ _ _ _ _ _ _ _ _ _ _ _ _ _ _ _ _ _ _ _ _ _ _ _ _ _ _ _ _ _ _ _ _ _ _ _ _ _ _ _ _ _ _ _ _ _ _ _ _ _ _ _ _ _ _ _ _ _ _ _ _ _ _ _ _ _ _ _ _ _ _ _ _ _ _ _ _ _ _ _ _ _ _ _ _ _ _ _ _ _ _ _ _ _ _ _ _ _ _ _ _ _ _ _ _ _ _ _ _ _ _ _ _ _ _ _ _ _ _ _ _ _ _ _ _ _ _ _ _ _ _ _ _ _ _ _ _ _ _ _ _ _ _ uK.out hd (iz.out.trans oE.out) gj zo X3.out HVV.out HNM.out HLE.out _ _ (by assumption) (by assumption))
theorem aHO(m:Qx f)(n:KW f):Qx (f+1):=⟨by
 intro pb tb T k vars d w q b e o a;by_cases c:d+1<=8
 .rw[nU,bU (by grind [P.maxDepth])] at a;by_cases g:ee T k [33]=G
  .rw[zip g] at a;simp only[a3I] at a;subst a;exact aFx b c g
  rw[bU g] at a;have h:ee T k [33]=false:=zg;by_cases i:ee T k [92,43]=G
  .rw[zip i] at a;cases hr:nU T f (k+1) vars (d+1) with
   | none=>rw[hr] at a;simp [cr.bind] at a
   | some r=>rw[hr] at a;exact aFy m b e c h i hr a
  rw[bU i] at a;have l:ee T k [92,43]=false:=zg;by_cases j:ee T k [40]=G
  .rw[zip j] at a;cases hr:mX T f (k+1) vars (d+1) with
   | none=>rw[hr] at a;simp [cr.bind] at a
   | some r=>rw[hr] at a;exact aFA n b e c h l j hr a
  rw[bU j] at a;have p:ee T k [40]=false:=zg;cases hr:jf T f 0 k vars (d+1) with
  | none=>rw[hr] at a;simp [cr.bind] at a
  | some r=>rw[hr] at a;exact aHH b e c h l p hr a
 .rw[nU,zip (by grind [P.maxDepth])] at a;simp only[a3I] at a;subst a;exact aFw b zo o⟩
def aHP(f:Nat):Qx f/\Qy f/\KW f:=by
 induction f using Nat.strongRecOn with
 | ind f ih=>
  cases f with
  | zero=>exact⟨⟨fun _ _ _ h=>by simp [nU] at h⟩,am1,aFu⟩
  | succ f=>
   have a:=ih f (Nat.lt_succ_self _);grind [aFe,aHO,aFv]
def ani(f:Nat):KW f:=(aHP f).2.2
