/- A part of one proof (SBody, SBody2, SLit, SLit2, SIdxArr, PureN, SLitEnd, SLit3, SJoin, SX3). -/
import Derived.Test.YtilpjhceemaplaaGreatDoorPkAAE
import Derived.StillTailTactics
import Derived.Deep.Cut
set_option linter.all false
set_option linter.unusedVariables false
set_option linter.unusedSimpArgs false
set_option maxRecDepth 100000
set_option maxHeartbeats 4000000
namespace Go.Proofs.YtilpjhceemaplaaGreatDoor
open Go.RowKit
set_option linter.unusedVariables false
def P.isArrow(x:P.Bd):Prop:=x.kind=63/\x.parts.length=2
instance (x:P.Bd):Decidable (P.isArrow x):=by unfold P.isArrow;infer_instance
def P.bTail(T:List P.Tok)(f k1:Nat)(v1:List P.Bs)(d:Nat)(x:P.Bd):Option (P.Res P.Bd):=
 if P.isArrow x then
  if P.isT T k1 [59] then P.Res.bind (P.pRest T f (k1+1) v1 d) fun c k3 v3=>some (.ok (.mk 63 [] [] (x.parts++[c])) k3 v3)
  else some (.ok (.mk 63 [] [] (x.parts++[P.failB])) k1 v1)
 else if P.isT T k1 [59] then P.Res.bind (P.pRest T f (k1+1) v1 d) fun b k2 v2=>some (.ok (.mk 59 [] [] [x,b]) k2 v2) else some (.ok x k1 v1)
theorem P.whole_not{x:P.Bd}(h:P.whole x):¬ P.isArrow x:=by
 cases x with
 | mk kind name args parts=>
  rintro ⟨h1,h2⟩
  have:=h h1
  simp only[P.Bd.parts] at h2
  omega
theorem P.pBody_cond(T:List P.Tok)(f k:Nat)(vars:List P.Bs)(d:Nat) :
  P.pBody T (f+1) k vars d=P.Res.bind (P.pCond T f k vars d) fun x k1 v1=>P.bTail T f k1 v1 d x:=by
 rw[P.pBody,P.pCond]
 cases hq:P.pRow T f k vars d with
 | none=>rfl
 | some q=>
  cases q with
  | err c a=>rfl
  | ok x k1 v1=>
   have hw:=P.whole_not ((P.wholeB T f).row _ _ _ _ _ _ hq)
   by_cases hc:P.isT T k1 [45,62]=true
   ·simp only[P.Res.bind,if_pos hc]
    cases hq2:P.pRow T f (k1+1) v1 d with
    | none=>rfl
    | some q=>
     cases q with
     | err c a=>rfl
     | ok y k2 v2=>
      have:P.isArrow (P.Bd.mk 63 [] [] [x,y]):=⟨rfl,rfl⟩
      simp only[P.bTail,if_pos this]
      rfl
   ·simp only[P.Res.bind,if_neg hc,P.bTail,if_neg hw]
theorem closeIf{pb n g g2 cap2:Nat}{w0 W W2:World}{va vb vc:Value}{a b c:P.Bd}(hn:Nu w0 W n)(hg:Nu w0 W g)(hng:n≠g)(hsz:w0.heap.size≤W.heap.size)(hpb:pb<w0.heap.size)
  (hn1:W.heap[n]?=some (.cells #[.int .u8 63,.string (bs []),.slice none 0 0,.slice (some ⟨g,0,none⟩) 2 2] 163 (0,0)))
  (ha:IsBd (fun m=>Nu w0 W m/\m≠n/\m≠g) W va a) (hb:IsBd (fun m=>Nu w0 W m/\m≠n/\m≠g) W vb b) (hc:IsBd (fun m=>Nu w0 W m/\m≠n/\m≠g) W vc c)
  (hown:W2.ownsRow w0.heap.size 130 1 (.slice (some ⟨g2,0,none⟩) (2+1) cap2) (2+1) ([va,vb]++[vc])) (hgr:(W.alloc (.cells #[vc] 130)).grownBy W2 (Value.slice (some ⟨g,0,none⟩) 2 2).ownBlock)
  (hfr:(Value.slice (some ⟨g2,0,none⟩) (2+1) cap2).ownBlock=(Value.slice (some ⟨g,0,none⟩) 2 2).ownBlock\/∀ k,(Value.slice (some ⟨g2,0,none⟩) (2+1) cap2).ownBlock=some k->(W.alloc (.cells #[vc] 130)).heap.size≤k) :
  (∃ cs:Array Value,W2.heap[n]?=some (.cells cs 163 (0,0))/\cs.size=4)/\W.heap.size<W2.heap.size/\(∀ (m:Nat) (o:Obj),m≠n->m≠g->W.heap[m]?=some o->(W2.setCell ⟨n,3,none⟩ (.slice (some ⟨g2,0,none⟩) (2+1) cap2)).heap[m]?=some o) /\
   IsBd (Nu w0 W2) (W2.setCell ⟨n,3,none⟩ (.slice (some ⟨g2,0,none⟩) (2+1) cap2)) (pp n) (.mk 63 [] [] [a,b,c]):=by
 have hz:=hgr.size
 rw[size_alloc] at hz
 have hkeep:∀ (m:Nat) (o:Obj),m≠g->W.heap[m]?=some o->W2.heap[m]?=some o:=fun m o h1 h2=>by
  have h':=blk_alloc_old (o:=Obj.cells #[vc] 130) h2
  rw[hgr.block m (ltOf h') (fun e=>h1 (by simp only[Value.ownBlock] at e;injection e))];exact h'
 have hn2:=hkeep n _ hng hn1
 have hk2:∀ (m:Nat) (o:Obj),m≠n->W2.heap[m]?=some o->(W2.setCell ⟨n,3,none⟩ (.slice (some ⟨g2,0,none⟩) (2+1) cap2)).heap[m]?=some o:=fun m o h1 h2=>by
  rw[blk_setCell_other (show m≠n from h1)];exact h2
 have hg2n:g2≠n:=by
  rcases hfr with h | h
  ·simp only[Value.ownBlock] at h
   injection h with h
   omega
  ·have:=h g2 rfl
   rw[size_alloc] at this
   have:=hn.2
   omega
 refine⟨⟨_,hn2,rfl⟩,by omega,fun m o h1 h2 h3=>hk2 m o h1 (hkeep m o h2 h3),?_⟩
 have hsl:IsSl (fun m=>Nu w0 W2 m/\m≠n) W2 130 (.slice (some ⟨g2,0,none⟩) (2+1) cap2) ([va,vb]++[vc]):=own_IsSl hown fun m hm=>⟨hown.lt m hm,by simp only[Value.ownBlock] at hm;injection hm with hm;omega⟩
 have hst:∀ {v:Value} {x:P.Bd},IsBd (fun m=>Nu w0 W m/\m≠n/\m≠g) W v x->IsBd (Nu w0 W2) (W2.setCell ⟨n,3,none⟩ (.slice (some ⟨g2,0,none⟩) (2+1) cap2)) v x:=fun h=>
  IsBd.mono (fun m hm=>⟨hm.1.1,by have:=hm.1.2;omega⟩) (fun m o hm _ ho=>hk2 m o hm.2.1 (hkeep m o hm.2.2 ho)) _ _ h
 refine isBd_node ⟨hn.1,by have:=hn.2;omega⟩ (by rw[blk_setCell_same hn2];rfl) isSlEx_nil ⟨_,hsl.mono (fun m hm=>hm.1) (fun m cs hm h=>hk2 m _ hm.2 h),?_⟩
 unfold IsBds
 refine⟨va,[vb,vc],rfl,hst ha,?_⟩
 unfold IsBds
 refine⟨vb,[vc],rfl,hst hb,?_⟩
 unfold IsBds
 exact⟨vc,[],rfl,hst hc,by unfold IsBds;rfl⟩
theorem sBody{f:Nat}(hrow:CRow f)(hbody:∀ m,m<f->CBody m){pb tb:Nat}{T:List P.Tok}{k:Nat}{vars:List P.Bs}{d:Nat}{w0:World}{r:P.Res P.Bd}(hp0:SP w0 pb tb T k vars d)(hc0:STabC w0 tb)(hd:d≤8)
  (h:P.pBody T (f+1) k vars d=some r):Calls Tryz.prog 59 #[pp pb] w0 (SPost IsBd pb tb T d w0 r):=by
 rw[P.pBody_cond] at h
 have HP0:=Lib.hid hp0
 have HC0:=Lib.hid hc0
 have HR:=Lib.hid h
 have hpb0:=hp0.d2.2.2
 have htp:=hp0.lt
 obtain⟨i0,hi,iz0,iz1,iz2⟩:=info_parts sInfoBd
 clear hp0 h hc0
 go_enter_defers Tryz.func59,Tryz.ntmps59
 go_wp2_with fail
 cases hq:P.pCond T f k vars d with
 | none=>have e:=HR.out;rw[hq] at e;simp [P.Res.bind] at e
 | some q=>
 have e:=HR.out
 rw[hq] at e
 refine(sCond hrow HP0.out HC0.out hd hq).mono ?_
 cases q with
 | err c0 a0=>
  rintro e2 w4 ⟨⟨b,rfl,hb3,hl3⟩,hf3,hs3⟩
  simp only[P.Res.bind,Option.some.injEq] at e
  subst e
  exact⟨⟨b,rfl,hb3,hl3⟩,hf3,hs3⟩
 | ok x k1 v1=>
 rintro e2 w1 ⟨v,rfl,hv,hp1,hf1⟩
 simp only[P.Res.bind] at e
 have hz1:=hf1.size
 have HP1:=Lib.hid hp1
 have HF1:=Lib.hid hf1
 have hw1:=hp1.d2.2.2
 clear hp1 hf1 hq HR
 rcases hv with⟨hw,hbd⟩| ⟨a,b,n,g,va,vb,rfl,rfl,hn,hg,hng,hcn,hcg,ha,hb⟩
 ·rw[P.bTail,if_neg (P.whole_not hw)] at e
  have HE:=Lib.hid e
  have HV:=Lib.hid hbd
  cases x with
  | mk kind name args parts=>
  unfold IsBd at hbd
  obtain⟨n,av,pv,vs,us,rfl,hn,hcn,h4,h5,h6,h7⟩:=hbd
  obtain⟨pa,pn,pc,rfl,hpn,-,-⟩:=h6.shape
  have hlen:=h7.length
  have c0:w1.cell? ⟨n,0,none⟩=some (.int .u8 kind):=cellOf hcn rfl
  have c3:w1.cell? ⟨n,3,none⟩=some (.slice pa pn pc):=cellOf hcn rfl
  have hnl:n<w1.heap.size:=hn.2
  have hkk:kind=63/\pn=3\/((kind:Int) == 63)=false:=by
   by_cases hk:kind=63
   ·exact .inl ⟨hk,by have:=hw hk;omega⟩
   ·exact .inr (by simp;omega)
  clear h4 h5 h6 h7 hw hcn hn e hlen hpn
  rcases hkk with⟨rfl,rfl⟩| hk'
  all_goals (
   by_cases hs:P.isT T k1 [59]=true
   ·go_wp2_with fail
    refine(sIs_yes HP1.out [59] hs).mono ?_
    rintro e w2 ⟨rfl,hp2,hf2⟩
    have HP2:=Lib.hid hp2
    have HF2:=Lib.hid hf2
    have hz2:=hf2.size
    clear hp2 hf2 c0 c3
    go_wp2_with fail
    have e:=HE.out
    rw[if_pos hs] at e
    cases f with
    | zero=>simp [P.pRest,P.Res.bind] at e
    | succ f=>
    rw[P.pRest] at e
    by_cases hdd:P.maxDepth<d+1
    ·rw[if_pos hdd] at e
     simp only[P.Res.bind,Option.some.injEq] at e
     subst e
     refine(sDeeper_no HP2.out hdd (by omega)).mono ?_
     rintro e w3 ⟨⟨b,rfl,hb3,hl3⟩,hf3,hs3⟩
     exact⟨⟨b,rfl,hb3,by omega⟩,(HF1.out.trans HF2.out).trans hf3,hs3⟩
    rw[if_neg hdd] at e
    have hd':d+1≤8:=by unfold P.maxDepth at hdd;omega
    refine(sDeeper_yes HP2.out hd').mono ?_
    rintro e2 w3 ⟨rfl,hs3,hx3,hp3,hf3⟩
    have HX3:=Lib.hid hx3
    have HF3:=Lib.hid hf3
    have HP3:=Lib.hid hp3
    have HEE:=Lib.hid e
    have HS3:=Lib.hid hs3
    clear hx3 hf3 hp3 e hs hs3 hdd
    go_wp2_with fail
    have e:=HEE.out
    cases hq:P.pBody T f (k1+1) v1 (d+1) with
    | none=>rw[hq] at e;simp [P.Res.bind] at e
    | some q=>
    rw[hq] at e
    refine((hbody f (by omega)).go HP3.out (HC0.out.fr ((HF1.out.trans HF2.out).trans HF3.out) htp) (by omega) hq).mono ?_
    have hs3:=HS3.out
    cases q with
    | err c0 a0=>
     rintro e2 w4 ⟨⟨b,rfl,hb3,hl3⟩,hf4,hs4⟩
     simp only[P.Res.bind,Option.some.injEq] at e
     subst e
     exact doorPanic hpb0 hs4 (hf4.keep HX3.out (by omega) (by decide)) ⟨b,rfl,hb3,by omega⟩ (((HF1.out.trans HF2.out).trans HF3.out).trans hf4)
    | ok y k2 v2=>
    rintro e2 w4 ⟨v,rfl,hv,hp4,hf4⟩
    simp only[P.Res.bind,Option.some.injEq] at e
    subst e
    obtain⟨by',rfl,hby⟩:=hv.shape
    have hz4:=hf4.size
    have HV4:=Lib.hid hv
    have HP4:=Lib.hid hp4
    have HF4:=Lib.hid hf4
    clear hv hp4 hf4 hby hq HE HEE hs3
    go_wp2_with fail
    have hs3:=HS3.out
    have hst:∀ o o',((w4.alloc o).alloc o').heap.size=w4.heap.size+2:=fun o o'=>by rw[size_alloc,size_alloc]
    refine doorRet (j:=2) stab_Bd rfl hpb0 (HP4.out.ext fun b o h=>blk_alloc_old (blk_alloc_old h)) (by omega) (blk_alloc_old (blk_alloc_old (HF4.out.keep HX3.out (by omega) (by decide)))) ?_
     (((((HF1.out.trans HF2.out).trans HF3.out).trans HF4.out).alloc _).alloc _)
    refine isBd_node ⟨by omega,by rw[hst];omega⟩ (blk_new1 (by rw[size_alloc])) isSlEx_nil (isSlBd_two ⟨by omega,by rw[hst];omega⟩ (blk_alloc_old (blk_alloc_new _ _)) ?_ ?_)
    ·exact IsBd.mono (fun b hb=>⟨hb.1,by rw[hst];have:=hb.2;omega⟩)
      (fun b o hb ha ho=>blk_alloc_old (blk_alloc_old (SFr.ast HF4.out ha (SFr.ast HF3.out ha (SFr.ast HF2.out ha ho (by have:=hb.1;omega)) (by have:=hb.1;omega)) (by have:=hb.1;omega)))) _ _ HV.out
    ·exact IsBd.mono (fun b hb=>⟨by have:=hb.1;omega,by rw[hst];have:=hb.2;omega⟩)
      (fun b o hb ha ho=>blk_alloc_old (blk_alloc_old ho)) _ _ HV4.out
   ·go_wp2_with fail
    refine(sIs_no HP1.out [59] (by simpa using hs) (by decide)).mono ?_
    rintro e w2 ⟨rfl,rfl⟩
    go_wp2_with fail
    have e:=HE.out
    rw[if_neg hs,Option.some.injEq] at e
    subst e
    exact⟨_,results_tmp rfl _ _ _,pp _,rfl,HV.out,HP1.out,HF1.out⟩)
 ·have HE:=Lib.hid e
  have c0:w1.cell? ⟨n,0,none⟩=some (.int .u8 63):=cellOf hcn rfl
  have c3:w1.cell? ⟨n,3,none⟩=some (.slice (some ⟨g,0,none⟩) 2 2):=cellOf hcn rfl
  have hnl:n<w1.heap.size:=hn.2
  have hn0:w0.heap.size≤n:=hn.1
  have hgl:g<w1.heap.size:=hg.2
  have hg0:w0.heap.size≤g:=hg.1
  have hF:=(P.bTail T f k1 v1 d (.mk 63 [] [] [a,b]))
  have har:P.isArrow (P.Bd.mk 63 [] [] [a,b]):=⟨rfl,rfl⟩
  rw[P.bTail,if_pos har] at e
  have HEB:=Lib.hid e
  have HCN1:=Lib.hid hcn
  have HCG1:=Lib.hid hcg
  have HA1:=Lib.hid ha
  have HB1:=Lib.hid hb
  clear hcn hcg ha hb hn hg e HE har hF
  generalize hfo:(Obj.cells #[.int .u8 103,.string (bs [102,97,105,108]),.slice none 0 0,.slice none 0 0] 163)=fo
  have HPF:=Lib.hid (HP1.out.ext (w':=w1.alloc fo) fun b o h=>blk_alloc_old h)
  have HFF:Hid (SFr pb w0 (w1.alloc fo)):=Lib.hid (HF1.out.alloc _)
  have HNF:Hid ((w1.alloc fo).heap[n]?=_):=Lib.hid (blk_alloc_old HCN1.out)
  have HGF:Hid ((w1.alloc fo).heap[g]?=_):=Lib.hid (blk_alloc_old HCG1.out)
  have HSZW:Hid (w0.heap.size≤(w1.alloc fo).heap.size):=Lib.hid (by rw[size_alloc];omega)
  subst hfo
  by_cases hs:P.isT T k1 [59]=true
  ·go_wp2_with fail
   refine(sIs_yes HPF.out [59] hs).mono ?_
   rintro e w2 ⟨rfl,hp2,hf2⟩
   have HP2:=Lib.hid hp2
   have HF2:=Lib.hid hf2
   have hz2:=hf2.size
   rw[size_alloc] at hz2
   clear hp2 hf2 c0 c3
   go_wp2_with fail
   have e:=HEB.out
   rw[if_pos hs] at e
   cases f with
   | zero=>simp [P.pRest,P.Res.bind] at e
   | succ f=>
   rw[P.pRest] at e
   by_cases hdd:P.maxDepth<d+1
   ·rw[if_pos hdd] at e
    simp only[P.Res.bind,Option.some.injEq] at e
    subst e
    refine(sDeeper_no HP2.out hdd (by omega)).mono ?_
    rintro e w3 ⟨⟨b,rfl,hb3,hl3⟩,hf3,hs3⟩
    exact⟨⟨b,rfl,hb3,by omega⟩,(HFF.out.trans HF2.out).trans hf3,hs3⟩
   rw[if_neg hdd] at e
   have hd':d+1≤8:=by unfold P.maxDepth at hdd;omega
   refine(sDeeper_yes HP2.out hd').mono ?_
   rintro e2 w3 ⟨rfl,hs3,hx3,hp3,hf3⟩
   have HX3:=Lib.hid hx3
   have HF3:=Lib.hid hf3
   have HP3:=Lib.hid hp3
   have HEE:=Lib.hid e
   have HS3:=Lib.hid hs3
   clear hx3 hf3 hp3 e hs hs3 hdd
   go_wp2_with fail
   have e:=HEE.out
   cases hq:P.pBody T f (k1+1) v1 (d+1) with
   | none=>rw[hq] at e;simp [P.Res.bind] at e
   | some q=>
   rw[hq] at e
   refine((hbody f (by omega)).go HP3.out (HC0.out.fr ((HFF.out.trans HF2.out).trans HF3.out) htp) (by omega) hq).mono ?_
   have hs3:=HS3.out
   cases q with
   | err c0 a0=>
    rintro e2 w4 ⟨⟨b,rfl,hb3,hl3⟩,hf4,hs4⟩
    simp only[P.Res.bind,Option.some.injEq] at e
    subst e
    exact doorPanic hpb0 hs4 (hf4.keep HX3.out (by omega) (by decide)) ⟨b,rfl,hb3,by omega⟩ (((HFF.out.trans HF2.out).trans HF3.out).trans hf4)
   | ok y k2 v2=>
   rintro e2 w5 ⟨v,rfl,hv,hp5,hf5⟩
   simp only[P.Res.bind,Option.some.injEq] at e
   subst e
   obtain⟨by',rfl,hby⟩:=hv.shape
   have hz5:=hf5.size
   have HV5:=Lib.hid hv
   have HP5:=Lib.hid hp5
   have HF5:=Lib.hid hf5
   have HK5:Hid (∀ (m:Nat) (cs:Array Value) (t:TypeId) (z:Nat×Nat),m<w1.heap.size->m≠pb->t≠9->w1.heap[m]?=some (.cells cs t z)->w5.heap[m]?=some (.cells cs t z)):=
    Lib.hid fun m cs t z _ h1 h2 h3=>SFr.keep hf5 (SFr.keep HF3.out (SFr.keep HF2.out (blk_alloc_old h3) h1 h2) h1 h2) h1 h2
   have HXS:Hid (w5.heap[w2.heap.size]?=_):=Lib.hid (SFr.keep hf5 HX3.out (by omega) (by decide))
   have HSZW5:Hid (w0.heap.size≤w5.heap.size):=Lib.hid (by omega)
   have HN:Hid (Nu w0 w5 n):=Lib.hid ⟨hn0,by omega⟩
   have HG:Hid (Nu w0 w5 g):=Lib.hid ⟨hg0,by omega⟩
   have HN5:Hid (w5.heap[n]?=_):=Lib.hid (HK5.out _ _ _ _ hnl (by omega) (by decide) HCN1.out)
   have HG5:Hid (w5.heap[g]?=_):=Lib.hid (HK5.out _ _ _ _ hgl (by omega) (by decide) HCG1.out)
   have hst:∀ {v:Value} {x:P.Bd},IsBd (fun m=>Nu w0 w1 m/\m≠n/\m≠g) w1 v x->IsBd (fun m=>Nu w0 w5 m/\m≠n/\m≠g) w5 v x:=fun h=>
    IsBd.mono (fun m hm=>⟨⟨hm.1.1,by have:=hm.1.2;omega⟩,hm.2⟩) (fun m o hm ha ho=>SFr.ast HF5.out ha (SFr.ast HF3.out ha (SFr.ast HF2.out ha (blk_alloc_old ho) (by have:=hm.1.1;omega)) (by have:=hm.1.1;omega)) (by have:=hm.1.1;omega)) _ _ h
   have HA:=Lib.hid (hst HA1.out)
   have HB:=Lib.hid (hst HB1.out)
   have HCC:Hid (IsBd (fun m=>Nu w0 w5 m/\m≠n/\m≠g) w5 (pp by') y):=
    Lib.hid (IsBd.mono (fun m hm=>⟨⟨by have:=hm.1;omega,hm.2⟩,by have:=hm.1;omega,by have:=hm.1;omega⟩) (fun _ _ _ _ h=>h) _ _ hv)
   have HO1:Hid ((w5.alloc (.cells #[pp by'] 130)).ownsRow w0.heap.size 130 1 (.slice (some ⟨g,0,none⟩) 2 2) 2 [va,vb]):=
    Lib.hid ⟨rfl,.inr ⟨g,2,_,rfl,hg0,blk_alloc_old HG5.out,Nat.le_refl _,by decide,rfl,rfl⟩⟩
   have HSZ:Hid (w0.heap.size≤(w5.alloc (.cells #[pp by'] 130)).heap.size):=Lib.hid (by rw[size_alloc];omega)
   have c0:w5.cell? ⟨n,0,none⟩=some (.int .u8 63):=cellOf HN5.out rfl
   have c3:w5.cell? ⟨n,3,none⟩=some (.slice (some ⟨g,0,none⟩) 2 2):=cellOf HN5.out rfl
   have hnl5:n<w5.heap.size:=by omega
   clear hv hp5 hf5 hby hq HEB HEE hs3 hst
   go_wp2_with (at_builtin;go_must (refine wpList_append_own2 rfl _ _ 161 rfl w0.heap.size 130 i0 _ 1 8 Tryz.underlying161 hi iz0 iz1 iz2 rfl (by decide) _ _ _ rfl HO1.out ⟨w5.heap.size,0,none⟩ 1 1 [pp by'] rfl rfl (one_new rfl) (by simp [Value.oneCell']) (by unfold maxLen;omega) (by omega) (by have:=HSZ.out;omega) ?_;intro v' w9 hown2 hgrow2 hfr2;obtain⟨g2,cap2,rfl⟩:=own_succ hown2;obtain⟨⟨cs9,hcs9,hcz9⟩,hsz9,hkp9,hbd9⟩:=closeIf HN.out HG.out hng HSZW5.out hpb0 HN5.out HA.out HB.out HCC.out hown2 hgrow2 hfr2;have c9:w9.cell? ⟨n,3,none⟩=some (cs9[3]'(by omega)):=cellOf hcs9 (by simp [Array.getElem?_eq_getElem,hcz9]);have f9:=freeOf hcs9 3;have l9:=ltOf hcs9;have HG2:=Lib.hid hgrow2;have HO2:=Lib.hid hown2;have HK9:=Lib.hid hkp9;have HBD9:=Lib.hid hbd9;have HCS9:=Lib.hid hcs9;clear hown2 hgrow2 hfr2 hkp9 hbd9 hcs9))
   have hs3:=HS3.out
   have hp9:SP w9 pb tb T k2 v2 (d+1):=(HP5.out.ext fun b o h=>blk_alloc_old (o:=Obj.cells #[Value.pointer (some ⟨by',0,none⟩)] 130) h).grownRow HO1.out (by decide) hpb0 HG2.out
   have hf9:SFr pb w0 w9:=(((((HFF.out.trans HF2.out).trans HF3.out).trans HF5.out)).alloc _).grownNew HG2.out fun k hk=>(HO1.out.lt k hk).1
   refine doorRet (j:=2) stab_Bd rfl hpb0 (hp9.setOther (o:=3) HCS9.out (by decide) (by omega) (by omega) _) (by omega) (HK9.out _ _ (by omega) (by omega) HXS.out) ?_ (hf9.setNew (p:=⟨n,3,none⟩) hn0 _)
   exact IsBd.mono (fun b hb=>⟨hb.1,by rw[size_setCell];exact hb.2⟩) (fun _ _ _ _ h=>h) _ _ HBD9.out
  ·have HN:Hid (Nu w0 (w1.alloc (.cells #[.int .u8 103,.string (bs [102,97,105,108]),.slice none 0 0,.slice none 0 0] 163)) n):=Lib.hid ⟨hn0,by rw[size_alloc];omega⟩
   have HG:Hid (Nu w0 (w1.alloc (.cells #[.int .u8 103,.string (bs [102,97,105,108]),.slice none 0 0,.slice none 0 0] 163)) g):=Lib.hid ⟨hg0,by rw[size_alloc];omega⟩
   have HA:Hid (IsBd (fun m=>Nu w0 (w1.alloc (.cells #[.int .u8 103,.string (bs [102,97,105,108]),.slice none 0 0,.slice none 0 0] 163)) m/\m≠n/\m≠g) (w1.alloc (.cells #[.int .u8 103,.string (bs [102,97,105,108]),.slice none 0 0,.slice none 0 0] 163)) va a):=
    Lib.hid (IsBd.mono (fun m hm=>⟨⟨hm.1.1,by rw[size_alloc];have:=hm.1.2;omega⟩,hm.2⟩) (fun m o _ _ ho=>blk_alloc_old ho) _ _ HA1.out)
   have HB:Hid (IsBd (fun m=>Nu w0 (w1.alloc (.cells #[.int .u8 103,.string (bs [102,97,105,108]),.slice none 0 0,.slice none 0 0] 163)) m/\m≠n/\m≠g) (w1.alloc (.cells #[.int .u8 103,.string (bs [102,97,105,108]),.slice none 0 0,.slice none 0 0] 163)) vb b):=
    Lib.hid (IsBd.mono (fun m hm=>⟨⟨hm.1.1,by rw[size_alloc];have:=hm.1.2;omega⟩,hm.2⟩) (fun m o _ _ ho=>blk_alloc_old ho) _ _ HB1.out)
   have HCC:Hid (IsBd (fun m=>Nu w0 (w1.alloc (.cells #[.int .u8 103,.string (bs [102,97,105,108]),.slice none 0 0,.slice none 0 0] 163)) m/\m≠n/\m≠g) (w1.alloc (.cells #[.int .u8 103,.string (bs [102,97,105,108]),.slice none 0 0,.slice none 0 0] 163)) (pp w1.heap.size) P.failB):=
    Lib.hid (isBd_node ⟨⟨hz1,by rw[size_alloc];omega⟩,by omega,by omega⟩ (blk_alloc_new _ _) isSlEx_nil isSlBd_nil)
   have HCN:=HNF
   have HO1:Hid (((w1.alloc (.cells #[.int .u8 103,.string (bs [102,97,105,108]),.slice none 0 0,.slice none 0 0] 163)).alloc (.cells #[pp w1.heap.size] 130)).ownsRow w0.heap.size 130 1 (.slice (some ⟨g,0,none⟩) 2 2) 2 [va,vb]):=
    Lib.hid ⟨rfl,.inr ⟨g,2,_,rfl,hg0,blk_alloc_old HGF.out,Nat.le_refl _,by decide,rfl,rfl⟩⟩
   have HSZ:Hid (w0.heap.size≤((w1.alloc (.cells #[.int .u8 103,.string (bs [102,97,105,108]),.slice none 0 0,.slice none 0 0] 163)).alloc (.cells #[pp w1.heap.size] 130)).heap.size):=Lib.hid (by rw[size_alloc,size_alloc];omega)
   go_wp2_with fail
   refine(sIs_no HPF.out [59] (by simpa using hs) (by decide)).mono ?_
   rintro e w2 ⟨rfl,rfl⟩
   go_wp2_with (at_builtin;go_must (refine wpList_append_own2 rfl _ _ 161 rfl w0.heap.size 130 i0 _ 1 8 Tryz.underlying161 hi iz0 iz1 iz2 rfl (by decide) _ _ _ rfl HO1.out ⟨w1.heap.size+1,0,none⟩ 1 1 [pp w1.heap.size] rfl rfl (one_new (by rw[size_alloc])) (by simp [Value.oneCell']) (by unfold maxLen;omega) (by omega) (by have:=HSZ.out;omega) ?_;intro v' w9 hown2 hgrow2 hfr2;obtain⟨g2,cap2,rfl⟩:=own_succ hown2;obtain⟨⟨cs9,hcs9,hcz9⟩,hsz9,hkp9,hbd9⟩:=closeIf HN.out HG.out hng HSZW.out hpb0 HCN.out HA.out HB.out HCC.out hown2 hgrow2 hfr2;have c9:w9.cell? ⟨n,3,none⟩=some (cs9[3]'(by omega)):=cellOf hcs9 (by simp [Array.getElem?_eq_getElem,hcz9]);have f9:=freeOf hcs9 3;have l9:=ltOf hcs9;have HG2:=Lib.hid hgrow2;have HO2:=Lib.hid hown2;have HK9:=Lib.hid hkp9;have HBD9:=Lib.hid hbd9;have HCS9:=Lib.hid hcs9;clear hown2 hgrow2 hfr2 hkp9 hbd9 hcs9))
   have e:=HEB.out
   rw[if_neg hs,Option.some.injEq] at e
   subst e
   have hp9:SP w9 pb tb T k1 v1 d:=(HPF.out.ext fun b o h=>blk_alloc_old (o:=Obj.cells #[Value.pointer (some ⟨w1.heap.size,0,none⟩)] 130) h).grownRow HO1.out (by decide) hpb0 HG2.out
   have hf9:SFr pb w0 w9:=(HFF.out.alloc _).grownNew HG2.out fun k hk=>(HO1.out.lt k hk).1
   refine⟨_,results_tmp rfl _ _ _,pp n,rfl,?_,hp9.setOther (o:=3) HCS9.out (by decide) (by omega) (by omega) _,hf9.setNew (p:=⟨n,3,none⟩) hn0 _⟩
   exact IsBd.mono (fun b hb=>⟨hb.1,by rw[size_setCell];exact hb.2⟩) (fun _ _ _ _ h=>h) _ _ HBD9.out
theorem cBody0:CBody 0:=⟨fun _ _ _ h=>by simp [P.pBody] at h⟩
theorem cBody{f:Nat}(hrow:CRow f)(hbody:∀ m,m<f->CBody m):CBody (f+1):=⟨fun hp hc hd h=>sBody hrow hbody hp hc hd h⟩
theorem sLit_deep{pb tb:Nat}{T:List P.Tok}{k:Nat}{vars:List P.Bs}{d:Nat}{w:World}(hp:SP w pb tb T k vars d)(hd:8<d+1)(hd2:d≤8) :
  Calls Tryz.prog 127 #[pp pb] w (SPost IsBd pb tb T d w (.err 4 (P.tk T k).pos)):=by
 have H:=Lib.hid hp
 clear hp
 go_enter_defers Tryz.func127,Tryz.ntmps127
 go_wp2_with fail
 refine(sDeeper_no H.out hd (by omega)).mono ?_
 rintro e w1 ⟨⟨b,rfl,hb⟩,hf,hs⟩
 exact⟨⟨b,rfl,hb⟩,hf,hs⟩
theorem sLit_cut{pb tb:Nat}{T:List P.Tok}{k:Nat}{vars:List P.Bs}{d:Nat}{w:World}(hp:SP w pb tb T k vars d)(hd:d+1≤8)(h1:P.isT T k [33]=true) :
  Calls Tryz.prog 127 #[pp pb] w (SPost IsBd pb tb T d w (.ok (.mk 33 [] [] []) (k+1) vars)):=by
 have H:=Lib.hid hp
 have hpb:=hp.d2.2.2
 clear hp
 go_enter_defers Tryz.func127,Tryz.ntmps127
 go_wp2_with fail
 refine(sDeeper_yes H.out hd).mono ?_
 rintro e w1 ⟨rfl,hs1,hx1,hp1,hf1⟩
 have HX1:=Lib.hid hx1
 have HF1:=Lib.hid hf1
 have HP1:=Lib.hid hp1
 have HS1:=Lib.hid hs1
 clear hx1 hf1 hp1 hs1
 go_wp2_with fail
 refine(sIs_yes HP1.out [33] h1).mono ?_
 rintro e w2 ⟨rfl,hp2,hf2⟩
 have HP2:=Lib.hid hp2
 have HF2:=Lib.hid hf2
 clear hp2 hf2 h1
 go_wp2_with fail
 have hs1:=HS1.out
 have hz2:=HF2.out.size
 refine doorRet (j:=2) stab_Bd rfl hpb (HP2.out.ext fun b o h=>blk_alloc_old h) (by omega) (blk_alloc_old (HF2.out.keep HX1.out (by omega) (by decide))) ?_ ((HF1.out.trans HF2.out).alloc _)
 exact isBd_node ⟨by omega,by rw[size_alloc];omega⟩ (blk_alloc_new _ _) isSlEx_nil isSlBd_nil
theorem sLit_not{f:Nat}(hlit:CLit f){pb tb:Nat}{T:List P.Tok}{k:Nat}{vars:List P.Bs}{d:Nat}{w:World}(hp:SP w pb tb T k vars d)(hc:STabC w tb)(hd:d+1≤8)(h1:P.isT T k [33]=false)(h2:P.isT T k [92,43]=true)
  {r:P.Res P.Bd} (hr:P.pLit T f (k+1) vars (d+1)=some r) {q:P.Res P.Bd} (hq:P.Res.bind (some r) (fun b k' vars'=>some (.ok (P.Bd.mk 126 [] [] [b]) k' vars'))=some q) :
  Calls Tryz.prog 127 #[pp pb] w (SPost IsBd pb tb T d w q):=by
 have H:=Lib.hid hp
 have HC:=Lib.hid hc
 have HR:=Lib.hid hr
 have HQ:=Lib.hid hq
 have H1:=Lib.hid h1
 have H2:=Lib.hid h2
 have hpb:=hp.d2.2.2
 have htp:=hp.lt
 clear hp hc hr hq h1 h2
 go_enter_defers Tryz.func127,Tryz.ntmps127
 go_wp2_with fail
 refine(sDeeper_yes H.out hd).mono ?_
 rintro e w1 ⟨rfl,hs1,hx1,hp1,hf1⟩
 have HX1:=Lib.hid hx1
 have HF1:=Lib.hid hf1
 have HP1:=Lib.hid hp1
 have HS1:=Lib.hid hs1
 clear hx1 hf1 hp1 hs1
 go_wp2_with fail
 refine(sIs_no HP1.out [33] H1.out (by decide)).mono ?_
 rintro e w2 ⟨rfl,rfl⟩
 go_wp2_with fail
 refine(sIs_yes HP1.out [92,43] H2.out).mono ?_
 rintro e w3 ⟨rfl,hp3,hf3⟩
 have HP3:=Lib.hid hp3
 have HF3:=Lib.hid hf3
 clear hp3 hf3
 go_wp2_with fail
 refine(hlit.go HP3.out (HC.out.fr (HF1.out.trans HF3.out) htp) (by omega) HR.out).mono ?_
 have hs1:=HS1.out
 have hz3:=HF3.out.size
 have e:=HQ.out
 cases r with
 | err c0 a0=>
  rintro e2 w4 ⟨⟨b,rfl,hb3,hl3⟩,hf4,hs4⟩
  simp only[P.Res.bind,Option.some.injEq] at e
  subst e
  exact doorPanic hpb hs4 (hf4.keep (HF3.out.keep HX1.out (by omega) (by decide)) (by omega) (by decide)) ⟨b,rfl,hb3,by omega⟩ ((HF1.out.trans HF3.out).trans hf4)
 | ok y k2 v2=>
 rintro e2 w4 ⟨v,rfl,hv,hp4,hf4⟩
 simp only[P.Res.bind,Option.some.injEq] at e
 subst e
 obtain⟨by',rfl,hby⟩:=hv.shape
 have hz4:=hf4.size
 have HV4:=Lib.hid hv
 have HP4:=Lib.hid hp4
 have HF4:=Lib.hid hf4
 clear hv hp4 hf4 hby hs1 HQ
 go_wp2_with fail
 have hs1:=HS1.out
 have hst:∀ o o',((w4.alloc o).alloc o').heap.size=w4.heap.size+2:=fun o o'=>by rw[size_alloc,size_alloc]
 refine doorRet (j:=2) stab_Bd rfl hpb (HP4.out.ext fun b o h=>blk_alloc_old (blk_alloc_old h)) (by omega) (blk_alloc_old (blk_alloc_old (HF4.out.keep (HF3.out.keep HX1.out (by omega) (by decide)) (by omega) (by decide)))) ?_
  ((((HF1.out.trans HF3.out).trans HF4.out).alloc _).alloc _)
 refine isBd_node ⟨by omega,by rw[hst];omega⟩ (blk_new1 (by rw[size_alloc])) isSlEx_nil (isSlBd_one ⟨by omega,by rw[hst];omega⟩ (blk_alloc_old (blk_alloc_new _ _)) ?_)
 exact IsBd.mono (fun b hb=>⟨by have:=hb.1;omega,by rw[hst];have:=hb.2;omega⟩) (fun b o hb ha ho=>blk_alloc_old (blk_alloc_old ho)) _ _ HV4.out
theorem TW.paren{T:List P.Tok}(h:TW T){k:Nat}(hk:k<T.length)(hi:P.isT T k [40]=true):(P.tk T k).kind=4/\(P.tk T k).text=[40]:=by
 unfold P.isT at hi
 simp only[Bool.and_eq_true,Bool.or_eq_true,beq_iff_eq] at hi
 obtain⟨h1,h2⟩:=hi
 refine⟨?_,h2⟩
 rcases h1 with h1 | h1
 ·exact h1
 ·obtain⟨c,r,e1,e2⟩:=h.words _ (tk_mem hk) h1
  rw[h2] at e1
  injection e1 with e1 _
  subst e1
  exact absurd e2 (by decide)
theorem not_paren{T:List P.Tok}{k:Nat}(hi:P.isT T k [40]=false):(P.tk T k).kind≠4\/(P.tk T k).text≠[40]:=by
 unfold P.isT at hi
 by_cases h1:(P.tk T k).kind=4
 ·right
  rw[h1] at hi
  simpa using hi
 ·exact .inl h1
theorem sLit_paren{f:Nat}(hbody:CBody f){pb tb:Nat}{T:List P.Tok}{k:Nat}{vars:List P.Bs}{d:Nat}{w:World}(hp:SP w pb tb T k vars d)(hc:STabC w tb)(hd:d+1≤8)(h1:P.isT T k [33]=false)(h2:P.isT T k [92,43]=false)
  (h3:P.isT T k [40]=true)
  {r:P.Res P.Bd} (hr:P.pBody T f (k+1) vars (d+1)=some r) {q:P.Res P.Bd} (hq:P.Res.bind (some r) (fun b k' vars'=>P.musT T [41] b k' vars')=some q) :
  Calls Tryz.prog 127 #[pp pb] w (SPost IsBd pb tb T d w q):=by
 have H:=Lib.hid hp
 have HC:=Lib.hid hc
 have HR:=Lib.hid hr
 have HQ:=Lib.hid hq
 have H1:=Lib.hid h1
 have H2:=Lib.hid h2
 have H3:=Lib.hid h3
 have HK:=Lib.hid (hp.tw.paren hp.kt h3)
 have hpb:=hp.d2.2.2
 have htp:=hp.lt
 clear hp hc hr hq h1 h2 h3
 go_enter_defers Tryz.func127,Tryz.ntmps127
 go_wp2_with fail
 refine(sDeeper_yes H.out hd).mono ?_
 rintro e w1 ⟨rfl,hs1,hx1,hp1,hf1⟩
 have HX1:=Lib.hid hx1
 have HF1:=Lib.hid hf1
 have HP1:=Lib.hid hp1
 have HS1:=Lib.hid hs1
 clear hx1 hf1 hp1 hs1
 go_wp2_with fail
 refine(sIs_no HP1.out [33] H1.out (by decide)).mono ?_
 rintro e w2 ⟨rfl,rfl⟩
 go_wp2_with fail
 refine(sIs_no HP1.out [92,43] H2.out (by decide)).mono ?_
 rintro e w2 ⟨rfl,rfl⟩
 have hp1:=HP1.out
 obtain⟨n,c,h0,f0,hb,l1,l2,l3,l4,hp2,hf2⟩:=hp1.on (by have:=HK.out;omega)
 obtain⟨t0,t1,t2⟩:=hp1.toks.at hp1.kt
 have htb:tb<w1.heap.size:=by have:=hp1.lt;omega
 have hne:¬ tb=pb:=by have:=hp1.lt;omega
 have hne':¬ pb=tb:=by omega
 have HP2:=Lib.hid hp2
 have HF2:=Lib.hid hf2
 rw[HK.out.1] at t0
 rw[HK.out.2] at t1
 clear hp1 hp2 hf2 t2
 go_wp2_with fail
 refine(hbody.go HP2.out (HC.out.fr (HF1.out.trans HF2.out) htp) (by omega) HR.out).mono ?_
 have hs1:=HS1.out
 have hz2:=HF2.out.size
 have e:=HQ.out
 have hx2:((onW w1 pb tb k n c)).heap[w.heap.size]?=_:=HF2.out.keep HX1.out (by omega) (by decide)
 cases r with
 | err c0 a0=>
  rintro e2 w4 ⟨⟨b,rfl,hb3,hl3⟩,hf4,hs4⟩
  simp only[P.Res.bind,Option.some.injEq] at e
  subst e
  exact doorPanic hpb hs4 (hf4.keep hx2 (by omega) (by decide)) ⟨b,rfl,hb3,by omega⟩ ((HF1.out.trans HF2.out).trans hf4)
 | ok y k2 v2=>
 rintro e2 w4 ⟨v,rfl,hv,hp4,hf4⟩
 simp only[P.Res.bind] at e
 obtain⟨by',rfl,hby⟩:=hv.shape
 have hz4:=hf4.size
 have HV4:=Lib.hid hv
 have HP4:=Lib.hid hp4
 have HF4:=Lib.hid ((HF1.out.trans HF2.out).trans hf4)
 have HX4:=Lib.hid (hf4.keep hx2 (by omega) (by decide))
 have HE:=Lib.hid e
 have HBY:=Lib.hid hby
 clear hv hp4 hf4 hby HQ hx2 h0 f0 t0 t1 e
 have hz2':w.heap.size+1≤w4.heap.size:=by omega
 have hz24:w.heap.size+1≤(onW w1 pb tb k n c).heap.size:=by omega
 have HZ24:=Lib.hid hz24
 clear hs1 hz2 hz4 hz24
 go_wp2_with fail
 have e:=HE.out
 unfold P.musT at e
 by_cases hm:P.isT T k2 [41]=true
 ·rw[if_pos hm,Option.some.injEq] at e
  subst e
  refine(sMust_yes HP4.out [41] hm).mono ?_
  rintro e w5 ⟨rfl,hp5,hf5⟩
  have HP5:=Lib.hid hp5
  have HF5:=Lib.hid hf5
  clear hp5 hf5 hm HE
  go_wp2_with fail
  have hz5:=HF5.out.size
  have hz24:=HZ24.out
  refine doorRet (j:=2) stab_Bd rfl hpb HP5.out (by omega) (HF5.out.keep HX4.out (by omega) (by decide)) ?_ (HF4.out.trans HF5.out)
  exact stab_Bd _ _ _ _ _ _ _ HV4.out HF5.out fun b hb=>⟨by have:=hb.1;omega,by have:=hb.1;have:=hb.2;exact⟨by omega,by omega⟩⟩
 ·rw[if_neg hm,Option.some.injEq] at e
  subst e
  refine(sMust_no HP4.out [41] (by simpa using hm) (by decide)).mono ?_
  rintro e w5 ⟨⟨b,rfl,hb3,hl3⟩,hf5,hs5⟩
  exact doorPanic hpb hs5 (hf5.keep HX4.out (by omega) (by decide)) ⟨b,rfl,hb3,by omega⟩ (HF4.out.trans hf5)
end Go.Proofs.YtilpjhceemaplaaGreatDoor
namespace Go.Proofs.YtilpjhceemaplaaGreatDoor
open Go.RowKit
theorem idxArr(a b c d e f g h i:P.Bs)(j:Nat)(hj:j<9)(v:Value)(hv:(#[Value.string (bs a),.string (bs b),.string (bs c),.string (bs d),.string (bs e),.string (bs f),.string (bs g),.string (bs h),.string (bs i)]:Array Value)[j]?=some v)(w:World) :
  (Instr.index 300 (.agg #[Value.string (bs a),.string (bs b),.string (bs c),.string (bs d),.string (bs e),.string (bs f),.string (bs g),.string (bs h),.string (bs i)]) (zi j)).run Tryz.prog w = .ok v w:=by
 have e1:(sizeOf 9).run Tryz.prog w = .ok 1 w:=by simp [go_sem,Tryz.sizeOf9,Tryz.isAgg9]
 have e2:(isAgg 9).run Tryz.prog w = .ok false w:=by simp [go_sem,Tryz.sizeOf9,Tryz.isAgg9]
 simp [Instr.index,run_underlying Tryz.underlying300,asIntOf,hj,go_sem,e1,e2]
 have:j=0\/j=1\/j=2\/j=3\/j=4\/j=5\/j=6\/j=7\/j=8:=by omega
 rcases this with rfl | rfl | rfl | rfl | rfl | rfl | rfl | rfl | rfl<;>(simp at hv;subst hv;simp [go_sem])
end Go.Proofs.YtilpjhceemaplaaGreatDoor
namespace Go.Proofs.YtilpjhceemaplaaGreatDoor.P
def named(x:Ex):Prop:=x.kind=97\/x.kind=99->x.name≠[]
theorem pVar_named{t:Tok}{k k':Nat}{v v':List Bs}{x:Ex}(h:pVar t k v = .ok x k' v'):named x:=by
 unfold pVar at h
 split at h
 ·injection h with h _ _;rw[<- h];simp [named,Ex.kind]
 ·split at h
  ·cases h
  ·injection h with h _ _;rw[<- h];simp [named,Ex.kind]
theorem mkList_named{all:List Ex}{x:Ex}(hx:named x):named (mkList all x):=by
 cases all with
 | nil=>exact hx
 | cons a l=>simp [mkList,named,Ex.name]
structure NamedT(T:List Tok)(f:Nat):Prop where
 prim:∀ k v d x k' v',pPrim T f k v d=some (.ok x k' v')->named x
 list:∀ k v d x k' v',pList T f k v d=some (.ok x k' v')->named x
 oper:∀ l k v d x k' v',pOper T f l k v d=some (.ok x k' v')->named x
 more:∀ l y k v d x k' v',named y->pMore T f l y k v d=some (.ok x k' v')->named x
theorem namedT(T:List Tok)(hT:∀ k,(tk T k).kind=1->(tk T k).text≠[]):∀ f,NamedT T f
 | 0=>⟨by intros;simp [pPrim] at *,by intros;simp [pList] at *,by intros;simp [pOper] at *,by intros;simp [pMore] at *⟩
 | f+1=>by
  have ih:=namedT T hT f
  refine⟨?_,?_,?_,?_⟩
  ·intro k v d x k' v' h
   rw[pPrim] at h
   split at h
   ·simp at h
   split at h
   ·simp only[Option.some.injEq,Res.ok.injEq] at h;rw[<- h.1];simp [named,Ex.kind]
   split at h
   ·simp only[Option.some.injEq] at h;exact pVar_named h
   split at h
   ·rename_i hk
    split at h
    ·obtain⟨a,k1,v1,h1,h2⟩:=bind_ok h
     rw[(musT_ok h2).2.1]
     exact fun _=>hT k hk
    ·simp only[Option.some.injEq,Res.ok.injEq] at h;rw[<- h.1];exact fun _=>hT k hk
   split at h
   ·split at h
    ·simp only[Option.some.injEq,Res.ok.injEq] at h;rw[<- h.1];simp [named,Ex.kind]
    ·simp at h
   split at h
   ·obtain⟨a,k1,v1,h1,h2⟩:=bind_ok h
    rw[(musT_ok h2).2.1]
    exact ih.oper _ _ _ _ _ _ _ h1
   split at h
   ·exact ih.list _ _ _ _ _ _ h
   ·simp at h
  ·intro k v d x k' v' h
   rw[pList] at h
   have hn:named (.mk 97 [91,93] 0 0 []):=by simp [named,Ex.name]
   split at h
   ·simp only[Option.some.injEq,Res.ok.injEq] at h;rw[<- h.1];exact hn
   ·obtain⟨y,k1,v1,h1,h2⟩:=bind_ok h
    split at h2
    ·obtain⟨z,k2,v2,h3,h4⟩:=bind_ok h2
     rw[(musT_ok h4).2.1]
     exact mkList_named (ih.oper _ _ _ _ _ _ _ h3)
    ·rw[(musT_ok h2).2.1]
     exact mkList_named hn
  ·intro l k v d x k' v' h
   rw[pOper] at h
   split at h
   ·exact ih.prim _ _ _ _ _ _ h
   ·obtain⟨y,k1,v1,h1,h2⟩:=bind_ok h
    exact ih.more _ _ _ _ _ _ _ _ (ih.oper _ _ _ _ _ _ _ h1) h2
  ·intro l y k v d x k' v' hy h
   rw[pMore] at h
   split at h
   ·simp only[Option.some.injEq,Res.ok.injEq] at h;rw[<- h.1];exact hy
   ·rename_i o ho
    obtain⟨z,k1,v1,h1,h2⟩:=bind_ok h
    refine ih.more _ _ _ _ _ _ _ _ ?_ h2
    intro _
    have hm:=List.mem_of_find?_eq_some ho
    rw[show(Ex.mk 99 o 0 0 [y,z]).name=o from rfl]
    rintro rfl
    revert hm
    unfold ops
    split<;>simp
end Go.Proofs.YtilpjhceemaplaaGreatDoor.P
namespace Go.Proofs.YtilpjhceemaplaaGreatDoor
open Go.RowKit
noncomputable def litT:Code:=match Tryz.f127.body with
 | some (.seq _ (.seq _ (.seq _ (.seq _ (.seq _ (.seq _ c))))))=>c
 | _=>.skip
noncomputable def litR:Code:=match litT with | .seq (.seq c _) _=>c | _=>.skip
noncomputable def litC:Code:=match litT with | .seq (.seq _ c) _=>c | _=>.skip
noncomputable def litS:Code:=match litT with | .seq _ c=>c | _=>.skip
def P.litEnd(at_:Nat)(x:P.Ex)(k':Nat)(vars':List P.Bs):Option (P.Res P.Bd):=
 if P.noGoal x then some (.err 2 at_)
 else if 0≤P.tests x.name/\P.tests x.name≠x.args.length then some (.err 3 at_)
 else some (.ok (.mk 103 x.name x.args []) k' vars')
theorem P.litEnd_of{at_ k':Nat}{kind:Nat}{name:P.Bs}{nn:Int}{kk:Nat}{args:List P.Ex}{vars':List P.Bs}{t:Int}(hn:P.noGoal (.mk kind name nn kk args)=false)(ht:t=P.tests name) :
  P.litEnd at_ (.mk kind name nn kk args) k' vars'=if 0≤t/\t≠args.length then some (.err 3 at_) else some (.ok (.mk 103 name args []) k' vars'):=by
 subst ht
 unfold P.litEnd
 rw[if_neg (by simp [hn])]
 rfl
theorem sLitEnd{pb tb bx bxx at_:Nat}{T:List P.Tok}{k2:Nat}{v2:List P.Bs}{d:Nat}{w w3:World}{x:P.Ex}{q:P.Res P.Bd}(u1 u2 u3 u6 u7 u8 u9 u10 u11 u12 u13 u14 u15 u16 u17 u18 u19 u20 u21 u22 u23 u24 u25 u26 u27 u28 u29 u30 u31 u32 u33 u34 u35 u36 u37 u38 u39 u40 u41 u42 u43 u44 u45 u46 u47 u48 u49 u50 u51 u52 u53 u54 u55 u56 u57 u58 u59 u60 u61 u62 u63 u64 u65 u66 u67 u68 u69 u70 u71 u72 u73 u74 u75 u76 u77 u78 u79 u80 u81 u82 u83 u84 u85 u86 u87 u88 u89 u90 u91 u92 u93 u94 u95 u96 u97 u98 u99 u100 u101 u102 u103 u104 u105 u106 u107 u108 u109 u110 u111 u112 u113 u114 u115 u116 u117 u118 u119 u120 u121 u122 u123 u124 u125 u126 u127 u128 u129 u130 u131 u132 u133 u134 u135 u136 u137 u138 u139 u140 u141 u142 u143 u144 u145 u146 u147 u148 u149 u150 u151 u152 u153 u154 u155 u156 u157 u158 u159:Value)
  (hp:SP w3 pb tb T k2 v2 (d+1)) (hd:d+1≤8) (hf:SFr pb w w3) (hpb:pb<w.heap.size) (hb0:w.heap.size≤bxx) (hbx:w3.heap[bxx]?=some (.cells #[pp pb] 154))
  (hx:IsEx (Nu w w3) w3 (pp bx) x) (hnm:P.named x) (hq:P.litEnd at_ x k2 v2=some q) (K1 K:Act->World->Prop) (hK:∀ a w',litS.wp Tryz.prog (bodyPostD Tryz.prog Tryz.f127 (SPost IsBd pb tb T d w q)) a w'->K a w') (hK1:∀ a w',litC.wp Tryz.prog (Exit.then K (bodyPostD Tryz.prog Tryz.f127 (SPost IsBd pb tb T d w q))) a w'->K1 a w') :
  litR.wp Tryz.prog (Exit.then K1 (Exit.then K (bodyPostD Tryz.prog Tryz.f127 (SPost IsBd pb tb T d w q)))) { tmps:=#[pp pb,u1,u2,u3,zi at_,pp bx,u6,u7,u8,u9,u10,u11,u12,u13,u14,u15,u16,u17,u18,u19,u20,u21,u22,u23,u24,u25,u26,u27,u28,u29,u30,u31,u32,u33,u34,u35,u36,u37,u38,u39,u40,u41,u42,u43,u44,u45,u46,u47,u48,u49,u50,u51,u52,u53,u54,u55,u56,u57,u58,u59,u60,u61,u62,u63,u64,u65,u66,u67,u68,u69,u70,u71,u72,u73,u74,u75,u76,u77,u78,u79,u80,u81,u82,u83,u84,u85,u86,u87,u88,u89,u90,u91,u92,u93,u94,u95,u96,u97,u98,u99,u100,u101,u102,u103,u104,u105,u106,u107,u108,u109,u110,u111,u112,u113,u114,u115,u116,u117,u118,u119,u120,u121,u122,u123,u124,u125,u126,u127,u128,u129,u130,u131,u132,u133,u134,u135,u136,u137,u138,u139,u140,u141,u142,u143,u144,u145,u146,u147,u148,u149,u150,u151,u152,u153,u154,u155,u156,u157,u158,u159],defers:=[deferB bxx] } w3:=by
 change ∀ a w',Code.wp _ (Code.seq _ _) _ a w'->_ at hK
 change ∀ a w',Code.wp _ (Code.cond _ _ _) _ a w'->_ at hK1
 have HP:=Lib.hid hp
 have HF:=Lib.hid hf
 have HBX:=Lib.hid hbx
 have HX:=Lib.hid hx
 have HQ:=Lib.hid hq
 cases x with
 | mk kind name nn kk args=>
 unfold IsEx at hx
 obtain⟨bx',av,vs,e1,hF,hcell,h4,h5⟩:=hx
 injection e1 with e1
 injection e1 with e1
 injection e1 with e1 _ _
 subst e1
 obtain⟨pa,pn,pc,rfl,hpn,-,-⟩:=h4.shape
 have hlen:=h5.length
 have c0:w3.cell? ⟨bx,0,none⟩=some (.int .u8 kind):=cellOf hcell rfl
 have c1:w3.cell? ⟨bx,1,none⟩=some (.string (bs name)):=cellOf hcell rfl
 have c4:w3.cell? ⟨bx,4,none⟩=some (.slice pa pn pc):=cellOf hcell rfl
 have hbl:=hF.2
 have HA:Hid (IsSlEx (Nu w w3) w3 (.slice pa pn pc) args):=Lib.hid ⟨vs,h4,h5⟩
 have hpl:pn=args.length:=by omega
 have hl:=ltOf hbx
 clear hF hcell h4 h5 hp hf hbx hq hpn hlen
 change Code.wp _ (Code.region _ _ _) _ _ _
 by_cases hA:kind≠97/\kind≠99
 ·have k1:((kind:Int) == 97)=false:=by simp;omega
  have k2':((kind:Int) == 99)=false:=by simp;omega
  go_wp2_with fail
  refine(sFail _ _ _ pb HP.out.sb).mono ?_
  rintro e2 w5 ⟨⟨b,rfl,hb3,hl3⟩,hf5,hs5⟩
  have e:=HQ.out
  rw[P.litEnd,if_pos (by simp [P.noGoal,P.Ex.kind,hA])] at e
  simp only[Option.some.injEq] at e
  subst e
  have:=HF.out.size
  exact doorPanic hpb hs5 (hf5.keep HBX.out (by omega) (by decide)) ⟨b,rfl,hb3,by omega⟩ (HF.out.trans hf5)
 ·obtain⟨cc,rr,rfl⟩:∃ cc rr,name=cc::rr:=by
   cases name with
   | nil=>exact absurd rfl (hnm (by simp only[P.Ex.kind];omega))
   | cons a l=>exact⟨a,l,rfl⟩
  have hkk:kind=97\/kind=99:=by omega
  clear hA hnm HX
  by_cases hB:cc::rr=[46]
  ·rw[hB] at c1 HQ
   rcases hkk with rfl | rfl
   all_goals (
    go_wp2_with fail
    refine(sFail _ _ _ pb HP.out.sb).mono ?_
    rintro e2 w5 ⟨⟨b,rfl,hb3,hl3⟩,hf5,hs5⟩
    have e:=HQ.out
    rw[P.litEnd,if_pos (by simp [P.noGoal,P.Ex.name])] at e
    simp only[Option.some.injEq] at e
    subst e
    have:=HF.out.size
    exact doorPanic hpb hs5 (hf5.keep HBX.out (by omega) (by decide)) ⟨b,rfl,hb3,by omega⟩ (HF.out.trans hf5))
  by_cases hC:cc::rr=[91,93]
  ·rw[hC] at c1 HQ
   rcases hkk with rfl | rfl
   all_goals (
    go_wp2_with fail
    refine(sFail _ _ _ pb HP.out.sb).mono ?_
    rintro e2 w5 ⟨⟨b,rfl,hb3,hl3⟩,hf5,hs5⟩
    have e:=HQ.out
    rw[P.litEnd,if_pos (by simp [P.noGoal,P.Ex.name])] at e
    simp only[Option.some.injEq] at e
    subst e
    have:=HF.out.size
    exact doorPanic hpb hs5 (hf5.keep HBX.out (by omega) (by decide)) ⟨b,rfl,hb3,by omega⟩ (HF.out.trans hf5))
  have d1:(cc::rr == ([46]:P.Bs))=false:=by simpa using hB
  have d2:(cc::rr == ([91,93]:P.Bs))=false:=by simpa using hC
  rcases hkk with rfl | rfl
  all_goals (
   go_wp2_with fail
   refine(sClass cc).mono ?_
   rintro e2 w5 ⟨rfl,rfl⟩
   by_cases hD:P.cls cc=115
   ·
    rw[hD]
    have d4:((cc::rr == ([109,111,100]:P.Bs))=false)\/cc::rr=[109,111,100]:=by
     by_cases h:cc::rr=[109,111,100]
     ·exact .inr h
     ·exact .inl (by simpa using h)
    rcases d4 with d4 | d4
    ·go_wp2_with fail
     have hM:¬ (cc::rr=[109,111,100]):=by simpa using d4
     refine(sTests _).mono ?_
     rintro e2 w6 ⟨rfl,rfl⟩
     obtain⟨tt,htt⟩:∃ tt,tt=P.tests (cc::rr):=⟨_,rfl⟩
     rw[<- htt]
     have e:=HQ.out
     rw[P.litEnd_of (by simp [P.noGoal,P.Ex.name,P.Ex.kind,P.Ex.args];simp [hD,hB,hC,hM] at *;simp_all) htt] at e
     have HE:=Lib.hid e
     clear e htt
     by_cases h0:0≤tt
     ·by_cases h1:tt=pn
      ·have h1':(tt == (pn:Int))=true:=by simpa using h1
       subst h1
       go_wp2_with fail
       have e:=HE.out
       rw[if_neg (by rintro ⟨_,h⟩;exact h (by rw[hpl]))] at e
       simp only[Option.some.injEq] at e
       subst e
       have HP2:Hid (SP w6.drew pb tb T k2 v2 (d+1)):=Lib.hid (HP.out.ext fun b o h=>h)
       have HF2:Hid (SFr pb w w6.drew):=Lib.hid HF.out.drew
       have HBX2:Hid (w6.drew.heap[bxx]?=some (.cells #[pp pb] 154)):=Lib.hid HBX.out
       have HA2:Hid (IsSlEx (Nu w w6.drew) w6.drew (.slice pa pn pc) args):=Lib.hid (IsSlEx.mono (F:=Nu w w6) (F':=Nu w w6.drew) (w:=w6) (w':=w6.drew) (fun b hb=>hb) (fun b o _ _ ho=>ho) HA.out)
       have hl2:bxx<w6.drew.heap.size:=hl
       have hz:=HF2.out.size
       go_still_tail 9,(by kernel_rfl)
       change wpList _ _ _ _ _ w6.drew
       generalize w6.drew=w7 at HP2 HF2 HBX2 HA2 hl2 hz ⊢
       clear HP HF HBX HA hl hbl c0 c1 c4
       go_wp2_with fail
       have HA3:=HA2.out
       rw[hpl] at HA3
       refine doorRet (j:=2) stab_Bd rfl hpb (HP2.out.ext fun b o h=>blk_alloc_old h) (by omega) (blk_alloc_old HBX2.out) ?_ (HF2.out.alloc _)
       exact isBd_node ⟨by omega,by rw[size_alloc];omega⟩ (blk_alloc_new _ _) (IsSlEx.mono (F:=Nu w w7) (F':=Nu w _) (w:=w7) (fun b hb=>⟨hb.1,by rw[size_alloc];have:=hb.2;omega⟩) (fun b o _ _ ho=>blk_alloc_old ho) HA3) isSlBd_nil
      ·have h1':(tt == (pn:Int))=false:=by simpa using h1
       have h1n:=h1
       have h0n:=h0
       go_wp2_with fail
       have e:=HE.out
       rw[if_pos ⟨h0n,by rw[<- hpl];exact h1n⟩] at e
       simp only[Option.some.injEq] at e
       subst e
       refine(sFail _ _ _ pb HP.out.sb).mono ?_
       rintro e2 w7 ⟨⟨b,rfl,hb3,hl3⟩,hf5,hs5⟩
       have:=HF.out.size
       exact doorPanic hpb hs5 (hf5.keep HBX.out (by omega) (by decide)) ⟨b,rfl,hb3,by omega⟩ (HF.out.trans hf5)
     ·go_wp2_with fail
      have e:=HE.out
      rw[if_neg (by rintro ⟨h,_⟩;omega)] at e
      simp only[Option.some.injEq] at e
      subst e
      have HP2:Hid (SP w6.drew pb tb T k2 v2 (d+1)):=Lib.hid (HP.out.ext fun b o h=>h)
      have HF2:Hid (SFr pb w w6.drew):=Lib.hid HF.out.drew
      have HBX2:Hid (w6.drew.heap[bxx]?=some (.cells #[pp pb] 154)):=Lib.hid HBX.out
      have HA2:Hid (IsSlEx (Nu w w6.drew) w6.drew (.slice pa pn pc) args):=Lib.hid (IsSlEx.mono (F:=Nu w w6) (F':=Nu w w6.drew) (w:=w6) (w':=w6.drew) (fun b hb=>hb) (fun b o _ _ ho=>ho) HA.out)
      have hl2:bxx<w6.drew.heap.size:=hl
      have hz:=HF2.out.size
      go_still_tail 9,(by kernel_rfl)
      change wpList _ _ _ _ _ w6.drew
      generalize w6.drew=w7 at HP2 HF2 HBX2 HA2 hl2 hz ⊢
      clear HP HF HBX HA hl hbl c0 c1 c4
      go_wp2_with fail
      have HA3:=HA2.out
      rw[hpl] at HA3
      refine doorRet (j:=2) stab_Bd rfl hpb (HP2.out.ext fun b o h=>blk_alloc_old h) (by omega) (blk_alloc_old HBX2.out) ?_ (HF2.out.alloc _)
      exact isBd_node ⟨by omega,by rw[size_alloc];omega⟩ (blk_alloc_new _ _) (IsSlEx.mono (F:=Nu w w7) (F':=Nu w _) (w:=w7) (fun b hb=>⟨hb.1,by rw[size_alloc];have:=hb.2;omega⟩) (fun b o _ _ ho=>blk_alloc_old ho) HA3) isSlBd_nil
    ·rw[d4] at c1 HQ
     have d5:(([109,111,100]:P.Bs) == [109,111,100])=true:=by decide
     by_cases hp2:pn=2
     ·have h2':((pn:Int) == 2)=true:=by simp;omega
      go_wp2_with fail
      have e:=HQ.out
      rw[P.litEnd,if_pos (by simp [P.noGoal,P.Ex.name,P.Ex.args];omega)] at e
      simp only[Option.some.injEq] at e
      subst e
      refine(sFail _ _ _ pb HP.out.sb).mono ?_
      rintro e2 w7 ⟨⟨b,rfl,hb3,hl3⟩,hf5,hs5⟩
      have:=HF.out.size
      exact doorPanic hpb hs5 (hf5.keep HBX.out (by omega) (by decide)) ⟨b,rfl,hb3,by omega⟩ (HF.out.trans hf5)
     ·have h2':((pn:Int) == 2)=false:=by simp;omega
      go_wp2_with fail
      refine(sTests _).mono ?_
      rintro e2 w6 ⟨rfl,rfl⟩
      have htt:P.tests [109,111,100]=-1:=by decide
      rw[htt]
      have e:=HQ.out
      rw[P.litEnd_of (t:=-1) (by simp [P.noGoal,P.Ex.name,P.Ex.kind,P.Ex.args];first | omega | (simp [P.cls];omega) | decide) (by decide)] at e
      rw[if_neg (by rintro ⟨h,_⟩;omega)] at e
      simp only[Option.some.injEq] at e
      subst e
      go_wp2_with fail
      have HP2:Hid (SP w6.drew pb tb T k2 v2 (d+1)):=Lib.hid (HP.out.ext fun b o h=>h)
      have HF2:Hid (SFr pb w w6.drew):=Lib.hid HF.out.drew
      have HBX2:Hid (w6.drew.heap[bxx]?=some (.cells #[pp pb] 154)):=Lib.hid HBX.out
      have HA2:Hid (IsSlEx (Nu w w6.drew) w6.drew (.slice pa pn pc) args):=Lib.hid (IsSlEx.mono (F:=Nu w w6) (F':=Nu w w6.drew) (w:=w6) (w':=w6.drew) (fun b hb=>hb) (fun b o _ _ ho=>ho) HA.out)
      have hl2:bxx<w6.drew.heap.size:=hl
      have hz:=HF2.out.size
      go_still_tail 9,(by kernel_rfl)
      change wpList _ _ _ _ _ w6.drew
      generalize w6.drew=w7 at HP2 HF2 HBX2 HA2 hl2 hz ⊢
      clear HP HF HBX HA hl hbl c0 c1 c4
      go_wp2_with fail
      have HA3:=HA2.out
      rw[hpl] at HA3
      refine doorRet (j:=2) stab_Bd rfl hpb (HP2.out.ext fun b o h=>blk_alloc_old h) (by omega) (blk_alloc_old HBX2.out) ?_ (HF2.out.alloc _)
      exact isBd_node ⟨by omega,by rw[size_alloc];omega⟩ (blk_alloc_new _ _) (IsSlEx.mono (F:=Nu w w7) (F':=Nu w _) (w:=w7) (fun b hb=>⟨hb.1,by rw[size_alloc];have:=hb.2;omega⟩) (fun b o _ _ ho=>blk_alloc_old ho) HA3) isSlBd_nil
   ·have d3:((P.cls cc:Int) == 115)=false:=by simp;omega
    go_wp2_with fail
    refine(sFail _ _ _ pb HP.out.sb).mono ?_
    rintro e2 w5 ⟨⟨b,rfl,hb3,hl3⟩,hf5,hs5⟩
    have e:=HQ.out
    rw[P.litEnd,if_pos (by simp [P.noGoal,P.Ex.name,hD])] at e
    simp only[Option.some.injEq] at e
    subst e
    have:=HF.out.size
    exact doorPanic hpb hs5 (hf5.keep HBX.out (by omega) (by decide)) ⟨b,rfl,hb3,by omega⟩ (HF.out.trans hf5))
def P.litTail(T:List P.Tok)(f at_ d:Nat)(x:P.Ex)(k':Nat)(vars':List P.Bs):Option (P.Res P.Bd):=
 match P.cmpAt T k' with
 | some c=>P.Res.bind (P.pOper T f 0 (k'+1) vars' (d+1)) fun y k'' vars''=>some (.ok (.mk 103 c [x,y] []) k'' vars'')
 | none=>
  if P.noGoal x then some (.err 2 at_)
  else if 0≤P.tests x.name/\P.tests x.name≠x.args.length then some (.err 3 at_)
  else some (.ok (.mk 103 x.name x.args []) k' vars')
theorem sLit_term{f:Nat}{pb tb:Nat}{T:List P.Tok}{k:Nat}{vars:List P.Bs}{d:Nat}{w:World}(hp:SP w pb tb T k vars d)(hc:STabC w tb)(hd:d+1≤8)(h1:P.isT T k [33]=false)(h2:P.isT T k [92,43]=false)
  (h3:P.isT T k [40]=false) {r:P.Res P.Ex} (hr:P.pOper T f 0 k vars (d+1)=some r) {q:P.Res P.Bd} (hq:P.Res.bind (some r) (fun x k' vars'=>P.litTail T f (P.tk T k).pos d x k' vars')=some q) :
  Calls Tryz.prog 127 #[pp pb] w (SPost IsBd pb tb T d w q):=by
 have H:=Lib.hid hp
 have HC:=Lib.hid hc
 have HR:=Lib.hid hr
 have HQ:=Lib.hid hq
 have H1:=Lib.hid h1
 have H2:=Lib.hid h2
 have H3:=Lib.hid h3
 have HK:=not_paren h3
 have hpb:=hp.d2.2.2
 have htp:=hp.lt
 clear hp hc hr hq h1 h2 h3
 go_enter_defers Tryz.func127,Tryz.ntmps127
 go_wp2_with fail
 refine(sDeeper_yes H.out hd).mono ?_
 rintro e w1 ⟨rfl,hs1,hx1,hp1,hf1⟩
 have HX1:=Lib.hid hx1
 have HF1:=Lib.hid hf1
 have HP1:=Lib.hid hp1
 have HS1:=Lib.hid hs1
 clear hx1 hf1 hp1 hs1
 go_wp2_with fail
 refine(sIs_no HP1.out [33] H1.out (by decide)).mono ?_
 rintro e w2 ⟨rfl,rfl⟩
 go_wp2_with fail
 refine(sIs_no HP1.out [92,43] H2.out (by decide)).mono ?_
 rintro e w2 ⟨rfl,rfl⟩
 have hp1:=HP1.out
 obtain⟨n,c,h0,l1,l2,-,l3,l4⟩:=hp1.l0
 obtain⟨t0,t1,t2⟩:=hp1.toks.at hp1.kt
 have htb:tb<w1.heap.size:=Nat.lt_trans hp1.lt hp1.d2.2.2
 have hpw:=hp1.d2.2.2
 obtain⟨kd,hkd⟩:∃ kd:Int,kd=((P.tk T k).kind:Int):=⟨_,rfl⟩
 obtain⟨tx,htx⟩:∃ tx,tx=(P.tk T k).text:=⟨_,rfl⟩
 rw[<- hkd] at t0
 rw[<- htx] at t1
 have hkt:(tx == [40])=false\/tx=[40]/\(kd == 4)=false:=by
  rw[htx]
  by_cases h:(P.tk T k).text=[40]
  ·right
   refine⟨h,?_⟩
   rcases HK with h' | h'
   ·rw[hkd];simp;omega
   ·exact absurd h h'
  ·left;simpa using h
 clear hp1 hkd htx HK
 rcases hkt with hkt | ⟨rfl,hkt⟩
 all_goals (
  go_wp2_with fail
  refine((cExprs f).go HP1.out (by omega) HR.out).mono ?_
  have hs1:=HS1.out
  cases r with
  | err c0 a0=>
   rintro e2 w4 ⟨⟨b,rfl,hb3,hl3⟩,hf4,hs4⟩
   have e:=HQ.out
   simp only[P.Res.bind,Option.some.injEq] at e
   subst e
   exact doorPanic hpb hs4 (hf4.keep HX1.out (by omega) (by decide)) ⟨b,rfl,hb3,by omega⟩ (HF1.out.trans hf4)
  | ok x k2 v2=>
  rintro e2 w3 ⟨v,rfl,hv,hp3,hf3⟩
  obtain⟨bx,rfl,hbx⟩:=hv.shape
  have HV3:=Lib.hid hv
  have HP3:=Lib.hid hp3
  have HF3:=Lib.hid hf3
  have HC3:=Lib.hid (HC.out.fr (HF1.out.trans hf3) htp)
  obtain⟨cf,hcf⟩:∃ cf:Nat->P.Bs,∀ j,cf j=P.compares.getD j []:=⟨_,fun _=>rfl⟩
  have hct:∀ j,j<9->w3.cell? ⟨3,j,none⟩=some (.string (bs (cf j))):=fun j hj=>by rw[hcf];exact HC3.out.cell j hj
  have HCF:=Lib.hid hcf
  have hgl:=HC3.out.lt
  have hpw3:=hp3.d2.2.2
  have a0:=hct 0 (by decide)
  have a1:=hct 1 (by decide)
  have a2:=hct 2 (by decide)
  have a3:=hct 3 (by decide)
  have a4:=hct 4 (by decide)
  have a5:=hct 5 (by decide)
  have a6:=hct 6 (by decide)
  have a7:=hct 7 (by decide)
  have a8:=hct 8 (by decide)
  have hgw:3<w3.heap.size:=by omega
  have e:=HQ.out
  simp only[P.Res.bind] at e
  unfold P.litTail at e
  have HE:=Lib.hid e
  have HX3:=Lib.hid (hf3.keep HX1.out (by omega) (by decide))
  have hz3:=hf3.size
  clear hv hp3 hf3 hct t0 t1 t2 h0 e hcf
  go_wp2_with fail
  go_loop [7,66] (fun s i=>∃ j:Nat,j≤9/\i=zi j/\∀ j',j'<j->P.isT T k2 (cf j')=false) (fun _ i=>9-(intOf i).toNat)
  case atStart=>exact⟨0,Nat.zero_le _,rfl,fun j hj=>absurd hj (Nat.not_lt_zero _)⟩
  case round=>
   obtain⟨j,hj,rfl,hno⟩:=hrel
   have HNO:=Lib.hid hno
   clear hno
   by_cases hlt:j<9
   ·have hj9:j=0\/j=1\/j=2\/j=3\/j=4\/j=5\/j=6\/j=7\/j=8:=by omega
    have hsd:(cf j).all P.digit=false:=by rw[HCF.out];rcases hj9 with rfl | rfl | rfl | rfl | rfl | rfl | rfl | rfl | rfl<;>decide
    have hfind:P.isT T k2 (cf j)=true->P.cmpAt T k2=some (cf j):=fun h=>by
     rw[P.cmpAt,P.find_some_of (j:=j) (by simp [P.compares];omega) (by rw[<- HCF.out];exact h) (fun j' hj'=>by rw[<- HCF.out];exact HNO.out j' hj'),<- HCF.out]
    have HFI:=Lib.hid hfind
    have HSD:=Lib.hid hsd
    clear hfind hsd hj
    have hix:∀ w,(Instr.index 300 (.agg #[.string (bs (cf 0)),.string (bs (cf 1)),.string (bs (cf 2)),.string (bs (cf 3)),.string (bs (cf 4)),.string (bs (cf 5)),.string (bs (cf 6)),.string (bs (cf 7)),.string (bs (cf 8))]) (zi j)).run Tryz.prog w = .ok (.string (bs (cf j))) w:=
     fun w=>idxArr _ _ _ _ _ _ _ _ _ j hlt _ (by rcases hj9 with rfl | rfl | rfl | rfl | rfl | rfl | rfl | rfl | rfl<;>rfl) w
    clear hj9
    by_cases hcc:P.isT T k2 (cf j)=true
    ·(
      go_wp2_with fail
      refine(sIs_yes HP3.out _ hcc).mono ?_
      rintro e w4 ⟨rfl,hp4,hf4⟩
      have HP4:=Lib.hid hp4
      have HF4:=Lib.hid hf4
      have hz4:=hf4.size
      clear hp4 hf4 a0 a1 a2 a3 a4 a5 a6 a7 a8
      go_wp2_with fail
      have e:=HE.out
      rw[HFI.out hcc] at e
      dsimp only at e
      cases hq:P.pOper T f 0 (k2+1) v2 (d+1) with
      | none=>rw[hq] at e;simp [P.Res.bind] at e
      | some q2=>
      rw[hq] at e
      refine((cExprs f).go HP4.out (by omega) hq).mono ?_
      cases q2 with
      | err c0 a0=>
       rintro e2 w5 ⟨⟨b,rfl,hb3,hl3⟩,hf5,hs5⟩
       simp only[P.Res.bind,Option.some.injEq] at e
       subst e
       exact doorPanic hpb hs5 (hf5.keep (HF4.out.keep HX3.out (by omega) (by decide)) (by omega) (by decide)) ⟨b,rfl,hb3,by omega⟩ (((HF1.out.trans HF3.out).trans HF4.out).trans hf5)
      | ok y k5 v5=>
      rintro e2 w5 ⟨v,rfl,hv,hp5,hf5⟩
      simp only[P.Res.bind,Option.some.injEq] at e
      subst e
      obtain⟨by',rfl,hby⟩:=hv.shape
      have hz5:=hf5.size
      have HV5:=Lib.hid hv
      have HP5:=Lib.hid hp5
      have HF5:=Lib.hid hf5
      clear hv hp5 hf5 hby hq HE
      go_wp2_with fail
      have hst:∀ o o',((w5.alloc o).alloc o').heap.size=w5.heap.size+2:=fun o o'=>by rw[size_alloc,size_alloc]
      refine doorRet (j:=2) stab_Bd rfl hpb (HP5.out.ext fun b o h=>blk_alloc_old (blk_alloc_old h)) (by omega) (blk_alloc_old (blk_alloc_old (HF5.out.keep (HF4.out.keep HX3.out (by omega) (by decide)) (by omega) (by decide)))) ?_
       (((((HF1.out.trans HF3.out).trans HF4.out).trans HF5.out).alloc _).alloc _)
      refine isBd_node ⟨by omega,by rw[hst];omega⟩ (blk_new1 (by rw[size_alloc])) (isSlEx_two ⟨by omega,by rw[hst];omega⟩ (blk_alloc_old (blk_alloc_new _ _)) ?_ ?_) isSlBd_nil
      ·exact IsEx.mono (fun b hb=>⟨by have:=hb.1;omega,by rw[hst];have:=hb.2;omega⟩)
        (fun b o hb ha ho=>blk_alloc_old (blk_alloc_old (SFr.ast HF5.out ha (SFr.ast HF4.out ha ho (by have:=hb.1;omega)) (by have:=hb.1;omega)))) _ _ HV3.out
      ·exact IsEx.mono (fun b hb=>⟨by have:=hb.1;omega,by rw[hst];have:=hb.2;omega⟩)
        (fun b o hb ha ho=>blk_alloc_old (blk_alloc_old ho)) _ _ HV5.out)
    ·(
      go_wp2_with fail
      refine(sIs_no HP3.out _ (by simpa using hcc) HSD.out).mono ?_
      rintro e w4 ⟨rfl,rfl⟩
      have hcc':=Lib.hid hcc
      clear hcc
      go_wp2_with fail
      refine⟨⟨j+1,by omega,by simp,fun j' hj'=>?_⟩,?_⟩
      ·rcases Nat.lt_or_ge j' j with h | h
       ·exact HNO.out j' h
       ·obtain rfl:j'=j:=by omega
        simpa using hcc'.out
      ·simp only[intOf];omega)
   ·have:j=9:=by omega
    subst this
    have hnone:P.cmpAt T k2=none:=P.find_none_of fun j' hj'=>by rw[<- HCF.out];exact HNO.out j' hj'
    have e:=HE.out
    rw[hnone] at e
    dsimp only at e
    have hnm:=(P.namedT T (fun k hk=>by
     rcases Nat.lt_or_ge k T.length with h | h
     ·obtain⟨c,r,e1,_⟩:=H.out.tw.words _ (tk_mem h) hk
      rw[e1];simp
     ·rw[show P.tk T k=P.tk T T.length by simp [P.tk,List.getD_eq_getElem?_getD,List.getElem?_eq_none h]] at hk
      simp [P.tk] at hk) f).oper _ _ _ _ _ _ _ HR.out
    have hvv:IsEx (Nu w w3) w3 (pp bx) x:=IsEx.mono (F:=Nu w1 w3) (fun b hb=>⟨by have:=hb.1;omega,hb.2⟩) (fun b o _ _ ho=>ho) _ _ HV3.out
    have hle:P.litEnd (P.tk T k).pos x k2 v2=some q:=e
    have HVV:=Lib.hid hvv
    have HLE:=Lib.hid hle
    have HNM:=Lib.hid hnm
    clear hvv hle hnm e HE hnone a0 a1 a2 a3 a4 a5 a6 a7 a8
    go_upto_region 19 with(fail)
    exact sLitEnd _ _ _ _ _ _ _ _ _ _ _ _ _ _ _ _ _ _ _ _ _ _ _ _ _ _ _ _ _ _ _ _ _ _ _ _ _ _ _ _ _ _ _ _ _ _ _ _ _ _ _ _ _ _ _ _ _ _ _ _ _ _ _ _ _ _ _ _ _ _ _ _ _ _ _ _ _ _ _ _ _ _ _ _ _ _ _ _ _ _ _ _ _ _ _ _ _ _ _ _ _ _ _ _ _ _ _ _ _ _ _ _ _ _ _ _ _ _ _ _ _ _ _ _ _ _ _ _ _ _ _ _ _ _ _ _ _ _ _ _ _ _ _ _ _ _ _ _ _ _ _ _ _ _ _ _ _ HP3.out hd (HF1.out.trans HF3.out) hpb (Nat.le_refl _) HX3.out HVV.out HNM.out HLE.out _ _ (by assumption) (by assumption))
end Go.Proofs.YtilpjhceemaplaaGreatDoor
namespace Go.Proofs.YtilpjhceemaplaaGreatDoor
open Go.RowKit
theorem cLit{f:Nat}(hlit:CLit f)(hbody:CBody f):CLit (f+1):=⟨by
 intro pb tb T k vars d w q hp hc hd hq
 by_cases h8:d+1≤8
 ·rw[P.pLit,if_neg (by unfold P.maxDepth;omega)] at hq
  by_cases h1:P.isT T k [33]=true
  ·rw[if_pos h1] at hq
   simp only[Option.some.injEq] at hq
   subst hq
   exact sLit_cut hp h8 h1
  rw[if_neg h1] at hq
  have h1':P.isT T k [33]=false:=by simpa using h1
  by_cases h2:P.isT T k [92,43]=true
  ·rw[if_pos h2] at hq
   cases hr:P.pLit T f (k+1) vars (d+1) with
   | none=>rw[hr] at hq;simp [P.Res.bind] at hq
   | some r=>rw[hr] at hq;exact sLit_not hlit hp hc h8 h1' h2 hr hq
  rw[if_neg h2] at hq
  have h2':P.isT T k [92,43]=false:=by simpa using h2
  by_cases h3:P.isT T k [40]=true
  ·rw[if_pos h3] at hq
   cases hr:P.pBody T f (k+1) vars (d+1) with
   | none=>rw[hr] at hq;simp [P.Res.bind] at hq
   | some r=>rw[hr] at hq;exact sLit_paren hbody hp hc h8 h1' h2' h3 hr hq
  rw[if_neg h3] at hq
  have h3':P.isT T k [40]=false:=by simpa using h3
  cases hr:P.pOper T f 0 k vars (d+1) with
  | none=>rw[hr] at hq;simp [P.Res.bind] at hq
  | some r=>rw[hr] at hq;exact sLit_term hp hc h8 h1' h2' h3' hr hq
 ·rw[P.pLit,if_pos (by unfold P.maxDepth;omega)] at hq
  simp only[Option.some.injEq] at hq
  subst hq
  exact sLit_deep hp (by omega) hd⟩
theorem bodiesAll(f:Nat):CLit f/\CRow f/\CBody f:=by
 induction f using Nat.strongRecOn with
 | ind f ih=>
  cases f with
  | zero=>exact⟨⟨fun _ _ _ h=>by simp [P.pLit] at h⟩,cRow0,cBody0⟩
  | succ f=>
   have hf:=ih f (Nat.lt_succ_self _)
   have hrow:CRow (f+1):=cRow fun m hm=>(ih m hm).1
   exact⟨cLit hf.1 hf.2.2,hrow,cBody hf.2.1 fun m hm=>(ih m (by omega)).2.2⟩
theorem cBodies(f:Nat):CBody f:=(bodiesAll f).2.2
end Go.Proofs.YtilpjhceemaplaaGreatDoor
namespace Go.Proofs.YtilpjhceemaplaaGreatDoor
open Go.RowKit Sx
def IsCl(F:Nat->Prop)(w:World)(v:Value)(c:P.Cl):Prop:=∃ b av bv va vc,v=pp b/\F b /\
 w.heap[b]?=some (.cells #[.string (bs c.name),av,bv,.slice va c.vars.length vc] 132)/\IsSlEx F w av c.args/\IsBd F w bv c.body
def IsCls(F:Nat->Prop)(w:World)(vs:List Value):List P.Cl->Prop
 | []=>vs=[]
 | x::xs=>∃ v r,vs=v::r/\IsCl F w v x/\IsCls F w r xs
def KeepA(F:Nat->Prop)(w w':World):Prop:=∀ b cs t,F b->t≠9->w.heap[b]?=some (.cells cs t (0,0))->w'.heap[b]?=some (.cells cs t (0,0))
theorem KeepA.ast{F:Nat->Prop}{w w':World}(h:KeepA F w w'):∀ b o,F b->astObj o->w.heap[b]?=some o->w'.heap[b]?=some o:=by
 intro b o hb ha ho
 cases o with
 | cells cs t z=>
  obtain⟨h1,rfl⟩:=ha
  refine h b cs t hb ?_ ho
  rintro rfl
  rcases h1 with h | h | h | h<;>cases h
 | _=>exact ha.elim
theorem IsCl.mono{F F':Nat->Prop}{w w':World}{v:Value}{c:P.Cl}(hf:∀ b,F b->F' b)(hw:KeepA F w w')(h:IsCl F w v c):IsCl F' w' v c:=by
 obtain⟨b,av,bv,va,vc,h1,h2,h3,h4,h5⟩:=h
 exact⟨b,av,bv,va,vc,h1,hf b h2,hw b _ _ h2 (by decide) h3,h4.mono hf hw.ast,IsBd.mono hf hw.ast _ _ h5⟩
theorem IsCls.mono{F F':Nat->Prop}{w w':World}(hf:∀ b,F b->F' b)(hw:KeepA F w w'):∀ (xs:List P.Cl) (vs:List Value),IsCls F w vs xs->IsCls F' w' vs xs
 | [],vs,h=>h
 | x::xs,vs,h=>by
  obtain⟨v,r,h1,h2,h3⟩:=h
  exact⟨v,r,h1,h2.mono hf hw,IsCls.mono hf hw xs r h3⟩
theorem IsCls.snoc{F:Nat->Prop}{w:World}{v:Value}{x:P.Cl}(hx:IsCl F w v x):∀ {xs:List P.Cl} {vs:List Value},IsCls F w vs xs->IsCls F w (vs++[v]) (xs++[x])
 | [],vs,h=>by
  have h:vs=[]:=h
  subst h
  exact⟨v,[],rfl,hx,rfl⟩
 | y::ys,vs,h=>by
  obtain⟨u,r,rfl,h2,h3⟩:=h
  exact⟨u,r++[v],rfl,h2,IsCls.snoc hx h3⟩
theorem SFr.keepA{pb:Nat}{F:Nat->Prop}{w w':World}(h:SFr pb w w')(hn:∀ b,F b->b≠pb):KeepA F w w':=fun b _ _ hb ht hc=>h.keep hc (hn b hb) ht
theorem SP.x{w:World}{pb tb:Nat}{T:List P.Tok}{k:Nat}{vars:List P.Bs}{d:Nat}(h:SP w pb tb T k vars d):∃ cap va vc cs,
  w.heap[pb]?=some (.cells #[.slice (some ⟨tb,k*3,none⟩) (T.length-k) (cap-k),.slice va vars.length vc,zi d] 160)/\T.length≤cap/\cap≤9223372036854775807/\T.length≤2001/\k<T.length /\
  w.heap[tb]?=some (.cells cs 157 (0,0))/\k*3+3≤cs.size/\(cs.toList.drop (k*3)).take 3=[zi (P.tk T k).kind,.string (bs (P.tk T k).text),zi (P.tk T k).pos] /\
  cs[k*3]?=some (zi (P.tk T k).kind)/\cs[k*3+1]?=some (.string (bs (P.tk T k).text))/\cs[k*3+2]?=some (zi (P.tk T k).pos):=by
 obtain⟨tw,lt,kt,nv,⟨-,cs,t1,t2⟩,cap,vv,h1,h2,h3,h4⟩:=h
 obtain⟨a,b,c⟩:=t2 k kt
 obtain⟨va,vc,rfl⟩:=own_slice h4
 have hc:=(Array.getElem?_eq_some_iff.1 c).1
 refine⟨cap,va,vc,cs,h3,h1,h2,tw.len,kt,t1,by omega,?_,a,b,c⟩
 apply List.ext_getElem?
 intro i
 rw[List.getElem?_take]
 match i with
 | 0=>simpa using a
 | 1=>simpa using b
 | 2=>simpa using c
 | i+3=>simp;omega
theorem SP.updO{w:World}{pb tb x:Nat}{T:List P.Tok}{k:Nat}{vars:List P.Bs}{d:Nat}{cs:Array Value}{t:TypeId}{z:Nat×Nat}{o:Obj}(h:SP w pb tb T k vars d)
  (hx:w.heap[x]?=some (.cells cs t z)) (ht:t≠9) (hp:x≠pb) (htb:tb<x):SP (upd w x o) pb tb T k vars d:=
 h.other hx ht hp htb fun b ob hb ho=>by rw[hp_upd_other hb];exact ho
theorem SP.extE{w w':World}{pb tb:Nat}{T:List P.Tok}{k:Nat}{vars:List P.Bs}{d:Nat}(h:SP w pb tb T k vars d)(hE:Ext w w'):SP w' pb tb T k vars d:=h.ext hE.ext
theorem SP.noVars{w:World}{pb tb:Nat}{T:List P.Tok}{k:Nat}{vars:List P.Bs}{d cap:Nat}{vv:Value}(h:SP w pb tb T k vars d)
  (hb:w.heap[pb]?=some (.cells #[.slice (some ⟨tb,k*3,none⟩) (T.length-k) (cap-k),vv,zi d] 160)) (h1:T.length≤cap) (h2:cap≤9223372036854775807) :
  SP (upd w pb (.cells #[.slice (some ⟨tb,k*3,none⟩) (T.length-k) (cap-k),.slice none 0 0,zi d] 160)) pb tb T k [] d:=by
 obtain⟨tw,lt,kt,nv,⟨tt,cs,t1,t2⟩,_⟩:=h
 refine⟨tw,lt,kt,by simp,⟨tt.ext fun b o hb ho=>by rw[hp_upd_other (by omega)];exact ho,cs,by rw[hp_upd_other (by omega)];exact t1,t2⟩,cap,.slice none 0 0,h1,h2,hp_upd_same rfl (ltOf hb),World.ownsRow_nil _ _ _ _⟩
theorem SP.onU{w:World}{pb tb:Nat}{T:List P.Tok}{k:Nat}{vars:List P.Bs}{d cap n' c' o':Nat}{vv:Value}(h:SP w pb tb T k vars d)
  (hb:w.heap[pb]?=some (.cells #[.slice (some ⟨tb,k*3,none⟩) (T.length-k) (cap-k),vv,zi d] 160)) (hk:k+1<T.length) (hn:n'=T.length-(k+1)) (hc:c'=cap-(k+1)) (ho:o'=(k+1)*3) :
  SP (upd w pb (.cells #[.slice (some ⟨tb,o',none⟩) n' c',vv,zi d] 160)) pb tb T (k+1) vars d:=by
 subst hn hc ho
 refine h.set hk ((FrM.refl _ _).upd (.inl fun _=>.inl rfl)) (fun cap' vv' hb'=>?_) (fun b hb'=>hp_upd_other hb')
 rw[hb] at hb'
 obtain⟨tw,lt,kt,nv,toks,cap2,vv2,g1,g2,g3,g4⟩:=h
 simp only[Option.some.injEq,Obj.cells.injEq,and_true,Array.mk.injEq,List.cons.injEq,Value.slice.injEq] at hb'
 obtain⟨e1,e2⟩:=hb'
 subst e2
 have e3:cap-(k+1)=cap' - (k+1):=by omega
 rw[hp_upd_same rfl (ltOf hb),e3]
end Go.Proofs.YtilpjhceemaplaaGreatDoor
