/- A part of one proof (RD8, RD9, RM12, RM12b, RM13, RM14, AQ1, AL2, AL3, AL4, AL5). -/
import Derived.Test.YtilpjhceemaplaaGreatDoorPkAAO
import Derived.ProofKit
import Derived.LaidMore
import Derived.OpenShut
import Derived.LaidHandle
import Derived.LaidSub
import Derived.MakeChecks
import Derived.Stop.Joined
import Derived.Test.YtilpjhceemaplaaGreatDoorRows
import Derived.Lay
import Derived.JoinedOf
import Derived.ChangeMaps5
import Derived.Test.YtilpjhceemaplaaGreatDoorTie
import Derived.Test.YtilpjhceemaplaaGreatDoorCards
import Derived.SevenTiedAt
set_option linter.all false
set_option linter.unusedVariables false
set_option linter.unusedSimpArgs false
set_option maxRecDepth 100000
set_option maxHeartbeats 4000000
namespace Go.Proofs.YtilpjhceemaplaaGreatDoor
open Go.RowKit Sx
section
variable{O:Nat->Prop}
def XPost(O:Nat->Prop)(hb wb:Nat)(H:P.Hp)(w:World)(r:P.Xr)(e:Ending)(w':World):Prop:=e = .returned (.string (bs r.1))/\TSt O w' hb wb H r.2.1 r.2.2/\TFr hb wb w w'
structure CX(O:Nat->Prop)(f:Nat):Prop where
 text:∀ {w:World} {hb wb:Nat} {H:P.Hp} {c:Nat} {seen:List Nat} {t least:Nat} {r:P.Xr},H.Ok->H.nodes.length≤1000000000->TSt O w hb wb H c seen->t<H.nodes.length->seen.length≤c->r.2.1≤100000000 ->
  H.text f t least c seen=some r->Calls Tryz.prog 50 #[pp wb,zi (t:Nat),zi (least:Nat)] w (XPost O hb wb H w r)
 list:∀ {w:World} {hb wb:Nat} {H:P.Hp} {c:Nat} {seen:List Nat} {t:Nat} {r:P.Xr},H.Ok->H.nodes.length≤1000000000->TSt O w hb wb H c seen->t<H.nodes.length->(H.nd t).args.length=2->seen.length≤c->r.2.1≤100000000 ->
  H.list f t [91] c seen=some r->Calls Tryz.prog 90 #[pp wb,zi (t:Nat)] w (XPost O hb wb H w r)
theorem XPost.of{hb wb:Nat}{H:P.Hp}{w w1 w':World}{r:P.Xr}{e:Ending}(h:XPost O hb wb H w1 r e w')(hf:TFr hb wb w w1):XPost O hb wb H w r e w':=⟨h.1,h.2.1,hf.trans h.2.2⟩
theorem TSx.more{w w2:World}{hb wb:Nat}{H:P.Hp}{c:Nat}{seen:List Nat}{kv nv iv av tv rv:Value}{ars:List Value}{sv v':Value}{t:Nat}(h:TSx O w hb wb H c seen kv nv iv av tv rv ars sv)
  (ho:w2.ownsRow (wb+1) 3 1 v' (seen.length+1) ((seen.map fun n=>zi (n:Nat))++[zi (t:Nat)])) (hg:(w.alloc (.cells #[zi (t:Nat)] 3)).grownBy w2 sv.ownBlock) :
  TSx O (upd w2 wb (.cells #[pp hb,v'] 151)) hb wb H c (seen++[t]) kv nv iv av tv rv ars v'/\TFr hb wb w (upd w2 wb (.cells #[pp hb,v'] 151)) /\
   w2.heap[wb]?=some (.cells #[pp hb,sv] 151):=by
 have hE:Ext w (w.alloc (.cells #[zi (t:Nat)] 3)):=(FrM.refl _ _).alloc _
 have hsv:∀ k,sv.ownBlock=some k->wb+1≤k:=fun k hk=>(h.own.lt k hk).1
 have hf2:FrM (fun b _=>wb≤b) w w2:=⟨hg.os.trans hE.os,hg.tape.trans hE.tape,hg.output.trans hE.output,Nat.le_trans hE.size hg.size,fun b o hb' hm=>by
  have h1:=hE.ext _ _ hb'
  rw[hg.block b (ltOf h1) (fun e=>hm (by have:=hsv b e.symm;omega))];exact h1⟩
 have hcw:w2.heap[wb]?=some (.cells #[pp hb,sv] 151):=by
  have h1:=hE.ext _ _ h.cell
  rw[hg.block wb (ltOf h1) (fun e=>by have:=hsv wb e.symm;omega)];exact h1
 have l2:=ltOf hcw
 have hf3:FrM (fun b _=>wb≤b) w (upd w2 wb (.cells #[pp hb,v'] 151)):=hf2.upd (.inl fun _=>Nat.le_refl _)
 obtain⟨g1,g2⟩:=h.h.frT (fun b hb=>h.olt b (h.lt b hb)) (fun _ h=>h) hf3
 refine⟨⟨g1,fun b hb=>h.lt b (g2 b hb),h.olt,hp_upd_same rfl l2,?_⟩,hf3.mono fun _ _ _ h=>.inr h,hcw⟩
 have:=own_upd (o:=.cells #[pp hb,v'] 151) ho (show wb<wb+1 by omega)
 rw[List.length_append,List.map_append]
 exact this
def zb77:=(zA zG0 (zA @sh_Pr_writer_text.eq_1 (zA @br_83_1 (zA @fa_151_0 (zA @fa_151_1 (zA @fa_93_0 (zA @fa_93_1 (zA @fa_93_2 (zA @fa_93_3 (zA @fa_93_6 (zA @ix_41 (zA @ix_83 (zA @ix_89 (zA @ix_90 (zA @ix_91 (zA @ld_2 (zA @ld_3 (zA @ld_41 (zA @ld_5 (zA @ld_79 (zA @ld_83 (zA @ld_89 (zA @ld_9 (zA @ld_90 (zA @ld_91 (zA @ln_83 (zA @st_3 @st_83)))))))))))))))))))))))))))
set_option maxHeartbeats 4000000 in
theorem cxText {f:Nat} (ih:∀ g,g≤f->CX O g) {w:World} {hb wb:Nat} {H:P.Hp} {c:Nat} {seen:List Nat} {t least:Nat} {r:P.Xr} (hk:H.Ok) (hn:H.nodes.length≤1000000000) (hs:TSt O w hb wb H c seen) (ht:t<H.nodes.length) (hsl:seen.length≤c) (hr:r.2.1≤100000000)
  (hq:H.text (f+1) t least c seen=some r):Calls Tryz.prog 50 #[pp wb,zi (t:Nat),zi (least:Nat)] w (XPost O hb wb H w r):=by
 obtain⟨rs,rc,rl⟩:=r
 simp only at hr
 obtain⟨kv,nv,iv,av,tv,rv,ars,sv,h⟩:=hs
 have hcell:=h.h.cell
 have hw:=h.cell
 have lw:=ltOf hw
 have lh:=ltOf hcell
 have hlt:=h.hlt
 have mo:=P.monH H f
 have hrc:=(P.monH H (f+1)).text _ _ _ _ _ _ _ hq
 rw[P.Hp.text] at hq
 simp only at hcell
 refine sh_Pr_writer_text_ok ?_
 simp (disch:=first|assumption|omega|simp only[zS]<;>omega|decide) only[zb77,simprocAttr,hw,hcell]
 have hc1:((c:Nat):Int)+1=((c+1:Nat):Int):=by omega
 rw[hc1]
 have h1:=h.cost (c+1)
 obtain⟨w1,hw1⟩:∃ y,y=upd w hb (.cells #[kv,nv,iv,av,tv,rv,zi ((c+1:Nat):Int),zi (H.most:Nat),zi (H.err:Nat)] 93):=⟨_,rfl⟩
 rw[<- hw1] at h1 ⊢
 have hf1:TFr hb wb w w1:=by rw[hw1];exact(FrM.refl _ _).upd (.inl fun _=>.inl rfl)
 refine(rSpent ⟨kv,nv,iv,av,tv,rv,ars,h1.h⟩).mono ?_
 rintro e w2 ⟨rfl,hE2⟩
 have h2:=h1.ext hE2
 have hf2:TFr hb wb w w2:=hf1.trans hE2.toM
 have hover:P.Hp.spent { H with cost:=c+1 }=H.over (c+1):=rfl
 rw[hover]
 by_cases hov:H.over (c+1)=true
 ·rw[if_pos hov] at hq
  simp only[Option.some.injEq,Prod.mk.injEq] at hq
  obtain⟨rfl,rfl,rfl⟩:=hq
  simp (disch:=first|assumption|omega|simp only[zS]<;>omega|decide) only[zb77,simprocAttr,hov]
  exact⟨rfl,⟨_,_,_,_,_,_,_,_,h2⟩,hf2⟩
 ·rw[if_neg hov] at hq
  have hov':H.over (c+1)=false:=by simpa using hov
  have hw2:=h2.cell
  simp (disch:=first|assumption|omega|simp only[zS]<;>omega|decide) only[zb77,simprocAttr,hov',hw2]
  cases hwk:H.walk f t with
  | none=>rw[hwk] at hq;cases hq
  | some t'=>
  rw[hwk] at hq
  dsimp only at hq
  have ht':=P.Hp.walk_lt' hk ht hwk
  refine(rWalk ⟨kv,nv,iv,av,tv,rv,ars,h2.h⟩ (H:={ H with cost:=c+1 }) hk.to (f:=f) (t':=t') ht hn (by
   have:∀ (f t:Nat),P.Hp.walk { H with cost:=c+1 } f t=H.walk f t:=by
    intro f
    induction f with
    | zero=>intro t;rfl
    | succ f ih=>intro t;rw[P.Hp.walk,P.Hp.walk];simp only[ih];rfl
   rw[this];exact hwk)).mono ?_
  rintro e w3 ⟨rfl,rfl⟩
  have hcell3:=h2.h.cell
  simp only at hcell3
  obtain⟨gk,ck,uk,rfl,k1,k2⟩:=h2.h.kd (t:=t') ht'
  obtain⟨gn,cn,un,rfl,k3,k4⟩:=h2.h.nm (t:=t') ht'
  obtain⟨gi,ci,ui,rfl,k5,k6⟩:=h2.h.nn (t:=t') ht'
  obtain⟨ga,ca,ua,va,rfl,k7,k8,k9⟩:=h2.h.an (t:=t') ht'
  have hnd:P.Hp.nd { H with cost:=c+1 } t'=H.nd t':=rfl
  rw[hnd] at k2 k4 k6 k9
  simp only at k1 k3 k5 k7 hcell3
  have e1:((t':Nat):Int).toNat=t':=by omega
  have hst:TSt O w3 hb wb H (c+1) seen:=⟨_,_,_,_,_,_,_,_,h2⟩
  by_cases h97:(H.nd t').kind=97
  ·have h97':(((H.nd t').kind:Nat):Int)=97:=by omega
   rw[if_pos h97] at hq
   simp only[Option.some.injEq,Prod.mk.injEq] at hq
   obtain⟨rfl,rfl,rfl⟩:=hq
   simp (disch:=first|assumption|omega|simp only[zS]<;>omega|decide) only[zb77,simprocAttr,hw2,hcell3,k1,k2,k3,k4,e1]
   exact⟨rfl,hst,hf2⟩
  have h97':¬ (((H.nd t').kind:Nat):Int)=97:=by omega
  rw[if_neg h97] at hq
  by_cases h110:(H.nd t').kind=110
  ·have h110':(((H.nd t').kind:Nat):Int)=110:=by omega
   rw[if_pos h110] at hq
   simp only[Option.some.injEq,Prod.mk.injEq] at hq
   obtain⟨rfl,rfl,rfl⟩:=hq
   simp (disch:=first|assumption|omega|simp only[zS]<;>omega|decide) only[zb77,simprocAttr,hw2,hcell3,k1,k2,k5,k6,e1]
   refine(rDecimal _ (hk.num _ ht').1 (hk.num _ ht').2 w3).mono ?_
   rintro e w4 ⟨rfl,rfl⟩
   exact⟨rfl,hst,hf2⟩
  have h110':¬ (((H.nd t').kind:Nat):Int)=110:=by omega
  rw[if_neg h110] at hq
  by_cases h118:(H.nd t').kind=118
  ·have h118':(((H.nd t').kind:Nat):Int)=118:=by omega
   rw[if_pos h118] at hq
   simp (disch:=first|assumption|omega|simp only[zS]<;>omega|decide) only[zb77,simprocAttr,hw2,hcell3,k1,k2,e1]
   obtain⟨as_,cs_,rfl⟩:=own_slice h2.own
   refine⟨fun m x w'=>w'=w3/\∃ j,x 8=zi (j:Nat)/\j≤seen.length/\m=seen.length-j/\∀ (i:Nat) (hi:i<seen.length),i<j->seen[i]≠t',⟨_,rfl,0,rfl,Nat.zero_le _,rfl,fun i _ h=>by omega⟩,?_⟩
   intro m x d w4 hI
   refine toPr ?_
   obtain⟨rfl,j,hx8,hj,rfl,hno⟩:=hI
   by_cases hjl:j<seen.length
   ·obtain⟨gs,cs',us,q1,q2,q3⟩:=own_at h2.own hjl
    simp only[Value.slice.injEq,true_and] at q1
    obtain⟨rfl,rfl⟩:=q1
    rw[List.getElem?_map,List.getElem?_eq_getElem hjl] at q3
    have ej:((j:Nat):Int).toNat=j:=by omega
    have q3':us[j]?=some (zi ((seen[j]:Nat):Int)):=q3
    by_cases heq:seen[j]=t'
    ·have heq':((seen[j]:Nat):Int)=(t':Int):=by omega
     have hix:seen.idxOf? t'=some j:=List.idxOf?_eq_some_iff.2 ⟨hjl,heq,fun i hi=>hno i (by omega) hi⟩
     rw[hix] at hq
     simp only[Option.some.injEq,Prod.mk.injEq] at hq
     obtain⟨rfl,rfl,rfl⟩:=hq
     simp (disch:=first|assumption|omega|simp only[zS]<;>omega|decide) only[zb77,simprocAttr,hw2,hx8,q2,q3',ej]
     have ejj:((j:Nat):Int)+1=((j+1:Nat):Int):=by omega
     rw[ejj]
     refine(rDecimalN w4 (j+1) (by omega)).mono ?_
     rintro e w5 ⟨rfl,rfl⟩
     have hl:(P.decN (j+1)).length≤19:=P.decN_len (by omega)
     simp (disch:=first|assumption|omega|simp only[zS]<;>omega|decide) only[zb77,simprocAttr]
     rw[bo_ads _ _ (by simp;omega)]
     exact⟨rfl,hst,hf2⟩
    ·have heq':¬ ((seen[j]:Nat):Int)=(t':Int):=by omega
     simp (disch:=first|assumption|omega|simp only[zS]<;>omega|decide) only[zb77,simprocAttr,hw2,hx8,q2,q3',ej]
     refine⟨_,by omega,j+1,by simp [sOf],by omega,rfl,fun i hi hij=>?_⟩
     by_cases e:i=j
     ·subst e;exact heq
     ·exact hno i hi (by omega)
   ·have hjs:j=seen.length:=by omega
    subst hjs
    have hix:seen.idxOf? t'=none:=List.idxOf?_eq_none_iff.2 fun hm=>by
     obtain⟨i,hi,he⟩:=List.getElem_of_mem hm
     exact hno i hi hi he
    rw[hix] at hq
    simp only[Option.some.injEq,Prod.mk.injEq] at hq
    obtain⟨rfl,rfl,rfl⟩:=hq
    simp (disch:=first|assumption|omega|simp only[zS]<;>omega|decide) only[zb77,simprocAttr,hw2,hx8]
    have l4:=ltOf hw2
    refine wr_app1 (by kernel_rfl) Tryz.infoInt rfl (by decide) (h2.own.alloc _) (hp_alloc_new rfl) rfl (by omega) (by rw[size_alloc];omega) ?_
    intro v' w5 ho5 hg5 hv5
    obtain⟨a5,c5,rfl⟩:=own_slice ho5
    obtain⟨m1,m2,m3⟩:=h2.more ho5 hg5
    have l5:=ltOf m3
    simp (disch:=first|assumption|omega|simp only[zS]<;>omega|decide) only[zb77,simprocAttr,m3]
    refine Calls.mono (rDecimalN _ (seen.length+1) (by omega)) ?_
    rintro e w6 ⟨rfl,rfl⟩
    have hl:(P.decN (seen.length+1)).length≤19:=P.decN_len (by omega)
    simp (disch:=first|assumption|omega|simp only[zS]<;>omega|decide) only[zb77,simprocAttr]
    rw[bo_ads _ _ (by simp;omega)]
    exact⟨rfl,⟨_,_,_,_,_,_,_,_,m1⟩,hf2.trans m2⟩
  have h118':¬ (((H.nd t').kind:Nat):Int)=118:=by omega
  rw[if_neg h118] at hq
  simp (disch:=first|assumption|omega|simp only[zS]<;>omega|decide) only[zb77,simprocAttr,hw2,hcell3,k1,k2,e1]
  refine(rPower hst ht' hn).mono ?_
  rintro e w4 ⟨rfl,rfl⟩
  have hargs:=hk.args _ ht'
  have hal:((H.nd t').args.map fun n=>(zi (n:Nat):Value)).length=(H.nd t').args.length:=by simp
  simp (disch:=first|assumption|omega|simp only[zS]<;>omega|decide) only[zb77,simprocAttr,hw2,hcell3,k7,k8,e1]
  by_cases hp:H.power t'≠0
  ·rw[if_pos hp] at hq
   obtain⟨hl2,hp2⟩:=P.Hp.power_two hp
   have hp':(0:Int)<((H.power t':Nat):Int):=by omega
   obtain⟨ga2,cs2,rfl,q1,q2,q3⟩:=k9.at' (j:=0) (by rw[hal];omega)
   obtain⟨ga3,cs3,e3,q4,q5,q6⟩:=k9.at' (j:=1) (by rw[hal];omega)
   simp only[Value.slice.injEq,Option.some.injEq,Addr.mk.injEq,true_and,and_true] at e3
   obtain⟨rfl,e4⟩:=e3
   rw[q2] at q5
   injection q5 with q5
   injection q5 with q5 _ _
   subst q5
   rw[hal,hl2] at k8
   rw[hal,hl2]
   have q3':cs2[0]?=some (zi (((H.nd t').args.getD 0 0:Nat):Int)):=by
    rw[q3];simp [List.getD_eq_getElem?_getD,show 0<(H.nd t').args.length by omega]
   have q6':cs2[1]?=some (zi (((H.nd t').args.getD 1 0:Nat):Int)):=by
    rw[q6];simp [List.getD_eq_getElem?_getD,show 1<(H.nd t').args.length by omega]
   obtain⟨sa,ca1,la1,hq1,hq'⟩:=P.Xb_some hq
   obtain⟨sb,ca2,la2,hq2,hq''⟩:=P.Xb_some hq'
   simp only[Option.some.injEq,Prod.mk.injEq] at hq''
   obtain⟨hrs,rfl,rfl⟩:=hq''
   have mo1:=mo.text _ _ _ _ _ _ _ hq1
   have mo2:=mo.text _ _ _ _ _ _ _ hq2
   have t1:=P.getD_lt (i:=0) hargs.2 (by omega)
   have t2:=P.getD_lt (i:=1) hargs.2 (by omega)
   have le1:=(P.lenH hk f).text _ _ _ _ _ _ _ t1 (by omega) (by omega) hq1
   have le2:=(P.lenH hk f).text _ _ _ _ _ _ _ t2 (by omega) (by omega) hq2
   simp (disch:=first|assumption|omega|simp only[zS]<;>omega|decide) only[zb77,simprocAttr,q2,q3']
   refine Calls.mono ((ih f (Nat.le_refl _)).text hk hn hst t1 (by omega) (by simp only;omega) hq1) ?_
   rintro e w5 ⟨rfl,hs5,hf5⟩
   have qb5:w5.heap[ga2]?=some (.cells cs2 3 (0,0)):=hf5.block _ _ q2 (by obtain⟨p1,p2⟩:=q1;exact fun hh=>hh.elim (fun h=>p1 (.inl h)) (fun h=>by omega))
   have hpi:((H.power t':Nat):Int)+1=((H.power t'+1:Nat):Int):=by omega
   simp (disch:=first|assumption|omega|simp only[zS]<;>omega|decide) only[zb77,simprocAttr,qb5,q6',hpi]
   refine Calls.mono ((ih f (Nat.le_refl _)).text hk hn hs5 t2 (by simp only;omega) (by simp only;omega) hq2) ?_
   rintro e w6 ⟨rfl,hs6,hf6⟩
   have hf06:=(hf2.trans hf5).trans hf6
   obtain⟨kv6,nv6,iv6,av6,tv6,rv6,ars6,sv6,h6⟩:=id hs6
   have hw6:=h6.cell
   have hcell6:=h6.h.cell
   simp only at hcell6 hw6
   obtain⟨gn6,cn6,un6,rfl,k36,k46⟩:=h6.h.nm (t:=t') ht'
   have hnd6:∀ c,P.Hp.nd { H with cost:=c } t'=H.nd t':=fun _=>rfl
   rw[hnd6] at k46
   have lw6:=ltOf hw6
   simp (disch:=first|assumption|omega|simp only[zS]<;>omega|decide) only[zb77,simprocAttr,hw6,hcell6,k36,k46,e1]
   have hnl:=hk.name _ ht'
   refine⟨fun x w'=>w'=w6/\x 15 = .string (bs (if (H.nd t').name=[109,111,100] then [32,109,111,100,32] else(H.nd t').name)),?_,?_⟩
   ·by_cases hm:(H.nd t').name=[109,111,100]
    ·simp (disch:=first|assumption|omega|simp only[zS]<;>omega|decide) only[zb77,simprocAttr,hm]
    ·simp (disch:=first|assumption|omega|simp only[zS]<;>omega|decide) only[zb77,simprocAttr,hm]
   ·rintro x w' ⟨rfl,hx15⟩ d
    obtain⟨op,hop⟩:∃ op:P.Bs,op=if (H.nd t').name=[109,111,100] then [32,109,111,100,32] else(H.nd t').name:=⟨_,rfl⟩
    rw[<- hop] at hx15 hrs
    have hopl:op.length≤20:=by rw[hop];split<;>simp_all
    by_cases hpl:H.power t'<least
    ·rw[if_pos hpl] at hrs
     simp (disch:=first|assumption|omega|simp only[zS]<;>omega|decide) only[zb77,simprocAttr,hx15]
     rw[bo_ads _ _ (by simp;omega)]
     rw[hx15]
     rw[xrT,bo_ads _ _ (by simp;omega),xrT,bo_ads _ _ (by simp;omega),xrO,bo_ads _ _ (by simp;omega)]
     refine⟨?_,hs6,hf06⟩
     rw[<- hrs]
     simp
    ·rw[if_neg hpl] at hrs
     simp (disch:=first|assumption|omega|simp only[zS]<;>omega|decide) only[zb77,simprocAttr,hx15]
     rw[bo_ads _ _ (by omega),bo_ads _ _ (by simp;omega)]
     refine⟨?_,hs6,hf06⟩
     rw[<- hrs]
  ·rw[if_neg hp] at hq
   have hp0:H.power t'=0:=by simpa using hp
   have hp':¬ (0:Int)<((H.power t':Nat):Int):=by omega
   obtain⟨a9,c9,rfl⟩:=k9.sl
   rw[hal] at k8 ⊢
   simp (disch:=first|assumption|omega|simp only[zS]<;>omega|decide) only[zb77,simprocAttr]
   refine⟨fun _ w'=>w'=w4/\¬ ((H.nd t').name=[46]/\(H.nd t').args.length=2),?_,?_⟩
   ·refine⟨fun x w'=>w'=w4/\x 189 = .bool (decide ((H.nd t').name=[46]/\(H.nd t').args.length=2)),?_,?_⟩
    ·by_cases hnm:(H.nd t').name=[46]
     ·simp (disch:=first|assumption|omega|simp only[zS]<;>omega|decide) only[zb77,simprocAttr,hw2,hcell3,k3,k4,e1,hnm]
      simp [sOf]
      omega
     ·simp (disch:=first|assumption|omega|simp only[zS]<;>omega|decide) only[zb77,simprocAttr,hw2,hcell3,k3,k4,e1,hnm]
      simp [sOf,hnm]
    ·rintro x w' ⟨rfl,hx⟩ d
     rw[hx]
     by_cases hc:(H.nd t').name=[46]/\(H.nd t').args.length=2
     ·rw[bs_pos _ _ hc,if_pos hc] at *
      refine Calls.mono ((ih f (Nat.le_refl _)).list hk hn hst ht' hc.2 (by omega) (by simp only;omega) hq) ?_
      rintro e w5 hp5
      have hp6:=hp5.of hf2
      obtain⟨rfl,hp7⟩:=hp6
      exact⟨rfl,hp7⟩
     ·rw[bs_neg _ _ hc]
      exact⟨rfl,hc⟩
   ·rintro _ w' ⟨rfl,hc⟩ d
    rw[if_neg hc] at hq
    have hnl:=hk.name _ ht'
    simp (disch:=first|assumption|omega|simp only[zS]<;>omega|decide) only[zb77,simprocAttr,hw2,hcell3,k3,k4,e1]
    rw[bo_ads _ _ (by simp;omega)]
    refine⟨fun m x w''=>∃ j out cj sj,x 17=zi (j:Nat)/\x 16 = .string (bs out)/\j≤(H.nd t').args.length/\m=(H.nd t').args.length-j/\TSt O w'' hb wb H cj sj/\TFr hb wb w w''/\TFr hb wb w' w''/\sj.length≤cj/\c+1≤cj /\
     out.length≤40+40*cj/\∃ g,g≤f/\H.targs g ((H.nd t').args.drop j) (decide (j=0)) out cj sj=some (rs,rc,rl),
     ⟨_,0,_,c+1,seen,rfl,rfl,Nat.zero_le _,rfl,hst,hf2,FrM.refl _ _,by omega,Nat.le_refl _,by simp;omega,f,Nat.le_refl _,by simpa using hq⟩,?_⟩
    intro m x d w5 hI
    refine toPr ?_
    obtain⟨j,out,cj,sj,hx17,hx16,hj,rfl,hs5,hf5,hf45,hsj,hcj,hout,g,hg,hqj⟩:=hI
    by_cases hjl:j<(H.nd t').args.length
    ·rw[List.drop_eq_getElem_cons hjl] at hqj
     cases g with
     | zero=>simp [P.Hp.targs] at hqj
     | succ g=>
     rw[P.Hp.targs] at hqj
     obtain⟨sa,ca1,la1,hq1,hq2⟩:=P.Xb_some hqj
     have mo1:=(P.monH H g).text _ _ _ _ _ _ _ hq1
     have mo2:=(P.monH H g).targs _ _ _ _ _ _ _ _ hq2
     have tj:(H.nd t').args[j]<H.nodes.length:=hargs.2 _ (List.getElem_mem _)
     have le1:=(P.lenH hk g).text _ _ _ _ _ _ _ tj hsj (by omega) hq1
     obtain⟨ga2,cs2,e3,q1,q2,q3⟩:=k9.at' (j:=j) (by rw[hal];exact hjl)
     simp only[Value.slice.injEq,true_and] at e3
     obtain⟨rfl,rfl⟩:=e3
     have hf25:w5.heap[ga2]?=some (.cells cs2 3 (0,0)):=hf45.block _ _ q2 (by obtain⟨p1,p2⟩:=q1;exact fun hh=>hh.elim (fun h=>p1 (.inl h)) (fun h=>by omega))
     have q3':cs2[j]?=some (zi (((H.nd t').args[j]:Nat):Int)):=by
      rw[q3];simp [hjl]
     have ej:((j:Nat):Int).toNat=j:=by omega
     have hjl':((j:Nat):Int)<(((H.nd t').args.length:Nat):Int):=by omega
     simp (disch:=first|assumption|omega|simp only[zS]<;>omega|decide) only[zb77,simprocAttr,hx17,hjl']
     refine⟨fun x' w''=>x' 16 = .string (bs ((if decide (j=0) then out else out++[44])++sa))/\TSt O w'' hb wb H ca1 la1/\TFr hb wb w w''/\TFr hb wb w' w'',?_,?_⟩
     ·simp (disch:=first|assumption|omega|simp only[zS]<;>omega|decide) only[zb77,simprocAttr,hx17,hx16,hf25,q3',ej]
      refine Calls.mono ((ih g (by omega)).text hk hn hs5 tj hsj (by simp only;omega) hq1) ?_
      rintro e w6 ⟨rfl,hs6,hf6⟩
      refine⟨fun x' w''=>w''=w6/\x' 16 = .string (bs (if decide (j=0) then out else out++[44])),?_,?_⟩
      ·by_cases hj0:j=0
       ·subst hj0
        simp (disch:=first|assumption|omega|simp only[zS]<;>omega|decide) only[zb77,simprocAttr,hx17,hx16]
       ·have hj0':(0:Int)<((j:Nat):Int):=by omega
        simp (disch:=first|assumption|omega|simp only[zS]<;>omega|decide) only[zb77,simprocAttr,hx17,hx16]
        rw[bo_ads _ _ (by simp;omega)]
        simp (disch:=first|assumption|omega|simp only[zS]<;>omega|decide) only[zb77,simprocAttr,hj0]
        try rfl
      ·rintro x' w'' ⟨rfl,hx'⟩ d'
       rw[hx',xrT,bo_ads _ _ (by split<;>simp<;>omega)]
       simp (disch:=first|assumption|omega|simp only[zS]<;>omega|decide) only[zb77,simprocAttr]
       exact⟨hs6,hf5.trans hf6,hf45.trans hf6⟩
     ·rintro x' w'' ⟨hx',hs6,hf6,hf46⟩ d'
      have ej1:((j:Nat):Int)+1=((j+1:Nat):Int):=by omega
      simp (disch:=first|assumption|omega|simp only[zS]<;>omega|decide) only[zb77,simprocAttr,hx17,hx',ej1]
      refine⟨_,by omega,j+1,_,ca1,la1,rfl,rfl,by omega,rfl,hs6,hf6,hf46,by omega,by omega,?_,g,by omega,hq2⟩
      have:((if decide (j=0) then out else out++[44])++sa).length≤out.length+1+sa.length:=by split<;>simp<;>omega
      omega
    ·have hje:j=(H.nd t').args.length:=by omega
     subst hje
     rw[List.drop_length] at hqj
     cases g with
     | zero=>simp [P.Hp.targs] at hqj
     | succ g=>
     rw[P.Hp.targs] at hqj
     simp only[Option.some.injEq,Prod.mk.injEq] at hqj
     obtain⟨rfl,rfl,rfl⟩:=hqj
     simp (disch:=first|assumption|omega|simp only[zS]<;>omega|decide) only[zb77,simprocAttr,hx17,hx16]
     rw[bo_ads _ _ (by simp;omega)]
     exact⟨rfl,hs5,hf5⟩
end
section
variable{O:Nat->Prop}
theorem P.lenX{H:P.Hp}(hk:H.Ok){f t least c:Nat}{seen:List Nat}{s:P.Bs}{c':Nat}{l:List Nat}(ht:t<H.nodes.length)(h1:seen.length≤c)(h2:c'≤100000000000)(h:H.text f t least c seen=some (s,c',l)):s.length+10≤40*(c' - c)/\c+1≤c'/\l.length≤c':=by
 have:=(P.lenH hk f).text _ _ _ _ _ _ _ ht h1 h2 h
 have:=(P.monH H f).text _ _ _ _ _ _ _ h
 omega
def zb78:=(zA zG0 (zA @sh_Pr_writer_list.eq_1 (zA @fa_151_0 (zA @fa_93_0 (zA @fa_93_1 (zA @fa_93_3 (zA @ix_41 (zA @ix_83 (zA @ix_89 (zA @ix_91 (zA @ld_3 (zA @ld_41 (zA @ld_5 (zA @ld_79 (zA @ld_83 (zA @ld_89 (zA @ld_9 (zA @ld_91 @ln_83))))))))))))))))))
set_option maxHeartbeats 4000000 in
theorem cxList {f:Nat} (ih:∀ g,g≤f->CX O g) {w:World} {hb wb:Nat} {H:P.Hp} {c:Nat} {seen:List Nat} {t:Nat} {r:P.Xr} (hk:H.Ok) (hn:H.nodes.length≤1000000000) (hs:TSt O w hb wb H c seen) (ht:t<H.nodes.length) (hl2:(H.nd t).args.length=2) (hsl:seen.length≤c) (hr:r.2.1≤100000000)
  (hq:H.list (f+1) t [91] c seen=some r):Calls Tryz.prog 90 #[pp wb,zi (t:Nat)] w (XPost O hb wb H w r):=by
 obtain⟨rs,rc,rl⟩:=r
 simp only at hr
 refine sh_Pr_writer_list_ok ?_
 refine⟨fun m x w'=>∃ t out c seen,x 1=zi (t:Nat)/\x 5 = .string (bs out)/\t<H.nodes.length/\(H.nd t).args.length=2/\TSt O w' hb wb H c seen/\TFr hb wb w w'/\seen.length≤c/\out.length≤40+40*c/\m≤f+1/\H.list m t out c seen=some (rs,rc,rl),
  ⟨f+1,t,[91],c,seen,rfl,rfl,ht,hl2,hs,FrM.refl _ _,hsl,by simp;omega,Nat.le_refl _,hq⟩,?_⟩
 intro m x d w1 hI
 refine toPr ?_
 clear hq hs hsl hl2 ht
 obtain⟨t,out,c,seen,hx1,hx5,ht,hl2,hs,hf1,hsl,hout,hm,hq⟩:=hI
 cases m with
 | zero=>simp [P.Hp.list] at hq
 | succ g=>
 have hmo:=(P.monH H (g+1)).list _ _ _ _ _ _ _ hq
 rw[P.Hp.list] at hq
 obtain⟨sa,c2,l2,hq1,hq2⟩:=P.Xb_some hq
 obtain⟨kv,nv,iv,av,tv,rv,ars,sv,h⟩:=id hs
 have hargs:=hk.args _ ht
 have hal:((H.nd t).args.map fun n=>(zi (n:Nat):Value)).length=(H.nd t).args.length:=by simp
 have hnd:∀ c t,P.Hp.nd { H with cost:=c } t=H.nd t:=fun _ _=>rfl
 have hcell:=h.h.cell
 have hw:=h.cell
 simp only at hcell
 obtain⟨ga,ca,ua,va,rfl,k7,k8,k9⟩:=h.h.an (t:=t) ht
 rw[hnd] at k9
 obtain⟨ga2,cs2,rfl,q1,q2,q3⟩:=k9.at' (j:=0) (by rw[hal];omega)
 obtain⟨ga3,cs3,e3,q4,q5,q6⟩:=k9.at' (j:=1) (by rw[hal];omega)
 simp only[Value.slice.injEq,Option.some.injEq,Addr.mk.injEq,true_and,and_true] at e3
 obtain⟨rfl,e4⟩:=e3
 rw[q2] at q5
 injection q5 with q5
 injection q5 with q5 _ _
 subst q5
 rw[hal,hl2] at k8
 have q3':cs2[0]?=some (zi (((H.nd t).args.getD 0 0:Nat):Int)):=by
  rw[q3];simp [List.getD_eq_getElem?_getD,show 0<(H.nd t).args.length by omega]
 have q6':cs2[1]?=some (zi (((H.nd t).args.getD 1 0:Nat):Int)):=by
  rw[q6];simp [List.getD_eq_getElem?_getD,show 1<(H.nd t).args.length by omega]
 have e1:((t:Nat):Int).toNat=t:=by omega
 have t1:=P.getD_lt (i:=0) hargs.2 (by omega)
 have t2:=P.getD_lt (i:=1) hargs.2 (by omega)
 simp (disch:=first|assumption|omega|simp only[zS]<;>omega|decide) only[zb78,simprocAttr,hx1,hx5,hw,hcell,k7,k8,q2,q3',e1]
 have hc2:c2≤rc:=by
  split at hq2
  ·cases hq2
  split at hq2
  ·simp only[Option.some.injEq,Prod.mk.injEq] at hq2;omega
  split at hq2
  ·simp only[Option.some.injEq,Prod.mk.injEq] at hq2;omega
  split at hq2
  ·have:=(P.monH H g).list _ _ _ _ _ _ _ hq2;omega
  ·obtain⟨y,c3,l3,h3,h4⟩:=P.Xb_some hq2
   simp only[Option.some.injEq,Prod.mk.injEq] at h4
   have:=(P.monH H g).text _ _ _ _ _ _ _ h3
   omega
 obtain⟨le1,le2,le3⟩:=P.lenX hk t1 hsl (by omega) hq1
 refine Calls.mono ((ih g (by omega)).text hk hn hs t1 hsl (by simp only;omega) hq1) ?_
 rintro e w2 ⟨rfl,hs2,hf2⟩
 have hf12:=hf1.trans hf2
 obtain⟨kv,nv,iv,av,tv2,rv2,ars2,sv2,h2⟩:=id hs2
 have hqb:w2.drew.heap[ga2]?=some (.cells cs2 3 (0,0)):=hf2.block _ _ q2 (by obtain⟨p1,p2⟩:=q1;exact fun hh=>hh.elim (fun h=>p1 (.inl h)) (fun h=>by omega))
 simp (disch:=first|assumption|omega|simp only[zS]<;>omega|decide) only[zb78,simprocAttr,hx5]
 rw[bo_ads _ _ (by omega)]
 have h3:=h2.ext ((FrM.refl (fun _ _=>False) w2).drew)
 obtain⟨w3,hw3⟩:∃ y,y=w2.drew:=⟨_,rfl⟩
 have hf23:TFr hb wb w2 w3:=by rw[hw3];exact(FrM.refl _ w2).drew
 rw[<- hw3] at h3 hqb
 have hf13:=hf12.trans hf23
 have hcell3:=h3.h.cell
 have hwc2:=h2.cell;have hwc3:=h3.cell
 simp only at hcell3
 simp (disch:=first|assumption|omega|simp only[zS]<;>omega|decide) only[zb78,simprocAttr,<- hw3,hwc2,hwc3,hcell3,hqb,q6']
 cases hwk:H.walk g ((H.nd t).args.getD 1 0) with
 | none=>rw[hwk] at hq2;cases hq2
 | some t'=>
 rw[hwk] at hq2
 dsimp only at hq2
 have ht':=P.Hp.walk_lt' hk t2 hwk
 refine Calls.mono (rWalk ⟨kv,nv,iv,av,tv2,rv2,ars2,h3.h⟩ (H:={ H with cost:=c2 }) hk.to (f:=g) (t':=t') t2 hn (by
  have:∀ (f t:Nat),P.Hp.walk { H with cost:=c2 } f t=H.walk f t:=by
   intro f
   induction f with
   | zero=>intro t;rfl
   | succ f ih=>intro t;rw[P.Hp.walk,P.Hp.walk];simp only[ih];rfl
  rw[this];exact hwk)) ?_
 rintro e w4 ⟨rfl,rfl⟩
 simp (disch:=first|assumption|omega|simp only[zS]<;>omega|decide) only[zb78,simprocAttr,hwc3]
 refine Calls.mono (rSpent ⟨kv,nv,iv,av,tv2,rv2,ars2,h3.h⟩) ?_
 rintro e w5 ⟨rfl,hE5⟩
 have h5:=h3.ext hE5
 have hf15:=hf13.trans hE5.toM
 have hover:P.Hp.spent { H with cost:=c2 }=H.over c2:=rfl
 rw[hover]
 have hst5:TSt O w5 hb wb H c2 l2:=⟨_,_,_,_,_,_,_,_,h5⟩
 by_cases hov:H.over c2=true
 ·rw[if_pos hov] at hq2
  simp only[Option.some.injEq,Prod.mk.injEq] at hq2
  obtain⟨rfl,rfl,rfl⟩:=hq2
  simp (disch:=first|assumption|omega|simp only[zS]<;>omega|decide) only[zb78,simprocAttr,hov]
  exact⟨rfl,hst5,hf15⟩
 rw[if_neg hov] at hq2
 have hov':H.over c2=false:=by simpa using hov
 have hwc5:=h5.cell
 have hcell5:=h5.h.cell
 simp only at hcell5
 obtain⟨gk,ck,uk,rfl,k1,k2⟩:=h5.h.kd (t:=t') ht'
 obtain⟨gn,cn,un,rfl,k3,k4⟩:=h5.h.nm (t:=t') ht'
 obtain⟨gb,cb,ub,vb,rfl,m7,m8,m9⟩:=h5.h.an (t:=t') ht'
 rw[hnd] at k2 k4 m9
 simp only at k1 k3 m7 hcell5
 have e2:((t':Nat):Int).toNat=t':=by omega
 have hargs':=hk.args _ ht'
 have hal':((H.nd t').args.map fun n=>(zi (n:Nat):Value)).length=(H.nd t').args.length:=by simp
 obtain⟨a9,c9,rfl⟩:=m9.sl
 rw[hal'] at m8
 simp (disch:=first|assumption|omega|simp only[zS]<;>omega|decide) only[zb78,simprocAttr,hov']
 refine⟨fun x' w'=>w'=w5/\¬ ((H.nd t').kind=97/\(H.nd t').name=[91,93]),?_,?_⟩
 ·refine⟨fun x' w'=>w'=w5/\x' 67 = .bool (decide ((H.nd t').kind=97/\(H.nd t').name=[91,93])),?_,?_⟩
  ·by_cases h97:(H.nd t').kind=97
   ·have h97':(((H.nd t').kind:Nat):Int)=97:=by omega
    by_cases hnm:(H.nd t').name=[91,93]
    ·simp (disch:=first|assumption|omega|simp only[zS]<;>omega|decide) only[zb78,simprocAttr,hwc5,hcell5,k1,k2,k3,k4,e2,hnm]
     simp [sOf,h97]
    ·simp (disch:=first|assumption|omega|simp only[zS]<;>omega|decide) only[zb78,simprocAttr,hwc5,hcell5,k1,k2,k3,k4,e2,hnm]
     simp [sOf,h97]
   ·have h97':¬ (((H.nd t').kind:Nat):Int)=97:=by omega
    simp (disch:=first|assumption|omega|simp only[zS]<;>omega|decide) only[zb78,simprocAttr,hwc5,hcell5,k1,k2,e2]
    simp [sOf,h97]
  ·rintro x' w' ⟨rfl,hx'⟩ d'
   rw[hx']
   by_cases hc:(H.nd t').kind=97/\(H.nd t').name=[91,93]
   ·rw[bs_pos _ _ hc,if_pos hc] at *
    simp only[Option.some.injEq,Prod.mk.injEq] at hq2
    obtain⟨rfl,rfl,rfl⟩:=hq2
    rw[xrO,bo_ads _ _ (by simp;omega)]
    exact⟨rfl,hst5,hf15⟩
   ·rw[bs_neg _ _ hc]
    exact⟨rfl,hc⟩
 ·rintro x' w' ⟨rfl,hc⟩ d'
  rw[if_neg hc] at hq2
  refine⟨fun x' w''=>w''=w'/\((H.nd t').kind=99/\(H.nd t').name=[46]/\(H.nd t').args.length=2),?_,?_⟩
  ·refine⟨fun x' w''=>w''=w'/\x' 107 = .bool (decide (¬ ((H.nd t').kind=99/\(H.nd t').name=[46]/\(H.nd t').args.length=2))),?_,?_⟩
   ·by_cases h97:(H.nd t').kind=99
    ·have h97':(((H.nd t').kind:Nat):Int)=99:=by omega
     by_cases hnm:(H.nd t').name=[46]
     ·simp (disch:=first|assumption|omega|simp only[zS]<;>omega|decide) only[zb78,simprocAttr,hwc5,hcell5,k1,k2,k3,k4,m7,m8,e2,hnm]
      simp [sOf,h97]
      try omega
     ·simp (disch:=first|assumption|omega|simp only[zS]<;>omega|decide) only[zb78,simprocAttr,hwc5,hcell5,k1,k2,k3,k4,e2,hnm]
      simp [sOf,h97,hnm]
    ·have h97':¬ (((H.nd t').kind:Nat):Int)=99:=by omega
     simp (disch:=first|assumption|omega|simp only[zS]<;>omega|decide) only[zb78,simprocAttr,hwc5,hcell5,k1,k2,e2]
     simp [sOf,h97]
   ·rintro x' w'' ⟨rfl,hx'⟩ d'
    rw[hx']
    by_cases hc3:(H.nd t').kind=99/\(H.nd t').name=[46]/\(H.nd t').args.length=2
    ·rw[bs_neg _ _ (by simpa using hc3)]
     exact⟨rfl,hc3⟩
    ·rw[bs_pos _ _ hc3]
     rw[if_neg hc3] at hq2
     obtain⟨sb,c6,l6,hq3,hq4⟩:=P.Xb_some hq2
     simp only[Option.some.injEq,Prod.mk.injEq] at hq4
     obtain⟨rfl,rfl,rfl⟩:=hq4
     obtain⟨le4,le5,le6⟩:=P.lenX hk ht' (by omega) (by omega) hq3
     refine Calls.mono ((ih g (by omega)).text hk hn hst5 ht' (by omega) (by simp only;omega) hq3) ?_
     rintro e w6 ⟨rfl,hs6,hf6⟩
     simp (disch:=first|assumption|omega|simp only[zS]<;>omega|decide) only[zb78,simprocAttr]
     rw[bo_ads _ _ (by simp;omega),bo_ads _ _ (by simp;omega),bo_ads _ _ (by simp;omega)]
     exact⟨rfl,hs6,hf15.trans hf6⟩
  ·rintro x' w'' ⟨rfl,hc3⟩ d'
   rw[if_pos hc3] at hq2
   rw[xrO,bo_ads _ _ (by simp;omega)]
   exact⟨g,by omega,t',_,c2,l2,rfl,rfl,ht',hc3.2.2,hst5,hf15,by omega,by simp;omega,by omega,hq2⟩
theorem cx:∀ f,CX O f:=by
 intro f
 induction f using Nat.strongRecOn with
 | _ f ih=>
  cases f with
  | zero=>exact⟨fun _ _ _ _ _ _ h=>by simp [P.Hp.text] at h,fun _ _ _ _ _ _ _ h=>by simp [P.Hp.list] at h⟩
  | succ f=>
   have ih':∀ g,g≤f->CX O g:=fun g hg=>ih g (by omega)
   exact⟨fun a b c d e g h=>cxText ih' a b c d e g h,fun a b c d e g i h=>cxList ih' a b c d e g i h⟩
end
theorem RHp.ownLtB{A:Nat->Prop}{w:World}{hb:Nat}{H:P.Hp}(h:RHp A w hb H){b:Nat}(hb':OwnOf w hb b):b<w.heap.size:=by
 obtain⟨kv,nv,iv,av,tv,rv,ars,h⟩:=h
 rcases hb' with rfl | ⟨cs,T,q1,v,q2,q3⟩
 ·exact ltOf h.cell
 ·rw[h.q.cell] at q1
  injection q1 with q1
  injection q1 with q1 _ _
  subst q1
  simp only[List.mem_append,List.mem_map] at q2
  rcases q2 with⟨r,hr,rfl⟩| hv
  ·exact((h.q.own r hr).lt _ q3).2
  ·rw[h.q.tl v hv] at q3
   cases q3
theorem TSt.back{w w':World}{hb wb:Nat}{H:P.Hp}{c:Nat}{seen:List Nat}{bv vv nv:Value}{todo:Int}{L:List Gl}{B:List Ag}{lv kv:Value}{lc kc:List Value}(k:WKx w hb wb H bv todo L B lv kv vv nv lc kc)
  (hs:TSt (OwnOf w hb) w' hb w.heap.size H c seen) (hf:FrM (fun b _=>b=hb\/w.heap.size≤b) w w'):HFr hb w w'/\WKx w' hb wb (H.ce c H.err) bv todo L B lv kv vv nv lc kc:=by
 obtain⟨a1,a2,a3,a4,a5,a6,a7,a8,h⟩:=hs
 have hF:HFr hb w w':=⟨⟨hf.os,hf.tape,hf.output,hf.size,fun b o hb' hm=>hf.block b o hb' (by
  rintro (rfl | h1)
  ·exact hm (.inl rfl)
  ·have:=ltOf hb';omega)⟩,fun b ho=>.inl (h.lt b ho)⟩
 have hr:RHp (fun b=>b<w.heap.size) w' hb (H.ce c H.err):=⟨_,_,_,_,_,_,_,h.h⟩
 exact⟨hF,k.table (hr.mono (fun _ _ _=>trivial)) hF⟩
def TPost(M hb wb:Nat)(H:P.Hp)(bv vv nv:Value)(todo:Int)(L:List Gl)(B:List Ag)(w:World)(e:Ending)(w':World):Prop:=
 ∃ s H',e = .returned (.string (bs s))/\WK w' hb wb H' bv vv nv todo L B/\UpFr hb w w'/\Inv M H' todo L B/\H'.most=H.most/\H'.err=H.err/\H.cost≤H'.cost/\H'.pot H'.cost≤H.pot H.cost+12/\H'.nodes=H.nodes
theorem Inv.costs{M:Nat}{H:P.Hp}{todo:Int}{L:List Gl}{B:List Ag}{c:Nat}(h:Inv M H todo L B)(hc:H.cost≤c)(hp:H.pot c≤1000000):Inv M (H.ce c H.err) todo L B:=
 ⟨h.fit.ce _ _,h.few,h.err,Nat.le_trans h.tr hc,hp,
  by have h9:=h.nodes;show H.nodes.length+(M+2)*(H.most+1-c)≤_;exact Nat.le_trans (Nat.add_le_add_left (Nat.mul_le_mul_left _ (by omega)) _) h9,
  by have h9:=h.lists;show L.length+(M+5)*(H.most+1-c)≤_;exact Nat.le_trans (Nat.add_le_add_left (Nat.mul_le_mul_left _ (by omega)) _) h9,
  by have h9:=h.backs;show B.length+2*(H.most+1-c)≤_;omega,h.gs.mono (Nat.le_refl _),h.now,h.ags⟩
def zb79:=(zA zG0 (zA @sh_Pr_Walk_told.eq_1 (zA @bd_151 (zA @ch_9 (zA @fa_85_0 (zA @fa_85_5 (zA @fa_85_6 (zA @ix_41 (zA @ix_83 (zA @ld_3 (zA @ld_41 (zA @ld_79 (zA @ld_83 (zA @ld_9 @ln_41))))))))))))))
set_option maxHeartbeats 2000000 in
theorem rTold {M:Nat} {w:World} {hb wb:Nat} {H:P.Hp} {bv vv nv:Value} {todo:Int} {L:List Gl} {B:List Ag} (h:WK w hb wb H bv vv nv todo L B) (hi:Inv M H todo L B) {names:List P.Bs} {ids:List Nat} (hvs:P.VsOk names) (hnv:IsSl (fun b=>b<hb) w 9 nv (names.map fun s=>.string (bs s)))
  (hvv:IsSl (fun b=>¬ OwnOf w hb b) w 3 vv (ids.map fun n=>zi (n:Nat))) (hil:ids.length=names.length) (hids:∀ t∈ids,t<H.nodes.length) (hpt:H.pot H.cost+12≤1000000) :
  Calls Tryz.prog 29 #[pp wb] w (TPost M hb wb H bv vv nv todo L B w):=by
 obtain⟨lv,kv,lc,kc,k⟩:=h
 have hc:=k.cell
 have hlt:=k.lt
 have hn9:=hi.nodes
 obtain⟨hvl,hvx⟩:=hvs
 obtain⟨na,nc,hna⟩:=hnv.sl
 obtain⟨va,vc,hva⟩:=hvv.sl
 simp only[List.length_map] at hna hva
 subst hna hva
 refine sh_Pr_Walk_told_ok ?_
 simp (disch:=first|assumption|omega|simp only[zS]<;>omega|decide) only[zb79,simprocAttr,hc]
 obtain⟨w1,hw1⟩:∃ y,y=w.alloc (.cells #[pp hb,.slice none 0 0] 151):=⟨_,rfl⟩
 have hE1:Ext w w1:=by rw[hw1];exact(FrM.refl _ _).alloc _
 have g1:w1.heap[w.heap.size]?=some (.cells #[pp hb,.slice none 0 0] 151):=by rw[hw1];exact hp_alloc_new rfl
 rw[<- hw1]
 have k1:=k.ext hE1
 have hT1:TSt (OwnOf w hb) w1 hb w.heap.size H H.cost []:=by
  have hl:∀ {b:Nat},OwnOf w hb b->b<w.heap.size:=fun ho=>k.h.ownLtB ho
  obtain⟨kv',nv',iv',av',tv',rv',ars',hx⟩:=id ((k.h.mono (B:=fun b=>b<w.heap.size) (fun b hb _=>hb)).ext hE1)
  refine⟨kv',nv',iv',av',tv',rv',ars',.slice none 0 0,⟨hx,fun b ho=>?_,fun b ho=>hl ho,g1,World.ownsRow_nil _ _ _ _⟩⟩
  obtain⟨_,_,_,_,_,_,_,hx0⟩:=id k.h
  exact OwnOf.same (by rw[hE1.ext _ _ hx0.cell,hx0.cell]) ho
 have kp:∀ {w':World},TFr hb w.heap.size w1 w'->∀ {b:Nat} {o:Obj},w.heap[b]?=some o->b≠hb->w'.heap[b]?=some o:=fun{w'} hf {b} {o} ho hne=>hf.block _ _ (hE1.ext _ _ ho) (by have:=ltOf ho;rintro (h | h)<;>omega)
 have hvb:∀ {b:Nat},¬ OwnOf w hb b->b≠hb:=fun hn e=>hn (.inl e)
 have hcl:=hi.fit.ok
 refine⟨fun m z w'=>∃ (j:Nat) (out:P.Bs) (c:Nat) (seen:List Nat),z 4 = .string (bs out)/\z 5=zi (j:Nat)/\j≤names.length/\m=names.length-j/\TSt (OwnOf w hb) w' hb w.heap.size H c seen/\TFr hb w.heap.size w1 w'/\seen.length≤c /\
   out.length≤40*c+20*j/\H.cost≤c/\H.pot c≤H.pot H.cost+j,⟨_,0,[],H.cost,[],rfl,rfl,Nat.zero_le _,rfl,hT1,FrM.refl _ _,Nat.zero_le _,Nat.zero_le _,Nat.le_refl _,Nat.le_refl _⟩,?_⟩
 intro m z d w2 hI
 refine toPr ?_
 obtain⟨j,out,c,seen,h4,h5,hj,rfl,hs,hf,hsl,hout,hcc,hpc⟩:=hI
 have c2:=kp hf hc (by omega)
 have hpc2:=P.pot_le H c
 by_cases hjl:j<names.length
 ·have hjl':((j:Nat):Int)<((names.length:Nat):Int):=by omega
  have ej:((j:Nat):Int).toNat=j:=by omega
  obtain⟨nb,ncs,e1,q1,q2,q3⟩:=hnv.at' (j:=j) (by simpa using hjl)
  obtain⟨vb,vcs,e2,q4,q5,q6⟩:=hvv.at' (j:=j) (by simp;omega)
  simp only[List.length_map,Value.slice.injEq,Option.some.injEq,Addr.mk.injEq,true_and,and_true] at e1 e2
  obtain⟨rfl,rfl⟩:=e1
  obtain⟨rfl,rfl⟩:=e2
  rw[List.getElem?_map,List.getElem?_eq_getElem hjl] at q3
  rw[List.getElem?_map,List.getElem?_eq_getElem (by omega)] at q6
  simp only[Option.map_some] at q3 q6
  have n2:=kp hf q2 (by omega)
  have v2:=kp hf q5 (hvb q4)
  have hnm:=hvx _ (List.getElem_mem hjl)
  obtain⟨ch,rest,hnr⟩:∃ ch rest,names[j]=ch::rest:=by
   cases hq:names[j] with
   | nil=>exact absurd hq hnm.1
   | cons a b=>exact⟨_,_,rfl⟩
  have hidl:ids[j]<H.nodes.length:=hids _ (List.getElem_mem _)
  have hjl2:((j:Nat):Int)<((ids.length:Nat):Int):=by omega
  obtain⟨f,rs,rc,rl,hq,hqp⟩:=(P.totX hi.fit hi.few (H.most+1-c)).text ids[j] 0 c seen hidl (Nat.le_refl _)
  have hrp:=P.pot_le H rc
  have hqp':H.pot rc≤H.pot c+1:=by have:=over_le1 (H.over (c+1)=true);omega
  obtain⟨le1,le2,le3⟩:=P.lenX hcl hidl hsl (by omega) hq
  have hlen9:=hnm.2
  simp (disch:=first|assumption|omega|simp only[zS]<;>omega|decide) only[zb79,simprocAttr,h4,h5,c2,ej]
  refine⟨fun s w'=>∃ (out:P.Bs) (c:Nat) (seen:List Nat),s 4 = .string (bs out)/\TSt (OwnOf w hb) w' hb w.heap.size H c seen/\TFr hb w.heap.size w1 w'/\seen.length≤c/\out.length≤40*c+20*(j+1)/\H.cost≤c/\H.pot c≤H.pot H.cost+(j+1),?_,?_⟩
  ·rw[hnr] at q3
   simp (disch:=first|assumption|omega|simp only[zS]<;>omega|decide) only[zb79,simprocAttr,h4,h5,c2,ej,n2,q3]
   by_cases hu:((((ch::rest).getD 0 0).toNat:Nat):Int)=95
   ·rw[bs_pos _ _ hu]
    exact⟨out,c,seen,h4,hs,hf,hsl,by omega,hcc,by omega⟩
   ·rw[bs_neg _ _ hu]
    refine⟨fun s' w'=>w'=w2/\∃ out2:P.Bs,s' 4 = .string (bs out2)/\out2.length≤out.length+2,?_,?_⟩
    ·by_cases ho:out=[]
     ·simp (disch:=first|assumption|omega|simp only[zS]<;>omega|decide) only[zb79,simprocAttr,h4,ho]
      exact⟨[],rfl,by simp⟩
     ·simp (disch:=first|assumption|omega|simp only[zS]<;>omega|decide) only[zb79,simprocAttr,h4]
      rw[bo_ads _ _ (by simp;omega)]
      exact⟨_,rfl,by simp⟩
    ·rintro s' w' ⟨rfl,out2,hs4,hl2⟩ d'
     simp (disch:=first|assumption|omega|simp only[zS]<;>omega|decide) only[zb79,simprocAttr,h5,c2,ej,v2,q6]
     refine Calls.mono ((cx f).text hcl (by omega) hs hidl hsl (by simp only;omega) hq) ?_
     rintro e w4 ⟨rfl,hs4',hf4⟩
     have hf14:=hf.trans hf4
     have c4:=kp hf14 hc (by omega)
     have n4:=kp hf14 q2 (by omega)
     simp (disch:=first|assumption|omega|simp only[zS]<;>omega|decide) only[zb79,simprocAttr,h5,c4,ej,n4,q3,hs4]
     have hnl9:(ch::rest).length≤9:=by rw[<- hnr];exact hlen9
     have hr1:rest.length+1≤9:=by simpa using hnl9
     rw[bo_ads _ _ (by simp;omega),bo_ads _ _ (by simp;omega),bo_ads _ _ (by simp;omega)]
     exact⟨_,rc,rl,rfl,hs4',hf14,by omega,by simp;omega,by omega,by omega⟩
  ·rintro s w' ⟨out,c,seen,hs4,r1,r2,r3,r4,r5,r6⟩ d'
   simp (disch:=first|assumption|omega|simp only[zS]<;>omega|decide) only[zb79,simprocAttr,hs4,h5]
   exact⟨_,by omega,j+1,out,c,seen,rfl,by simp,by omega,rfl,r1,r2,r3,r4,r5,r6⟩
 ·have hjn:j=names.length:=by omega
  subst hjn
  obtain⟨hF,kF⟩:=TSt.back k hs (FrM.trans hE1.toM hf)
  have iF:Inv M (H.ce c H.err) todo L B:=hi.costs hcc (by omega)
  simp (disch:=first|assumption|omega|simp only[zS]<;>omega|decide) only[zb79,simprocAttr,h4,h5,c2]
  by_cases ho:out=[]
  ·simp (disch:=first|assumption|omega|simp only[zS]<;>omega|decide) only[zb79,simprocAttr,h4,ho]
   exact⟨[116,114,117,101],_,rfl,⟨_,_,_,_,kF⟩,hF.up k.h,iF,rfl,rfl,hcc,by show H.pot c≤_;omega,rfl⟩
  ·simp (disch:=first|assumption|omega|simp only[zS]<;>omega|decide) only[zb79,simprocAttr,h4]
   exact⟨out,_,rfl,⟨_,_,_,_,kF⟩,hF.up k.h,iF,rfl,rfl,hcc,by show H.pot c≤_;omega,rfl⟩
section
variable{w w':World}{hb:Nat}{r:Option Nat}
theorem RHp.beside{A:Nat->Prop}{H:P.Hp}(h:RHp A w hb H)(hf:FrM (fun b _=>some b=r) w w')(h1:∀ b,r=some b->¬ OwnOf w hb b)(h2:∀ b cs z,w.heap[b]?=some (.cells cs 3 z)->some b≠r) :
  RHp A w' hb H/\∀ b,OwnOf w' hb b->OwnOf w hb b:=by
 obtain⟨kv,nv,iv,av,tv,rv,ars,h⟩:=h
 have hcell:=hf.block _ _ h.q.cell (fun e=>h1 _ e.symm (.inl rfl))
 have ho':∀ b,OwnOf w' hb b->OwnOf w hb b:=by
  rintro b (rfl | ⟨cs,T,g1,u,g2,g3⟩)
  ·exact .inl rfl
  ·rw[hcell] at g1
   injection g1 with g1
   injection g1 with g1 _ _
   subst g1
   exact .inr ⟨_,_,h.q.cell,u,g2,g3⟩
 have key:∀ (ds:List P.Nd) (rows:List Value),IsAr (fun b=>¬ OwnOf w hb b/\A b) w rows ds->IsAr (fun b=>¬ OwnOf w' hb b/\A b) w' rows ds:=by
  intro ds
  induction ds with
  | nil=>intro rows h;exact h
  | cons d ds ih=>
   intro rows h
   obtain⟨v,r',q1,q2,q3⟩:=h
   refine⟨v,r',q1,?_,ih r' q3⟩
   rcases q2 with q2 | ⟨b,cs,g1,g2,g3,g4⟩
   ·exact .inl q2
   ·exact .inr ⟨b,cs,g1,⟨fun hx=>g2.1 (ho' b hx),g2.2⟩,hf.block _ _ g3 (h2 _ _ _ g3),g4⟩
 refine⟨⟨kv,nv,iv,av,tv,rv,ars,⟨⟨hcell,fun a ha=>?_,h.q.dis,h.q.tl⟩,key _ _ h.ar,h.len⟩⟩,ho'⟩
 obtain⟨g0,g1⟩:=h.q.own a ha
 refine⟨g0,?_⟩
 rcases g1 with g1 | ⟨g,cap,cur,q1,q2,q3,q4⟩
 ·exact .inl g1
 ·refine .inr ⟨g,cap,cur,q1,q2,hf.block _ _ q3 (fun e=>h1 _ e.symm (.inr ⟨_,_,h.q.cell,a.2.1,by simp only[List.mem_append,List.mem_map];exact .inl ⟨a,ha,rfl⟩,by rw[q1];rfl⟩)),q4⟩
variable{wb:Nat}{H:P.Hp}{bv:Value}{todo:Int}{L:List Gl}{B:List Ag}{lv kv vv nv:Value}{lc kc:List Value}
theorem WKx.beside(h:WKx w hb wb H bv todo L B lv kv vv nv lc kc)(hf:FrM (fun b _=>some b=r) w w')(h1:∀ b,r=some b->¬ OwnOf w hb b)(h2:∀ b o,r=some b->w.heap[b]?=some o->∃ cs,o = .cells cs 9 (0,0)) :
  WKx w' hb wb H bv todo L B lv kv vv nv lc kc:=by
 have ne:∀ {b:Nat} {cs:Array Value} {t:Nat} {z:Nat×Nat},w.heap[b]?=some (.cells cs t z)->t≠9->some b≠r:=fun hb' ht e=>by
  obtain⟨cs',h3⟩:=h2 _ _ e.symm hb'
  injection h3 with _ h3 _
  exact ht h3
 have kp:∀ {b:Nat} {cs:Array Value} {t:Nat} {z:Nat×Nat},w.heap[b]?=some (.cells cs t z)->t≠9->w'.heap[b]?=some (.cells cs t z):=fun hb' ht=>hf.block _ _ hb' (ne hb' ht)
 obtain⟨hr,ho⟩:=h.h.beside hf h1 (fun b cs z hb'=>ne hb' (by decide))
 have row:∀ {e size n:Nat} {v:Value} {xs:List Value},e≠9->w.ownsRow (hb+1) e size v n xs->w'.ownsRow (hb+1) e size v n xs:=by
  intro e size n v xs he hx
  refine⟨hx.1,?_⟩
  rcases hx.2 with h1 | ⟨g,cap,cur,q1,q2,q3,q4⟩
  ·exact .inl h1
  ·exact .inr ⟨g,cap,cur,q1,q2,kp q3 he,q4⟩
 exact⟨hr,kp h.cell (by decide),row (by decide) h.ol,row (by decide) h.ok,h.gl.step (fun _ _ _ hc=>kp hc (by decide)) (fun _ _ _ hc=>kp hc (by decide)) (fun b cs hn hc=>⟨fun hx=>hn (ho b hx),kp hc (by decide)⟩),h.gk,h.lt⟩
end
theorem UpFr.row{hb:Nat}{w w':World}(h:UpFr hb w w')(hl:hb<w.heap.size){base size n:Nat}{v:Value}{xs:List Value}(ho:w.ownsRow base 9 size v n xs)(hn:∀ b,v.ownBlock=some b->¬ OwnOf w hb b) :
  w'.ownsRow base 9 size v n xs/\∀ b,v.ownBlock=some b->¬ OwnOf w' hb b:=by
 refine⟨⟨ho.1,?_⟩,fun b hb' hx=>hn b hb' (h.own hl b (ho.lt b hb').2 hx)⟩
 rcases ho.2 with h1 | ⟨g,cap,cur,q1,q2,q3,q4⟩
 ·exact .inl h1
 ·exact .inr ⟨g,cap,cur,q1,q2,h.keep hl _ _ _ _ q3 (hn g (by rw[q1];rfl)) (by decide),q4⟩
def APost(hb:Nat)(w:World)(e:Ending)(w':World):Prop:=∃ p n c er sp,e = .returned (.tuple #[.slice p n c,zi er,.bool sp])/\UpFr hb w w'
def zb80:=(zA zG0 (zA @sh_Pr_Walk_Answers.eq_1 (zA @br_41_1 (zA @fa_85_0 (zA @fa_93_6 (zA @fa_93_7 (zA @fa_93_8 (zA @ld_3 (zA @ld_32 @ld_79)))))))))
set_option maxHeartbeats 2000000 in
theorem rAnswers {M:Nat} {w:World} {hb wb:Nat} {H:P.Hp} {bv vv nv:Value} {todo:Int} {L:List Gl} {B:List Ag} (h:WK w hb wb H bv vv nv todo L B) (hB:BaseA w hb bv) (hi:Inv M H todo L B) (hM:M≤2900) {names:List P.Bs} {ids:List Nat} (hvs:P.VsOk names) (hnv:IsSl (fun b=>b<hb) w 9 nv (names.map fun s=>.string (bs s)))
  (hvv:IsSl (fun b=>¬ OwnOf w hb b) w 3 vv (ids.map fun n=>zi (n:Nat))) (hil:ids.length=names.length) (hids:∀ t∈ids,t<H.nodes.length) (hpt:H.pot H.cost+240≤1000000) :
  Calls Tryz.prog 12 #[pp wb,zi 20] w (APost hb w):=by
 have hlw:hb<w.heap.size:=by obtain⟨_,_,_,_,k⟩:=h;exact k.h.lt
 refine sh_Pr_Walk_Answers_ok ?_
 refine⟨fun m z w'=>∃ (i:Nat) (H':P.Hp) (todo':Int) (L':List Gl) (B':List Ag) (v:Value) (xs:List Value),z 8=zi (i:Nat)/\z 7=v/\i≤20/\m=20-i/\WK w' hb wb H' bv vv nv todo' L' B'/\UpFr hb w w'/\Inv M H' todo' L' B'/\H'.most=H.most/\H'.pot H'.cost≤H.pot H.cost+12*i/\H.nodes.length≤H'.nodes.length /\
   w'.ownsRow w.heap.size 9 1 v i xs/\∀ b,v.ownBlock=some b->¬ OwnOf w' hb b,
  ⟨_,0,H,todo,L,B,.slice none 0 0,[],rfl,rfl,Nat.zero_le _,rfl,h,UpFr.refl _ _,hi,rfl,Nat.le_refl _,Nat.le_refl _,World.ownsRow_nil _ _ _ _,fun b hb'=>by cases hb'⟩,?_⟩
 intro m z d w1 hI
 refine toPr ?_
 obtain⟨i,H1,todo1,L1,B1,v1,xs1,h8,h7,hi20,rfl,k1,u1,i1,hmo,hpo,hno,ho1,hn1⟩:=hI
 have s1:=u1.size
 obtain⟨p1,c1,hv1⟩:=own_slice ho1
 subst hv1
 by_cases hlt:i<20
 ·have hlt':((i:Nat):Int)<20:=by omega
  simp (disch:=first|assumption|omega|simp only[zS]<;>omega|decide) only[zb80,simprocAttr,h8]
  refine Calls.mono (rOn k1 (hB.up u1) i1 hM _) ?_
  rintro e w2 ⟨r,H2,todo2,L2,B2,rfl,k2,u2,i2,m2,c2',p2,nn2⟩
  have hl1:hb<w1.heap.size:=by omega
  obtain⟨ho2,hn2⟩:=u2.row hl1 ho1 hn1
  obtain⟨lv,kv,lc,kc,kx⟩:=id k2
  have hc2:=kx.cell
  obtain⟨a1,a2,a3,a4,a5,a6,a7,hx⟩:=id kx.h
  have hh2:=hx.cell
  have lb2:=ltOf hh2
  simp (disch:=first|assumption|omega|simp only[zS]<;>omega|decide) only[zb80,simprocAttr,h7,hc2,hh2]
  have uw:UpFr hb w w2:=u1.trans u2
  by_cases hmc:H2.most<H2.cost
  ·have hmc':((H2.most:Nat):Int)<((H2.cost:Nat):Int):=by omega
   simp (disch:=first|assumption|omega|simp only[zS]<;>omega|decide) only[zb80,simprocAttr,h7,hmc']
   exact⟨_,_,_,_,_,rfl,uw.trans drewU⟩
  have hmc':¬ ((H2.most:Nat):Int)<((H2.cost:Nat):Int):=by omega
  by_cases her:H2.err=0
  ·have her':((H2.err:Nat):Int)=0:=by omega
   rcases Bool.eq_false_or_eq_true r with hr | hr
   rotate_left
   ·simp (disch:=first|assumption|omega|simp only[zS]<;>omega|decide) only[zb80,simprocAttr,h7,hc2,hh2,hr]
    exact⟨_,_,_,_,_,rfl,uw.trans drewU⟩
   ·simp (disch:=first|assumption|omega|simp only[zS]<;>omega|decide) only[zb80,simprocAttr,h7,hc2,hh2,hr]
    have kd:WK w2.drew hb wb H2 bv vv nv todo2 L2 B2:=⟨_,_,_,_,kx.ext (w':=w2.drew) ((FrM.refl _ _).drew)⟩
    have ud:UpFr hb w w2.drew:=uw.trans drewU
    have hnvd:IsSl (fun b=>b<hb) w2.drew 9 nv (names.map fun s=>.string (bs s)):=hnv.mono (fun _ h=>h) (fun b _ hb' ho=>ud.block _ _ ho (by omega))
    refine Calls.mono (rTold kd i2 hvs hnvd (ud.vars hlw hvv) hil (fun t ht=>Nat.lt_of_lt_of_le (hids t ht) (Nat.le_trans hno nn2)) (by omega)) ?_
    rintro e w3 ⟨s3,H3,rfl,k3,u3,i3,m3,er3,c3,p3,n3⟩
    obtain⟨ho3,hn3⟩:=(drewU.trans u3:UpFr hb w2 w3).row (by have:=u2.size;omega) ho2 hn2
    obtain⟨lv3,kv3,lc3,kc3,kx3⟩:=id k3
    have hc3:=kx3.cell
    obtain⟨b1,b2,b3,b4,b5,b6,b7,hx3⟩:=id kx3.h
    have hh3:=hx3.cell
    by_cases hmd:H3.most<H3.cost
    ·have hmd':((H3.most:Nat):Int)<((H3.cost:Nat):Int):=by omega
     simp (disch:=first|assumption|omega|simp only[zS]<;>omega|decide) only[zb80,simprocAttr,h7,hc3,hh3]
     exact⟨_,_,_,_,_,rfl,(ud.trans u3).trans drewU⟩
    ·have hmd':¬ ((H3.most:Nat):Int)<((H3.cost:Nat):Int):=by omega
     simp (disch:=first|assumption|omega|simp only[zS]<;>omega|decide) only[zb80,simprocAttr,h7,hc3,hh3]
     obtain⟨w4,hw4⟩:∃ y,y=w3.drew.alloc (.cells #[.string (bs s3)] 9):=⟨_,rfl⟩
     have hE4:Ext w3 w4:=by rw[hw4];exact((FrM.refl _ _).drew).alloc _
     have g4:w4.heap[w3.heap.size]?=some (.cells #[.string (bs s3)] 9):=by rw[hw4];exact hp_alloc_new (by rw[sz_drew])
     rw[<- hw4]
     have k4:=kx3.ext hE4
     have u4:UpFr hb w w4:=(ud.trans u3).trans hE4.toU
     have hl3:hb<w3.heap.size:=kx3.h.lt
     obtain⟨ho4,hn4⟩:=(hE4.toU:UpFr hb w3 w4).row hl3 ho3 hn3
     refine wr_appendS ho4 g4 (by omega) (by have:=u4.size;omega) ?_
     intro v' w5 ho5 hg5 hv5
     have h2':∀ b o,(Value.slice p1 i c1).ownBlock=some b->w4.heap[b]?=some o->∃ cs,o = .cells cs 9 (0,0):=fun b o hb' ho=>rowTy ho4 hb' ho
     have hf5:FrM (fun b _=>some b=(Value.slice p1 i c1).ownBlock) w4 w5:=FrM.grownBy hg5
     have k5:=k4.beside hf5 hn4 h2'
     have hback:∀ b,OwnOf w5 hb b->OwnOf w4 hb b:=(k4.h.beside hf5 hn4 (fun b cs z hb' e=>by
      obtain⟨cs',h3⟩:=h2' _ _ e.symm hb'
      injection h3 with _ h3 _
      exact absurd h3 (by decide))).2
     have u5:UpFr hb w w5:=⟨⟨hf5.os.trans u4.os,hf5.tape.trans u4.tape,hf5.output.trans u4.output,Nat.le_trans u4.size hf5.size,fun b o hb' hm=>hf5.block _ _ (u4.block _ _ hb' hm) (fun e=>by have:=(ho4.lt b e.symm).1;have:=ltOf hb';omega)⟩,
      fun hl b hb' ho=>u4.own hl b hb' (hback b ho),fun hl b cs t z hc hn ht=>hf5.block _ _ (u4.keep hl b cs t z hc hn ht) (fun e=>by have:=(ho4.lt b e.symm).1;have:=ltOf hc;omega)⟩
     simp (disch:=first|assumption|omega|simp only[zS]<;>omega|decide) only[zb80,simprocAttr,h8]
     refine⟨_,by omega,i+1,H3,todo2,L2,B2,v',_,by simp,rfl,by omega,rfl,⟨_,_,_,_,k5⟩,u5,i3,by omega,by omega,by rw[n3];omega,ho5,fun b hb' ho=>?_⟩
     rcases hv5 with hv5 | hv5
     ·exact hn4 b (by rw[<- hv5];exact hb') (hback b ho)
     ·have:=k4.h.ownLtB (hback b ho)
      have:=hv5 b hb'
      omega
  ·have her':¬ ((H2.err:Nat):Int)=0:=by omega
   simp (disch:=first|assumption|omega|simp only[zS]<;>omega|decide) only[zb80,simprocAttr,h7,hc2,hh2]
   exact⟨_,_,_,_,_,rfl,(uw.trans drewU).trans drewU⟩
 ·have hi20':i=20:=by omega
  subst hi20'
  simp (disch:=first|assumption|omega|simp only[zS]<;>omega|decide) only[zb80,simprocAttr,h8,h7]
  exact⟨_,_,_,_,_,rfl,u1⟩
def zb81:=(zA zG0 (zA @sh_r_New.eq_1 @bd_93))
theorem rNewH (m:Nat) (w:World):Calls Tryz.prog 25 #[zi (m:Nat)] w fun e w'=>e = .returned (pp w.heap.size)/\RHp (fun _=>True) w' w.heap.size (P.Hp.new m)/\Ext w w'/\∀ b,OwnOf w' w.heap.size b->b=w.heap.size:=by
 refine sh_r_New_ok ?_
 simp (disch:=first|assumption|omega|simp only[zS]<;>omega|decide) only[zb81,simprocAttr]
 refine⟨⟨.slice none 0 0,.slice none 0 0,.slice none 0 0,.slice none 0 0,.slice none 0 0,.slice none 0 0,[],⟨⟨hp_alloc_new rfl,?_,?_,?_⟩,rfl,rfl⟩⟩,(FrM.refl _ _).alloc _,?_⟩
 ·intro r hr
  simp only[List.mem_cons,List.not_mem_nil,or_false] at hr
  rcases hr with rfl | rfl | rfl | rfl | rfl | rfl<;>exact World.ownsRow_nil _ _ _ _
 ·intro i j a b _ ha hb
  have:=List.mem_of_getElem? ha
  simp only[List.mem_cons,List.not_mem_nil,or_false] at this
  rcases this with rfl | rfl | rfl | rfl | rfl | rfl<;>exact .inl rfl
 ·intro v hv
  simp only[List.mem_cons,List.not_mem_nil,or_false] at hv
  rcases hv with rfl | rfl | rfl<;>rfl
 ·intro b hb
  rcases hb with h | ⟨cs,T,h1,v,h2,h3⟩
  ·exact h
  ·rw[hp_alloc_new rfl] at h1
   injection h1 with h1
   injection h1 with h1 _ _
   subst h1
   simp only[List.mem_cons,List.not_mem_nil,or_false] at h2
   rcases h2 with rfl | rfl | rfl | rfl | rfl | rfl | rfl | rfl | rfl<;>cases h3
theorem new_fit(m:Nat):(P.Hp.new m).Fit:=⟨(P.new_good m).1,(P.new_good m).2,fun t=>⟨0,t,by simp [P.Hp.walk,P.Hp.new,P.Hp.nd,P.Hp.toOf]⟩,by simp [P.Hp.new]⟩
theorem fresh_few:∀ (n:Nat) (H:P.Hp),H.Fit->H.Few->(H.fresh n).1.Few
 | 0,H,_,hw=>hw
 | n+1,H,hf,hw=>by
  have h1:(H.add ⟨118,[],0,[]⟩).Fit:=hf.add (by simp) (by simp) (by simp) (by simp)
  exact fresh_few n _ h1 (few_add hw hf.ev (by simp))
def KPost(body:P.Bd)(n:Nat)(bv nv:Value)(w:World)(e:Ending)(w':World):Prop:=
 ∃ wb hb H ids vv,e = .returned (pp wb)/\Ext w w'/\w.heap.size≤hb/\WK w' hb wb H bv vv nv 0 [⟨false,body,ids,0,-1⟩] []/\IsSl (fun b=>¬ OwnOf w' hb b) w' 3 vv (ids.map fun n=>zi (n:Nat))/\ids.length=n/\(∀ t∈ids,t<H.nodes.length) /\
  H.Fit/\H.Few/\H.err=0/\H.trail=[]/\H.cost=0/\H.most=20000/\H.nodes.length=n
def zb82:=(zA zG0 (zA @sh_r_Ask.eq_1 (zA @bd_85 (zA @fa_43_2 (zA @fa_43_3 (zA @fa_85_3 (zA @fa_85_5 (zA @ld_40 (zA @ld_41 (zA @ld_83 (zA @ln_41 (zA @st_3 @st_83))))))))))))
set_option maxHeartbeats 1000000 in
theorem rAsk {w:World} {p:Option Addr} {n0 c0:Nat} {b0 b1 b2 b3:Value} {na:Option Addr} {n nc:Nat} {body:P.Bd} (hbd:IsRb (fun b=>b<w.heap.size) w [b0,b1,b2,b3] body) (hn:n≤12) :
  Calls Tryz.prog 11 #[.slice p n0 c0,.agg #[.string (bs []),.slice none 0 0,b0,b1,b2,b3,.slice na n nc],zi 20000] w (KPost body n (.slice p n0 c0) (.slice na n nc) w):=by
 obtain⟨d0,d1,d2,d3,hsh,hshb⟩:=hbd.sh
 simp only[List.cons.injEq,and_true] at hsh
 obtain⟨rfl,rfl,rfl,rfl⟩:=hsh
 obtain⟨z0,z1,z2,z3,z4,z5,z6,z7,hd0,hd1,hd2,hd3⟩:=id hshb
 have hone:b0.oneCell'=true/\b1.oneCell'=true/\b2.oneCell'=true/\b3.oneCell'=true:=by rw[hd0,hd1,hd2,hd3];exact⟨rfl,rfl,rfl,rfl⟩
 obtain⟨y0,y1,y2,y3⟩:=hone
 refine sh_r_Ask_ok ?_
 obtain⟨w1,hw1⟩:∃ y,y=w.alloc (.cells #[.string (bs []),.slice none 0 0,b0,b1,b2,b3,.slice na n nc] 43 (0,0)):=⟨_,rfl⟩
 have hE1:Ext w w1:=by rw[hw1];exact(FrM.refl _ _).alloc _
 have g1:w1.heap[w.heap.size]?=some (.cells #[.string (bs []),.slice none 0 0,b0,b1,b2,b3,.slice na n nc] 43 (0,0)):=by rw[hw1];exact hp_alloc_new rfl
 simp (disch:=first|assumption|omega|simp only[zS]<;>omega|decide) only[zb82,Nat.reduceAdd,Nat.reduceMul,Nat.reduceLeDiff,Nat.reduceEqDiff,Int.reduceToNat,Int.reduceAdd,Int.reduceLT,Int.reduceLE,↓reduceIte]
 have hw1r:w.alloc (.cells #[.string (bs []),.slice none 0 0,b0,b1,b2,b3,.slice na n nc] 43)=w1:=hw1.symm
 rw[hw1r]
 refine Calls.mono (rNewH 20000 w1) ?_
 rintro e w2 ⟨rfl,hr2,hE2,-⟩
 have g2:=hE2.ext _ _ g1
 have l2:=ltOf g2
 simp (disch:=first|assumption|omega|simp only[zS]<;>omega|decide) only[zb82,Nat.reduceAdd,Nat.reduceMul,Nat.reduceLeDiff,Nat.reduceEqDiff,Int.reduceToNat,Int.reduceAdd,Int.reduceLT,Int.reduceLE,↓reduceIte,g2]
 obtain⟨w3,hw3⟩:∃ y,y=w2.alloc (.cells #[pp w1.heap.size,.slice p n0 c0,.slice none 0 0,zi 0,.slice none 0 0,.slice none 0 0,.slice na n nc,zi 0] 85):=⟨_,rfl⟩
 have hE3:Ext w2 w3:=by rw[hw3];exact(FrM.refl _ _).alloc _
 have q3:w3.heap[w2.heap.size]?=some (.cells #[pp w1.heap.size,.slice p n0 c0,.slice none 0 0,zi 0,.slice none 0 0,.slice none 0 0,.slice na n nc,zi 0] 85):=by rw[hw3];exact hp_alloc_new rfl
 rw[<- hw3]
 have g3:=hE3.ext _ _ g2
 have hr3:=hr2.ext hE3
 refine Calls.mono (rFresh hr3 n (by show 0+n≤_;omega) (fun _ _=>trivial)) ?_
 rintro e w4 ⟨v,rfl,hr4,hf4,-,ho4,hno4⟩
 have q4:w4.heap[w2.heap.size]?=_:=hf4.fr.block _ _ q3 (hr3.ty q3 (by decide))
 have g4:w4.heap[w.heap.size]?=_:=hf4.fr.block _ _ g3 (hr3.ty g3 (by decide))
 have lq4:=ltOf q4
 obtain⟨va,vc,hv⟩:=own_slice ho4
 subst hv
 have hr4':=hr4.mono (B:=fun _=>True) (fun _ _ _=>trivial)
 obtain⟨f1,f2,f3,f4,f5,f6,f7⟩:=P.fresh_fit n (P.Hp.new 20000) (new_fit _)
 have s1:=hE1.size
 have e3:w3.heap.size=w2.heap.size+1:=by rw[hw3,size_alloc]
 have e1:w1.heap.size=w.heap.size+1:=by rw[hw1,size_alloc]
 have l1:w1.heap.size<w2.heap.size:=hr2.lt
 obtain⟨w5,hw5⟩:∃ y,y=upd w4 w2.heap.size (.cells #[pp w1.heap.size,.slice p n0 c0,.slice none 0 0,zi 0,.slice none 0 0,.slice va n vc,.slice na n nc,zi 0] 85):=⟨_,rfl⟩
 have hg5:GFr w4 w5:=⟨by rw[hw5];rfl,by rw[hw5];rfl,by rw[hw5];rfl,by rw[hw5,size_upd];exact Nat.le_refl _,fun b o hb' hm=>by
  rw[hw5,hp_upd_other (fun e=>hm ?_)]
  ·exact hb'
  ·subst e
   rw[q4] at hb'
   injection hb' with hb'
   exact⟨_,_,_,hb'.symm,.inr (.inr rfl)⟩⟩
 obtain⟨hr5,hoo5⟩:=hr4'.keepG hg5
 have q5:w5.heap[w2.heap.size]?=some (.cells #[pp w1.heap.size,.slice p n0 c0,.slice none 0 0,zi 0,.slice none 0 0,.slice va n vc,.slice na n nc,zi 0] 85):=by rw[hw5];exact hp_upd_same rfl lq4
 have g5:=hg5.keep g4 (by decide)
 have k5:WKx w5 w1.heap.size w2.heap.size ((P.Hp.new 20000).fresh n).1 (.slice p n0 c0) 0 [] [] (.slice none 0 0) (.slice none 0 0) (.slice va n vc) (.slice na n nc) [] []:=⟨hr5,q5,World.ownsRow_nil _ _ _ _,World.ownsRow_nil _ _ _ _,rfl,rfl,l1⟩
 have hv5:IsSl (fun b=>¬ OwnOf w5 w1.heap.size b) w5 3 (.slice va n vc) (((P.Hp.new 20000).fresh n).2.map fun n=>zi (n:Nat)):=
  (own_IsSl ho4 (F:=fun b=>¬ OwnOf w4 w1.heap.size b) (fun b hb=>hno4 b hb)).mono (fun b hb ho=>hb (hoo5 b ho)) (fun b cs hb ho=>hg5.keep ho (by decide))
 have hk:∀ b o,b<w1.heap.size->w.heap[b]?=some o->w5.heap[b]?=some o:=fun b o hb ho=>by
  have h3:=hE3.ext _ _ (hE2.ext _ _ (hE1.ext _ _ ho))
  rw[hw5,hp_upd_other (by omega)]
  exact(hf4.up hr3).block _ _ h3 (by omega)
 have hw5r:upd w4 w2.heap.size (.cells (wrL #[pp w1.heap.size,.slice p n0 c0,.slice none 0 0,zi 0,.slice none 0 0,.slice none 0 0,.slice na n nc,zi 0] 5 (Value.slice va n vc).cells.toList) 85 (0,0))=w5:=by rw[hw5];rfl
 simp (disch:=first|assumption|omega|simp only[zS]<;>omega|decide) only[zb82,Nat.reduceAdd,Nat.reduceMul,Nat.reduceLeDiff,Nat.reduceEqDiff,Int.reduceToNat,Int.reduceAdd,Int.reduceLT,Int.reduceLE,↓reduceIte,q4]
 rw[hw5r]
 refine⟨fun w'=>w'.heap[w.heap.size]?=w5.heap[w.heap.size]?,rfl,?_⟩
 refine rds (pq w.heap.size 2) (fun w' hS=>by rw[g5] at hS;simp (disch:=first|assumption|omega|simp only[zS]<;>omega|decide) only[zb82,Nat.reduceAdd,Nat.reduceMul,Nat.reduceLeDiff,Nat.reduceEqDiff,Int.reduceToNat,Int.reduceAdd,Int.reduceLT,Int.reduceLE,↓reduceIte,hS]) (rds (.agg #[b0,b1,b2,b3]) (fun w' hS=>by rw[g5] at hS;have:=ltOf hS;simp (disch:=first|assumption|omega|simp only[zS]<;>omega|decide) only[zb82,Nat.reduceAdd,Nat.reduceMul,Nat.reduceLeDiff,Nat.reduceEqDiff,Int.reduceToNat,Int.reduceAdd,Int.reduceLT,Int.reduceLE,↓reduceIte,hS]) ?_)
 simp (disch:=first|assumption|omega|simp only[zS]<;>omega|decide) only[zb82,Nat.reduceAdd,Nat.reduceMul,Nat.reduceLeDiff,Nat.reduceEqDiff,Int.reduceToNat,Int.reduceAdd,Int.reduceLT,Int.reduceLE,↓reduceIte,q5]
 have k5d:=k5.ext (w':=w5.drew) ((FrM.refl _ _).drew)
 have hb5:IsRb (fun b=>b<w1.heap.size) w5.drew [b0,b1,b2,b3] body:=IsRb.mono (F:=fun b=>b<w.heap.size) (F':=fun b=>b<w1.heap.size) (w:=w) (w':=w5.drew) (fun b h=>by have:b<w.heap.size:=h;show b<_;omega) (fun b _ hb ho=>hk _ _ (by have:b<w.heap.size:=hb;omega) ho) (fun b _ hb ho=>hk _ _ (by have:b<w.heap.size:=hb;omega) ho) _ _ hbd
 have hv5d:=(drewU (w:=w5)).vars k5.h.lt hv5
 refine Calls.mono (rPush k5d hshb hb5 (by simpa using hv5d) 0 (-1) (by simp)) ?_
 rintro e w6 ⟨rfl,⟨lv6,kv6,lc6,kc6,k6,K6⟩,u6⟩
 have g6:w6.heap[w.heap.size]?=_:=u6.block _ _ (show w5.drew.heap[w.heap.size]?=_ from g5) (by omega)
 have q6:=k6.cell
 refine⟨by rw[g6,g5],?_⟩
 simp (disch:=first|assumption|omega|simp only[zS]<;>omega|decide) only[zb82,Nat.reduceAdd,Nat.reduceMul,Nat.reduceLeDiff,Nat.reduceEqDiff,Int.reduceToNat,Int.reduceAdd,Int.reduceLT,Int.reduceLE,↓reduceIte,q6]
 obtain⟨w7,hw7⟩:∃ y,y=upd w6 w2.heap.size (.cells #[pp w1.heap.size,.slice p n0 c0,lv6,zi ((0:Nat):Int),kv6,.slice va n vc,.slice na n nc,zi 0] 85):=⟨_,rfl⟩
 obtain⟨k7,u7⟩:=k6.head ((0:Nat):Int) hw7
 rw[<- hw7]
 have u57:UpFr w1.heap.size w5.drew w7:=u6.trans u7
 have v7:=(u6.trans u7).vars k5d.h.lt hv5d
 have hos5:w5.os=w4.os:=by rw[hw5];rfl
 have hta5:w5.tape=w4.tape:=by rw[hw5];rfl
 have hou5:w5.output=w4.output:=by rw[hw5];rfl
 have hsz5:w5.heap.size=w4.heap.size:=by rw[hw5,size_upd]
 have hE13:=(hE1.trans hE2).trans hE3
 have hE7:Ext w w7:=⟨((u57.os.trans hos5).trans hf4.fr.os).trans hE13.os,((u57.tape.trans hta5).trans hf4.fr.tape).trans hE13.tape,((u57.output.trans hou5).trans hf4.fr.output).trans hE13.output,by have:w5.drew.heap.size≤w7.heap.size:=u57.size;have:w5.heap.size≤w7.heap.size:=this;omega,
  fun b o hb _=>u57.block _ _ (hk b o (by have:=ltOf hb;omega) hb) (by have:=ltOf hb;omega)⟩
 have f5':((P.Hp.new 20000).fresh n).1.nodes.length=n:=by rw[f5];show 0+n=n;omega
 exact⟨_,_,_,_,_,rfl,hE7,by omega,⟨_,_,_,_,k7⟩,by simpa using v7,f6,fun t ht=>by rw[f5'];have:=f7 t ht;have h0:(P.Hp.new 20000).nodes.length=0:=rfl;omega,f1,fresh_few n _ (new_fit _) (fun t ht=>by simp [P.Hp.new] at ht),f2.err,f4,f2.cost,f2.most,f5'⟩
def BaseD(w:World)(rv:Value):Prop:=∃ bb cap cs a1 c1 a2 c2 a3 c3 a4 c4,rv = .slice (some ⟨bb,0,none⟩) 1 cap/\bb<w.heap.size/\w.heap[bb]?=some (.cells cs 43 (0,0))/\7≤cs.size /\
 cs.toList.take 7=[.string (bs [97]),.slice a1 0 c1,.int .u8 103,.string (bs [116,114,117,101]),.slice a2 0 c2,.slice a3 0 c3,.slice a4 0 c4] /\
 IsRb (fun b=>b<w.heap.size) w [.int .u8 103,.string (bs [116,114,117,101]),.slice a2 0 c2,.slice a3 0 c3] P.trueB
theorem BaseD.ext{w w':World}{rv:Value}(h:BaseD w rv)(hE:Ext w w'):BaseD w' rv:=by
 obtain⟨bb,cap,cs,a1,c1,a2,c2,a3,c3,a4,c4,e,h1,h2,h3,h4,h5⟩:=h
 have hs:=hE.size
 exact⟨bb,cap,cs,a1,c1,a2,c2,a3,c3,a4,c4,e,by omega,hE.ext _ _ h2,h3,h4,h5.mono (fun b h=>by have:b<w.heap.size:=h;show b<_;omega) (fun _ _ _ ho=>hE.ext _ _ ho) (fun _ _ _ ho=>hE.ext _ _ ho)⟩
theorem BaseD.base{w w':World}{rv:Value}{hb:Nat}(h:BaseD w rv)(hE:Ext w w')(hh:w.heap.size≤hb):BaseA w' hb rv:=by
 obtain⟨bb,cap,cs,a1,c1,a2,c2,a3,c3,a4,c4,e,h1,h2,h3,h4,h5⟩:=h
 exact⟨bb,cap,cs,a1,c1,a2,c2,a3,c3,a4,c4,e,by omega,hE.ext _ _ h2,h3,h4,h5.mono (fun b h=>by have:b<w.heap.size:=h;show b<_;omega) (fun _ _ _ ho=>hE.ext _ _ ho) (fun _ _ _ ho=>hE.ext _ _ ho)⟩
theorem BaseD.of{F:Nat->Prop}{w:World}{base:Nat}{rv:Value}{xs:List Value}{vs:List P.Bs}(ho:w.ownsRow base 43 7 rv 1 xs)(hc:IsRcs F w xs [⟨[97],[],P.trueB,vs⟩])(hv:vs=[])(hF:∀ b,F b->b<w.heap.size):BaseD w rv:=by
 subst hv
 rcases ho.2 with⟨-,h0⟩| ⟨g,cap,cur,rfl,q1,q2,q3,q4,q5,q6⟩
 ·omega
 ·obtain⟨l,r,rfl,h1,h2,h3⟩:=hc
  have h3:r=[]:=h3
  subst h3
  obtain⟨av,ps,b0,b1,b2,b3,va,vc,rfl,g1,g2,g3⟩:=h2
  obtain⟨a1,c1,rfl⟩:=g1.shape
  have g3':=g3
  unfold P.trueB IsRb at g3'
  obtain⟨av,pv,us,ps,e,k1,-,k2,-⟩:=g3'
  simp only[List.cons.injEq,and_true] at e
  obtain⟨rfl,rfl,rfl,rfl⟩:=e
  obtain⟨a2,c2,rfl⟩:=k1.shape
  obtain⟨a3,c3,rfl⟩:=k2.shape
  refine⟨g,cap,cur,a1,c1,a2,c2,a3,c3,va,vc,rfl,ltOf q2,q2,by omega,?_,g3.mono hF (fun _ _ _ h=>h) (fun _ _ _ h=>h)⟩
  have:=q6
  simpa using this
theorem P.ques_ok{s:P.Bs}{b:P.Bd}{k:Nat}{vs:List P.Bs}(h:P.ofText P.quesT s = .ok b k vs):P.VsOk vs/\∃ M,M≤2900/\P.BdOk vs.length M b:=by
 unfold P.ofText at h
 split at h
 ·cases h
 ·split at h
  ·cases h
  ·rename_i T hT
   have hlo:=lex_ok hT
   have htk:P.TkOk T:=⟨P.lexGo_len _ _ _ _ (by rw[P.lex_eq,hT]),fun u hu hk=>by
    obtain⟨c,r,e,-⟩:=(hlo.tok u hu).2.2.1 hk
    rw[e];simp,fun u hu hk=>((hlo.tok u hu).2.1 hk).2.1⟩
   have hl:=hlo.len
   obtain⟨h1,h2⟩:=P.quesT_vars htk (fun u hu hk=>(hlo.tok u hu).2.2.2.1 hk) h
   exact⟨h1,T.length,by omega,h2⟩
def zb83:=(zA zG0 (zA @sh_l_asked.eq_1 (zA @al_43 (zA @bd_53 (zA @eqp_45 (zA @fa_25_0 (zA @fa_25_1 (zA @fa_25_2 (zA @fa_53_1 (zA @fa_53_3 (zA @fa_53_4 (zA @ld_22 (zA @ld_23 (zA @ld_4 (zA @ld_43 (zA @st_32 (zA @st_4 (zA @st_41 @st_43))))))))))))))))))
set_option maxHeartbeats 2000000 in
theorem lAsked (s:P.Bs) {w:World} {xb:Nat} {rv:Value} {hv:Bool} (hl:s.length≤100000) (hT:STabs w) (hE0:TabE w) (hx:BaseP w xb) (hd:BaseD w rv) :
  Calls Tryz.prog 5 #[.agg #[pp xb,rv,.bool hv],.string (bs s),.bool false] w fun e w'=>Ext w w'/\∃ u,e = .returned (.tuple #[u,.bool true]):=by
 obtain⟨bb,cap,cs,a1,c1,a2,c2,a3,c3,a4,c4,rfl,hd'⟩:=id hd
 clear hd'
 refine sh_l_asked_ok ?_
 obtain⟨wA,hwA⟩:∃ y,y=w.alloc (.cells #[pp xb,.slice (some ⟨bb,0,none⟩) 1 cap,.bool hv] 25):=⟨_,rfl⟩
 have hEA:Ext w wA:=by rw[hwA];exact(FrM.refl _ _).alloc _
 have gA:wA.heap[w.heap.size]?=some (.cells #[pp xb,.slice (some ⟨bb,0,none⟩) 1 cap,.bool hv] 25):=by rw[hwA];exact hp_alloc_new rfl
 simp (disch:=first|assumption|omega|simp only[zS]<;>omega|decide) only[zb83,simprocAttr]
 rw[<- hwA]
 refine(pAsk s hl (hT.ext hEA).two (hT.ext hEA).cmp (hE0.ext hEA) (hx.ext hEA)).mono ?_
 rintro e w1 ⟨hE1,hp⟩
 have hq0:P.question s=P.ofText P.quesT s:=rfl
 cases hr:P.ofText P.quesT s with
 | err c a=>
  rw[hr] at hp
  subst hp
  simp (disch:=first|assumption|omega|simp only[zS]<;>omega|decide) only[zb83,simprocAttr]
  refine(rQuestion s w1 hl).mono ?_
  rintro e w2 ⟨hE2,hq⟩
  rw[hq0,hr] at hq
  obtain⟨hc,rfl⟩:=hq
  have hc':¬ ((c:Nat):Int)=0:=by omega
  simp (disch:=first|assumption|omega|simp only[zS]<;>omega|decide) only[zb83,simprocAttr]
  have hX:Ext w (upd (w2.alloc (.cells #[.string (bs []),.slice none 0 0,.int .u8 0,.string (bs []),.slice none 0 0,.slice none 0 0,.slice none 0 0] 43 (0,0))) w2.heap.size (.cells #[.string (bs []),.slice none 0 0,.int .u8 0,.string (bs []),.slice none 0 0,.slice none 0 0,.slice none 0 0] 43 (0,0))):=((hEA.trans hE1).trans hE2).trans (((FrM.refl _ _).alloc _).upd (.inr (Nat.le_refl _)))
  exact⟨hX,_,rfl⟩
 | ok x k vs=>
  rw[hr] at hp
  obtain⟨qb,rfl⟩:=hp
  simp (disch:=first|assumption|omega|simp only[zS]<;>omega|decide) only[zb83,simprocAttr]
  refine(rQuestion s w1 hl).mono ?_
  rintro e w2 ⟨hE2,hq⟩
  rw[hq0,hr] at hq
  obtain⟨b0,b1,b2,b3,va,vc,rfl,hbd,hns,hv12⟩:=hq
  obtain⟨d0,d1,d2,d3,hsh,hshb⟩:=hbd.sh
  simp only[List.cons.injEq,and_true] at hsh
  obtain⟨rfl,rfl,rfl,rfl⟩:=hsh
  obtain⟨z0,z1,z2,z3,z4,z5,z6,z7,hd0,hd1,hd2,hd3⟩:=id hshb
  have hone:b0.oneCell'=true/\b1.oneCell'=true/\b2.oneCell'=true/\b3.oneCell'=true:=by rw[hd0,hd1,hd2,hd3];exact⟨rfl,rfl,rfl,rfl⟩
  obtain⟨y0,y1,y2,y3⟩:=hone
  simp (disch:=first|assumption|omega|simp only[zS]<;>omega|decide) only[zb83,simprocAttr,y0,y1,y2,y3]
  obtain⟨w3,hw3⟩:∃ y,y=upd (w2.alloc (.cells #[.string (bs []),.slice none 0 0,.int .u8 0,.string (bs []),.slice none 0 0,.slice none 0 0,.slice none 0 0] 43 (0,0))) w2.heap.size
   (.cells #[.string (bs []),.slice none 0 0,b0,b1,b2,b3,.slice va vs.length vc] 43 (0,0)):=⟨_,rfl⟩
  have hE3:Ext w2 w3:=by rw[hw3];exact((FrM.refl _ _).alloc _).upd (.inr (Nat.le_refl _))
  have g3:w3.heap[w2.heap.size]?=some (.cells #[.string (bs []),.slice none 0 0,b0,b1,b2,b3,.slice va vs.length vc] 43 (0,0)):=by rw[hw3];exact hp_upd_same rfl (by rw[size_alloc];omega)
  have hw3r:upd (w2.alloc (.cells #[.string (bs []),.slice none 0 0,.int .u8 0,.string (bs []),.slice none 0 0,.slice none 0 0,.slice none 0 0] 43)) w2.heap.size
   (.cells #[.string (bs []),.slice none 0 0,b0,b1,b2,b3,.slice va vs.length vc] 43)=w3:=hw3.symm
  rw[hw3r]
  have hbd3:IsRb (fun b=>b<w3.heap.size) w3 [b0,b1,b2,b3] x:=hbd.mono (fun b h=>by have:=hE3.size;have:=h.2;show b<_;omega) (fun _ _ _ ho=>hE3.ext _ _ ho) (fun _ _ _ ho=>hE3.ext _ _ ho)
  refine(rClauseSize ⟨[],[],x,vs⟩ _ w3 [.string (bs []),.slice none 0 0,b0,b1,b2,b3,.slice va vs.length vc] ⟨.slice none 0 0,[],b0,b1,b2,b3,va,vc,rfl,.inl ⟨rfl,rfl,rfl⟩,by unfold IsRxs;rfl,hbd3⟩).mono ?_
  rintro e w4 ⟨hE4,z,rfl⟩
  simp (disch:=first|assumption|omega|simp only[zS]<;>omega|decide) only[zb83,simprocAttr]
  refine⟨fun _ w'=>w'=w4,?_,?_⟩
  ·refine⟨fun s' w'=>w'=w4/\s' 63 = .bool false,?_,?_⟩
   ·simp (disch:=first|assumption|omega|simp only[zS]<;>omega|decide) only[zb83,simprocAttr]
    try exact⟨rfl,rfl⟩
   ·rintro s' w' ⟨rfl,hs'⟩ d'
    rw[hs']
    simp (disch:=first|assumption|omega|simp only[zS]<;>omega|decide) only[zb83,simprocAttr]
  ·rintro s' w' rfl d'
   refine⟨fun _ w''=>w''=w',?_,?_⟩
   ·refine⟨fun s' w''=>w''=w'/\s' 75 = .bool false,?_,?_⟩
    ·simp (disch:=first|assumption|omega|simp only[zS]<;>omega|decide) only[zb83,simprocAttr]
     try exact⟨rfl,rfl⟩
    ·rintro s' w'' ⟨rfl,hs'⟩ d'
     rw[hs']
     simp (disch:=first|assumption|omega|simp only[zS]<;>omega|decide) only[zb83,simprocAttr]
   ·rintro s' w'' rfl d'
    have hEA4:Ext wA w'':=((hE1.trans hE2).trans hE3).trans hE4
    have gA4:=hEA4.ext _ _ gA
    have g4:=hE4.ext _ _ g3
    have lA4:=ltOf gA4
    simp (disch:=first|assumption|omega|simp only[zS]<;>omega|decide) only[zb83,simprocAttr,gA4,g4,y0,y1,y2,y3]
    have s4:=hE4.size
    have hbd4:IsRb (fun b=>b<w''.heap.size) w'' [b0,b1,b2,b3] x:=hbd3.mono (fun b h=>by have:b<w3.heap.size:=h;show b<_;omega) (fun _ _ _ ho=>hE4.ext _ _ ho) (fun _ _ _ ho=>hE4.ext _ _ ho)
    have hd4:BaseD w'' (.slice (some ⟨bb,0,none⟩) 1 cap):=hd.ext (hEA.trans hEA4)
    obtain⟨hvs,M,hM,hbok⟩:=P.ques_ok hr
    have hns4:IsSl (fun b=>b<w''.heap.size) w'' 9 (.slice va vs.length vc) (vs.map fun s=>.string (bs s)):=hns.mono (fun b h=>by have:=hE3.size;have:=h.2;show b<_;omega) (fun _ _ _ ho=>hE4.ext _ _ (hE3.ext _ _ ho))
    refine Calls.mono (rAsk hbd4 hv12) ?_
    rintro e w5 ⟨wb,hb,H,ids,vv,rfl,hE5,hhb,k5,hvv5,hil,hids,f1,f2,f3,f4,f5,f6,f7⟩
    simp (disch:=first|assumption|omega|simp only[zS]<;>omega|decide) only[zb83,simprocAttr]
    obtain⟨w6,hw6⟩:∃ y,y=w5.alloc (.cells #[pp qb,.slice none 0 0,zi 0,zi 0,.bool false] 53):=⟨_,rfl⟩
    have hE6:Ext w5 w6:=by rw[hw6];exact(FrM.refl _ _).alloc _
    have g6:w6.heap[w5.heap.size]?=some (.cells #[pp qb,.slice none 0 0,zi 0,zi 0,.bool false] 53):=by rw[hw6];exact hp_alloc_new rfl
    rw[<- hw6]
    have hi:Inv M H 0 [⟨false,x,ids,0,-1⟩] []:=by
     have hp:H.pot H.cost=100005:=by rw[f5];unfold P.Hp.pot;rw[f6]
     have hm1:(M+2)*(H.most+1-H.cost)≤2902*20001:=by rw[f5,f6];exact Nat.mul_le_mul_right _ (by omega)
     have hm2:(M+5)*(H.most+1-H.cost)≤2905*20001:=by rw[f5,f6];exact Nat.mul_le_mul_right _ (by omega)
     refine⟨f1,f2,by omega,by rw[f4,f5];exact Nat.le_refl _,by omega,by omega,by simp only[List.length_cons,List.length_nil];omega,by rw[f5,f6];simp,?_,?_,fun i a ha=>by simp at ha⟩
     ·exact GsOk.snoc (L:=[]) (fun i g hg=>by simp at hg) ⟨fun _=>by show P.BdOk ids.length M x;rw[hil];exact hbok,hids,Fine.nil⟩
     ·exact fine_new (L:=[]) (Nat.le_refl _)
    have k6:WK w6 hb wb H (.slice (some ⟨bb,0,none⟩) 1 cap) vv (.slice va vs.length vc) 0 [⟨false,x,ids,0,-1⟩] []:=by
     obtain⟨_,_,_,_,k⟩:=k5
     exact⟨_,_,_,_,k.ext hE6⟩
    have hlh:hb<w5.heap.size:=by obtain⟨_,_,_,_,k⟩:=k5;exact k.h.lt
    have hB6:BaseA w6 hb (.slice (some ⟨bb,0,none⟩) 1 cap):=hd4.base (hE5.trans hE6) hhb
    have hnv6:IsSl (fun b=>b<hb) w6 9 (.slice va vs.length vc) (vs.map fun s=>.string (bs s)):=hns4.mono (fun b h=>by have:b<w''.heap.size:=h;show b<_;omega) (fun _ _ _ ho=>hE6.ext _ _ (hE5.ext _ _ ho))
    have hvv6:=(hE6.toU:UpFr hb w5 w6).vars hlh hvv5
    refine Calls.mono (rAnswers k6 hB6 hi hM hvs hnv6 hvv6 hil hids (by rw[f5];unfold P.Hp.pot;rw[f6];omega)) ?_
    rintro e w7 ⟨p,n,c,er,sp,rfl,u7⟩
    have hno:¬ OwnOf w6 hb w5.heap.size:=fun ho=>by
     obtain⟨_,_,_,_,k⟩:=k5
     obtain⟨_,_,_,_,_,_,_,hx5⟩:=id k.h
     have:=k.h.ownLtB (OwnOf.same (by rw[hE6.ext _ _ hx5.cell,hx5.cell]) ho)
     omega
    have g7:=u7.keep (by have:=hE6.size;omega) _ _ _ _ g6 hno (by decide)
    have l7:=ltOf g7
    have hE06:Ext w w6:=((hEA.trans hEA4).trans hE5).trans hE6
    have hX:Ext w w7:=⟨u7.os.trans hE06.os,u7.tape.trans hE06.tape,u7.output.trans hE06.output,Nat.le_trans hE06.size u7.size,fun b o hb' _=>u7.block _ _ (hE06.ext _ _ hb') (by have:=ltOf hb';omega)⟩
    have hsz:w.heap.size≤w5.heap.size:=by omega
    cases sp with
    | true=>
     simp (disch:=first|assumption|omega|simp only[zS]<;>omega|decide) only[zb83,simprocAttr,g7]
     refine⟨fun _ w'=>Ext w w',?_,fun _ w' hE' _=>⟨hE',_,rfl⟩⟩
     by_cases her:er=0
     ·simp (disch:=first|assumption|omega|simp only[zS]<;>omega|decide) only[zb83,simprocAttr,g7,her]
      exact hX.upd (.inr hsz)
     ·simp (disch:=first|assumption|omega|simp only[zS]<;>omega|decide) only[zb83,simprocAttr,g7]
      exact hX.upd (.inr hsz)
    | false=>
     simp (disch:=first|assumption|omega|simp only[zS]<;>omega|decide) only[zb83,simprocAttr,g7]
     refine⟨fun _ w'=>Ext w w',?_,fun _ w' hE' _=>⟨hE',_,rfl⟩⟩
     by_cases her:er=0
     ·simp (disch:=first|assumption|omega|simp only[zS]<;>omega|decide) only[zb83,simprocAttr,g7,her]
      exact hX.upd (.inr hsz)
     ·simp (disch:=first|assumption|omega|simp only[zS]<;>omega|decide) only[zb83,simprocAttr,g7]
      exact hX.upd (.inr hsz)
def zb84:=(zA zG0 (zA @sh_l_Asks.eq_1 (zA @al_25 (zA @ld_25 (zA @ln_9 @st_25)))))
theorem lAsks (s:P.Bs) (w:World) (hT:STabs w) (hE0:TabE w) (hs:s.length≤9223372036854775807):Calls Tryz.prog 3 #[.string (bs s)] w fun e w'=>Ext w w'/\e = .returned (.bool true):=by
 refine sh_l_Asks_ok ?_
 by_cases h:32768<s.length
 ·simp (disch:=first|assumption|omega|simp only[zS]<;>omega|decide) only[zb84,simprocAttr]
  exact FrM.refl _ _
 ·simp (disch:=first|assumption|omega|simp only[zS]<;>omega|decide) only[zb84,simprocAttr]
  refine(lLoaded [97,46] w (by simp) hT hE0).mono ?_
  rintro e w1 ⟨hE,hp⟩
  obtain⟨k,vs0,hpr⟩:=P.program_a
  rw[hpr] at hp
  obtain⟨b,v,vs,rv,xs,hv,rfl,g1,g2,g3,g4,o1,o2⟩:=hp
  have hd:BaseD w1 rv:=BaseD.of o1 o2 rfl (fun b hb=>hb.2)
  obtain⟨u,r,rfl,hcl,hr⟩:=g4
  have hr:r=[]:=hr
  subst hr
  obtain⟨cb,av,bv,va,vc,rfl,hF,hcb,hav,-⟩:=hcl
  obtain⟨us,hu1,hu2⟩:=hav
  have hu2:us=[]:=by unfold IsExs at hu2;exact hu2
  subst hu2
  obtain⟨a0,ac,rfl⟩:=hu1.sl
  have hx:BaseP w1 b:=⟨_,v,cb,a0,ac,bv,va,_,vc,g1,g3,hcb⟩
  obtain⟨bb,cap,cs,a1,c1,a2,c2,a3,c3,a4,c4,hrv,hd'⟩:=id hd
  clear hd'
  obtain⟨w2,hw2⟩:∃ y,y=upd (w1.alloc (.cells #[.pointer none,.slice none 0 0,.bool false] 25)) w1.heap.size (.cells #[pp b,rv,.bool hv] 25):=⟨_,rfl⟩
  have hE2:Ext w1 w2:=by rw[hw2];exact((FrM.refl _ _).alloc _).upd (.inr (Nat.le_refl _))
  subst hrv
  simp (disch:=first|assumption|omega|simp only[zS]<;>omega|decide) only[zb84,simprocAttr]
  have hw2r:upd (w1.alloc (.cells #[.pointer none,.slice none 0 0,.bool false] 25)) w1.heap.size (.cells #[pp b,.slice (some ⟨bb,0,none⟩) 1 cap,.bool hv] 25)=w2:=hw2.symm
  rw[hw2r]
  refine(lAsked s (by omega) ((hT.ext hE).ext hE2) ((hE0.ext hE).ext hE2) (hx.ext hE2) (hd.ext hE2)).mono ?_
  rintro e w3 ⟨hE3,u,rfl⟩
  simp (disch:=first|assumption|omega|simp only[zS]<;>omega|decide) only[zb84,simprocAttr]
  exact(hE.trans hE2).trans hE3
end Go.Proofs.YtilpjhceemaplaaGreatDoor
namespace Go.Proofs.YtilpjhceemaplaaGreatDoor
open Go.ChangeShapes Go.WideShapes Go.ChangeAt Go.WideMaps Go.WideElems Go.RowKit
theorem strs_of{P:Program}{name:String}{W:World}{g t e n:Nat}{ss:List (List UInt8)}(hg:P.globalNamed name=some g)(ht:(P.globals[g]?).map (·.type)=some t)
  (hu:P.underlying t=some (.array n e)) (he:P.underlying e=some .string) (hc:P.cellsOf e=1) (hct:P.cellsOf t=n)
  (h:laidMet P [(name,.agg (ss.map fun s=>.lit (.string s)))] W):∃ cs T z,W.heap[g]?=some (.cells cs T z)/\cs.toList=ss.map fun s=>.string ⟨s.toArray⟩:=by
 obtain⟨ps,⟨g',t',cs,f,p,q,hg',ht',hv,hd,-,-⟩,-,-⟩:=h
 obtain rfl:=Option.some.inj (hg.symm.trans hg')
 obtain rfl:=Option.some.inj (ht.symm.trans ht')
 have hcell:∃ T z,W.heap[g]?=some (.cells cs T z):=by
  simp only[World.var?,hg,Option.bind_some] at hv
  split at hv
  ·simp only[Option.some.injEq] at hv;subst hv;exact⟨_,_,by assumption⟩
  ·cases hv
 obtain⟨T,z,hT⟩:=hcell
 obtain⟨xs,m,rfl,hx,hl,hn,hel⟩:=DataW.trod_array hu hd
 simp only[Prod.mk.injEq,DataW.agg.injEq] at hx
 have hlen:ss.length=xs.length:=by have:=congrArg List.length hx.1;simpa using this
 refine⟨cs,T,z,hT,?_⟩
 refine List.ext_getElem (by simp [hl,hct,hlen,hn]) fun i h1 h2=>?_
 have hi:i<n:=by rw[<- hct,<- hl];exact h1
 have h3:=hel i hi
 have h4:(cs.toList.drop (i*P.cellsOf e)).take (P.cellsOf e)=[cs.toList[i]]:=by
  rw[hc,Nat.mul_one,List.drop_eq_getElem_cons h1];rfl
 rw[h4,List.getElem?_eq_getElem (by omega)] at h3
 obtain⟨s,e1,e2,-⟩:=DataW.trod_string he h3
 simp only[List.cons.injEq,and_true] at e1
 have h5:(ss.map fun s=>(DataW.lit (.string s):DataW Unit))[i]'(by simpa [hlen,hn] using hi)=(xs.map (·.1))[i]'(by simpa [hn] using hi):=by
  simp only[hx.1]
 simp only[List.getElem_map,e2,DataW.lit.injEq,Lit.string.injEq] at h5
 rw[e1,List.getElem_map,h5]
theorem one_of{P:Program}{W:World}{l:List (String×DataW Unit)}{name:String}{d:DataW Unit}(h:laidMetH P l W)(hf:(l.filter fun x=>x.1 == name)=[(name,d)])(hd:d.handleName?.isNone=true) :
  laidMet P [(name,d)] W:=by
 have h1:=h.filter fun x=>x.1 == name
 rw[hf,MakeChecks.laidMetH_plain _ _ _ (by simp [hd])] at h1
 exact h1
theorem Tryz.gSigns:Tryz.prog.globalNamed "horn/syntax.signs" = some 1:=by kernel_rfl
theorem Tryz.gLevels:Tryz.prog.globalNamed "horn/syntax.levels" = some 2:=by kernel_rfl
theorem Tryz.gCompare:Tryz.prog.globalNamed "horn/syntax.compare" = some 3:=by kernel_rfl
theorem Tryz.gErr:Tryz.prog.globalNamed "errors.errorType" = some 0:=by kernel_rfl
theorem Tryz.rt:(Tryz.prog.cutTypes.find? (·.1 == "internal/reflectlite.rtype")).map (·.2)=some 223:=by kernel_rfl
theorem Tryz.oneRow:((List.range (511-100)).filter fun t=>Tryz.prog.rowNamed t [101,114,114,111,114])=[57]:=by kernel_rfl
theorem Tryz.size:Tryz.prog.types.size=511-100:=by kernel_rfl
theorem errs_of{W:World}{l:List (String×DataW Unit)}(h:laidMetH Tryz.prog l W)(hf:(l.filter fun x=>x.1 == "errors.errorType")=[("errors.errorType",Rows.laid_errors_errorType)]):TabE W:=by
 have h1:=h.filter fun x=>x.1 == "errors.errorType"
 rw[hf] at h1
 have h':laidMet Tryz.prog [] W/\handlesMet Tryz.prog [("errors.errorType",Rows.laid_errors_errorType)] W:=h1
 obtain⟨name,u,ty,e1,e2,e3,e4,e5⟩:=h'.2 _ (List.mem_singleton.2 rfl)
 have en:name=[101,114,114,111,114]:=(Option.some.inj e1).symm
 subst en
 obtain rfl:=Option.some.inj (Tryz.rt.symm.trans e2)
 have hm:ty∈(List.range (511-100)).filter fun t=>Tryz.prog.rowNamed t [101,114,114,111,114]:=List.mem_filter.2 ⟨List.mem_range.2 (by rw[<- Tryz.size];exact e3),e4⟩
 rw[Tryz.oneRow] at hm
 obtain rfl:=List.mem_singleton.1 hm
 have hh:typeHandle Tryz.prog 57 = .pointer (some ⟨12,57,none⟩):=by kernel_rfl
 rw[hh] at e5
 unfold TabE
 simpa using World.var?_cell Tryz.gErr e5 0
theorem signs_of{W:World}{l:List (String×DataW Unit)}(h:laidMetH Tryz.prog l W)(hf:(l.filter fun x=>x.1 == "horn/syntax.signs")=[("horn/syntax.signs",Rows.laid_horn_syntax_signs)]):STabS W:=by
 have h1:=one_of h hf rfl
 obtain⟨cs,T,z,h2,h3⟩:=strs_of (ss:=P.signs) Tryz.gSigns (t:=_) (e:=9) (n:=23) rfl rfl Tryz.underlying9 (by kernel_rfl) (by kernel_rfl) h1
 refine⟨cs,T,z,h2,?_,?_⟩
 ·rw[<- Array.length_toList,h3];decide
 ·rw[h3];rfl
theorem cmp_of{W:World}{l:List (String×DataW Unit)}(h:laidMetH Tryz.prog l W)(hf:(l.filter fun x=>x.1 == "horn/syntax.compare")=[("horn/syntax.compare",Rows.laid_horn_syntax_compare)]):STabC W W.heap.size:=by
 have h1:=one_of h hf rfl
 obtain⟨cs,T,z,h2,h3⟩:=strs_of (ss:=P.compares) Tryz.gCompare (t:=_) (e:=9) (n:=9) rfl rfl Tryz.underlying9 (by kernel_rfl) (by kernel_rfl) h1
 refine⟨ltOf h2,fun j hj=>?_⟩
 have h4:cs[j]?=cs.toList[j]?:=(Array.getElem?_toList ..).symm
 simp only[World.cell?,h2]
 rw[if_neg (by simp),h4,h3,List.getElem?_map,List.getD_eq_getElem?_getD,List.getElem?_eq_getElem (show j<P.compares.length from hj)]
 rfl
theorem row_of{P:Program}{W:World}{t e f:Nat}{v:Value}{ss:List (List UInt8)}{x:List MemPlace}(hu:P.underlying t=some (.slice e))(he:P.underlying e=some .string)(hc:P.cellsOf e=1)(h0:0<ss.length)
  (h:DataW.trod (fun _=>()) P W 0 (fun _=>true) false f t [v]=some (.slice (ss.map fun s=>.lit (.string s)) [],x)) :
  ∃ b o c,b<W.heap.size/\v = .slice (some ⟨b,o,none⟩) ss.length c/\∀ j,j<ss.length->W.cell? ⟨b,o+j,none⟩=some (.string ⟨(ss.getD j []).toArray⟩):=by
 obtain⟨a,cap,e1,-,e3⟩:=open_row hu hc h
 simp only[List.cons.injEq,and_true,List.length_map] at e1
 have key:∀ j,j<ss.length->W.cell? (a.add j)=some (.string ⟨(ss.getD j []).toArray⟩):=fun j hj=>by
  obtain⟨u,n,q,c1,c2⟩:=e3 j (.lit (.string ss[j])) (by rw[List.getElem?_map,List.getElem?_eq_getElem hj];rfl)
  obtain⟨s,d1,d2,-⟩:=DataW.trod_string he c2
  simp only[List.cons.injEq,and_true] at d1
  simp only[Prod.mk.injEq,DataW.lit.injEq,Lit.string.injEq] at d2
  rw[c1,d1,List.getD_eq_getElem?_getD,List.getElem?_eq_getElem hj,Option.getD_some,d2.1]
 have k0:=key 0 h0
 obtain⟨b,o,sp⟩:=a
 have hsp:sp=none:=by
  cases sp with
  | none=>rfl
  | some y=>
   simp only[World.cell?,Addr.add] at k0
   split at k0
   ·simp at k0
   ·cases k0
 subst hsp
 have addE:∀ j,(⟨b,o,none⟩:Addr).add j=⟨b,o+j,none⟩:=fun j=>by
  unfold Addr.add
  by_cases hj:j=0
  ·subst hj;simp
  ·simp [hj]
 have hb:b<W.heap.size:=by
  rw[addE] at k0
  simp only[World.cell?] at k0
  cases hh:W.heap[b]? with
  | none=>rw[hh] at k0;simp at k0
  | some o'=>exact(Array.getElem?_eq_some_iff.1 hh).1
 exact⟨b,o,cap,hb,e1,fun j hj=>addE j ▸ key j hj⟩
theorem lev_of{W:World}{l:List (String×DataW Unit)}(h:laidMetH Tryz.prog l W)(hf:(l.filter fun x=>x.1 == "horn/syntax.levels")=[("horn/syntax.levels",Rows.laid_horn_syntax_levels)]):STab W W.heap.size:=by
 obtain⟨ps,⟨g',t',cs,f,p,q,hg',ht',hv,hd,-,-⟩,-,-⟩:=one_of h hf rfl
 obtain rfl:=Option.some.inj (Tryz.gLevels.symm.trans hg')
 obtain rfl:=Option.some.inj ((show(Tryz.prog.globals[2]?).map (·.type)=some _ from rfl).symm.trans ht')
 obtain⟨xs,m,rfl,hx,hl,hn,hel⟩:=DataW.trod_array (n:=2) (e:=41) rfl hd
 have hcell:∃ T z,W.heap[2]?=some (.cells cs T z):=by
  simp only[World.var?,Tryz.gLevels,Option.bind_some] at hv
  split at hv
  ·simp only[Option.some.injEq] at hv;subst hv;exact⟨_,_,by assumption⟩
  ·cases hv
 obtain⟨T,z,hT⟩:=hcell
 have hc:Tryz.prog.cellsOf 41=1:=by kernel_rfl
 have hsz:cs.toList.length=2:=by rw[hl];kernel_rfl
 simp only[Prod.mk.injEq,Rows.laid_horn_syntax_levels,DataW.agg.injEq] at hx
 refine⟨ltOf hT,fun i hi=>?_⟩
 have h3:=hel i hi
 have h4:(cs.toList.drop (i*Tryz.prog.cellsOf 41)).take (Tryz.prog.cellsOf 41)=[cs.toList[i]]:=by
  rw[hc,Nat.mul_one,List.drop_eq_getElem_cons (by omega)];rfl
 rw[h4,List.getElem?_eq_getElem (by omega)] at h3
 have h5:xs[i].1 = .slice ((P.ops i).map fun s=>.lit (.string s)) []:=by
  have:(xs.map (·.1))[i]'(by simpa [hn] using hi)=xs[i].1:=by simp
  rw[<- this]
  simp only[<- hx.1]
  match i,hi with
  | 0,_=>rfl
  | 1,_=>rfl
 obtain⟨b,o,c,k1,k2,k3⟩:=row_of (ss:=P.ops i) (x:=xs[i].2) (t:=41) (e:=9) Tryz.underlying41 Tryz.underlying9 (by kernel_rfl) (by unfold P.ops;split<;>simp) (by rw[h3,<- h5])
 refine⟨b,o,c,k1,?_,k3⟩
 simp only[World.cell?,hT]
 rw[if_neg (by simp),<- Array.getElem?_toList,List.getElem?_eq_getElem (by omega),k2]
theorem tabs_of{W:World}{l:List (String×DataW Unit)}(h:laidMetH Tryz.prog l W)(h1:(l.filter fun x=>x.1 == "horn/syntax.signs")=[("horn/syntax.signs",Rows.laid_horn_syntax_signs)])
  (h2:(l.filter fun x=>x.1 == "horn/syntax.levels")=[("horn/syntax.levels",Rows.laid_horn_syntax_levels)]) (h3:(l.filter fun x=>x.1 == "horn/syntax.compare")=[("horn/syntax.compare",Rows.laid_horn_syntax_compare)]):STabs W:=
 ⟨lev_of h h2,cmp_of h h3,signs_of h h1⟩
end Go.Proofs.YtilpjhceemaplaaGreatDoor
namespace Go.Proofs.YtilpjhceemaplaaGreatDoor
open Go.ChangeShapes Go.WideShapes Go.RowKit
theorem Tryz.own:ownKnob Tryz.prog.godebug=none:=by kernel_rfl
theorem keptExt{w w':World}(h:Ext w w')(may:MemPlace->Prop):w.keptBut w' may:=by
 refine⟨h.os,h.output,fun i hi=>?_⟩
 have e:=h.ext i _ (Array.getElem?_eq_getElem hi)
 rw[e,Array.getElem?_eq_getElem hi]
 cases w.heap[i] with
 | cells c t fr=>exact⟨rfl,rfl,rfl,fun _ _=>rfl⟩
 | map es clock=>exact .inr ⟨rfl,rfl⟩
 | _=>rfl
theorem laidMet_layAll{P:Program}{w0 w':World}{laid:List (String×DataW Unit)}(hh:w'.heap=(w0.layVars P laid).heap)(hf:w0.layFits P laid []=true)(hi:w0.layIfaces P laid w'=true):laidMet P laid w':=by
 have e1:(laid.filter fun x=>(laid.map (·.1)).contains x.1)=laid:=List.filter_eq_self.2 fun x hx=>List.contains_iff_mem.2 (List.mem_map.2 ⟨x,hx,rfl⟩)
 have e2:(laid.filter fun x=>!(laid.map (·.1)).contains x.1)=[]:=List.filter_eq_nil_iff.2 fun x hx=>by rw[List.contains_iff_mem.2 (List.mem_map.2 ⟨x,hx,rfl⟩)];simp
 exact laidMet_layVars (w0:=w0) (laid.map (·.1)) [] (by rw[e1];exact hh) (by rw[e1];exact hf) (by rw[e1];exact hi) (by rw[e2];exact LaidIn.none)
noncomputable def wH(os:Os):World:=
 let w0:=World.holding Tryz.prog os ⟨#[],#[],[]⟩
 { w0 with heap:=w0.heap.modify 0 fun
  | .cells _ t frozen=>.cells #[.iface 223 (.agg #[.pointer (some ⟨12,57,none⟩)])] t frozen
  | o=>o }
noncomputable def wLd(l:List (String×DataW Unit))(os:Os):World:=(wH os).layVars Tryz.prog (l.filter fun x=>x.2.handleName?.isNone)
theorem wLd_os(l:List (String×DataW Unit))(os:Os):(wLd l os).os=os:=World.layVars_os _ _ _
theorem asks_door(os:Os)(args:Array Value):laidMetH Tryz.prog Rows.asksRow.laid ((wLd Rows.asksRow.laid os).forCall (fun _ _=>0) ⟨#[],args,[]⟩).memory:=
 laidMetH_of_parts (laidMet_layAll (w0:=wH os) (by simp [World.memory,World.forCall,Input.heap,wLd]) (by kernel_rfl) (by kernel_rfl)) (by kernel_rfl)
end Go.Proofs.YtilpjhceemaplaaGreatDoor
namespace Go.Proofs.YtilpjhceemaplaaGreatDoor
open Go.ChangeShapes Go.WideShapes Go.RowKit Go.ChangeMaps
theorem asks_lifted(os:Os)(started:os.Started)(H:Type)(enc:TypeId×Value->H) :
  ReturnsInHanded {} Tryz.checked os 3 .any (fun w args=>(Rows.asksSpec.pre enc Tryz.prog Tryz.f3 [] false w args/\laidMetH Tryz.prog Rows.asksRow.laid w)/\sizedMet enc Tryz.prog Tryz.f3 (OpenSpec.ofChange Rows.asksSpec) false w args)
   (Rows.asksSpec.post enc Tryz.prog Tryz.f3 false true false false):=by
 refine returnsInHanded_of_change_and (C:=Tryz.checked) (X:=fun w _=>laidMetH Tryz.prog Rows.asksRow.laid w) (fun _ _ _ hh h=>h.of_heap hh) Tryz.own started (by kernel_rfl) Tryz.func3
  (ChangeSpec.witness_shaped (enc:=enc) (C:=Tryz.checked) (os:=os) (X:=fun w _=>laidMetH Tryz.prog Rows.asksRow.laid w) false (wLd Rows.asksRow.laid os) #[.string (bs [])] 8 (wLd_os _ _) (World.shaped_of_ZipB (by kernel_rfl) (by kernel_rfl)) (by kernel_rfl) (by kernel_rfl) (by kernel_rfl) (asks_door os _)) ?_
 intro W base args ds gs before hval0 hW _ _ hL _
 have hval:∀ (j:Nat) t v,Tryz.f3.params[j]?=some t->args[j]?=some v->Value.okWide Tryz.prog W .any base t v:=hval0
 have hW':=hW
 obtain⟨p,q,hA0,hV,rfl,hfz,hnd⟩:=hW
 have hA:DataW.TrodAll enc Tryz.prog W 0 (fun _=>true) true Tryz.f3.params.toList args.toList ds p:=hA0
 rw[Tryz.params3] at hA hval
 obtain⟨v0,d0,rfl,rfl,h0⟩:=trodAll_one hA
 obtain⟨rfl,rfl⟩:=trodVars_none hV
 obtain⟨s,rfl,rfl,rfl,hs⟩:=open_string Tryz.underlying9 (hval 0 9 v0 rfl rfl) h0
 have hT:STabs W:=tabs_of hL (by kernel_rfl) (by kernel_rfl) (by kernel_rfl)
 have hE:=errs_of hL (by kernel_rfl)
 have es:s=bs s.data.toList:=by cases s;simp
 refine((lAsks s.data.toList W hT hE (by simp only[Array.length_toList];have:s.data.size=s.size:=rfl;unfold maxLen at hs;omega)).mono fun e W' ⟨hX,he⟩=>?_)
 subst he
 refine⟨_,rfl,_,_,_,[],[],[],hW',?_,?_,?_,keptExt hX _,fun h=>by cases h⟩
 ·exact trodAll_mk1 (shut_bool Tryz.underlying4 true)
 ·exact trodAll_mk1 (shut_string Tryz.underlying9 hs)
 ·rfl
theorem asks_holds:Rows.AsksSaid:=
 OpenClaim.holds_of_wide 3 Tryz.f3 rfl rfl rfl rfl rfl rfl rfl ⟨rfl,rfl,rfl,rfl,rfl⟩ rfl rfl rfl rfl rfl (by kernel_rfl) Tryz.func3 (by kernel_rfl)
  (of_decide_eq_true (by kernel_rfl)) (by unfold Func.isWrapper;first | (rw[if_pos (by decide +kernel)];kernel_rfl) | (rw[if_neg (by decide +kernel)];exact⟨rfl,rfl⟩))
  (fun os started H enc _=>asks_lifted os started H enc)
end Go.Proofs.YtilpjhceemaplaaGreatDoor
namespace Go.Proofs.YtilpjhceemaplaaGreatDoor
open Go
theorem asks_card:Rows.AsksCardSaid:=
 Claim7.holds_tied_plain_at .later [] [.data,.data,.data,.data,.handle,.sentinel,.sentinel,.data,.data,.data,.pinned] true (true, "500c0948ce3b4b4f607c4d0f1a8567f7f3be9e8bfbb3e5a26dbe174a9b74fe48") true
  asks_holds (fun _ h=>by cases h) (by kernel_rfl) (fun _ h=>by cases h) asks_row_tie rfl ⟨rfl,rfl⟩ (by kernel_rfl) rfl
  (fun f fn hf hfn=>by
   obtain rfl:f=3:=Option.some.inj ((show Tryz.prog.funcNamed "horn/hornlaw.Asks" = some 3 by kernel_rfl).symm.trans hf) |>.symm
   obtain rfl:fn=Tryz.f3:=(Option.some.inj (Tryz.func3.symm.trans hfn)).symm
   exact⟨by kernel_rfl,fun j t ht=>by
    rw[Tryz.params3] at ht
    have h3:t=9:=by
     rcases j with _ | j
     ·simpa using ht.symm
     ·simp at ht
    subst h3
    exact(show Tryz.prog.wantsStandIn 9=false by kernel_rfl)⟩)
  (by kernel_rfl)
end Go.Proofs.YtilpjhceemaplaaGreatDoor
