/- A part of one proof (PureT, RK3, RK4, RK5, RK6, RK7, ShK2, RM1, RM2). -/
import Derived.Test.YtilpjhceemaplaaGreatDoorPkAAM
set_option linter.all false
set_option linter.unusedVariables false
set_option linter.unusedSimpArgs false
set_option maxRecDepth 100000
set_option maxHeartbeats 4000000
namespace Go.Proofs.YtilpjhceemaplaaGreatDoor.P
theorem Hp.walk_more{H:Hp}:∀ {f g t t':Nat},H.walk f t=some t'->f≤g->H.walk g t=some t'
 | 0,g,t,t',h,_=>by
  rw[Hp.walk] at h
  split at h
  ·cases h
  ·rename_i hn;rw[Hp.walk_un hn];exact h
 | f+1,0,t,t',h,hg=>by omega
 | f+1,g+1,t,t',h,hg=>by
  rw[Hp.walk] at h ⊢
  split at h
  ·rename_i hn;rw[if_pos hn];exact walk_more h (by omega)
  ·rename_i hn;rw[if_neg hn];exact h
theorem Xb_mono{x y:Option Xr}{k k':Bs->Nat->List Nat->Option Xr}{r:Xr}(h:Xb x k=some r)(hx:∀ z,x=some z->y=some z)(hk:∀ a b c,k a b c=some r->k' a b c=some r):Xb y k'=some r:=by
 obtain⟨s,c,l,h1,h2⟩:=Xb_some h
 rw[Xb_of (hx _ h1)]
 exact hk _ _ _ h2
structure MoF(H:Hp)(f:Nat):Prop where
 text:∀ t least c seen r,H.text f t least c seen=some r->H.text (f+1) t least c seen=some r
 targs:∀ l first out c seen r,H.targs f l first out c seen=some r->H.targs (f+1) l first out c seen=some r
 list:∀ t out c seen r,H.list f t out c seen=some r->H.list (f+1) t out c seen=some r
theorem moF(H:Hp):∀ f,MoF H f
 | 0=>⟨by intros;simp [Hp.text] at *,by intros;simp [Hp.targs] at *,by intros;simp [Hp.list] at *⟩
 | f+1=>by
  have ih:=moF H f
  refine⟨?_,?_,?_⟩
  ·intro t least c seen r h
   rw[Hp.text] at h ⊢
   split at h
   ·rename_i ho;rw[if_pos ho];exact h
   rename_i ho
   rw[if_neg ho]
   split at h
   ·cases h
   rename_i t' hw
   rw[Hp.walk_more hw (Nat.le_succ _)]
   dsimp only
   split at h
   ·rename_i h1;rw[if_pos h1];exact h
   rename_i h1
   rw[if_neg h1]
   split at h
   ·rename_i h2;rw[if_pos h2];exact h
   rename_i h2
   rw[if_neg h2]
   split at h
   ·rename_i h3;rw[if_pos h3];exact h
   rename_i h3
   rw[if_neg h3]
   split at h
   ·rename_i h4
    rw[if_pos h4]
    exact Xb_mono h (fun z hz=>ih.text _ _ _ _ _ hz) fun a b c h=>Xb_mono h (fun z hz=>ih.text _ _ _ _ _ hz) fun a b c h=>h
   rename_i h4
   rw[if_neg h4]
   split at h
   ·rename_i h5;rw[if_pos h5];exact ih.list _ _ _ _ _ h
   ·rename_i h5;rw[if_neg h5];exact ih.targs _ _ _ _ _ _ h
  ·intro l first out c seen r h
   cases l with
   | nil=>rw[Hp.targs] at h ⊢;exact h
   | cons a l=>
    rw[Hp.targs] at h ⊢
    exact Xb_mono h (fun z hz=>ih.text _ _ _ _ _ hz) fun a b c h=>ih.targs _ _ _ _ _ _ h
  ·intro t out c seen r h
   rw[Hp.list] at h ⊢
   refine Xb_mono h (fun z hz=>ih.text _ _ _ _ _ hz) fun a b c h=>?_
   split at h
   ·cases h
   rename_i t' hw
   rw[Hp.walk_more hw (Nat.le_succ _)]
   dsimp only
   split at h
   ·rename_i h1;rw[if_pos h1];exact h
   rename_i h1
   rw[if_neg h1]
   split at h
   ·rename_i h2;rw[if_pos h2];exact h
   rename_i h2
   rw[if_neg h2]
   split at h
   ·rename_i h3;rw[if_pos h3];exact ih.list _ _ _ _ _ h
   ·rename_i h3;rw[if_neg h3];exact Xb_mono h (fun z hz=>ih.text _ _ _ _ _ hz) fun a b c h=>h
theorem text_more{H:Hp}{f g t least c:Nat}{seen:List Nat}{r:Xr}(h:H.text f t least c seen=some r)(hg:f≤g):H.text g t least c seen=some r:=by
 induction hg with
 | refl=>exact h
 | step _ ih=>exact(moF H _).text _ _ _ _ _ ih
theorem targs_more{H:Hp}{f g c:Nat}{l:List Nat}{first:Bool}{out:Bs}{seen:List Nat}{r:Xr}(h:H.targs f l first out c seen=some r)(hg:f≤g):H.targs g l first out c seen=some r:=by
 induction hg with
 | refl=>exact h
 | step _ ih=>exact(moF H _).targs _ _ _ _ _ _ ih
theorem list_more{H:Hp}{f g t c:Nat}{out:Bs}{seen:List Nat}{r:Xr}(h:H.list f t out c seen=some r)(hg:f≤g):H.list g t out c seen=some r:=by
 induction hg with
 | refl=>exact h
 | step _ ih=>exact(moF H _).list _ _ _ _ _ ih
def Hp.Few(H:Hp):Prop:=∀ t,t<H.nodes.length->(H.nd t).args.length≤4
def Hp.pot(H:Hp)(c:Nat):Nat:=c+5*(H.most+1-c)
structure TotX(H:Hp)(n:Nat):Prop where
 text:∀ t least c seen,t<H.nodes.length->H.most+1-c≤n->∃ f s c' l,H.text f t least c seen=some (s,c',l)/\H.pot c'≤H.pot c+(if H.over (c+1) then 1 else 0)
 targs:∀ ars first out c seen,(∀ a∈ars,a<H.nodes.length)->H.most+1-c≤n->∃ f s c' l,H.targs f ars first out c seen=some (s,c',l)/\H.pot c'≤H.pot c+ars.length
 list:∀ t out c seen,t<H.nodes.length->(H.nd t).args.length=2->H.most+1-c≤n->∃ f s c' l,H.list f t out c seen=some (s,c',l)/\H.pot c'≤H.pot c+1
theorem over_up{H:Hp}{c c':Nat}(h:H.over c=true)(hc:c≤c'):H.over c'=true:=by
 unfold Hp.over at *
 simp only[Bool.or_eq_true,decide_eq_true_eq] at *
 omega
theorem totText{H:Hp}(hf:H.Fit)(hw:H.Few){n:Nat}(ih:∀ m,m<n->TotX H m)(t least c:Nat)(seen:List Nat)(ht:t<H.nodes.length)(hc:H.most+1-c≤n) :
  ∃ f s c' l,H.text f t least c seen=some (s,c',l)/\H.pot c'≤H.pot c+(if H.over (c+1) then 1 else 0):=by
 by_cases ho:H.over (c+1)=true
 ·refine⟨1,[],c+1,seen,by rw[Hp.text,if_pos ho],?_⟩
  rw[if_pos ho]
  unfold Hp.pot;omega
 rw[if_neg ho,Nat.add_zero]
 have hlt:c+1≤H.most:=by
  unfold Hp.over at ho
  simp only[Bool.or_eq_true,decide_eq_true_eq] at ho
  omega
 have hp0:H.pot (c+1)+4=H.pot c:=by unfold Hp.pot;omega
 obtain⟨fw,t',hwk⟩:=hf.wk t
 have ht':=Hp.walk_lt' hf.ok ht hwk
 have hargs:=(hf.ok.args _ ht').2
 have ih':=ih (n-1) (by omega)
 by_cases h1:(H.nd t').kind=97
 ·exact⟨fw+1,_,_,_,by rw[Hp.text,if_neg ho,hwk];dsimp only;rw[if_pos h1],by omega⟩
 by_cases h2:(H.nd t').kind=110
 ·exact⟨fw+1,_,_,_,by rw[Hp.text,if_neg ho,hwk];dsimp only;rw[if_neg h1,if_pos h2],by omega⟩
 by_cases h3:(H.nd t').kind=118
 ·cases hx:seen.idxOf? t' with
  | some k=>exact⟨fw+1,_,_,_,by rw[Hp.text,if_neg ho,hwk];dsimp only;rw[if_neg h1,if_neg h2,if_pos h3,hx],by omega⟩
  | none=>exact⟨fw+1,_,_,_,by rw[Hp.text,if_neg ho,hwk];dsimp only;rw[if_neg h1,if_neg h2,if_pos h3,hx],by omega⟩
 by_cases h4:H.power t'≠0
 ·obtain⟨hl2,-⟩:=Hp.power_two h4
  obtain⟨f1,s1,c1,l1,e1,p1⟩:=ih'.text _ (H.power t') (c+1) seen (getD_lt (i:=0) hargs (by omega)) (by omega)
  have m1:=(monH H f1).text _ _ _ _ _ _ _ e1
  obtain⟨f2,s2,c2,l2,e2,p2⟩:=ih'.text _ (H.power t'+1) c1 l1 (getD_lt (i:=1) hargs (by omega)) (by omega)
  refine⟨fw+f1+f2+1,(if H.power t'<least then 40::(s1++(if (H.nd t').name=[109,111,100] then [32,109,111,100,32] else(H.nd t').name)++s2++[41]) else s1++(if (H.nd t').name=[109,111,100] then [32,109,111,100,32] else(H.nd t').name)++s2),c2,l2,?_,?_⟩
  ·rw[Hp.text,if_neg ho,Hp.walk_more hwk (by omega)]
   dsimp only
   rw[if_neg h1,if_neg h2,if_neg h3,if_pos h4,Xb_of (text_more e1 (by omega)),Xb_of (text_more e2 (by omega))]
  ·have q1:(if H.over (c+1+1)=true then 1 else 0)≤1:=by split<;>omega
   have q2:(if H.over (c1+1)=true then 1 else 0)≤1:=by split<;>omega
   omega
 by_cases h5:(H.nd t').name=[46]/\(H.nd t').args.length=2
 ·obtain⟨f1,s1,c1,l1,e1,p1⟩:=ih'.list t' [91] (c+1) seen ht' h5.2 (by omega)
  refine⟨fw+f1+1,s1,c1,l1,?_,by omega⟩
  rw[Hp.text,if_neg ho,Hp.walk_more hwk (by omega)]
  dsimp only
  rw[if_neg h1,if_neg h2,if_neg h3,if_neg h4,if_pos h5,list_more e1 (by omega)]
 ·obtain⟨f1,s1,c1,l1,e1,p1⟩:=ih'.targs (H.nd t').args true ((H.nd t').name++[40]) (c+1) seen hargs (by omega)
  have:=hw t' ht'
  refine⟨fw+f1+1,s1,c1,l1,?_,by omega⟩
  rw[Hp.text,if_neg ho,Hp.walk_more hwk (by omega)]
  dsimp only
  rw[if_neg h1,if_neg h2,if_neg h3,if_neg h4,if_neg h5,targs_more e1 (by omega)]
theorem totX{H:Hp}(hf:H.Fit)(hw:H.Few)(n:Nat):TotX H n:=by
 induction n using Nat.strongRecOn with
 | _ n ih=>
  have hT:=totText hf hw ih
  refine⟨hT,?_,?_⟩
  ·intro ars
   induction ars with
   | nil=>intro first out c seen _ _;exact⟨1,_,_,_,by rw[Hp.targs],by simp⟩
   | cons a r ihr=>
    intro first out c seen ha hc
    obtain⟨f1,s1,c1,l1,e1,p1⟩:=hT a 0 c seen (ha a (List.mem_cons_self ..)) hc
    have m1:=(monH H f1).text _ _ _ _ _ _ _ e1
    obtain⟨f2,s2,c2,l2,e2,p2⟩:=ihr false ((if first then out else out++[44])++s1) c1 l1 (fun b hb=>ha b (List.mem_cons_of_mem _ hb)) (by omega)
    refine⟨f1+f2+1,s2,c2,l2,?_,?_⟩
    ·rw[Hp.targs,Xb_of (text_more e1 (by omega)),targs_more e2 (by omega)]
    ·have q1:(if H.over (c+1)=true then 1 else 0)≤1:=by split<;>omega
     simp only[List.length_cons]
     omega
  ·intro t out c seen ht hl2 hc
   have hargs:=(hf.ok.args _ ht).2
   obtain⟨f1,s1,c1,l1,e1,p1⟩:=hT _ 0 c seen (getD_lt (i:=0) hargs (by omega)) hc
   have m1:=(monH H f1).text _ _ _ _ _ _ _ e1
   obtain⟨fw,r,hwk⟩:=hf.wk ((H.nd t).args.getD 1 0)
   have hr:=Hp.walk_lt' hf.ok (getD_lt (i:=1) hargs (by omega)) hwk
   by_cases ho:H.over c1=true
   ·refine⟨f1+fw+1,out++s1,c1,l1,?_,?_⟩
    ·rw[Hp.list,Xb_of (text_more e1 (by omega)),Hp.walk_more hwk (by omega)]
     dsimp only
     rw[if_pos ho]
    ·have q1:(if H.over (c+1)=true then 1 else 0)≤1:=by split<;>omega
     omega
   have hno:¬ H.over (c+1)=true:=fun h=>ho (over_up h (by omega))
   rw[if_neg hno,Nat.add_zero] at p1
   by_cases h1:(H.nd r).kind=97/\(H.nd r).name=[91,93]
   ·refine⟨f1+fw+1,out++s1++[93],c1,l1,?_,by omega⟩
    rw[Hp.list,Xb_of (text_more e1 (by omega)),Hp.walk_more hwk (by omega)]
    dsimp only
    rw[if_neg ho,if_pos h1]
   have hlt:c1≤H.most:=by
    unfold Hp.over at ho
    simp only[Bool.or_eq_true,decide_eq_true_eq] at ho
    omega
   by_cases h2:(H.nd r).kind=99/\(H.nd r).name=[46]/\(H.nd r).args.length=2
   ·obtain⟨f2,s2,c2,l2,e2,p2⟩:=(ih (n-1) (by omega)).list r (out++s1++[44]) c1 l1 hr h2.2.2 (by omega)
    refine⟨f1+fw+f2+1,s2,c2,l2,?_,by omega⟩
    rw[Hp.list,Xb_of (text_more e1 (by omega)),Hp.walk_more hwk (by omega)]
    dsimp only
    rw[if_neg ho,if_neg h1,if_pos h2,list_more e2 (by omega)]
   ·obtain⟨f2,s2,c2,l2,e2,p2⟩:=hT r 0 c1 l1 hr (by omega)
    refine⟨f1+fw+f2+1,out++s1++[124]++s2++[93],c2,l2,?_,?_⟩
    ·rw[Hp.list,Xb_of (text_more e1 (by omega)),Hp.walk_more hwk (by omega)]
     dsimp only
     rw[if_neg ho,if_neg h1,if_neg h2,Xb_of (text_more e2 (by omega))]
    ·have q1:(if H.over (c1+1)=true then 1 else 0)≤1:=by split<;>omega
     omega
end Go.Proofs.YtilpjhceemaplaaGreatDoor.P
namespace Go.Proofs.YtilpjhceemaplaaGreatDoor
open Go.RowKit Sx
theorem QR.tail{w:World}{hb T:Nat}{rows:List Row}{tail:List Value}(h:QR w hb T rows tail){tail':List Value}(ht:∀ v∈tail',v.ownBlock=none){l3:List Value}(hl3:rows.map (·.2.1)++tail'=l3) :
  QR (upd w hb (.cells l3.toArray T (0,0))) hb T rows tail'/\HFr hb w (upd w hb (.cells l3.toArray T (0,0))):=by
 have lb:=ltOf h.cell
 subst hl3
 refine⟨⟨hp_upd_same rfl lb,fun r hr=>own_upd (h.own r hr) (by omega),h.dis,ht⟩,⟨⟨rfl,rfl,rfl,by rw[size_upd];exact Nat.le_refl _,fun b o hbo hm=>(hp_upd_other (fun e1=>hm (.inl e1))).trans hbo⟩,fun b hb'=>?_⟩⟩
 rcases hb' with rfl | ⟨cs,T',h1,u,hu,hub⟩
 ·exact .inl (.inl rfl)
 ·rw[hp_upd_same rfl lb] at h1
  injection h1 with h1
  injection h1 with h1 _ _
  subst h1
  simp only[List.mem_append,List.mem_map] at hu
  rcases hu with hu | hu
  ·refine .inl (.inr ⟨_,_,h.cell,u,?_,hub⟩)
   simp only[List.mem_append,List.mem_map]
   exact .inl hu
  ·rw[ht u hu] at hub;cases hub
def P.Hp.ce(H:P.Hp)(c e:Nat):P.Hp:={ H with cost:=c,err:=e }
theorem P.Hp.Fit.ce{H:P.Hp}(h:H.Fit)(c e:Nat):(H.ce c e).Fit:=h.same rfl rfl rfl
theorem RHx.ce{A:Nat->Prop}{w:World}{hb:Nat}{H:P.Hp}{kv nv iv av tv rv:Value}{ars:List Value}(h:RHx A w hb H kv nv iv av tv rv ars)(c e:Nat) :
  RHx A (upd w hb (.cells #[kv,nv,iv,av,tv,rv,zi (c:Nat),zi (H.most:Nat),zi (e:Nat)] 93)) hb (H.ce c e) kv nv iv av tv rv ars /\
   HFr hb w (upd w hb (.cells #[kv,nv,iv,av,tv,rv,zi (c:Nat),zi (H.most:Nat),zi (e:Nat)] 93)):=by
 obtain⟨q,f⟩:=h.q.tail (tail':=[zi (c:Nat),zi (H.most:Nat),zi (e:Nat)]) (by
  intro v hv
  simp only[List.mem_cons,List.not_mem_nil,or_false] at hv
  rcases hv with rfl | rfl | rfl<;>rfl) (l3:=[kv,nv,iv,av,tv,rv,.int .i64 (c:Nat),.int .i64 (H.most:Nat),.int .i64 (e:Nat)]) rfl
 exact⟨⟨q,h.ar.keepH f,h.len⟩,f⟩
theorem P.pot_up{H:P.Hp}{c c':Nat}(h:c≤H.most)(hc:c'=c+1):H.pot c'+4≤H.pot c:=by
 subst hc
 unfold P.Hp.pot;omega
theorem P.over_false{H:P.Hp}{c:Nat}(h:¬ H.over c=true):c≤H.most:=by
 unfold P.Hp.over at h
 simp only[Bool.or_eq_true,decide_eq_true_eq] at h
 omega
theorem P.pot_le(H:P.Hp)(c:Nat):c≤H.pot c:=by unfold P.Hp.pot;omega
def zb63:=(zA zG0 (zA @sh_Pr_Heap_in.eq_1 (zA @fa_93_0 (zA @fa_93_3 (zA @fa_93_6 (zA @ix_83 (zA @ix_89 (zA @ix_91 (zA @ld_3 (zA @ld_5 (zA @ld_83 (zA @ld_89 (zA @ld_91 (zA @ln_83 @st_3))))))))))))))
set_option maxHeartbeats 1000000 in
theorem rIn {A:Nat->Prop} {hb v:Nat}:∀ (N:Nat) {w:World} {H:P.Hp} {t:Nat},H.most+1-H.cost≤N->RHp A w hb H->H.Fit->H.Few->H.pot H.cost≤1000000000000->H.nodes.length≤1000000000->t<H.nodes.length ->
  Calls Tryz.prog 145 #[pp hb,zi (v:Nat),zi (t:Nat)] w fun e w'=>∃ b c',e = .returned (.bool b)/\H.cost+1≤c'/\H.pot c'≤H.pot H.cost+(if H.over (H.cost+1)=true then 1 else 0) /\
   RHp A w' hb (H.ce c' H.err)/\HFr hb w w':=by
 intro N
 induction N using Nat.strongRecOn with
 | _ N ih=>
 intro w H t hN h hf hw hp hn ht
 obtain⟨kv,nv,iv,av,tv,rv,ars,hx⟩:=id h
 have hc:=hx.cell
 have hcp:=P.pot_le H H.cost
 refine sh_Pr_Heap_in_ok ?_
 have hc1:((H.cost:Nat):Int)+1=((H.cost+1:Nat):Int):=by omega
 simp (disch:=first|assumption|omega|simp only[zS]<;>omega|decide) only[zb63,simprocAttr,hc]
 rw[hc1]
 obtain⟨h1,f1⟩:=hx.ce (H.cost+1) H.err
 obtain⟨w1,hw1⟩:∃ y,y=upd w hb (.cells #[kv,nv,iv,av,tv,rv,zi ((H.cost+1:Nat):Int),zi (H.most:Nat),zi (H.err:Nat)] 93):=⟨_,rfl⟩
 rw[<- hw1] at h1 f1 ⊢
 refine Calls.mono (rSpent ⟨kv,nv,iv,av,tv,rv,ars,h1⟩) ?_
 rintro e w2 ⟨rfl,hE2⟩
 have h2:=h1.ext hE2
 have f2:HFr hb w w2:=f1.trans (HFr.ofExt hE2 (ltOf h1.cell))
 have hover:P.Hp.spent (H.ce (H.cost+1) H.err)=H.over (H.cost+1):=rfl
 rw[hover]
 by_cases hov:H.over (H.cost+1)=true
 ·simp (disch:=first|assumption|omega|simp only[zS]<;>omega|decide) only[zb63,simprocAttr,hov]
  refine⟨_,H.cost+1,rfl,Nat.le_refl _,?_,⟨kv,nv,iv,av,tv,rv,ars,h2⟩,f2⟩
  unfold P.Hp.pot;omega
 rw[if_neg hov,Nat.add_zero]
 have hov':H.over (H.cost+1)=false:=by simpa using hov
 have hlm:=P.over_false hov
 have hpu:=P.pot_up (H:=H) (c:=H.cost) (by omega) rfl
 simp (disch:=first|assumption|omega|simp only[zS]<;>omega|decide) only[zb63,simprocAttr,hov']
 obtain⟨fw,t',hwk⟩:=(hf.ce (H.cost+1) H.err).wk t
 have ht':=P.Hp.walk_lt' (hf.ce (H.cost+1) H.err).ok ht hwk
 have ht':t'<H.nodes.length:=ht'
 refine Calls.mono (rWalk ⟨kv,nv,iv,av,tv,rv,ars,h2⟩ (hf.ce (H.cost+1) H.err).ok.to ht hn hwk) ?_
 rintro e w3 ⟨rfl,rfl⟩
 have hres:RHp A w3 hb (H.ce (H.cost+1) H.err):=⟨kv,nv,iv,av,tv,rv,ars,h2⟩
 have hc3:=h2.cell
 by_cases hvt:t'=v
 ·have hvt':((t':Nat):Int)=((v:Nat):Int):=by omega
  simp (disch:=first|assumption|omega|simp only[zS]<;>omega|decide) only[zb63,simprocAttr]
  exact⟨_,H.cost+1,rfl,Nat.le_refl _,by omega,hres,f2⟩
 have hvt':¬ ((t':Nat):Int)=((v:Nat):Int):=by omega
 obtain⟨gk,ck,uk,rfl,k1,k2⟩:=h2.kd (t:=t') ht'
 have hnd:P.Hp.nd (H.ce (H.cost+1) H.err) t'=H.nd t':=rfl
 rw[hnd] at k2
 have e1:((t':Nat):Int).toNat=t':=by omega
 by_cases h99:(H.nd t').kind=99
 ·have h99':(((H.nd t').kind:Nat):Int)=99:=by omega
  simp (disch:=first|assumption|omega|simp only[zS]<;>omega|decide) only[zb63,simprocAttr,hc3,k1,k2,e1]
  refine⟨fun m x w'=>∃ j c',x 8=zi (j:Nat)/\j≤(H.nd t').args.length/\m=(H.nd t').args.length-j/\RHp A w' hb (H.ce c' H.err)/\HFr hb w w'/\H.cost+1≤c'/\H.pot c'≤H.pot (H.cost+1)+j,
   ⟨_,0,H.cost+1,rfl,Nat.zero_le _,rfl,hres,f2,Nat.le_refl _,by omega⟩,?_⟩
  intro m x d w4 hI
  refine toPr ?_
  obtain⟨j,c4,hx8,hj,rfl,hr4,f4,hc4,hp4⟩:=hI
  have hfew:=hw t' ht'
  obtain⟨kv4,nv4,iv4,av4,tv4,rv4,ars4,h4⟩:=id hr4
  have hcell4:=h4.cell
  have ht4:t'<(H.ce c4 H.err).nodes.length:=ht'
  obtain⟨ga,ca,ua,va,rfl,k7,k8,k9⟩:=h4.an (t:=t') ht'
  have hnd4:P.Hp.nd (H.ce c4 H.err) t'=H.nd t':=rfl
  rw[hnd4] at k9
  have hal:((H.nd t').args.map fun n=>(zi (n:Nat):Value)).length=(H.nd t').args.length:=by simp
  by_cases hjl:j<(H.nd t').args.length
  ·obtain⟨ga2,cs2,rfl,q1,q2,q3⟩:=k9.at' (j:=j) (by rw[hal];exact hjl)
   have q3':cs2[j]?=some (zi (((H.nd t').args[j]:Nat):Int)):=by rw[q3];simp [hjl]
   have ej:((j:Nat):Int).toNat=j:=by omega
   have hjl':((j:Nat):Int)<(((H.nd t').args.length:Nat):Int):=by omega
   rw[hal] at k8
   simp (disch:=first|assumption|omega|simp only[zS]<;>omega|decide) only[zb63,simprocAttr,hx8,hcell4,k7,k8,e1,q2,q3',ej]
   have hpm:(H.ce c4 H.err).pot=H.pot:=rfl
   refine Calls.mono (ih (N-1) (by omega) (by show H.most+1-c4≤_;omega) hr4 (hf.ce _ _) hw (by rw[hpm];show H.pot c4≤_;omega) hn ((hf.ok.args t' ht').2 _ (List.getElem_mem hjl))) ?_
   rintro e w5 ⟨b5,c5,rfl,hc5,hp5,hr5,f5⟩
   have hc5:c4+1≤c5:=hc5
   have hp5:H.pot c5≤H.pot c4+1:=by
    have h9:H.pot c5≤H.pot c4+(if H.over (c4+1)=true then 1 else 0):=hp5
    split at h9<;>omega
   have hr5:RHp A w5 hb (H.ce c5 H.err):=hr5
   cases b5 with
   | true=>
    simp (disch:=first|assumption|omega|simp only[zS]<;>omega|decide) only[zb63,simprocAttr]
    exact⟨_,c5,rfl,by omega,by omega,hr5,f4.trans f5⟩
   | false=>
    have ej1:((j:Nat):Int)+1=((j+1:Nat):Int):=by omega
    simp (disch:=first|assumption|omega|simp only[zS]<;>omega|decide) only[zb63,simprocAttr,hx8,ej1]
    exact⟨_,by omega,j+1,c5,rfl,by omega,rfl,hr5,f4.trans f5,by omega,by omega⟩
  ·obtain⟨a9,c9,rfl⟩:=k9.sl
   have hjl':¬ ((j:Nat):Int)<(((H.nd t').args.length:Nat):Int):=by omega
   rw[hal] at k8
   simp (disch:=first|assumption|omega|simp only[zS]<;>omega|decide) only[zb63,simprocAttr,hx8,hcell4,k7,k8,e1]
   exact⟨_,c4,rfl,by omega,by omega,hr4,f4⟩
 ·have h99':¬ (((H.nd t').kind:Nat):Int)=99:=by omega
  simp (disch:=first|assumption|omega|simp only[zS]<;>omega|decide) only[zb63,simprocAttr,hc3,k1,k2,e1]
  exact⟨_,H.cost+1,rfl,Nat.le_refl _,by omega,hres,f2⟩
structure P.Hp.Gone(H H':P.Hp)(k:Nat):Prop where
 fit:H'.Fit
 nodes:H'.nodes=H.nodes
 most:H'.most=H.most
 err:H'.err=H.err
 cost:H.cost+1≤H'.cost
 pot:H.pot H'.cost≤H.pot H.cost+k
 tr:H'.trail.length+H.cost≤H.trail.length+H'.cost
theorem P.Hp.pot_most{H H':P.Hp}(h:H'.most=H.most)(c:Nat):H'.pot c=H.pot c:=by unfold P.Hp.pot;rw[h]
theorem P.Hp.few_same{H H':P.Hp}(h:H'.nodes=H.nodes)(hw:H.Few):H'.Few:=fun t ht=>by
 have:H'.nd t=H.nd t:=by unfold P.Hp.nd;rw[h]
 rw[this];exact hw t (by rw[<- h];exact ht)
theorem P.Hp.nd_same{H H':P.Hp}(h:H'.nodes=H.nodes)(t:Nat):H'.nd t=H.nd t:=by unfold P.Hp.nd;rw[h]
def RPostU(A:Nat->Prop)(hb:Nat)(H:P.Hp)(k:Nat)(w:World)(e:Ending)(w':World):Prop:=∃ b H',e = .returned (.bool b)/\H.Gone H' k/\RHp A w' hb H'/\HFr hb w w'
def zb64:=(zA zG0 @sh_Pr_Heap_set.eq_1)
theorem rSet {A:Nat->Prop} {hb:Nat} {w:World} {H:P.Hp} {v t:Nat} (h:RHp A w hb H) (hf:H.Fit) (hw:H.Few) (hp:H.pot H.cost≤1000000000000) (hn:H.nodes.length≤1000000000) (hl:H.trail.length≤900000000)
  (hv:v<H.nodes.length) (ht:t<H.nodes.length) (hu:¬ 0≤H.toOf v) (hr:¬ ((H.nd t).kind=118/\0≤H.toOf t)) (hne:v≠t) :
  Calls Tryz.prog 120 #[pp hb,zi (v:Nat),zi (t:Nat)] w (RPostU A hb H (if H.over (H.cost+1)=true then 1 else 0) w):=by
 refine sh_Pr_Heap_set_ok ?_
 refine(rIn _ (Nat.le_refl _) h hf hw hp hn ht).mono ?_
 rintro e w1 ⟨b,c1,rfl,hc1,hp1,hr1,f1⟩
 cases b with
 | true=>
  simp (disch:=first|assumption|omega|simp only[zS]<;>omega|decide) only[zb64,simprocAttr]
  exact⟨_,H.ce c1 H.err,rfl,⟨hf.ce _ _,rfl,rfl,rfl,hc1,hp1,by show H.trail.length+_≤_+c1;omega⟩,hr1,f1⟩
 | false=>
  simp (disch:=first|assumption|omega|simp only[zS]<;>omega|decide) only[zb64,simprocAttr]
  refine Calls.mono (rBind hr1 hv (by omega) hl hn) ?_
  rintro e w2 ⟨rfl,hr2,f2⟩
  simp (disch:=first|assumption|omega|simp only[zS]<;>omega|decide) only[zb64,simprocAttr]
  refine⟨_,(H.ce c1 H.err).bind v t,rfl,⟨(hf.ce _ _).bind hv ht hu hr hne,rfl,rfl,rfl,hc1,hp1,?_⟩,hr2,f1.trans f2⟩
  show(H.trail++[v]).length+H.cost≤H.trail.length+c1
  simp;omega
def zb65:=(zA zG0 (zA @sh_Pr_Heap_same.eq_1 (zA @fa_93_0 (zA @fa_93_1 (zA @fa_93_2 (zA @fa_93_3 (zA @ix_41 (zA @ix_89 (zA @ix_90 (zA @ix_91 (zA @ld_2 (zA @ld_41 (zA @ld_5 (zA @ld_83 (zA @ld_89 (zA @ld_9 (zA @ld_90 (zA @ld_91 @ln_83))))))))))))))))))
theorem rSame {A:Nat->Prop} {hb:Nat} {w:World} {H:P.Hp} {a b:Nat} (h:RHp A w hb H) (ha:a<H.nodes.length) (hb':b<H.nodes.length) (hn:H.nodes.length≤1000000000) :
  Calls Tryz.prog 121 #[pp hb,zi (a:Nat),zi (b:Nat)] w fun e w'=>∃ r,e = .returned (.bool r)/\(r=true->(H.nd a).args.length=(H.nd b).args.length)/\Ext w w':=by
 obtain⟨kv,nv,iv,av,tv,rv,ars,hx⟩:=h
 have hc:=hx.cell
 have hE:Ext w w.drew:=(FrM.refl _ _).drew
 obtain⟨gk,ck,uk,rfl,k1,k2⟩:=hx.kd ha
 obtain⟨gk',ck',uk',ek,k1',k2'⟩:=hx.kd hb'
 simp only[Value.slice.injEq,Option.some.injEq,Addr.mk.injEq,true_and,and_true] at ek
 obtain⟨rfl,rfl⟩:=ek
 rw[k1] at k1'
 injection k1' with k1'
 injection k1' with k1' _ _
 subst k1'
 obtain⟨gn,cn,un,rfl,n1,n2⟩:=hx.nm ha
 obtain⟨gn',cn',un',en,n1',n2'⟩:=hx.nm hb'
 simp only[Value.slice.injEq,Option.some.injEq,Addr.mk.injEq,true_and,and_true] at en
 obtain⟨rfl,rfl⟩:=en
 rw[n1] at n1'
 injection n1' with n1'
 injection n1' with n1' _ _
 subst n1'
 obtain⟨gi,ci,ui,rfl,i1,i2⟩:=hx.nn ha
 obtain⟨gi',ci',ui',ei,i1',i2'⟩:=hx.nn hb'
 simp only[Value.slice.injEq,Option.some.injEq,Addr.mk.injEq,true_and,and_true] at ei
 obtain⟨rfl,rfl⟩:=ei
 rw[i1] at i1'
 injection i1' with i1'
 injection i1' with i1' _ _
 subst i1'
 obtain⟨ga,ca,ua,va,rfl,a1,a2,a3⟩:=hx.an ha
 obtain⟨ga',ca',ua',va',ea,a1',a2',a3'⟩:=hx.an hb'
 simp only[Value.slice.injEq,Option.some.injEq,Addr.mk.injEq,true_and,and_true] at ea
 obtain⟨rfl,rfl⟩:=ea
 rw[a1] at a1'
 injection a1' with a1'
 injection a1' with a1' _ _
 subst a1'
 obtain⟨p1,q1,rfl⟩:=a3.sl
 obtain⟨p2,q2,rfl⟩:=a3'.sl
 have hal:∀ l:List Nat,(l.map fun n=>(zi (n:Nat):Value)).length=l.length:=fun l=>by simp
 rw[hal] at a2 a2'
 have e1:((a:Nat):Int).toNat=a:=by omega
 have e2:((b:Nat):Int).toNat=b:=by omega
 refine sh_Pr_Heap_same_ok ?_
 by_cases h1:(H.nd a).kind=(H.nd b).kind
 ·have h1':(((H.nd a).kind:Nat):Int)=(((H.nd b).kind:Nat):Int):=by omega
  by_cases h2:(H.nd a).name=(H.nd b).name
  ·by_cases h3:(H.nd a).n=(H.nd b).n
   ·simp (disch:=first|assumption|omega|simp only[zS]<;>omega|decide) only[zb65,simprocAttr,hc,k1,k2,k2',n1,n2,n2',i1,i2,i2',a1,a2,a2',e1,e2,h2]
    exact⟨_,rfl,fun h=>by have:=of_decide_eq_true h;omega,hE⟩
   ·simp (disch:=first|assumption|omega|simp only[zS]<;>omega|decide) only[zb65,simprocAttr,hc,k1,k2,k2',n1,n2,n2',i1,i2,i2',e1,e2,h2]
    first | exact hE | exact⟨fun h=>(by cases h),hE⟩| exact⟨_,rfl,fun h=>(by cases h),hE⟩
  ·simp (disch:=first|assumption|omega|simp only[zS]<;>omega|decide) only[zb65,simprocAttr,hc,k1,k2,k2',n1,n2,n2',e1,e2,h2]
   first | exact hE | exact⟨fun h=>(by cases h),hE⟩| exact⟨_,rfl,fun h=>(by cases h),hE⟩
 ·have h1':¬ (((H.nd a).kind:Nat):Int)=(((H.nd b).kind:Nat):Int):=by omega
  simp (disch:=first|assumption|omega|simp only[zS]<;>omega|decide) only[zb65,simprocAttr,hc,k1,k2,k2',e1,e2]
  first | exact hE | exact⟨fun h=>(by cases h),hE⟩| exact⟨_,rfl,fun h=>(by cases h),hE⟩
theorem RPostU.gone{A:Nat->Prop}{hb:Nat}{H H1:P.Hp}{k k1:Nat}{w w1:World}{e:Ending}{w':World}(h:RPostU A hb H1 k1 w1 e w')(hf:HFr hb w w1)(h1:H1.nodes=H.nodes)(h2:H1.most=H.most)(h3:H1.err=H.err)(h4:H.cost≤H1.cost)
  (h5:H.pot H1.cost+k1≤H.pot H.cost+k) (h6:H1.trail.length+H.cost≤H.trail.length+H1.cost):RPostU A hb H k w e w':=by
 obtain⟨b,H',rfl,g,hr,f⟩:=h
 have g6:=g.pot
 rw[P.Hp.pot_most h2] at g6
 rw[P.Hp.pot_most h2] at g6
 exact⟨b,H',rfl,⟨g.fit,g.nodes.trans h1,g.most.trans h2,g.err.trans h3,by have:=g.cost;omega,by omega,by have:=g.tr;omega⟩,hr,hf.trans f⟩
def zb66:=(zA zG0 (zA @sh_Pr_Heap_Unify.eq_1 (zA @fa_93_0 (zA @fa_93_3 (zA @fa_93_6 (zA @ix_83 (zA @ix_89 (zA @ix_91 (zA @ld_3 (zA @ld_5 (zA @ld_83 (zA @ld_89 (zA @ld_91 (zA @ln_83 @st_3))))))))))))))
set_option maxHeartbeats 2000000 in
theorem rUnify {A:Nat->Prop} {hb:Nat} {lk:Bool}:∀ (N:Nat) {w:World} {H:P.Hp} {a b:Nat},H.most+1-H.cost≤N->RHp A w hb H->H.Fit->H.Few->H.pot H.cost≤1000000000000->H.nodes.length≤1000000000 ->
  H.trail.length+(H.pot H.cost+1-H.cost)≤900000000->a<H.nodes.length->b<H.nodes.length ->
  Calls Tryz.prog 86 #[pp hb,zi (a:Nat),zi (b:Nat),.bool lk] w (RPostU A hb H (if H.over (H.cost+1)=true then 1 else 0) w):=by
 intro N
 induction N using Nat.strongRecOn with
 | _ N ih=>
 intro w H a b hN h hf hw hp hn hl ha hb'
 obtain⟨kv,nv,iv,av,tv,rv,ars,hx⟩:=id h
 have hc:=hx.cell
 have hcp:=P.pot_le H H.cost
 refine sh_Pr_Heap_Unify_ok ?_
 have hc1:((H.cost:Nat):Int)+1=((H.cost+1:Nat):Int):=by omega
 simp (disch:=first|assumption|omega|simp only[zS]<;>omega|decide) only[zb66,simprocAttr,hc]
 rw[hc1]
 obtain⟨h1,f1⟩:=hx.ce (H.cost+1) H.err
 obtain⟨w1,hw1⟩:∃ y,y=upd w hb (.cells #[kv,nv,iv,av,tv,rv,zi ((H.cost+1:Nat):Int),zi (H.most:Nat),zi (H.err:Nat)] 93):=⟨_,rfl⟩
 rw[<- hw1] at h1 f1 ⊢
 refine Calls.mono (rSpent ⟨kv,nv,iv,av,tv,rv,ars,h1⟩) ?_
 rintro e w2 ⟨rfl,hE2⟩
 have h2:=h1.ext hE2
 have f2:HFr hb w w2:=f1.trans (HFr.ofExt hE2 (ltOf h1.cell))
 have hover:P.Hp.spent (H.ce (H.cost+1) H.err)=H.over (H.cost+1):=rfl
 rw[hover]
 have hfc:=hf.ce (H.cost+1) H.err
 have hres:RHp A w2 hb (H.ce (H.cost+1) H.err):=⟨kv,nv,iv,av,tv,rv,ars,h2⟩
 have base:∀ k r,H.pot (H.cost+1)≤H.pot H.cost+k->RPostU A hb H k w (.returned (.bool r)) w2:=fun k r hk=>⟨r,H.ce (H.cost+1) H.err,rfl,⟨hfc,rfl,rfl,rfl,Nat.le_refl _,hk,by show H.trail.length+_≤_+(H.cost+1);omega⟩,hres,f2⟩
 by_cases hov:H.over (H.cost+1)=true
 ·simp (disch:=first|assumption|omega|simp only[zS]<;>omega|decide) only[zb66,simprocAttr,hov]
  exact base _ _ (by unfold P.Hp.pot;omega)
 rw[if_neg hov]
 have hov':H.over (H.cost+1)=false:=by simpa using hov
 have hlm:=P.over_false hov
 have hpu:=P.pot_up (H:=H) (c:=H.cost) (by omega) rfl
 simp (disch:=first|assumption|omega|simp only[zS]<;>omega|decide) only[zb66,simprocAttr,hov']
 obtain⟨fa,a',hwa⟩:=hfc.wk a
 obtain⟨fb,b',hwb⟩:=hfc.wk b
 have ha':a'<H.nodes.length:=P.Hp.walk_lt' hfc.ok ha hwa
 have hb'':b'<H.nodes.length:=P.Hp.walk_lt' hfc.ok hb' hwb
 have ra:¬ ((H.nd a').kind=118/\0≤H.toOf a'):=P.Hp.walk_end (H:=H.ce (H.cost+1) H.err) hwa
 have rb:¬ ((H.nd b').kind=118/\0≤H.toOf b'):=P.Hp.walk_end (H:=H.ce (H.cost+1) H.err) hwb
 refine Calls.mono (rWalk hres hfc.ok.to ha hn hwa) ?_
 rintro e w3 ⟨rfl,rfl⟩
 simp (disch:=first|assumption|omega|simp only[zS]<;>omega|decide) only[zb66,simprocAttr]
 refine Calls.mono (rWalk hres hfc.ok.to hb' hn hwb) ?_
 rintro e w3 ⟨rfl,rfl⟩
 by_cases hab:a'=b'
 ·have hab':((a':Nat):Int)=((b':Nat):Int):=by omega
  simp (disch:=first|assumption|omega|simp only[zS]<;>omega|decide) only[zb66,simprocAttr]
  exact base _ _ (by omega)
 have hab':¬ ((a':Nat):Int)=((b':Nat):Int):=by omega
 simp (disch:=first|assumption|omega|simp only[zS]<;>omega|decide) only[zb66,simprocAttr]
 have hc3:=h2.cell
 obtain⟨gk,ck,uk,rfl,k1,k2⟩:=h2.kd (t:=a') ha'
 obtain⟨gk',ck',uk',ek,k1',k2'⟩:=h2.kd (t:=b') hb''
 simp only[Value.slice.injEq,Option.some.injEq,Addr.mk.injEq,true_and,and_true] at ek
 obtain⟨rfl,rfl⟩:=ek
 rw[k1] at k1'
 injection k1' with k1'
 injection k1' with k1' _ _
 subst k1'
 have hnd:∀ t,P.Hp.nd (H.ce (H.cost+1) H.err) t=H.nd t:=fun _=>rfl
 rw[hnd] at k2 k2'
 have hna:a'<(H.ce (H.cost+1) H.err).nodes.length:=ha'
 have hnb:b'<(H.ce (H.cost+1) H.err).nodes.length:=hb''
 have e1:((a':Nat):Int).toNat=a':=by omega
 have e2:((b':Nat):Int).toNat=b':=by omega
 have hpm:(H.ce (H.cost+1) H.err).pot=H.pot:=rfl
 refine⟨fun _ w'=>w'=w3/\¬ (H.nd a').kind=118/\¬ (H.nd b').kind=118,?_,?_⟩
 ·refine⟨fun x w'=>w'=w3/\x 48 = .bool (decide ((H.nd a').kind=118\/(H.nd b').kind=118)),?_,?_⟩
  ·by_cases q1:(H.nd a').kind=118
   ·have q1':(((H.nd a').kind:Nat):Int)=118:=by omega
    simp (disch:=first|assumption|omega|simp only[zS]<;>omega|decide) only[zb66,simprocAttr,hc3,k1,k2,e1]
    simp [sOf,q1]
   ·have q1':¬ (((H.nd a').kind:Nat):Int)=118:=by omega
    by_cases q2:(H.nd b').kind=118
    ·have q2':(((H.nd b').kind:Nat):Int)=118:=by omega
     simp (disch:=first|assumption|omega|simp only[zS]<;>omega|decide) only[zb66,simprocAttr,hc3,k1,k2,k2',e1,e2]
     simp [sOf,q2]
    ·have q2':¬ (((H.nd b').kind:Nat):Int)=118:=by omega
     simp (disch:=first|assumption|omega|simp only[zS]<;>omega|decide) only[zb66,simprocAttr,hc3,k1,k2,k2',e1,e2]
     simp [sOf,q1,q2]
     exact q2'
  ·rintro x w' ⟨rfl,hx48⟩ d
   rw[hx48]
   by_cases hv:(H.nd a').kind=118\/(H.nd b').kind=118
   ·rw[bs_pos _ _ hv]
    cases lk with
    | true=>
     simp (disch:=first|assumption|omega|simp only[zS]<;>omega|decide) only[zb66,simprocAttr]
     exact base _ _ (by omega)
    | false=>
     have hset:∀ v t,v<H.nodes.length->t<H.nodes.length->(H.nd v).kind=118->¬ ((H.nd v).kind=118/\0≤H.toOf v)->¬ ((H.nd t).kind=118/\0≤H.toOf t)->v≠t ->
       Calls Tryz.prog 120 #[pp hb,zi (v:Nat),zi (t:Nat)] w' (RPostU A hb H 0 w):=by
      intro v t hv ht hk hrv hrt hne
      refine(rSet hres hfc hw (by rw[hpm];show H.pot (H.cost+1)≤_;omega) hn (by show H.trail.length≤_;omega) hv ht (fun hh=>hrv ⟨hk,hh⟩) hrt hne).mono ?_
      intro e w4 hq
      refine hq.gone f2 rfl rfl rfl (by show _≤H.cost+1;omega) ?_ (by show H.trail.length+_≤_+(H.cost+1);omega)
      show H.pot (H.cost+1)+_≤_
      split<;>omega
     by_cases q1:(H.nd a').kind=118
     ·have q1':(((H.nd a').kind:Nat):Int)=118:=by omega
      simp (disch:=first|assumption|omega|simp only[zS]<;>omega|decide) only[zb66,simprocAttr,hc3,k1,k2,e1]
      refine Calls.mono (hset a' b' ha' hb'' q1 ra rb hab) ?_
      intro e w4 hq
      obtain⟨r,H',rfl,hq⟩:=hq
      simp (disch:=first|assumption|omega|simp only[zS]<;>omega|decide) only[zb66,simprocAttr]
      exact⟨r,H',rfl,hq⟩
     ·have q1':¬ (((H.nd a').kind:Nat):Int)=118:=by omega
      have q2:(H.nd b').kind=118:=hv.resolve_left q1
      simp (disch:=first|assumption|omega|simp only[zS]<;>omega|decide) only[zb66,simprocAttr,hc3,k1,k2,e1]
      refine Calls.mono (hset b' a' hb'' ha' q2 rb ra (fun h=>hab h.symm)) ?_
      intro e w4 hq
      obtain⟨r,H',rfl,hq⟩:=hq
      simp (disch:=first|assumption|omega|simp only[zS]<;>omega|decide) only[zb66,simprocAttr]
      exact⟨r,H',rfl,hq⟩
   ·rw[bs_neg _ _ hv]
    exact⟨rfl,fun h=>hv (.inl h),fun h=>hv (.inr h)⟩
 ·rintro x w' ⟨rfl,q1,q2⟩ d
  refine Calls.mono (rSame hres ha' hb'' hn) ?_
  rintro e w4 ⟨r,rfl,hsame,hE4⟩
  have f4:HFr hb w w4:=f2.trans (HFr.ofExt hE4 (ltOf h2.cell))
  have h4:=h2.ext hE4
  have hres4:RHp A w4 hb (H.ce (H.cost+1) H.err):=⟨_,nv,iv,av,tv,rv,ars,h4⟩
  cases r with
  | false=>
   simp (disch:=first|assumption|omega|simp only[zS]<;>omega|decide) only[zb66,simprocAttr]
   exact⟨_,H.ce (H.cost+1) H.err,rfl,⟨hfc,rfl,rfl,rfl,Nat.le_refl _,by show H.pot (H.cost+1)≤_;omega,by show H.trail.length+_≤_+(H.cost+1);omega⟩,hres4,f4⟩
  | true=>
   have hlen:(H.nd a').args.length=(H.nd b').args.length:=hsame rfl
   simp (disch:=first|assumption|omega|simp only[zS]<;>omega|decide) only[zb66,simprocAttr]
   refine⟨fun m y w'=>∃ j H5,y 11=zi (j:Nat)/\j≤(H.nd a').args.length/\m=(H.nd a').args.length-j/\RHp A w' hb H5/\HFr hb w w'/\H5.Fit/\H5.nodes=H.nodes/\H5.most=H.most/\H5.err=H.err/\H.cost+1≤H5.cost/\H.pot H5.cost≤H.pot (H.cost+1)+j/\H5.trail.length+H.cost≤H.trail.length+H5.cost,
    ⟨_,0,H.ce (H.cost+1) H.err,rfl,Nat.zero_le _,rfl,hres4,f4,hfc,rfl,rfl,rfl,Nat.le_refl _,Nat.le_refl _,by show H.trail.length+_≤_+(H.cost+1);omega⟩,?_⟩
   intro m y d w5 hI
   refine toPr ?_
   obtain⟨j,H5,hy,hj,rfl,hr5,f5,hf5,n5,m5,r5,c5,p5,t5⟩:=hI
   have hfew:=hw a' ha'
   obtain⟨kv5,nv5,iv5,av5,tv5,rv5,ars5,h5⟩:=id hr5
   have hcell5:=h5.cell
   have ha5:a'<H5.nodes.length:=by rw[n5];exact ha'
   have hb5:b'<H5.nodes.length:=by rw[n5];exact hb''
   obtain⟨ga,ca,ua,va,rfl,x1,x2,x3⟩:=h5.an ha5
   obtain⟨ga',ca',ua',va',ea,x1',x2',x3'⟩:=h5.an hb5
   simp only[Value.slice.injEq,Option.some.injEq,Addr.mk.injEq,true_and,and_true] at ea
   obtain⟨rfl,rfl⟩:=ea
   rw[x1] at x1'
   injection x1' with x1'
   injection x1' with x1' _ _
   subst x1'
   rw[P.Hp.nd_same n5] at x3 x3'
   have hal:∀ l:List Nat,(l.map fun n=>(zi (n:Nat):Value)).length=l.length:=fun l=>by simp
   by_cases hjl:j<(H.nd a').args.length
   ·have hjl2:j<(H.nd b').args.length:=by omega
    obtain⟨g1,s1,rfl,y1,y2,y3⟩:=x3.at' (j:=j) (by rw[hal];exact hjl)
    obtain⟨g2,s2,rfl,z1,z2,z3⟩:=x3'.at' (j:=j) (by rw[hal];exact hjl2)
    have y3':s1[j]?=some (zi (((H.nd a').args[j]:Nat):Int)):=by rw[y3];simp [hjl]
    have z3':s2[j]?=some (zi (((H.nd b').args[j]:Nat):Int)):=by rw[z3];simp [hjl2]
    have ej:((j:Nat):Int).toNat=j:=by omega
    have hjl':((j:Nat):Int)<(((H.nd a').args.length:Nat):Int):=by omega
    have hjl2':((j:Nat):Int)<(((H.nd b').args.length:Nat):Int):=by omega
    rw[hal] at x2 x2'
    simp (disch:=first|assumption|omega|simp only[zS]<;>omega|decide) only[zb66,simprocAttr,hy,hcell5,x1,x2,x2',e1,e2,y2,y3',z2,z3',ej]
    have hr5d:RHp A w5.drew hb H5:=hr5.ext ((FrM.refl _ _).drew)
    have f5d:HFr hb w w5.drew:=f5.trans (HFr.ofExt ((FrM.refl _ _).drew) (ltOf hcell5))
    have hpm5:H5.pot H5.cost=H.pot H5.cost:=P.Hp.pot_most m5 _
    have hcp5:=P.pot_le H H5.cost
    refine Calls.mono (ih (N-1) (by omega) (by rw[m5];omega) hr5d hf5 (P.Hp.few_same n5 hw) (by rw[hpm5];omega) (by rw[n5];exact hn) (by rw[hpm5];omega) (by rw[n5];exact(hf.ok.args a' ha').2 _ (List.getElem_mem hjl)) (by rw[n5];exact(hf.ok.args b' hb'').2 _ (List.getElem_mem hjl2))) ?_
    rintro e w6 ⟨r6,H6,rfl,g6,hr6,f6⟩
    have p6:=g6.pot
    rw[P.Hp.pot_most m5,P.Hp.pot_most m5] at p6
    have p6':H.pot H6.cost≤H.pot H5.cost+1:=by split at p6<;>omega
    have c6:=g6.cost
    have t6:=g6.tr
    cases r6 with
    | false=>
     simp (disch:=first|assumption|omega|simp only[zS]<;>omega|decide) only[zb66,simprocAttr]
     exact⟨_,H6,rfl,⟨g6.fit,g6.nodes.trans n5,g6.most.trans m5,g6.err.trans r5,by omega,by omega,by omega⟩,hr6,f5d.trans f6⟩
    | true=>
     have ej1:((j:Nat):Int)+1=((j+1:Nat):Int):=by omega
     simp (disch:=first|assumption|omega|simp only[zS]<;>omega|decide) only[zb66,simprocAttr,hy,ej1]
     exact⟨_,by omega,j+1,H6,rfl,by omega,rfl,hr6,f5d.trans f6,g6.fit,g6.nodes.trans n5,g6.most.trans m5,g6.err.trans r5,by omega,by omega,by omega⟩
   ·obtain⟨a9,c9,rfl⟩:=x3.sl
    have hjl':¬ ((j:Nat):Int)<(((H.nd a').args.length:Nat):Int):=by omega
    rw[hal] at x2
    simp (disch:=first|assumption|omega|simp only[zS]<;>omega|decide) only[zb66,simprocAttr,hy,hcell5,x1,x2,e1]
    exact⟨_,H5,rfl,⟨hf5,n5,m5,r5,c5,by omega,t5⟩,hr5,f5⟩
structure P.Hp.GoneE(H H':P.Hp)(k:Nat):Prop where
 fit:H'.Fit
 nodes:H'.nodes=H.nodes
 most:H'.most=H.most
 cost:H.cost+1≤H'.cost
 pot:H.pot H'.cost≤H.pot H.cost+k
 tr:H'.trail.length+H.cost≤H.trail.length+H'.cost
 err:H'.err≤1000
def I64(z:Int):Prop:=-9223372036854775808≤z/\z≤9223372036854775807
def RPostV(A:Nat->Prop)(hb:Nat)(H:P.Hp)(k:Nat)(w:World)(e:Ending)(w':World):Prop:=∃ z H',e = .returned (zi z)/\I64 z/\H.GoneE H' k/\RHp A w' hb H'/\HFr hb w w'
theorem wrap_in(x:Int):I64 (IntKind.i64.wrap x):=by
 unfold I64 IntKind.wrap
 have e1:(2 ^ IntKind.i64.bits:Int)=18446744073709551616:=by decide
 have e2:(2 ^ (IntKind.i64.bits-1):Int)=9223372036854775808:=by decide
 have e3:IntKind.i64.signed=true:=rfl
 rw[e1,e2,e3]
 simp only[Bool.true_and,decide_eq_true_eq]
 split<;>omega
def zb67:=(zA zG0 (zA @sh_Pr_Heap_value.eq_1 (zA @fa_93_0 (zA @fa_93_1 (zA @fa_93_2 (zA @fa_93_3 (zA @fa_93_6 (zA @fa_93_8 (zA @ix_41 (zA @ix_83 (zA @ix_89 (zA @ix_90 (zA @ix_91 (zA @ld_2 (zA @ld_3 (zA @ld_41 (zA @ld_5 (zA @ld_83 (zA @ld_89 (zA @ld_9 (zA @ld_90 (zA @ld_91 (zA @ln_83 (zA @st_3 @st_32))))))))))))))))))))))))
set_option maxHeartbeats 2000000 in
theorem rValueV {A:Nat->Prop} {hb:Nat}:∀ (N:Nat) {w:World} {H:P.Hp} {t:Nat},H.most+1-H.cost≤N->RHp A w hb H->H.Fit->H.Few->H.pot H.cost≤1000000000000->H.nodes.length≤1000000000->H.err≤1000->t<H.nodes.length ->
  Calls Tryz.prog 144 #[pp hb,zi (t:Nat)] w (RPostV A hb H (if H.over (H.cost+1)=true then 1 else 0) w):=by
 intro N
 induction N using Nat.strongRecOn with
 | _ N ih=>
 intro w H t hN h hf hw hp hn he ht
 obtain⟨kv,nv,iv,av,tv,rv,ars,hx⟩:=id h
 have hc:=hx.cell
 have hcp:=P.pot_le H H.cost
 refine sh_Pr_Heap_value_ok ?_
 have hc1:((H.cost:Nat):Int)+1=((H.cost+1:Nat):Int):=by omega
 simp (disch:=first|assumption|omega|simp only[zS]<;>omega|decide) only[zb67,simprocAttr,hc]
 rw[hc1]
 obtain⟨h1,f1⟩:=hx.ce (H.cost+1) H.err
 obtain⟨w1,hw1⟩:∃ y,y=upd w hb (.cells #[kv,nv,iv,av,tv,rv,zi ((H.cost+1:Nat):Int),zi (H.most:Nat),zi (H.err:Nat)] 93):=⟨_,rfl⟩
 rw[<- hw1] at h1 f1 ⊢
 refine Calls.mono (rSpent ⟨kv,nv,iv,av,tv,rv,ars,h1⟩) ?_
 rintro e w2 ⟨rfl,hE2⟩
 have h2:=h1.ext hE2
 have f2:HFr hb w w2:=f1.trans (HFr.ofExt hE2 (ltOf h1.cell))
 have hover:P.Hp.spent (H.ce (H.cost+1) H.err)=H.over (H.cost+1):=rfl
 rw[hover]
 have hfc:=hf.ce (H.cost+1) H.err
 have hres:RHp A w2 hb (H.ce (H.cost+1) H.err):=⟨kv,nv,iv,av,tv,rv,ars,h2⟩
 have base:∀ k z,I64 z->H.pot (H.cost+1)≤H.pot H.cost+k->RPostV A hb H k w (.returned (zi z)) w2:=fun k z hz hk=>⟨z,H.ce (H.cost+1) H.err,rfl,hz,⟨hfc,rfl,rfl,Nat.le_refl _,hk,by show H.trail.length+_≤_+(H.cost+1);omega,he⟩,hres,f2⟩
 have i0:I64 0:=by unfold I64;omega
 by_cases hov:H.over (H.cost+1)=true
 ·simp (disch:=first|assumption|omega|simp only[zS]<;>omega|decide) only[zb67,simprocAttr,hov]
  exact base _ _ i0 (by unfold P.Hp.pot;omega)
 rw[if_neg hov]
 have hov':H.over (H.cost+1)=false:=by simpa using hov
 have hlm:=P.over_false hov
 have hpu:=P.pot_up (H:=H) (c:=H.cost) (by omega) rfl
 simp (disch:=first|assumption|omega|simp only[zS]<;>omega|decide) only[zb67,simprocAttr,hov']
 obtain⟨fa,t',hwa⟩:=hfc.wk t
 have ht':t'<H.nodes.length:=P.Hp.walk_lt' hfc.ok ht hwa
 refine Calls.mono (rWalk hres hfc.ok.to ht hn hwa) ?_
 rintro e w3 ⟨rfl,rfl⟩
 have hc3:=h2.cell
 have lb3:=ltOf hc3
 obtain⟨gk,ck,uk,rfl,k1,k2⟩:=h2.kd (t:=t') ht'
 obtain⟨gn,cn,un,rfl,n1,n2⟩:=h2.nm (t:=t') ht'
 obtain⟨gi,ci,ui,rfl,i1,i2⟩:=h2.nn (t:=t') ht'
 obtain⟨ga,ca,ua,va,rfl,a1,a2,a3⟩:=h2.an (t:=t') ht'
 have hnd:∀ t,P.Hp.nd (H.ce (H.cost+1) H.err) t=H.nd t:=fun _=>rfl
 rw[hnd] at k2 n2 i2 a3
 have hnt:t'<(H.ce (H.cost+1) H.err).nodes.length:=ht'
 have e1:((t':Nat):Int).toNat=t':=by omega
 have hpm:(H.ce (H.cost+1) H.err).pot=H.pot:=rfl
 have hal:((H.nd t').args.map fun n=>(zi (n:Nat):Value)).length=(H.nd t').args.length:=by simp
 have flt:∀ c,c≤1000->RPostV A hb H 0 w (.returned (zi 0)) (upd w3 hb (.cells #[.slice (some ⟨gk,0,none⟩) (H.ce (H.cost+1) H.err).nodes.length ck,.slice (some ⟨gn,0,none⟩) (H.ce (H.cost+1) H.err).nodes.length cn,.slice (some ⟨gi,0,none⟩) (H.ce (H.cost+1) H.err).nodes.length ci,
   .slice (some ⟨ga,0,none⟩) (H.ce (H.cost+1) H.err).nodes.length ca,tv,rv,zi ((H.cost+1:Nat):Int),zi (H.most:Nat),zi (c:Nat)] 93 (0,0))):=by
  intro c hc
  obtain⟨q,f⟩:=h2.ce (H.cost+1) c
  exact⟨0,H.ce (H.cost+1) c,rfl,i0,⟨hf.ce _ _,rfl,rfl,Nat.le_refl _,by show H.pot (H.cost+1)≤_;omega,by show H.trail.length+_≤_+(H.cost+1);omega,hc⟩,⟨_,_,_,_,_,_,_,q⟩,f2.trans f⟩
 by_cases q1:(H.nd t').kind=110
 ·have q1':(((H.nd t').kind:Nat):Int)=110:=by omega
  simp (disch:=first|assumption|omega|simp only[zS]<;>omega|decide) only[zb67,simprocAttr,hc3,k1,k2,i1,i2,e1]
  exact base _ _ (hf.ok.num t' ht') (by omega)
 have q1':¬ (((H.nd t').kind:Nat):Int)=110:=by omega
 by_cases q2:(H.nd t').kind=118
 ·have q2':(((H.nd t').kind:Nat):Int)=118:=by omega
  simp (disch:=first|assumption|omega|simp only[zS]<;>omega|decide) only[zb67,simprocAttr,hc3,k1,k2,e1]
  exact flt 7 (by omega)
 have q2':¬ (((H.nd t').kind:Nat):Int)=118:=by omega
 simp (disch:=first|assumption|omega|simp only[zS]<;>omega|decide) only[zb67,simprocAttr,hc3,k1,k2,n1,n2,e1]
 refine⟨fun x w'=>w'=w3/\∃ kb,x 7 = .bool kb,?_,?_⟩
 ·by_cases m1:(H.nd t').name=[43]
  ·simp (disch:=first|assumption|omega|simp only[zS]<;>omega|decide) only[zb67,simprocAttr,m1]
   exact⟨_,rfl⟩
  by_cases m2:(H.nd t').name=[45]
  ·simp (disch:=first|assumption|omega|simp only[zS]<;>omega|decide) only[zb67,simprocAttr,m1,m2]
   exact⟨_,rfl⟩
  by_cases m3:(H.nd t').name=[42]
  ·simp (disch:=first|assumption|omega|simp only[zS]<;>omega|decide) only[zb67,simprocAttr,m1,m2,m3]
   exact⟨_,rfl⟩
  by_cases m4:(H.nd t').name=[47,47]
  ·simp (disch:=first|assumption|omega|simp only[zS]<;>omega|decide) only[zb67,simprocAttr,m1,m2,m3,m4]
   exact⟨_,rfl⟩
  ·simp (disch:=first|assumption|omega|simp only[zS]<;>omega|decide) only[zb67,simprocAttr,m1,m2,m3,m4]
   exact⟨_,rfl⟩
 ·rintro x w' ⟨rfl,kb,hx7⟩ d
  refine⟨fun _ w''=>w''=w'/\(H.nd t').kind=99/\(H.nd t').args.length=2,?_,?_⟩
  ·refine⟨fun y w''=>w''=w'/\∃ q,y 92 = .bool q/\(q=false->(H.nd t').kind=99/\(H.nd t').args.length=2),?_,?_⟩
   ·by_cases q3:(H.nd t').kind=99
    ·have q3':(((H.nd t').kind:Nat):Int)=99:=by omega
     obtain⟨a9,c9,rfl⟩:=a3.sl
     rw[hal] at a2
     by_cases q4:(H.nd t').args.length=2
     ·have q4':(((H.nd t').args.length:Nat):Int)=2:=by omega
      simp (disch:=first|assumption|omega|simp only[zS]<;>omega|decide) only[zb67,simprocAttr,hc3,k1,k2,a1,a2,e1,hx7]
      exact⟨_,rfl,fun _=>⟨q3,q4⟩⟩
     ·have q4':¬ (((H.nd t').args.length:Nat):Int)=2:=by omega
      simp (disch:=first|assumption|omega|simp only[zS]<;>omega|decide) only[zb67,simprocAttr,hc3,k1,k2,a1,a2,e1,hx7]
      exact⟨true,rfl,fun h=>by cases h⟩
    ·have q3':¬ (((H.nd t').kind:Nat):Int)=99:=by omega
     simp (disch:=first|assumption|omega|simp only[zS]<;>omega|decide) only[zb67,simprocAttr,hc3,k1,k2,e1,hx7]
     exact⟨true,rfl,fun h=>by cases h⟩
   ·rintro y w'' ⟨rfl,q,hy,hq⟩ d
    rw[hy]
    cases q with
    | true=>
     simp (disch:=first|assumption|omega|simp only[zS]<;>omega|decide) only[zb67,simprocAttr,hc3]
     exact flt 8 (by omega)
    | false=>
     simp (disch:=first|assumption|omega|simp only[zS]<;>omega|decide) only[zb67,simprocAttr]
     exact hq rfl
  ·rintro y w'' ⟨rfl,q3,q4⟩ d
   obtain⟨ga2,cs2,rfl,y1,y2,y3⟩:=a3.at' (j:=0) (by rw[hal];omega)
   rw[hal,q4] at a2
   have y3':cs2[0]?=some (zi (((H.nd t').args[0]:Nat):Int)):=by rw[y3];simp [show 0<(H.nd t').args.length by omega]
   simp (disch:=first|assumption|omega|simp only[zS]<;>omega|decide) only[zb67,simprocAttr,hc3,a1,a2,e1,y2,y3']
   have one:∀ (b:Nat),(if H.over b=true then 1 else 0)≤1:=fun b=>by split<;>omega
   refine Calls.mono (ih (N-1) (by omega) (by show H.most+1-(H.cost+1)≤_;omega) hres hfc hw (by rw[hpm];show H.pot (H.cost+1)≤_;omega) hn he ((hf.ok.args t' ht').2 _ (List.getElem_mem _))) ?_
   rintro e w4 ⟨z1,H4,rfl,iz1,g4,hr4,f4⟩
   have p4:=g4.pot
   rw[hpm] at p4
   have p4':H.pot H4.cost≤H.pot (H.cost+1)+1:=Nat.le_trans p4 (Nat.add_le_add_left (one _) _)
   have c4:H.cost+1+1≤H4.cost:=g4.cost
   have m4:H4.most=H.most:=g4.most
   have n4:H4.nodes=H.nodes:=g4.nodes
   have t4:H4.trail.length+(H.cost+1)≤H.trail.length+H4.cost:=g4.tr
   obtain⟨kv4,nv4,iv4,av4,tv4,rv4,ars4,h4⟩:=id hr4
   have hc4:=h4.cell
   have ha4:t'<H4.nodes.length:=by rw[n4];exact ht'
   obtain⟨gb,cb,ub,vb,rfl,b1,b2,b3⟩:=h4.an ha4
   rw[P.Hp.nd_same n4] at b3
   obtain⟨gb2,ds2,rfl,z1',z2,z3⟩:=b3.at' (j:=1) (by rw[hal];omega)
   rw[hal,q4] at b2
   have z3':ds2[1]?=some (zi (((H.nd t').args[1]:Nat):Int)):=by rw[z3];simp [show 1<(H.nd t').args.length by omega]
   simp (disch:=first|assumption|omega|simp only[zS]<;>omega|decide) only[zb67,simprocAttr,hc4,b1,b2,e1,z2,z3']
   have hpm4:∀ c,H4.pot c=H.pot c:=fun c=>P.Hp.pot_most m4 c
   refine Calls.mono (ih (N-1) (by omega) (by rw[m4];omega) hr4 g4.fit (P.Hp.few_same n4 hw) (by rw[hpm4];omega) (by rw[n4];exact hn) g4.err (by rw[n4];exact(hf.ok.args t' ht').2 _ (List.getElem_mem _))) ?_
   rintro e w5 ⟨zz,H5,rfl,iz2,g5,hr5,f5⟩
   have p5:=g5.pot
   rw[hpm4,hpm4] at p5
   have p5':H.pot H5.cost≤H.pot H4.cost+1:=by split at p5<;>omega
   have c5:=g5.cost
   have m5:H5.most=H.most:=g5.most.trans m4
   have n5:H5.nodes=H.nodes:=g5.nodes.trans n4
   have t5:=g5.tr
   simp (disch:=first|assumption|omega|simp only[zS]<;>omega|decide) only[zb67,simprocAttr]
   refine Calls.mono (rSpent hr5) ?_
   rintro e w6 ⟨rfl,hE6⟩
   have hr6:=hr5.ext hE6
   have f6:HFr hb w w6:=((f2.trans f4).trans f5).trans (HFr.ofExt hE6 hr5.lt)
   have fin:∀ z,I64 z->RPostV A hb H 0 w (.returned (zi z)) w6:=fun z hz=>⟨z,H5,rfl,hz,⟨g5.fit,n5,m5,by omega,by omega,by omega,g5.err⟩,hr6,f6⟩
   by_cases hs:H5.spent=true
   ·simp (disch:=first|assumption|omega|simp only[zS]<;>omega|decide) only[zb67,simprocAttr,hs]
    exact fin 0 i0
   have hs':H5.spent=false:=by simpa using hs
   by_cases m1:(H.nd t').name=[43]
   ·simp (disch:=first|assumption|omega|simp only[zS]<;>omega|decide) only[zb67,simprocAttr,hs',m1]
    exact fin _ (wrap_in _)
   by_cases m2:(H.nd t').name=[45]
   ·simp (disch:=first|assumption|omega|simp only[zS]<;>omega|decide) only[zb67,simprocAttr,hs',m1,m2]
    exact fin _ (wrap_in _)
   by_cases m3:(H.nd t').name=[42]
   ·simp (disch:=first|assumption|omega|simp only[zS]<;>omega|decide) only[zb67,simprocAttr,hs',m1,m2,m3]
    exact fin _ (wrap_in _)
   by_cases z0:zz=0
   ·obtain⟨kv6,nv6,iv6,av6,tv6,rv6,ars6,h6⟩:=id hr6
    have hc6:=h6.cell
    simp (disch:=first|assumption|omega|simp only[zS]<;>omega|decide) only[zb67,simprocAttr,hs',m1,m2,m3,hc6]
    obtain⟨q,f⟩:=h6.ce H5.cost 9
    exact⟨0,H5.ce H5.cost 9,rfl,i0,⟨g5.fit.ce _ _,n5,m5,by show H.cost+1≤H5.cost;omega,by show H.pot H5.cost≤_;omega,by show H5.trail.length+_≤_+H5.cost;omega,by show(9:Nat)≤1000;omega⟩,⟨_,_,_,_,_,_,_,q⟩,f6.trans f⟩
   by_cases zm:zz=-1
   ·by_cases m4:(H.nd t').name=[47,47]
    ·simp (disch:=first|assumption|omega|simp only[zS]<;>omega|decide) only[zb67,simprocAttr,hs',m1,m2,m3,m4]
     exact fin _ (wrap_in _)
    ·simp (disch:=first|assumption|omega|simp only[zS]<;>omega|decide) only[zb67,simprocAttr,hs',m1,m2,m3,m4]
     exact fin _ i0
   ·by_cases m4:(H.nd t').name=[47,47]
    ·simp (disch:=first|assumption|omega|simp only[zS]<;>omega|decide) only[zb67,simprocAttr,hs',m1,m2,m3,m4]
     rw[bo_quo _ _ _ z0]
     exact fin _ (wrap_in _)
    ·simp (disch:=first|assumption|omega|simp only[zS]<;>omega|decide) only[zb67,simprocAttr,hs',m1,m2,m3,m4]
     rw[bo_rem _ _ _ z0]
     have im:I64 (z1.tmod zz):=by
      unfold I64 at *
      have h1:(z1.tmod zz).natAbs=z1.natAbs % zz.natAbs:=Int.natAbs_tmod _ _
      have h2:z1.natAbs % zz.natAbs<zz.natAbs:=Nat.mod_lt _ (by omega)
      omega
     refine⟨fun y w'=>w'=w6/\∃ z,y 10=zi z/\I64 z,?_,?_⟩
     ·refine⟨fun y w'=>w'=w6/\∃ q,y 169 = .bool q,?_,?_⟩
      ·by_cases u1:z1.tmod zz<0
       ·by_cases u2:0<zz
        ·simp (disch:=first|assumption|omega|simp only[zS]<;>omega|decide) only[zb67,simprocAttr]
         exact⟨_,rfl⟩
        ·have u3:¬ 0<z1.tmod zz:=by omega
         simp (disch:=first|assumption|omega|simp only[zS]<;>omega|decide) only[zb67,simprocAttr]
         exact⟨_,rfl⟩
       ·by_cases u3:0<z1.tmod zz
        ·simp (disch:=first|assumption|omega|simp only[zS]<;>omega|decide) only[zb67,simprocAttr]
         exact⟨_,rfl⟩
        ·simp (disch:=first|assumption|omega|simp only[zS]<;>omega|decide) only[zb67,simprocAttr]
         exact⟨_,rfl⟩
      ·rintro y w' ⟨rfl,q,hy⟩ d
       rw[hy]
       cases q with
       | true=>
        simp (disch:=first|assumption|omega|simp only[zS]<;>omega|decide) only[zb67,simprocAttr]
        exact⟨_,rfl,wrap_in _⟩
       | false=>
        simp (disch:=first|assumption|omega|simp only[zS]<;>omega|decide) only[zb67,simprocAttr]
        exact⟨_,rfl,im⟩
     ·rintro y w' ⟨rfl,z,hy,hz⟩ d
      rw[hy]
      exact fin z hz
structure P.Hp.Goes(H H':P.Hp)(k m:Nat):Prop where
 fit:H'.Fit
 few:H'.Few
 len:H.nodes.length≤H'.nodes.length/\H'.nodes.length≤H.nodes.length+m
 most:H'.most=H.most
 cost:H.cost≤H'.cost
 pot:H.pot H'.cost≤H.pot H.cost+k
 tr:H'.trail.length+H.cost≤H.trail.length+H'.cost
 err:H'.err≤1000
theorem P.Hp.Goes.refl{H:P.Hp}(hf:H.Fit)(hw:H.Few)(he:H.err≤1000):H.Goes H 0 0:=⟨hf,hw,⟨Nat.le_refl _,Nat.le_refl _⟩,rfl,Nat.le_refl _,Nat.le_refl _,Nat.le_refl _,he⟩
theorem P.Hp.Goes.trans{A B C:P.Hp}{k m k' m':Nat}(h:A.Goes B k m)(g:B.Goes C k' m'):A.Goes C (k+k') (m+m'):=by
 have p:=g.pot
 rw[P.Hp.pot_most h.most,P.Hp.pot_most h.most] at p
 have:=h.pot;have:=h.len;have:=g.len;have:=h.cost;have:=g.cost;have:=h.tr;have:=g.tr
 exact⟨g.fit,g.few,⟨by omega,by omega⟩,g.most.trans h.most,by omega,by omega,by omega,g.err⟩
theorem P.Hp.Goes.up{A B:P.Hp}{k m k' m':Nat}(h:A.Goes B k m)(hk:k≤k')(hm:m≤m'):A.Goes B k' m':=
 ⟨h.fit,h.few,⟨h.len.1,by have:=h.len.2;omega⟩,h.most,h.cost,by have:=h.pot;omega,h.tr,h.err⟩
theorem P.Hp.Gone.goes{H H':P.Hp}{k:Nat}(h:H.Gone H' k)(hw:H.Few)(he:H.err≤1000):H.Goes H' k 0:=
 ⟨h.fit,P.Hp.few_same h.nodes hw,by rw[h.nodes];exact⟨Nat.le_refl _,Nat.le_refl _⟩,h.most,by have:=h.cost;omega,h.pot,h.tr,by rw[h.err];exact he⟩
theorem P.Hp.GoneE.goes{H H':P.Hp}{k:Nat}(h:H.GoneE H' k)(hw:H.Few):H.Goes H' k 0:=
 ⟨h.fit,P.Hp.few_same h.nodes hw,by rw[h.nodes];exact⟨Nat.le_refl _,Nat.le_refl _⟩,h.most,by have:=h.cost;omega,h.pot,h.tr,h.err⟩
structure P.Hp.Live(H:P.Hp):Prop where
 fit:H.Fit
 few:H.Few
 pot:H.pot H.cost≤100000000
 len:H.nodes.length≤100000000
 tr:H.trail.length≤H.cost
 err:H.err≤1000
def RPostG(A:Nat->Prop)(hb:Nat)(H:P.Hp)(k m:Nat)(w:World)(e:Ending)(w':World):Prop:=∃ b H',e = .returned (.bool b)/\H.Goes H' k m/\RHp A w' hb H'/\HFr hb w w'
theorem HFr.notOwn{hb:Nat}{w w':World}(h:HFr hb w w'){b:Nat}(hb':¬ OwnOf w hb b)(hl:b<w.heap.size):¬ OwnOf w' hb b:=fun ho=>by
 rcases h.own b ho with h1 | h1
 ·exact hb' h1
 ·omega
theorem over_le1(c:Prop)[Decidable c]:(if c then 1 else 0)≤1:=by split<;>omega
theorem isAdd_fit{H:P.Hp}(hf:H.Fit){z:Int}(hz:I64 z):(H.add ⟨110,[],z,[]⟩).Fit:=hf.add (by simp) hz (by simp) (by simp)
theorem few_add{H:P.Hp}(hw:H.Few)(he:H.Ev){d:P.Nd}(hd:d.args.length≤4):(H.add d).Few:=fun t ht=>by
 rw[P.Hp.add_len] at ht
 by_cases e:t=H.nodes.length
 ·subst e;rw[P.Hp.add_nd];exact hd
 ·rw[(P.Hp.Le.add he d).nd t (by omega)];exact hw t (by omega)
def zb68:=(zA zG0 (zA @sh_Pr_Heap_Test.eq_1 (zA @fa_93_0 (zA @fa_93_5 (zA @ix_83 (zA @ix_89 (zA @ld_3 (zA @ld_5 (zA @ld_83 (zA @ld_89 @ln_83))))))))))
set_option maxHeartbeats 4000000 in
theorem rTest {A:Nat->Prop} {hb:Nat} {w:World} {H:P.Hp} {name:P.Bs} {ids:List Nat} {av:Value} {G:Nat->Prop} (h:RHp A w hb H) (hv:H.Live) (hA:∀ b,G b->A b) (hs:IsSl G w 3 av (ids.map fun n=>zi (n:Nat))) (hG:∀ b,G b->¬ OwnOf w hb b)
  (hi:∀ t∈ids,t<H.nodes.length) (ht:P.tests name=ids.length) :
  Calls Tryz.prog 119 #[pp hb,.string (bs name),av] w (RPostG A hb H 2 1 w):=by
 obtain⟨hf,hw,hp,hn,htr,he⟩:=id hv
 have hcp:=P.pot_le H H.cost
 have hal:(ids.map fun n=>(zi (n:Nat):Value)).length=ids.length:=by simp
 have here:∀ b,RPostG A hb H 2 1 w (.returned (.bool b)) w:=fun b=>⟨b,H,rfl,(P.Hp.Goes.refl hf hw he).up (by omega) (by omega),h,HFr.refl _ _⟩
 have arg:∀ (j:Nat) (hj:j<ids.length) {w':World},HFr hb w w'->∃ b cs,av = .slice (some ⟨b,0,none⟩) ids.length cs.size/\w'.heap[b]?=some (.cells cs 3 (0,0))/\cs[j]?=some (zi ((ids[j]:Nat):Int)):=by
  intro j hj w' hf'
  obtain⟨b,cs,e,g1,g2,g3⟩:=hs.at' (j:=j) (by rw[hal];exact hj)
  rw[hal] at e
  refine⟨b,cs,e,hf'.fr.block _ _ g2 (hG b g1),?_⟩
  rw[g3];simp [hj]
 have fd:HFr hb w w.drew:=HFr.ofExt ((FrM.refl _ _).drew) h.lt
 have hd:RHp A w.drew hb H:=h.ext ((FrM.refl _ _).drew)
 have uni:∀ (lk:Bool) (a b:Nat) {H1:P.Hp} {w1:World} {k m:Nat},a<H1.nodes.length->b<H1.nodes.length->RHp A w1 hb H1->HFr hb w w1->H.Goes H1 k m->k≤1->m≤1 ->
   Calls Tryz.prog 86 #[pp hb,zi (a:Nat),zi (b:Nat),.bool lk] w1 (RPostG A hb H (k+1) m w):=by
  intro lk a b H1 w1 k m ha hb' h1 f1 g1 hk hm
  have q1:=g1.pot;have q2:=g1.len;have q3:=g1.tr;have q4:=P.pot_le H H1.cost
  have q5:H1.pot H1.cost=H.pot H1.cost:=P.Hp.pot_most g1.most _
  refine(rUnify (lk:=lk) _ (Nat.le_refl _) h1 g1.fit g1.few (by omega) (by omega) (by omega) ha hb').mono ?_
  rintro e w2 ⟨b,H2,rfl,g2,h2,f2⟩
  exact⟨b,H2,rfl,(g1.trans (g2.goes g1.few g1.err)).up (Nat.add_le_add_left (over_le1 _) _) (Nat.le_refl _),h2,f1.trans f2⟩
 refine sh_Pr_Heap_Test_ok ?_
 refine⟨fun _ w'=>w'=w/\ids.length=2,?_,?_⟩
 ·by_cases m1:name=[116,114,117,101]
  ·simp (disch:=first|assumption|omega|simp only[zS]<;>omega|decide) only[zb68,simprocAttr,m1]
   exact here _
  by_cases m2:name=[102,97,105,108]
  ·simp (disch:=first|assumption|omega|simp only[zS]<;>omega|decide) only[zb68,simprocAttr,m1,m2]
   exact here _
  by_cases m3:name=[61]
  ·subst m3
   have hl:ids.length=2:=by have h9:P.tests [61]=2:=(by decide);omega
   obtain⟨b,cs,rfl,g1,g2⟩:=arg 0 (by omega) fd
   obtain⟨b',cs',ea,g3,g4⟩:=arg 1 (by omega) fd
   simp only[Value.slice.injEq,Option.some.injEq,Addr.mk.injEq,true_and,and_true] at ea
   obtain⟨rfl,-⟩:=ea
   rw[g1] at g3
   injection g3 with g3
   injection g3 with g3 _ _
   subst g3
   simp (disch:=first|assumption|omega|simp only[zS]<;>omega|decide) only[zb68,simprocAttr,hl,g1,g2,g4]
   refine Calls.mono (uni false _ _ (hi _ (List.getElem_mem _)) (hi _ (List.getElem_mem _)) hd fd (P.Hp.Goes.refl hf hw he) (by omega) (by omega)) ?_
   rintro e w2 ⟨b2,H2,rfl,q1,q2,q3⟩
   simp (disch:=first|assumption|omega|simp only[zS]<;>omega|decide) only[zb68,simprocAttr]
   exact⟨b2,H2,rfl,q1.up (by omega) (by omega),q2,q3⟩
  by_cases m4:name=[92,61]
  ·subst m4
   have hl:ids.length=2:=by have h9:P.tests [92,61]=2:=(by decide);omega
   obtain⟨b,cs,rfl,g1,g2⟩:=arg 0 (by omega) fd
   obtain⟨b',cs',ea,g3,g4⟩:=arg 1 (by omega) fd
   simp only[Value.slice.injEq,Option.some.injEq,Addr.mk.injEq,true_and,and_true] at ea
   obtain⟨rfl,-⟩:=ea
   rw[g1] at g3
   injection g3 with g3
   injection g3 with g3 _ _
   subst g3
   obtain⟨kv,nv,iv,av',tv,rv,ars,hx⟩:=id h
   have hc:=hx.cell
   obtain⟨ra,rc,hrv⟩:=own_slice (hx.q.own _ (List.mem_of_getElem? (i:=5) rfl))
   have hrv:rv = .slice ra (trsV H).length rc:=hrv
   have htl:(trsV H).length=H.trail.length:=by simp [trsV]
   rw[htl] at hrv
   simp (disch:=first|assumption|omega|simp only[zS]<;>omega|decide) only[zb68,simprocAttr,hl,g1,g2,g4,hc,hrv]
   refine Calls.mono (uni false _ _ (hi _ (List.getElem_mem _)) (hi _ (List.getElem_mem _)) hd fd (P.Hp.Goes.refl hf hw he) (by omega) (by omega)) ?_
   rintro e w2 ⟨b2,H2,rfl,q1,q2,q3⟩
   simp (disch:=first|assumption|omega|simp only[zS]<;>omega|decide) only[zb68,simprocAttr]
   have p1:=q1.pot;have p2:=q1.len;have p3:=q1.tr;have p4:=P.pot_le H H2.cost
   refine Calls.mono (rUndo (H:=H2) (m:=H.trail.length) _ (Nat.le_refl _) q2 q1.fit (by omega) (by omega)) ?_
   rintro e w3 ⟨rfl,H3,r1,r2,r3,r4,r5,r6,r7,r8⟩
   simp (disch:=first|assumption|omega|simp only[zS]<;>omega|decide) only[zb68,simprocAttr]
   exact⟨_,H3,rfl,⟨r2,P.Hp.few_same r3 q1.few,by rw[r3];exact⟨p2.1,by omega⟩,r5.trans q1.most,by rw[r4];exact q1.cost,by rw[r4];omega,by rw[r4];omega,by rw[r6];exact q1.err⟩,r1,q3.trans r7⟩
  by_cases m5:name=[61,61]
  ·subst m5
   have hl:ids.length=2:=by have h9:P.tests [61,61]=2:=(by decide);omega
   obtain⟨b,cs,rfl,g1,g2⟩:=arg 0 (by omega) fd
   obtain⟨b',cs',ea,g3,g4⟩:=arg 1 (by omega) fd
   simp only[Value.slice.injEq,Option.some.injEq,Addr.mk.injEq,true_and,and_true] at ea
   obtain⟨rfl,-⟩:=ea
   rw[g1] at g3
   injection g3 with g3
   injection g3 with g3 _ _
   subst g3
   simp (disch:=first|assumption|omega|simp only[zS]<;>omega|decide) only[zb68,simprocAttr,hl,g1,g2,g4]
   refine Calls.mono (uni true _ _ (hi _ (List.getElem_mem _)) (hi _ (List.getElem_mem _)) hd fd (P.Hp.Goes.refl hf hw he) (by omega) (by omega)) ?_
   rintro e w2 ⟨b2,H2,rfl,q1,q2,q3⟩
   simp (disch:=first|assumption|omega|simp only[zS]<;>omega|decide) only[zb68,simprocAttr]
   exact⟨b2,H2,rfl,q1.up (by omega) (by omega),q2,q3⟩
  by_cases m6:name=[105,115]
  ·subst m6
   have hl:ids.length=2:=by have h9:P.tests [105,115]=2:=(by decide);omega
   obtain⟨b,cs,rfl,g1,g2⟩:=arg 1 (by omega) (HFr.refl hb w)
   simp (disch:=first|assumption|omega|simp only[zS]<;>omega|decide) only[zb68,simprocAttr,hl,g1,g2]
   refine Calls.mono (rValueV _ (Nat.le_refl _) h hf hw (by omega) (by omega) he (hi _ (List.getElem_mem _))) ?_
   rintro e w2 ⟨z,H2,rfl,iz,q1,q2,q3⟩
   have g5:=(q1.goes hw).up (over_le1 _) (Nat.le_refl _)
   have p1:=g5.pot;have p2:=g5.len;have p3:=g5.tr;have p4:=P.pot_le H H2.cost
   simp (disch:=first|assumption|omega|simp only[zS]<;>omega|decide) only[zb68,simprocAttr]
   refine Calls.mono (rSpent q2) ?_
   rintro e w3 ⟨rfl,hE3⟩
   have q4:=q2.ext hE3
   have f3:=q3.trans (HFr.ofExt hE3 q2.lt)
   by_cases hs3:H2.spent=true
   ·simp (disch:=first|assumption|omega|simp only[zS]<;>omega|decide) only[zb68,simprocAttr,hs3]
    exact⟨_,H2,rfl,g5.up (by omega) (by omega),q4,f3⟩
   have hs3':H2.spent=false:=by simpa using hs3
   simp (disch:=first|assumption|omega|simp only[zS]<;>omega|decide) only[zb68,simprocAttr,hs3']
   refine Calls.mono (rAdd q4 (by omega) 110 [] z (l:=[]) (G:=fun _=>False) (fun _ h=>h.elim) (.inl ⟨rfl,rfl⟩)) ?_
   rintro e w4 ⟨rfl,q5,f4⟩
   have f04:=f3.trans f4
   have ga:H2.Goes (H2.add ⟨110,[],z,[]⟩) 0 1:=⟨isAdd_fit g5.fit iz,few_add g5.few g5.fit.ev (by simp),by rw[P.Hp.add_len];omega,rfl,Nat.le_refl _,Nat.le_refl _,Nat.le_refl _,g5.err⟩
   obtain⟨b2,cs2,ea,g3,g4⟩:=arg 0 (by omega) f04
   simp only[Value.slice.injEq,Option.some.injEq,Addr.mk.injEq,true_and,and_true] at ea
   obtain⟨rfl,e5⟩:=ea
   rw[hl] at *
   simp (disch:=first|assumption|omega|simp only[zS]<;>omega|decide) only[zb68,simprocAttr,g3,g4]
   refine Calls.mono (uni false _ _ (Nat.lt_of_lt_of_le (hi _ (List.getElem_mem _)) (by rw[P.Hp.add_len];omega)) (by rw[P.Hp.add_len];omega) q5 f04 (g5.trans ga) (by omega) (by omega)) ?_
   rintro e w5 ⟨b5,H5,rfl,r1,r2,r3⟩
   simp (disch:=first|assumption|omega|simp only[zS]<;>omega|decide) only[zb68,simprocAttr]
   exact⟨b5,H5,rfl,r1.up (by omega) (by omega),r2,r3⟩
  simp (disch:=first|assumption|omega|simp only[zS]<;>omega|decide) only[zb68,simprocAttr,m1,m2,m3,m4,m5,m6]
  refine⟨fun x w'=>w'=w/\x 80 = .bool (decide (name=[118,97,114]\/name=[110,111,110,118,97,114]\/name=[97,116,111,109]\/name=[105,110,116,101,103,101,114])),?_,?_⟩
  ·by_cases m7:name=[118,97,114]
   ·simp (disch:=first|assumption|omega|simp only[zS]<;>omega|decide) only[zb68,simprocAttr,m1,m2,m3,m4,m5,m6,m7]
    simp [sOf]
   by_cases m8:name=[110,111,110,118,97,114]
   ·simp (disch:=first|assumption|omega|simp only[zS]<;>omega|decide) only[zb68,simprocAttr,m1,m2,m3,m4,m5,m6,m7,m8]
    simp [sOf]
   by_cases m9:name=[97,116,111,109]
   ·simp (disch:=first|assumption|omega|simp only[zS]<;>omega|decide) only[zb68,simprocAttr,m1,m2,m3,m4,m5,m6,m7,m8,m9]
    simp [sOf]
   by_cases m10:name=[105,110,116,101,103,101,114]
   ·simp (disch:=first|assumption|omega|simp only[zS]<;>omega|decide) only[zb68,simprocAttr,m1,m2,m3,m4,m5,m6,m7,m8,m9,m10]
    simp [sOf]
   ·simp (disch:=first|assumption|omega|simp only[zS]<;>omega|decide) only[zb68,simprocAttr,m1,m2,m3,m4,m5,m6,m7,m8,m9,m10]
    simp [sOf,m7,m8,m9,m10]
  ·rintro x w' ⟨rfl,hx80⟩ d
   rw[hx80]
   by_cases hk:name=[118,97,114]\/name=[110,111,110,118,97,114]\/name=[97,116,111,109]\/name=[105,110,116,101,103,101,114]
   ·rw[bs_pos _ _ hk]
    have hl:ids.length=1:=by
     rcases hk with h9 | h9 | h9 | h9
     ·rw[h9] at ht;have h8:P.tests [118,97,114]=1:=(by decide);omega
     ·rw[h9] at ht;have h8:P.tests [110,111,110,118,97,114]=1:=(by decide);omega
     ·rw[h9] at ht;have h8:P.tests [97,116,111,109]=1:=(by decide);omega
     ·rw[h9] at ht;have h8:P.tests [105,110,116,101,103,101,114]=1:=(by decide);omega
    have f0:HFr hb w' w'.drew:=HFr.ofExt ((FrM.refl _ _).drew) h.lt
    obtain⟨b,cs,rfl,g1,g2⟩:=arg 0 (by omega) f0
    have ht0:ids[0]<H.nodes.length:=hi _ (List.getElem_mem _)
    obtain⟨fw,t',hwk⟩:=hf.wk ids[0]
    have ht':=P.Hp.walk_lt' hf.ok ht0 hwk
    obtain⟨kv,nv,iv,av',tv,rv,ars,hx⟩:=id hd
    have hc:=hx.cell
    obtain⟨gk,ck,uk,rfl,k1,k2⟩:=hx.kd (t:=t') ht'
    have e1:((t':Nat):Int).toNat=t':=by omega
    have ht9:((t':Nat):Int)<((H.nodes.length:Nat):Int):=by omega
    refine⟨fun w''=>w''.heap[hb]?=w'.drew.heap[hb]?,rfl,?_⟩
    refine rds (pp hb) (fun w'' hS=>by rw[hc] at hS;simp (disch:=first|assumption|omega|simp only[zS]<;>omega|decide) only[zb68,simprocAttr,hS]) (rds (.slice (some ⟨gk,0,none⟩) H.nodes.length ck) (fun w'' hS=>by rw[hc] at hS;have:=ltOf hS;simp (disch:=first|assumption|omega|simp only[zS]<;>omega|decide) only[zb68,simprocAttr,hS]) ?_)
    rw[hl]
    simp (disch:=first|assumption|omega|simp only[zS]<;>omega|decide) only[zb68,simprocAttr,g1,g2]
    refine Calls.mono (rWalk hd hf.ok.to ht0 (by omega) hwk) ?_
    rintro e w2 ⟨rfl,rfl⟩
    refine⟨rfl,?_⟩
    have fin:∀ r,RPostG A hb H 2 1 w' (.returned (.bool r)) w'.drew:=fun r=>⟨r,H,rfl,(P.Hp.Goes.refl hf hw he).up (by omega) (by omega),hd,f0⟩
    by_cases n7:name=[118,97,114]
    ·have n8:¬ name=[110,111,110,118,97,114]:=by rw[n7];decide
     have n9:¬ name=[97,116,111,109]:=by rw[n7];decide
     have n10:¬ name=[105,110,116,101,103,101,114]:=by rw[n7];decide
     by_cases q1:(((H.nd t').kind:Nat):Int)=118
     ·simp (disch:=first|assumption|omega|simp only[zS]<;>omega|decide) only[zb68,simprocAttr,k1,k2,e1]
      exact fin _
     ·simp (disch:=first|assumption|omega|simp only[zS]<;>omega|decide) only[zb68,simprocAttr,k1,k2,e1]
      exact fin _
    by_cases n8:name=[110,111,110,118,97,114]
    ·have n9:¬ name=[97,116,111,109]:=by rw[n8];decide
     have n10:¬ name=[105,110,116,101,103,101,114]:=by rw[n8];decide
     by_cases q1:(((H.nd t').kind:Nat):Int)=118
     ·simp (disch:=first|assumption|omega|simp only[zS]<;>omega|decide) only[zb68,simprocAttr,k1,k2,e1]
      exact fin _
     ·simp (disch:=first|assumption|omega|simp only[zS]<;>omega|decide) only[zb68,simprocAttr,k1,k2,e1]
      exact fin _
    by_cases n9:name=[97,116,111,109]
    ·have n10:¬ name=[105,110,116,101,103,101,114]:=by rw[n9];decide
     by_cases q1:(((H.nd t').kind:Nat):Int)=97
     ·simp (disch:=first|assumption|omega|simp only[zS]<;>omega|decide) only[zb68,simprocAttr,k1,k2,e1]
      exact fin _
     ·simp (disch:=first|assumption|omega|simp only[zS]<;>omega|decide) only[zb68,simprocAttr,k1,k2,e1]
      exact fin _
    by_cases n10:name=[105,110,116,101,103,101,114]
    ·simp (disch:=first|assumption|omega|simp only[zS]<;>omega|decide) only[zb68,simprocAttr,k1,k2,e1]
     exact fin _
    ·simp (disch:=first|assumption|omega|simp only[zS]<;>omega|decide) only[zb68,simprocAttr,k1,k2,e1]
     exact fin _
   ·rw[bs_neg _ _ hk]
    refine⟨rfl,?_⟩
    simp only[not_or] at hk
    obtain⟨k1,k2,k3,k4⟩:=hk
    unfold P.tests at ht
    simp [m1,m2,m3,m4,m5,m6,k1,k2,k3,k4] at ht
    split at ht<;>omega
 ·rintro x w' ⟨rfl,hl⟩ d
  obtain⟨b,cs,rfl,g1,g2⟩:=arg 0 (by omega) (HFr.refl hb w')
  rw[hl]
  simp (disch:=first|assumption|omega|simp only[zS]<;>omega|decide) only[zb68,simprocAttr,g1,g2]
  refine Calls.mono (rValueV _ (Nat.le_refl _) h hf hw (by omega) (by omega) he (hi _ (List.getElem_mem _))) ?_
  rintro e w2 ⟨z,H2,rfl,iz,q1,q2,q3⟩
  have g5:=(q1.goes hw).up (over_le1 _) (Nat.le_refl _)
  have p1:=g5.pot;have p2:=g5.len;have p3:=g5.tr;have p4:=P.pot_le H H2.cost
  simp (disch:=first|assumption|omega|simp only[zS]<;>omega|decide) only[zb68,simprocAttr]
  refine Calls.mono (rSpent q2) ?_
  rintro e w3 ⟨rfl,hE3⟩
  have q4:=q2.ext hE3
  have f3:=q3.trans (HFr.ofExt hE3 q2.lt)
  by_cases hs3:H2.spent=true
  ·simp (disch:=first|assumption|omega|simp only[zS]<;>omega|decide) only[zb68,simprocAttr,hs3]
   exact⟨_,H2,rfl,g5.up (by omega) (by omega),q4,f3⟩
  have hs3':H2.spent=false:=by simpa using hs3
  obtain⟨b2,cs2,ea,g3,g4⟩:=arg 1 (by omega) f3
  simp only[Value.slice.injEq,Option.some.injEq,Addr.mk.injEq,true_and,and_true] at ea
  obtain⟨rfl,e5⟩:=ea
  simp (disch:=first|assumption|omega|simp only[zS]<;>omega|decide) only[zb68,simprocAttr,hs3',g3,g4]
  refine Calls.mono (rValueV _ (Nat.le_refl _) q4 g5.fit g5.few (by rw[P.Hp.pot_most g5.most];omega) (by omega) g5.err (Nat.lt_of_lt_of_le (hi _ (List.getElem_mem _)) p2.1)) ?_
  rintro e w4 ⟨z2,H4,rfl,iz2,q5,q6,q7⟩
  have g6:=((g5.trans (q5.goes g5.few)).up (k':=2) (m':=1) (by have:=over_le1 (H2.over (H2.cost+1)=true);omega) (by omega))
  have fin:∀ r,RPostG A hb H 2 1 w' (.returned (.bool r)) w4:=fun r=>⟨r,H4,rfl,g6,q6,f3.trans q7⟩
  by_cases m1:name=[60]
  ·simp (disch:=first|assumption|omega|simp only[zS]<;>omega|decide) only[zb68,simprocAttr,m1]
   exact fin _
  by_cases m2:name=[62]
  ·simp (disch:=first|assumption|omega|simp only[zS]<;>omega|decide) only[zb68,simprocAttr,m1,m2]
   exact fin _
  by_cases m3:name=[61,60]
  ·simp (disch:=first|assumption|omega|simp only[zS]<;>omega|decide) only[zb68,simprocAttr,m1,m2,m3]
   exact fin _
  by_cases m4:name=[62,61]
  ·simp (disch:=first|assumption|omega|simp only[zS]<;>omega|decide) only[zb68,simprocAttr,m1,m2,m3,m4]
   exact fin _
  ·simp (disch:=first|assumption|omega|simp only[zS]<;>omega|decide) only[zb68,simprocAttr,m1,m2,m3,m4]
   exact fin _
end Go.Proofs.YtilpjhceemaplaaGreatDoor
namespace Go.Proofs.YtilpjhceemaplaaGreatDoor
open Go.Proofs.YtilpjhceemaplaaGreatDoor.Sx
section
variable{p0 p1 p2 p3 p4 p5 p6 p7:Value}{w:World}{R:Ending->World->Prop}
def sh_Pr_Walk_push(p0 p1 p2 p3 p4:Value)(w:World)(R:Ending->World->Prop):Prop:=
 xwB 40 p1 w R fun x6 w1=>
 HD fun S=>S w1.drew /\
 NC p0 fun x13=>
 sG 85 2 81 x13 S fun x15=>
 sL 40 x6 S fun x16=>
 nrD 143 #[(0,x16),(2,p2),(3,p3),(4,p4)] w1.drew fun x20=>
 WR Tryz.prog (Instr.buildSlice 81 1 #[(0,x20)]) w1.drew (fun x21 v1=>
 S v1 /\
 WR Tryz.prog (Builtin.append_ #[81,81] 81 #[x15,x21]) v1 (fun x22 v2=>
 S v2 /\
 NC p0 fun x23=>
 nrF 85 x23 2 v2 fun x24=>
 nuS 81 x24 x22 v2 fun v3=>
 xH 85 2 81 p0 v3 R fun x28=>
 xrN 81 x28 v3 R fun x29=>
 xrO .sub 3 29 x29 (.int .i64 1) v3 R fun x30=>
 R (.returned x30) v3) NX) NX
theorem sh_Pr_Walk_push_ok(h:sh_Pr_Walk_push p0 p1 p2 p3 p4 w R):Calls Tryz.prog 27 #[p0,p1,p2,p3,p4] w R:=
 cq (args:=[p0,p1,p2,p3,p4]) (good (fun _=>[]) (fun _=>none) (fun _=>0) (zO [(1,[15,0,1,2,3,4,5,6,7,8,9,10,11,12,13,14])]) (fun _=>[]) (fun _=>[]) (fun _=>false) (fun _=>false)) Tryz.func27 rfl (by kernel_rfl) (by kernel_rfl) h
def sh_Pr_Walk_cutting(p0 p1 p2:Value)(w:World)(R:Ending->World->Prop):Prop:=
 xH 85 2 81 p0 w R fun x11=>
 xrD 143 #[(1,(.bool true)),(3,p1),(4,p2)] w R fun x14=>
 WR Tryz.prog (Instr.buildSlice 81 1 #[(0,x14)]) w (fun x15 w1=>
 WR Tryz.prog (Builtin.append_ #[81,81] 81 #[x11,x15]) w1 (fun x16 v1=>
 NC p0 fun x17=>
 xrF 85 x17 2 v1 R fun x18=>
 xuS 81 x18 x16 v1 R fun v2=>
 xH 85 2 81 p0 v2 R fun x22=>
 xrN 81 x22 v2 R fun x23=>
 xrO .sub 3 23 x23 (.int .i64 1) v2 R fun x24=>
 R (.returned x24) v2) (PX R)) (PX R)
theorem sh_Pr_Walk_cutting_ok(h:sh_Pr_Walk_cutting p0 p1 p2 w R):Calls Tryz.prog 82 #[p0,p1,p2] w R:=
 cq (args:=[p0,p1,p2]) (good (fun _=>[]) (fun _=>none) (fun _=>0) (fun _=>none) (fun _=>[]) (fun _=>[]) (fun _=>false) (fun _=>false)) Tryz.func82 rfl (by kernel_rfl) (by kernel_rfl) h
def sh_Pr_Walk_come(p0 p1:Value)(w:World)(R:Ending->World->Prop):Prop:=
 HD fun S=>S w.drew /\
 NC p0 fun x6=>
 sG 85 4 82 x6 S fun x8=>
 NC p0 fun x10=>
 sG 85 0 79 x10 S fun x12=>
 NC x12 fun x13=>
 sG 93 5 83 x13 S fun x15=>
 sN 83 x15 S fun x16=>
 nrD 146 #[(0,x16),(1,p1)] w.drew fun x18=>
 WR Tryz.prog (Instr.buildSlice 82 1 #[(0,x18)]) w.drew (fun x19 w1=>
 S w1 /\
 WR Tryz.prog (Builtin.append_ #[82,82] 82 #[x8,x19]) w1 (fun x20 v1=>
 S v1 /\
 NC p0 fun x21=>
 nrF 85 x21 4 v1 fun x22=>
 nuS 82 x22 x20 v1 fun v2=>
 R (.returned (.tuple #[])) v2) NX) NX
theorem sh_Pr_Walk_come_ok(h:sh_Pr_Walk_come p0 p1 w R):Calls Tryz.prog 81 #[p0,p1] w R:=
 cq (args:=[p0,p1]) (good (fun _=>[]) (fun _=>none) (fun _=>0) (zO [(0,[20,0,1,2,3,4,5,6,7,8,9,10,11,12,13,14,15,16,17,18,19])]) (fun _=>[]) (fun _=>[]) (fun _=>false) (fun _=>false)) Tryz.func81 rfl (by kernel_rfl) (by kernel_rfl) h
def sh_Pr_Walk_next(p0 p1 p2 p3:Value)(w:World)(R:Ending->World->Prop):Prop:=
 LoopW (fun rec s d w1=>
 xH 85 1 23 p0 w1 R fun x13=>
 xrN 23 x13 w1 R fun x14=>
 xrT .lss 3 9 14 (s 3) x14 w1 R fun x15=>
 BS x15 (JS (fun j=>
 JS (fun j_1=>
 xH 85 1 23 p0 w1 R fun x19=>
 xrI 23 x19 (s 3) w1 R fun x21=>
 xG 43 0 9 x21 w1 R fun x23=>
 xrT .eql 9 23 24 x23 p1 w1 R fun x25=>BS x25 (
 xH 85 1 23 p0 w1 R fun x30=>
 xrI 23 x30 (s 3) w1 R fun x32=>
 xG 43 1 37 x32 w1 R fun x34=>
 xrN 37 x34 w1 R fun x35=>
 xrT .eql 3 35 36 x35 p2 w1 R fun x37=>
 j_1 (sOf [(38,x37)]) w1) (
 j_1 (sOf [(38,(.bool false))]) w1))
 (fun s_2 d_2 v2=>
 BS (s_2 38) (R (.returned (s 3)) v2) (j (sOf []) v2)))
 (fun s_1 d_1 v1=>
 xrO .add 3 40 (s 3) (.int .i64 1) v1 R fun x41=>
 rec (sOf [(3,x41)]) v1)) (R (.returned (.int .i64 (-1))) w1))
 (sOf [(3,p3)]) w
theorem sh_Pr_Walk_next_ok(h:sh_Pr_Walk_next p0 p1 p2 p3 w R):Calls Tryz.prog 84 #[p0,p1,p2,p3] w R:=
 cq (args:=[p0,p1,p2,p3]) (good (zL [(1,[3])]) (zO [(2000,[38]),(3001,[])]) (fun _=>0) (fun _=>none) (zL [(1,[])]) (zL [(2000,[]),(3001,[])]) (zT [2000,3001]) (zT [15,37,38])) Tryz.func84 rfl (by kernel_rfl) (by kernel_rfl) h
def sh_Pr_Walk_clause(p0 p1 p2 p3 p4 p5:Value)(w:World)(R:Ending->World->Prop):Prop:=
 xH 85 0 79 p0 w R fun x22=>
 xH 93 6 3 x22 w R fun x25=>
 xrO .add 3 25 x25 (.int .i64 1) w R fun x26=>
 NC x22 fun x27=>
 xrF 93 x27 6 w R fun x28=>
 xuS 3 x28 x26 w R fun w1=>
 xH 85 4 82 p0 w1 R fun x33=>
 RD Tryz.prog (Instr.sliceAt 82 x33 none (some p5) none) w1 (fun x35=>
 NC p0 fun x36=>
 xrF 85 x36 4 w1 R fun x37=>
 xuS 82 x37 x35 w1 R fun v1=>
 xrN 83 p2 v1 R fun x41=>
 xrO .add 3 42 p3 (.int .i64 1) v1 R fun x43=>
 xC 84 #[p0,p1,x41,x43] v1 R fun x44 v2=>
 JS (fun j=>
 xrO .geq 3 45 x44 (.int .i64 0) v2 R fun x46=>
 BS x46 (HD fun S=>S v2.drew /\
 NC p0 fun x49=>
 sG 85 4 82 x49 S fun x51=>
 NC p0 fun x53=>
 sG 85 0 79 x53 S fun x55=>
 NC x55 fun x56=>
 sG 93 5 83 x56 S fun x58=>
 sN 83 x58 S fun x59=>
 nrD 146 #[(0,x59),(1,p4),(2,(.bool true)),(3,x44),(4,p1),(5,p2)] v2.drew fun x64=>
 WR Tryz.prog (Instr.buildSlice 82 1 #[(0,x64)]) v2.drew (fun x65 v4=>
 S v4 /\
 WR Tryz.prog (Builtin.append_ #[82,82] 82 #[x51,x65]) v4 (fun x66 v5=>
 S v5 /\
 NC p0 fun x67=>
 nrF 85 x67 4 v5 fun x68=>
 nuS 82 x68 x66 v5 fun v6=>
 j (sOf []) v6) NX) NX) (j (sOf []) v2))
 (fun s d v3=>
 xH 85 1 23 p0 v3 R fun x72=>
 xrI 23 x72 p3 v3 R fun x74=>
 xrL 43 x74 v3 R fun x75=>
 xwA 43 v3 R fun x14 v7=>
 xuS 43 x14 x75 v7 R fun v8=>
 nH 85 0 79 p0 v8.drew fun x79=>
 nG 43 3 41 x14 v8.drew fun x81=>
 nrN 41 x81 v8.drew fun x82=>
 xC 26 #[x79,x82] v8.drew R fun x83 v9=>
 LoopW (fun rec s_1 d_1 v10=>
 xrN 83 p2 v10 R fun x86=>
 xrT .lss 3 84 86 (s_1 16) x86 v10 R fun x87=>
 BS x87 (nH 85 0 79 p0 v10.drew fun x93=>
 nG 43 1 37 x14 v10.drew fun x95=>
 nrI 37 x95 (s_1 16) v10.drew fun x97=>
 nrL 111 x97 v10.drew fun x98=>
 xC 85 #[x93,x98,x83] v10.drew R fun x100 v11=>
 nH 85 0 79 p0 v11.drew fun x104=>
 nrI 83 p2 (s_1 16) v11.drew fun x107=>
 nrL 3 x107 v11.drew fun x108=>
 xC 86 #[x104,x108,x100,(.bool false)] v11.drew R fun x110 v12=>
 RD Tryz.prog (Op.unary .not x110) v12 (fun x112=>
 BS x112 (R (.returned (.bool false)) v12) (xrO .add 3 88 (s_1 16) (.int .i64 1) v12 R fun x89=>
 rec (sOf [(16,x89)]) v12)) (PX R)) (xG 43 2 40 x14 v10 R fun x116=>
 xC 27 #[p0,x116,x83,p5,p4] v10 R fun x120 v13=>
 NC p0 fun x121=>
 xrF 85 x121 3 v13 R fun x122=>
 xuS 3 x122 x120 v13 R fun v14=>
 R (.returned (.bool true)) v14))
 (sOf [(16,(.int .i64 0))]) v9)) (PX R)
theorem sh_Pr_Walk_clause_ok(h:sh_Pr_Walk_clause p0 p1 p2 p3 p4 p5 w R):Calls Tryz.prog 49 #[p0,p1,p2,p3,p4,p5] w R:=
 cq (args:=[p0,p1,p2,p3,p4,p5]) (good (zL [(9,[16])]) (zO [(5001,[])]) (zN [(7,7),(11,10),(12,9)]) (zO [(5,[23,0,1,2,3,4,5,6,7,8,9,10,11,12,13,14,15,16,17,18,19,20,21,22])]) (zL [(9,[])]) (zL [(5001,[])]) (zT [5001]) (zT [12,18,46,87,110,111,112])) Tryz.func49 rfl (by kernel_rfl) (by kernel_rfl) h
def sh_Pr_Walk_goal(p0 p1 p2:Value)(w:World)(R:Ending->World->Prop):Prop:=
 xwB 40 p1 w R fun x4 w1=>
 LoopW (fun rec s d v1=>
 xG 40 2 37 x4 v1 R fun x14=>
 xrN 37 x14 v1 R fun x15=>
 xrT .lss 3 12 15 (s 8) x15 v1 R fun x16=>
 BS x16 (nH 85 0 79 p0 v1.drew fun x22=>
 nG 40 2 37 x4 v1.drew fun x24=>
 nrI 37 x24 (s 8) v1.drew fun x26=>
 nrL 111 x26 v1.drew fun x27=>
 xC 85 #[x22,x27,p2] v1.drew R fun x29 v2=>
 WR Tryz.prog (Instr.buildSlice 83 1 #[(0,x29)]) v2 (fun x32 v3=>
 WR Tryz.prog (Builtin.append_ #[83,83] 83 #[(s 7),x32]) v3 (fun x33 v4=>
 xrO .add 3 17 (s 8) (.int .i64 1) v4 R fun x18=>
 rec (sOf [(7,x33),(8,x18)]) v4) (PX R)) (PX R)) (xG 40 1 9 x4 v1 R fun x35=>
 xC 36 #[x35] v1 R fun x36 v5=>
 xrN 83 ((s 7)) v5 R fun x39=>
 xrT .eql 3 37 39 x36 x39 v5 R fun x40=>
 BS x40 (nH 85 0 79 p0 v5.drew fun x44=>
 nG 40 1 9 x4 v5.drew fun x46=>
 xC 119 #[x44,x46,(s 7)] v5.drew R fun x48 v6=>
 R (.returned x48) v6) (xG 40 1 9 x4 v5 R fun x51=>
 xrN 83 ((s 7)) v5 R fun x53=>
 xC 84 #[p0,x51,x53,(.int .i64 0)] v5 R fun x54 v7=>
 xrO .lss 3 55 x54 (.int .i64 0) v7 R fun x56=>
 BS x56 (xH 85 0 79 p0 v7 R fun x60=>
 NC x60 fun x61=>
 xrF 93 x61 8 v7 R fun x62=>
 xuS 32 x62 (.int .i64 10) v7 R fun v8=>
 R (.returned (.bool false)) v8) (nG 40 1 9 x4 v7.drew fun x65=>
 nH 85 3 3 p0 v7.drew fun x71=>
 nH 85 4 82 p0 v7.drew fun x75=>
 nrN 82 x75 v7.drew fun x76=>
 xC 49 #[p0,x65,(s 7),x54,x71,x76] v7.drew R fun x77 v9=>
 R (.returned x77) v9))))
 (sOf [(7,(.slice none 0 0)),(8,(.int .i64 0))]) w1
theorem sh_Pr_Walk_goal_ok(h:sh_Pr_Walk_goal p0 p1 p2 w R):Calls Tryz.prog 83 #[p0,p1,p2] w R:=
 cq (args:=[p0,p1,p2]) (good (zL [(3,[7,8])]) (fun _=>none) (zN [(5,10),(9,7),(14,14)]) (fun _=>none) (zL [(3,[])]) (fun _=>[]) (fun _=>false) (zT [6,16,40,48,56,77])) Tryz.func83 rfl (by kernel_rfl) (by kernel_rfl) h
def sh_Pr_Walk_step(p0:Value)(w:World)(R:Ending->World->Prop):Prop:=
 xH 85 0 79 p0 w R fun x16=>
 xH 93 6 3 x16 w R fun x19=>
 xrO .add 3 19 x19 (.int .i64 1) w R fun x20=>
 NC x16 fun x21=>
 xrF 93 x21 6 w R fun x22=>
 xuS 3 x22 x20 w R fun w1=>
 HD fun S=>S w1.drew /\
 NC p0 fun x24=>
 sG 85 2 81 x24 S fun x26=>
 NC p0 fun x28=>
 sG 85 3 3 x28 S fun x30=>
 sI 81 x26 x30 S fun x31=>
 sL 143 x31 S fun x32=>
 nwA 143 w1.drew fun x3 v1=>
 S v1 /\
 nuS 143 x3 x32 v1 fun v2=>
 xG 143 4 3 x3 v2 R fun x35=>
 NC p0 fun x36=>
 xrF 85 x36 3 v2 R fun x37=>
 xuS 3 x37 x35 v2 R fun v3=>
 xG 143 1 4 x3 v3 R fun x39=>
 BS x39 (nH 85 4 82 p0 v3.drew fun x44=>
 nG 143 3 3 x3 v3.drew fun x46=>
 RD Tryz.prog (Instr.sliceAt 82 x44 none (some x46) none) v3.drew (fun x47=>
 NC p0 fun x48=>
 nrF 85 x48 4 v3.drew fun x49=>
 xuS 82 x49 x47 v3.drew R fun v4=>
 R (.returned (.bool true)) v4) NX) (xG 143 0 40 x3 v3 R fun x51=>
 xwA 40 v3 R fun x4 v5=>
 xuS 40 x4 x51 v5 R fun v6=>
 xH 85 4 82 p0 v6 R fun x55=>
 xrN 82 x55 v6 R fun x56=>
 xG 40 0 5 x4 v6 R fun x58=>
 xrO .eql 5 58 x58 (.int .u8 33) v6 R fun x65=>
 BS x65 (nH 85 4 82 p0 v6.drew fun x70=>
 nG 143 3 3 x3 v6.drew fun x72=>
 RD Tryz.prog (Instr.sliceAt 82 x70 none (some x72) none) v6.drew (fun x73=>
 NC p0 fun x74=>
 nrF 85 x74 4 v6.drew fun x75=>
 xuS 82 x75 x73 v6.drew R fun v7=>
 R (.returned (.bool true)) v7) NX) (xrO .eql 5 58 x58 (.int .u8 44) v6 R fun x77=>
 BS x77 (xG 40 3 38 x4 v6 R fun x79=>
 xrN 38 x79 v6 R fun x80=>
 xrO .sub 3 80 x80 (.int .i64 1) v6 R fun x81=>
 LoopW (fun rec s d v8=>
 xrO .geq 3 82 (s 6) (.int .i64 0) v8 R fun x83=>
 BS x83 (HD fun S_1=>S_1 v8.drew /\
 sG 40 3 38 x4 S_1 fun x89=>
 sI 38 x89 (s 6) S_1 fun x91=>
 sL 40 x91 S_1 fun x92=>
 sG 143 2 83 x3 S_1 fun x94=>
 sG 143 3 3 x3 S_1 fun x96=>
 nH 85 3 3 p0 v8.drew fun x100=>
 nC 27 #[p0,x92,x94,x96,x100] v8.drew fun x101 v9=>
 S_1 v9 /\
 NC p0 fun x102=>
 nrF 85 x102 3 v9 fun x103=>
 nuS 3 x103 x101 v9 fun v10=>
 xrO .sub 3 84 (s 6) (.int .i64 1) v10 R fun x85=>
 rec (sOf [(6,x85)]) v10) (R (.returned (.bool true)) v8))
 (sOf [(6,x81)]) v6) (xrO .eql 5 58 x58 (.int .u8 59) v6 R fun x105=>
 BS x105 (nG 40 3 38 x4 v6.drew fun x108=>
 nrI 38 x108 (.int .i64 1) v6.drew fun x109=>
 nrL 40 x109 v6.drew fun x110=>
 nG 143 2 83 x3 v6.drew fun x112=>
 nG 143 3 3 x3 v6.drew fun x114=>
 nH 85 3 3 p0 v6.drew fun x118=>
 xC 27 #[p0,x110,x112,x114,x118] v6.drew R fun x119 v11=>
 xC 81 #[p0,x119] v11 R fun x122 v12=>
 HD fun S_2=>S_2 v12.drew /\
 sG 40 3 38 x4 S_2 fun x126=>
 sI 38 x126 (.int .i64 0) S_2 fun x127=>
 sL 40 x127 S_2 fun x128=>
 sG 143 2 83 x3 S_2 fun x130=>
 sG 143 3 3 x3 S_2 fun x132=>
 nH 85 3 3 p0 v12.drew fun x136=>
 nC 27 #[p0,x128,x130,x132,x136] v12.drew fun x137 v13=>
 S_2 v13 /\
 NC p0 fun x138=>
 nrF 85 x138 3 v13 fun x139=>
 nuS 3 x139 x137 v13 fun v14=>
 R (.returned (.bool true)) v14) (xrO .eql 5 58 x58 (.int .u8 63) v6 R fun x141=>
 BS x141 (nG 40 3 38 x4 v6.drew fun x144=>
 nrI 38 x144 (.int .i64 2) v6.drew fun x145=>
 nrL 40 x145 v6.drew fun x146=>
 nG 143 2 83 x3 v6.drew fun x148=>
 nG 143 3 3 x3 v6.drew fun x150=>
 nH 85 3 3 p0 v6.drew fun x154=>
 xC 27 #[p0,x146,x148,x150,x154] v6.drew R fun x155 v15=>
 xC 81 #[p0,x155] v15 R fun x158 v16=>
 nG 40 3 38 x4 v16.drew fun x161=>
 nrI 38 x161 (.int .i64 1) v16.drew fun x162=>
 nrL 40 x162 v16.drew fun x163=>
 nG 143 2 83 x3 v16.drew fun x165=>
 nG 143 3 3 x3 v16.drew fun x167=>
 nH 85 3 3 p0 v16.drew fun x171=>
 xC 27 #[p0,x163,x165,x167,x171] v16.drew R fun x172 v17=>
 xC 82 #[p0,x56,x172] v17 R fun x176 v18=>
 HD fun S_3=>S_3 v18.drew /\
 sG 40 3 38 x4 S_3 fun x180=>
 sI 38 x180 (.int .i64 0) S_3 fun x181=>
 sL 40 x181 S_3 fun x182=>
 sG 143 2 83 x3 S_3 fun x184=>
 nC 27 #[p0,x182,x184,x56,x176] v18.drew fun x187 v19=>
 S_3 v19 /\
 NC p0 fun x188=>
 nrF 85 x188 3 v19 fun x189=>
 nuS 3 x189 x187 v19 fun v20=>
 R (.returned (.bool true)) v20) (xrO .eql 5 58 x58 (.int .u8 126) v6 R fun x191=>
 BS x191 (xH 85 3 3 p0 v6 R fun x196=>
 xC 81 #[p0,x196] v6 R fun x197 v21=>
 xrD 40 #[(0,(.int .u8 103)),(1,(.string (bs [102,97,105,108])))] v21 R fun x199=>
 xC 27 #[p0,x199,(.slice none 0 0),(.int .i64 0),(.int .i64 (-1))] v21 R fun x200 v22=>
 xC 82 #[p0,x56,x200] v22 R fun x204 v23=>
 HD fun S_4=>S_4 v23.drew /\
 sG 40 3 38 x4 S_4 fun x208=>
 sI 38 x208 (.int .i64 0) S_4 fun x209=>
 sL 40 x209 S_4 fun x210=>
 sG 143 2 83 x3 S_4 fun x212=>
 nC 27 #[p0,x210,x212,x56,x204] v23.drew fun x215 v24=>
 S_4 v24 /\
 NC p0 fun x216=>
 nrF 85 x216 3 v24 fun x217=>
 nuS 3 x217 x215 v24 fun v25=>
 R (.returned (.bool true)) v25) (xrL 40 x4 v6 R fun x60=>
 xG 143 2 83 x3 v6 R fun x62=>
 xC 83 #[p0,x60,x62] v6 R fun x63 v26=>
 R (.returned x63) v26))))))
theorem sh_Pr_Walk_step_ok(h:sh_Pr_Walk_step p0 w R):Calls Tryz.prog 47 #[p0] w R:=
 cq (args:=[p0]) (good (zL [(15,[6])]) (fun _=>none) (zN [(5,10),(12,10),(19,13),(23,13),(25,13)]) (zO [(2,[12,0,1,2,3,4,5,6,7,8,9,10,11]),(17,[19,0,1,2,3,4,5,6,7,8,9,10,11,12,13,14,15,16,17,18]),(21,[18,0,1,2,3,4,5,6,7,8,9,10,11,12,13,14,15,16,17]),(27,[14,0,1,2,3,4,5,6,7,8,9,10,11,12,13]),(32,[14,0,1,2,3,4,5,6,7,8,9,10,11,12,13])]) (zL [(15,[])]) (fun _=>[]) (fun _=>false) (zT [2,39,63,64,65,76,77,83,104,105,140,141,190,191])) Tryz.func47 rfl (by kernel_rfl) (by kernel_rfl) h
def sh_Pr_Walk_on(p0 p1:Value)(w:World)(R:Ending->World->Prop):Prop:=
 LoopW (fun rec s d w1=>
 xH 85 0 79 p0 w1 R fun x13=>
 xC 46 #[x13] w1 R fun x14 v1=>
 BS x14 (R (.returned (.bool false)) v1) (BS (s 5) (xH 85 3 3 p0 v1 R fun x20=>
 xrO .lss 3 20 x20 (.int .i64 0) v1 R fun x21=>
 BS x21 (R (.returned (.bool true)) v1) (xC 47 #[p0] v1 R fun x23 v2=>
 rec (sOf [(5,x23)]) v2)) (xH 85 4 82 p0 v1 R fun x27=>
 xrN 82 x27 v1 R fun x28=>
 xrO .sub 3 28 x28 (.int .i64 1) v1 R fun x29=>
 xrO .lss 3 30 x29 (.int .i64 0) v1 R fun x31=>
 BS x31 (R (.returned (.bool false)) v1) (xH 85 4 82 p0 v1 R fun x35=>
 xrI 82 x35 x29 v1 R fun x37=>
 xrL 146 x37 v1 R fun x38=>
 xwA 146 v1 R fun x8 v3=>
 xuS 146 x8 x38 v3 R fun v4=>
 nH 85 0 79 p0 v4.drew fun x42=>
 nG 146 0 3 x8 v4.drew fun x44=>
 xC 48 #[x42,x44] v4.drew R fun x45 v5=>
 xG 146 2 4 x8 v5 R fun x47=>
 BS x47 (xG 146 4 9 x8 v5 R fun x50=>
 xG 146 5 83 x8 v5 R fun x52=>
 xG 146 3 3 x8 v5 R fun x54=>
 xG 146 1 3 x8 v5 R fun x56=>
 xC 49 #[p0,x50,x52,x54,x56,x29] v5 R fun x58 v6=>
 rec (sOf [(5,x58)]) v6) (xG 146 1 3 x8 v5 R fun x61=>
 NC p0 fun x62=>
 xrF 85 x62 3 v5 R fun x63=>
 xuS 3 x63 x61 v5 R fun v7=>
 xH 85 4 82 p0 v7 R fun x68=>
 RD Tryz.prog (Instr.sliceAt 82 x68 none (some x29) none) v7 (fun x70=>
 NC p0 fun x71=>
 xrF 85 x71 4 v7 R fun x72=>
 xuS 82 x72 x70 v7 R fun v8=>
 rec (sOf [(5,(.bool true))]) v8) (PX R))))))
 (sOf [(5,p1)]) w
theorem sh_Pr_Walk_on_ok(h:sh_Pr_Walk_on p0 p1 w R):Calls Tryz.prog 28 #[p0,p1] w R:=
 cq (args:=[p0,p1]) (good (zL [(2,[5])]) (fun _=>none) (zN [(13,6)]) (fun _=>none) (zL [(2,[])]) (fun _=>[]) (fun _=>false) (zT [1,4,5,6,9,14,15,16,21,23,31,47,58])) Tryz.func28 rfl (by kernel_rfl) (by kernel_rfl) h
def sh_Pr_Walk_Answers(p0 p1:Value)(w:World)(R:Ending->World->Prop):Prop:=
 LoopW (fun rec s d w1=>
 xrT .lss 3 11 12 (s 8) p1 w1 R fun x13=>
 BS x13 (xrO .eql 3 17 (s 8) (.int .i64 0) w1 R fun x18=>
 xC 28 #[p0,x18] w1 R fun x19 v1=>
 nH 85 0 79 p0 v1.drew fun x23=>
 nH 93 6 3 x23 v1.drew fun x26=>
 nH 85 0 79 p0 v1.drew fun x30=>
 nH 93 7 3 x30 v1.drew fun x33=>
 nrT .gtr 3 26 33 x26 x33 v1.drew fun x34=>
 BS x34 (R (.returned (.tuple #[(s 7),(.int .i64 0),(.bool true)])) v1.drew) (xH 85 0 79 p0 v1.drew R fun x39=>
 xH 93 8 32 x39 v1.drew R fun x42=>
 xrO .neq 32 42 x42 (.int .i64 0) v1.drew R fun x43=>
 BS x43 (nH 85 0 79 p0 v1.drew.drew fun x48=>
 nH 93 8 32 x48 v1.drew.drew fun x51=>
 R (.returned (.tuple #[(s 7),x51,(.bool false)])) v1.drew.drew) (RD Tryz.prog (Op.unary .not x19) v1.drew (fun x53=>
 BS x53 (R (.returned (.tuple #[(s 7),(.int .i64 6),(.bool false)])) v1.drew) (xC 29 #[p0] v1.drew R fun x56 v2=>
 nH 85 0 79 p0 v2.drew fun x60=>
 nH 93 6 3 x60 v2.drew fun x63=>
 nH 85 0 79 p0 v2.drew fun x67=>
 nH 93 7 3 x67 v2.drew fun x70=>
 nrT .gtr 3 63 70 x63 x70 v2.drew fun x71=>
 BS x71 (R (.returned (.tuple #[(s 7),(.int .i64 0),(.bool true)])) v2.drew) (WR Tryz.prog (Instr.buildSlice 41 1 #[(0,x56)]) v2.drew (fun x75 v3=>
 WR Tryz.prog (Builtin.append_ #[41,41] 41 #[(s 7),x75]) v3 (fun x76 v4=>
 xrO .add 3 14 (s 8) (.int .i64 1) v4 R fun x15=>
 rec (sOf [(7,x76),(8,x15)]) v4) (PX R)) (PX R)))) (PX R)))) (R (.returned (.tuple #[(s 7),(.int .i64 0),(.bool false)])) w1))
 (sOf [(7,(.slice none 0 0)),(8,(.int .i64 0))]) w
theorem sh_Pr_Walk_Answers_ok(h:sh_Pr_Walk_Answers p0 p1 w R):Calls Tryz.prog 12 #[p0,p1] w R:=
 cq (args:=[p0,p1]) (good (zL [(3,[7,8])]) (fun _=>none) (zN [(6,15),(9,11),(13,15)]) (fun _=>none) (zL [(3,[])]) (fun _=>[]) (fun _=>false) (zT [6,9,13,18,19,34,43,52,53,71])) Tryz.func12 rfl (by kernel_rfl) (by kernel_rfl) h
def sh_Pr_Walk_told(p0:Value)(w:World)(R:Ending->World->Prop):Prop:=
 xH 85 0 79 p0 w R fun x10=>
 xrD 151 #[(0,x10)] w R fun x11=>
 xwB 151 x11 w R fun x12 w1=>
 LoopW (fun rec s d v1=>
 xH 85 6 41 p0 v1 R fun x17=>
 xrN 41 x17 v1 R fun x18=>
 xrT .lss 3 13 18 (s 5) x18 v1 R fun x19=>
 BS x19 (JS (fun j=>
 xH 85 6 41 p0 v1 R fun x25=>
 xrI 41 x25 (s 5) v1 R fun x27=>
 xrL 9 x27 v1 R fun x28=>
 RD Tryz.prog (Instr.index 9 x28 (.int .i64 0)) v1 (fun x29=>
 xrO .eql 5 29 x29 (.int .u8 95) v1 R fun x30=>
 BS x30 (j (sOf [(4,(s 4))]) v1) (JS (fun j_1=>
 xrO .neq 9 31 (s 4) (.string (bs [])) v1 R fun x32=>
 BS x32 (xrO .add 9 33 (s 4) (.string (bs [44,32])) v1 R fun x34=>
 j_1 (sOf [(4,x34)]) v1) (j_1 (sOf [(4,(s 4))]) v1))
 (fun s_2 d_2 v3=>
 xH 85 5 83 p0 v3 R fun x39=>
 xrI 83 x39 (s 5) v3 R fun x41=>
 xrL 3 x41 v3 R fun x42=>
 xC 50 #[x12,x42,(.int .i64 0)] v3 R fun x43 v4=>
 xH 85 6 41 p0 v4 R fun x48=>
 xrI 41 x48 (s 5) v4 R fun x50=>
 xrL 9 x50 v4 R fun x51=>
 xrT .add 9 44 51 (s_2 4) x51 v4 R fun x52=>
 xrO .add 9 52 x52 (.string (bs [32,61,32])) v4 R fun x53=>
 xrT .add 9 53 54 x53 x43 v4 R fun x55=>
 j (sOf [(4,x55)]) v4))) (PX R))
 (fun s_1 d_1 v2=>
 xrO .add 3 20 (s 5) (.int .i64 1) v2 R fun x21=>
 rec (sOf [(4,(s_1 4)),(5,x21)]) v2)) (xrO .eql 9 56 (s 4) (.string (bs [])) v1 R fun x57=>
 BS x57 (R (.returned (.string (bs [116,114,117,101]))) v1) (R (.returned (s 4)) v1)))
 (sOf [(4,(.string (bs []))),(5,(.int .i64 0))]) w1
theorem sh_Pr_Walk_told_ok(h:sh_Pr_Walk_told p0 w R):Calls Tryz.prog 29 #[p0] w R:=
 cq (args:=[p0]) (good (zL [(4,[4,5])]) (zO [(8001,[4]),(10004,[4])]) (fun _=>0) (fun _=>none) (zL [(4,[])]) (zL [(8001,[]),(10004,[])]) (zT [8001,10004]) (zT [19,30,32,57])) Tryz.func29 rfl (by kernel_rfl) (by kernel_rfl) h
def sh_r_Ask(p0 p1 p2:Value)(w:World)(R:Ending->World->Prop):Prop:=
 xwB 43 p1 w R fun x4 w1=>
 xC 25 #[p2] w1 R fun x10 v1=>
 xG 43 3 41 x4 v1 R fun x14=>
 xrD 85 #[(0,x10),(1,p0),(6,x14)] v1 R fun x15=>
 xwB 85 x15 v1 R fun x16 v2=>
 xG 43 3 41 x4 v2 R fun x20=>
 xrN 41 x20 v2 R fun x21=>
 xC 26 #[x10,x21] v2 R fun x22 v3=>
 NC x16 fun x23=>
 xrF 85 x23 5 v3 R fun x24=>
 xuS 83 x24 x22 v3 R fun v4=>
 HD fun S=>S v4.drew /\
 sG 43 2 40 x4 S fun x28=>
 nH 85 5 83 x16 v4.drew fun x32=>
 nC 27 #[x16,x28,x32,(.int .i64 0),(.int .i64 (-1))] v4.drew fun x33 v5=>
 S v5 /\
 NC x16 fun x34=>
 nrF 85 x34 3 v5 fun x35=>
 nuS 3 x35 x33 v5 fun v6=>
 R (.returned x16) v6
theorem sh_r_Ask_ok(h:sh_r_Ask p0 p1 p2 w R):Calls Tryz.prog 11 #[p0,p1,p2] w R:=
 cq (args:=[p0,p1,p2]) (good (fun _=>[]) (fun _=>none) (fun _=>0) (zO [(4,[12,0,1,2,3,4,5,6,7,8,9,10,11])]) (fun _=>[]) (fun _=>[]) (fun _=>false) (fun _=>false)) Tryz.func11 rfl (by kernel_rfl) (by kernel_rfl) h
end
end Go.Proofs.YtilpjhceemaplaaGreatDoor
namespace Go.Proofs.YtilpjhceemaplaaGreatDoor
open Go.RowKit Sx
def GTy(t:Nat):Prop:=t=143\/t=146\/t=85
abbrev GFr(w w':World):Prop:=FrM (fun _ o=>∃ cs t z,o = .cells cs t z/\GTy t) w w'
theorem GFr.keep{w w':World}(h:GFr w w'){b:Nat}{cs:Array Value}{t:Nat}{z:Nat×Nat}(hb:w.heap[b]?=some (.cells cs t z))(ht:¬ GTy t):w'.heap[b]?=some (.cells cs t z):=
 h.block _ _ hb (by rintro ⟨cs',t',z',h1,h2⟩;injection h1 with _ h1 _;subst h1;exact ht h2)
instance (t:Nat):Decidable (GTy t):=inferInstanceAs (Decidable (_\/_))
theorem RHp.keepG{A:Nat->Prop}{w w':World}{hb:Nat}{H:P.Hp}(h:RHp A w hb H)(hf:GFr w w'):RHp A w' hb H/\∀ b,OwnOf w' hb b->OwnOf w hb b:=by
 obtain⟨kv,nv,iv,av,tv,rv,ars,h⟩:=h
 have hcell:=hf.keep h.q.cell (by decide)
 have ho':∀ b,OwnOf w' hb b->OwnOf w hb b:=by
  rintro b (rfl | ⟨cs,T,g1,u,g2,g3⟩)
  ·exact .inl rfl
  ·rw[hcell] at g1
   injection g1 with g1
   injection g1 with g1 _ _
   subst g1
   exact .inr ⟨_,_,h.q.cell,u,g2,g3⟩
 have key:∀ (ds:List P.Nd) (rows:List Value),IsAr (fun b=>¬ OwnOf w hb b/\A b) w rows ds->IsAr (fun b=>¬ OwnOf w' hb b/\A b) w' rows ds:=by
  intro ds
  induction ds with
  | nil=>intro rows h;exact h
  | cons d ds ih=>
   intro rows h
   obtain⟨v,r',h1,h2,h3⟩:=h
   refine⟨v,r',h1,?_,ih r' h3⟩
   rcases h2 with h2 | ⟨b,cs,g1,g2,g3,g4⟩
   ·exact .inl h2
   ·exact .inr ⟨b,cs,g1,⟨fun hx=>g2.1 (ho' b hx),g2.2⟩,hf.keep g3 (by decide),g4⟩
 refine⟨⟨kv,nv,iv,av,tv,rv,ars,⟨⟨hcell,fun a ha=>?_,h.q.dis,h.q.tl⟩,key _ _ h.ar,h.len⟩⟩,ho'⟩
 obtain⟨g0,g1⟩:=h.q.own a ha
 refine⟨g0,?_⟩
 rcases g1 with g1 | ⟨g,cap,cur,q1,q2,q3,q4⟩
 ·exact .inl g1
 ·refine .inr ⟨g,cap,cur,q1,q2,hf.keep q3 ?_,q4⟩
  simp only[List.mem_cons,List.not_mem_nil,or_false] at ha
  rcases ha with rfl | rfl | rfl | rfl | rfl | rfl<;>(dsimp only[GTy];decide)
structure Gl where
 only:Bool
 what:P.Bd
 vars:List Nat
 cut:Nat
 rest:Int
structure Ag where
 mark:Nat
 todo:Int
def ShB(a b c d:Value):Prop:=∃ (kd:Int) (nm:P.Bs) (p q:Option Addr) (n1 c1 n2 c2:Nat),a = .int .u8 kd/\b = .string (bs nm)/\c = .slice p n1 c1/\d = .slice q n2 c2
def IsGl(hb:Nat)(w:World)(l:List Value)(g:Gl):Prop:=∃ b0 b1 b2 b3 vv,l=[b0,b1,b2,b3,.bool g.only,vv,zi (g.cut:Nat),zi g.rest]/\ShB b0 b1 b2 b3 /\
 (g.only=false->IsRb (fun b=>b<hb) w [b0,b1,b2,b3] g.what)/\IsSl (fun b=>¬ OwnOf w hb b) w 3 vv (g.vars.map fun n=>zi (n:Nat))
def IsGls(hb:Nat)(w:World):List Value->List Gl->Prop
 | lc,[]=>lc=[]
 | lc,g::r=>∃ l l',lc=l++l'/\IsGl hb w l g/\IsGls hb w l' r
def IsAg(l:List Value)(a:Ag):Prop:=∃ k n v,l=[zi (a.mark:Nat),zi a.todo,.bool false,zi k,.string n,v]/\v.oneCell'=true
def IsAgs:List Value->List Ag->Prop
 | kc,[]=>kc=[]
 | kc,a::r=>∃ l l',kc=l++l'/\IsAg l a/\IsAgs l' r
theorem IsGls.snoc{hb:Nat}{w:World}{l:List Value}{g:Gl}(hg:IsGl hb w l g):∀ {lc:List Value} {L:List Gl},IsGls hb w lc L->IsGls hb w (lc++l) (L++[g])
 | lc,[],h=>by
  have h:lc=[]:=h
  subst h
  exact⟨l,[],by simp,hg,rfl⟩
 | lc,x::r,h=>by
  obtain⟨a,b,rfl,h1,h2⟩:=h
  exact⟨a,b++l,by simp,h1,IsGls.snoc hg h2⟩
theorem IsGl.len{hb:Nat}{w:World}{l:List Value}{g:Gl}(h:IsGl hb w l g):l.length=8:=by
 obtain⟨b0,b1,b2,b3,vv,rfl,-⟩:=h;rfl
theorem IsGls.at{hb:Nat}{w:World}:∀ {lc:List Value} {L:List Gl} (j:Nat) (hj:j<L.length),IsGls hb w lc L->IsGl hb w ((lc.drop (j*8)).take 8) L[j]
 | lc,g::r,0,_,h=>by
  obtain⟨a,b,rfl,h1,h2⟩:=h
  have:((a++b).drop (0*8)).take 8=a:=by rw[Nat.zero_mul,List.drop_zero,<- h1.len,List.take_left]
  rw[this];exact h1
 | lc,g::r,j+1,hj,h=>by
  obtain⟨a,b,rfl,h1,h2⟩:=h
  have h3:=IsGls.at j (by simpa using hj) h2
  have:(a++b).drop ((j+1)*8)=b.drop (j*8):=by
   rw[show(j+1)*8=a.length+j*8 by rw[h1.len];omega,<- List.drop_drop,List.drop_left]
  rw[this]
  exact h3
theorem IsGl.step{hb:Nat}{w w':World}{l:List Value}{g:Gl}(h:IsGl hb w l g)(h1:Keeps (fun b=>b<hb) 111 w w')(h2:Keeps (fun b=>b<hb) 40 w w')
  (h3:∀ b cs,¬ OwnOf w hb b->w.heap[b]?=some (.cells cs 3 (0,0))->¬ OwnOf w' hb b/\w'.heap[b]?=some (.cells cs 3 (0,0))):IsGl hb w' l g:=by
 obtain⟨b0,b1,b2,b3,vv,e,g1,g2,g3⟩:=h
 refine⟨b0,b1,b2,b3,vv,e,g1,fun ho=>(g2 ho).mono (fun _ h=>h) h1 h2,?_⟩
 rcases g3 with g3 | ⟨b,cs,q1,q2,q3,q4⟩
 ·exact .inl g3
 ·exact .inr ⟨b,cs,q1,(h3 b cs q2 q3).1,(h3 b cs q2 q3).2,q4⟩
theorem IsGls.step{hb:Nat}{w w':World}(h1:Keeps (fun b=>b<hb) 111 w w')(h2:Keeps (fun b=>b<hb) 40 w w')
  (h3:∀ b cs,¬ OwnOf w hb b->w.heap[b]?=some (.cells cs 3 (0,0))->¬ OwnOf w' hb b/\w'.heap[b]?=some (.cells cs 3 (0,0))):∀ {lc:List Value} {L:List Gl},IsGls hb w lc L->IsGls hb w' lc L
 | lc,[],h=>h
 | lc,g::r,h=>by
  obtain⟨a,b,e,q1,q2⟩:=h
  exact⟨a,b,e,q1.step h1 h2 h3,IsGls.step h1 h2 h3 q2⟩
structure WKx(w:World)(hb wb:Nat)(H:P.Hp)(bv:Value)(todo:Int)(L:List Gl)(B:List Ag)(lv kv vv nv:Value)(lc kc:List Value):Prop where
 h:RHp (fun _=>True) w hb H
 cell:w.heap[wb]?=some (.cells #[pp hb,bv,lv,zi todo,kv,vv,nv,zi 0] 85)
 ol:w.ownsRow (hb+1) 143 8 lv L.length lc
 ok:w.ownsRow (hb+1) 146 6 kv B.length kc
 gl:IsGls hb w lc L
 gk:IsAgs kc B
 lt:hb<wb
def WK(w:World)(hb wb:Nat)(H:P.Hp)(bv vv nv:Value)(todo:Int)(L:List Gl)(B:List Ag):Prop:=∃ lv kv lc kc,WKx w hb wb H bv todo L B lv kv vv nv lc kc
theorem WKx.table{w w':World}{hb wb:Nat}{H H':P.Hp}{bv:Value}{todo:Int}{L:List Gl}{B:List Ag}{lv kv vv nv:Value}{lc kc:List Value}(h:WKx w hb wb H bv todo L B lv kv vv nv lc kc)(hr:RHp (fun _=>True) w' hb H')(hf:HFr hb w w') :
  WKx w' hb wb H' bv todo L B lv kv vv nv lc kc:=by
 have kp:∀ {b:Nat} {cs:Array Value} {t:Nat} {z:Nat×Nat},w.heap[b]?=some (.cells cs t z)->(t≠93/\t≠5/\t≠9/\t≠2/\t≠83/\t≠3)->w'.heap[b]?=some (.cells cs t z):=
  fun hb' ht=>hf.fr.block _ _ hb' (h.h.ty hb' ht)
 have row:∀ {e size n:Nat} {v:Value} {xs:List Value},(e≠93/\e≠5/\e≠9/\e≠2/\e≠83/\e≠3)->w.ownsRow (hb+1) e size v n xs->w'.ownsRow (hb+1) e size v n xs:=by
  intro e size n v xs he ho
  refine⟨ho.1,?_⟩
  rcases ho.2 with h1 | ⟨g,cap,cur,q1,q2,q3,q4⟩
  ·exact .inl h1
  ·exact .inr ⟨g,cap,cur,q1,q2,kp q3 he,q4⟩
 exact⟨hr,kp h.cell (by decide),row (by decide) h.ol,row (by decide) h.ok,h.gl.step (fun _ _ _ hc=>kp hc (by decide)) (fun _ _ _ hc=>kp hc (by decide)) (fun b cs hn hc=>⟨hf.notOwn hn (ltOf hc),hf.fr.block _ _ hc hn⟩),h.gk,h.lt⟩
def Kp(wb:Nat)(w w':World)(lv kv lv' kv':Value):Prop:=∀ b o,w.heap[b]?=some o->b≠wb->lv.ownBlock≠some b->kv.ownBlock≠some b->w'.heap[b]?=some o/\lv'.ownBlock≠some b/\kv'.ownBlock≠some b
def WKk(w0:World)(lv0 kv0:Value)(w:World)(hb wb:Nat)(H:P.Hp)(bv vv nv:Value)(todo:Int)(L:List Gl)(B:List Ag):Prop:=∃ lv kv lc kc,WKx w hb wb H bv todo L B lv kv vv nv lc kc/\Kp wb w0 w lv0 kv0 lv kv
structure UpFr(hb:Nat)(w w':World):Prop extends FrM (fun b _=>hb≤b) w w' where
 own:hb<w.heap.size->∀ b,b<w.heap.size->OwnOf w' hb b->OwnOf w hb b
 keep:hb<w.heap.size->∀ b cs t z,w.heap[b]?=some (.cells cs t z)->¬ OwnOf w hb b->¬ GTy t->w'.heap[b]?=some (.cells cs t z)
theorem UpFr.trans{hb:Nat}{a b c:World}(h:UpFr hb a b)(k:UpFr hb b c):UpFr hb a c:=
 have hs:=h.toFrM.size
 ⟨h.toFrM.trans k.toFrM,fun hl x hx ho=>h.own hl x hx (k.own (by omega) x (by omega) ho),fun hl x cs t z hc hn ht=>k.keep (by omega) x cs t z (h.keep hl x cs t z hc hn ht) (fun ho=>hn (h.own hl x (ltOf hc) ho)) ht⟩
theorem FrM.toU{hb:Nat}{w w':World}(h:Ext w w'):UpFr hb w w':=
 ⟨h.toM,fun hl b hb' ho=>((HFr.ofExt h hl).own b ho).resolve_right (by omega),fun _ _ _ _ _ hc _ _=>h.ext _ _ hc⟩
theorem UpFr.refl(hb:Nat)(w:World):UpFr hb w w:=FrM.toU (FrM.refl _ _)
theorem UpFr.vars{hb:Nat}{w w':World}(h:UpFr hb w w')(hl:hb<w.heap.size){v:Value}{vs:List Value}(hv:IsSl (fun b=>¬ OwnOf w hb b) w 3 v vs):IsSl (fun b=>¬ OwnOf w' hb b) w' 3 v vs:=by
 rcases hv with hv | ⟨b,cs,q1,q2,q3,q4⟩
 ·exact .inl hv
 ·exact .inr ⟨b,cs,q1,fun ho=>q2 (h.own hl b (ltOf q3) ho),h.keep hl _ _ _ _ q3 q2 (by decide),q4⟩
theorem drewU{hb:Nat}{w:World}:UpFr hb w w.drew:=FrM.toU ((FrM.refl _ _).drew)
theorem UpFr.ofG{A:Nat->Prop}{hb:Nat}{w w':World}{H:P.Hp}(h:RHp A w hb H)(hf:GFr w w')(hu:FrM (fun b _=>hb≤b) w w'):UpFr hb w w':=
 ⟨hu,fun _ b _ ho=>(h.keepG hf).2 b ho,fun _ _ _ _ _ hc _ ht=>hf.keep hc ht⟩
section
variable{w w' w2 w3:World}{hb wb:Nat}{H:P.Hp}{bv:Value}{todo:Int}{L:List Gl}{B:List Ag}{lv kv vv nv:Value}{lc kc:List Value}
theorem WKx.ext(h:WKx w hb wb H bv todo L B lv kv vv nv lc kc)(hE:Ext w w'):WKx w' hb wb H bv todo L B lv kv vv nv lc kc:=h.table (h.h.ext hE) (HFr.ofExt hE h.h.lt)
theorem rowTy{base e size n g:Nat}{v:Value}{xs:List Value}(h:w.ownsRow base e size v n xs)(hg:v.ownBlock=some g){o:Obj}(ho:w.heap[g]?=some o):∃ cs,o = .cells cs e (0,0):=by
 rcases h.2 with⟨rfl,-⟩| ⟨g',cap,cur,rfl,h1,h2,-⟩
 ·cases hg
 ·simp only[Value.ownBlock,Option.some.injEq] at hg
  subst hg
  rw[h2] at ho
  injection ho with ho
  exact⟨_,ho.symm⟩
theorem WKx.own(h:WKx w hb wb H bv todo L B lv kv vv nv lc kc)(hf:GFr w w'){todo':Int}{lv' kv':Value}{L':List Gl}{B':List Ag}{lc' kc':List Value}(hc:w'.heap[wb]?=some (.cells #[pp hb,bv,lv',zi todo',kv',vv,nv,zi 0] 85))
  (hl:w'.ownsRow (hb+1) 143 8 lv' L'.length lc') (hk:w'.ownsRow (hb+1) 146 6 kv' B'.length kc') (gl:IsGls hb w lc' L') (gk:IsAgs kc' B'):WKx w' hb wb H bv todo' L' B' lv' kv' vv nv lc' kc':=by
 obtain⟨hr,ho⟩:=h.h.keepG hf
 exact⟨hr,hc,hl,hk,gl.step (fun _ _ _ hc=>hf.keep hc (by decide)) (fun _ _ _ hc=>hf.keep hc (by decide)) (fun b cs hn hc=>⟨fun hh=>hn (ho b hh),hf.keep hc (by decide)⟩),gk,h.lt⟩
theorem WKx.list(h:WKx w hb wb H bv todo L B lv kv vv nv lc kc){l:List Value}{g:Gl}(hg:IsGl hb w l g){v':Value}(ho:w2.ownsRow (hb+1) 143 8 v' (L.length+1) (lc++l))(hgr:w.grownBy w2 lv.ownBlock)
  (h3:w3=upd w2 wb (.cells #[pp hb,bv,v',zi todo,kv,vv,nv,zi 0] 85)) :
  WKx w3 hb wb H bv todo (L++[g]) B v' kv vv nv (lc++l) kc/\UpFr hb w w3/\w2.heap[wb]?=some (.cells #[pp hb,bv,lv,zi todo,kv,vv,nv,zi 0] 85):=by
 have lw:=ltOf h.cell
 have hlt:=h.lt
 have hne:lv.ownBlock≠some wb:=fun e=>by
  obtain⟨cs,h1⟩:=rowTy h.ol e h.cell
  injection h1 with _ h1 _
  exact absurd h1 (by decide)
 have hc2:w2.heap[wb]?=some (.cells #[pp hb,bv,lv,zi todo,kv,vv,nv,zi 0] 85):=by
  rw[hgr.block wb lw (fun e=>hne e.symm)];exact h.cell
 have lw2:=ltOf hc2
 have hf2:GFr w w2:=⟨hgr.os,hgr.tape,hgr.output,hgr.size,fun b o hb' hm=>by
  rw[hgr.block b (ltOf hb') (fun e=>hm ?_)]
  ·exact hb'
  ·obtain⟨cs,h1⟩:=rowTy h.ol e.symm hb'
   exact⟨cs,_,_,h1,.inl rfl⟩⟩
 have hf3:GFr w w3:=⟨by rw[h3];exact hf2.os,by rw[h3];exact hf2.tape,by rw[h3];exact hf2.output,by rw[h3,size_upd];exact hf2.size,fun b o hb' hm=>by
  have h1:=hf2.block b o hb' hm
  rw[h3,hp_upd_other (fun e=>hm ?_)]
  ·exact h1
  ·subst e
   rw[h.cell] at hb'
   injection hb' with hb'
   exact⟨_,_,_,hb'.symm,.inr (.inr rfl)⟩⟩
 have hup:UpFr hb w w3:=.ofG h.h hf3 ⟨hf3.os,hf3.tape,hf3.output,hf3.size,fun b o hb' hm=>by
  rw[h3,hp_upd_other (by omega),hgr.block b (ltOf hb') (fun e=>by have:=(h.ol.lt b e.symm).1;omega)];exact hb'⟩
 have hk2:w2.ownsRow (hb+1) 146 6 kv B.length kc:=by
  refine⟨h.ok.1,?_⟩
  rcases h.ok.2 with h1 | ⟨q,cap,cur,q1,q2,q3,q4⟩
  ·exact .inl h1
  ·refine .inr ⟨q,cap,cur,q1,q2,?_,q4⟩
   rw[hgr.block q (ltOf q3) (fun e=>?_)]
   ·exact q3
   ·obtain⟨cs,h1⟩:=rowTy h.ol e.symm q3
    injection h1 with _ h1 _
    exact absurd h1 (by decide)
 have rowU:∀ {e size n:Nat} {v:Value} {xs:List Value},e≠85->w2.ownsRow (hb+1) e size v n xs->w3.ownsRow (hb+1) e size v n xs:=by
  intro e size n v xs he hu
  refine⟨hu.1,?_⟩
  rcases hu.2 with h1 | ⟨q,cap,cur,q1,q2,q3,q4⟩
  ·exact .inl h1
  ·refine .inr ⟨q,cap,cur,q1,q2,?_,q4⟩
   rw[h3,hp_upd_other (fun e1=>?_)]
   ·exact q3
   ·subst e1
    rw[hc2] at q3
    injection q3 with q3
    injection q3 with _ q3 _
    exact he q3.symm
 refine⟨h.own hf3 (by rw[h3];exact hp_upd_same rfl lw2) ?_ (rowU (by decide) hk2) (h.gl.snoc hg) h.gk,hup,hc2⟩
 rw[List.length_append]
 exact rowU (by decide) ho
end
end Go.Proofs.YtilpjhceemaplaaGreatDoor
