/- A part of one proof (Sx3, Sx4, SxL, SxM, ShG, ShS1, SxN). -/
import Derived.Test.YtilpjhceemaplaaGreatDoorPkAAA
import Derived.WalkSpells
import Derived.Test.YtilpjhceemaplaaGreatDoorProg
import Derived.Laws.Pointers
import Derived.Laws.Cover3
import Derived.WideLaws
set_option linter.all false
set_option linter.unusedVariables false
set_option linter.unusedSimpArgs false
set_option maxRecDepth 100000
set_option maxHeartbeats 4000000
namespace Go.Proofs.YtilpjhceemaplaaGreatDoor.Sx
open Go
theorem rd_still{C:Cfg}{o:Oper}{a:Act}{e:Env}{w:World}{s:Sem Value}{next:Env->Prop}{next':Act->Prop}
  (hs:execOp a.eval o=(do pure (.value (<- s)))) (hn:∀ v,next (e.put o.dst v)->next' (a.put o.dst v))
  (h:RD C.P s w (bso C o fun v=>next (e.put o.dst v)) (fun _ _=>False)):o.still C.P a w next':=by
 unfold Oper.still
 rw[hs,run_value]
 unfold RD at h
 cases hr:s.run C.P w with
 | ok v w'=>
  rw[hr] at h
  obtain⟨rfl,h⟩:=h
  exact⟨rfl,bs_mono (K:=fun v=>next (e.put o.dst v)) (K':=fun v=>next' (a.put o.dst v)) (fun v hv=>hn v hv) h⟩
 | halt x w'=>
  rw[hr] at h
  cases x<;>exact h.elim
theorem pure_still{P:Program}{o:Oper}{a:Act}{w:World}{v:Value}{next':Act->Prop}
  (hs:execOp a.eval o=pure (.value v)) (h:next' (a.put o.dst v)):o.still P a w next':=by
 unfold Oper.still
 rw[hs]
 exact⟨rfl,h⟩
theorem stpS_sound{C:Cfg}(G:Good C){vs:List Nat}{o:Oper}{a:Act}{e:Env}{w:World}{next:Env->Prop}{next':Act->Prop}
  (hr:Rel vs a e) (hn:∀ v,next (e.put o.dst v)->next' (a.put o.dst v)) (h:stpS C o e w next):o.still C.P a w next':=by
 have he:=hr.eval
 unfold stpS at h
 split at h
 ·rename_i x ho
  exact pure_still (by rw[he];unfold execOp;rw[ho]) (hn _ h)
 ·rename_i x ho
  exact pure_still (by rw[he];unfold execOp;rw[ho]) (hn _ h)
 ·rename_i c x y ho
  split at h
  ·rename_i hc
   exact pure_still (v:=e.eval x) (by rw[he];unfold execOp;rw[ho];simp only[hc];rfl) (hn _ h)
  ·rename_i hc
   exact pure_still (v:=e.eval y) (by rw[he];unfold execOp;rw[ho];simp only[hc];rfl) (hn _ h)
  ·exact h.elim
 ·rename_i x ho
  obtain⟨h1,h2⟩:=nc_exec ho h
  exact pure_still (by rw[he];exact h1) (hn _ h2)
 ·rename_i k args tys ho
  split at h
  ·rename_i hk
   unfold Oper.still
   have:(execOp a.eval o).run C.P w = .ok (.enter k (evs e args)) w:=by
    rw[he]
    unfold execOp
    rw[ho]
    simp only[resolve,evs_eq,Env.eval,Deferred.ofValue,Array.empty_append]
    show(callFunc k (evs e args++#[])).run C.P w=_
    rw[Array.append_empty]
    exact callable_exec (G.calls k hk) _ _
   rw[this]
   obtain⟨v,h1,h2⟩:=h
   exact⟨rfl,v,h1,bs_mono (K:=fun v=>next (e.put o.dst v)) (K':=fun v=>next' (a.put o.dst v)) (fun v hv=>hn v hv) h2⟩
  ·exact h.elim
 ·split at h
  ·rename_i s hs
   exact rd_still (by rw[he];exact reading_exec hs) hn h
  ·exact h.elim
structure EAgr(us:List Nat)(n:Bool)(e e':Env):Prop where
 get:∀ i,i ∉ us->e'.f i=e.f i
 defs:n=true->e'.defers=e.defers
theorem EAgr.refl(vs:List Nat)(n:Bool)(a:Env):EAgr vs n a a:=⟨fun _ _=>rfl,fun _=>rfl⟩
theorem EAgr.trans{vs us:List Nat}{n m:Bool}{a b c:Env}(h:EAgr vs n a b)(k:EAgr us m b c):EAgr (vs++us) (n && m) a c:=
 ⟨fun i hi=>by simp only[List.mem_append,not_or] at hi;rw[k.get i hi.2,h.get i hi.1],fun e=>by
  simp only[Bool.and_eq_true] at e;rw[k.defs e.2,h.defs e.1]⟩
theorem EAgr.mono{vs us:List Nat}{n m:Bool}{a b:Env}(h:EAgr vs n a b)(hv:∀ i∈vs,i∈us)(hn:m=true->n=true):EAgr us m a b:=
 ⟨fun i hi=>h.get i fun hx=>hi (hv i hx),fun e=>h.defs (hn e)⟩
theorem setF_ne(f:Nat->Value){d i:Nat}(h:i≠d)(v:Value):setF f d v i=f i:=by
 unfold setF
 cases hb:Nat.beq i d
 ·rfl
 ·exact absurd (Nat.eq_of_beq_eq_true hb) h
theorem EAgr.put{vs:List Nat}{n:Bool}{a b:Env}(h:EAgr vs n a b){d:Option Nat}(hd:∀ t,d=some t->t∈vs)(v:Value):EAgr vs n a (b.put d v):=by
 cases d with
 | none=>exact h
 | some t=>
  refine⟨fun i hi=>?_,h.defs⟩
  have:i≠t:=by rintro rfl;exact hi (hd _ rfl)
  show setF b.f t v i=_
  rw[setF_ne _ this];exact h.get i hi
theorem EAgr.next{us:List Nat}{n:Bool}{a b b':Env}{o:Oper}(h:EAgr us n a b)(hd:∀ t,o.dst=some t->t∈us)(hn:n=true->isDefer o=false)
  (hb:∃ v,b'=b.put o.dst v\/∃ d,isDefer o=true/\b'=({ b with defers:=d::b.defers }:Env).put o.dst v):EAgr us n a b':=by
 obtain⟨v,rfl | ⟨d,hid,rfl⟩⟩:=hb
 ·exact h.put hd v
 ·have h':EAgr us n a { b with defers:=d::b.defers }:=⟨h.get,fun e=>by rw[hn e] at hid;cases hid⟩
  exact h'.put hd v
abbrev Po(vs us:List Nat)(n:Bool)(e0:Env)(Q:Exit->Env->World->Prop):Exit->Act->World->Prop:=fun x a' w'=>∃ e',Rel vs a' e'/\EAgr us n e0 e'/\Q x e' w'
theorem ops_sound{C:Cfg}(G:Good C){ops:Array Oper}{Q:Exit->Env->World->Prop}{vs us:List Nat}{n:Bool}{e0:Env}(hv:∀ i∈us,i∈vs):∀ (l:List Oper) (a:Act) (e:Env) (w:World),
  (∀ o∈l,∀ t,o.dst=some t->t∈us)->(n=true->∀ o∈l,isDefer o=false)->Rel vs a e->EAgr us n e0 e->wpcOps C ops Q l e w ->
  wpList C.P ops (Po vs us n e0 Q) l a w
 | [],a,e,w,_,_,hr,ha,h=>⟨e,hr,ha,h⟩
 | o::l,a,e,w,hd,hn,hr,ha,h=>by
  have ih:=fun a e w=>ops_sound G (ops:=ops) (Q:=Q) (vs:=vs) (us:=us) (n:=n) (e0:=e0) hv l a e w (fun o ho=>hd o (List.mem_cons_of_mem _ ho)) (fun e o ho=>hn e o (List.mem_cons_of_mem _ ho))
  have hd0:=hd o (List.mem_cons_self ..)
  unfold wpcOps at h
  unfold wpList
  rw[hr.yield]
  split at h
  ·rename_i hw
   rw[if_pos hw]
   exact .inl (stp_sound G hr (fun t ht=>hv t (hd0 t ht)) (fun e' a' w' hr' _ hb hx=>ih a' e' w' hr' (ha.next hd0 (fun e=>hn e o (List.mem_cons_self ..)) hb) hx) (fun ch w' hx=>⟨e,hr,ha,hx⟩) h)
  ·rename_i hw
   rw[if_neg (by simp [hw])]
   exact ih _ _ _ (hr.put (fun t ht=>hv t (hd0 t ht)) _) (ha.put hd0 _) h
theorem still_sound{C:Cfg}(G:Good C){ops:Array Oper}{w:World}{Q:Env->Prop}{vs us:List Nat}{n:Bool}{e0:Env}(hv:∀ i∈us,i∈vs):∀ (l:List Oper) (a:Act) (e:Env),
  (∀ o∈l,∀ t,o.dst=some t->t∈us)->Rel vs a e->EAgr us n e0 e->wpcStill C ops w Q l e ->
  wpStill C.P ops w (fun a'=>∃ e',Rel vs a' e'/\EAgr us n e0 e'/\Q e') l a
 | [],a,e,_,hr,ha,h=>⟨e,hr,ha,h⟩
 | o::l,a,e,hd,hr,ha,h=>by
  have ih:=fun a e=>still_sound G (ops:=ops) (w:=w) (Q:=Q) (vs:=vs) (us:=us) (n:=n) (e0:=e0) hv l a e (fun o ho=>hd o (List.mem_cons_of_mem _ ho))
  have hd0:=hd o (List.mem_cons_self ..)
  unfold wpcStill at h
  unfold wpStill
  rw[hr.yield]
  split at h
  ·rename_i hw
   rw[if_pos hw]
   exact stpS_sound G hr (fun v hx=>ih _ _ (hr.put (fun t ht=>hv t (hd0 t ht)) v) (ha.put hd0 v) hx) h
  ·rename_i hw
   rw[if_neg (by simp [hw])]
   exact ih _ _ (hr.put (fun t ht=>hv t (hd0 t ht)) _) (ha.put hd0 _) h
theorem dsts_mem(l:List Oper)(o:Oper)(ho:o∈l)(t:Nat)(ht:o.dst=some t):t∈dsts l:=by
 induction l with
 | nil=>cases ho
 | cons x l ih=>
  unfold dsts
  rcases List.mem_cons.1 ho with e | ho
  ·rw[<- e,ht];exact List.mem_cons_self ..
  ·have:=ih ho
   split
   ·exact List.mem_cons_of_mem _ this
   ·exact this
theorem nd_mem{l:List Oper}{n:Bool}(h:n=(l.all fun o=>!isDefer o)):n=true->∀ o∈l,isDefer o=false:=by
 intro e o ho
 rw[e] at h
 have:=List.all_eq_true.1 h.symm o ho
 simpa using this
theorem region_sound{C:Cfg}(G:Good C){id:Nat}{ops:Array Oper}{Q:Exit->Env->World->Prop}{vs:List Nat}{a:Act}{e:Env}{w:World}(hv:∀ i∈dsts ops.toList,i∈vs)(hr:Rel vs a e)(h:wpcOps C ops Q ops.toList e w) :
  (Code.region id ops false).wp C.P (Po vs (dsts ops.toList) (ops.toList.all fun o=>!isDefer o) e Q) a w:=
 wp_region_list (ops_sound G hv ops.toList a e w (dsts_mem _) (nd_mem rfl) hr (EAgr.refl _ _ _) h)
theorem draw_sound{C:Cfg}(G:Good C){id:Nat}{ops:Array Oper}{Q:Exit->Env->World->Prop}{vs:List Nat}{a:Act}{e:Env}{w:World}{n:Nat}(hv:∀ i∈dsts ops.toList,i∈vs)(hr:Rel vs a e)(hd:drawOk ops n=true)
  (h:wpcStill C ops w.drew (fun a'=>wpcOps C ops Q (ops.toList.drop n) a' w.drew) (ops.toList.take n) e) :
  (Code.region id ops true).wp C.P (Po vs (dsts ops.toList) (ops.toList.all fun o=>!isDefer o) e Q) a w:=by
 have h1:=still_sound G (us:=dsts ops.toList) (n:=ops.toList.all fun o=>!isDefer o) (e0:=e) hv (ops.toList.take n) a e (fun o ho=>dsts_mem _ o (List.mem_of_mem_take ho)) hr (EAgr.refl _ _ _) h
 unfold drawOk at hd
 have e:ops=ops.toList.toArray:=by simp
 split at hd
 ·rename_i hn
  refine wp_region_still G.mixed hd ?_
  have ht:ops.toList.take n=ops.toList:=List.take_of_length_le (by simp [hn])
  have hdp:ops.toList.drop n=[]:=List.drop_of_length_le (by simp [hn])
  rw[ht,hdp] at h1
  exact h1
 ·rw[e] at hd ⊢
  refine wp_region_still_tail n G.mixed hd ?_
  refine wpStill_mono (fun a' hx=>?_) _ _ h1
  obtain⟨e',hr',ha',hx⟩:=hx
  exact ops_sound G hv (ops.toList.drop n) a' e' _ (fun o ho=>dsts_mem _ o (List.mem_of_mem_drop ho)) (fun e o ho=>nd_mem rfl e o (List.mem_of_mem_drop ho)) hr' ha' hx
where
 wpStill_mono {P:Program} {ops:Array Oper} {w:World} {Q Q':Act->Prop} (hq:∀ a,Q a->Q' a):∀ (l:List Oper) (a:Act),wpStill P ops w Q l a->wpStill P ops w Q' l a
  | [],a,h=>hq a h
  | o::l,a,h=>by
   unfold wpStill at h ⊢
   split
   ·rename_i hw
    rw[if_pos hw] at h
    exact Oper.still_mono (fun a hx=>wpStill_mono hq l a hx) h
   ·rename_i hw
    rw[if_neg hw] at h
    exact wpStill_mono hq l _ h
theorem stpR_sound{C:Cfg}{vs:List Nat}{o:Oper}{a:Act}{e:Env}{S:World->Prop}{next:Env->Prop}{ops:Array Oper}(hr:Rel vs a e)(hw:Region.wanted o (yielded ops a.tmps)=true)(h:stpR C o e S next) :
  ∃ v,YieldsIf C.P ops S o v a/\next (e.put o.dst v):=by
 have he:=hr.eval
 unfold stpR at h
 split at h
 ·rename_i x ho
  exact⟨_,.inl ⟨hw,fun w _=>by rw[he];unfold execOp;rw[ho];rfl⟩,h⟩
 ·rename_i x ho
  exact⟨_,.inl ⟨hw,fun w _=>by rw[he];unfold execOp;rw[ho];rfl⟩,h⟩
 ·rename_i c x y ho
  split at h
  ·rename_i hc
   exact⟨e.eval x,.inl ⟨hw,fun w _=>by rw[he];unfold execOp;rw[ho];simp only[hc];rfl⟩,h⟩
  ·rename_i hc
   exact⟨e.eval y,.inl ⟨hw,fun w _=>by rw[he];unfold execOp;rw[ho];simp only[hc];rfl⟩,h⟩
  ·exact h.elim
 ·rename_i x ho
  obtain⟨h1,h2⟩:=nc_exec ho h
  exact⟨_,.inl ⟨hw,fun w _=>by rw[he,h1];rfl⟩,h2⟩
 ·split at h
  ·rename_i s hs
   obtain⟨v,h1,h2⟩:=h
   exact⟨v,.inl ⟨hw,fun w hS=>by rw[he,reading_exec hs,run_value,h1 w hS]⟩,bs_mono (K:=fun v=>next (e.put o.dst v)) (fun _ h=>h) h2⟩
  ·split at h
   ·rename_i s hs
    obtain⟨v,h1,h2⟩:=h
    exact⟨v,.inl ⟨hw,fun w hS=>by rw[he,writing_exec (pureW_writing hs),run_value,h1 w hS]⟩,h2⟩
   ·exact h.elim
abbrev NPA(Q:Exit->Act->World->Prop)(x:Exit)(a:Act)(w:World):Prop:=
 match x with
 | .panic _=>False
 | x=>Q x a w
theorem wpcH_sound{C:Cfg}(G:Good C){ops:Array Oper}{Q:Exit->Env->World->Prop}{S:World->Prop}{m:Option Nat}{vs us:List Nat}{n:Bool}{e0:Env}(hv:∀ i∈us,i∈vs)(hsel:Region.noSelect ops=true)
  (hd:∀ (i:Nat) (o:Oper),ops[i]?=some o->∀ t,o.dst=some t->t∈us) (hn:n=true->∀ (i:Nat) (o:Oper),ops[i]?=some o->isDefer o=false) :
  ∀ (l:List Nat) (listed:Array Bool) (a:Act) (e:Env) (w:World),Rel vs a e->EAgr us n e0 e->(liveS m listed=true->S w)->wpcH C ops Q S m l listed e w ->
   wpAnyG C.P .any ops (NPA (Po vs us n e0 Q)) S m l.length listed a w
 | [],listed,a,e,w,hr,ha,hS,h=>by
  unfold wpcH at h
  split at h
  ·rename_i hrd
   exact⟨hrd,e,hr,ha,h⟩
  ·exact h.elim
 | i::l,listed,a,e,w,hr,ha,hS,h=>by
  have ih:=wpcH_sound G (Q:=Q) (S:=S) (m:=m) (vs:=vs) (us:=us) (n:=n) (e0:=e0) hv hsel hd hn l
  unfold wpcH at h
  split at h
  ·exact h.elim
  ·rename_i o ho
   have hd0:=hd i o ho
   have hput:∀ v,Rel vs (a.put o.dst v) (e.put o.dst v):=fun v=>hr.put (fun t ht=>hv t (hd0 t ht)) v
   have hag:∀ v,EAgr us n e0 (e.put o.dst v):=fun v=>ha.put hd0 v
   rw[<- hr.yield] at h
   split at h
   ·rename_i hrd
    have hrd:Region.ready .any ops listed=[i]:=by simpa using hrd
    refine⟨fun h0=>(by rw[hrd] at h0;cases h0),fun j hj=>?_⟩
    have hjun:=(mem_ready.1 hj).1
    rw[hrd] at hj
    have:j=i:=by simpa using hj
    subst this
    have hlv:liveS m (listed.setIfInBounds j true)=true->liveS m listed=true:=fun h0=>by
     cases m with
     | none=>rfl
     | some m=>
      simp only[liveS,Bool.not_eq_true'] at h0 ⊢
      by_cases hjm:j=m
      ·subst hjm;exact hjun
      ·rw[getD_set_ne true hjm] at h0;exact h0
    unfold wpOp
    rw[ho]
    dsimp only
    split at h
    ·rename_i hw
     rw[if_neg (by simp [hw])]
     exact⟨fun h0=>hS (hlv h0),ih _ _ _ _ (hput _) (hag _) (fun h0=>hS (hlv h0)) h⟩
    ·rename_i hw
     rw[if_pos hw]
     refine .inl ?_
     split at h
     ·refine Oper.wp_of_still (K:=fun a'=>(liveS m (listed.setIfInBounds j true)=true->S w)/\wpAnyG C.P .any ops (NPA (Po vs us n e0 Q)) S m l.length (listed.setIfInBounds j true) a' w) (fun _ h=>h) (stpS_sound G hr (fun v hx=>?_) h)
      exact⟨fun h0=>hS (hlv h0),ih _ _ _ _ (hput _) (hag _) (fun h0=>hS (hlv h0)) hx⟩
     ·split at h
      ·exact stp_sound G hr (fun t ht=>hv t (hd0 t ht)) (fun e' a' w' hr' _ hb hx=>⟨fun _=>hx.1,ih _ _ _ _ hr' (ha.next hd0 (fun e=>hn e j o ho) hb) (fun _=>hx.1) hx.2⟩) (fun ch w' hx=>hx.elim) h
      ·rename_i hl0
       have hl0:¬ liveS m (listed.setIfInBounds j true)=true:=by rw[hl0];decide
       exact stp_sound G hr (fun t ht=>hv t (hd0 t ht)) (fun e' a' w' hr' _ hb hx=>⟨fun h0=>absurd h0 hl0,ih _ _ _ _ hr' (ha.next hd0 (fun e=>hn e j o ho) hb) (fun h0=>absurd h0 hl0) hx⟩) (fun ch w' hx=>hx.elim) h
   ·split at h
    ·exact h.elim
    ·rename_i hc
     simp only[Bool.and_eq_true] at hc
     have hmem:i∈Region.ready .any ops listed:=by simpa using hc.1.1
     have hfree:=Region.free_spec ho hc.1.2
     obtain⟨c1,c2,c3⟩:=mayFirst_spec hc.2
     split at h
     ·rename_i hw
      exact wpAnyG_first ho (Region.noSelect_spec hsel) (fun c a w h=>h) c1 l.length listed a w hfree c2 hmem (.inr ⟨hw,rfl⟩) (hS c3) (ih _ _ _ _ (hput _) (hag _) (fun _=>hS c3) h)
     ·rename_i hw
      obtain⟨v,hy,hx⟩:=stpR_sound (ops:=ops) hr hw h
      exact wpAnyG_first ho (Region.noSelect_spec hsel) (fun c a w h=>h) c1 l.length listed a w hfree c2 hmem hy (hS c3) (ih _ _ _ _ (hput _) (hag _) (fun _=>hS c3) hx)
theorem held_sound{C:Cfg}(G:Good C){id:Nat}{ops:Array Oper}{Q:Exit->Env->World->Prop}{vs:List Nat}{a:Act}{e:Env}{w:World}{m:Nat}{ord:List Nat}(hv:∀ i∈dsts ops.toList,i∈vs)(hr:Rel vs a e)(hl:(ord.length == ops.size && Region.noSelect ops)=true)
  (h:HD fun S=>S w.drew/\wpcH C ops Q S (syn m) ord (Array.replicate ops.size false) e w.drew) :
  (Code.region id ops true).wp C.P (Po vs (dsts ops.toList) (ops.toList.all fun o=>!isDefer o) e Q) a w:=by
 simp only[Bool.and_eq_true,beq_iff_eq] at hl
 obtain⟨S,hS,h⟩:=h
 have hm:∀ (i:Nat) (o:Oper),ops[i]?=some o->o∈ops.toList:=fun i o ho=>by
  have:=Array.mem_of_getElem? ho
  simpa using this
 have h1:=wpcH_sound G (us:=dsts ops.toList) (n:=ops.toList.all fun o=>!isDefer o) (e0:=e) hv hl.2 (fun i o ho t ht=>dsts_mem _ o (hm i o ho) t ht) (fun e i o ho=>nd_mem rfl e o (hm i o ho)) ord _ a e _ hr (EAgr.refl _ _ _) (fun _=>hS) h
 rw[hl.1] at h1
 refine wp_mono (wp_region_any G.mixed (wpAny_of_G _ _ _ _ h1)) fun x a' w' hq=>?_
 cases x<;>first | exact hq | exact hq.elim
theorem memB_iff(i:Nat):∀ l:List Nat,memB i l=true↔i∈l
 | []=>by simp [memB]
 | j::r=>by
  unfold memB
  cases hb:Nat.beq i j
  ·rw[cond_false,memB_iff i r,List.mem_cons]
   have:i≠j:=fun e=>by subst e;simp at hb
   simp [this]
  ·rw[cond_true]
   have:i=j:=Nat.eq_of_beq_eq_true hb
   simp [this]
theorem fr_self{a a':Env}{vs:List Nat}(h:EAgr vs true a a')(live:List Nat) :
  fr a vs live (sOf (vals a' live)) a'.f=a':=by
 have hs:∀ (l:List Nat) (i:Nat),i∈l->sOf (vals a' l) i=a'.f i:=by
  intro l i
  induction l with
  | nil=>intro hx;cases hx
  | cons j r ih=>
   intro hx
   simp only[vals,List.map_cons,sOf]
   by_cases e:j=i
   ·subst e;simp
   ·rw[if_neg e]
    rcases List.mem_cons.1 hx with hx | hx
    ·exact absurd hx.symm e
    ·exact ih hx
 have hdf:=h.defs rfl
 cases a' with
 | mk f' df=>
 cases a with
 | mk f0 df0=>
 simp only at hdf hs
 subst hdf
 simp only[fr]
 congr 1
 funext i
 unfold frF
 cases h1:memB i live
 ·rw[cond_false]
  cases h2:memB i vs
  ·rw[cond_false]
   exact(h.get i fun hx=>by rw[<- memB_iff] at hx;rw[hx] at h2;cases h2).symm
  ·rw[cond_true]
 ·rw[cond_true]
  exact hs live i ((memB_iff i live).1 h1)
theorem bsl_sound{K:Env->Prop}:∀ (l:List Nat) (a:Env),bsl l a K->K a
 | [],_,h=>h
 | i::r,a,h=>by
  have key:∀ c:Bool,a.f i = .bool c->a.put (some i) (.bool c)=a:=by
   intro c hc
   cases a with
   | mk f df=>
   simp only at hc
   simp only[Env.put]
   congr 1
   funext j
   by_cases e:j=i
   ·subst e
    unfold setF
    cases hb:Nat.beq j j
    ·rfl
    ·exact hc.symm
   ·exact setF_ne _ e _
  unfold bsl BS at h
  split at h
  ·rename_i c hc
   cases c
   ·have:=bsl_sound r _ (h.2 rfl);rwa [key _ hc] at this
   ·have:=bsl_sound r _ (h.1 rfl);rwa [key _ hc] at this
  ·exact h.elim
theorem po_mono{vs us us':List Nat}{n n':Bool}{e0:Env}{Q:Exit->Env->World->Prop}{x:Exit}{a:Act}{w:World}(h:Po vs us n e0 Q x a w)(hv:∀ i∈us,i∈us')(hn:n'=true->n=true):Po vs us' n' e0 Q x a w:=by
 obtain⟨e,h1,h2,h3⟩:=h
 exact⟨e,h1,h2.mono hv hn,h3⟩
theorem wpc_sound{C:Cfg}(G:Good C){vs:List Nat}:∀ (c:Code) (Q:Exit->Env->World->Prop) (a:Act) (e:Env) (w:World),(∀ i∈wr c,i∈vs)->Rel vs a e->wpc C c Q e w ->
  c.wp C.P (Po vs (wr c) (nd c) e Q) a w
 | .skip,Q,a,e,w,hv,hr,h=>wp_skip ⟨e,hr,EAgr.refl _ _ _,h⟩
 | .region id ops draw,Q,a,e,w,hv,hr,h=>by
  unfold wpc at h
  cases draw with
  | false=>exact region_sound G hv hr h
  | true=>
   dsimp only at h
   split at h
   ·exact h.elim
   ·split at h
    ·rename_i hl;exact held_sound G hv hr hl h
    ·exact h.elim
   ·split at h
    ·rename_i hd;exact draw_sound G hv hr hd h
    ·exact h.elim
 | .seq x y,Q,a,e,w,hv,hr,h=>by
  have hvx:∀ i∈wr x,i∈vs:=fun i hi=>hv i (List.mem_append.2 (.inl hi))
  have hvy:∀ i∈wr y,i∈vs:=fun i hi=>hv i (List.mem_append.2 (.inr hi))
  have hndx:nd (.seq x y)=true->nd x=true:=fun e=>by simp only[nd,Bool.and_eq_true] at e;exact e.1
  unfold wpc at h
  split at h
  ·refine wp_seq (wp_mono (wpc_sound G x _ a e w hvx hr h) fun z a' w' hq=>?_)
   obtain⟨e',hr',ha',hq⟩:=hq
   cases z with
   | normal=>
    refine wp_mono (wpc_sound G y Q a' e' w' hvy hr' hq) fun z a'' w'' hq2=>?_
    obtain⟨e'',hr'',ha'',hq2⟩:=hq2
    exact⟨e'',hr'',ha'.trans ha'',hq2⟩
   | _=>exact⟨e',hr',ha'.mono (fun i hi=>List.mem_append.2 (.inl hi)) hndx,hq⟩
  ·rename_i live hj
   split at h
   ·rename_i hnd
    split at h
    ·unfold JN at h
     refine wp_seq (wp_mono (wpc_sound G x _ a e w hvx hr h) fun z a' w' hq=>?_)
     obtain⟨e',hr',ha',hq⟩:=hq
     cases z with
     | normal=>
      have ha2:=ha'
      rw[hnd] at ha2
      have hq:=hq e'.f
      have hq:=bsl_sound _ _ hq
      rw[fr_self ha2 live] at hq
      refine wp_mono (wpc_sound G y Q a' e' w' hvy hr' hq) fun z a'' w'' hq2=>?_
      obtain⟨e'',hr'',ha'',hq2⟩:=hq2
      exact⟨e'',hr'',ha'.trans ha'',hq2⟩
     | _=>exact⟨e',hr',ha'.mono (fun i hi=>List.mem_append.2 (.inl hi)) hndx,hq⟩
    ·unfold JS at h
     obtain⟨J,h,hJ⟩:=h
     refine wp_seq (wp_mono (wpc_sound G x _ a e w hvx hr h) fun z a' w' hq=>?_)
     obtain⟨e',hr',ha',hq⟩:=hq
     cases z with
     | normal=>
      have ha2:=ha'
      rw[hnd] at ha2
      have hq:=hJ _ _ hq e'.f
      have hq:=bsl_sound _ _ hq
      rw[fr_self ha2 live] at hq
      refine wp_mono (wpc_sound G y Q a' e' w' hvy hr' hq) fun z a'' w'' hq2=>?_
      obtain⟨e'',hr'',ha'',hq2⟩:=hq2
      exact⟨e'',hr'',ha'.trans ha'',hq2⟩
     | _=>exact⟨e',hr',ha'.mono (fun i hi=>List.mem_append.2 (.inl hi)) hndx,hq⟩
   ·exact h.elim
 | .cond c x y,Q,a,e,w,hv,hr,h=>by
  have ht:a.eval c = .bool true->wpc C x Q e w->(Code.cond c x y).wp C.P (Po vs (wr (.cond c x y)) (nd (.cond c x y)) e Q) a w:=fun hc h=>
   wp_cond_true hc (wp_mono (wpc_sound G x Q a e w (fun i hi=>hv i (List.mem_append.2 (.inl hi))) hr h) fun z a' w' hq=>po_mono hq (fun i hi=>List.mem_append.2 (.inl hi)) (fun e=>by simp only[nd,Bool.and_eq_true] at e;exact e.1))
  have hf:a.eval c = .bool false->wpc C y Q e w->(Code.cond c x y).wp C.P (Po vs (wr (.cond c x y)) (nd (.cond c x y)) e Q) a w:=fun hc h=>
   wp_cond_false hc (wp_mono (wpc_sound G y Q a e w (fun i hi=>hv i (List.mem_append.2 (.inr hi))) hr h) fun z a' w' hq=>po_mono hq (fun i hi=>List.mem_append.2 (.inr hi)) (fun e=>by simp only[nd,Bool.and_eq_true] at e;exact e.2))
  unfold wpc at h
  rw[<- hr.eval] at h
  split at h
  ·unfold BS at h
   split at h
   ·rename_i b hb
    cases b with
    | true=>exact ht hb (h.1 rfl)
    | false=>exact hf hb (h.2 rfl)
   ·exact h.elim
  ·split at h
   ·rename_i hc;exact ht hc h
   ·rename_i hc;exact hf hc h
   ·exact h.elim
 | .block id c,Q,a,e,w,hv,hr,h=>by
  unfold wpc at h
  refine wp_block (wp_mono (wpc_sound G c _ a e w hv hr h) fun z a' w' hq=>?_)
  obtain⟨e',hr',ha',hq⟩:=hq
  cases z with
  | exit id'=>
   unfold inBlockE at hq
   dsimp only at hq
   cases hb:Nat.beq id' id with
   | true=>
    rw[hb] at hq
    have e1:id'=id:=Nat.eq_of_beq_eq_true hb
    simp only[Exit.inBlock,if_pos e1]
    exact⟨e',hr',ha',hq⟩
   | false=>
    rw[hb] at hq
    have e1:¬ id'=id:=fun e=>by subst e;simp at hb
    simp only[Exit.inBlock,if_neg e1]
    exact⟨e',hr',ha',hq⟩
  | _=>exact⟨e',hr',ha',hq⟩
 | .exit id,Q,a,e,w,hv,hr,h=>wp_exit ⟨e,hr,EAgr.refl _ _ _,h⟩
 | .ret,Q,a,e,w,hv,hr,h=>wp_ret ⟨e,hr,EAgr.refl _ _ _,h⟩
 | .loop c,Q,a,e,w,hv,hr,h=>by
  unfold wpc at h
  split at h
  ·rename_i hnd
   obtain⟨I,⟨n0,h0⟩,hro⟩:=h
   refine wp_loop_ghost (fun n a' w'=>∃ e',Rel vs a' e'/\EAgr (wr c) true e e'/\I n (sOf (vals e' (C.live (firstReg c)))) w') ⟨n0,e,hr,EAgr.refl _ _ _,h0⟩ ?_
   rintro n a1 w1 ⟨e1,hr1,ha1,hi⟩
   have h4:=hro n _ e1.f w1 hi
   have h4:=bsl_sound _ _ h4
   rw[fr_self ha1] at h4
   refine wp_mono (wpc_sound G c _ a1 e1 w1 hv hr1 h4) fun z a' w' hq=>?_
   obtain⟨e',hr',ha',hq⟩:=hq
   rw[hnd] at ha'
   have hag:EAgr (wr c) true e e':=(ha1.trans ha').mono (fun i hi=>by rcases List.mem_append.1 hi with h | h<;>exact h) (fun e=>by simp)
   cases z with
   | normal=>
    obtain⟨m,hm,hi⟩:=hq
    exact⟨m,hm,e',hr',hag,hi⟩
   | _=>exact⟨e',hr',hag.mono (fun i hi=>hi) (fun _=>rfl),hq⟩
  ·exact h.elim
 | .rangeFunc _ _ _ _,_,_,_,_,_,_,h=>h.elim
 | .scope c,Q,a,e,w,hv,hr,h=>by
  unfold wpc at h
  refine wp_scope_straight (wp_mono (wpc_sound G c _ a e w hv hr h) fun z a' w' hq=>?_)
  obtain⟨e',hr',ha',hq⟩:=hq
  cases z with
  | goto l=>exact hq.elim
  | _=>exact⟨e',hr',ha',hq⟩
 | .label l,Q,a,e,w,hv,hr,h=>wp_label ⟨e,hr,EAgr.refl _ _ _,h⟩
 | .goto _,_,_,_,_,_,_,h=>h.elim
 | .refuse _,_,_,_,_,_,_,h=>h.elim
def resW(P:Program):List ResultVar->Array Value->World->List Value->(List Value->Prop)->Prop
 | [],_,_,acc,K=>K acc
 | .tmp t::rs,tm,w,acc,K=>resW P rs tm w (acc++[tm.getD t undef]) K
 | .cell a t::rs,tm,w,acc,K=>RD P (Instr.loadAt t (tm.getD a undef)) w (fun v=>resW P rs tm w (acc++[v]) K) (fun _ _=>False)
def one:List Value->Value
 | [v]=>v
 | l=>.tuple l.toArray
def resOne(tm:Array Value):ResultVar->Sem Value
 | .tmp t=>pure (tm.getD t undef)
 | .cell a t=>do loadVar t (<- asAddr (tm.getD a undef))
theorem resW_run{P:Program}{tm:Array Value}{w:World}:∀ (l:List ResultVar) (acc:List Value) (K:List Value->Prop),resW P l tm w acc K ->
  ∃ vs,(l.mapM (resOne tm)).run P w=Result.ok vs w/\K (acc++vs)
 | [],acc,K,h=>⟨[],rfl,by simpa [resW] using h⟩
 | .tmp t::l,acc,K,h=>by
  obtain⟨vs,h1,h2⟩:=resW_run l _ K h
  refine⟨tm.getD t undef::vs,?_,by simpa using h2⟩
  rw[List.mapM_cons]
  simp only[resOne,Sem.run_bind,Sem.run_pure,Result.andThen_ok]
  rw[h1]
  rfl
 | .cell a t::l,acc,K,h=>by
  unfold resW RD at h
  cases hr:(Instr.loadAt t (tm.getD a undef)).run P w with
  | halt x w'=>rw[hr] at h;cases x<;>exact h.elim
  | ok v w'=>
   rw[hr] at h
   obtain⟨rfl,h⟩:=h
   obtain⟨vs,h1,h2⟩:=resW_run l _ K h
   refine⟨v::vs,?_,by simpa using h2⟩
   rw[List.mapM_cons]
   have e:(resOne tm (.cell a t)).run P w' = .ok v w':=by
    rw[<- hr]
    show(do loadVar t (<- asAddr (tm.getD a undef)):Sem Value).run P w'=_
    unfold Instr.loadAt
    generalize tm.getD a undef=u at *
    unfold Instr.loadAt at hr
    cases u with
    | pointer p=>
     cases p with
     | none=>simp only[Sem.run_bind] at hr;cases hr
     | some p=>rfl
    | _=>simp only[Sem.run_bind] at hr;cases hr
   rw[Sem.run_bind]
   rw[e]
   simp only[Sem.run_bind,Sem.run_pure,Result.andThen_ok]
   rw[h1]
   rfl
theorem results_of{P:Program}{fn:Func}{tm:Array Value}{w:World}{K:List Value->Prop}(h:resW P fn.results.toList tm w [] K) :
  ∃ l,(results fn tm).run P w = .ok (one l) w/\K l:=by
 obtain⟨vs,h1,h2⟩:=resW_run _ _ _ h
 refine⟨vs,?_,by simpa using h2⟩
 unfold results
 show(Sem.bind (fn.results.mapM (resOne tm)) fun vs=>pure (if h:vs.size=1 then vs[0] else .tuple vs)).run P w=_
 rw[Sem.run_bind',Array.mapM_eq_mapM_toList]
 simp only[Sem.run_map]
 rw[h1]
 simp only[Result.andThen_ok,Sem.run_pure]
 congr 1
 unfold one
 split
 ·rename_i hs
  match vs,hs with
  | [v],_=>rfl
 ·rename_i hs
  match vs,hs with
  | [],_=>rfl
  | [v],h=>exact absurd rfl h
  | _::_::_,_=>rfl
def resE(P:Program):List ResultVar->(Nat->Value)->World->List Value->(List Value->Prop)->Prop
 | [],_,_,acc,K=>K acc
 | .tmp t::rs,f,w,acc,K=>resE P rs f w (acc++[f t]) K
 | .cell a t::rs,f,w,acc,K=>RD P (Instr.loadAt t (f a)) w (fun v=>resE P rs f w (acc++[v]) K) (fun _ _=>False)
theorem resE_W{P:Program}{tm:Array Value}{f:Nat->Value}(h:∀ i,tm.getD i undef=f i)(w:World):∀ (l:List ResultVar) (acc:List Value) (K:List Value->Prop),resE P l f w acc K->resW P l tm w acc K
 | [],acc,K,hk=>hk
 | .tmp t::l,acc,K,hk=>by
  unfold resE at hk
  unfold resW
  rw[h]
  exact resE_W h w l _ K hk
 | .cell a t::l,acc,K,hk=>by
  unfold resE RD at hk
  unfold resW RD
  rw[h]
  cases hr:(Instr.loadAt t (f a)).run P w with
  | ok v w'=>rw[hr] at hk;exact⟨hk.1,resE_W h w l _ K hk.2⟩
  | halt x w'=>rw[hr] at hk;cases x<;>exact hk
def bodyQ(P:Program)(fn:Func)(R:Ending->World->Prop):Exit->Env->World->Prop
 | .normal,a,w | .ret,a,w=>resE P fn.results.toList a.f w [] fun l=>R (.returned (one l)) w
 | .panic ch,_,w=>R (.panicked ch) w
 | _,_,_=>False
def iniF:List Value->Nat->Value
 | [],_=>undef
 | v::_,0=>v
 | _::r,i+1=>iniF r i
def ini(args:List Value):Env:={ f:=iniF args,defers:=[] }
theorem iniF_get:∀ (l:List Value) (i:Nat),iniF l i=l.getD i undef
 | [],i=>by simp [iniF]
 | v::r,0=>rfl
 | v::r,i+1=>by
  unfold iniF
  rw[iniF_get r i]
  simp
theorem ini_rel{n:Nat}{args:List Value}{vs:List Nat}(hv:vs.all (fun i=>decide (i<n))=true)(ha:args.length≤n) :
  Rel vs { tmps:=args.toArray++Array.replicate (n-args.toArray.size) undef,defers:=[] } (ini args):=by
 refine⟨fun i=>?_,rfl,fun i hi=>?_⟩
 ·show _=iniF args i
  rw[iniF_get]
  simp only[Array.getD_eq_getD_getElem?,List.getD_eq_getElem?_getD,Array.getElem?_append]
  by_cases h:i<args.length
  ·simp [h]
  ·have h2:¬ i<args.toArray.size:=by simpa using h
   rw[if_neg h2,List.getElem?_eq_none (by omega),Array.getElem?_replicate]
   split<;>rfl
 ·have:=List.all_eq_true.1 hv i hi
  simp only[decide_eq_true_eq] at this
  simp
  omega
theorem calls{C:Cfg}(G:Good C){f:FuncId}{fn:Func}{c:Code}{args:List Value}{w:World}{R:Ending->World->Prop}(hf:C.P.funcs[f]?=some fn)(hb:fn.body=some c)
  (hn:nd c=true) (hv:((wr c).all fun i=>decide (i<fn.ntmps))=true) (ha:args.length≤fn.ntmps) (h:wpc C c (bodyQ C.P fn R) (ini args) w):Calls C.P f args.toArray w R:=by
 refine calls_of_wp hf hb (wp_mono (wpc_sound G c _ _ (ini args) w (fun i hi=>hi) (ini_rel hv ha) h) fun e a' w' hq=>?_)
 obtain⟨e',h0,h1,h2⟩:=hq
 have hd:a'.defers=[]:=by rw[h0.defs];exact h1.defs hn
 cases e with
 | normal=>obtain⟨l,h3,h4⟩:=results_of (resE_W h0.get w' _ _ _ h2);exact⟨hd,_,h3,h4⟩
 | ret=>obtain⟨l,h3,h4⟩:=results_of (resE_W h0.get w' _ _ _ h2);exact⟨hd,_,h3,h4⟩
 | panic ch=>exact⟨hd,h2⟩
 | _=>exact h2.elim
def LV(P:Program)(res:World->Prop)(R:Ending->World->Prop):List Deferred->FrameMode->World->Prop
 | [],.returning,w=>res w
 | [],.panicking chain,w=>R (.panicked chain) w
 | [],.run,_=>False
 | d::ds,u,w=>u≠.run/\∃ fv cap f args,d.target = .fn fv cap/\(invoke d.target d.args).run P w = .ok (.enter f args) w /\
  CallsD P f args u w fun
   | .returned _,u',w'=>LV P res R ds (settle u') w'
   | .panicked chain,u',w'=>LV P res R ds (raised u' chain) w'
   | .outgrown,_,_=>False
theorem CallsD.mono{P:Program}{f:FuncId}{args:Array Value}{u:FrameMode}{w:World}{R R':Ending->FrameMode->World->Prop}(h:CallsD P f args u w R)
  (hr:∀ e u w,R e u w->R' e u w):CallsD P f args u w R':=
 fun c cs hc=>let ⟨e,u',w',fr,h1,h2⟩:=h c cs hc;⟨e,u',w',fr,hr _ _ _ h1,h2⟩
theorem lv_leaves{P:Program}{fn:Func}{tm:Array Value}{f:Nat->Value}(hf:∀ i,tm.getD i undef=f i){R:Ending->World->Prop}:∀ (ds:List Deferred) (u:FrameMode) (w:World),
  LV P (fun w=>resE P fn.results.toList f w [] fun l=>R (.returned (one l)) w) R ds u w->Leaves P fn tm R ds u w
 | [],.returning,w,h=>by obtain⟨l,h1,h2⟩:=results_of (resE_W hf w _ _ _ h);exact⟨_,h1,h2⟩
 | [],.panicking _,w,h=>h
 | [],.run,w,h=>h.elim
 | d::ds,u,w,h=>by
  obtain⟨h1,fv,cap,f,args,h2,h3,h4⟩:=h
  refine⟨h1,fv,cap,f,args,h2,h3,CallsD.mono h4 fun e u' w' he=>?_⟩
  cases e with
  | returned v=>exact lv_leaves hf ds _ _ he
  | panicked ch=>exact lv_leaves hf ds _ _ he
  | outgrown=>exact he.elim
def bodyQD(P:Program)(fn:Func)(R:Ending->World->Prop):Exit->Env->World->Prop
 | .normal,a,w | .ret,a,w=>LV P (fun w=>resE P fn.results.toList a.f w [] fun l=>R (.returned (one l)) w) R a.defers .returning w
 | .panic ch,a,w=>LV P (fun w=>resE P fn.results.toList a.f w [] fun l=>R (.returned (one l)) w) R a.defers (.panicking ch) w
 | _,_,_=>False
theorem callsD{C:Cfg}(G:Good C){f:FuncId}{fn:Func}{c:Code}{args:List Value}{w:World}{R:Ending->World->Prop}(hf:C.P.funcs[f]?=some fn)(hb:fn.body=some c)
  (hv:((wr c).all fun i=>decide (i<fn.ntmps))=true) (ha:args.length≤fn.ntmps) (h:wpc C c (bodyQD C.P fn R) (ini args) w):Calls C.P f args.toArray w R:=by
 refine calls_of_wp_defers hf hb (wp_mono (wpc_sound G c _ _ (ini args) w (fun i hi=>hi) (ini_rel hv ha) h) fun e a' w' hq=>?_)
 obtain⟨e',h0,h1,h2⟩:=hq
 cases e with
 | normal=>show Leaves _ _ _ _ _ _ _;rw[h0.defs];exact lv_leaves h0.get _ _ _ h2
 | ret=>show Leaves _ _ _ _ _ _ _;rw[h0.defs];exact lv_leaves h0.get _ _ _ h2
 | panic ch=>show Leaves _ _ _ _ _ _ _;rw[h0.defs];exact lv_leaves h0.get _ _ _ h2
 | _=>exact h2.elim
theorem callsEq{C:Cfg}(G:Good C){f:FuncId}{fn:Func}{c:Code}{args:List Value}{w:World}{R:Ending->World->Prop}{S:Prop}(hf:C.P.funcs[f]?=some fn)(hb:fn.body=some c)
  (hn:nd c=true) (hv:((wr c).all fun i=>decide (i<fn.ntmps))=true) (ha:args.length≤fn.ntmps) (bp:List Nat) (he:bsl bp (ini args) (fun a=>wpc C c (bodyQ C.P fn R) a w)=S) (h:S):Calls C.P f args.toArray w R:=
 calls G hf hb hn hv ha (bsl_sound bp _ (he ▸ h))
theorem callsEqD{C:Cfg}(G:Good C){f:FuncId}{fn:Func}{c:Code}{args:List Value}{w:World}{R:Ending->World->Prop}{S:Prop}(hf:C.P.funcs[f]?=some fn)(hb:fn.body=some c)
  (hv:((wr c).all fun i=>decide (i<fn.ntmps))=true) (ha:args.length≤fn.ntmps) (bp:List Nat) (he:bsl bp (ini args) (fun a=>wpc C c (bodyQD C.P fn R) a w)=S) (h:S):Calls C.P f args.toArray w R:=
 callsD G hf hb hv ha (bsl_sound bp _ (he ▸ h))
theorem lv_call{P:Program}{res:World->Prop}{R:Ending->World->Prop}{k:FuncId}{cap args:Array Value}{ds:List Deferred}{u:FrameMode}{w:World}(hk:callable P k=true)(hu:u≠.run)
  (h:CallsD P k (args++cap) u w fun
   | .returned _,u',w'=>LV P res R ds (settle u') w'
   | .panicked chain,u',w'=>LV P res R ds (raised u' chain) w'
   | .outgrown,_,_=>False):LV P res R ({ target:=.fn (.func k) cap,args:=args }::ds) u w:=
 ⟨hu,_,_,k,args++cap,rfl,callable_exec hk (args++cap) w,h⟩
theorem lv_ret{P:Program}{res:World->Prop}{R:Ending->World->Prop}{w:World}:LV P res R [] .returning w=res w:=rfl
theorem lv_panic{P:Program}{res:World->Prop}{R:Ending->World->Prop}{ch:List PanicEntry}{w:World}:LV P res R [] (.panicking ch) w=R (.panicked ch) w:=rfl
theorem df_func(f:Fn)(x y:Array Value)(K:Fn->Array Value->Array Value->Prop):DF (.func f x y) K=K f x y:=rfl
theorem cq{C:Cfg}(G:Good C){f:FuncId}{fn:Func}{c:Code}{args:List Value}{w:World}{R:Ending->World->Prop}{S:Prop}(hf:C.P.funcs[f]?=some fn)(hb:fn.body=some c)
  (hk:(nd c && ((wr c).all fun i=>decide (i<fn.ntmps)) && Nat.ble args.length fn.ntmps)=true) (he:bsl [] (ini args) (fun a=>wpc C c (bodyQ C.P fn R) a w)=S) (h:S):Calls C.P f args.toArray w R:=by
 simp only[Bool.and_eq_true] at hk
 exact callsEq G hf hb hk.1.1 hk.1.2 (Nat.le_of_ble_eq_true hk.2) [] he h
abbrev bo(op:BinOp)(t:TypeId)(x y:Operand)(a b:Value):Sem Value:=do eqGuard op t x y a b;binOp op t a b
def RD0(P:Program)(s:Sem Value)(w:World)(K:Value->Prop)(X:Value->World->Prop):Prop:=RD P s w K X
def WU0(P:Program)(s:Sem Unit)(w:World)(K:World->Prop)(X:Value->World->Prop):Prop:=WU P s w K X
def WR0(P:Program)(s:Sem Value)(w:World)(K:Value->World->Prop)(X:Value->World->Prop):Prop:=WR P s w K X
theorem rd_ok{P:Program}{s:Sem Value}{w:World}{K:Value->Prop}{X:Value->World->Prop}{v:Value}(h:s.run P w = .ok v w):RD P s w K X=K v:=by
 unfold RD;rw[h];simp
theorem rd_panic{P:Program}{s:Sem Value}{w w':World}{K:Value->Prop}{X:Value->World->Prop}{v:Value}(h:s.run P w = .halt (.panic v) w'):RD P s w K X=X v w':=by
 unfold RD;rw[h]
theorem wr_ok{P:Program}{s:Sem Value}{w w':World}{K:Value->World->Prop}{X:Value->World->Prop}{v:Value}(h:s.run P w = .ok v w'):WR P s w K X=K v w':=by
 unfold WR;rw[h]
theorem wu_ok{P:Program}{s:Sem Unit}{w w':World}{K:World->Prop}{X:Value->World->Prop}(h:s.run P w = .ok () w'):WU P s w K X=K w':=by
 unfold WU;rw[h]
theorem nc_ptr(a:Addr)(K:Value->Prop):NC (.pointer (some a)) K=K (.pointer (some a)):=rfl
theorem nc_iface(t:TypeId)(x:Value)(K:Value->Prop):NC (.iface t x) K=K (.iface t x):=rfl
theorem nc_func(f:FuncId)(x y:Array Value)(K:Value->Prop):NC (.func (.func f) x y) K=K (.func (.func f) x y):=rfl
theorem bs_true(A B:Prop):BS (.bool true) A B=A:=by simp [BS]
theorem bs_false(A B:Prop):BS (.bool false) A B=B:=by simp [BS]
theorem bs_pos{p:Prop}[Decidable p](A B:Prop)(h:p):BS (.bool (decide p)) A B=A:=by simp [BS,h]
theorem bs_neg{p:Prop}[Decidable p](A B:Prop)(h:¬ p):BS (.bool (decide p)) A B=B:=by simp [BS,h]
theorem bs_dec{p:Prop}[Decidable p](A B:Prop):BS (.bool (decide p)) A B=((p->A)/\(¬ p->B)):=by simp [BS]
section
variable{P:Program}{t:TypeId}{x y:Operand}{w:World}{K:Value->Prop}{X:Value->World->Prop}
theorem bo_add(k:IntKind)(a b:Int):RD P (bo .add t x y (.int k a) (.int k b)) w K X=K (.int k (k.wrap (a+b))):=
 rd_ok (by simp [bo,eqGuard,binOp,Op.intArith])
theorem bo_sub(k:IntKind)(a b:Int):RD P (bo .sub t x y (.int k a) (.int k b)) w K X=K (.int k (k.wrap (a-b))):=
 rd_ok (by simp [bo,eqGuard,binOp,Op.intArith])
theorem bo_mul(k:IntKind)(a b:Int):RD P (bo .mul t x y (.int k a) (.int k b)) w K X=K (.int k (k.wrap (a*b))):=
 rd_ok (by simp [bo,eqGuard,binOp,Op.intArith])
theorem bo_lss(k:IntKind)(a b:Int):RD P (bo .lss t x y (.int k a) (.int k b)) w K X=K (.bool (decide (a<b))):=
 rd_ok (by simp [bo,eqGuard,binOp,Op.intCmp])
theorem bo_leq(k:IntKind)(a b:Int):RD P (bo .leq t x y (.int k a) (.int k b)) w K X=K (.bool (decide (a≤b))):=
 rd_ok (by simp [bo,eqGuard,binOp,Op.intCmp])
theorem bo_gtr(k:IntKind)(a b:Int):RD P (bo .gtr t x y (.int k a) (.int k b)) w K X=K (.bool (decide (b<a))):=
 rd_ok (by simp [bo,eqGuard,binOp,Op.intCmp])
theorem bo_geq(k:IntKind)(a b:Int):RD P (bo .geq t x y (.int k a) (.int k b)) w K X=K (.bool (decide (b≤a))):=
 rd_ok (by simp [bo,eqGuard,binOp,Op.intCmp])
theorem bo_eql(k:IntKind)(a b:Int):RD P (bo .eql t x y (.int k a) (.int k b)) w K X=K (.bool (decide (a=b))):=
 rd_ok (by simp [bo,eqGuard,binOp,Op.intCmp];rw[Bool.eq_iff_iff];simp)
theorem bo_neq(k:IntKind)(a b:Int):RD P (bo .neq t x y (.int k a) (.int k b)) w K X=K (.bool (decide (¬ a=b))):=
 rd_ok (by simp [bo,eqGuard,binOp,Op.intCmp];rw[Bool.eq_iff_iff];simp)
theorem un_not(b:Bool):RD P (Op.unary .not (.bool b)) w K X=K (.bool !b):=rd_ok rfl
theorem un_neg(k:IntKind)(n:Int):RD P (Op.unary .neg (.int k n)) w K X=K (.int k (k.wrap (0-n))):=rd_ok rfl
theorem toList_bs(l:List UInt8):(bs l).toList=l:=ByteArray.toList_mk l
theorem bo_eqs(a b:List UInt8):RD P (bo .eql t x y (.string (bs a)) (.string (bs b))) w K X=K (.bool (decide (a=b))):=
 rd_ok (by simp [bo,eqGuard,binOp,Op.stringOp];rw[Bool.eq_iff_iff];simp)
theorem bo_nes(a b:List UInt8):RD P (bo .neq t x y (.string (bs a)) (.string (bs b))) w K X=K (.bool (decide (¬ a=b))):=
 rd_ok (by simp [bo,eqGuard,binOp,Op.stringOp];rw[Bool.eq_iff_iff];simp)
end
section
variable{P:Program}{t:TypeId}{x y:Operand}{w:World}{K:Value->Prop}{X:Value->World->Prop}
theorem bo_ads(a b:List UInt8)(h:a.length+b.length≤4294967296):RD P (bo .add t x y (.string (bs a)) (.string (bs b))) w K X=K (.string (bs (a++b))):=by
 refine rd_ok ?_
 have h1:¬ (IntKind.i64.max<(((bs a).size+(bs b).size:Nat):Int)):=by
  have e1:(bs a).size=a.length:=by simp [ByteArray.size]
  have e2:(bs b).size=b.length:=by simp [ByteArray.size]
  have e3:IntKind.i64.max=9223372036854775807:=by decide
  omega
 have e:bs a++bs b=bs (a++b):=by
  apply ByteArray.ext
  rw[ByteArray.data_append]
  simp
 simp only[bo,eqGuard,binOp,Op.stringOp,Sem.run_bind]
 show(if ((bs a).size+(bs b).size:Nat) > IntKind.i64.max then _ else _:Sem Value).run P w=_
 rw[if_neg h1,e]
 rfl
end
def upd(w:World)(b:Nat)(o:Obj):World:={ w with heap:=w.heap.setIfInBounds b o }
theorem size_upd(w:World)(b:Nat)(o:Obj):(upd w b o).heap.size=w.heap.size:=by simp [upd]
theorem hp_alloc_old{w:World}{o:Obj}{b:Nat}(h:b<w.heap.size):(w.alloc o).heap[b]?=w.heap[b]?:=by
 show(w.heap.push o)[b]?=_
 rw[Array.getElem?_push_lt h,Array.getElem?_eq_getElem h]
theorem hp_alloc_new{w:World}{o:Obj}{b:Nat}(h:b=w.heap.size):(w.alloc o).heap[b]?=some o:=by
 subst h;exact blk_alloc_new w o
theorem hp_upd_same{w:World}{o:Obj}{b c:Nat}(h:b=c)(hl:b<w.heap.size):(upd w c o).heap[b]?=some o:=by
 subst h;simp [upd,hl]
theorem hp_upd_other{w:World}{o:Obj}{b c:Nat}(h:¬ b=c):(upd w c o).heap[b]?=w.heap[b]?:=by
 simp [upd,Ne.symm h]
theorem hp_drew(w:World)(b:Nat):w.drew.heap[b]?=w.heap[b]?:=rfl
theorem sz_drew(w:World):w.drew.heap.size=w.heap.size:=rfl
theorem upd_setCell{w:World}{b o:Nat}{cs:Array Value}{T:TypeId}(h:w.heap[b]?=some (.cells cs T (0,0)))(v:Value):w.setCell ⟨b,o,none⟩ v=upd w b (.cells (cs.setIfInBounds o v) T (0,0)):=by
 unfold World.setCell upd
 congr 1
 apply Array.ext_getElem?
 intro i
 rw[Array.getElem?_modify,Array.getElem?_setIfInBounds]
 by_cases e:b=i
 ·subst e
  have hl:=ltOf h
  rw[if_pos rfl,if_pos rfl,if_pos hl,h]
  rfl
 ·rw[if_neg e,if_neg e]
def isOne(P:Program)(T:TypeId):Bool:=
 match P.underlying T with
 | some (.struct _)=>false
 | some (.array _ _)=>false
 | some _=>true
 | none=>false
def isMany(P:Program)(T:TypeId)(n:Nat):Bool:=
 (match P.underlying T with
 | some (.struct _)=>true
 | some (.array _ _)=>true
 | _=>false) && (match P.info? T with
 | some i=>i.size == n
 | none=>false)
def sized(P:Program)(T:TypeId)(n:Nat):Bool:=
 match P.info? T with
 | some i=>i.size == n
 | none=>false
def ldK(x:Option Obj)(o:Nat)(K:Value->Prop)(D:Prop):RT (K,D):=
 match x with
 | some (.cells cs _ _)=>(match cs[o]? with | some v=>K v | none=>D)
 | _=>D
def ldN(x:Option Obj)(o n:Nat)(K:Value->Prop)(D:Prop):RT (K,D):=
 match x with
 | some (.cells cs _ _)=>if o+n≤cs.size then K (.agg ((cs.toList.drop o).take n).toArray) else D
 | _=>D
def wrL(cs:Array Value)(o:Nat):List Value->Array Value
 | []=>cs
 | v::r=>wrL (cs.setIfInBounds o v) (o+1) r
section mem
variable{P:Program}{T:TypeId}{b o:Nat}{w:World}{K:Value->Prop}{X:Value->World->Prop}
theorem isOne_run(h:isOne P T=true)(w:World):(isAgg T).run P w = .ok false w:=by
 unfold isOne at h
 unfold isAgg underlying
 simp only[Sem.run_bind,program,Sem.run,Result.andThen_ok]
 split at h<;>first | (cases h;done) | skip
 rename_i d hn1 hn2 hd
 rw[hd]
 simp only[Sem.run_pure,Result.andThen_ok]
theorem sized_run{n:Nat}(h:sized P T n=true)(w:World):(sizeOf T).run P w = .ok n w:=by
 unfold sized at h
 unfold sizeOf typeInfo
 simp only[Sem.run_bind,program,Sem.run,Result.andThen_ok]
 split at h
 ·rename_i i hi
  rw[hi]
  simp only[Sem.run_pure,Result.andThen_ok]
  rw[beq_iff_eq.1 h]
 ·cases h
theorem isMany_sized{n:Nat}(h:isMany P T n=true):sized P T n=true:=by
 unfold isMany at h
 simp only[Bool.and_eq_true] at h
 exact h.2
theorem isMany_run{n:Nat}(h:isMany P T n=true)(w:World):(isAgg T).run P w = .ok true w:=by
 unfold isMany at h
 simp only[Bool.and_eq_true] at h
 have h:=h.1
 unfold isAgg underlying
 simp only[Sem.run_bind,program,Sem.run,Result.andThen_ok]
 split at h
 ·rename_i hd;rw[hd];rfl
 ·rename_i hd;rw[hd];rfl
 ·cases h
theorem rd_load1(hT:isOne P T=true):RD P (Instr.loadAt T (.pointer (some ⟨b,o,none⟩))) w K X=ldK (w.heap[b]?) o K (RD0 P (Instr.loadAt T (.pointer (some ⟨b,o,none⟩))) w K X):=by
 unfold ldK
 split
 ·rename_i cs t z hb
  split
  ·rename_i v hv
   refine rd_ok ?_
   simp only[Instr.loadAt,Instr.sureAddr,loadVar,Sem.run_bind,Sem.run_pure,Result.andThen_ok,isOne_run hT,Bool.false_eq_true,if_false,load,Sem.run,cellOf hb hv]
  ·rfl
 ·rfl
theorem rd_loadN{n:Nat}(hT:isMany P T n=true):RD P (Instr.loadAt T (.pointer (some ⟨b,o,none⟩))) w K X=ldN (w.heap[b]?) o n K (RD0 P (Instr.loadAt T (.pointer (some ⟨b,o,none⟩))) w K X):=by
 unfold ldN
 split
 ·rename_i cs t z hb
  split
  ·rename_i hn
   refine rd_ok ?_
   have hl:((cs.toList.drop o).take n).length=n:=by simp;omega
   have hc:∀ j v,((cs.toList.drop o).take n)[j]?=some v->w.cell? ((⟨b,o,none⟩:Addr).add j)=some v:=by
    intro j v hv
    rw[List.getElem?_take] at hv
    split at hv
    ·rw[List.getElem?_drop] at hv
     have e:(⟨b,o,none⟩:Addr).add j=⟨b,o+j,none⟩:=by unfold Addr.add;split<;>simp_all
     rw[e]
     exact cellOf hb (by simpa using hv)
    ·cases hv
   have:=run_loadCells_list (P:=P) w ⟨b,o,none⟩ ((cs.toList.drop o).take n) hc
   rw[hl] at this
   simp only[Instr.loadAt,Instr.sureAddr,loadVar,Sem.run_bind,Sem.run_pure,Result.andThen_ok,isMany_run hT,if_true,sized_run (isMany_sized hT),this]
  ·rfl
 ·rfl
theorem run_storeL{U:TypeId}:∀ (vs:List Value) (i:Nat) (cs:Array Value) (w:World),w.heap[b]?=some (.cells cs U (0,0))->o+i+vs.length≤cs.size->(vs.all Value.oneCell')=true ->
  (storeCells ⟨b,o,none⟩ vs i).run P w = .ok () (upd w b (.cells (wrL cs (o+i) vs) U (0,0)))
 | [],i,cs,w,hb,_,_=>by
  have hl:=ltOf hb
  have:upd w b (.cells cs U (0,0))=w:=by
   unfold upd
   cases w
   congr 1
   apply Array.ext_getElem?
   intro j
   rw[Array.getElem?_setIfInBounds]
   split
   ·rename_i e;subst e;simp only at hb hl;exact hb.symm
   ·rfl
  simp [storeCells,wrL,this]
 | v::vs,i,cs,w,hb,hn,h1=>by
  simp only[List.length_cons] at hn
  simp only[List.all_cons,Bool.and_eq_true] at h1
  have hc:w.cell? ⟨b,o+i,none⟩=some cs[o+i]:=cellOf hb (by simp)
  have hu:(upd w b (.cells (cs.setIfInBounds (o+i) v) U (0,0))).heap[b]?=some (.cells (cs.setIfInBounds (o+i) v) U (0,0)):=hp_upd_same rfl (ltOf hb)
  have ih:=run_storeL vs (i+1) (cs.setIfInBounds (o+i) v) _ hu (by simp;omega) h1.2
  have e:(⟨b,o,none⟩:Addr).add i=⟨b,o+i,none⟩:=by unfold Addr.add;split<;>simp_all
  have e2:∀ x y,upd (upd w b x) b y=upd w b y:=by
   intro x y;unfold upd;simp
  rw[e2] at ih
  simp only[storeCells,Sem.run_bind,e,wrL]
  have hs:(store ⟨b,o+i,none⟩ v).run P w = .ok () (upd w b (.cells (cs.setIfInBounds (o+i) v) U (0,0))):=by
   rw[<- upd_setCell hb]
   have hf:=freeOf hb (o+i)
   cases v<;>first | (simp [Value.oneCell'] at h1;done) | simp [store,Sem.run,hc,hf]
  rw[hs]
  simp only[Result.andThen_ok]
  exact ih
def stK(x:Option Obj)(w:World)(b o n:Nat)(v:Value)(K:World->Prop)(D:Prop):RT (K,D):=
 match x with
 | some (.cells cs U z)=>if z=(0,0)/\v.cells.toList.length=n/\o+n≤cs.size/\(v.cells.toList.all Value.oneCell')=true then K (upd w b (.cells (wrL cs o v.cells.toList) U (0,0))) else D
 | _=>D
theorem wu_store{n:Nat}(hT:sized P T n=true)(v:Value){K:World->Prop}:WU P (Instr.storeAt T (.pointer (some ⟨b,o,none⟩)) v) w K X=stK (w.heap[b]?) w b o n v K (WU0 P (Instr.storeAt T (.pointer (some ⟨b,o,none⟩)) v) w K X):=by
 unfold stK
 split
 ·rename_i cs U z hb
  split
  ·rename_i h
   obtain⟨rfl,h2,h3,h4⟩:=h
   refine wu_ok ?_
   have hs:v.cells.size=n:=by simpa using h2
   have:=run_storeL (P:=P) (b:=b) (o:=o) v.cells.toList 0 cs w hb (by omega) h4
   simp only[Instr.storeAt,Instr.sureAddr,storeVar,Sem.run_bind,Sem.run_pure,Result.andThen_ok,sized_run hT]
   rw[if_neg (by simp [hs])]
   exact this
  ·rfl
 ·rfl
def zeroB(P:Program)(T:TypeId):Option Value:=(P.info? T).bind (·.zero)
theorem zero_run{z:Value}(h:zeroB P T=some z)(w:World):(zeroValue T).run P w = .ok z w:=by
 unfold zeroB at h
 unfold zeroValue typeInfo
 simp only[Sem.run_bind,program,Sem.run,Result.andThen_ok]
 cases hi:P.info? T with
 | none=>rw[hi] at h;cases h
 | some i=>
  rw[hi] at h
  simp only[Option.bind_some] at h
  simp only[Sem.run_pure,Result.andThen_ok,h]
theorem wr_alloc{z u:Value}(h:zeroB P T=some z){K:Value->World->Prop}:WR P (Instr.alloc T true u) w K X=K (.pointer (some ⟨w.heap.size,0,none⟩)) (w.alloc (.cells z.cells T)):=by
 refine wr_ok ?_
 simp only[Instr.alloc,Sem.run_bind,zero_run h,Result.andThen_ok,newVar,newRow,newObj,Sem.run,Sem.run_pure]
 rfl
theorem wr_box{v:Value}{K:Value->World->Prop}:WR P (Instr.box T v) w K X=K (.pointer (some ⟨w.heap.size,0,none⟩)) (w.alloc (.cells v.cells T)):=by
 refine wr_ok ?_
 simp only[Instr.box,Sem.run_bind,Result.andThen_ok,newVar,newRow,newObj,Sem.run,Sem.run_pure]
 rfl
end mem
section
variable{P:Program}{T:TypeId}{b o:Nat}{w:World}{K:Value->Prop}{X:Value->World->Prop}
def fieldOff(P:Program)(s:TypeId)(i:Nat):Option Nat:=
 match P.underlying s with
 | some (.struct fs)=>match fs[i]? with
  | some f=>match P.info? f.type with
   | some t=>if t.size=0 then none else some f.offset
   | none=>none
  | none=>none
 | _=>none
theorem addr_add(b o n:Nat):(⟨b,o,none⟩:Addr).add n=⟨b,o+n,none⟩:=by
 unfold Addr.add;split<;>simp_all
theorem rd_field{i n:Nat}(h:fieldOff P T i=some n):RD P (Instr.fieldAt T (.pointer (some ⟨b,o,none⟩)) i) w K X=K (.pointer (some ⟨b,o+n,none⟩)):=by
 refine rd_ok ?_
 unfold fieldOff at h
 split at h
 ·rename_i fs hu
  split at h
  ·rename_i f hf
   split at h
   ·rename_i t ht
    split at h
    ·cases h
    ·rename_i hz
     injection h with h
     subst h
     have hs:(sizeOf f.type).run P w = .ok t.size w:=sized_run (by unfold sized;rw[ht];simp) w
     simp only[Instr.fieldAt,Sem.run_bind,run_underlying hu,Result.andThen_ok,hf,Instr.sureAddr,Sem.run_pure,fieldPlace,hs,if_neg hz,addr_add]
   ·cases h
  ·cases h
 ·cases h
def elemSize(P:Program)(T:TypeId):Option Nat:=
 match P.underlying T with
 | some (.slice e)=>(P.info? e).map (·.size)
 | _=>none
theorem elemSize_spec{n:Nat}(h:elemSize P T=some n):∃ e,P.underlying T=some (.slice e)/\sized P e n=true:=by
 unfold elemSize at h
 split at h
 ·rename_i e he
  refine⟨e,he,?_⟩
  unfold sized
  cases hi:P.info? e with
  | none=>rw[hi] at h;cases h
  | some i=>rw[hi] at h;simpa using h
 ·cases h
theorem elem_of{e:TypeId}(h:P.underlying T=some (.slice e)):P.elem T=e:=by unfold Program.elem;rw[h]
theorem rd_index{n len cap:Nat}(h:elemSize P T=some n){k:IntKind}{i:Int}(h0:0≤i)(h1:i<len) :
  RD P (Instr.indexAt T (.slice (some ⟨b,o,none⟩) len cap) (.int k i)) w K X=K (.pointer (some ⟨b,o+i.toNat*n,none⟩)):=by
 obtain⟨e,he,hs⟩:=elemSize_spec h
 refine rd_ok ?_
 rw[run_indexAt_slice w T _ _ _ _ _ (by rw[elem_of he];exact he),if_pos ⟨h0,h1⟩,elem_of he,sized_run hs]
 simp only[Result.andThen_ok,addr_add]
theorem rd_len_slice{t:TypeId}{e:TypeId}(h:P.underlying t=some (.slice e)){a:Option Addr}{n c:Nat} :
  RD P (Builtin.len_ #[t] T #[.slice a n c]) w K X=K (.int .i64 n):=
 rd_ok (run_len_slice w t T a n c (by rw[elem_of h];exact h))
theorem rd_len_string{t:TypeId}(h:P.underlying t=some .string){l:List UInt8} :
  RD P (Builtin.len_ #[t] T #[.string (bs l)]) w K X=K (.int .i64 l.length):=by
 refine rd_ok ?_
 have e:(bs l).size=l.length:=by simp [ByteArray.size]
 simp only[Builtin.len_,List.getElem?_toArray,List.getElem?_cons_zero,Sem.run_bind,run_underlying h,Result.andThen_ok,Sem.run_pure,goInt,e]
theorem rd_char{t:TypeId}(h:P.underlying t=some .string){l:List UInt8}{k:IntKind}{i:Int}(h0:0≤i)(h1:i<l.length) :
  RD P (Instr.index t (.string (bs l)) (.int k i)) w K X=K (.int .u8 ((l.getD i.toNat 0).toNat)):=by
 refine rd_ok ?_
 have e:(bs l)[i.toNat]?=some (l.getD i.toNat 0):=by
  have hl:i.toNat<l.length:=by omega
  have hl':i.toNat<(bs l).size:=by simpa [ByteArray.size] using hl
  rw[getElem?_pos (bs l) i.toNat hl']
  congr 1
  show l.toArray[i.toNat]=_
  simp [List.getD,hl]
 simp only[Instr.index,Sem.run_bind,asIntOf,Sem.run_pure,Result.andThen_ok,run_underlying h,if_pos h0,e]
theorem rd_extract{vs:Array Value}{i:Nat}{v:Value}(h:vs[i]?=some v):RD P (Instr.extract (.tuple vs) i) w K X=K v:=by
 refine rd_ok ?_
 simp only[Instr.extract,h]
 rfl
theorem rd_extract0{v:Value}{l:List Value}:RD P (Instr.extract (.tuple (v::l).toArray) 0) w K X=K v:=rd_extract (by simp)
theorem rd_extract1{u v:Value}{l:List Value}:RD P (Instr.extract (.tuple (u::v::l).toArray) 1) w K X=K v:=rd_extract (by simp)
theorem rd_extract2{u x v:Value}{l:List Value}:RD P (Instr.extract (.tuple (u::x::v::l).toArray) 2) w K X=K v:=rd_extract (by simp)
theorem rd_panic_iface{t:TypeId}{v:Value}:RD P (Instr.panic (.iface t v)) w K X=X (.iface t v) w:=rd_panic rfl
theorem rd_slice_l{n len cap:Nat}(h:elemSize P T=some n){k:IntKind}{l:Int}(h0:0≤l)(h1:l≤len){a:Option Addr} :
  RD P (Instr.sliceAt T (.slice a len cap) (some (.int k l)) none none) w K X=K (sliced a l.toNat len cap n):=by
 obtain⟨e,he,hs⟩:=elemSize_spec h
 refine rd_ok ?_
 rw[run_sliceAt_slice w T _ _ _ _ (by rw[elem_of he];exact he),run_slice_l w T a len cap (by rw[elem_of he];exact he) k l h0 h1,elem_of he,sized_run hs]
 rfl
theorem rd_slice_h{n len cap:Nat}(h:elemSize P T=some n){k:IntKind}{l:Int}(h0:0≤l)(h1:l≤cap){a:Option Addr} :
  RD P (Instr.sliceAt T (.slice a len cap) none (some (.int k l)) none) w K X=K (sliced a 0 l.toNat cap n):=by
 obtain⟨e,he,hs⟩:=elemSize_spec h
 refine rd_ok ?_
 rw[run_sliceAt_slice w T _ _ _ _ (by rw[elem_of he];exact he),run_slice_h w T a len cap (by rw[elem_of he];exact he) k l h0 h1,elem_of he,sized_run hs]
 rfl
theorem bs_extract(l:List UInt8)(i j:Nat):(bs l).extract i j=bs ((l.take j).drop i):=by
 apply ByteArray.ext
 rw[ByteArray.data_extract]
 apply Array.ext'
 rw[Array.toList_extract,List.drop_take]
theorem rd_str_l{t:TypeId}(h:P.underlying t=some .string){s:List UInt8}{k:IntKind}{l:Int}(h0:0≤l)(h1:l≤s.length) :
  RD P (Instr.sliceAt t (.string (bs s)) (some (.int k l)) none none) w K X=K (.string (bs (s.drop l.toNat))):=by
 refine rd_ok ?_
 have e:(bs s).size=s.length:=by simp [ByteArray.size]
 simp only[Instr.sliceAt,Instr.slice,Sem.run_bind,run_underlying h,Result.andThen_ok,Option.isSome,Bool.false_eq_true,if_false,Instr.sliceBounds,Sem.run_pure,
  run_sliceBound w k l s.length _ h0 h1,bs_extract,e,List.take_length]
theorem rd_str_lh{t:TypeId}(h:P.underlying t=some .string){s:List UInt8}{k k':IntKind}{l m:Int}(h0:0≤l)(h1:l≤m)(h2:m≤s.length) :
  RD P (Instr.sliceAt t (.string (bs s)) (some (.int k l)) (some (.int k' m)) none) w K X=K (.string (bs ((s.take m.toNat).drop l.toNat))):=by
 refine rd_ok ?_
 have e:(bs s).size=s.length:=by simp [ByteArray.size]
 simp only[Instr.sliceAt,Instr.slice,Sem.run_bind,run_underlying h,Result.andThen_ok,Option.isSome,Bool.false_eq_true,if_false,Instr.sliceBounds,Sem.run_pure,
  run_sliceBound w k' m (bs s).size _ (by omega) (by rw[e];exact h2),run_sliceBound w k l m.toNat _ h0 (by omega),bs_extract]
def fillL(pl:List (Nat×Nat))(cells:Array Value):List (Nat×Value)->Option (Array Value)
 | []=>some cells
 | (i,v)::r=>match pl[i]? with
  | none=>none
  | some (off,size)=>if v.cells.toList.length=size/\off+size≤cells.size then fillL pl (wrL cells off v.cells.toList) r else none
theorem fold_wrL(off:Nat):∀ (l:List Value) (k:Nat) (cs:Array Value),(l.zipIdx k).foldl (fun cs (c,j)=>cs.setIfInBounds (off+j) c) cs=wrL cs (off+k) l
 | [],_,_=>rfl
 | v::r,k,cs=>by
  simp only[List.zipIdx_cons,List.foldl_cons,wrL]
  rw[fold_wrL off r (k+1)]
  rfl
theorem fill_fillL{place:Nat->Option (Nat×Nat)}{pl:List (Nat×Nat)}(hp:∀ i x,pl[i]?=some x->place i=some x):∀ (l:List (Nat×Value)) (cs:Array Value) (r:Array Value),fillL pl cs l=some r->Instr.fill place cs l=some r
 | [],cs,r,h=>h
 | (i,v)::l,cs,r,h=>by
  unfold fillL at h
  unfold Instr.fill
  cases hi:pl[i]? with
  | none=>rw[hi] at h;cases h
  | some x=>
   obtain⟨off,size⟩:=x
   rw[hi] at h
   dsimp only at h
   rw[hp i _ hi]
   dsimp only
   split at h
   ·rename_i hc
    have hs:v.cells.size=size:=by simpa using hc.1
    rw[if_neg (by rw[hs];simp;omega)]
    have e:=fold_wrL off v.cells.toList 0 cs
    rw[Nat.add_zero] at e
    have e2:(v.cells.zipIdx.foldl (fun cs (x:Value×Nat)=>cs.setIfInBounds (off+x.2) x.1) cs)=wrL cs off v.cells.toList:=by
     rw[<- e,<- Array.foldl_toList,Array.toList_zipIdx]
    rw[e2]
    exact fill_fillL hp l _ r h
   ·cases h
def places(P:Program):List Field->Option (List (Nat×Nat))
 | []=>some []
 | f::r=>match P.info? f.type,places P r with
  | some i,some l=>some ((f.offset,i.size)::l)
  | _,_=>none
def buildB(P:Program)(T:TypeId):Option (Array Value×List (Nat×Nat)):=
 match zeroB P T,P.underlying T with
 | some z,some (.struct fs)=>(places P fs.toList).map fun l=>(z.cells,l)
 | _,_=>none
theorem places_run{w:World}:∀ (l:List Field) (r:List (Nat×Nat)),places P l=some r->(l.mapM fun(f:Field)=>(do pure (f.offset,<- sizeOf f.type):Sem (Nat×Nat))).run P w = .ok r w
 | [],r,h=>by simp only[places,Option.some.injEq] at h;subst h;rfl
 | f::l,r,h=>by
  unfold places at h
  split at h
  ·rename_i i q hi hq
   injection h with h
   subst h
   have ih:=places_run (w:=w) l q hq
   have hs:(sizeOf f.type).run P w = .ok i.size w:=sized_run (by unfold sized;rw[hi];simp) w
   rw[List.mapM_cons]
   simp only[Sem.run_bind,hs,Result.andThen_ok,Sem.run_pure,ih]
  ·cases h
def blK(x:Option (Array Value))(K:Value->Prop)(D:Prop):RT (K,D):=
 match x with
 | some cs=>K (.agg cs)
 | none=>D
theorem rd_build{z:Array Value}{pl:List (Nat×Nat)}(h:buildB P T=some (z,pl)){parts:Array (Nat×Value)} :
  RD P (Instr.build T parts) w K X=blK (fillL pl z parts.toList) K (RD0 P (Instr.build T parts) w K X):=by
 unfold blK
 split
 ·rename_i cs hf
  refine rd_ok ?_
  unfold buildB at h
  split at h
  ·rename_i zz fs hz hu
   cases hp:places P fs.toList with
   | none=>rw[hp] at h;cases h
   | some l=>
    rw[hp] at h
    simp only[Option.map_some,Option.some.injEq,Prod.mk.injEq] at h
    obtain⟨rfl,rfl⟩:=h
    have h1:=places_run (w:=w) fs.toList l hp
    have h2:Instr.fill (l.toArray[·]?) zz.cells parts.toList=some cs:=fill_fillL (fun i x hx=>by simpa using hx) _ _ _ hf
    simp only[Instr.build,Sem.run_bind,zero_run hz,Result.andThen_ok,run_underlying hu]
    rw[Array.mapM_eq_mapM_toList]
    simp only[Sem.run_map,h1,Result.andThen_ok,h2]
    rfl
  ·cases h
 ·rfl
def rowB(P:Program)(T n:Nat):Option (TypeId×Array Value×List (Nat×Nat)):=
 match P.underlying T with
 | some (.slice e)=>match P.info? e,zeroB P e with
  | some i,some z=>if n*i.size=0\/n*i.size > 2 ^ 24 then none else some (e,(Array.range (n*i.size)).map (z.cells[· % z.cells.size]!),(List.range n).map fun j=>(j*i.size,i.size))
  | _,_=>none
 | _=>none
def brK(x:Option (Array Value))(e n:Nat)(w:World)(K:Value->World->Prop)(D:Prop):RT (K,D):=
 match x with
 | some cs=>K (.slice (some ⟨w.heap.size,0,none⟩) n n) (w.alloc (.cells cs e))
 | none=>D
theorem wr_buildSlice{n:Nat}{e:TypeId}{z:Array Value}{pl:List (Nat×Nat)}(h:rowB P T n=some (e,z,pl)){parts:Array (Nat×Value)}{K:Value->World->Prop} :
  WR P (Instr.buildSlice T n parts) w K X=brK (fillL pl z parts.toList) e n w K (WR0 P (Instr.buildSlice T n parts) w K X):=by
 unfold brK
 split
 ·rename_i cs hf
  refine wr_ok ?_
  unfold rowB at h
  split at h
  ·rename_i e' hu
   split at h
   ·rename_i i zz hi hz
    split at h
    ·cases h
    ·rename_i hn
     simp only[Option.some.injEq,Prod.mk.injEq] at h
     obtain⟨rfl,rfl,rfl⟩:=h
     have hs:(sizeOf e').run P w = .ok i.size w:=sized_run (by unfold sized;rw[hi];simp) w
     have h2:Instr.fill (fun j=>some (j*i.size,i.size)) ((Array.range (n*i.size)).map (zz.cells[· % zz.cells.size]!)) parts.toList=some cs:=
      fill_fillL (fun j x hx=>by
       rw[List.getElem?_map] at hx
       cases hr:(List.range n)[j]? with
       | none=>rw[hr] at hx;cases hx
       | some m=>
        rw[hr] at hx
        have:m=j:=by obtain⟨_,h⟩:=List.getElem?_eq_some_iff.1 hr;simpa using h.symm
        subst this
        simpa using hx) _ _ _ hf
     have hn1:¬ (n*i.size > 2 ^ 24):=fun h=>hn (.inr h)
     have hn2:¬ (n*i.size=0):=fun h=>hn (.inl h)
     simp only[Instr.buildSlice,Sem.run_bind,run_underlying hu,Result.andThen_ok,hs,if_neg hn1,if_neg hn2,Sem.run_pure,zero_run hz,h2]
     simp only[newRow,newObj,Sem.run_bind,Sem.run,Result.andThen_ok,Sem.run_pure]
     rfl
   ·cases h
  ·cases h
 ·rfl
def concreteB(P:Program)(T:TypeId):Bool:=
 match P.underlying T with
 | some (.interface _)=>false
 | some _=>true
 | none=>false
theorem wr_iface(h:concreteB P T=true){v:Value}{K:Value->World->Prop}:WR P (Instr.makeInterface T v) w K X=K (.iface T v) w:=by
 refine wr_ok ?_
 unfold concreteB at h
 unfold Instr.makeInterface underlying
 simp only[Sem.run_bind,program,Sem.run,Result.andThen_ok]
 split at h
 ·cases h
 ·rename_i d hn hd
  rw[hd]
  simp only[Sem.run_pure,Result.andThen_ok]
 ·cases h
theorem wr_func{fn:Fn}{x y:Array Value}{K:Value->World->Prop}:WR P (Instr.makeFunc fn x y) w K X=K (.func fn x y) w:=wr_ok rfl
end
theorem wr_convert{P:Program}{src dst:TypeId}{kd:IntKind}(hs:(P.underlying src).isSome=true)(hd:P.underlying dst=some (.int kd)){k:IntKind}{n:Int}{w:World}{X:Value->World->Prop}{K:Value->World->Prop} :
  WR P (convert src dst (.int k n)) w K X=K (.int kd (kd.wrap n)) w:=by
 have e:P.intKind dst=kd:=by unfold Program.intKind;rw[hd]
 refine wr_ok ?_
 rw[run_convert_int w src dst k n hs (by rw[e];exact hd),e]
theorem u8w{x:Int}(h0:0≤x)(h1:x≤255):IntKind.u8.wrap x=x:=by
 unfold IntKind.wrap
 have e1:(2 ^ IntKind.u8.bits:Int)=256:=by decide
 have e3:IntKind.u8.signed=false:=rfl
 rw[e1,e3]
 simp only[Bool.false_and,Bool.false_eq_true,if_false]
 omega
theorem rds{P:Program}{s:Sem Value}{S:World->Prop}{K:Value->Prop}(v:Value)(h:∀ w',S w'->RD P s w' (fun u=>u=v) NX)(hk:K v):RDS P s S K:=by
 refine⟨v,fun w' hS=>?_,hk⟩
 have h1:=h w' hS
 unfold RD at h1
 cases hr:s.run P w' with
 | ok u w''=>rw[hr] at h1;obtain⟨rfl,rfl⟩:=h1;rfl
 | halt x w''=>rw[hr] at h1;cases x<;>exact h1.elim
def Pr(p:Prop):Prop:=p
theorem toPr{p:Prop}(h:Pr p):p:=h
def ldV(x:Option Value)(K:Value->Prop)(D:Prop):RT (K,D):=
 match x with | some v=>K v | none=>D
theorem upd_upd{w:World}{b:Nat}{x y:Obj}:upd (upd w b x) b y=upd w b y:=by unfold upd;simp
theorem jn_e{F:((Nat->Value)->World->Prop)->Prop}{R:(Nat->Value)->(Nat->Value)->World->Prop}:JN F R=F (fun s w=>∀ d,R s d w):=rfl
theorem ldK_e{cs:Array Value}{U:TypeId}{z:Nat×Nat}{o:Nat}{K:Value->Prop}{D:Prop}:ldK (some (.cells cs U z)) o K D=ldV (cs[o]?) K D:=rfl
theorem ldV_some{v:Value}{K:Value->Prop}{D:Prop}:ldV (some v) K D=K v:=rfl
theorem ldN_e{cs:Array Value}{U:TypeId}{z:Nat×Nat}{o n:Nat}{K:Value->Prop}{D:Prop}(h:o+n≤cs.size):ldN (some (.cells cs U z)) o n K D=K (.agg ((cs.toList.drop o).take n).toArray):=by
 unfold ldN;exact if_pos h
theorem stK_e{cs:Array Value}{U:TypeId}{w:World}{b o n:Nat}{v:Value}{K:World->Prop}{D:Prop}(h:o+n≤cs.size) :
  stK (some (.cells cs U (0,0))) w b o n v K D=if v.cells.toList.length=n/\(v.cells.toList.all Value.oneCell')=true then K (upd w b (.cells (wrL cs o v.cells.toList) U (0,0))) else D:=by
 simp [stK,h]
theorem blK_some{cs:Array Value}{K:Value->Prop}{D:Prop}:blK (some cs) K D=K (.agg cs):=rfl
theorem brK_some{cs:Array Value}{e n:Nat}{w:World}{K:Value->World->Prop}{D:Prop}:brK (some cs) e n w K D=K (.slice (some ⟨w.heap.size,0,none⟩) n n) (w.alloc (.cells cs e)):=rfl
theorem cells_aggA(a:Array Value):(Value.agg a).cells=a:=rfl
theorem cells_stringA(s:ByteArray):(Value.string s).cells=#[.string s]:=rfl
theorem cells_intA(k:IntKind)(n:Int):(Value.int k n).cells=#[.int k n]:=rfl
theorem cells_sliceA(a:Option Addr)(n c:Nat):(Value.slice a n c).cells=#[.slice a n c]:=rfl
theorem cells_pointerA(a:Option Addr):(Value.pointer a).cells=#[.pointer a]:=rfl
theorem cells_agg(l:List Value):(Value.agg l.toArray).cells.toList=l:=rfl
theorem cells_int(k:IntKind)(n:Int):(Value.int k n).cells.toList=[.int k n]:=rfl
theorem cells_bool(b:Bool):(Value.bool b).cells.toList=[.bool b]:=rfl
theorem cells_string(s:ByteArray):(Value.string s).cells.toList=[.string s]:=rfl
theorem cells_slice(a:Option Addr)(n c:Nat):(Value.slice a n c).cells.toList=[.slice a n c]:=rfl
theorem cells_pointer(a:Option Addr):(Value.pointer a).cells.toList=[.pointer a]:=rfl
theorem cells_iface(t:TypeId)(v:Value):(Value.iface t v).cells.toList=[.iface t v]:=rfl
theorem cells_nilIface:Value.nilIface.cells.toList=[.nilIface]:=rfl
theorem cells_func(f:Fn)(x y:Array Value):(Value.func f x y).cells.toList=[.func f x y]:=rfl
theorem cells_map(r:Option Nat):(Value.map r).cells.toList=[.map r]:=rfl
theorem one_int(k:IntKind)(n:Int):(Value.int k n).oneCell'=true:=rfl
theorem one_bool(b:Bool):(Value.bool b).oneCell'=true:=rfl
theorem one_string(s:ByteArray):(Value.string s).oneCell'=true:=rfl
theorem one_slice(a:Option Addr)(n c:Nat):(Value.slice a n c).oneCell'=true:=rfl
theorem one_pointer(a:Option Addr):(Value.pointer a).oneCell'=true:=rfl
theorem one_iface(t:TypeId)(v:Value):(Value.iface t v).oneCell'=true:=rfl
theorem one_nilIface:Value.nilIface.oneCell'=true:=rfl
theorem one_func(f:Fn)(x y:Array Value):(Value.func f x y).oneCell'=true:=rfl
theorem one_map(r:Option Nat):(Value.map r).oneCell'=true:=rfl
theorem i64w{x:Int}(h0:-9223372036854775808≤x)(h1:x≤9223372036854775807):IntKind.i64.wrap x=x:=by
 unfold IntKind.wrap
 have e1:(2 ^ IntKind.i64.bits:Int)=18446744073709551616:=by decide
 have e2:(2 ^ (IntKind.i64.bits-1):Int)=9223372036854775808:=by decide
 have e3:IntKind.i64.signed=true:=rfl
 rw[e1,e2,e3]
 simp only[Bool.true_and,decide_eq_true_eq]
 split<;>omega
end Go.Proofs.YtilpjhceemaplaaGreatDoor.Sx
namespace Go.Proofs.YtilpjhceemaplaaGreatDoor
open Go.Proofs.YtilpjhceemaplaaGreatDoor.Sx
theorem _root_.Go.Proofs.YtilpjhceemaplaaGreatDoor.Sx.prog_mixed:Tryz.prog.follows .mixedOrders=true:=by kernel_rfl
def callsB(k:Nat):Bool:=[2,3,4,5,6,7,8,9,10,11,12,13,14,15,16,17,18,19,20,21,22,23,24,25,26,27,28,29,30,31,32,33,34,35,36,37,38,39,40,41,42,43,44,45,46,47,48,49,50,51,52,53,54,55,56,57,58,59,63,64,65,66,67,68,69,70,71,72,73,74,75,76,77,78,79,80,81,82,83,84,85,86,87,88,89,90,91,92,93,94,95,99,100,101,102,103,104,105,106,107,108,109,110,111,112,113,114,115,116,117,118,119,120,121,122,123,124,125,126,127,128,129,130,131,132,133,134,135,136,137,138,139,140,141,142,143,144,145,146,147,148,149,150,151,152,153,154,155,156,157,158,159,160,161,162,163,164,165,166,167,168,169,170,171,172,173,174,175,176,178,179,180,181,182,183,184,185,187,188,189,190,191,192,193,194,195,196,197,198,199,200,201,202,203,204,206,207,208,209,210,211,212,213,214,215,217,218,219,220,221,244,267,284].contains k
theorem callsB_ok:([2,3,4,5,6,7,8,9,10,11,12,13,14,15,16,17,18,19,20,21,22,23,24,25,26,27,28,29,30,31,32,33,34,35,36,37,38,39,40,41,42,43,44,45,46,47,48,49,50,51,52,53,54,55,56,57,58,59,63,64,65,66,67,68,69,70,71,72,73,74,75,76,77,78,79,80,81,82,83,84,85,86,87,88,89,90,91,92,93,94,95,99,100,101,102,103,104,105,106,107,108,109,110,111,112,113,114,115,116,117,118,119,120,121,122,123,124,125,126,127,128,129,130,131,132,133,134,135,136,137,138,139,140,141,142,143,144,145,146,147,148,149,150,151,152,153,154,155,156,157,158,159,160,161,162,163,164,165,166,167,168,169,170,171,172,173,174,175,176,178,179,180,181,182,183,184,185,187,188,189,190,191,192,193,194,195,196,197,198,199,200,201,202,203,204,206,207,208,209,210,211,212,213,214,215,217,218,219,220,221,244,267,284].all (callable Tryz.prog))=true:=by kernel_rfl
theorem good(l:Nat->List Nat)(j:Nat->Option (List Nat))(t:Nat->Nat)(hl:Nat->Option (List Nat))(bl bj:Nat->List Nat)(sm sy:Nat->Bool):Sx.Good { P:=Tryz.prog,B:=fun t=>t == 4,calls:=callsB,live:=l,join:=j,tail:=t,held:=hl,bl:=bl,bj:=bj,sum:=sm,sy:=sy }:=
 ⟨prog_mixed,fun k hk=>List.all_eq_true.1 callsB_ok k (by simpa [callsB] using hk)⟩
abbrev pp (b : Nat) : Value := .pointer (some ⟨b, 0, none⟩)
abbrev pq (b o : Nat) : Value := .pointer (some ⟨b, o, none⟩)
abbrev zi (n : Int) : Value := .int .i64 n
def zT (l : List Nat) (n : Nat) : Bool := match l with
 | [] => false
 | a :: r => cond (Nat.beq a n) true (zT r n)
def zL (l : List (Nat × List Nat)) (n : Nat) : List Nat := match l with
 | [] => []
 | (a, b) :: r => cond (Nat.beq a n) b (zL r n)
def zN (l : List (Nat × Nat)) (n : Nat) : Nat := match l with
 | [] => 0
 | (a, b) :: r => cond (Nat.beq a n) b (zN r n)
def zO (l : List (Nat × List Nat)) (n : Nat) : Option (List Nat) := match l with
 | [] => none
 | (a, b) :: r => cond (Nat.beq a n) (some b) (zO r n)
def nC (k : Nat) (a : Array Value) (w : World) (K : Value -> World -> Prop) : Prop := CA Tryz.prog k a w K NC0
def nrD (t : Nat) (x : Array (Nat × Value)) (w : World) (K : Value -> Prop) : Prop := RD Tryz.prog (Instr.build t x) w K NX
def nrF (t : Nat) (x : Value) (f : Nat) (w : World) (K : Value -> Prop) : Prop := RD Tryz.prog (Instr.fieldAt t x f) w K NX
def nrI (t : Nat) (x i : Value) (w : World) (K : Value -> Prop) : Prop := RD Tryz.prog (Instr.indexAt t x i) w K NX
def nrL (t : Nat) (x : Value) (w : World) (K : Value -> Prop) : Prop := RD Tryz.prog (Instr.loadAt t x) w K NX
def nrN (t : Nat) (x : Value) (w : World) (K : Value -> Prop) : Prop := RD Tryz.prog (Builtin.len_ #[t] 3 #[x]) w K NX
def nrO (o : BinOp) (t n : Nat) (a b : Value) (w : World) (K : Value -> Prop) : Prop := RD Tryz.prog (bo o t (.tmp n) (.const b) a b) w K NX
def nrT (o : BinOp) (t n m : Nat) (a b : Value) (w : World) (K : Value -> Prop) : Prop := RD Tryz.prog (bo o t (.tmp n) (.tmp m) a b) w K NX
def nuS (t : Nat) (x v : Value) (w : World) (K : World -> Prop) : Prop := WU Tryz.prog (Instr.storeAt t x v) w K NX
def nwA (t : Nat) (w : World) (K : Value -> World -> Prop) : Prop := WR Tryz.prog (Instr.alloc t true (.tuple #[])) w K NX
def nwB (t : Nat) (x : Value) (w : World) (K : Value -> World -> Prop) : Prop := WR Tryz.prog (Instr.box t x) w K NX
def sD (t : Nat) (x : Array (Nat × Value)) (S : World -> Prop) (K : Value -> Prop) : Prop := RDS Tryz.prog (Instr.build t x) S K
def sF (t : Nat) (x : Value) (f : Nat) (S : World -> Prop) (K : Value -> Prop) : Prop := RDS Tryz.prog (Instr.fieldAt t x f) S K
def sI (t : Nat) (x i : Value) (S : World -> Prop) (K : Value -> Prop) : Prop := RDS Tryz.prog (Instr.indexAt t x i) S K
def sL (t : Nat) (x : Value) (S : World -> Prop) (K : Value -> Prop) : Prop := RDS Tryz.prog (Instr.loadAt t x) S K
def sN (t : Nat) (x : Value) (S : World -> Prop) (K : Value -> Prop) : Prop := RDS Tryz.prog (Builtin.len_ #[t] 3 #[x]) S K
def xC (k : Nat) (a : Array Value) (w : World) (R : Ending -> World -> Prop) (K : Value -> World -> Prop) : Prop := CA Tryz.prog k a w K (PC R)
def xrD (t : Nat) (x : Array (Nat × Value)) (w : World) (R : Ending -> World -> Prop) (K : Value -> Prop) : Prop := RD Tryz.prog (Instr.build t x) w K (PX R)
def xrE (x : Value) (f : Nat) (w : World) (R : Ending -> World -> Prop) (K : Value -> Prop) : Prop := RD Tryz.prog (Instr.extract x f) w K (PX R)
def xrF (t : Nat) (x : Value) (f : Nat) (w : World) (R : Ending -> World -> Prop) (K : Value -> Prop) : Prop := RD Tryz.prog (Instr.fieldAt t x f) w K (PX R)
def xrI (t : Nat) (x i : Value) (w : World) (R : Ending -> World -> Prop) (K : Value -> Prop) : Prop := RD Tryz.prog (Instr.indexAt t x i) w K (PX R)
def xrL (t : Nat) (x : Value) (w : World) (R : Ending -> World -> Prop) (K : Value -> Prop) : Prop := RD Tryz.prog (Instr.loadAt t x) w K (PX R)
def xrN (t : Nat) (x : Value) (w : World) (R : Ending -> World -> Prop) (K : Value -> Prop) : Prop := RD Tryz.prog (Builtin.len_ #[t] 3 #[x]) w K (PX R)
def xrO (o : BinOp) (t n : Nat) (a b : Value) (w : World) (R : Ending -> World -> Prop) (K : Value -> Prop) : Prop := RD Tryz.prog (bo o t (.tmp n) (.const b) a b) w K (PX R)
def xrT (o : BinOp) (t n m : Nat) (a b : Value) (w : World) (R : Ending -> World -> Prop) (K : Value -> Prop) : Prop := RD Tryz.prog (bo o t (.tmp n) (.tmp m) a b) w K (PX R)
def xuS (t : Nat) (x v : Value) (w : World) (R : Ending -> World -> Prop) (K : World -> Prop) : Prop := WU Tryz.prog (Instr.storeAt t x v) w K (PX R)
def xwA (t : Nat) (w : World) (R : Ending -> World -> Prop) (K : Value -> World -> Prop) : Prop := WR Tryz.prog (Instr.alloc t true (.tuple #[])) w K (PX R)
def xwB (t : Nat) (x : Value) (w : World) (R : Ending -> World -> Prop) (K : Value -> World -> Prop) : Prop := WR Tryz.prog (Instr.box t x) w K (PX R)
def yrD (t : Nat) (x : Array (Nat × Value)) (w : World) (X : Value -> World -> Prop) (K : Value -> Prop) : Prop := RD Tryz.prog (Instr.build t x) w K X
def yuS (t : Nat) (x v : Value) (w : World) (X : Value -> World -> Prop) (K : World -> Prop) : Prop := WU Tryz.prog (Instr.storeAt t x v) w K X
def ywA (t : Nat) (w : World) (X : Value -> World -> Prop) (K : Value -> World -> Prop) : Prop := WR Tryz.prog (Instr.alloc t true (.tuple #[])) w K X
def ywB (t : Nat) (x : Value) (w : World) (X : Value -> World -> Prop) (K : Value -> World -> Prop) : Prop := WR Tryz.prog (Instr.box t x) w K X
def sG (t f u : Nat) (x : Value) (S : World -> Prop) (K : Value -> Prop) : Prop := sF t x f S fun y => sL u y S K
def nG (t f u : Nat) (x : Value) (w : World) (K : Value -> Prop) : Prop := nrF t x f w fun y => nrL u y w K
def xG (t f u : Nat) (x : Value) (w : World) (R : Ending -> World -> Prop) (K : Value -> Prop) : Prop := xrF t x f w R fun y => xrL u y w R K
def nH (t f u : Nat) (x : Value) (w : World) (K : Value -> Prop) : Prop := NC x fun y => nG t f u y w K
def xH (t f u : Nat) (x : Value) (w : World) (R : Ending -> World -> Prop) (K : Value -> Prop) : Prop := NC x fun y => xG t f u y w R K
section
variable{p0 p1 p2 p3 p4 p5 p6 p7:Value}{w:World}{R:Ending->World->Prop}
def sh_s_lex(p0:Value)(w:World)(R:Ending->World->Prop):Prop:=
 JS (fun j=>
 xrN 9 p0 w R fun x10=>
 xrO .gtr 3 10 x10 (.int .i64 2000) w R fun x11=>
 BS x11 (xC 53 #[(.int .i64 1),(.int .i64 0)] w R fun x12 v1=>
 j (sOf []) v1) (j (sOf []) w))
 (fun s d w1=>
 LoopW (fun rec s_1 d_1 v2=>
 xrN 9 p0 v2 R fun x15=>
 xrT .lss 3 13 15 (s_1 3) x15 v2 R fun x16=>
 BS x16 (RD Tryz.prog (Instr.index 9 p0 (s_1 3)) v2 (fun x19=>
 JS (fun j_1=>
 JS (fun j_2=>
 xrO .eql 5 20 x19 (.int .u8 32) v2 R fun x21=>BS x21 (
 j_2 (sOf [(25,(.bool true))]) v2) (
 xrO .eql 5 23 x19 (.int .u8 10) v2 R fun x24=>
 j_2 (sOf [(25,x24)]) v2))
 (fun s_3 d_3 v4=>
 BS (s_3 25) (xrO .add 3 26 (s_1 3) (.int .i64 1) v4 R fun x27=>
 rec (sOf [(2,(s_1 2)),(3,x27)]) v4) (j_1 (sOf [(3,(s_1 3))]) v4)))
 (fun s_2 d_2 v3=>
 xC 122 #[x19] v3 R fun x29 v5=>
 xrO .neq 5 30 x29 (.int .u8 0) v5 R fun x31=>
 BS x31 (JS (fun j_3=>
 LoopW (fun rec_1 s_5 d_5 v7=>
 xrN 9 p0 v7 R fun x35=>
 xrT .lss 3 33 35 (s_5 6) x35 v7 R fun x36=>BS x36 (
 RD Tryz.prog (Instr.index 9 p0 (s_5 6)) v7 (fun x40=>
 xC 122 #[x40] v7 R fun x41 v8=>
 xrO .neq 5 41 x41 (.int .u8 0) v8 R fun x42=>
 BS x42 (xrO .add 3 44 (s_5 6) (.int .i64 1) v8 R fun x45=>
 rec_1 (sOf [(6,x45)]) v8) (j_3 (sOf [(6,(s_5 6))]) v8)) (PX R)) (
 BS (.bool false) (xrO .add 3 44 (s_5 6) (.int .i64 1) v7 R fun x45_1=>
 rec_1 (sOf [(6,x45_1)]) v7) (j_3 (sOf [(6,(s_5 6))]) v7)))
 (sOf [(6,(s_2 3))]) v5)
 (fun s_4 d_4 v6=>
 RD Tryz.prog (Instr.sliceAt 9 p0 (some (s_2 3)) (some (s_4 6)) none) v6 (fun x50=>
 xC 123 #[x50,(s_2 3),x29] v6 R fun x53 v9=>
 WR Tryz.prog (Instr.buildSlice 158 1 #[(0,x53)]) v9 (fun x54 v10=>
 WR Tryz.prog (Builtin.append_ #[158,158] 158 #[(s_1 2),x54]) v10 (fun x55 v11=>
 rec (sOf [(2,x55),(3,(s_4 6))]) v11) (PX R)) (PX R)) (PX R))) (JS (fun j_4=>
 JS (fun j_5=>
 xrO .eql 5 57 x19 (.int .u8 46) v5 R fun x58=>BS x58 (
 xrO .add 3 60 (s_2 3) (.int .i64 1) v5 R fun x61=>
 xrN 9 p0 v5 R fun x63=>
 xrT .eql 3 61 63 x61 x63 v5 R fun x64=>BS x64 (
 j_5 (sOf [(79,(.bool true))]) v5) (
 xrO .add 3 67 (s_2 3) (.int .i64 1) v5 R fun x68=>
 RD Tryz.prog (Instr.index 9 p0 x68) v5 (fun x69=>
 xrO .eql 5 69 x69 (.int .u8 32) v5 R fun x70=>BS x70 (
 j_5 (sOf [(79,(.bool true))]) v5) (
 xrO .add 3 74 (s_2 3) (.int .i64 1) v5 R fun x75=>
 RD Tryz.prog (Instr.index 9 p0 x75) v5 (fun x76=>
 xrO .eql 5 76 x76 (.int .u8 10) v5 R fun x77=>
 j_5 (sOf [(79,x77)]) v5) (PX R))) (PX R))) (
 j_5 (sOf [(79,(.bool false))]) v5))
 (fun s_7 d_7 v13=>
 BS (s_7 79) (xrD 157 #[(0,(.int .i64 4)),(1,(.string (bs [46]))),(2,(s_2 3))] v13 R fun x82=>
 WR Tryz.prog (Instr.buildSlice 158 1 #[(0,x82)]) v13 (fun x83 v14=>
 WR Tryz.prog (Builtin.append_ #[158,158] 158 #[(s_1 2),x83]) v14 (fun x84 v15=>
 xrO .add 3 85 (s_2 3) (.int .i64 1) v15 R fun x86=>
 rec (sOf [(2,x84),(3,x86)]) v15) (PX R)) (PX R)) (j_4 (sOf [(2,(s_1 2)),(3,(s_2 3))]) v13)))
 (fun s_6 d_6 v12=>
 xrL 272 (.pointer (some ⟨1,0,none⟩)) v12 R fun x87=>
 LoopW (fun rec_2 s_8 d_8 v16=>
 xrO .lss 3 88 (s_8 88) (.int .i64 23) v16 R fun x89=>
 BS x89 (RD Tryz.prog (Instr.index 272 x87 (s_8 88)) v16 (fun x90=>
 RD Tryz.prog (Instr.sliceAt 9 p0 (some (s_8 3)) none none) v16 (fun x93=>
 xC 124 #[x93,x90] v16 R fun x95 v17=>
 BS x95 (xrD 157 #[(0,(.int .i64 4)),(1,x90),(2,(s_8 3))] v17 R fun x99=>
 WR Tryz.prog (Instr.buildSlice 158 1 #[(0,x99)]) v17 (fun x100 v18=>
 WR Tryz.prog (Builtin.append_ #[158,158] 158 #[(s_8 2),x100]) v18 (fun x101 v19=>
 xrN 9 x90 v19 R fun x104=>
 xrT .add 3 102 104 (s_8 3) x104 v19 R fun x105=>
 rec (sOf [(2,x101),(3,x105)]) v19) (PX R)) (PX R)) (xrO .add 3 88 (s_8 88) (.int .i64 1) v17 R fun x106=>
 rec_2 (sOf [(2,(s_8 2)),(3,(s_8 3)),(88,x106)]) v17)) (PX R)) (PX R)) (xC 53 #[(.int .i64 2),(s_8 3)] v16 R fun x108 v20=>
 rec (sOf [(2,(s_8 2)),(3,(s_8 3))]) v20))
 (sOf [(2,(s_6 2)),(3,(s_6 3)),(88,(.int .i64 0))]) v12)))) (PX R)) (xrN 9 p0 v2 R fun x111=>
 xrD 157 #[(0,(.int .i64 0)),(1,(.string (bs []))),(2,x111)] v2 R fun x112=>
 WR Tryz.prog (Instr.buildSlice 158 1 #[(0,x112)]) v2 (fun x113 v21=>
 WR Tryz.prog (Builtin.append_ #[158,158] 158 #[(s_1 2),x113]) v21 (fun x114 v22=>
 R (.returned x114) v22) (PX R)) (PX R)))
 (sOf [(2,(.slice none 0 0)),(3,(.int .i64 0))]) w1)
theorem sh_s_lex_ok(h:sh_s_lex p0 w R):Calls Tryz.prog 92 #[p0] w R:=
 cq (args:=[p0]) (good (zL [(4,[2,3]),(11,[6]),(19,[2,3,88])]) (zO [(2001,[]),(6000,[25]),(7001,[3]),(12001,[6]),(15000,[79]),(17002,[2,3])]) (fun _=>0) (fun _=>none) (zL [(4,[]),(11,[]),(19,[])]) (zL [(2001,[]),(6000,[]),(7001,[]),(12001,[]),(15000,[]),(17002,[])]) (zT [2001,6000,7001,12001,15000,17002]) (zT [11,16,24,25,31,42,43,77,78,79,89,95])) Tryz.func92 rfl (by kernel_rfl) (by kernel_rfl) h
def sh_s_word(p0 p1 p2:Value)(w:World)(R:Ending->World->Prop):Prop:=
 xwA 157 w R fun x6 w1=>
 JS (fun j=>
 xrO .eql 5 7 p2 (.int .u8 115) w1 R fun x30=>
 BS x30 (xrN 9 p0 w1 R fun x32=>
 xrO .leq 3 32 x32 (.int .i64 8) w1 R fun x33=>
 BS x33 (xrD 157 #[(0,(.int .i64 1)),(1,p0),(2,p1)] w1 R fun x36=>
 xuS 157 x6 x36 w1 R fun v2=>
 nrL 157 x6 v2 fun r=>R (.returned r) v2) (j (sOf []) w1)) (xrO .eql 5 7 p2 (.int .u8 99) w1 R fun x38=>
 BS x38 (xrN 9 p0 w1 R fun x40=>
 xrO .leq 3 40 x40 (.int .i64 8) w1 R fun x41=>
 BS x41 (xrD 157 #[(0,(.int .i64 2)),(1,p0),(2,p1)] w1 R fun x44=>
 xuS 157 x6 x44 w1 R fun v3=>
 nrL 157 x6 v3 fun r_1=>R (.returned r_1) v3) (j (sOf []) w1)) (JS (fun j_1=>
 xrN 9 p0 w1 R fun x9=>
 xrO .leq 3 9 x9 (.int .i64 9) w1 R fun x10=>BS x10 (
 xC 140 #[p0,(.string (bs [48,49,50,51,52,53,54,55,56,57]))] w1 R fun x13 v5=>
 xrO .eql 9 13 x13 (.string (bs [])) v5 R fun x14=>BS x14 (
 RD Tryz.prog (Instr.index 9 p0 (.int .i64 0)) v5 (fun x18=>
 xrO .neq 5 18 x18 (.int .u8 48) v5 R fun x19=>BS x19 (
 j_1 (sOf [(25,(.bool true))]) v5) (
 xrN 9 p0 v5 R fun x22=>
 xrO .eql 3 22 x22 (.int .i64 1) v5 R fun x23=>
 j_1 (sOf [(25,x23)]) v5)) (PX R)) (
 j_1 (sOf [(25,(.bool false))]) v5)) (
 j_1 (sOf [(25,(.bool false))]) w1))
 (fun s_1 d_1 v4=>
 BS (s_1 25) (xrD 157 #[(0,(.int .i64 3)),(1,p0),(2,p1)] v4 R fun x28=>
 xuS 157 x6 x28 v4 R fun v6=>
 nrL 157 x6 v6 fun r_2=>R (.returned r_2) v6) (j (sOf []) v4)))))
 (fun s d v1=>
 xC 53 #[(.int .i64 2),p1] v1 R fun x46 v7=>
 xrD 157 #[] v7 R fun x47=>
 xuS 157 x6 x47 v7 R fun v8=>
 nrL 157 x6 v8 fun r_3=>R (.returned r_3) v8)
theorem sh_s_word_ok(h:sh_s_word p0 p1 p2 w R):Calls Tryz.prog 123 #[p0,p1,p2] w R:=
 cq (args:=[p0,p1,p2]) (good (fun _=>[]) (zO [(2000,[25]),(3008,[])]) (fun _=>0) (fun _=>none) (fun _=>[]) (zL [(2000,[]),(3008,[])]) (zT [2000,3008]) (zT [23,24,25,29,30,33,37,38,41])) Tryz.func123 rfl (by kernel_rfl) (by kernel_rfl) h
def sh_s_Program_c1(p0:Value)(w:World)(R:Ending->World->Prop):Prop:=
 LoopW (fun rec s d w1=>
  NC p0 fun x7=>
  RD Tryz.prog (Instr.fieldAt 160 x7 0) w1 (fun x8=>
  RD Tryz.prog (Instr.loadAt 158 x8) w1 (fun x9=>
  RD Tryz.prog (Instr.indexAt 158 x9 (.int .i64 0)) w1 (fun x10=>
  RD Tryz.prog (Instr.fieldAt 157 x10 0) w1 (fun x11=>
  RD Tryz.prog (Instr.loadAt 155 x11) w1 (fun x12=>
  RD Tryz.prog (bo .neq 155 (.tmp 12) (.const (.int .i64 0)) x12 (.int .i64 0)) w1 (fun x13=>
  BS x13 (NC p0 fun x15=>
  RD Tryz.prog (Instr.fieldAt 160 x15 0) w1 (fun x16=>
  RD Tryz.prog (Instr.loadAt 158 x16) w1 (fun x17=>
  RD Tryz.prog (Instr.indexAt 158 x17 (.int .i64 0)) w1 (fun x18=>
  RD Tryz.prog (Instr.fieldAt 157 x18 2) w1 (fun x19=>
  RD Tryz.prog (Instr.loadAt 3 x19) w1 (fun x20=>
  JS (fun j=>
   RD Tryz.prog (Builtin.len_ #[95] 3 #[(s 2)]) w1 (fun x22=>
   RD Tryz.prog (bo .eql 3 (.tmp 22) (.const (.int .i64 40)) x22 (.int .i64 40)) w1 (fun x23=>
   BS x23 (CA Tryz.prog 53 #[(.int .i64 4),x20] w1 (fun x25 w1_2=>
   j (sOf []) w1_2) (PC R)) (j (sOf []) w1)) (PX R)) (PX R))
   (fun s_1 d_1 w1_1=>
   NC p0 fun x27=>
   RD Tryz.prog (Instr.fieldAt 160 x27 1) w1_1 (fun x28=>
   WU Tryz.prog (Instr.storeAt 41 x28 (.slice none 0 0)) w1_1 (fun w1_3=>
   NC p0 fun x30=>
   RD Tryz.prog (Instr.fieldAt 160 x30 0) w1_3 (fun x31=>
   RD Tryz.prog (Instr.loadAt 158 x31) w1_3 (fun x32=>
   RD Tryz.prog (Instr.indexAt 158 x32 (.int .i64 0)) w1_3 (fun x33=>
   RD Tryz.prog (Instr.loadAt 157 x33) w1_3 (fun x34=>
   WR Tryz.prog (Instr.alloc 157 true (.tuple #[])) w1_3 (fun x4 w1_4=>
   WU Tryz.prog (Instr.storeAt 157 x4 x34) w1_4 (fun w1_5=>
   JS (fun j_1=>
    RD Tryz.prog (Instr.fieldAt 157 x4 0) w1_5 (fun x35=>
    RD Tryz.prog (Instr.loadAt 155 x35) w1_5 (fun x36=>
    RD Tryz.prog (bo .neq 155 (.tmp 36) (.const (.int .i64 1)) x36 (.int .i64 1)) w1_5 (fun x37=>
    BS x37 (CA Tryz.prog 54 #[p0] w1_5 (fun x39 w1_7=>
    j_1 (sOf []) w1_7) (PC R)) (j_1 (sOf []) w1_5)) (PX R)) (PX R)) (PX R))
    (fun s_2 d_2 w1_6=>
    NC p0 fun x42=>
    RD Tryz.prog (Instr.fieldAt 160 x42 0) w1_6 (fun x43=>
    RD Tryz.prog (Instr.loadAt 158 x43) w1_6 (fun x44=>
    RD Tryz.prog (Instr.sliceAt 158 x44 (some (.int .i64 1)) none none) w1_6 (fun x45=>
    NC p0 fun x46=>
    RD Tryz.prog (Instr.fieldAt 160 x46 0) w1_6 (fun x47=>
    WU Tryz.prog (Instr.storeAt 158 x47 x45) w1_6 (fun w1_8=>
    RD Tryz.prog (Instr.fieldAt 157 x4 1) w1_8 (fun x48=>
    RD Tryz.prog (Instr.loadAt 9 x48) w1_8 (fun x49=>
    RD Tryz.prog (Instr.build 163 #[(0,(.int .u8 103)),(1,(.string (bs [116,114,117,101])))]) w1_8 (fun x50=>
    WR Tryz.prog (Instr.box 163 x50) w1_8 (fun x51 w1_9=>
    RD Tryz.prog (Instr.build 132 #[(0,x49),(2,x51)]) w1_9 (fun x52=>
    WR Tryz.prog (Instr.box 132 x52) w1_9 (fun x53 w1_10=>
    JS (fun j_2=>
     CA Tryz.prog 55 #[p0,(.string (bs [40]))] w1_10 (fun x55 w1_12=>
     BS x55 (CA Tryz.prog 56 #[p0,x20] w1_12 (fun x59 w1_13=>
     NC x53 fun x60=>
     RD Tryz.prog (Instr.fieldAt 132 x60 1) w1_13 (fun x61=>
     WU Tryz.prog (Instr.storeAt 129 x61 x59) w1_13 (fun w1_14=>
     CA Tryz.prog 57 #[p0,(.string (bs [41]))] w1_14 (fun x63 w1_15=>
     j_2 (sOf []) w1_15) (PC R)) (PX R)) (PX R)) (PC R)) (j_2 (sOf []) w1_12)) (PC R))
     (fun s_3 d_3 w1_11=>
     JS (fun j_3=>
      JS (fun j_4=>
       RD Tryz.prog (Instr.fieldAt 157 x4 1) w1_11 (fun x64=>
       RD Tryz.prog (Instr.loadAt 9 x64) w1_11 (fun x65=>
       CA Tryz.prog 58 #[x65] w1_11 (fun x66 w1_18=>
       RD Tryz.prog (bo .geq 3 (.tmp 66) (.const (.int .i64 0)) x66 (.int .i64 0)) w1_18 (fun x67=>BS x67 (
       j_4 (sOf [(72,(.bool true))]) w1_18) (
       RD Tryz.prog (Instr.fieldAt 157 x4 1) w1_18 (fun x69=>
       RD Tryz.prog (Instr.loadAt 9 x69) w1_18 (fun x70=>
       RD Tryz.prog (bo .eql 9 (.tmp 70) (.const (.string (bs [109,111,100]))) x70 (.string (bs [109,111,100]))) w1_18 (fun x71=>
       j_4 (sOf [(72,x71)]) w1_18) (PX R)) (PX R)) (PX R))) (PX R)) (PC R)) (PX R)) (PX R))
       (fun s_5 d_5 w1_17=>
       BS (s_5 72) (CA Tryz.prog 53 #[(.int .i64 3),x20] w1_17 (fun x74 w1_19=>
       j_3 (sOf []) w1_19) (PC R)) (j_3 (sOf []) w1_17)))
      (fun s_4 d_4 w1_16=>
      JS (fun j_5=>
       CA Tryz.prog 55 #[p0,(.string (bs [58,45]))] w1_16 (fun x76 w1_21=>
       BS x76 (CA Tryz.prog 59 #[p0] w1_21 (fun x79 w1_22=>
       NC x53 fun x80=>
       RD Tryz.prog (Instr.fieldAt 132 x80 2) w1_22 (fun x81=>
       WU Tryz.prog (Instr.storeAt 130 x81 x79) w1_22 (fun w1_23=>
       j_5 (sOf []) w1_23) (PX R)) (PX R)) (PC R)) (j_5 (sOf []) w1_21)) (PC R))
       (fun s_6 d_6 w1_20=>
       CA Tryz.prog 57 #[p0,(.string (bs [46]))] w1_20 (fun x83 w1_24=>
       NC p0 fun x86=>
       RD Tryz.prog (Instr.fieldAt 160 x86 1) w1_24 (fun x87=>
       RD Tryz.prog (Instr.loadAt 41 x87) w1_24 (fun x88=>
       NC x53 fun x89=>
       RD Tryz.prog (Instr.fieldAt 132 x89 3) w1_24 (fun x90=>
       WU Tryz.prog (Instr.storeAt 41 x90 x88) w1_24 (fun w1_25=>
       WR Tryz.prog (Instr.buildSlice 95 1 #[(0,x53)]) w1_25 (fun x93 w1_26=>
       WR Tryz.prog (Builtin.append_ #[95,95] 95 #[(s 2),x93]) w1_26 (fun x94 w1_27=>
       rec (sOf [(2,x94)]) w1_27) (PX R)) (PX R)) (PX R)) (PX R)) (PX R)) (PX R)) (PC R))))) (PX R)) (PX R)) (PX R)) (PX R)) (PX R)) (PX R)) (PX R)) (PX R)) (PX R)) (PX R)) (PX R))) (PX R)) (PX R)) (PX R)) (PX R)) (PX R)) (PX R)) (PX R)) (PX R))) (PX R)) (PX R)) (PX R)) (PX R)) (PX R)) (R (.returned (s 2)) w1)) (PX R)) (PX R)) (PX R)) (PX R)) (PX R)) (PX R))
  (sOf [(2,(.slice none 0 0))]) w
theorem sh_s_Program_c1_ok(h:sh_s_Program_c1 p0 w R):Calls Tryz.prog 52 #[p0] w R:=
 cq (args:=[p0]) (good (zL [(1,[2])]) (zO [(4001,[]),(8001,[]),(13002,[]),(14000,[72]),(15001,[]),(17001,[])]) (fun _=>0) (fun _=>none) (zL [(1,[])]) (zL [(4001,[]),(8001,[]),(13002,[]),(14000,[]),(15001,[]),(17001,[])]) (zT [4001,8001,13002,14000,15001,17001]) (zT [13,23,37,55,71,72,76])) Tryz.func52 rfl (by kernel_rfl) (by kernel_rfl) h
def sh_s_Program(p0:Value)(w:World)(R:Ending->World->Prop):Prop:=
 xC 51 #[p0,(.func (.func 52) #[] #[])] w R fun x5 w1=>
 xrE x5 0 w1 R fun x6=>
 xrE x5 1 w1 R fun x7=>
 R (.returned (.tuple #[x6,x7])) w1
theorem sh_s_Program_ok(h:sh_s_Program p0 w R):Calls Tryz.prog 30 #[p0] w R:=
 cq (args:=[p0]) (good (fun _=>[]) (fun _=>none) (fun _=>0) (fun _=>none) (fun _=>[]) (fun _=>[]) (fun _=>false) (fun _=>false)) Tryz.func30 rfl (by kernel_rfl) (by kernel_rfl) h
def sh_s_fail(p0 p1:Value)(w:World)(R:Ending->World->Prop):Prop:=
 xrD 104 #[(0,p0),(1,p1)] w R fun x6=>
 xwB 104 x6 w R fun x7 w1=>
 WR Tryz.prog (Instr.makeInterface 100 x7) w1 (fun x8 v1=>
 RD Tryz.prog (Instr.panic x8) v1 (fun _=>
 R (.returned (.tuple #[])) v1) (PX R)) (PX R)
theorem sh_s_fail_ok(h:sh_s_fail p0 p1 w R):Calls Tryz.prog 53 #[p0,p1] w R:=
 cq (args:=[p0,p1]) (good (fun _=>[]) (fun _=>none) (fun _=>0) (fun _=>none) (fun _=>[]) (fun _=>[]) (fun _=>false) (fun _=>false)) Tryz.func53 rfl (by kernel_rfl) (by kernel_rfl) h
def sh_a_Tell(p0:Value)(w:World)(R:Ending->World->Prop):Prop:=
 xwA 100 w R fun x4 w1=>
 xwA 32 w1 R fun x5 v1=>
 xrO .eql 57 7 p0 .nilIface v1 R fun x8=>
 BS x8 (R (.returned (.tuple #[(.int .i64 0),(.int .i64 (-1))])) v1) (WR Tryz.prog (Instr.makeInterface 102 x4) v1 (fun x11 v2=>
 xC 31 #[p0,x11] v2 R fun x12 v3=>
 BS x12 (nrL 100 x4 v3.drew fun x13=>
 nH 104 0 32 x13 v3.drew fun x16=>
 nrL 100 x4 v3.drew fun x17=>
 nH 104 1 3 x17 v3.drew fun x20=>
 R (.returned (.tuple #[x16,x20])) v3.drew) (WR Tryz.prog (Instr.makeInterface 105 x5) v3 (fun x23 v4=>
 xC 31 #[p0,x23] v4 R fun x24 v5=>
 BS x24 (xrL 32 x5 v5 R fun x25=>
 R (.returned (.tuple #[x25,(.int .i64 (-1))])) v5) (R (.returned (.tuple #[(.int .i64 (-1)),(.int .i64 (-1))])) v5)) (PX R))) (PX R))
theorem sh_a_Tell_ok(h:sh_a_Tell p0 w R):Calls Tryz.prog 14 #[p0] w R:=
 cq (args:=[p0]) (good (fun _=>[]) (fun _=>none) (zN [(6,10)]) (fun _=>none) (fun _=>[]) (fun _=>[]) (fun _=>false) (zT [6,8,9,12,21,24])) Tryz.func14 rfl (by kernel_rfl) (by kernel_rfl) h
end
end Go.Proofs.YtilpjhceemaplaaGreatDoor
namespace Go.Proofs.YtilpjhceemaplaaGreatDoor.Sx
open Go
def isPtrT(P:Program)(t:TypeId):Bool:=match P.underlying t with | some (.pointer _)=>true | _=>false
def isIfT(P:Program)(t:TypeId):Bool:=match P.underlying t with | some (.interface _)=>true | _=>false
section
variable{P:Program}{t:TypeId}{x y:Operand}{w:World}{K:Value->Prop}{X:Value->World->Prop}
theorem eq_run_p(h:isPtrT P t=true)(p:Option Addr):(Op.equal t (.pointer p) (.pointer none)).run P w = .ok p.isNone w:=by
 unfold isPtrT at h
 split at h
 ·rename_i e he
  exact run_equal_pointer_nil w t p (by unfold Program.pointee;rw[he])
 ·cases h
theorem rd_eqp(h:isPtrT P t=true)(p:Option Addr):RD P (bo .eql t x y (.pointer p) (.pointer none)) w K X=K (.bool p.isNone):=
 rd_ok (by simp [bo,eqGuard,binOp,Sem.run_bind,eq_run_p h])
theorem rd_nep(h:isPtrT P t=true)(p:Option Addr):RD P (bo .neq t x y (.pointer p) (.pointer none)) w K X=K (.bool !p.isNone):=
 rd_ok (by simp [bo,eqGuard,binOp,Sem.run_bind,eq_run_p h])
theorem isIfT_m(h:isIfT P t=true):P.underlying t=some (.interface (P.methodsAt t)):=by
 unfold isIfT at h
 split at h
 ·rename_i e he
  unfold Program.methodsAt
  rw[he]
 ·cases h
theorem rd_eqi1(h:isIfT P t=true)(u:TypeId)(v:Value):RD P (bo .eql t x y (.iface u v) .nilIface) w K X=K (.bool false):=
 rd_ok (by simp [bo,eqGuard,binOp,Sem.run_bind,run_equal_held_nil w t u v (isIfT_m h)])
theorem rd_nei1(h:isIfT P t=true)(u:TypeId)(v:Value):RD P (bo .neq t x y (.iface u v) .nilIface) w K X=K (.bool true):=
 rd_ok (by simp [bo,eqGuard,binOp,Sem.run_bind,run_equal_held_nil w t u v (isIfT_m h)])
theorem rd_eqi0(h:isIfT P t=true)(c:Value):RD P (bo .eql t x (.const c) .nilIface .nilIface) w K X=K (.bool true):=
 rd_ok (by simp [bo,eqGuard,binOp,Sem.run_bind,run_equal_nil_nil w t (isIfT_m h)])
theorem rd_nei0(h:isIfT P t=true)(c:Value):RD P (bo .neq t x (.const c) .nilIface .nilIface) w K X=K (.bool false):=
 rd_ok (by simp [bo,eqGuard,binOp,Sem.run_bind,run_equal_nil_nil w t (isIfT_m h)])
def arrOf(P:Program)(T:TypeId):Option (Nat×TypeId):=match P.underlying T with | some (.array n e)=>some (n,e) | _=>none
def xaK(cs:Array Value)(i:Int)(K:Value->Prop)(D:Prop):RT (K,D):=match cs[i.toNat]? with | some v=>K v | none=>D
theorem xaK_some{cs:Array Value}{i:Int}{K:Value->Prop}{D:Prop}{v:Value}(h:cs[i.toNat]?=some v):xaK cs i K D=K v:=by unfold xaK;rw[h]
theorem rd_xa{T e:TypeId}{n:Nat}{cs:Array Value}{k:IntKind}{i:Int}(h:arrOf P T=some (n,e))(he:(isOne P e && sized P e 1)=true)(h0:0≤i)(h1:i<n) :
  RD P (Instr.index T (.agg cs) (.int k i)) w K X=xaK cs i K (RD0 P (Instr.index T (.agg cs) (.int k i)) w K X):=by
 unfold xaK
 split
 ·rename_i v hv
  refine rd_ok ?_
  unfold arrOf at h
  split at h
  ·rename_i n' e' hu
   simp only[Option.some.injEq,Prod.mk.injEq] at h
   obtain⟨rfl,rfl⟩:=h
   simp only[Bool.and_eq_true] at he
   simp only[Instr.index,Sem.run_bind,asIntOf,Sem.run_pure,Result.andThen_ok,run_underlying hu,if_pos (And.intro h0 h1),sized_run he.2,Nat.mul_one]
   unfold part
   simp only[Sem.run_bind,isOne_run he.1,Result.andThen_ok,hv]
   simp
  ·cases h
 ·rfl
end
def zG1:=And.intro @jn_e (And.intro @nc_ptr (And.intro @nc_iface (And.intro @nc_func (And.intro @bs_true (And.intro @bs_false (And.intro @bs_pos (And.intro @bs_neg (And.intro @bo_add (And.intro @bo_sub (And.intro @bo_mul (And.intro @bo_lss (And.intro @bo_leq (And.intro @bo_gtr (And.intro @bo_geq (And.intro @bo_eql (And.intro @bo_neq (And.intro @bo_eqs (And.intro @bo_nes (And.intro @un_not (And.intro @un_neg (And.intro @rd_extract0 (And.intro @rd_extract1 (And.intro @rd_extract2 (And.intro @rd_panic_iface (And.intro @wr_func (And.intro @wr_box (And.intro @ldK_e (And.intro @ldV_some (And.intro @xaK_some (And.intro @ldN_e (And.intro @stK_e (And.intro @blK_some (And.intro @brK_some (And.intro @hp_alloc_old (And.intro @hp_alloc_new (And.intro @hp_upd_same (And.intro @hp_upd_other (And.intro @hp_drew (And.intro @sz_drew (And.intro @size_upd (And.intro @size_alloc (And.intro @upd_upd (And.intro @cells_agg (And.intro @cells_aggA (And.intro @cells_stringA (And.intro @cells_intA (And.intro @cells_sliceA (And.intro @cells_pointerA (And.intro @cells_int (And.intro @cells_bool (And.intro @cells_string (And.intro @cells_slice (And.intro @cells_pointer (And.intro @cells_iface (And.intro @cells_nilIface (And.intro @cells_func (And.intro @cells_map (And.intro @one_int (And.intro @one_bool (And.intro @one_string (And.intro @one_slice (And.intro @one_pointer (And.intro @one_iface (And.intro @one_nilIface (And.intro @one_func (And.intro @one_map (And.intro @i64w (And.intro @u8w (And.intro @df_func (And.intro @lv_ret (@lv_panic)))))))))))))))))))))))))))))))))))))))))))))))))))))))))))))))))))))))
def zG2:=And.intro @Int.toNat_natCast (And.intro @Option.isNone_none.{0} (And.intro @Option.isNone_some.{0} (And.intro @List.getElem?_toArray.{0} (And.intro @List.getElem?_cons_zero.{0} (And.intro @List.getElem?_cons_succ.{0} (And.intro @List.setIfInBounds_toArray.{0} (And.intro @List.set_cons_zero.{0} (And.intro @List.set_cons_succ.{0} (And.intro @List.size_toArray.{0} (And.intro @List.length_cons.{0} (And.intro @List.length_nil.{0} (And.intro @List.drop_zero.{0} (And.intro @List.drop_succ_cons.{0} (And.intro @List.take_succ_cons.{0} (And.intro @List.take_zero.{0} (And.intro @List.take_nil.{0} (And.intro @List.drop_nil.{0} (And.intro @List.all_cons.{0} (And.intro @List.all_nil.{0} (And.intro @Bool.and_true (And.intro @Bool.true_and (And.intro @Nat.zero_add (And.intro @Nat.add_zero (And.intro @Nat.mul_one (And.intro @and_self (And.intro @and_true (And.intro @true_and (And.intro @decide_true (And.intro @decide_false (And.intro @Bool.not_true (And.intro @Bool.not_false (And.intro @not_true_eq_false (@not_false_eq_true)))))))))))))))))))))))))))))))))
theorem zA {p q : Prop} (a : p) (b : q) : p /\ q := ⟨a, b⟩
def zS := (zA @size_alloc (zA @sz_drew (zA @size_upd (zA @List.size_toArray.{0} (zA @List.length_cons.{0} @List.length_nil.{0})))))
def zH := (zA @hp_alloc_old (zA @hp_alloc_new (zA @hp_upd_same (zA @hp_upd_other (zA @hp_drew (zA @sz_drew (zA @size_upd @size_alloc)))))))
def zG0 := (zA @Pr.eq_1 (zA @PX.eq_1 (zA @PC.eq_1 (zA @NX.eq_1 (zA @ends.eq_1 (zA @ends.eq_2 (zA @ends.eq_3 (zA @fillL.eq_1 (zA @fillL.eq_2 (zA @wrL.eq_1 (zA @wrL.eq_2 (zA @sOf.eq_1 (zA @sOf.eq_2 (zA @forall_const.{0} (zA @forall_const.{1} (zA @eq_self.{1} (zA @nC.eq_1 (zA @nrD.eq_1 (zA @nrF.eq_1 (zA @nrI.eq_1 (zA @nrL.eq_1 (zA @nrN.eq_1 (zA @nrO.eq_1 (zA @nrT.eq_1 (zA @nuS.eq_1 (zA @nwA.eq_1 (zA @nwB.eq_1 (zA @sD.eq_1 (zA @sF.eq_1 (zA @sI.eq_1 (zA @sL.eq_1 (zA @sN.eq_1 (zA @xC.eq_1 (zA @xrD.eq_1 (zA @xrE.eq_1 (zA @xrF.eq_1 (zA @xrI.eq_1 (zA @xrL.eq_1 (zA @xrN.eq_1 (zA @xrO.eq_1 (zA @xrT.eq_1 (zA @xuS.eq_1 (zA @xwA.eq_1 (zA @xwB.eq_1 (zA @yrD.eq_1 (zA @yuS.eq_1 (zA @ywA.eq_1 (zA @ywB.eq_1 (zA @sG.eq_1 (zA @nG.eq_1 (zA @xG.eq_1 (zA @nH.eq_1 (zA @xH.eq_1 (zA zG1 zG2))))))))))))))))))))))))))))))))))))))))))))))))))))))
def zSh := (zA @nC.eq_1 (zA @nrD.eq_1 (zA @nrF.eq_1 (zA @nrI.eq_1 (zA @nrL.eq_1 (zA @nrN.eq_1 (zA @nrO.eq_1 (zA @nrT.eq_1 (zA @nuS.eq_1 (zA @nwA.eq_1 (zA @nwB.eq_1 (zA @sD.eq_1 (zA @sF.eq_1 (zA @sI.eq_1 (zA @sL.eq_1 (zA @sN.eq_1 (zA @xC.eq_1 (zA @xrD.eq_1 (zA @xrE.eq_1 (zA @xrF.eq_1 (zA @xrI.eq_1 (zA @xrL.eq_1 (zA @xrN.eq_1 (zA @xrO.eq_1 (zA @xrT.eq_1 (zA @xuS.eq_1 (zA @xwA.eq_1 (zA @xwB.eq_1 (zA @yrD.eq_1 (zA @yuS.eq_1 (zA @ywA.eq_1 (zA @ywB.eq_1 (zA @sG.eq_1 (zA @nG.eq_1 (zA @xG.eq_1 (zA @nH.eq_1 @xH.eq_1))))))))))))))))))))))))))))))))))))
end Go.Proofs.YtilpjhceemaplaaGreatDoor.Sx
