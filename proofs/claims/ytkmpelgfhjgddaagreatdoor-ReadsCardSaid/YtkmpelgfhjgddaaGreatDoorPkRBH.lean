/- A part of one proof (PW5); no conditions beyond what each theorem names. -/
import Derived.Test.YtkmpelgfhjgddaaGreatDoorPkRBG
set_option linter.all false
set_option linter.unusedVariables false
set_option linter.unusedSimpArgs false
namespace Go.Proofs.YtkmpelgfhjgddaaGreatDoor
open Go.RowKit Sx
set_option maxRecDepth 100000
structure CW (f : Nat) : Prop where
  tm : ∀ {ρ : Nat → Nat} {n : Nat} {tr : P.Tr} {wb sb so T : Nat} {cs : Array Value} {w : World} {s : P.Ws} {t : P.Tm} {v : Value} {least : Nat} {r : Option P.Ws}, WFix tr wb sb so T cs → WSt ρ n tr wb sb so T cs w s → IsT ρ n w v t → P.TmOk t →
    s.phi ≤ 900000100 → s.seen.length ≤ s.out.length → P.wTm tr f t least s = some r → Calls Tryz.prog 38 #[.pointer (some ⟨wb, 0, none⟩), v, .int .i64 least] w (WPost ρ n tr wb sb so T cs w s.phi r)
  comp : ∀ {ρ : Nat → Nat} {n : Nat} {tr : P.Tr} {wb sb so T : Nat} {cs : Array Value} {w : World} {s : P.Ws} {name : P.Bs} {args : List P.Tm} {b : Nat} {least : Nat} {r : Option P.Ws}, WFix tr wb sb so T cs → WSt ρ n tr wb sb so T cs w s →
    IsT ρ n w (.iface 174 (.pointer (some ⟨b, 0, none⟩))) (.comp name args) → P.TmOk (.comp name args) →
    s.phi ≤ 900000100 - 60 → s.seen.length ≤ s.out.length → P.wComp tr f name args least s = some r → Calls Tryz.prog 74 #[.pointer (some ⟨wb, 0, none⟩), .pointer (some ⟨b, 0, none⟩), .int .i64 least] w (WPost ρ n tr wb sb so T cs w (s.phi + 30) r)
  list : ∀ {ρ : Nat → Nat} {n : Nat} {tr : P.Tr} {wb sb so T : Nat} {cs : Array Value} {w : World} {s : P.Ws} {name : P.Bs} {x y : P.Tm} {b : Nat} {r : Option P.Ws}, WFix tr wb sb so T cs → WSt ρ n tr wb sb so T cs w s →
    IsT ρ n w (.iface 174 (.pointer (some ⟨b, 0, none⟩))) (.comp name [x, y]) → P.TmOk (.comp name [x, y]) →
    s.phi ≤ 900000100 - 60 → s.seen.length ≤ s.out.length → P.wList tr f 91 x y s = some r → Calls Tryz.prog 92 #[.pointer (some ⟨wb, 0, none⟩), .pointer (some ⟨b, 0, none⟩)] w (WPost ρ n tr wb sb so T cs w (s.phi + 30) r)
theorem WPost.of {ρ : Nat → Nat} {n : Nat} {tr : P.Tr} {wb sb so T : Nat} {cs : Array Value} {w w1 w' : World} {B B' : Nat} {r : Option P.Ws} {e : Ending} (h : WPost ρ n tr wb sb so T cs w1 B r e w') (hf : WFr wb sb w w1) (hB : B ≤ B') : WPost ρ n tr wb sb so T cs w B' r e w' := by
  obtain ⟨h1, h2⟩ := h
  refine ⟨hf.trans h1, ?_⟩
  cases r with
  | some s => exact h2
  | none =>
    obtain ⟨e1, e2, nm, out, e3, e4⟩ := h2
    exact ⟨e1, e2, nm, out, e3, by omega⟩
theorem lookupNm {ρ : Nat → Nat} {n : Nat} {tr : P.Tr} {wb : Nat} {nm : Value} {w : World} {seen : List Nat} (hst : StV ρ n tr w) (hn : NmA ρ w wb nm seen) (hsn : ∀ i ∈ seen, i < n) {i : Nat} (hi : i < n) {K : Value → Prop} {X : Value → World → Prop} :
    RD Tryz.prog (Instr.lookup 119 nm (.pointer (some ⟨ρ i, 0, none⟩)) true) w K X =
      match seen.idxOf? i with
      | some k => K (.tuple #[.int .i64 ((k + 1 : Nat)), .bool true])
      | none => K (.tuple #[.int .i64 0, .bool false]) := by
  have hm : mapT Tryz.prog 119 = some (105, 3) := by kernel_rfl
  have hz : zeroB Tryz.prog 3 = some (.int .i64 0) := by kernel_rfl
  have hp : isPtrS Tryz.prog 105 = true := by kernel_rfl
  obtain ⟨ref, hb, -⟩ := hst.var i hi
  rcases hn with ⟨rfl, rfl⟩ | ⟨r, c, es, rfl, h1, h2, h3⟩
  · rw [rd_lookup_nil hm (isPtrS_T hp) hz]
    rfl
  · rw [rd_lookupP hm hp hz h2 h3 (fun c v hc => ?_) hb]
    · rw [idxP_names hst.inj hi seen 0 0 hsn]
      cases seen.idxOf? i with
      | none => rfl
      | some k => simp
    · obtain ⟨j, h4, rfl⟩ := namesL_mem hc
      obtain ⟨ref, h5, -⟩ := hst.var j (hsn j h4)
      exact ⟨_, _, h5⟩
theorem WSx.name {ρ : Nat → Nat} {n : Nat} {tr : P.Tr} {wb sb so T : Nat} {cs : Array Value} {w : World} {s : P.Ws} {r c : Nat} {es : Array MapEntry} (h : WSx ρ n tr wb sb so T cs (.map (some r)) w s) (hx : WFix tr wb sb so T cs) (hr : wb < r)
    (h2 : w.heap[r]? = some (.map es c)) (h3 : entsP (namesL ρ s.seen 0) es.toList) {i : Nat} (hi : i < n) {e : MapEntry} (hk : e.key = .pointer (some ⟨ρ i, 0, none⟩)) (hv : e.val = .int .i64 ((s.seen.length + 1 : Nat))) :
    WSx ρ n tr wb sb so T cs (.map (some r)) (upd w r (.map (es.push e) (c + 1))) { s with seen := s.seen ++ [i] } ∧ WFr wb sb w (upd w r (.map (es.push e) (c + 1))) := by
  have hf : WFr wb sb w (upd w r (.map (es.push e) (c + 1))) := ⟨rfl, rfl, rfl, by rw [size_upd]; exact Nat.le_refl _, fun b o hb hm => by
    by_cases hbr : b = r
    · subst hbr
      rw [h2] at hb
      injection hb with hb
      exact absurd (.inr (.inr ⟨hr, .inr ⟨_, _, hb.symm⟩⟩)) hm
    · rw [hp_upd_other hbr]; exact hb⟩
  have lr := ltOf h2
  refine ⟨⟨h.st.keep (h.kv hx hf), ?_, ?_, ?_, h.tabK hx hf, ?_⟩, hf⟩
  · obtain ⟨ad, buf, b1, b2, b3⟩ := h.bu
    refine ⟨ad, buf, b1, by rw [hp_upd_other (by omega)]; exact b2, b3.1, ?_⟩
    rcases b3.2 with b3 | ⟨g, cap, cur, e1, e2, e3, e4⟩
    · exact .inl b3
    · refine .inr ⟨g, cap, cur, e1, e2, ?_, e4⟩
      rw [hp_upd_other]
      · exact e3
      · rintro rfl
        rw [h2] at e3
        cases e3
  · refine .inr ⟨r, c + 1, _, rfl, hr, hp_upd_same rfl lr, ?_⟩
    rw [Array.toList_push, namesL_snoc]
    refine entsP_push h3 hk ?_
    rw [hv]
    simp
  · rw [hp_upd_other]
    · exact h.fu
    · rintro rfl
      have := h.fu
      rw [h2] at this
      cases this
  · intro a ha
    simp only [List.mem_append, List.mem_cons, List.not_mem_nil, or_false] at ha
    rcases ha with ha | rfl
    · exact h.sn a ha
    · exact hi
theorem WSx.names {ρ : Nat → Nat} {n : Nat} {tr : P.Tr} {wb sb so T : Nat} {cs : Array Value} {w : World} {s : P.Ws} {ad buf : Value} (h : WSx ρ n tr wb sb so T cs (.map none) w s) (hx : WFix tr wb sb so T cs) (h0 : s.seen = [])
    (had : ad = .pointer none ∨ ad = .pointer (some ⟨wb, 0, none⟩)) (hb : w.heap[wb]? = some (.cells #[ad, buf, .pointer (some ⟨sb, so, none⟩), .map none] 121 (0, 0))) (ho : w.ownsRow (wb + 1) 5 1 buf s.out.length (bytesV s.out))
    {w' : World} (hw' : w' = upd (w.alloc (.map #[] 0)) wb (.cells #[ad, buf, .pointer (some ⟨sb, so, none⟩), .map (some w.heap.size)] 121 (0, 0))) :
    WSx ρ n tr wb sb so T cs (.map (some w.heap.size)) w' s ∧ WFr wb sb w w' ∧ wb < w.heap.size ∧ w'.heap[w.heap.size]? = some (.map #[] 0) := by
  subst hw'
  have lb := ltOf hb
  have lf := ltOf h.fu
  have hne := hx.ne
  have hf : WFr wb sb w (upd (w.alloc (.map #[] 0)) wb (.cells #[ad, buf, .pointer (some ⟨sb, so, none⟩), .map (some w.heap.size)] 121 (0, 0))) := ((FrM.refl _ _).alloc _).upd (.inl fun _ => .inl rfl)
  have hnew : (upd (w.alloc (.map #[] 0)) wb (.cells #[ad, buf, .pointer (some ⟨sb, so, none⟩), .map (some w.heap.size)] 121 (0, 0))).heap[w.heap.size]? = some (.map #[] 0) := by
    rw [hp_upd_other (by omega), hp_alloc_new rfl]
  refine ⟨⟨h.st.keep (h.kv hx hf), ?_, ?_, ?_, h.tabK hx hf, h.sn⟩, hf, lb, hnew⟩
  · exact ⟨ad, buf, had, hp_upd_same rfl (by rw [size_alloc]; omega), own_upd (ho.alloc _) (by omega)⟩
  · exact .inr ⟨_, _, _, rfl, lb, hnew, by rw [h0]; rfl⟩
  · rw [hp_upd_other hne, hp_alloc_old lf]; exact h.fu
set_option maxHeartbeats 1000000 in
theorem cwTm {f : Nat} (ih : CW f) {ρ : Nat → Nat} {n : Nat} {tr : P.Tr} {wb sb so T : Nat} {cs : Array Value} {w : World} {s : P.Ws} {t : P.Tm} {v : Value} {least : Nat} {r : Option P.Ws} (hx : WFix tr wb sb so T cs) (hs : WSt ρ n tr wb sb so T cs w s) (hv : IsT ρ n w v t) (hok : P.TmOk t)
    (hB : s.phi ≤ 900000100) (hsn : s.seen.length ≤ s.out.length) (hr : P.wTm tr (f + 1) t least s = some r) : Calls Tryz.prog 38 #[.pointer (some ⟨wb, 0, none⟩), v, .int .i64 least] w (WPost ρ n tr wb sb so T cs w s.phi r) := by
  obtain ⟨nm, h⟩ := hs
  obtain ⟨ad, buf, had, hb, hown⟩ := id h.bu
  have lb := ltOf hb
  have hphi : s.phi = s.out.length + 60 * s.fuel := rfl
  rw [P.wTm] at hr
  refine sh_Pt_Writer_Term_ok ?_
  simp (disch := first | assumption | omega | ((simp only [size_alloc, sz_drew, size_upd, List.size_toArray, List.length_cons, List.length_nil]) <;> omega) | decide) only [sh_Pt_Writer_Term, Pr, PX, PC, NX, ends, fillL, wrL, sOf, Nat.reduceAdd, Nat.reduceMul, Nat.reduceLeDiff, Nat.reduceEqDiff, Int.reduceToNat, Int.reduceAdd, Int.reduceLT, Int.reduceLE, ↓reduceIte, forall_const, eq_self, zG1, zG2, eqm_119, fa_121_0, fa_121_1, fa_121_2, ld_111, ld_119, mm_119, st_119, ta_107_105, ta_107_168, ta_107_171, ta_107_174, tn_107_105, tn_107_168, tn_107_171, tn_107_174, hb]
  refine (tSpend h.fu hx.sz ⟨by omega, by omega⟩).mono ?_
  rintro e w1 ⟨he, hw1⟩
  by_cases hf0 : s.fuel = 0
  · rw [if_pos hf0] at hr
    obtain rfl := Option.some.inj hr
    rw [if_pos (by omega)] at he
    subst he
    simp only [ends, PC]
    have hf1 : WFr wb sb w w1 := by rw [hw1]; exact (FrM.refl _ _).upd (.inl fun _ => .inr (.inl rfl))
    refine ⟨hf1, rfl, ?_, nm, s.out, ?_, by omega⟩
    · rw [hw1, hp_upd_same rfl (ltOf h.fu), hf0]
      rfl
    · rw [hw1]; exact h.bu.other hx.ne h.fu hx.T1 _
  · rw [if_neg hf0] at hr
    rw [if_neg (by omega)] at he
    subst he
    have h1 := h.fuel hx (s.fuel - 1)
    rw [show ((s.fuel - 1 : Nat) : Int) = (s.fuel : Int) - 1 by omega, ← hw1] at h1
    have hf1 : WFr wb sb w w1 := by rw [hw1]; exact (FrM.refl _ _).upd (.inl fun _ => .inr (.inl rfl))
    clear hw1
    simp (disch := first | assumption | omega | ((simp only [size_alloc, sz_drew, size_upd, List.size_toArray, List.length_cons, List.length_nil]) <;> omega) | decide) only [sh_Pt_Writer_Term, Pr, PX, PC, NX, ends, fillL, wrL, sOf, Nat.reduceAdd, Nat.reduceMul, Nat.reduceLeDiff, Nat.reduceEqDiff, Int.reduceToNat, Int.reduceAdd, Int.reduceLT, Int.reduceLE, ↓reduceIte, forall_const, eq_self, zG1, zG2, eqm_119, fa_121_0, fa_121_1, fa_121_2, ld_111, ld_119, mm_119, st_119, ta_107_105, ta_107_168, ta_107_171, ta_107_174, tn_107_105, tn_107_168, tn_107_171, tn_107_174]
    cases hw : P.walkN tr f t with
    | none => rw [hw] at hr; cases hr
    | some t' =>
    rw [hw] at hr
    refine (tWalk h1.st (hv.keep (h.kv hx hf1).toT) hw).mono ?_
    rintro e w2 ⟨rfl, u, rfl, hu⟩
    have hok' := P.walkN_ok hx.tok hok hw
    obtain ⟨ad1, buf1, had1, hb1, hown1⟩ := id h1.bu
    cases t' with
    | atom a =>
      unfold IsTm at hu
      subst hu
      unfold P.TmOk at hok'
      simp (disch := first | assumption | omega | ((simp only [size_alloc, sz_drew, size_upd, List.size_toArray, List.length_cons, List.length_nil]) <;> omega) | decide) only [sh_Pt_Writer_Term, Pr, PX, PC, NX, ends, fillL, wrL, sOf, Nat.reduceAdd, Nat.reduceMul, Nat.reduceLeDiff, Nat.reduceEqDiff, Int.reduceToNat, Int.reduceAdd, Int.reduceLT, Int.reduceLE, ↓reduceIte, forall_const, eq_self, zG1, zG2, eqm_119, fa_121_0, fa_121_1, fa_121_2, ld_111, ld_119, mm_119, st_119, ta_107_105, ta_107_168, ta_107_171, ta_107_174, tn_107_105, tn_107_168, tn_107_171, tn_107_174]
      refine (wWrite h1 hx a (by simp only; omega)).mono ?_
      rintro e w3 ⟨⟨v3, rfl⟩, h3, hf3⟩
      simp (disch := first | assumption | omega | ((simp only [size_alloc, sz_drew, size_upd, List.size_toArray, List.length_cons, List.length_nil]) <;> omega) | decide) only [sh_Pt_Writer_Term, Pr, PX, PC, NX, ends, fillL, wrL, sOf, Nat.reduceAdd, Nat.reduceMul, Nat.reduceLeDiff, Nat.reduceEqDiff, Int.reduceToNat, Int.reduceAdd, Int.reduceLT, Int.reduceLE, ↓reduceIte, forall_const, eq_self, zG1, zG2, eqm_119, fa_121_0, fa_121_1, fa_121_2, ld_111, ld_119, mm_119, st_119, ta_107_105, ta_107_168, ta_107_171, ta_107_174, tn_107_105, tn_107_168, tn_107_171, tn_107_174]
      obtain rfl := Option.some.inj hr
      exact ⟨hf1.trans hf3, rfl, _, h3⟩
    | int a =>
      unfold IsTm at hu
      subst hu
      unfold P.TmOk at hok'
      simp (disch := first | assumption | omega | ((simp only [size_alloc, sz_drew, size_upd, List.size_toArray, List.length_cons, List.length_nil]) <;> omega) | decide) only [sh_Pt_Writer_Term, Pr, PX, PC, NX, ends, fillL, wrL, sOf, Nat.reduceAdd, Nat.reduceMul, Nat.reduceLeDiff, Nat.reduceEqDiff, Int.reduceToNat, Int.reduceAdd, Int.reduceLT, Int.reduceLE, ↓reduceIte, forall_const, eq_self, zG1, zG2, eqm_119, fa_121_0, fa_121_1, fa_121_2, ld_111, ld_119, mm_119, st_119, ta_107_105, ta_107_168, ta_107_171, ta_107_174, tn_107_105, tn_107_168, tn_107_171, tn_107_174]
      refine ⟨fun _ => True, trivial, ?_⟩
      simp (disch := first | assumption | omega | ((simp only [size_alloc, sz_drew, size_upd, List.size_toArray, List.length_cons, List.length_nil]) <;> omega) | decide) only [sh_Pt_Writer_Term, Pr, PX, PC, NX, ends, fillL, wrL, sOf, Nat.reduceAdd, Nat.reduceMul, Nat.reduceLeDiff, Nat.reduceEqDiff, Int.reduceToNat, Int.reduceAdd, Int.reduceLT, Int.reduceLE, ↓reduceIte, forall_const, eq_self, zG1, zG2, eqm_119, fa_121_0, fa_121_1, fa_121_2, ld_111, ld_119, mm_119, st_119, ta_107_105, ta_107_168, ta_107_171, ta_107_174, tn_107_105, tn_107_168, tn_107_171, tn_107_174]
      refine rds (.pointer (some ⟨wb, 0, none⟩)) (fun w' _ => by simp (disch := first | assumption | omega | ((simp only [size_alloc, sz_drew, size_upd, List.size_toArray, List.length_cons, List.length_nil]) <;> omega) | decide) only [sh_Pt_Writer_Term, Pr, PX, PC, NX, ends, fillL, wrL, sOf, Nat.reduceAdd, Nat.reduceMul, Nat.reduceLeDiff, Nat.reduceEqDiff, Int.reduceToNat, Int.reduceAdd, Int.reduceLT, Int.reduceLE, ↓reduceIte, forall_const, eq_self, zG1, zG2, eqm_119, fa_121_0, fa_121_1, fa_121_2, ld_111, ld_119, mm_119, st_119, ta_107_105, ta_107_168, ta_107_171, ta_107_174, tn_107_105, tn_107_168, tn_107_171, tn_107_174]) ?_
      refine (tFormatInt a hok'.1 hok'.2 _ (h1.ext ((FrM.refl _ _).drew)).tab).mono ?_
      rintro e w3 ⟨rfl, hE3⟩
      have h3 := h1.ext (((FrM.refl _ _).drew).trans hE3)
      refine ⟨trivial, ?_⟩
      have hl := decI_len a hok'.1 hok'.2
      refine (wWrite h3 hx _ (by simp only; omega)).mono ?_
      rintro e w4 ⟨⟨v3, rfl⟩, h4, hf4⟩
      simp (disch := first | assumption | omega | ((simp only [size_alloc, sz_drew, size_upd, List.size_toArray, List.length_cons, List.length_nil]) <;> omega) | decide) only [sh_Pt_Writer_Term, Pr, PX, PC, NX, ends, fillL, wrL, sOf, Nat.reduceAdd, Nat.reduceMul, Nat.reduceLeDiff, Nat.reduceEqDiff, Int.reduceToNat, Int.reduceAdd, Int.reduceLT, Int.reduceLE, ↓reduceIte, forall_const, eq_self, zG1, zG2, eqm_119, fa_121_0, fa_121_1, fa_121_2, ld_111, ld_119, mm_119, st_119, ta_107_105, ta_107_168, ta_107_171, ta_107_174, tn_107_105, tn_107_168, tn_107_171, tn_107_174]
      obtain rfl := Option.some.inj hr
      exact ⟨(hf1.trans (FrM.toM (((FrM.refl _ _).drew).trans hE3))).trans hf4, rfl, _, h4⟩
    | var i =>
      unfold IsTm at hu
      obtain ⟨hi, rfl⟩ := hu
      simp (disch := first | assumption | omega | ((simp only [size_alloc, sz_drew, size_upd, List.size_toArray, List.length_cons, List.length_nil]) <;> omega) | decide) only [sh_Pt_Writer_Term, Pr, PX, PC, NX, ends, fillL, wrL, sOf, Nat.reduceAdd, Nat.reduceMul, Nat.reduceLeDiff, Nat.reduceEqDiff, Int.reduceToNat, Int.reduceAdd, Int.reduceLT, Int.reduceLE, ↓reduceIte, forall_const, eq_self, zG1, zG2, eqm_119, fa_121_0, fa_121_1, fa_121_2, ld_111, ld_119, mm_119, st_119, ta_107_105, ta_107_168, ta_107_171, ta_107_174, tn_107_105, tn_107_168, tn_107_171, tn_107_174, hb1]
      obtain ⟨s1, hs1⟩ : ∃ s1 : P.Ws, s1 = { s with fuel := s.fuel - 1 } := ⟨_, rfl⟩
      have ho1 : s1.out = s.out := by rw [hs1]
      have hq1 : s1.seen = s.seen := by rw [hs1]
      rw [← hs1] at h1 hr
      have htail : ∀ (k : Nat) (nm' : Value) (s2 : P.Ws) (w' : World) (x : Value), x = .int .i64 (k : Int) → k ≤ 1000000000 → WSx ρ n tr wb sb so T cs nm' w' s2 → WFr wb sb w2 w' → s2.out = s.out → r = some (s2.add (95 :: P.decN k)) →
          Pr (HD fun S_1 => S_1 w'.drew ∧ NC (.pointer (some ⟨wb, 0, none⟩)) fun x72 => RDS Tryz.prog (Instr.fieldAt 121 x72 0) S_1 (fun x73 =>
            CA Tryz.prog 73 #[x] w'.drew (fun x75 w1_10 => S_1 w1_10 ∧ RD Tryz.prog (bo .add 9 (.const (.string (bs [95]))) (.tmp 75) (.string (bs [95])) x75) w1_10 (fun x76 =>
              CA Tryz.prog 71 #[x73, x76] w1_10 (fun x77 w1_11 => WPost ρ n tr wb sb so T cs w s.phi r (.returned (.tuple #[])) w1_11) NC0) NX) NC0)) := by
        intro k nm' s2 w' x hxk hk h2 hf2 ho2 hr2
        subst hxk
        refine ⟨fun _ => True, trivial, ?_⟩
        refine toPr ?_
        simp (disch := first | assumption | omega | ((simp only [size_alloc, sz_drew, size_upd, List.size_toArray, List.length_cons, List.length_nil]) <;> omega) | decide) only [sh_Pt_Writer_Term, Pr, PX, PC, NX, ends, fillL, wrL, sOf, Nat.reduceAdd, Nat.reduceMul, Nat.reduceLeDiff, Nat.reduceEqDiff, Int.reduceToNat, Int.reduceAdd, Int.reduceLT, Int.reduceLE, ↓reduceIte, forall_const, eq_self, zG1, zG2, eqm_119, fa_121_0, fa_121_1, fa_121_2, ld_111, ld_119, mm_119, st_119, ta_107_105, ta_107_168, ta_107_171, ta_107_174, tn_107_105, tn_107_168, tn_107_171, tn_107_174]
        refine rds (.pointer (some ⟨wb, 0, none⟩)) (fun w' _ => by simp (disch := first | assumption | omega | ((simp only [size_alloc, sz_drew, size_upd, List.size_toArray, List.length_cons, List.length_nil]) <;> omega) | decide) only [sh_Pt_Writer_Term, Pr, PX, PC, NX, ends, fillL, wrL, sOf, Nat.reduceAdd, Nat.reduceMul, Nat.reduceLeDiff, Nat.reduceEqDiff, Int.reduceToNat, Int.reduceAdd, Int.reduceLT, Int.reduceLE, ↓reduceIte, forall_const, eq_self, zG1, zG2, eqm_119, fa_121_0, fa_121_1, fa_121_2, ld_111, ld_119, mm_119, st_119, ta_107_105, ta_107_168, ta_107_171, ta_107_174, tn_107_105, tn_107_168, tn_107_171, tn_107_174]) ?_
        refine (tItoa k (by omega) (by omega) _ (h2.ext ((FrM.refl _ _).drew)).tab).mono ?_
        rintro e w3 ⟨rfl, hE3⟩
        have h3 := h2.ext (((FrM.refl _ _).drew).trans hE3)
        refine ⟨trivial, ?_⟩
        have e1 : P.decI (k : Int) = P.decN k := by
          unfold P.decI
          rw [if_neg (by omega)]
          congr 1
        have hl := decI_len k (by omega) (by omega)
        rw [e1] at hl ⊢
        have ho3 : s2.out.length = s.out.length := by rw [ho2]
        rw [bo_ads _ _ (by simp; omega)]
        refine (wWrite h3 hx _ (by simp; omega)).mono ?_
        rintro e w4 ⟨⟨v3, rfl⟩, h4, hf4⟩
        rw [hr2]
        exact ⟨((hf1.trans hf2).trans (FrM.toM (((FrM.refl _ _).drew).trans hE3))).trans hf4, rfl, _, h4⟩
      rw [lookupNm h1.st h1.na h1.sn hi, hq1]
      have hlen : s.out.length ≤ 900000100 := by omega
      cases hk : s.seen.idxOf? i with
      | some k =>
        have hk2 : k < s.seen.length := (List.idxOf?_eq_some_iff.1 hk).1
        simp (disch := first | assumption | omega | ((simp only [size_alloc, sz_drew, size_upd, List.size_toArray, List.length_cons, List.length_nil]) <;> omega) | decide) only [sh_Pt_Writer_Term, Pr, PX, PC, NX, ends, fillL, wrL, sOf, Nat.reduceAdd, Nat.reduceMul, Nat.reduceLeDiff, Nat.reduceEqDiff, Int.reduceToNat, Int.reduceAdd, Int.reduceLT, Int.reduceLE, ↓reduceIte, forall_const, eq_self, zG1, zG2, eqm_119, fa_121_0, fa_121_1, fa_121_2, ld_111, ld_119, mm_119, st_119, ta_107_105, ta_107_168, ta_107_171, ta_107_174, tn_107_105, tn_107_168, tn_107_171, tn_107_174]
        refine ⟨fun x w' => w' = w2 ∧ x 9 = .int .i64 ((k + 1 : Nat) : Int), by simp (disch := first | assumption | omega | ((simp only [size_alloc, sz_drew, size_upd, List.size_toArray, List.length_cons, List.length_nil]) <;> omega) | decide) only [sh_Pt_Writer_Term, Pr, PX, PC, NX, ends, fillL, wrL, sOf, Nat.reduceAdd, Nat.reduceMul, Nat.reduceLeDiff, Nat.reduceEqDiff, Int.reduceToNat, Int.reduceAdd, Int.reduceLT, Int.reduceLE, ↓reduceIte, forall_const, eq_self, zG1, zG2, eqm_119, fa_121_0, fa_121_1, fa_121_2, ld_111, ld_119, mm_119, st_119, ta_107_105, ta_107_168, ta_107_171, ta_107_174, tn_107_105, tn_107_168, tn_107_171, tn_107_174], ?_⟩
        rintro x w' ⟨rfl, hx9⟩ d
        refine htail (k + 1) nm s1 w' _ hx9 (by omega) h1 (FrM.refl _ _) ho1 ?_
        simp only [P.varText, hq1, hk, Option.some.injEq] at hr
        exact hr.symm
      | none =>
        simp (disch := first | assumption | omega | ((simp only [size_alloc, sz_drew, size_upd, List.size_toArray, List.length_cons, List.length_nil]) <;> omega) | decide) only [sh_Pt_Writer_Term, Pr, PX, PC, NX, ends, fillL, wrL, sOf, Nat.reduceAdd, Nat.reduceMul, Nat.reduceLeDiff, Nat.reduceEqDiff, Int.reduceToNat, Int.reduceAdd, Int.reduceLT, Int.reduceLE, ↓reduceIte, forall_const, eq_self, zG1, zG2, eqm_119, fa_121_0, fa_121_1, fa_121_2, ld_111, ld_119, mm_119, st_119, ta_107_105, ta_107_168, ta_107_171, ta_107_174, tn_107_105, tn_107_168, tn_107_171, tn_107_174]
        refine ⟨fun x w' => x 9 = .int .i64 ((s.seen.length + 1 : Nat) : Int) ∧ (∃ nm', WSx ρ n tr wb sb so T cs nm' w' { s1 with seen := s1.seen ++ [i] }) ∧ WFr wb sb w2 w', ?_, ?_⟩
        · simp (disch := first | assumption | omega | ((simp only [size_alloc, sz_drew, size_upd, List.size_toArray, List.length_cons, List.length_nil]) <;> omega) | decide) only [sh_Pt_Writer_Term, Pr, PX, PC, NX, ends, fillL, wrL, sOf, Nat.reduceAdd, Nat.reduceMul, Nat.reduceLeDiff, Nat.reduceEqDiff, Int.reduceToNat, Int.reduceAdd, Int.reduceLT, Int.reduceLE, ↓reduceIte, forall_const, eq_self, zG1, zG2, eqm_119, fa_121_0, fa_121_1, fa_121_2, ld_111, ld_119, mm_119, st_119, ta_107_105, ta_107_168, ta_107_171, ta_107_174, tn_107_105, tn_107_168, tn_107_171, tn_107_174]
          refine ⟨fun _ w' => ∃ r c es, WSx ρ n tr wb sb so T cs (.map (some r)) w' s1 ∧ wb < r ∧ w'.heap[r]? = some (.map es c) ∧ entsP (namesL ρ s1.seen 0) es.toList ∧ WFr wb sb w2 w', ?_, ?_⟩
          · rcases id h1.na with ⟨g0, rfl⟩ | ⟨r', c, es, rfl, g1, g2, g3⟩
            · have lb1 := ltOf hb1
              simp (disch := first | assumption | omega | ((simp only [size_alloc, sz_drew, size_upd, List.size_toArray, List.length_cons, List.length_nil]) <;> omega) | decide) only [sh_Pt_Writer_Term, Pr, PX, PC, NX, ends, fillL, wrL, sOf, Nat.reduceAdd, Nat.reduceMul, Nat.reduceLeDiff, Nat.reduceEqDiff, Int.reduceToNat, Int.reduceAdd, Int.reduceLT, Int.reduceLE, ↓reduceIte, forall_const, eq_self, zG1, zG2, eqm_119, fa_121_0, fa_121_1, fa_121_2, ld_111, ld_119, mm_119, st_119, ta_107_105, ta_107_168, ta_107_171, ta_107_174, tn_107_105, tn_107_168, tn_107_171, tn_107_174, hb1]
              obtain ⟨k1, k2, k3, k4⟩ := h1.names hx g0 had1 hb1 (by rw [ho1]; exact hown1) rfl
              exact ⟨_, _, _, k1, k3, k4, by rw [g0]; rfl, k2⟩
            · simp (disch := first | assumption | omega | ((simp only [size_alloc, sz_drew, size_upd, List.size_toArray, List.length_cons, List.length_nil]) <;> omega) | decide) only [sh_Pt_Writer_Term, Pr, PX, PC, NX, ends, fillL, wrL, sOf, Nat.reduceAdd, Nat.reduceMul, Nat.reduceLeDiff, Nat.reduceEqDiff, Int.reduceToNat, Int.reduceAdd, Int.reduceLT, Int.reduceLE, ↓reduceIte, forall_const, eq_self, zG1, zG2, eqm_119, fa_121_0, fa_121_1, fa_121_2, ld_111, ld_119, mm_119, st_119, ta_107_105, ta_107_168, ta_107_171, ta_107_174, tn_107_105, tn_107_168, tn_107_171, tn_107_174, hb1]
              exact ⟨_, _, _, h1, g1, g2, g3, FrM.refl _ _⟩
          · rintro _ w' ⟨r', c, es, k1, k2, k3, k4, k5⟩ d
            obtain ⟨ad2, buf2, had2, hb2, hown2⟩ := id k1.bu
            have hes : es.size = s.seen.length := by
              have := entsP_len k4
              rw [namesL_len, hq1] at this
              simpa using this
            have hsl : s.seen.length ≤ 1000000000 := by omega
            simp (disch := first | assumption | omega | ((simp only [size_alloc, sz_drew, size_upd, List.size_toArray, List.length_cons, List.length_nil]) <;> omega) | decide) only [sh_Pt_Writer_Term, Pr, PX, PC, NX, ends, fillL, wrL, sOf, Nat.reduceAdd, Nat.reduceMul, Nat.reduceLeDiff, Nat.reduceEqDiff, Int.reduceToNat, Int.reduceAdd, Int.reduceLT, Int.reduceLE, ↓reduceIte, forall_const, eq_self, zG1, zG2, eqm_119, fa_121_0, fa_121_1, fa_121_2, ld_111, ld_119, mm_119, st_119, ta_107_105, ta_107_168, ta_107_171, ta_107_174, tn_107_105, tn_107_168, tn_107_171, tn_107_174, hb2]
            rw [rd_len_map (k := 105) (e := 3) (by kernel_rfl) k3, hes]
            simp (disch := first | assumption | omega | ((simp only [size_alloc, sz_drew, size_upd, List.size_toArray, List.length_cons, List.length_nil]) <;> omega) | decide) only [sh_Pt_Writer_Term, Pr, PX, PC, NX, ends, fillL, wrL, sOf, Nat.reduceAdd, Nat.reduceMul, Nat.reduceLeDiff, Nat.reduceEqDiff, Int.reduceToNat, Int.reduceAdd, Int.reduceLT, Int.reduceLE, ↓reduceIte, forall_const, eq_self, zG1, zG2, eqm_119, fa_121_0, fa_121_1, fa_121_2, ld_111, ld_119, mm_119, st_119, ta_107_105, ta_107_168, ta_107_171, ta_107_174, tn_107_105, tn_107_168, tn_107_171, tn_107_174, hb2]
            obtain ⟨ref, hbi, -⟩ := k1.st.var i hi
            have hno : idxP (ρ i) (namesL ρ s1.seen 0) 0 = none := by
              rw [idxP_names k1.st.inj hi s1.seen 0 0 k1.sn, hq1, hk]; rfl
            rw [wu_mapNewP (k := 105) (e := 3) (by kernel_rfl) (by kernel_rfl) k3 k4 (fun c v hc => ?_) hbi hno]
            · obtain ⟨m1, m2⟩ := k1.name hx k2 k3 k4 hi (e := { key := .pointer (some ⟨ρ i, 0, none⟩), val := .int .i64 ((s.seen.length : Int) + 1), born := c }) rfl (by rw [hq1]; simp)
              refine ⟨?_, ⟨_, m1⟩, k5.trans m2⟩
              simp only [sOf, if_true]
              rw [i64w (by omega) (by omega)]
              rfl
            · obtain ⟨j, h4, rfl⟩ := namesL_mem hc
              obtain ⟨ref, h5, -⟩ := k1.st.var j (k1.sn j h4)
              exact ⟨_, _, h5⟩
        · rintro x w' ⟨hx9, ⟨nm', h2⟩, hf2⟩ d
          refine htail (s.seen.length + 1) nm' _ w' _ hx9 (by omega) h2 hf2 ho1 ?_
          simp only [P.varText, hq1, hk, Option.some.injEq] at hr
          rw [← hr]
          simp only [P.Ws.add, hq1]
    | comp name l =>
      have hu' := hu
      unfold IsTm at hu
      obtain ⟨b, av, vs, rfl, -⟩ := hu
      simp (disch := first | assumption | omega | ((simp only [size_alloc, sz_drew, size_upd, List.size_toArray, List.length_cons, List.length_nil]) <;> omega) | decide) only [sh_Pt_Writer_Term, Pr, PX, PC, NX, ends, fillL, wrL, sOf, Nat.reduceAdd, Nat.reduceMul, Nat.reduceLeDiff, Nat.reduceEqDiff, Int.reduceToNat, Int.reduceAdd, Int.reduceLT, Int.reduceLE, ↓reduceIte, forall_const, eq_self, zG1, zG2, eqm_119, fa_121_0, fa_121_1, fa_121_2, ld_111, ld_119, mm_119, st_119, ta_107_105, ta_107_168, ta_107_171, ta_107_174, tn_107_105, tn_107_168, tn_107_171, tn_107_174]
      refine (ih.comp (s := { s with fuel := s.fuel - 1 }) (least := least) hx ⟨_, h1⟩ hu' hok' (by simp only [P.Ws.phi]; omega) hsn hr).mono ?_
      rintro e w3 hp
      have hp' := hp.of (B' := s.phi) hf1 (by simp only [P.Ws.phi]; omega)
      cases r with
      | none =>
        obtain ⟨g1, rfl, g2⟩ := hp'
        simp (disch := first | assumption | omega | ((simp only [size_alloc, sz_drew, size_upd, List.size_toArray, List.length_cons, List.length_nil]) <;> omega) | decide) only [sh_Pt_Writer_Term, Pr, PX, PC, NX, ends, fillL, wrL, sOf, Nat.reduceAdd, Nat.reduceMul, Nat.reduceLeDiff, Nat.reduceEqDiff, Int.reduceToNat, Int.reduceAdd, Int.reduceLT, Int.reduceLE, ↓reduceIte, forall_const, eq_self, zG1, zG2, eqm_119, fa_121_0, fa_121_1, fa_121_2, ld_111, ld_119, mm_119, st_119, ta_107_105, ta_107_168, ta_107_171, ta_107_174, tn_107_105, tn_107_168, tn_107_171, tn_107_174]
        exact ⟨g1, rfl, g2⟩
      | some s' =>
        obtain ⟨g1, rfl, g2⟩ := hp'
        simp (disch := first | assumption | omega | ((simp only [size_alloc, sz_drew, size_upd, List.size_toArray, List.length_cons, List.length_nil]) <;> omega) | decide) only [sh_Pt_Writer_Term, Pr, PX, PC, NX, ends, fillL, wrL, sOf, Nat.reduceAdd, Nat.reduceMul, Nat.reduceLeDiff, Nat.reduceEqDiff, Int.reduceToNat, Int.reduceAdd, Int.reduceLT, Int.reduceLE, ↓reduceIte, forall_const, eq_self, zG1, zG2, eqm_119, fa_121_0, fa_121_1, fa_121_2, ld_111, ld_119, mm_119, st_119, ta_107_105, ta_107_168, ta_107_171, ta_107_174, tn_107_105, tn_107_168, tn_107_171, tn_107_174]
        exact ⟨g1, rfl, g2⟩
end Go.Proofs.YtkmpelgfhjgddaaGreatDoor
