/- A part of one proof (RW8, RW9); no conditions beyond what each theorem names. -/
import Derived.Test.YtkmpelgfhjgddaaGreatDoorPkRAM
set_option linter.all false
set_option linter.unusedVariables false
set_option linter.unusedSimpArgs false
namespace Go.Proofs.YtkmpelgfhjgddaaGreatDoor
open Go.RowKit Sx
set_option maxRecDepth 100000
theorem rExpr {f : Nat} (hP : ∀ g, g < f → RCT g) : RCE f := ⟨by
  intro pb tb T k vars d w r h hd hr
  obtain ⟨l1, hkt, hlT, h4⟩ := h.cs
  cases f with
  | zero => simp [P.pOper] at hr
  | succ f =>
  rw [P.pOper, if_neg (by decide)] at hr
  rw [show (0 + 1 : Nat) = 1 from rfl] at hr
  cases hq : P.pOper T f 1 k vars d with
  | none => rw [hq] at hr; simp [P.Res.bind] at hr
  | some q =>
  rw [hq] at hr
  refine sh_Pr_parser_expr_ok ?_
  simp (disch := first | assumption | omega | ((simp only [size_alloc, sz_drew, size_upd, List.size_toArray, List.length_cons, List.length_nil]) <;> omega) | decide) only [sh_Pr_parser_expr, Pr, PX, PC, NX, ends, fillL, wrL, sOf, Nat.reduceAdd, Nat.reduceMul, Nat.reduceLeDiff, Nat.reduceEqDiff, Int.reduceToNat, Int.reduceAdd, Int.reduceLT, Int.reduceLE, ↓reduceIte, forall_const, eq_self, zG1, zG2, al_60, al_69, bd_69, br_34_2, fa_58_1, fa_58_4, fa_60_0, fa_60_1, ld_29, ld_3, ld_5, ld_69, ld_9, st_3, st_60, st_69]
  have hf0 : Ext w (w.alloc (.cells #[.int .u8 0, .string (bs []), .int .i64 0, .int .i64 0, .slice none 0 0] 69)) := by (repeat (first | assumption | exact FrM.refl _ _ | (refine FrM.upd ?_ (.inr (by (try simp only [size_alloc, sz_drew, size_upd, List.size_toArray, List.length_cons, List.length_nil]) <;> omega))) | refine FrM.alloc ?_ _ | refine FrM.drew ?_))
  refine Calls.mono ((hP f (by omega)).go (h.ext hf0) hd hq) ?_
  rintro e w1 ⟨a, b, c, g, u, rfl, ⟨o1, o2, o3, o4, o5, oh⟩, hF1, hst⟩
  have s1 := hF1.size
  rw [size_alloc] at s1
  have c0 : w1.heap[w.heap.size]? = some (.cells #[.int .u8 0, .string (bs []), .int .i64 0, .int .i64 0, .slice none 0 0] 69 (0, 0)) := SFr.keep hF1 (by simp (disch := first | assumption | omega | ((simp only [size_alloc, sz_drew, size_upd, List.size_toArray, List.length_cons, List.length_nil]) <;> omega) | decide) only [hp_alloc_old, hp_alloc_new, hp_upd_same, hp_upd_other, hp_drew, sz_drew, size_upd, size_alloc]) (by omega) (by decide)
  simp (disch := first | assumption | omega | ((simp only [size_alloc, sz_drew, size_upd, List.size_toArray, List.length_cons, List.length_nil]) <;> omega) | decide) only [sh_Pr_parser_expr, Pr, PX, PC, NX, ends, fillL, wrL, sOf, Nat.reduceAdd, Nat.reduceMul, Nat.reduceLeDiff, Nat.reduceEqDiff, Int.reduceToNat, Int.reduceAdd, Int.reduceLT, Int.reduceLE, ↓reduceIte, forall_const, eq_self, zG1, zG2, al_60, al_69, bd_69, br_34_2, fa_58_1, fa_58_4, fa_60_0, fa_60_1, ld_29, ld_3, ld_5, ld_69, ld_9, st_3, st_60, st_69, o1, o2, o3, o4, o5]
  have hX2 : Ext w1 (upd (w1.alloc (.cells #[.int .u8 0, .string (bs []), .int .i64 0, .int .i64 0, .slice none 0 0] 69)) w1.heap.size (.cells #[a, b, c, g, u] 69)) := by (repeat (first | assumption | exact FrM.refl _ _ | (refine FrM.upd ?_ (.inr (by (try simp only [size_alloc, sz_drew, size_upd, List.size_toArray, List.length_cons, List.length_nil]) <;> omega))) | refine FrM.alloc ?_ _ | refine FrM.drew ?_))
  refine ⟨fun n s wl => ∃ a b c g u, (a.oneCell' = true ∧ b.oneCell' = true ∧ c.oneCell' = true ∧ g.oneCell' = true ∧ u.oneCell' = true ∧ ShX a b c g u) ∧
      wl.heap[w.heap.size]? = some (.cells #[.int .u8 0, .string (bs []), .int .i64 0, .int .i64 0, .slice none 0 0] 69 (0, 0)) ∧ wl.heap[w1.heap.size]? = some (.cells #[a, b, c, g, u] 69 (0, 0)) ∧ RFr pb w wl ∧
      ((∃ f' x k' vs, n = f' + 1 ∧ f' ≤ f ∧ IsRx (Fb w wl w1.heap.size) wl [a, b, c, g, u] x ∧ RP wl pb tb T k' vs d 0 0 ∧ P.pMore T f' 0 x k' vs d = some r) ∨
       (n = 0 ∧ ∃ c a k' vs, r = .err c a ∧ c ≠ 0 ∧ RP wl pb tb T k' vs d c a)), ?_, ?_⟩
  · cases q with
    | err c1 a1 =>
      obtain ⟨hc, k2, vs2, hP2⟩ := hst
      simp only [P.Res.bind, Option.some.injEq] at hr
      exact ⟨0, a, b, c, g, u, ⟨o1, o2, o3, o4, o5, oh⟩, by simp (disch := first | assumption | omega | ((simp only [size_alloc, sz_drew, size_upd, List.size_toArray, List.length_cons, List.length_nil]) <;> omega) | decide) only [hp_alloc_old, hp_alloc_new, hp_upd_same, hp_upd_other, hp_drew, sz_drew, size_upd, size_alloc]; exact c0, by simp (disch := first | assumption | omega | ((simp only [size_alloc, sz_drew, size_upd, List.size_toArray, List.length_cons, List.length_nil]) <;> omega) | decide) only [hp_alloc_old, hp_alloc_new, hp_upd_same, hp_upd_other, hp_drew, sz_drew, size_upd, size_alloc], (hf0.toM.trans hF1).trans hX2.toM, .inr ⟨rfl, c1, a1, k2, vs2, hr.symm, hc, hP2.ext hX2⟩⟩
    | ok x k2 vs2 =>
      obtain ⟨hx, hP2⟩ := hst
      simp only [P.Res.bind] at hr
      refine ⟨f + 1, a, b, c, g, u, ⟨o1, o2, o3, o4, o5, oh⟩, by simp (disch := first | assumption | omega | ((simp only [size_alloc, sz_drew, size_upd, List.size_toArray, List.length_cons, List.length_nil]) <;> omega) | decide) only [hp_alloc_old, hp_alloc_new, hp_upd_same, hp_upd_other, hp_drew, sz_drew, size_upd, size_alloc]; exact c0, by simp (disch := first | assumption | omega | ((simp only [size_alloc, sz_drew, size_upd, List.size_toArray, List.length_cons, List.length_nil]) <;> omega) | decide) only [hp_alloc_old, hp_alloc_new, hp_upd_same, hp_upd_other, hp_drew, sz_drew, size_upd, size_alloc], (hf0.toM.trans hF1).trans hX2.toM, .inl ⟨f, x, k2, vs2, rfl, Nat.le_refl _, IsRx.mono (fun b hb => ?_) (fun b cs hb hc => hX2.ext _ _ hc) _ _ hx, hP2.ext hX2, hr⟩⟩
      have hb1 := hb.1
      have hb2 := hb.2
      rw [size_alloc] at hb1
      exact ⟨by omega, by ((try simp only [size_alloc, sz_drew, size_upd, List.size_toArray, List.length_cons, List.length_nil]) <;> omega), by omega⟩
  · intro n s dd wl hI
    refine toPr ?_
    obtain ⟨a, b, c, g, u, ⟨o1, o2, o3, o4, o5, oh⟩, e0, e1, hF, hI⟩ := hI
    have le0 := ltOf e0
    have le1 := ltOf e1
    rcases hI with ⟨f', x, k', vs, rfl, hf', hx, hPl, hm⟩ | ⟨rfl, c1, a1, k', vs, rfl, hc, hPl⟩
    · cases f' with
      | zero => simp [P.pMore] at hm
      | succ f' =>
      rw [P.pMore] at hm
      obtain ⟨lc3, vv3, hx3⟩ := id hPl
      have h3 := hx3.cell
      rcases opAt0_cases hx3.tw hx3.kt with ⟨hop, ho⟩ | ⟨hop, ho⟩
      · rw [ho] at hm
        simp only at hm
        rw [show (0 + 1 : Nat) = 1 from rfl] at hm
        cases hq2 : P.pOper T f' 1 (k' + 1) vs d with
        | none => rw [hq2] at hm; simp [P.Res.bind] at hm
        | some q2 =>
        rw [hq2] at hm
        have hkn := hx3.tw.next hx3.kt (by omega)
        rcases hop with ⟨k4, ht⟩ | ⟨k4, ht⟩
        all_goals
          simp (disch := first | assumption | omega | ((simp only [size_alloc, sz_drew, size_upd, List.size_toArray, List.length_cons, List.length_nil]) <;> omega) | decide) only [sh_Pr_parser_expr, Pr, PX, PC, NX, ends, fillL, wrL, sOf, Nat.reduceAdd, Nat.reduceMul, Nat.reduceLeDiff, Nat.reduceEqDiff, Int.reduceToNat, Int.reduceAdd, Int.reduceLT, Int.reduceLE, ↓reduceIte, forall_const, eq_self, zG1, zG2, al_60, al_69, bd_69, br_34_2, fa_58_1, fa_58_4, fa_60_0, fa_60_1, ld_29, ld_3, ld_5, ld_69, ld_9, st_3, st_60, st_69, h3]
          refine Calls.mono (rNext hPl) ?_
          rintro e w2 ⟨rfl, hf2⟩
          have s2 := hf2.size
          have g1 := hf2.ext _ _ e1
          have g0 := hf2.ext _ _ e0
          have h3' := hf2.ext _ _ h3
          rw [k4, ht]
          try rw [show rk 4 = 115 from rfl]
          simp (disch := first | assumption | omega | ((simp only [size_alloc, sz_drew, size_upd, List.size_toArray, List.length_cons, List.length_nil]) <;> omega) | decide) only [sh_Pr_parser_expr, Pr, PX, PC, NX, ends, fillL, wrL, sOf, Nat.reduceAdd, Nat.reduceMul, Nat.reduceLeDiff, Nat.reduceEqDiff, Int.reduceToNat, Int.reduceAdd, Int.reduceLT, Int.reduceLE, ↓reduceIte, forall_const, eq_self, zG1, zG2, al_60, al_69, bd_69, br_34_2, fa_58_1, fa_58_4, fa_60_0, fa_60_1, ld_29, ld_3, ld_5, ld_69, ld_9, st_3, st_60, st_69, h3', g1]
          refine Calls.mono ((hP f' (by omega)).go (rStepP (kz := (k' : Int) + 1) hx3 ?_ rfl hkn) hd hq2) ?_
          · (repeat (first | assumption | exact FrM.refl _ _ | (refine FrM.upd ?_ (.inr (by (try simp only [size_alloc, sz_drew, size_upd, List.size_toArray, List.length_cons, List.length_nil]) <;> omega))) | refine FrM.alloc ?_ _ | refine FrM.drew ?_))
          rintro e w3 ⟨a', b', c', g', u', rfl, ⟨p1, p2, p3, p4, p5, ph⟩, hF3, hst3⟩
          have s3 := hF3.size
          rw [size_upd, size_upd, size_alloc] at s3
          have i0 : w3.heap[w.heap.size]? = some (.cells #[.int .u8 0, .string (bs []), .int .i64 0, .int .i64 0, .slice none 0 0] 69 (0, 0)) := SFr.keep hF3 (by simp (disch := first | assumption | omega | ((simp only [size_alloc, sz_drew, size_upd, List.size_toArray, List.length_cons, List.length_nil]) <;> omega) | decide) only [hp_alloc_old, hp_alloc_new, hp_upd_same, hp_upd_other, hp_drew, sz_drew, size_upd, size_alloc]; exact g0) (by omega) (by decide)
          have i1 : w3.heap[w1.heap.size]? = some (.cells #[a, b, c, g, u] 69 (0, 0)) := SFr.keep hF3 (by simp (disch := first | assumption | omega | ((simp only [size_alloc, sz_drew, size_upd, List.size_toArray, List.length_cons, List.length_nil]) <;> omega) | decide) only [hp_alloc_old, hp_alloc_new, hp_upd_same, hp_upd_other, hp_drew, sz_drew, size_upd, size_alloc]; exact g1) (by omega) (by decide)
          have i2 := SFr.keep (b := w2.heap.size) hF3 (by simp (disch := first | assumption | omega | ((simp only [size_alloc, sz_drew, size_upd, List.size_toArray, List.length_cons, List.length_nil]) <;> omega) | decide) only [hp_alloc_old, hp_alloc_new, hp_upd_same, hp_upd_other, hp_drew, sz_drew, size_upd, size_alloc]; rfl) (by omega) (by decide)
          have li1 := ltOf i1
          have li2 := ltOf i2
          simp (disch := first | assumption | omega | ((simp only [size_alloc, sz_drew, size_upd, List.size_toArray, List.length_cons, List.length_nil]) <;> omega) | decide) only [sh_Pr_parser_expr, Pr, PX, PC, NX, ends, fillL, wrL, sOf, Nat.reduceAdd, Nat.reduceMul, Nat.reduceLeDiff, Nat.reduceEqDiff, Int.reduceToNat, Int.reduceAdd, Int.reduceLT, Int.reduceLE, ↓reduceIte, forall_const, eq_self, zG1, zG2, al_60, al_69, bd_69, br_34_2, fa_58_1, fa_58_4, fa_60_0, fa_60_1, ld_29, ld_3, ld_5, ld_69, ld_9, st_3, st_60, st_69, i0, i1, i2, o1, o2, o3, o4, o5, p1, p2, p3, p4, p5]
          have hX3 : Ext w3 ((upd (w3.alloc (.cells #[.int .u8 0, .string (bs []), .int .i64 0, .int .i64 0, .slice none 0 0] 69)) w3.heap.size (.cells #[a', b', c', g', u'] 69)).alloc (.cells #[a, b, c, g, u, a', b', c', g', u'] 69)) := by (repeat (first | assumption | exact FrM.refl _ _ | (refine FrM.upd ?_ (.inr (by (try simp only [size_alloc, sz_drew, size_upd, List.size_toArray, List.length_cons, List.length_nil]) <;> omega))) | refine FrM.alloc ?_ _ | refine FrM.drew ?_))
          have hF4 := (hF.trans ((rStepF (show Ext wl _ from (by (repeat (first | assumption | exact FrM.refl _ _ | (refine FrM.upd ?_ (.inr (by (try simp only [size_alloc, sz_drew, size_upd, List.size_toArray, List.length_cons, List.length_nil]) <;> omega))) | refine FrM.alloc ?_ _ | refine FrM.drew ?_)) : Ext wl (upd (w2.alloc (.cells #[.int .u8 0, .string (bs []), .int .i64 0] 60)) w2.heap.size (.cells _ 60))))).trans hF3)).trans hX3.toM
          have s4 := hX3.size
          cases q2 with
          | err c2 a2 =>
            obtain ⟨hc2, k5, vs5, hP5⟩ := hst3
            simp only [P.Res.bind, Option.some.injEq] at hm
            exact ⟨0, Nat.succ_pos _, _, _, _, _, _, ⟨rfl, rfl, rfl, rfl, rfl, .of (by decide)⟩, rfl, hF4.upd (.inr (by omega)), .inr ⟨rfl, c2, a2, k5, vs5, hm.symm, hc2, (hP5.ext hX3).updT (by omega) (hX3.ext _ _ i1) (by decide)⟩⟩
          | ok y k5 vs5 =>
            obtain ⟨hy, hP5⟩ := hst3
            simp only [P.Res.bind] at hm
            rw [ht] at hm
            refine ⟨f' + 1, by omega, _, _, _, _, _, ⟨rfl, rfl, rfl, rfl, rfl, .of (by decide)⟩, rfl, hF4.upd (.inr (by omega)), .inl ⟨f', _, k5, vs5, rfl, by omega, ?_, (hP5.ext hX3).updT (by omega) (hX3.ext _ _ i1) (by decide), hm⟩⟩
            refine isRx_two (q := w3.heap.size + 1) (l := [a, b, c, g, u]) (ly := [a', b', c', g', u']) (IsRx.mono (fun b hb => ?_) (fun b cs hb hc => ?_) _ _ hx) (IsRx.mono (fun b hb => ?_) (fun b cs hb hc => ?_) _ _ hy) (by simp (disch := first | assumption | omega | ((simp only [size_alloc, sz_drew, size_upd, List.size_toArray, List.length_cons, List.length_nil]) <;> omega) | decide) only [hp_alloc_old, hp_alloc_new, hp_upd_same, hp_upd_other, hp_drew, sz_drew, size_upd, size_alloc]; rfl) rfl ⟨by omega, by ((try simp only [size_alloc, sz_drew, size_upd, List.size_toArray, List.length_cons, List.length_nil]) <;> omega), by omega⟩ _ _
            · have h1 := hb.1
              have h2 := hb.2.1
              exact ⟨h1, by ((try simp only [size_alloc, sz_drew, size_upd, List.size_toArray, List.length_cons, List.length_nil]) <;> omega), hb.2.2⟩
            · have h1 := hb.1
              have h2 := hb.2.1
              have h3 := hb.2.2
              have hl := ltOf hc
              have hc2 := hf2.ext _ _ hc
              rw [hp_upd_other (by omega)]
              have hbp : b ≠ pb := by omega
              exact hX3.ext _ _ (SFr.keep hF3 (by simp (disch := first | assumption | omega | ((simp only [size_alloc, sz_drew, size_upd, List.size_toArray, List.length_cons, List.length_nil]) <;> omega) | decide) only [hp_alloc_old, hp_alloc_new, hp_upd_same, hp_upd_other, hp_drew, sz_drew, size_upd, size_alloc]; exact hc2) hbp (by decide))
            · have h1 := hb.1
              have h2 := hb.2
              rw [size_upd, size_upd, size_alloc] at h1
              exact ⟨by omega, by ((try simp only [size_alloc, sz_drew, size_upd, List.size_toArray, List.length_cons, List.length_nil]) <;> omega), by omega⟩
            · have h1 := hb.1
              rw [size_upd, size_upd, size_alloc] at h1
              rw [hp_upd_other (by omega)]
              exact hX3.ext _ _ hc
      · rw [ho] at hm
        simp only [Option.some.injEq] at hm
        have hend : ∀ {w3 : World}, Ext wl w3 → RPostX pb tb T d w r (.returned (.agg #[a, b, c, g, u])) (upd w3 w.heap.size (.cells #[a, b, c, g, u] 69)) := fun hf3 => by
          have s3 := hf3.size
          rw [← hm]
          refine ⟨_, _, _, _, _, rfl, ⟨o1, o2, o3, o4, o5, oh⟩, (hF.trans hf3.toM).upd (.inr (Nat.le_refl _)), IsRx.mono (fun b hb => ?_) (fun b cs hb hc => ?_) _ _ hx, (hPl.ext hf3).updT l1 (hf3.ext _ _ e0) (by decide)⟩
          · exact ⟨by have := hb.1; omega, by have := hb.2.1; rw [size_upd]; omega⟩
          · have := hb.1
            rw [hp_upd_other (by omega)]
            exact hf3.ext _ _ hc
        rcases hop with ⟨k4, ht1, ht2⟩ | k4
        · simp (disch := first | assumption | omega | ((simp only [size_alloc, sz_drew, size_upd, List.size_toArray, List.length_cons, List.length_nil]) <;> omega) | decide) only [sh_Pr_parser_expr, Pr, PX, PC, NX, ends, fillL, wrL, sOf, Nat.reduceAdd, Nat.reduceMul, Nat.reduceLeDiff, Nat.reduceEqDiff, Int.reduceToNat, Int.reduceAdd, Int.reduceLT, Int.reduceLE, ↓reduceIte, forall_const, eq_self, zG1, zG2, al_60, al_69, bd_69, br_34_2, fa_58_1, fa_58_4, fa_60_0, fa_60_1, ld_29, ld_3, ld_5, ld_69, ld_9, st_3, st_60, st_69, h3]
          refine Calls.mono (rNext hPl) ?_
          rintro e w2 ⟨rfl, hf2⟩
          have s2 := hf2.size
          have g1 := hf2.ext _ _ e1
          have g0 := hf2.ext _ _ e0
          rw [k4, show rk 4 = 115 from rfl]
          simp (disch := first | assumption | omega | ((simp only [size_alloc, sz_drew, size_upd, List.size_toArray, List.length_cons, List.length_nil]) <;> omega) | decide) only [sh_Pr_parser_expr, Pr, PX, PC, NX, ends, fillL, wrL, sOf, Nat.reduceAdd, Nat.reduceMul, Nat.reduceLeDiff, Nat.reduceEqDiff, Int.reduceToNat, Int.reduceAdd, Int.reduceLT, Int.reduceLE, ↓reduceIte, forall_const, eq_self, zG1, zG2, al_60, al_69, bd_69, br_34_2, fa_58_1, fa_58_4, fa_60_0, fa_60_1, ld_29, ld_3, ld_5, ld_69, ld_9, st_3, st_60, st_69, g1, g0, o1, o2, o3, o4, o5]
          refine hend ?_
          (repeat (first | assumption | exact FrM.refl _ _ | (refine FrM.upd ?_ (.inr (by (try simp only [size_alloc, sz_drew, size_upd, List.size_toArray, List.length_cons, List.length_nil]) <;> omega))) | refine FrM.alloc ?_ _ | refine FrM.drew ?_))
        · have q1 : ¬ (rk (P.tk T k').kind : Int) = 115 := fun e => k4 ((rk_sign hx3.kind4).1 (by omega))
          have q3 := rk_small (P.tk T k').kind
          simp (disch := first | assumption | omega | ((simp only [size_alloc, sz_drew, size_upd, List.size_toArray, List.length_cons, List.length_nil]) <;> omega) | decide) only [sh_Pr_parser_expr, Pr, PX, PC, NX, ends, fillL, wrL, sOf, Nat.reduceAdd, Nat.reduceMul, Nat.reduceLeDiff, Nat.reduceEqDiff, Int.reduceToNat, Int.reduceAdd, Int.reduceLT, Int.reduceLE, ↓reduceIte, forall_const, eq_self, zG1, zG2, al_60, al_69, bd_69, br_34_2, fa_58_1, fa_58_4, fa_60_0, fa_60_1, ld_29, ld_3, ld_5, ld_69, ld_9, st_3, st_60, st_69, h3]
          refine Calls.mono (rNext hPl) ?_
          rintro e w2 ⟨rfl, hf2⟩
          have s2 := hf2.size
          have g1 := hf2.ext _ _ e1
          have g0 := hf2.ext _ _ e0
          generalize hgq : rk (P.tk T k').kind = q at *
          simp (disch := first | assumption | omega | ((simp only [size_alloc, sz_drew, size_upd, List.size_toArray, List.length_cons, List.length_nil]) <;> omega) | decide) only [sh_Pr_parser_expr, Pr, PX, PC, NX, ends, fillL, wrL, sOf, Nat.reduceAdd, Nat.reduceMul, Nat.reduceLeDiff, Nat.reduceEqDiff, Int.reduceToNat, Int.reduceAdd, Int.reduceLT, Int.reduceLE, ↓reduceIte, forall_const, eq_self, zG1, zG2, al_60, al_69, bd_69, br_34_2, fa_58_1, fa_58_4, fa_60_0, fa_60_1, ld_29, ld_3, ld_5, ld_69, ld_9, st_3, st_60, st_69, g1, g0, o1, o2, o3, o4, o5]
          refine hend ?_
          (repeat (first | assumption | exact FrM.refl _ _ | (refine FrM.upd ?_ (.inr (by (try simp only [size_alloc, sz_drew, size_upd, List.size_toArray, List.length_cons, List.length_nil]) <;> omega))) | refine FrM.alloc ?_ _ | refine FrM.drew ?_))
    · obtain ⟨lc3, vv3, hx3⟩ := id hPl
      have h3 := hx3.cell
      simp (disch := first | assumption | omega | ((simp only [size_alloc, sz_drew, size_upd, List.size_toArray, List.length_cons, List.length_nil]) <;> omega) | decide) only [sh_Pr_parser_expr, Pr, PX, PC, NX, ends, fillL, wrL, sOf, Nat.reduceAdd, Nat.reduceMul, Nat.reduceLeDiff, Nat.reduceEqDiff, Int.reduceToNat, Int.reduceAdd, Int.reduceLT, Int.reduceLE, ↓reduceIte, forall_const, eq_self, zG1, zG2, al_60, al_69, bd_69, br_34_2, fa_58_1, fa_58_4, fa_60_0, fa_60_1, ld_29, ld_3, ld_5, ld_69, ld_9, st_3, st_60, st_69, h3, e0, e1, o1, o2, o3, o4, o5]
      exact ⟨_, _, _, _, _, rfl, ⟨o1, o2, o3, o4, o5, oh⟩, hF.upd (.inr (Nat.le_refl _)), hc, _, _, hPl.updT l1 e0 (by decide)⟩⟩
end Go.Proofs.YtkmpelgfhjgddaaGreatDoor
namespace Go.Proofs.YtkmpelgfhjgddaaGreatDoor
open Go.RowKit Sx
set_option maxRecDepth 100000
def LT (p0 x2 x3 rv : Value) (w1_13 : World) (R : Ending → World → Prop) : Prop :=
    CA Tryz.prog 34 #[p0, (.string (bs [93]))] w1_13 (fun x30 w1_16 =>
    RD Tryz.prog (Builtin.len_ #[34] 3 #[rv]) w1_16 (fun x32 =>
    RD Tryz.prog (bo .sub 3 (.tmp 32) (.const (.int .i64 1)) x32 (.int .i64 1)) w1_16 (fun x33 =>
    LoopW (fun rec_1 s_2 d_2 w1_17 =>
      RD Tryz.prog (bo .geq 3 (.tmp 34) (.const (.int .i64 0)) (s_2 9) (.int .i64 0)) w1_17 (fun x35 => BS x35 (
      RD Tryz.prog (Instr.indexAt 34 rv (s_2 9)) w1_17.drew (fun x40 =>
      RD Tryz.prog (Instr.loadAt 69 x40) w1_17.drew (fun x41 =>
      RD Tryz.prog (Instr.loadAt 69 x3) w1_17.drew (fun x42 =>
      WR Tryz.prog (Instr.buildSlice 34 2 #[(0, x41), (1, x42)]) w1_17.drew (fun x43 w1_18 =>
      RD Tryz.prog (Instr.build 69 #[(0, (.int .u8 99)), (1, (.string (bs [46]))), (4, x43)]) w1_18 (fun x44 =>
      WU Tryz.prog (Instr.storeAt 69 x3 x44) w1_18 (fun w1_19 =>
      RD Tryz.prog (bo .sub 3 (.tmp 36) (.const (.int .i64 1)) (s_2 9) (.int .i64 1)) w1_19 (fun x37 =>
      rec_1 (sOf [(9, x37)]) w1_19) (PX R)) (PX R)) (PX R)) (PX R)) NX) NX) NX) (
      RD Tryz.prog (Instr.loadAt 69 x3) w1_17 (fun x45 =>
    WU Tryz.prog (Instr.storeAt 69 x2 x45) w1_17 (fun w1_20 =>
    RD Tryz.prog (Instr.loadAt 69 x2) w1_20 (fun r_1 => R (.returned r_1) w1_20) NX) (PX R)) (PX R))) (PX R))
      (sOf [(9, x33)]) w1_16) (PX R)) (PX R)) (PC R)
theorem mkList_drop (acc : List P.Ex) (x : P.Ex) (i : Nat) (hi : i < acc.length) : P.mkList (acc.drop i) x = .mk 99 [46] 0 0 [acc[i], P.mkList (acc.drop (i + 1)) x] := by
  rw [List.drop_eq_getElem_cons hi]
  rfl
theorem own_five {w : World} {base : Nat} {v : Value} {m : Nat} {xs : List Value} (h : w.ownsRow base 69 5 v m xs) {i : Nat} (hi : i < m) (h1 : ∀ u ∈ xs, u.oneCell' = true) :
    ∃ g cap cur a0 a1 a2 a3 a4, v = .slice (some ⟨g, 0, none⟩) m cap ∧ w.heap[g]? = some (.cells cur 69 (0, 0)) ∧ i * 5 + 5 ≤ cur.size ∧ (cur.toList.drop (i * 5)).take 5 = [a0, a1, a2, a3, a4] ∧
      (xs.drop (5 * i)).take 5 = [a0, a1, a2, a3, a4] ∧ a0.oneCell' = true ∧ a1.oneCell' = true ∧ a2.oneCell' = true ∧ a3.oneCell' = true ∧ a4.oneCell' = true := by
  obtain ⟨hl, h⟩ := h
  rcases h with ⟨_, rfl⟩ | ⟨g, cap, cur, rfl, g1, g2, g3, g4, g5, g6⟩
  · omega
  have hms : m * 5 ≤ cur.size := by rw [g5]; exact Nat.mul_le_mul_right _ g3
  have e1 : (xs.drop (5 * i)).take 5 = (cur.toList.drop (i * 5)).take 5 := by
    rw [← g6, List.drop_take, List.take_take, Nat.mul_comm 5 i]
    congr 1
    omega
  have e2 : ((cur.toList.drop (i * 5)).take 5).length = 5 := by
    simp
    omega
  have hone : ∀ u ∈ (cur.toList.drop (i * 5)).take 5, u.oneCell' = true := fun u hu => by
    rw [← e1] at hu
    exact h1 u (List.mem_of_mem_drop (List.mem_of_mem_take hu))
  match hq : (cur.toList.drop (i * 5)).take 5, e2 with
  | [a0, a1, a2, a3, a4], _ =>
    rw [hq] at hone e1
    exact ⟨g, cap, cur, a0, a1, a2, a3, a4, rfl, g2, by omega, hq, e1, hone _ (by simp), hone _ (by simp), hone _ (by simp), hone _ (by simp), hone _ (by simp)⟩
theorem IsRxs.one {F : Nat → Prop} {w : World} : ∀ {xs : List P.Ex} {vs : List Value}, IsRxs F w vs xs → ∀ u ∈ vs, u.oneCell' = true
  | [], vs, h, u, hu => by unfold IsRxs at h; subst h; cases hu
  | x :: xs, vs, h, u, hu => by
    unfold IsRxs at h
    obtain ⟨l, r, rfl, h2, h3⟩ := h
    obtain ⟨a, b, c, d, e, rfl, p1, p2, p3, p4, p5⟩ := h2.len
    simp only [List.mem_append, List.mem_cons, List.not_mem_nil, or_false] at hu
    rcases hu with (rfl | rfl | rfl | rfl | rfl) | hu
    · exact p1
    · exact p2
    · exact p3
    · exact p4
    · exact p5
    · exact IsRxs.one h3 u hu
abbrev Fl (B : Nat) (w : World) : Nat → Prop := fun b => B ≤ b ∧ b < w.heap.size
theorem rListTail {pb tb : Nat} {T : List P.Tok} {d : Nat} {w wt : World} {r : P.Res P.Ex} {q2 q3 B m : Nat} {rv : Value} {xs : List Value} {a b c g u : Value} (hpb : pb < w.heap.size) (hq2 : w.heap.size ≤ q2) (hq3 : q2 < q3) (hB : q3 < B) (hF : RFr pb w wt)
    (h2 : wt.heap[q2]? = some (.cells #[.int .u8 0, .string (bs []), .int .i64 0, .int .i64 0, .slice none 0 0] 69 (0, 0))) (h3 : wt.heap[q3]? = some (.cells #[a, b, c, g, u] 69 (0, 0))) (hone : a.oneCell' = true ∧ b.oneCell' = true ∧ c.oneCell' = true ∧ g.oneCell' = true ∧ u.oneCell' = true ∧ ShX a b c g u)
    (hown : wt.ownsRow B 69 5 rv m xs) (hx1 : ∀ u ∈ xs, u.oneCell' = true) (hm : m ≤ 100000)
    (hst : (∃ k vs acc x0, P.musT T [93] (P.mkList acc x0) k vs = some r ∧ RP wt pb tb T k vs d 0 0 ∧ IsRx (Fl B wt) wt [a, b, c, g, u] x0 ∧ IsRxs (Fl B wt) wt xs acc ∧ m = acc.length) ∨
      (∃ k vs c a, r = .err c a ∧ c ≠ 0 ∧ RP wt pb tb T k vs d c a)) :
    LT (.pointer (some ⟨pb, 0, none⟩)) (.pointer (some ⟨q2, 0, none⟩)) (.pointer (some ⟨q3, 0, none⟩)) rv wt (RPostX pb tb T d w r) := by
  obtain ⟨a0, c0, hrv⟩ := own_slice hown
  subst hrv
  have hgo : ∀ w2 : World, RFr pb wt w2 → ((∃ k vs acc x0, r = .ok (P.mkList acc x0) k vs ∧ RP w2 pb tb T k vs d 0 0 ∧ IsRx (Fl B w2) w2 [a, b, c, g, u] x0 ∧ IsRxs (Fl B w2) w2 xs acc ∧ m = acc.length) ∨
      (∃ k vs c a, r = .err c a ∧ c ≠ 0 ∧ RP w2 pb tb T k vs d c a)) → ends (fun x30 w1_16 =>
    RD Tryz.prog (Builtin.len_ #[34] 3 #[.slice a0 m c0]) w1_16 (fun x32 =>
    RD Tryz.prog (bo .sub 3 (.tmp 32) (.const (.int .i64 1)) x32 (.int .i64 1)) w1_16 (fun x33 =>
    LoopW (fun rec_1 s_2 d_2 w1_17 =>
      RD Tryz.prog (bo .geq 3 (.tmp 34) (.const (.int .i64 0)) (s_2 9) (.int .i64 0)) w1_17 (fun x35 => BS x35 (
      RD Tryz.prog (Instr.indexAt 34 (.slice a0 m c0) (s_2 9)) w1_17.drew (fun x40 =>
      RD Tryz.prog (Instr.loadAt 69 x40) w1_17.drew (fun x41 =>
      RD Tryz.prog (Instr.loadAt 69 (.pointer (some ⟨q3, 0, none⟩))) w1_17.drew (fun x42 =>
      WR Tryz.prog (Instr.buildSlice 34 2 #[(0, x41), (1, x42)]) w1_17.drew (fun x43 w1_18 =>
      RD Tryz.prog (Instr.build 69 #[(0, (.int .u8 99)), (1, (.string (bs [46]))), (4, x43)]) w1_18 (fun x44 =>
      WU Tryz.prog (Instr.storeAt 69 (.pointer (some ⟨q3, 0, none⟩)) x44) w1_18 (fun w1_19 =>
      RD Tryz.prog (bo .sub 3 (.tmp 36) (.const (.int .i64 1)) (s_2 9) (.int .i64 1)) w1_19 (fun x37 =>
      rec_1 (sOf [(9, x37)]) w1_19) (PX (RPostX pb tb T d w r))) (PX (RPostX pb tb T d w r))) (PX (RPostX pb tb T d w r))) (PX (RPostX pb tb T d w r))) NX) NX) NX) (
      RD Tryz.prog (Instr.loadAt 69 (.pointer (some ⟨q3, 0, none⟩))) w1_17 (fun x45 =>
    WU Tryz.prog (Instr.storeAt 69 (.pointer (some ⟨q2, 0, none⟩)) x45) w1_17 (fun w1_20 =>
    RD Tryz.prog (Instr.loadAt 69 (.pointer (some ⟨q2, 0, none⟩))) w1_20 (fun r_1 => (RPostX pb tb T d w r) (.returned r_1) w1_20) NX) (PX (RPostX pb tb T d w r))) (PX (RPostX pb tb T d w r)))) (PX (RPostX pb tb T d w r)))
      (sOf [(9, x33)]) w1_16) (PX (RPostX pb tb T d w r))) (PX (RPostX pb tb T d w r))) (PC (RPostX pb tb T d w r)) (.returned (.tuple #[])) w2 := by
    intro w2 hF2 hst
    have d2 := SFr.keep hF2 h2 (by omega) (by decide)
    have d3 := SFr.keep hF2 h3 (by omega) (by decide)
    have own2 := own_fr hF2 hown (by omega) (by decide)
    simp (disch := first | assumption | omega | ((simp only [size_alloc, sz_drew, size_upd, List.size_toArray, List.length_cons, List.length_nil]) <;> omega) | decide) only [sh_Pr_parser_list, Pr, PX, PC, NX, ends, fillL, wrL, sOf, Nat.reduceAdd, Nat.reduceMul, Nat.reduceLeDiff, Nat.reduceEqDiff, Int.reduceToNat, Int.reduceAdd, Int.reduceLT, Int.reduceLE, ↓reduceIte, forall_const, eq_self, zG1, zG2, al_69, bd_69, br_34_1, br_34_2, ix_34, ld_69, ln_34, st_69]
    refine ⟨fun n s wl => ∃ i a b c g u, i ≤ m ∧ n = i ∧ s 9 = .int .i64 ((i : Int) - 1) ∧ (a.oneCell' = true ∧ b.oneCell' = true ∧ c.oneCell' = true ∧ g.oneCell' = true ∧ u.oneCell' = true ∧ ShX a b c g u) ∧
      wl.heap[q2]? = some (.cells #[.int .u8 0, .string (bs []), .int .i64 0, .int .i64 0, .slice none 0 0] 69 (0, 0)) ∧ wl.heap[q3]? = some (.cells #[a, b, c, g, u] 69 (0, 0)) ∧ RFr pb w wl ∧ wl.ownsRow B 69 5 (.slice a0 m c0) m xs ∧
      ((∃ k vs acc x0, r = .ok (P.mkList acc x0) k vs ∧ RP wl pb tb T k vs d 0 0 ∧ IsRx (Fl B wl) wl [a, b, c, g, u] (P.mkList (acc.drop i) x0) ∧ IsRxs (Fl B wl) wl xs acc ∧ m = acc.length) ∨
       (∃ k vs c a, r = .err c a ∧ c ≠ 0 ∧ RP wl pb tb T k vs d c a)), ?_, ?_⟩
    · refine ⟨m, m, a, b, c, g, u, Nat.le_refl _, rfl, rfl, hone, d2, d3, hF.trans hF2, own2, ?_⟩
      rcases hst with ⟨k, vs, acc, x0, e1, e2, e3, e4, e5⟩ | h
      · exact .inl ⟨k, vs, acc, x0, e1, e2, by rw [e5, List.drop_length]; exact e3, e4, e5⟩
      · exact .inr h
    · intro n s dd wl hI
      refine toPr ?_
      obtain ⟨i, a, b, c, g, u, hi, rfl, h9, ⟨o1, o2, o3, o4, o5, oh⟩, f2, f3, hFl, hol, hst⟩ := hI
      have lf3 := ltOf f3
      cases n with
      | zero =>
        have h9 : s 9 = .int .i64 (-1) := h9
        simp (disch := first | assumption | omega | ((simp only [size_alloc, sz_drew, size_upd, List.size_toArray, List.length_cons, List.length_nil]) <;> omega) | decide) only [sh_Pr_parser_list, Pr, PX, PC, NX, ends, fillL, wrL, sOf, Nat.reduceAdd, Nat.reduceMul, Nat.reduceLeDiff, Nat.reduceEqDiff, Int.reduceToNat, Int.reduceAdd, Int.reduceLT, Int.reduceLE, ↓reduceIte, forall_const, eq_self, zG1, zG2, al_69, bd_69, br_34_1, br_34_2, ix_34, ld_69, ln_34, st_69, h9, f2, f3, o1, o2, o3, o4, o5]
        refine ⟨_, _, _, _, _, rfl, ⟨o1, o2, o3, o4, o5, oh⟩, hFl.upd (.inr hq2), ?_⟩
        rcases hst with ⟨k, vs, acc, x0, e1, e2, e3, e4, e5⟩ | ⟨k, vs, c, a, e1, e2, e3⟩
        · rw [e1]
          refine ⟨IsRx.mono (fun b hb => ?_) (fun b cs hb hc => ?_) _ _ e3, e2.updT (by omega) f2 (by decide)⟩
          · exact ⟨by have := hb.1; omega, by rw [size_upd]; exact hb.2⟩
          · rw [hp_upd_other (by have := hb.1; omega)]; exact hc
        · rw [e1]
          exact ⟨e2, _, _, e3.updT (by omega) f2 (by decide)⟩
      | succ j =>
        have h9 : s 9 = .int .i64 (j : Int) := by rw [h9]; congr 1; omega
        obtain ⟨gb, cap, cur, v0, v1, v2, v3, v4, hv, g2, g3, g4, g5, p0, p1, p2, p3, p4⟩ := own_five hol (i := j) (by omega) hx1
        injection hv with hv _ hv2
        subst hv
        subst hv2
        have lg2 := ltOf g2
        simp (disch := first | assumption | omega | ((simp only [size_alloc, sz_drew, size_upd, List.size_toArray, List.length_cons, List.length_nil]) <;> omega) | decide) only [sh_Pr_parser_list, Pr, PX, PC, NX, ends, fillL, wrL, sOf, Nat.reduceAdd, Nat.reduceMul, Nat.reduceLeDiff, Nat.reduceEqDiff, Int.reduceToNat, Int.reduceAdd, Int.reduceLT, Int.reduceLE, ↓reduceIte, forall_const, eq_self, zG1, zG2, al_69, bd_69, br_34_1, br_34_2, ix_34, ld_69, ln_34, st_69, h9, f2, f3, g2, g4, o1, o2, o3, o4, o5, p0, p1, p2, p3, p4]
        have hX : Ext wl (wl.drew.alloc (.cells #[v0, v1, v2, v3, v4, a, b, c, g, u] 69)) := by (repeat (first | assumption | exact FrM.refl _ _ | (refine FrM.upd ?_ (.inr (by (try simp only [size_alloc, sz_drew, size_upd, List.size_toArray, List.length_cons, List.length_nil]) <;> omega))) | refine FrM.alloc ?_ _ | refine FrM.drew ?_))
        have sX := hX.size
        rw [size_alloc, sz_drew] at sX
        refine ⟨j, Nat.lt_succ_self _, j, _, _, _, _, _, by omega, rfl, rfl, ⟨rfl, rfl, rfl, rfl, rfl, .of (by decide)⟩, rfl, (hFl.trans hX.toM).upd (.inr (by omega)), ?_, ?_⟩
        · exact own_upd (own_ext hX.ext hol) hB
        · rcases hst with ⟨k, vs, acc, x0, e1, e2, e3, e4, e5⟩ | ⟨k, vs, c, a, e1, e2, e3⟩
          · have hk : Keeps (Fl B wl) 69 wl (upd (wl.drew.alloc (.cells #[v0, v1, v2, v3, v4, a, b, c, g, u] 69)) q3
                (.cells #[.int .u8 99, .string (bs [46]), .int .i64 0, .int .i64 0, .slice (some ⟨wl.heap.size, 0, none⟩) 2 2] 69)) := fun b cs hb hc => by
              rw [hp_upd_other (by have := hb.1; omega)]
              exact hX.ext _ _ hc
            have hn : ∀ i, Fl B wl i → Fl B (upd (wl.drew.alloc (.cells #[v0, v1, v2, v3, v4, a, b, c, g, u] 69)) q3
                (.cells #[.int .u8 99, .string (bs [46]), .int .i64 0, .int .i64 0, .slice (some ⟨wl.heap.size, 0, none⟩) 2 2] 69)) i := fun i hb => ⟨hb.1, by rw [size_upd, size_alloc, sz_drew]; have := hb.2; omega⟩
            refine .inl ⟨k, vs, acc, x0, e1, (e2.ext hX).updT (by omega) (hX.ext _ _ f3) (by decide), ?_, IsRxs.mono hn hk _ _ e4, e5⟩
            rw [mkList_drop _ _ _ (by omega)]
            have hat := IsRxs.at j (by omega) e4
            rw [g5] at hat
            refine isRx_two (q := wl.heap.size) (cs := #[v0, v1, v2, v3, v4, a, b, c, g, u]) (l := [v0, v1, v2, v3, v4]) (ly := [a, b, c, g, u]) (IsRx.mono hn hk _ _ hat) (IsRx.mono hn hk _ _ e3) (by rw [hp_upd_other (by omega)]; exact hp_alloc_new (by rw [sz_drew])) rfl ⟨?_, by ((try simp only [size_alloc, sz_drew, size_upd, List.size_toArray, List.length_cons, List.length_nil]) <;> omega)⟩ _ _
            have := (hol.lt gb rfl).1
            omega
          · exact .inr ⟨k, vs, c, a, e1, e2, (e3.ext hX).updT (by omega) (hX.ext _ _ f3) (by decide)⟩
  rcases hst with ⟨k, vs, acc, x0, e1, e2, e3, e4, e5⟩ | ⟨k, vs, c, a, e1, e2, e3⟩
  · refine rMustX e2 [93] _ e1 ?_ ?_
    · intro w2 hr2 hP2 hF2
      have s2 := hF2.size
      exact hgo w2 hF2 (.inl ⟨_, _, acc, x0, hr2, hP2, IsRx.mono (fun b hb => ⟨hb.1, by have := hb.2; omega⟩) (RFr.keeps hF2 (fun b hb => by have := hb.1; omega) (by decide)) _ _ e3,
        IsRxs.mono (fun b hb => ⟨hb.1, by have := hb.2; omega⟩) (RFr.keeps hF2 (fun b hb => by have := hb.1; omega) (by decide)) _ _ e4, e5⟩)
    · intro w2 a2 hr2 hP2 hF2
      exact hgo w2 hF2 (.inr ⟨_, _, _, _, hr2, by decide, hP2⟩)
  · refine Calls.mono (rMustE e3 [93] e2) ?_
    rintro e w2 ⟨rfl, hP2, hF2⟩
    exact hgo w2 hF2 (.inr ⟨_, _, _, _, e1, e2, hP2⟩)
end Go.Proofs.YtkmpelgfhjgddaaGreatDoor
