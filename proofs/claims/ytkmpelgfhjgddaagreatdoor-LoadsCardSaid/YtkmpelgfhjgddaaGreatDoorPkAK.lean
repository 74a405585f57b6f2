/- A part of one proof (SX9, LL1); no conditions beyond what each theorem names. -/
import Derived.Test.YtkmpelgfhjgddaaGreatDoorPkAJ
import Derived.Test.YtkmpelgfhjgddaaGreatDoorPkG
set_option linter.all false
set_option linter.unusedVariables false
set_option linter.unusedSimpArgs false
namespace Go.Proofs.YtkmpelgfhjgddaaGreatDoor
open Go.RowKit Sx
set_option maxRecDepth 100000
theorem aTellNil (w : World) : Calls Tryz.prog 14 #[.nilIface] w fun e w' => Ext w w' ∧ e = .returned (.tuple #[.int .i64 0, .int .i64 (-1)]) := by
  refine sh_a_Tell_ok ?_
  simp (disch := first | assumption | omega | ((simp only [size_alloc, sz_drew, size_upd, List.size_toArray, List.length_cons, List.length_nil]) <;> omega) | decide) only [sh_a_Tell, Pr, PX, PC, NX, ends, fillL, wrL, sOf, Nat.reduceAdd, Nat.reduceMul, Nat.reduceLeDiff, Nat.reduceEqDiff, Int.reduceToNat, Int.reduceAdd, Int.reduceLT, Int.reduceLE, ↓reduceIte, forall_const, eq_self, zG1, zG2, al_29, al_85, eqi0_48, eqi1_48, fa_89_0, fa_89_1, ld_29, ld_3, ld_85, mi_87, mi_90]
  exact (by (repeat (first | assumption | exact FrM.refl _ _ | (refine FrM.upd ?_ (.inr (by (try simp only [size_alloc, sz_drew, size_upd, List.size_toArray, List.length_cons, List.length_nil]) <;> omega))) | refine FrM.alloc ?_ _ | refine FrM.drew ?_)))
def TabE (w : World) : Prop := w.cell? ⟨0, 0, none⟩ = some (.iface 185 (.agg #[.pointer (some ⟨12, 48, none⟩)]))
theorem TabE.ext {w w' : World} (h : TabE w) (hE : Ext w w') : TabE w' := cellKeep h fun o ho => hE.ext _ o ho
theorem aTellAt (b : Nat) (c a : Int) (w : World) (hb : w.heap[b]? = some (.cells #[.int .i64 c, .int .i64 a] 89 (0, 0))) (hT : TabE w) :
    Calls Tryz.prog 14 #[.iface 85 (.pointer (some ⟨b, 0, none⟩))] w fun e w' => Ext w w' ∧ e = .returned (.tuple #[.int .i64 c, .int .i64 a]) := by
  refine sh_a_Tell_ok ?_
  have lb := ltOf hb
  simp (disch := first | assumption | omega | ((simp only [size_alloc, sz_drew, size_upd, List.size_toArray, List.length_cons, List.length_nil]) <;> omega) | decide) only [sh_a_Tell, Pr, PX, PC, NX, ends, fillL, wrL, sOf, Nat.reduceAdd, Nat.reduceMul, Nat.reduceLeDiff, Nat.reduceEqDiff, Int.reduceToNat, Int.reduceAdd, Int.reduceLT, Int.reduceLE, ↓reduceIte, forall_const, eq_self, zG1, zG2, al_29, al_85, eqi0_48, eqi1_48, fa_89_0, fa_89_1, ld_29, ld_3, ld_85, mi_87, mi_90]
  obtain ⟨wA, hwA⟩ : ∃ x, x = (w.alloc (.cells #[.pointer none] 85 (0, 0))).alloc (.cells #[.int .i64 0] 29 (0, 0)) := ⟨_, rfl⟩
  have sA : wA.heap.size = w.heap.size + 2 := by rw [hwA]; simp
  have hEA : Ext w wA := by rw [hwA]; (repeat (first | assumption | exact FrM.refl _ _ | (refine FrM.upd ?_ (.inr (by (try simp only [size_alloc, sz_drew, size_upd, List.size_toArray, List.length_cons, List.length_nil]) <;> omega))) | refine FrM.alloc ?_ _ | refine FrM.drew ?_))
  have q0 : wA.heap[w.heap.size]? = some (.cells #[.pointer none] 85 (0, 0)) := by rw [hwA]; simp (disch := first | assumption | omega | ((simp only [size_alloc, sz_drew, size_upd, List.size_toArray, List.length_cons, List.length_nil]) <;> omega) | decide) only [hp_alloc_old, hp_alloc_new, hp_upd_same, hp_upd_other, hp_drew, sz_drew, size_upd, size_alloc]
  rw [← hwA]
  refine (as_hit ⟨b, 0, none⟩ ⟨w.heap.size, 0, none⟩ _ wA (hT.ext hEA) (by simp [World.cell?, q0]; rfl) (freeOf q0 0)).mono ?_
  rintro e w3 ⟨rfl, hw3⟩
  obtain ⟨wB, hwB⟩ : ∃ x, x = (((wA.alloc (.cells #[.pointer (some ⟨w.heap.size, 0, none⟩)] 87 (0, 0))).alloc (.cells #[.pointer (some ⟨12, 87, none⟩), .pointer (some ⟨wA.heap.size, 0, none⟩), .int .u64 150] 152 (0, 0))).alloc (.cells #[.pointer (some ⟨12, 87, none⟩), .pointer (some ⟨wA.heap.size, 0, none⟩), .int .u64 150] 152 (0, 0))).alloc (.cells #[.pointer (some ⟨b, 0, none⟩)] 85 (0, 0)) := ⟨_, rfl⟩
  rw [← hwB] at hw3
  have hEB : Ext wA wB := by rw [hwB]; (repeat (first | assumption | exact FrM.refl _ _ | (refine FrM.upd ?_ (.inr (by (try simp only [size_alloc, sz_drew, size_upd, List.size_toArray, List.length_cons, List.length_nil]) <;> omega))) | refine FrM.alloc ?_ _ | refine FrM.drew ?_))
  have qB := hEB.ext _ _ q0
  rw [upd_setCell qB] at hw3
  have hE3 : Ext w w3 := by
    rw [hw3]
    exact FrM.upd (hEA.trans hEB) (.inr (Nat.le_refl _))
  have q3 : w3.heap[w.heap.size]? = some (.cells #[.pointer (some ⟨b, 0, none⟩)] 85 (0, 0)) := by
    rw [hw3]
    exact hp_upd_same rfl (ltOf qB)
  have q4 := hE3.ext _ _ hb
  simp (disch := first | assumption | omega | ((simp only [size_alloc, sz_drew, size_upd, List.size_toArray, List.length_cons, List.length_nil]) <;> omega) | decide) only [sh_a_Tell, Pr, PX, PC, NX, ends, fillL, wrL, sOf, Nat.reduceAdd, Nat.reduceMul, Nat.reduceLeDiff, Nat.reduceEqDiff, Int.reduceToNat, Int.reduceAdd, Int.reduceLT, Int.reduceLE, ↓reduceIte, forall_const, eq_self, zG1, zG2, al_29, al_85, eqi0_48, eqi1_48, fa_89_0, fa_89_1, ld_29, ld_3, ld_85, mi_87, mi_90, q3, q4]
  exact hE3.drew
def SPostT (w : World) (s : P.Bs) (e : Ending) (w' : World) : Prop :=
  Ext w w' ∧ match P.program s with
  | .err c a => e = .returned (.tuple #[.pointer none, .int .i64 c, .int .i64 a])
  | .ok cs _ _ => ∃ b v vs, e = .returned (.tuple #[.pointer (some ⟨b, 0, none⟩), .int .i64 0, .int .i64 (-1)]) ∧ w'.heap[b]? = some (.cells #[v] 84 (0, 0)) ∧ Nu w w' b ∧
      IsSl (Nu w w') w' 97 v vs ∧ IsCls (Nu w w') w' vs cs
theorem pLoad (s : P.Bs) (w : World) (hl : s.length ≤ 100000) (hT : STabs w) (hE0 : TabE w) : Calls Tryz.prog 7 #[.string (bs s)] w (SPostT w s) := by
  refine sh_p_Load_ok ?_
  refine (hLoad s w hl hT).mono ?_
  rintro e w1 ⟨hE, hp⟩
  have s1 := hE.size
  cases hr : P.program s with
  | err c a =>
    rw [hr] at hp
    obtain ⟨b, rfl, h1⟩ := hp
    simp (disch := first | assumption | omega | ((simp only [size_alloc, sz_drew, size_upd, List.size_toArray, List.length_cons, List.length_nil]) <;> omega) | decide) only [sh_p_Load, Pr, PX, PC, NX, ends, fillL, wrL, sOf, Nat.reduceAdd, Nat.reduceMul, Nat.reduceLeDiff, Nat.reduceEqDiff, Int.reduceToNat, Int.reduceAdd, Int.reduceLT, Int.reduceLE, ↓reduceIte, forall_const, eq_self, zG1, zG2]
    refine (aTellAt b c a w1 h1 (hE0.ext hE)).mono ?_
    rintro e w2 ⟨hE2, rfl⟩
    simp (disch := first | assumption | omega | ((simp only [size_alloc, sz_drew, size_upd, List.size_toArray, List.length_cons, List.length_nil]) <;> omega) | decide) only [sh_p_Load, Pr, PX, PC, NX, ends, fillL, wrL, sOf, Nat.reduceAdd, Nat.reduceMul, Nat.reduceLeDiff, Nat.reduceEqDiff, Int.reduceToNat, Int.reduceAdd, Int.reduceLT, Int.reduceLE, ↓reduceIte, forall_const, eq_self, zG1, zG2]
    refine ⟨hE.trans hE2, ?_⟩
    rw [hr]
  | ok cs k vs =>
    rw [hr] at hp
    obtain ⟨b, v, vs, rfl, h1, h2, h3, h4⟩ := hp
    simp (disch := first | assumption | omega | ((simp only [size_alloc, sz_drew, size_upd, List.size_toArray, List.length_cons, List.length_nil]) <;> omega) | decide) only [sh_p_Load, Pr, PX, PC, NX, ends, fillL, wrL, sOf, Nat.reduceAdd, Nat.reduceMul, Nat.reduceLeDiff, Nat.reduceEqDiff, Int.reduceToNat, Int.reduceAdd, Int.reduceLT, Int.reduceLE, ↓reduceIte, forall_const, eq_self, zG1, zG2]
    refine (aTellNil w1).mono ?_
    rintro e w2 ⟨hE2, rfl⟩
    have s2 := hE2.size
    simp (disch := first | assumption | omega | ((simp only [size_alloc, sz_drew, size_upd, List.size_toArray, List.length_cons, List.length_nil]) <;> omega) | decide) only [sh_p_Load, Pr, PX, PC, NX, ends, fillL, wrL, sOf, Nat.reduceAdd, Nat.reduceMul, Nat.reduceLeDiff, Nat.reduceEqDiff, Int.reduceToNat, Int.reduceAdd, Int.reduceLT, Int.reduceLE, ↓reduceIte, forall_const, eq_self, zG1, zG2]
    refine ⟨hE.trans hE2, ?_⟩
    rw [hr]
    have hf : ∀ b, Nu w w1 b → Nu w w2 b := fun b hb => ⟨hb.1, by have := hb.2; omega⟩
    exact ⟨b, v, vs, rfl, hE2.ext _ _ h1, hf _ h2, h3.mono hf fun b cs _ ho => hE2.ext _ _ ho, h4.mono hf fun b cs t _ _ ho => hE2.ext _ _ ho⟩
end Go.Proofs.YtkmpelgfhjgddaaGreatDoor
namespace Go.Proofs.YtkmpelgfhjgddaaGreatDoor
open Go.RowKit Sx
set_option maxRecDepth 100000
theorem IsRcs.at {F : Nat → Prop} {w : World} : ∀ {xs : List P.Cl} {vs : List Value} (j : Nat) (hj : j < xs.length), IsRcs F w vs xs → IsRc F w ((vs.drop (7 * j)).take 7) xs[j]
  | x :: xs, vs, 0, _, h => by
    obtain ⟨l, r, rfl, h1, h2, h3⟩ := h
    have : ((l ++ r).drop (7 * 0)).take 7 = l := by simp [← h1]
    rw [this]
    exact h2
  | x :: xs, vs, j + 1, hj, h => by
    obtain ⟨l, r, rfl, h1, h2, h3⟩ := h
    have := IsRcs.at (w := w) (F := F) j (by simpa using hj) h3
    have e1 : ((l ++ r).drop (7 * (j + 1))) = r.drop (7 * j) := by
      rw [show 7 * (j + 1) = l.length + 7 * j by omega, ← List.drop_drop]
      simp
    rw [e1]
    exact this
def LPost (w : World) (s : P.Bs) (e : Ending) (w' : World) : Prop :=
  Ext w w' ∧ match P.program s with
  | .err _ _ => e = .returned (.tuple #[.agg #[.pointer none, .slice none 0 0, .bool false], .bool true])
  | .ok cs _ _ => ∃ b v vs rv xs hv, e = .returned (.tuple #[.agg #[.pointer (some ⟨b, 0, none⟩), rv, .bool hv], .bool true]) ∧ w'.heap[b]? = some (.cells #[v] 84 (0, 0)) ∧ Nu w w' b ∧
      IsSl (Nu w w') w' 97 v vs ∧ IsCls (Nu w w') w' vs cs ∧ w'.ownsRow w.heap.size 40 7 rv cs.length xs ∧ IsRcs (Nu w w') w' xs cs
theorem lLoaded (s : P.Bs) (w : World) (hl : s.length ≤ 100000) (hT : STabs w) (hE0 : TabE w) : Calls Tryz.prog 5 #[.string (bs s)] w (LPost w s) := by
  refine sh_l_loaded_ok ?_
  simp (disch := first | assumption | omega | ((simp only [size_alloc, sz_drew, size_upd, List.size_toArray, List.length_cons, List.length_nil]) <;> omega) | decide) only [sh_l_loaded, Pr, PX, PC, NX, ends, fillL, wrL, sOf, Nat.reduceAdd, Nat.reduceMul, Nat.reduceLeDiff, Nat.reduceEqDiff, Int.reduceToNat, Int.reduceAdd, Int.reduceLT, Int.reduceLE, ↓reduceIte, forall_const, eq_self, zG1, zG2, al_25, bd_25, eqp_22, fa_25_2, ix_23, ld_25, ld_4, ld_40, ln_23, nep_22, st_25, st_4]
  obtain ⟨wA, hwA⟩ : ∃ x, x = w.alloc (.cells #[.pointer none, .slice none 0 0, .bool false] 25 (0, 0)) := ⟨_, rfl⟩
  have sA : wA.heap.size = w.heap.size + 1 := by rw [hwA]; simp
  have hEA : Ext w wA := by rw [hwA]; (repeat (first | assumption | exact FrM.refl _ _ | (refine FrM.upd ?_ (.inr (by (try simp only [size_alloc, sz_drew, size_upd, List.size_toArray, List.length_cons, List.length_nil]) <;> omega))) | refine FrM.alloc ?_ _ | refine FrM.drew ?_))
  have q0 : wA.heap[w.heap.size]? = some (.cells #[.pointer none, .slice none 0 0, .bool false] 25 (0, 0)) := by rw [hwA]; simp (disch := first | assumption | omega | ((simp only [size_alloc, sz_drew, size_upd, List.size_toArray, List.length_cons, List.length_nil]) <;> omega) | decide) only [hp_alloc_old, hp_alloc_new, hp_upd_same, hp_upd_other, hp_drew, sz_drew, size_upd, size_alloc]
  rw [← hwA]
  refine (pLoad s wA hl (hT.ext hEA) (hE0.ext hEA)).mono ?_
  rintro e w1 ⟨hE1, hp⟩
  have s1 := hE1.size
  cases hr : P.program s with
  | err c a =>
    rw [hr] at hp
    subst hp
    simp (disch := first | assumption | omega | ((simp only [size_alloc, sz_drew, size_upd, List.size_toArray, List.length_cons, List.length_nil]) <;> omega) | decide) only [sh_l_loaded, Pr, PX, PC, NX, ends, fillL, wrL, sOf, Nat.reduceAdd, Nat.reduceMul, Nat.reduceLeDiff, Nat.reduceEqDiff, Int.reduceToNat, Int.reduceAdd, Int.reduceLT, Int.reduceLE, ↓reduceIte, forall_const, eq_self, zG1, zG2, al_25, bd_25, eqp_22, fa_25_2, ix_23, ld_25, ld_4, ld_40, ln_23, nep_22, st_25, st_4]
    refine (rProgram s w1 hl).mono ?_
    rintro e w2 ⟨hE2, hq⟩
    have s2 := hE2.size
    rw [hr] at hq
    obtain ⟨hc, rfl⟩ := hq
    have q2 := hE2.ext _ _ (hE1.ext _ _ q0)
    have l2 := ltOf q2
    simp (disch := first | assumption | omega | ((simp only [size_alloc, sz_drew, size_upd, List.size_toArray, List.length_cons, List.length_nil]) <;> omega) | decide) only [sh_l_loaded, Pr, PX, PC, NX, ends, fillL, wrL, sOf, Nat.reduceAdd, Nat.reduceMul, Nat.reduceLeDiff, Nat.reduceEqDiff, Int.reduceToNat, Int.reduceAdd, Int.reduceLT, Int.reduceLE, ↓reduceIte, forall_const, eq_self, zG1, zG2, al_25, bd_25, eqp_22, fa_25_2, ix_23, ld_25, ld_4, ld_40, ln_23, nep_22, st_25, st_4, q2]
    refine ⟨FrM.upd (FrM.trans (hEA.trans hE1) hE2) (.inr (Nat.le_refl _)), ?_⟩
    rw [hr]
  | ok cs k vs' =>
    rw [hr] at hp
    obtain ⟨b, v, vs, rfl, g1, g2, g3, g4⟩ := hp
    simp (disch := first | assumption | omega | ((simp only [size_alloc, sz_drew, size_upd, List.size_toArray, List.length_cons, List.length_nil]) <;> omega) | decide) only [sh_l_loaded, Pr, PX, PC, NX, ends, fillL, wrL, sOf, Nat.reduceAdd, Nat.reduceMul, Nat.reduceLeDiff, Nat.reduceEqDiff, Int.reduceToNat, Int.reduceAdd, Int.reduceLT, Int.reduceLE, ↓reduceIte, forall_const, eq_self, zG1, zG2, al_25, bd_25, eqp_22, fa_25_2, ix_23, ld_25, ld_4, ld_40, ln_23, nep_22, st_25, st_4]
    refine (rProgram s w1 hl).mono ?_
    rintro e w2 ⟨hE2, hq⟩
    have s2 := hE2.size
    rw [hr] at hq
    obtain ⟨rv, rfl, xs, o1, o2⟩ := hq
    have q2 := hE2.ext _ _ (hE1.ext _ _ q0)
    have l2 := ltOf q2
    obtain ⟨ra, rc, hrv⟩ := own_slice o1
    subst hrv
    simp (disch := first | assumption | omega | ((simp only [size_alloc, sz_drew, size_upd, List.size_toArray, List.length_cons, List.length_nil]) <;> omega) | decide) only [sh_l_loaded, Pr, PX, PC, NX, ends, fillL, wrL, sOf, Nat.reduceAdd, Nat.reduceMul, Nat.reduceLeDiff, Nat.reduceEqDiff, Int.reduceToNat, Int.reduceAdd, Int.reduceLT, Int.reduceLE, ↓reduceIte, forall_const, eq_self, zG1, zG2, al_25, bd_25, eqp_22, fa_25_2, ix_23, ld_25, ld_4, ld_40, ln_23, nep_22, st_25, st_4, q2]
    have hE02 : Ext w w2 := (hEA.trans hE1).trans hE2
    refine ⟨fun n t w'' => Ext w2 w'' ∧ (∃ hv, w''.heap[w2.heap.size]? = some (.cells #[.pointer (some ⟨b, 0, none⟩), .slice ra cs.length rc, .bool hv] 25 (0, 0))) ∧
      ∃ i, n = cs.length - i ∧ i ≤ cs.length ∧ t 11 = .int .i64 ((i : Nat) : Int), ⟨_, by (repeat (first | assumption | exact FrM.refl _ _ | (refine FrM.upd ?_ (.inr (by (try simp only [size_alloc, sz_drew, size_upd, List.size_toArray, List.length_cons, List.length_nil]) <;> omega))) | refine FrM.alloc ?_ _ | refine FrM.drew ?_)), ⟨false, by simp (disch := first | assumption | omega | ((simp only [size_alloc, sz_drew, size_upd, List.size_toArray, List.length_cons, List.length_nil]) <;> omega) | decide) only [hp_alloc_old, hp_alloc_new, hp_upd_same, hp_upd_other, hp_drew, sz_drew, size_upd, size_alloc]⟩, 0, rfl, Nat.zero_le _, rfl⟩, ?_⟩
    intro n t dd w3 hI
    refine toPr ?_
    obtain ⟨hE3, ⟨hv, q3⟩, i, rfl, hi, h11⟩ := hI
    have s3 := hE3.size
    have l3 := ltOf q3
    have hE03 : Ext w w3 := hE02.trans hE3
    have q23 := hE3.ext _ _ q2
    by_cases hlt : i < cs.length
    · have hcl := (IsRcs.at i hlt o2).mono (F' := fun _ => True) (fun _ _ => trivial) (keepsExt hE3) (keepsExt hE3)
      have o1' := o1
      obtain ⟨xl, o1'⟩ := o1'
      rcases o1' with ⟨-, h0⟩ | ⟨tb, cap, cur, hvv, ht1, ht2, ht3, ht4, ht5, ht6⟩
      · omega
      obtain ⟨rfl, rfl⟩ : ra = some ⟨tb, 0, none⟩ ∧ rc = cap := by simpa using hvv
      have ht23 := hE3.ext _ _ ht2
      have hn63 : cs.length ≤ 9223372036854775807 := by unfold maxLen at ht4; omega
      have e7 : List.take 7 (List.drop (i * 7) cur.toList) = List.take 7 (List.drop (7 * i) xs) := by
        rw [← ht6, List.drop_take, List.take_take, Nat.min_eq_left (by omega), Nat.mul_comm i 7]
      simp (disch := first | assumption | omega | ((simp only [size_alloc, sz_drew, size_upd, List.size_toArray, List.length_cons, List.length_nil]) <;> omega) | decide) only [sh_l_loaded, Pr, PX, PC, NX, ends, fillL, wrL, sOf, Nat.reduceAdd, Nat.reduceMul, Nat.reduceLeDiff, Nat.reduceEqDiff, Int.reduceToNat, Int.reduceAdd, Int.reduceLT, Int.reduceLE, ↓reduceIte, forall_const, eq_self, zG1, zG2, al_25, bd_25, eqp_22, fa_25_2, ix_23, ld_25, ld_4, ld_40, ln_23, nep_22, st_25, st_4, h11]
      refine ⟨fun s' w' => Ext w2 w' ∧ ∃ hv, w'.heap[w2.heap.size]? = some (.cells #[.pointer (some ⟨b, 0, none⟩), .slice (some ⟨tb, 0, none⟩) cs.length rc, .bool hv] 25 (0, 0)), ?_, ?_⟩
      · simp (disch := first | assumption | omega | ((simp only [size_alloc, sz_drew, size_upd, List.size_toArray, List.length_cons, List.length_nil]) <;> omega) | decide) only [sh_l_loaded, Pr, PX, PC, NX, ends, fillL, wrL, sOf, Nat.reduceAdd, Nat.reduceMul, Nat.reduceLeDiff, Nat.reduceEqDiff, Int.reduceToNat, Int.reduceAdd, Int.reduceLT, Int.reduceLE, ↓reduceIte, forall_const, eq_self, zG1, zG2, al_25, bd_25, eqp_22, fa_25_2, ix_23, ld_25, ld_4, ld_40, ln_23, nep_22, st_25, st_4, h11, ht23]
        rw [e7]
        refine (rClauseSize _ _ w3 _ hcl).mono ?_
        rintro e w4 ⟨hE4, z, rfl⟩
        have q4 := hE4.ext _ _ q3
        have l4 := ltOf q4
        cases hv <;> simp (disch := first | assumption | omega | ((simp only [size_alloc, sz_drew, size_upd, List.size_toArray, List.length_cons, List.length_nil]) <;> omega) | decide) only [sh_l_loaded, Pr, PX, PC, NX, ends, fillL, wrL, sOf, Nat.reduceAdd, Nat.reduceMul, Nat.reduceLeDiff, Nat.reduceEqDiff, Int.reduceToNat, Int.reduceAdd, Int.reduceLT, Int.reduceLE, ↓reduceIte, forall_const, eq_self, zG1, zG2, al_25, bd_25, eqp_22, fa_25_2, ix_23, ld_25, ld_4, ld_40, ln_23, nep_22, st_25, st_4, q4]
        · exact ⟨FrM.upd (hE3.trans hE4) (.inr (Nat.le_refl _)), _, rfl⟩
        · exact ⟨FrM.upd (hE3.trans hE4) (.inr (Nat.le_refl _)), _, rfl⟩
      · rintro s' w' ⟨hE4, hv', q4⟩ d
        simp (disch := first | assumption | omega | ((simp only [size_alloc, sz_drew, size_upd, List.size_toArray, List.length_cons, List.length_nil]) <;> omega) | decide) only [sh_l_loaded, Pr, PX, PC, NX, ends, fillL, wrL, sOf, Nat.reduceAdd, Nat.reduceMul, Nat.reduceLeDiff, Nat.reduceEqDiff, Int.reduceToNat, Int.reduceAdd, Int.reduceLT, Int.reduceLE, ↓reduceIte, forall_const, eq_self, zG1, zG2, al_25, bd_25, eqp_22, fa_25_2, ix_23, ld_25, ld_4, ld_40, ln_23, nep_22, st_25, st_4, h11]
        exact ⟨_, by omega, hE4, ⟨hv', q4⟩, i + 1, rfl, by omega, by simp⟩
    · simp (disch := first | assumption | omega | ((simp only [size_alloc, sz_drew, size_upd, List.size_toArray, List.length_cons, List.length_nil]) <;> omega) | decide) only [sh_l_loaded, Pr, PX, PC, NX, ends, fillL, wrL, sOf, Nat.reduceAdd, Nat.reduceMul, Nat.reduceLeDiff, Nat.reduceEqDiff, Int.reduceToNat, Int.reduceAdd, Int.reduceLT, Int.reduceLE, ↓reduceIte, forall_const, eq_self, zG1, zG2, al_25, bd_25, eqp_22, fa_25_2, ix_23, ld_25, ld_4, ld_40, ln_23, nep_22, st_25, st_4, h11, q3, q23]
      have hz : ∀ (x : Nat) o o', x ≠ w.heap.size → w3.heap[x]? = some o → (upd w3 w.heap.size o').heap[x]? = some o := fun x o o' n1 ho => by
        rw [hp_upd_other (by omega)]; exact ho
      have hsz : ∀ o', (upd w3 w.heap.size o').heap.size = w3.heap.size := fun o' => size_upd _ _ _
      refine ⟨FrM.upd hE03 (.inr (Nat.le_refl _)), ?_⟩
      rw [hr]
      have hE13 := hE2.trans hE3
      have hf1 : ∀ o' x, Nu wA w1 x → Nu w (upd w3 w.heap.size o') x := fun o' x hx => ⟨by have := hx.1; omega, by have := hx.2; rw [hsz]; omega⟩
      refine ⟨b, v, vs, _, xs, hv, rfl, hz _ _ _ (by have := g2.1; omega) (hE13.ext _ _ g1), hf1 _ _ g2, g3.mono (hf1 _) fun x c hx ho => hz _ _ _ (by have := hx.1; omega) (hE13.ext _ _ ho),
        g4.mono (hf1 _) fun x c t hx _ ho => hz _ _ _ (by have := hx.1; omega) (hE13.ext _ _ ho), ?_, o2.mono (fun x hx => ⟨by have := hx.1; omega, by have := hx.2.1; rw [hsz]; omega⟩) (fun x c hx ho => hz _ _ _ (by have := hx.1; omega) (hE3.ext _ _ ho)) (fun x c hx ho => hz _ _ _ (by have := hx.1; omega) (hE3.ext _ _ ho))⟩
      obtain ⟨xl, h | ⟨tb, cap, cur, hvv, ht1, ht2, ht3, ht4, ht5, ht6⟩⟩ := o1
      · exact ⟨xl, .inl h⟩
      · exact ⟨xl, .inr ⟨tb, cap, cur, hvv, by omega, hz _ _ _ (by omega) (hE3.ext _ _ ht2), ht3, ht4, ht5, ht6⟩⟩
theorem lLoads (s : P.Bs) (w : World) (hT : STabs w) (hE0 : TabE w) (hs : s.length ≤ 9223372036854775807) : Calls Tryz.prog 3 #[.string (bs s)] w fun e w' => Ext w w' ∧ e = .returned (.bool true) := by
  refine sh_l_Loads_ok ?_
  by_cases h : 32768 < s.length
  · simp (disch := first | assumption | omega | ((simp only [size_alloc, sz_drew, size_upd, List.size_toArray, List.length_cons, List.length_nil]) <;> omega) | decide) only [sh_l_Loads, Pr, PX, PC, NX, ends, fillL, wrL, sOf, Nat.reduceAdd, Nat.reduceMul, Nat.reduceLeDiff, Nat.reduceEqDiff, Int.reduceToNat, Int.reduceAdd, Int.reduceLT, Int.reduceLE, ↓reduceIte, forall_const, eq_self, zG1, zG2, al_25, ln_9, st_25]
    exact FrM.refl _ _
  · simp (disch := first | assumption | omega | ((simp only [size_alloc, sz_drew, size_upd, List.size_toArray, List.length_cons, List.length_nil]) <;> omega) | decide) only [sh_l_Loads, Pr, PX, PC, NX, ends, fillL, wrL, sOf, Nat.reduceAdd, Nat.reduceMul, Nat.reduceLeDiff, Nat.reduceEqDiff, Int.reduceToNat, Int.reduceAdd, Int.reduceLT, Int.reduceLE, ↓reduceIte, forall_const, eq_self, zG1, zG2, al_25, ln_9, st_25]
    refine (lLoaded s w (by omega) hT hE0).mono ?_
    rintro e w1 ⟨hE, hp⟩
    have s1 := hE.size
    cases hr : P.program s with
    | err c a =>
      rw [hr] at hp
      subst hp
      simp (disch := first | assumption | omega | ((simp only [size_alloc, sz_drew, size_upd, List.size_toArray, List.length_cons, List.length_nil]) <;> omega) | decide) only [sh_l_Loads, Pr, PX, PC, NX, ends, fillL, wrL, sOf, Nat.reduceAdd, Nat.reduceMul, Nat.reduceLeDiff, Nat.reduceEqDiff, Int.reduceToNat, Int.reduceAdd, Int.reduceLT, Int.reduceLE, ↓reduceIte, forall_const, eq_self, zG1, zG2, al_25, ln_9, st_25]
      exact (by (repeat (first | assumption | exact FrM.refl _ _ | (refine FrM.upd ?_ (.inr (by (try simp only [size_alloc, sz_drew, size_upd, List.size_toArray, List.length_cons, List.length_nil]) <;> omega))) | refine FrM.alloc ?_ _ | refine FrM.drew ?_)))
    | ok cs k vs' =>
      rw [hr] at hp
      obtain ⟨b, v, vs, rv, xs, hv, rfl, g1, g2, g3, g4, o1, o2⟩ := hp
      obtain ⟨ra, rc, hrv⟩ := own_slice o1
      subst hrv
      simp (disch := first | assumption | omega | ((simp only [size_alloc, sz_drew, size_upd, List.size_toArray, List.length_cons, List.length_nil]) <;> omega) | decide) only [sh_l_Loads, Pr, PX, PC, NX, ends, fillL, wrL, sOf, Nat.reduceAdd, Nat.reduceMul, Nat.reduceLeDiff, Nat.reduceEqDiff, Int.reduceToNat, Int.reduceAdd, Int.reduceLT, Int.reduceLE, ↓reduceIte, forall_const, eq_self, zG1, zG2, al_25, ln_9, st_25]
      exact (by (repeat (first | assumption | exact FrM.refl _ _ | (refine FrM.upd ?_ (.inr (by (try simp only [size_alloc, sz_drew, size_upd, List.size_toArray, List.length_cons, List.length_nil]) <;> omega))) | refine FrM.alloc ?_ _ | refine FrM.drew ?_)))
end Go.Proofs.YtkmpelgfhjgddaaGreatDoor
