/- A part of one proof (RW17, RW18); no conditions beyond what each theorem names. -/
import Derived.Test.YtkmpelgfhjgddaaGreatDoorPkW
import Derived.Test.YtkmpelgfhjgddaaGreatDoorPkF
set_option linter.all false
set_option linter.unusedVariables false
set_option linter.unusedSimpArgs false
namespace Go.Proofs.YtkmpelgfhjgddaaGreatDoor
open Go.RowKit Sx
set_option maxRecDepth 100000
theorem rClass (c : UInt8) (w : World) : Calls Tryz.prog 62 #[.int .u8 c.toNat] w fun e w' => e = .returned (.int .u8 (P.cls c)) ∧ w' = w := by
  have hc := c.toNat_lt
  unfold P.cls
  generalize c.toNat = q at *
  by_cases h1 : 97 ≤ q
  · by_cases h2 : q ≤ 122
    · rw [if_pos ⟨h1, h2⟩]
      refine sh_r_class_ok ?_
      simp (disch := first | assumption | omega | ((simp only [size_alloc, sz_drew, size_upd, List.size_toArray, List.length_cons, List.length_nil]) <;> omega) | decide) only [sh_r_class, Pr, PX, PC, NX, ends, fillL, wrL, sOf, Nat.reduceAdd, Nat.reduceMul, Nat.reduceLeDiff, Nat.reduceEqDiff, Int.reduceToNat, Int.reduceAdd, Int.reduceLT, Int.reduceLE, ↓reduceIte, forall_const, eq_self, zG1, zG2]
      rfl
    · rw [if_neg (by omega), if_neg (by omega), if_neg (by omega)]
      refine sh_r_class_ok ?_
      simp (disch := first | assumption | omega | ((simp only [size_alloc, sz_drew, size_upd, List.size_toArray, List.length_cons, List.length_nil]) <;> omega) | decide) only [sh_r_class, Pr, PX, PC, NX, ends, fillL, wrL, sOf, Nat.reduceAdd, Nat.reduceMul, Nat.reduceLeDiff, Nat.reduceEqDiff, Int.reduceToNat, Int.reduceAdd, Int.reduceLT, Int.reduceLE, ↓reduceIte, forall_const, eq_self, zG1, zG2]
      rfl
  · rw [if_neg (by omega)]
    by_cases h3 : 65 ≤ q ∧ q ≤ 90
    · rw [if_pos (.inl h3)]
      obtain ⟨h3, h4⟩ := h3
      refine sh_r_class_ok ?_
      simp (disch := first | assumption | omega | ((simp only [size_alloc, sz_drew, size_upd, List.size_toArray, List.length_cons, List.length_nil]) <;> omega) | decide) only [sh_r_class, Pr, PX, PC, NX, ends, fillL, wrL, sOf, Nat.reduceAdd, Nat.reduceMul, Nat.reduceLeDiff, Nat.reduceEqDiff, Int.reduceToNat, Int.reduceAdd, Int.reduceLT, Int.reduceLE, ↓reduceIte, forall_const, eq_self, zG1, zG2]
      rfl
    · by_cases h5 : q = 95
      · subst h5
        rw [if_pos (.inr rfl)]
        refine sh_r_class_ok ?_
        simp (disch := first | assumption | omega | ((simp only [size_alloc, sz_drew, size_upd, List.size_toArray, List.length_cons, List.length_nil]) <;> omega) | decide) only [sh_r_class, Pr, PX, PC, NX, ends, fillL, wrL, sOf, Nat.reduceAdd, Nat.reduceMul, Nat.reduceLeDiff, Nat.reduceEqDiff, Int.reduceToNat, Int.reduceAdd, Int.reduceLT, Int.reduceLE, ↓reduceIte, forall_const, eq_self, zG1, zG2]
        rfl
      · rw [if_neg (by omega)]
        by_cases h6 : 65 ≤ q
        · rw [if_neg (by omega)]
          refine sh_r_class_ok ?_
          simp (disch := first | assumption | omega | ((simp only [size_alloc, sz_drew, size_upd, List.size_toArray, List.length_cons, List.length_nil]) <;> omega) | decide) only [sh_r_class, Pr, PX, PC, NX, ends, fillL, wrL, sOf, Nat.reduceAdd, Nat.reduceMul, Nat.reduceLeDiff, Nat.reduceEqDiff, Int.reduceToNat, Int.reduceAdd, Int.reduceLT, Int.reduceLE, ↓reduceIte, forall_const, eq_self, zG1, zG2]
          rfl
        · by_cases h7 : 48 ≤ q
          · by_cases h8 : q ≤ 57
            · rw [if_pos ⟨h7, h8⟩]
              refine sh_r_class_ok ?_
              simp (disch := first | assumption | omega | ((simp only [size_alloc, sz_drew, size_upd, List.size_toArray, List.length_cons, List.length_nil]) <;> omega) | decide) only [sh_r_class, Pr, PX, PC, NX, ends, fillL, wrL, sOf, Nat.reduceAdd, Nat.reduceMul, Nat.reduceLeDiff, Nat.reduceEqDiff, Int.reduceToNat, Int.reduceAdd, Int.reduceLT, Int.reduceLE, ↓reduceIte, forall_const, eq_self, zG1, zG2]
              rfl
            · rw [if_neg (by omega)]
              refine sh_r_class_ok ?_
              simp (disch := first | assumption | omega | ((simp only [size_alloc, sz_drew, size_upd, List.size_toArray, List.length_cons, List.length_nil]) <;> omega) | decide) only [sh_r_class, Pr, PX, PC, NX, ends, fillL, wrL, sOf, Nat.reduceAdd, Nat.reduceMul, Nat.reduceLeDiff, Nat.reduceEqDiff, Int.reduceToNat, Int.reduceAdd, Int.reduceLT, Int.reduceLE, ↓reduceIte, forall_const, eq_self, zG1, zG2]
              rfl
          · rw [if_neg (by omega)]
            refine sh_r_class_ok ?_
            simp (disch := first | assumption | omega | ((simp only [size_alloc, sz_drew, size_upd, List.size_toArray, List.length_cons, List.length_nil]) <;> omega) | decide) only [sh_r_class, Pr, PX, PC, NX, ends, fillL, wrL, sOf, Nat.reduceAdd, Nat.reduceMul, Nat.reduceLeDiff, Nat.reduceEqDiff, Int.reduceToNat, Int.reduceAdd, Int.reduceLT, Int.reduceLE, ↓reduceIte, forall_const, eq_self, zG1, zG2]
            rfl
theorem rSigns (w : World) : Calls Tryz.prog 61 #[] w fun e w' => e = .returned (.slice (some ⟨w.heap.size, 0, none⟩) 23 23) ∧ w' = w.alloc (.cells (P.signs.map fun s => .string (bs s)).toArray 9) := by
  refine sh_r_signs_ok ?_
  simp (disch := first | assumption | omega | ((simp only [size_alloc, sz_drew, size_upd, List.size_toArray, List.length_cons, List.length_nil]) <;> omega) | decide) only [sh_r_signs, Pr, PX, PC, NX, ends, fillL, wrL, sOf, Nat.reduceAdd, Nat.reduceMul, Nat.reduceLeDiff, Nat.reduceEqDiff, Int.reduceToNat, Int.reduceAdd, Int.reduceLT, Int.reduceLE, ↓reduceIte, forall_const, eq_self, zG1, zG2, br_38_23]
  rfl
end Go.Proofs.YtkmpelgfhjgddaaGreatDoor
namespace Go.Proofs.YtkmpelgfhjgddaaGreatDoor
open Go.RowKit Sx
set_option maxRecDepth 100000
def wordV (s : P.Bs) (at_ : Nat) : Value := if P.wordKind s = 0 then .agg #[.int .u8 0, .string (bs []), .int .i64 0] else .agg #[.int .u8 (rk (P.wordKind s)), .string (bs s), .int .i64 at_]
theorem rWord (c : UInt8) (r : P.Bs) (hl : (c :: r).length ≤ 100000) (at_ : Nat) (w : World) :
    Calls Tryz.prog 63 #[.string (bs (c :: r)), .int .i64 at_] w fun e w' => e = .returned (wordV (c :: r) at_) ∧ Ext w w' := by
  have hf0 : Ext w (w.alloc (.cells #[.int .u8 0, .string (bs []), .int .i64 0] 60)) := by (repeat (first | assumption | exact FrM.refl _ _ | (refine FrM.upd ?_ (.inr (by (try simp only [size_alloc, sz_drew, size_upd, List.size_toArray, List.length_cons, List.length_nil]) <;> omega))) | refine FrM.alloc ?_ _ | refine FrM.drew ?_))
  have hg0 : (c :: r).getD 0 0 = c := rfl
  have hn : 0 < (c :: r).length := by simp
  have hln : (c :: r).length = r.length + 1 := rfl
  have hr0 : r = [] ↔ ¬ (1 < (c :: r).length) := by cases r <;> simp
  have hc := c.toNat_lt
  have h48 : c = 48 ↔ c.toNat = 48 := by rw [← UInt8.toNat_inj]; rfl
  have hwk : P.wordKind (c :: r) = if P.cls c = 115 then (if (c :: r).length ≤ 8 then 1 else 0) else if P.cls c = 99 then (if (c :: r).length ≤ 8 then 2 else 0)
    else if (c :: r).length ≤ 9 ∧ (c :: r).all P.digit = true ∧ (c ≠ 48 ∨ r = []) then 3 else 0 := rfl
  obtain ⟨s, hs⟩ : ∃ s, s = c :: r := ⟨_, rfl⟩
  rw [← hs] at hl hg0 hn hln hr0 hwk ⊢
  unfold wordV
  rw [hwk]
  by_cases h1 : P.cls c = 115
  · rw [if_pos h1]
    by_cases h8 : s.length ≤ 8
    · rw [if_pos h8, if_neg (by decide)]
      refine sh_r_word_ok ?_
      simp (disch := first | assumption | omega | ((simp only [size_alloc, sz_drew, size_upd, List.size_toArray, List.length_cons, List.length_nil]) <;> omega) | decide) only [sh_r_word, Pr, PX, PC, NX, ends, fillL, wrL, sOf, Nat.reduceAdd, Nat.reduceMul, Nat.reduceLeDiff, Nat.reduceEqDiff, Int.reduceToNat, Int.reduceAdd, Int.reduceLT, Int.reduceLE, ↓reduceIte, forall_const, eq_self, zG1, zG2, al_60, bd_60, ch_9, ld_60, ln_9, st_60, hg0]
      refine (rClass c _).mono ?_
      rintro e w1 ⟨rfl, rfl⟩
      rw [h1]
      simp (disch := first | assumption | omega | ((simp only [size_alloc, sz_drew, size_upd, List.size_toArray, List.length_cons, List.length_nil]) <;> omega) | decide) only [sh_r_word, Pr, PX, PC, NX, ends, fillL, wrL, sOf, Nat.reduceAdd, Nat.reduceMul, Nat.reduceLeDiff, Nat.reduceEqDiff, Int.reduceToNat, Int.reduceAdd, Int.reduceLT, Int.reduceLE, ↓reduceIte, forall_const, eq_self, zG1, zG2, al_60, bd_60, ch_9, ld_60, ln_9, st_60]
      refine ⟨rfl, ?_⟩
      (repeat (first | assumption | exact FrM.refl _ _ | (refine FrM.upd ?_ (.inr (by (try simp only [size_alloc, sz_drew, size_upd, List.size_toArray, List.length_cons, List.length_nil]) <;> omega))) | refine FrM.alloc ?_ _ | refine FrM.drew ?_))
    · rw [if_neg h8, if_pos rfl]
      refine sh_r_word_ok ?_
      simp (disch := first | assumption | omega | ((simp only [size_alloc, sz_drew, size_upd, List.size_toArray, List.length_cons, List.length_nil]) <;> omega) | decide) only [sh_r_word, Pr, PX, PC, NX, ends, fillL, wrL, sOf, Nat.reduceAdd, Nat.reduceMul, Nat.reduceLeDiff, Nat.reduceEqDiff, Int.reduceToNat, Int.reduceAdd, Int.reduceLT, Int.reduceLE, ↓reduceIte, forall_const, eq_self, zG1, zG2, al_60, bd_60, ch_9, ld_60, ln_9, st_60, hg0]
      refine (rClass c _).mono ?_
      rintro e w1 ⟨rfl, rfl⟩
      rw [h1]
      simp (disch := first | assumption | omega | ((simp only [size_alloc, sz_drew, size_upd, List.size_toArray, List.length_cons, List.length_nil]) <;> omega) | decide) only [sh_r_word, Pr, PX, PC, NX, ends, fillL, wrL, sOf, Nat.reduceAdd, Nat.reduceMul, Nat.reduceLeDiff, Nat.reduceEqDiff, Int.reduceToNat, Int.reduceAdd, Int.reduceLT, Int.reduceLE, ↓reduceIte, forall_const, eq_self, zG1, zG2, al_60, bd_60, ch_9, ld_60, ln_9, st_60]
      (repeat (first | assumption | exact FrM.refl _ _ | (refine FrM.upd ?_ (.inr (by (try simp only [size_alloc, sz_drew, size_upd, List.size_toArray, List.length_cons, List.length_nil]) <;> omega))) | refine FrM.alloc ?_ _ | refine FrM.drew ?_))
  rw [if_neg h1]
  by_cases h2 : P.cls c = 99
  · rw [if_pos h2]
    by_cases h8 : s.length ≤ 8
    · rw [if_pos h8, if_neg (by decide)]
      refine sh_r_word_ok ?_
      simp (disch := first | assumption | omega | ((simp only [size_alloc, sz_drew, size_upd, List.size_toArray, List.length_cons, List.length_nil]) <;> omega) | decide) only [sh_r_word, Pr, PX, PC, NX, ends, fillL, wrL, sOf, Nat.reduceAdd, Nat.reduceMul, Nat.reduceLeDiff, Nat.reduceEqDiff, Int.reduceToNat, Int.reduceAdd, Int.reduceLT, Int.reduceLE, ↓reduceIte, forall_const, eq_self, zG1, zG2, al_60, bd_60, ch_9, ld_60, ln_9, st_60, hg0]
      refine (rClass c _).mono ?_
      rintro e w1 ⟨rfl, rfl⟩
      rw [h2]
      simp (disch := first | assumption | omega | ((simp only [size_alloc, sz_drew, size_upd, List.size_toArray, List.length_cons, List.length_nil]) <;> omega) | decide) only [sh_r_word, Pr, PX, PC, NX, ends, fillL, wrL, sOf, Nat.reduceAdd, Nat.reduceMul, Nat.reduceLeDiff, Nat.reduceEqDiff, Int.reduceToNat, Int.reduceAdd, Int.reduceLT, Int.reduceLE, ↓reduceIte, forall_const, eq_self, zG1, zG2, al_60, bd_60, ch_9, ld_60, ln_9, st_60]
      refine ⟨rfl, ?_⟩
      (repeat (first | assumption | exact FrM.refl _ _ | (refine FrM.upd ?_ (.inr (by (try simp only [size_alloc, sz_drew, size_upd, List.size_toArray, List.length_cons, List.length_nil]) <;> omega))) | refine FrM.alloc ?_ _ | refine FrM.drew ?_))
    · rw [if_neg h8, if_pos rfl]
      refine sh_r_word_ok ?_
      simp (disch := first | assumption | omega | ((simp only [size_alloc, sz_drew, size_upd, List.size_toArray, List.length_cons, List.length_nil]) <;> omega) | decide) only [sh_r_word, Pr, PX, PC, NX, ends, fillL, wrL, sOf, Nat.reduceAdd, Nat.reduceMul, Nat.reduceLeDiff, Nat.reduceEqDiff, Int.reduceToNat, Int.reduceAdd, Int.reduceLT, Int.reduceLE, ↓reduceIte, forall_const, eq_self, zG1, zG2, al_60, bd_60, ch_9, ld_60, ln_9, st_60, hg0]
      refine (rClass c _).mono ?_
      rintro e w1 ⟨rfl, rfl⟩
      rw [h2]
      simp (disch := first | assumption | omega | ((simp only [size_alloc, sz_drew, size_upd, List.size_toArray, List.length_cons, List.length_nil]) <;> omega) | decide) only [sh_r_word, Pr, PX, PC, NX, ends, fillL, wrL, sOf, Nat.reduceAdd, Nat.reduceMul, Nat.reduceLeDiff, Nat.reduceEqDiff, Int.reduceToNat, Int.reduceAdd, Int.reduceLT, Int.reduceLE, ↓reduceIte, forall_const, eq_self, zG1, zG2, al_60, bd_60, ch_9, ld_60, ln_9, st_60]
      (repeat (first | assumption | exact FrM.refl _ _ | (refine FrM.upd ?_ (.inr (by (try simp only [size_alloc, sz_drew, size_upd, List.size_toArray, List.length_cons, List.length_nil]) <;> omega))) | refine FrM.alloc ?_ _ | refine FrM.drew ?_))
  rw [if_neg h2]
  have hdig : s.all P.digit = true → P.cls c = 100 := fun h => by
    rw [hs, List.all_cons, Bool.and_eq_true] at h
    have := h.1
    simp only [P.digit, decide_eq_true_eq] at this
    unfold P.cls
    rw [if_neg (by omega), if_neg (by omega), if_pos this]
  by_cases h3 : P.cls c = 100
  · by_cases h9 : s.length ≤ 9
    · by_cases hz : c.toNat = 48 ∧ 1 < s.length
      · have hb : ¬ (s.length ≤ 9 ∧ s.all P.digit = true ∧ (c ≠ 48 ∨ r = [])) := fun h => h.2.2.elim (fun e => e (h48.2 hz.1)) (fun e => hr0.1 e hz.2)
        rw [if_neg hb, if_pos (show (0 : Nat) = 0 from rfl)]
        obtain ⟨hz1, hz2⟩ := hz
        refine sh_r_word_ok ?_
        simp (disch := first | assumption | omega | ((simp only [size_alloc, sz_drew, size_upd, List.size_toArray, List.length_cons, List.length_nil]) <;> omega) | decide) only [sh_r_word, Pr, PX, PC, NX, ends, fillL, wrL, sOf, Nat.reduceAdd, Nat.reduceMul, Nat.reduceLeDiff, Nat.reduceEqDiff, Int.reduceToNat, Int.reduceAdd, Int.reduceLT, Int.reduceLE, ↓reduceIte, forall_const, eq_self, zG1, zG2, al_60, bd_60, ch_9, ld_60, ln_9, st_60, hg0]
        refine (rClass c _).mono ?_
        rintro e w1 ⟨rfl, rfl⟩
        rw [h3]
        simp (disch := first | assumption | omega | ((simp only [size_alloc, sz_drew, size_upd, List.size_toArray, List.length_cons, List.length_nil]) <;> omega) | decide) only [sh_r_word, Pr, PX, PC, NX, ends, fillL, wrL, sOf, Nat.reduceAdd, Nat.reduceMul, Nat.reduceLeDiff, Nat.reduceEqDiff, Int.reduceToNat, Int.reduceAdd, Int.reduceLT, Int.reduceLE, ↓reduceIte, forall_const, eq_self, zG1, zG2, al_60, bd_60, ch_9, ld_60, ln_9, st_60, hg0, hz1]
        (repeat (first | assumption | exact FrM.refl _ _ | (refine FrM.upd ?_ (.inr (by (try simp only [size_alloc, sz_drew, size_upd, List.size_toArray, List.length_cons, List.length_nil]) <;> omega))) | refine FrM.alloc ?_ _ | refine FrM.drew ?_))
      · have hz' : ¬ c.toNat = 48 ∨ ¬ 1 < s.length := by omega
        refine sh_r_word_ok ?_
        simp (disch := first | assumption | omega | ((simp only [size_alloc, sz_drew, size_upd, List.size_toArray, List.length_cons, List.length_nil]) <;> omega) | decide) only [sh_r_word, Pr, PX, PC, NX, ends, fillL, wrL, sOf, Nat.reduceAdd, Nat.reduceMul, Nat.reduceLeDiff, Nat.reduceEqDiff, Int.reduceToNat, Int.reduceAdd, Int.reduceLT, Int.reduceLE, ↓reduceIte, forall_const, eq_self, zG1, zG2, al_60, bd_60, ch_9, ld_60, ln_9, st_60, hg0]
        refine (rClass c _).mono ?_
        rintro e w1 ⟨rfl, rfl⟩
        rw [h3]
        have hcr : c ≠ 48 ∨ r = [] := hz'.elim (fun h => .inl fun e => h (h48.1 e)) (fun h => .inr (hr0.2 h))
        rcases Decidable.em (c.toNat = 48) with h0 | h0
        all_goals
          first
            | (have hz2 := hz'.resolve_left (fun h => h h0); simp (disch := first | assumption | omega | ((simp only [size_alloc, sz_drew, size_upd, List.size_toArray, List.length_cons, List.length_nil]) <;> omega) | decide) only [sh_r_word, Pr, PX, PC, NX, ends, fillL, wrL, sOf, Nat.reduceAdd, Nat.reduceMul, Nat.reduceLeDiff, Nat.reduceEqDiff, Int.reduceToNat, Int.reduceAdd, Int.reduceLT, Int.reduceLE, ↓reduceIte, forall_const, eq_self, zG1, zG2, al_60, bd_60, ch_9, ld_60, ln_9, st_60, hg0, h0])
            | simp (disch := first | assumption | omega | ((simp only [size_alloc, sz_drew, size_upd, List.size_toArray, List.length_cons, List.length_nil]) <;> omega) | decide) only [sh_r_word, Pr, PX, PC, NX, ends, fillL, wrL, sOf, Nat.reduceAdd, Nat.reduceMul, Nat.reduceLeDiff, Nat.reduceEqDiff, Int.reduceToNat, Int.reduceAdd, Int.reduceLT, Int.reduceLE, ↓reduceIte, forall_const, eq_self, zG1, zG2, al_60, bd_60, ch_9, ld_60, ln_9, st_60, hg0]
          refine ⟨fun n t w1 => ∃ j : Nat, j ≤ s.length ∧ n = s.length - j ∧ t 6 = .int .i64 j ∧ w1 = w.alloc (.cells #[.int .u8 0, .string (bs []), .int .i64 0] 60) ∧ ∀ i, i < j → P.digit (s.getD i 0) = true, ⟨s.length, 0, Nat.zero_le _, rfl, rfl, rfl, fun i hi => absurd hi (Nat.not_lt_zero _)⟩, ?_⟩
          intro n t dd w1 hI
          refine toPr ?_
          obtain ⟨j, hj, rfl, h6, rfl, hall⟩ := hI
          by_cases hlt : j < s.length
          · by_cases hd : P.digit (s.getD j 0) = true
            · have hd' := hd
              simp only [P.digit, decide_eq_true_eq] at hd'
              obtain ⟨hd1, hd2⟩ := hd'
              simp (disch := first | assumption | omega | ((simp only [size_alloc, sz_drew, size_upd, List.size_toArray, List.length_cons, List.length_nil]) <;> omega) | decide) only [sh_r_word, Pr, PX, PC, NX, ends, fillL, wrL, sOf, Nat.reduceAdd, Nat.reduceMul, Nat.reduceLeDiff, Nat.reduceEqDiff, Int.reduceToNat, Int.reduceAdd, Int.reduceLT, Int.reduceLE, ↓reduceIte, forall_const, eq_self, zG1, zG2, al_60, bd_60, ch_9, ld_60, ln_9, st_60, h6]
              refine ⟨s.length - (j + 1), by omega, j + 1, by omega, rfl, rfl, fun i hi => ?_⟩
              rcases Nat.lt_or_ge i j with h | h
              · exact hall i h
              · obtain rfl : i = j := by omega
                exact hd
            · have hb : ¬ (s.length ≤ 9 ∧ s.all P.digit = true ∧ (c ≠ 48 ∨ r = [])) := fun h => hd (by
                have := List.all_eq_true.1 h.2.1 _ (List.getElem_mem hlt)
                simpa [List.getD, hlt] using this)
              rw [if_neg hb, if_pos (show (0 : Nat) = 0 from rfl)]
              simp only [P.digit, decide_eq_true_eq] at hd
              have hcl := (s.getD j 0).toNat_lt
              by_cases hlo : (s.getD j 0).toNat < 48
              · simp (disch := first | assumption | omega | ((simp only [size_alloc, sz_drew, size_upd, List.size_toArray, List.length_cons, List.length_nil]) <;> omega) | decide) only [sh_r_word, Pr, PX, PC, NX, ends, fillL, wrL, sOf, Nat.reduceAdd, Nat.reduceMul, Nat.reduceLeDiff, Nat.reduceEqDiff, Int.reduceToNat, Int.reduceAdd, Int.reduceLT, Int.reduceLE, ↓reduceIte, forall_const, eq_self, zG1, zG2, al_60, bd_60, ch_9, ld_60, ln_9, st_60, h6]
                (repeat (first | assumption | exact FrM.refl _ _ | (refine FrM.upd ?_ (.inr (by (try simp only [size_alloc, sz_drew, size_upd, List.size_toArray, List.length_cons, List.length_nil]) <;> omega))) | refine FrM.alloc ?_ _ | refine FrM.drew ?_))
              · simp (disch := first | assumption | omega | ((simp only [size_alloc, sz_drew, size_upd, List.size_toArray, List.length_cons, List.length_nil]) <;> omega) | decide) only [sh_r_word, Pr, PX, PC, NX, ends, fillL, wrL, sOf, Nat.reduceAdd, Nat.reduceMul, Nat.reduceLeDiff, Nat.reduceEqDiff, Int.reduceToNat, Int.reduceAdd, Int.reduceLT, Int.reduceLE, ↓reduceIte, forall_const, eq_self, zG1, zG2, al_60, bd_60, ch_9, ld_60, ln_9, st_60, h6]
                (repeat (first | assumption | exact FrM.refl _ _ | (refine FrM.upd ?_ (.inr (by (try simp only [size_alloc, sz_drew, size_upd, List.size_toArray, List.length_cons, List.length_nil]) <;> omega))) | refine FrM.alloc ?_ _ | refine FrM.drew ?_))
          · have hb : s.length ≤ 9 ∧ s.all P.digit = true ∧ (c ≠ 48 ∨ r = []) := ⟨h9, by
              rw [List.all_eq_true]
              intro x hx
              obtain ⟨i, hi, e⟩ := List.getElem_of_mem hx
              have := hall i (by omega)
              rw [← e]
              simpa [List.getD, hi] using this, hcr⟩
            rw [if_pos hb, if_neg (show ¬ (3 : Nat) = 0 by decide)]
            simp (disch := first | assumption | omega | ((simp only [size_alloc, sz_drew, size_upd, List.size_toArray, List.length_cons, List.length_nil]) <;> omega) | decide) only [sh_r_word, Pr, PX, PC, NX, ends, fillL, wrL, sOf, Nat.reduceAdd, Nat.reduceMul, Nat.reduceLeDiff, Nat.reduceEqDiff, Int.reduceToNat, Int.reduceAdd, Int.reduceLT, Int.reduceLE, ↓reduceIte, forall_const, eq_self, zG1, zG2, al_60, bd_60, ch_9, ld_60, ln_9, st_60, h6]
            refine ⟨rfl, ?_⟩
            (repeat (first | assumption | exact FrM.refl _ _ | (refine FrM.upd ?_ (.inr (by (try simp only [size_alloc, sz_drew, size_upd, List.size_toArray, List.length_cons, List.length_nil]) <;> omega))) | refine FrM.alloc ?_ _ | refine FrM.drew ?_))
    · have hb : ¬ (s.length ≤ 9 ∧ s.all P.digit = true ∧ (c ≠ 48 ∨ r = [])) := fun h => h9 h.1
      rw [if_neg hb, if_pos (show (0 : Nat) = 0 from rfl)]
      refine sh_r_word_ok ?_
      simp (disch := first | assumption | omega | ((simp only [size_alloc, sz_drew, size_upd, List.size_toArray, List.length_cons, List.length_nil]) <;> omega) | decide) only [sh_r_word, Pr, PX, PC, NX, ends, fillL, wrL, sOf, Nat.reduceAdd, Nat.reduceMul, Nat.reduceLeDiff, Nat.reduceEqDiff, Int.reduceToNat, Int.reduceAdd, Int.reduceLT, Int.reduceLE, ↓reduceIte, forall_const, eq_self, zG1, zG2, al_60, bd_60, ch_9, ld_60, ln_9, st_60, hg0]
      refine (rClass c _).mono ?_
      rintro e w1 ⟨rfl, rfl⟩
      rw [h3]
      simp (disch := first | assumption | omega | ((simp only [size_alloc, sz_drew, size_upd, List.size_toArray, List.length_cons, List.length_nil]) <;> omega) | decide) only [sh_r_word, Pr, PX, PC, NX, ends, fillL, wrL, sOf, Nat.reduceAdd, Nat.reduceMul, Nat.reduceLeDiff, Nat.reduceEqDiff, Int.reduceToNat, Int.reduceAdd, Int.reduceLT, Int.reduceLE, ↓reduceIte, forall_const, eq_self, zG1, zG2, al_60, bd_60, ch_9, ld_60, ln_9, st_60]
      (repeat (first | assumption | exact FrM.refl _ _ | (refine FrM.upd ?_ (.inr (by (try simp only [size_alloc, sz_drew, size_upd, List.size_toArray, List.length_cons, List.length_nil]) <;> omega))) | refine FrM.alloc ?_ _ | refine FrM.drew ?_))
  · have hz : ¬ (s.length ≤ 9 ∧ s.all P.digit = true ∧ (c ≠ 48 ∨ r = [])) := fun h => h3 (hdig h.2.1)
    rw [if_neg hz, if_pos rfl]
    have q1 : ¬ (P.cls c : Int) = 115 := by omega
    have q2 : ¬ (P.cls c : Int) = 99 := by omega
    have q3 : ¬ (P.cls c : Int) = 100 := by omega
    refine sh_r_word_ok ?_
    simp (disch := first | assumption | omega | ((simp only [size_alloc, sz_drew, size_upd, List.size_toArray, List.length_cons, List.length_nil]) <;> omega) | decide) only [sh_r_word, Pr, PX, PC, NX, ends, fillL, wrL, sOf, Nat.reduceAdd, Nat.reduceMul, Nat.reduceLeDiff, Nat.reduceEqDiff, Int.reduceToNat, Int.reduceAdd, Int.reduceLT, Int.reduceLE, ↓reduceIte, forall_const, eq_self, zG1, zG2, al_60, bd_60, ch_9, ld_60, ln_9, st_60, hg0]
    refine (rClass c _).mono ?_
    rintro e w1 ⟨rfl, rfl⟩
    generalize P.cls c = q at *
    simp (disch := first | assumption | omega | ((simp only [size_alloc, sz_drew, size_upd, List.size_toArray, List.length_cons, List.length_nil]) <;> omega) | decide) only [sh_r_word, Pr, PX, PC, NX, ends, fillL, wrL, sOf, Nat.reduceAdd, Nat.reduceMul, Nat.reduceLeDiff, Nat.reduceEqDiff, Int.reduceToNat, Int.reduceAdd, Int.reduceLT, Int.reduceLE, ↓reduceIte, forall_const, eq_self, zG1, zG2, al_60, bd_60, ch_9, ld_60, ln_9, st_60]
    (repeat (first | assumption | exact FrM.refl _ _ | (refine FrM.upd ?_ (.inr (by (try simp only [size_alloc, sz_drew, size_upd, List.size_toArray, List.length_cons, List.length_nil]) <;> omega))) | refine FrM.alloc ?_ _ | refine FrM.drew ?_))
end Go.Proofs.YtkmpelgfhjgddaaGreatDoor
