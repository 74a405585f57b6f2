/- A part of one proof (SX1); no conditions beyond what each theorem names. -/
import Derived.Test.YtkmpelgfhjgddaaGreatDoorPkG
import Derived.Test.YtkmpelgfhjgddaaGreatDoorPkE
import Derived.Test.YtkmpelgfhjgddaaGreatDoorPkS
import Derived.Test.YtkmpelgfhjgddaaGreatDoorPkO
import Derived.Test.YtkmpelgfhjgddaaGreatDoorPkA
import Derived.Test.YtkmpelgfhjgddaaGreatDoorPkN
import Derived.Shelf.Strings.SlTrimAscii
set_option linter.all false
set_option linter.unusedVariables false
set_option linter.unusedSimpArgs false
namespace Go.Proofs.YtkmpelgfhjgddaaGreatDoor
open Go.RowKit Sx
set_option maxRecDepth 100000
theorem sFail0 (c a : Int) (w : World) : Calls Tryz.prog 50 #[.int .i64 c, .int .i64 a] w fun e w' =>
    e = .panicked [{ v := .iface 85 (.pointer (some ⟨w.heap.size, 0, none⟩)), recovered := false }] ∧ w' = w.alloc (.cells #[.int .i64 c, .int .i64 a] 89) := by
  refine sh_s_fail_ok ?_
  simp (disch := first | assumption | omega | ((simp only [size_alloc, sz_drew, size_upd, List.size_toArray, List.length_cons, List.length_nil]) <;> omega) | decide) only [sh_s_fail, Pr, PX, PC, NX, ends, fillL, wrL, sOf, Nat.reduceAdd, Nat.reduceMul, Nat.reduceLeDiff, Nat.reduceEqDiff, Int.reduceToNat, Int.reduceAdd, Int.reduceLT, Int.reduceLE, ↓reduceIte, forall_const, eq_self, zG1, zG2, bd_89, mi_85]
theorem sClassX (c : UInt8) (w : World) : Calls Tryz.prog 94 #[.int .u8 c.toNat] w fun e w' => e = .returned (.int .u8 (P.cls c)) ∧ w' = w := by
  refine (sClass c).mono ?_
  rintro e w' ⟨rfl, rfl⟩
  exact ⟨rfl, rfl⟩
theorem sTrim (s : P.Bs) (w : World) (hs : s.length ≤ 100000) : Calls Tryz.prog 110 #[.string (bs s), .string (bs [48, 49, 50, 51, 52, 53, 54, 55, 56, 57])] w fun e w' =>
    e = .returned (.string (bs (Lib.trimS s [48, 49, 50, 51, 52, 53, 54, 55, 56, 57]))) ∧ Ext w w' := by
  refine (Any.strings_Trim_laid Tryz.lays160 (by kernel_rfl) (bs s) (bs [48, 49, 50, 51, 52, 53, 54, 55, 56, 57]) w (by simp [ByteArray.size]; omega) (by decide) (ascii_of_all (by decide))).mono ?_
  rintro e w' ⟨rfl, hB⟩
  exact ⟨rfl, ⟨hB.os, hB.tape, hB.output, hB.size, fun b o hb _ => by rw [hB.block b (ltOf hb)]; exact hb⟩⟩
theorem contains_digit (c : UInt8) : ([48, 49, 50, 51, 52, 53, 54, 55, 56, 57] : P.Bs).contains c = P.digit c := by
  have h : ∀ n : Fin 256, ([48, 49, 50, 51, 52, 53, 54, 55, 56, 57] : P.Bs).contains (UInt8.ofNat n.val) = P.digit (UInt8.ofNat n.val) := by decide
  have := h ⟨c.toNat, c.toNat_lt⟩
  simpa using this
theorem trimS_nil (s : P.Bs) : Lib.trimS s [48, 49, 50, 51, 52, 53, 54, 55, 56, 57] = [] ↔ s.all P.digit = true := by
  have hd : ∀ l : P.Bs, l.dropWhile (([48, 49, 50, 51, 52, 53, 54, 55, 56, 57] : P.Bs).contains ·) = [] ↔ l.all P.digit = true := fun l => by
    simp only [contains_digit]
    induction l with
    | nil => simp
    | cons c l ih =>
      rw [List.dropWhile_cons, List.all_cons, Bool.and_eq_true]
      split
      · rename_i h; rw [ih]; simp [h]
      · rename_i h; simp [h]
  unfold Lib.trimS Lib.trimLeftS Lib.trimRightS
  rw [hd]
  constructor
  · intro h
    have h2 : (s.reverse.dropWhile (([48, 49, 50, 51, 52, 53, 54, 55, 56, 57] : P.Bs).contains ·)) = [] := by
      cases hx : s.reverse.dropWhile (([48, 49, 50, 51, 52, 53, 54, 55, 56, 57] : P.Bs).contains ·) with
      | nil => rfl
      | cons c l =>
        rw [hx, List.all_reverse, List.all_cons, Bool.and_eq_true] at h
        have := List.head?_dropWhile_not (([48, 49, 50, 51, 52, 53, 54, 55, 56, 57] : P.Bs).contains ·) s.reverse
        rw [hx] at this
        simp only [List.head?_cons, contains_digit] at this
        rw [h.1] at this
        cases this
    have := (hd s.reverse).1 h2
    rwa [List.all_reverse] at this
  · intro h
    have h2 := (hd s.reverse).2 (by rw [List.all_reverse]; exact h)
    rw [h2]
    rfl
theorem sWord (c : UInt8) (r : P.Bs) (hl : (c :: r).length ≤ 100000) (at_ : Nat) (w : World) (hc0 : P.cls c ≠ 0) :
    Calls Tryz.prog 95 #[.string (bs (c :: r)), .int .i64 at_, .int .u8 (P.cls c)] w fun e w' => Ext w w' ∧
      ((P.wordKind (c :: r) ≠ 0 ∧ e = .returned (.agg #[.int .i64 (P.wordKind (c :: r)), .string (bs (c :: r)), .int .i64 at_])) ∨ (P.wordKind (c :: r) = 0 ∧ faulted 2 at_ w w' e)) := by
  have hwk : P.wordKind (c :: r) = if P.cls c = 115 then (if (c :: r).length ≤ 8 then 1 else 0) else if P.cls c = 99 then (if (c :: r).length ≤ 8 then 2 else 0)
    else if (c :: r).length ≤ 9 ∧ (c :: r).all P.digit = true ∧ (c ≠ 48 ∨ r = []) then 3 else 0 := rfl
  have hg0 : (c :: r).getD 0 0 = c := rfl
  have hn : 0 < (c :: r).length := by simp
  have hr0 : r = [] ↔ (c :: r).length = 1 := by cases r <;> simp
  have h48 : c = 48 ↔ c.toNat = 48 := by rw [← UInt8.toNat_inj]; rfl
  have hcls : P.cls c = 115 ∨ P.cls c = 99 ∨ P.cls c = 100 := by
    unfold P.cls at hc0 ⊢
    split at hc0
    · rename_i h; rw [if_pos h]; exact .inl rfl
    · rename_i h
      rw [if_neg h]
      split at hc0
      · rename_i h2; rw [if_pos h2]; exact .inr (.inl rfl)
      · rename_i h2
        rw [if_neg h2]
        split at hc0
        · rename_i h3; rw [if_pos h3]; exact .inr (.inr rfl)
        · exact absurd rfl hc0
  obtain ⟨s, hs⟩ : ∃ s, s = c :: r := ⟨_, rfl⟩
  rw [← hs] at hl hg0 hn hr0 hwk ⊢
  have hX : Ext w (w.alloc (.cells #[.int .i64 0, .string (bs []), .int .i64 0] 139)) := by (repeat (first | assumption | exact FrM.refl _ _ | (refine FrM.upd ?_ (.inr (by (try simp only [size_alloc, sz_drew, size_upd, List.size_toArray, List.length_cons, List.length_nil]) <;> omega))) | refine FrM.alloc ?_ _ | refine FrM.drew ?_))
  have hend : ∀ (kd : Nat), P.wordKind s = kd → kd ≠ 0 → Ext w (upd (w.alloc (.cells #[.int .i64 0, .string (bs []), .int .i64 0] 139)) w.heap.size (.cells #[.int .i64 kd, .string (bs s), .int .i64 at_] 139)) := fun kd _ _ => by (repeat (first | assumption | exact FrM.refl _ _ | (refine FrM.upd ?_ (.inr (by (try simp only [size_alloc, sz_drew, size_upd, List.size_toArray, List.length_cons, List.length_nil]) <;> omega))) | refine FrM.alloc ?_ _ | refine FrM.drew ?_))
  refine sh_s_word_ok ?_
  simp (disch := first | assumption | omega | ((simp only [size_alloc, sz_drew, size_upd, List.size_toArray, List.length_cons, List.length_nil]) <;> omega) | decide) only [sh_s_word, Pr, PX, PC, NX, ends, fillL, wrL, sOf, Nat.reduceAdd, Nat.reduceMul, Nat.reduceLeDiff, Nat.reduceEqDiff, Int.reduceToNat, Int.reduceAdd, Int.reduceLT, Int.reduceLE, ↓reduceIte, forall_const, eq_self, zG1, zG2, al_139, bd_139, ch_9, ld_139, ln_9, st_139]
  refine ⟨fun _ w' => Ext w w' ∧ P.wordKind s = 0, ?_, ?_⟩
  · rcases hcls with h | h | h
    · rw [h] at hwk ⊢
      rw [if_pos rfl] at hwk
      by_cases h8 : s.length ≤ 8
      · rw [if_pos h8] at hwk
        simp (disch := first | assumption | omega | ((simp only [size_alloc, sz_drew, size_upd, List.size_toArray, List.length_cons, List.length_nil]) <;> omega) | decide) only [sh_s_word, Pr, PX, PC, NX, ends, fillL, wrL, sOf, Nat.reduceAdd, Nat.reduceMul, Nat.reduceLeDiff, Nat.reduceEqDiff, Int.reduceToNat, Int.reduceAdd, Int.reduceLT, Int.reduceLE, ↓reduceIte, forall_const, eq_self, zG1, zG2, al_139, bd_139, ch_9, ld_139, ln_9, st_139]
        rw [hwk]
        exact ⟨hend 1 hwk (by decide), .inl ⟨by decide, rfl⟩⟩
      · rw [if_neg h8] at hwk
        simp (disch := first | assumption | omega | ((simp only [size_alloc, sz_drew, size_upd, List.size_toArray, List.length_cons, List.length_nil]) <;> omega) | decide) only [sh_s_word, Pr, PX, PC, NX, ends, fillL, wrL, sOf, Nat.reduceAdd, Nat.reduceMul, Nat.reduceLeDiff, Nat.reduceEqDiff, Int.reduceToNat, Int.reduceAdd, Int.reduceLT, Int.reduceLE, ↓reduceIte, forall_const, eq_self, zG1, zG2, al_139, bd_139, ch_9, ld_139, ln_9, st_139]
        exact ⟨hX, hwk⟩
    · rw [h] at hwk ⊢
      rw [if_neg (by decide), if_pos rfl] at hwk
      by_cases h8 : s.length ≤ 8
      · rw [if_pos h8] at hwk
        simp (disch := first | assumption | omega | ((simp only [size_alloc, sz_drew, size_upd, List.size_toArray, List.length_cons, List.length_nil]) <;> omega) | decide) only [sh_s_word, Pr, PX, PC, NX, ends, fillL, wrL, sOf, Nat.reduceAdd, Nat.reduceMul, Nat.reduceLeDiff, Nat.reduceEqDiff, Int.reduceToNat, Int.reduceAdd, Int.reduceLT, Int.reduceLE, ↓reduceIte, forall_const, eq_self, zG1, zG2, al_139, bd_139, ch_9, ld_139, ln_9, st_139]
        rw [hwk]
        exact ⟨hend 2 hwk (by decide), .inl ⟨by decide, rfl⟩⟩
      · rw [if_neg h8] at hwk
        simp (disch := first | assumption | omega | ((simp only [size_alloc, sz_drew, size_upd, List.size_toArray, List.length_cons, List.length_nil]) <;> omega) | decide) only [sh_s_word, Pr, PX, PC, NX, ends, fillL, wrL, sOf, Nat.reduceAdd, Nat.reduceMul, Nat.reduceLeDiff, Nat.reduceEqDiff, Int.reduceToNat, Int.reduceAdd, Int.reduceLT, Int.reduceLE, ↓reduceIte, forall_const, eq_self, zG1, zG2, al_139, bd_139, ch_9, ld_139, ln_9, st_139]
        exact ⟨hX, hwk⟩
    · rw [h] at hwk ⊢
      rw [if_neg (by decide), if_neg (by decide)] at hwk
      simp (disch := first | assumption | omega | ((simp only [size_alloc, sz_drew, size_upd, List.size_toArray, List.length_cons, List.length_nil]) <;> omega) | decide) only [sh_s_word, Pr, PX, PC, NX, ends, fillL, wrL, sOf, Nat.reduceAdd, Nat.reduceMul, Nat.reduceLeDiff, Nat.reduceEqDiff, Int.reduceToNat, Int.reduceAdd, Int.reduceLT, Int.reduceLE, ↓reduceIte, forall_const, eq_self, zG1, zG2, al_139, bd_139, ch_9, ld_139, ln_9, st_139]
      refine ⟨fun t w' => Ext w w' ∧ w'.heap[w.heap.size]? = some (.cells #[.int .i64 0, .string (bs []), .int .i64 0] 139 (0, 0)) ∧ t 25 = .bool (decide (P.wordKind s ≠ 0)), ?_, ?_⟩
      · have hb0 : (w.alloc (.cells #[.int .i64 0, .string (bs []), .int .i64 0] 139)).heap[w.heap.size]? = some (.cells #[.int .i64 0, .string (bs []), .int .i64 0] 139 (0, 0)) := blk_alloc_new w _
        by_cases h9 : s.length ≤ 9
        · simp (disch := first | assumption | omega | ((simp only [size_alloc, sz_drew, size_upd, List.size_toArray, List.length_cons, List.length_nil]) <;> omega) | decide) only [sh_s_word, Pr, PX, PC, NX, ends, fillL, wrL, sOf, Nat.reduceAdd, Nat.reduceMul, Nat.reduceLeDiff, Nat.reduceEqDiff, Int.reduceToNat, Int.reduceAdd, Int.reduceLT, Int.reduceLE, ↓reduceIte, forall_const, eq_self, zG1, zG2, al_139, bd_139, ch_9, ld_139, ln_9, st_139]
          refine (sTrim s _ hl).mono ?_
          rintro e w2 ⟨rfl, hE2⟩
          have hw2 := hX.trans hE2
          have hb2 := hE2.ext _ _ hb0
          by_cases hd : s.all P.digit = true
          · have htn := (trimS_nil s).2 hd
            rw [htn]
            have hee : ([] : P.Bs) = [] := rfl
            by_cases hz : c.toNat = 48
            · have hz' : (c.toNat : Int) = 48 := by omega
              simp (disch := first | assumption | omega | ((simp only [size_alloc, sz_drew, size_upd, List.size_toArray, List.length_cons, List.length_nil]) <;> omega) | decide) only [sh_s_word, Pr, PX, PC, NX, ends, fillL, wrL, sOf, Nat.reduceAdd, Nat.reduceMul, Nat.reduceLeDiff, Nat.reduceEqDiff, Int.reduceToNat, Int.reduceAdd, Int.reduceLT, Int.reduceLE, ↓reduceIte, forall_const, eq_self, zG1, zG2, al_139, bd_139, ch_9, ld_139, ln_9, st_139, hg0]
              refine ⟨hw2, hb2, ?_⟩
              rw [hwk]
              by_cases h1 : s.length = 1
              · have h1' : (s.length : Int) = 1 := by omega
                rw [if_pos ⟨h9, hd, .inr (hr0.2 h1)⟩]
                simp [sOf, h1']
              · have h1' : ¬ (s.length : Int) = 1 := by omega
                rw [if_neg (fun h => h.2.2.elim (fun e => e (h48.2 hz)) (fun e => h1 (hr0.1 e)))]
                simp [sOf, h1']
            · have hz' : ¬ (c.toNat : Int) = 48 := by omega
              simp (disch := first | assumption | omega | ((simp only [size_alloc, sz_drew, size_upd, List.size_toArray, List.length_cons, List.length_nil]) <;> omega) | decide) only [sh_s_word, Pr, PX, PC, NX, ends, fillL, wrL, sOf, Nat.reduceAdd, Nat.reduceMul, Nat.reduceLeDiff, Nat.reduceEqDiff, Int.reduceToNat, Int.reduceAdd, Int.reduceLT, Int.reduceLE, ↓reduceIte, forall_const, eq_self, zG1, zG2, al_139, bd_139, ch_9, ld_139, ln_9, st_139, hg0]
              refine ⟨hw2, hb2, ?_⟩
              rw [hwk, if_pos ⟨h9, hd, .inl (fun e => hz (h48.1 e))⟩]
              simp [sOf]
          · have htn : ¬ Lib.trimS s [48, 49, 50, 51, 52, 53, 54, 55, 56, 57] = [] := fun h => hd ((trimS_nil s).1 h)
            simp (disch := first | assumption | omega | ((simp only [size_alloc, sz_drew, size_upd, List.size_toArray, List.length_cons, List.length_nil]) <;> omega) | decide) only [sh_s_word, Pr, PX, PC, NX, ends, fillL, wrL, sOf, Nat.reduceAdd, Nat.reduceMul, Nat.reduceLeDiff, Nat.reduceEqDiff, Int.reduceToNat, Int.reduceAdd, Int.reduceLT, Int.reduceLE, ↓reduceIte, forall_const, eq_self, zG1, zG2, al_139, bd_139, ch_9, ld_139, ln_9, st_139]
            refine ⟨hw2, hb2, ?_⟩
            rw [hwk, if_neg (fun h => hd h.2.1)]
            simp [sOf]
        · simp (disch := first | assumption | omega | ((simp only [size_alloc, sz_drew, size_upd, List.size_toArray, List.length_cons, List.length_nil]) <;> omega) | decide) only [sh_s_word, Pr, PX, PC, NX, ends, fillL, wrL, sOf, Nat.reduceAdd, Nat.reduceMul, Nat.reduceLeDiff, Nat.reduceEqDiff, Int.reduceToNat, Int.reduceAdd, Int.reduceLT, Int.reduceLE, ↓reduceIte, forall_const, eq_self, zG1, zG2, al_139, bd_139, ch_9, ld_139, ln_9, st_139]
          refine ⟨hX, ?_⟩
          rw [hwk, if_neg (fun h => h9 h.1)]
          simp [sOf]
      · rintro t w2 ⟨hE2, hb2, h25⟩ d2
        have lb2 := ltOf hb2
        rw [h25]
        by_cases hk : P.wordKind s ≠ 0
        · rw [bs_pos _ _ hk]
          have hk3 : P.wordKind s = 3 := by
            rw [hwk] at hk ⊢
            split at hk
            · rename_i h'; rw [if_pos h']
            · exact absurd rfl hk
          simp (disch := first | assumption | omega | ((simp only [size_alloc, sz_drew, size_upd, List.size_toArray, List.length_cons, List.length_nil]) <;> omega) | decide) only [sh_s_word, Pr, PX, PC, NX, ends, fillL, wrL, sOf, Nat.reduceAdd, Nat.reduceMul, Nat.reduceLeDiff, Nat.reduceEqDiff, Int.reduceToNat, Int.reduceAdd, Int.reduceLT, Int.reduceLE, ↓reduceIte, forall_const, eq_self, zG1, zG2, al_139, bd_139, ch_9, ld_139, ln_9, st_139, hb2]
          rw [hk3]
          exact ⟨hE2.upd (.inr (Nat.le_refl _)), .inl ⟨by decide, rfl⟩⟩
        · rw [bs_neg _ _ hk]
          exact ⟨hE2, by simpa using hk⟩
  · rintro t w' ⟨hE, hk⟩ dd
    refine (sFail0 _ _ _).mono ?_
    rintro e w2 ⟨rfl, rfl⟩
    simp (disch := first | assumption | omega | ((simp only [size_alloc, sz_drew, size_upd, List.size_toArray, List.length_cons, List.length_nil]) <;> omega) | decide) only [sh_s_word, Pr, PX, PC, NX, ends, fillL, wrL, sOf, Nat.reduceAdd, Nat.reduceMul, Nat.reduceLeDiff, Nat.reduceEqDiff, Int.reduceToNat, Int.reduceAdd, Int.reduceLT, Int.reduceLE, ↓reduceIte, forall_const, eq_self, zG1, zG2, al_139, bd_139, ch_9, ld_139, ln_9, st_139]
    exact ⟨hE.alloc _, .inr ⟨hk, _, rfl, hp_alloc_new rfl, hE.size⟩⟩
end Go.Proofs.YtkmpelgfhjgddaaGreatDoor
