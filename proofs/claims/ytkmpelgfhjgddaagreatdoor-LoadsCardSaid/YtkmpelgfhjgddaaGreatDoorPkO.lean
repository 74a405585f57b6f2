/- A part of one proof (SInt, STie, SSmall); no conditions beyond what each theorem names. -/
import Derived.Test.YtkmpelgfhjgddaaGreatDoorPkI
import Derived.Test.YtkmpelgfhjgddaaGreatDoorPkN
import Derived.Test.YtkmpelgfhjgddaaGreatDoorPkM
import Derived.Test.YtkmpelgfhjgddaaGreatDoorPkJ
import Derived.Test.YtkmpelgfhjgddaaGreatDoorPkK
set_option linter.all false
set_option linter.unusedVariables false
set_option linter.unusedSimpArgs false
namespace Go.Proofs.YtkmpelgfhjgddaaGreatDoor
open Go.RowKit
theorem parseUintM_num : ∀ (l : P.Bs) (acc : Nat), l.all P.digit = true → l.length ≤ 9 → acc < 10 ^ (9 - l.length) →
    Go.Lib.parseUintM (2 ^ 64 - 1) acc l = .ok (l.foldl (fun v c => 10 * v + (c.toNat - 48)) acc)
  | [], acc, _, _, _ => by simp [Go.Lib.parseUintM]
  | c :: r, acc, h, hl, ha => by
    simp only [List.all_cons, Bool.and_eq_true, P.digit, decide_eq_true_eq] at h
    simp only [List.length_cons] at hl ha
    have h9 : 10 ^ (9 - (r.length + 1)) ≤ 10 ^ 8 := Nat.pow_le_pow_right (by decide) (by omega)
    have e9 : (10 : Nat) ^ 8 = 100000000 := by decide
    have hp : 10 * 10 ^ (9 - (r.length + 1)) = 10 ^ (9 - r.length) := by
      rw [← Nat.pow_succ']
      congr 1
      omega
    rw [Go.Lib.parseUintM, if_pos h.1, if_neg (by omega), if_neg (by
      have e : (2 : Nat) ^ 64 = 18446744073709551616 := by decide
      omega)]
    rw [parseUintM_num r (acc * 10 + (c.toNat - 48)) h.2 (by omega) (by omega)]
    simp only [List.foldl_cons, Nat.mul_comm]
theorem num_nat : ∀ (l : P.Bs) (acc : Nat), l.all P.digit = true → l.foldl (fun (v : Int) c => 10 * v + ((c.toNat : Int) - 48)) (acc : Int) = ((l.foldl (fun v c => 10 * v + (c.toNat - 48)) acc : Nat) : Int)
  | [], acc, _ => rfl
  | c :: r, acc, h => by
    simp only [List.all_cons, Bool.and_eq_true, P.digit, decide_eq_true_eq] at h
    simp only [List.foldl_cons]
    rw [← num_nat r _ h.2]
    congr 1
    omega
theorem foldl_lt : ∀ (l : P.Bs) (acc n : Nat), l.all P.digit = true → l.length ≤ n → n ≤ 9 → acc < 10 ^ (9 - n) → l.foldl (fun v c => 10 * v + (c.toNat - 48)) acc < 10 ^ 9
  | [], acc, n, _, _, hn, ha => by
    have : 10 ^ (9 - n) ≤ 10 ^ 9 := Nat.pow_le_pow_right (by decide) (by omega)
    simp only [List.foldl_nil]
    omega
  | c :: r, acc, n, h, hl, hn, ha => by
    simp only [List.all_cons, Bool.and_eq_true, P.digit, decide_eq_true_eq] at h
    simp only [List.length_cons] at hl
    simp only [List.foldl_cons]
    have hp : 10 * 10 ^ (9 - n) = 10 ^ (9 - (n - 1)) := by
      rw [← Nat.pow_succ']
      congr 1
      omega
    exact foldl_lt r _ (n - 1) h.2 (by omega) (by omega) (by omega)
theorem parseInt_num {l : P.Bs} (h0 : l ≠ []) (h : l.all P.digit = true) (hl : l.length ≤ 9) : Go.Lib.parseIntB 64 l = .ok (P.num l) := by
  obtain ⟨c, r, rfl⟩ : ∃ c r, l = c :: r := by
    cases l with
    | nil => exact absurd rfl h0
    | cons c r => exact ⟨c, r, rfl⟩
  have hc : 48 ≤ c.toNat ∧ c.toNat ≤ 57 := by
    simp only [List.all_cons, Bool.and_eq_true, P.digit, decide_eq_true_eq] at h
    exact h.1
  have hu : Go.Lib.parseUintB 64 (c :: r) = .ok ((c :: r).foldl (fun v c => 10 * v + (c.toNat - 48)) 0) := by
    rw [Go.Lib.parseUintB, if_neg (by simp)]
    exact parseUintM_num (c :: r) 0 h hl (Nat.pow_pos (by decide))
  have hlt := foldl_lt (c :: r) 0 9 h hl (Nat.le_refl _) (by decide)
  have e9 : (10 : Nat) ^ 9 = 1000000000 := by decide
  have e63 : (2 : Nat) ^ 63 = 9223372036854775808 := by decide
  rw [Go.Lib.parseIntB]
  simp only [show ¬ (c.toNat = 43 ∨ c.toNat = 45) from by omega, if_false, hu]
  rw [if_neg (by simp only [show (64 : Nat) - 1 = 63 from rfl]; omega), if_neg (by omega)]
  rw [if_neg (by omega)]
  congr 1
  exact (num_nat (c :: r) 0 h).symm
theorem ext_freeze {w w' : World} (h : Ext w w') {a : Addr} (ha : w.heap.size ≤ a.block) (n : Nat) : Ext w (w'.freeze a n) := by
  unfold World.freeze
  split
  · exact h
  · refine ⟨h.os, h.tape, h.output, by simpa using h.size, fun b o hb hn => ?_⟩
    have := ltOf hb
    show (w'.heap.modify a.block _)[b]? = some o
    rw [Array.getElem?_modify, if_neg (by omega)]
    exact h.block b o hb hn
theorem ext_bytesWorld (w : World) (e : TypeId) (s : ByteArray) : Ext w (Go.Lib.bytesWorld w e s) := by
  unfold Go.Lib.bytesWorld
  exact ext_freeze (((FrM.refl _ _).drew).alloc _) (Nat.le_refl _) _
theorem cInt : CInt := by
  refine ⟨fun {w} s h0 h hl => ?_⟩
  refine (Tryz.strconv_ParseInt_10_at64_ok (bs s) ?_ (P.num s) (parseInt_num h0 h hl) w).mono ?_
  · show s.toArray.size ≤ _
    simp; omega
  · rintro e w' ⟨rfl, rfl | ⟨t, rfl⟩⟩
    · exact ⟨rfl, FrM.refl _ _⟩
    · exact ⟨rfl, ext_bytesWorld _ _ _⟩
end Go.Proofs.YtkmpelgfhjgddaaGreatDoor
namespace Go.Proofs.YtkmpelgfhjgddaaGreatDoor
open Go.RowKit
theorem termsBelow : ∀ f : Nat, ∀ m, m ≤ f → CPrim m ∧ CArgs m ∧ CList m ∧ COper m
  | 0, m, h => by
    obtain rfl : m = 0 := by omega
    exact ⟨cPrim0, cArgs0, cList0, cOper0⟩
  | f + 1, m, h => by
    have ih := termsBelow f
    rcases Nat.lt_or_ge m (f + 1) with hm | hm
    · exact ih m (by omega)
    · obtain rfl : m = f + 1 := by omega
      have hexp : ∀ j, j < f + 1 → CExpr j := fun j hj => cExpr (ih j (by omega)).2.2.2
      have hf := ih f (Nat.le_refl f)
      exact ⟨cPrim hf.2.1 (cExpr hf.2.2.2) hf.2.2.1 cVar cInt, cArgs hexp, cList hexp, cOper hf.1 fun j hj => (ih j hj).2.2.2⟩
theorem cExprs (f : Nat) : CExpr f := cExpr (termsBelow f f (Nat.le_refl f)).2.2.2
theorem cArgss (f : Nat) : CArgs f := (termsBelow f f (Nat.le_refl f)).2.1
end Go.Proofs.YtkmpelgfhjgddaaGreatDoor
namespace Go.Proofs.YtkmpelgfhjgddaaGreatDoor
open Go.RowKit
set_option linter.unusedVariables false
set_option maxRecDepth 100000 in
set_option maxHeartbeats 2000000 in
theorem sClass (c : UInt8) {w : World} : Calls Tryz.prog 94 #[.int .u8 c.toNat] w fun e w' => e = .returned (.int .u8 (P.cls c)) ∧ w' = w := by
  have hc : c.toNat < 256 := c.toNat_lt
  unfold P.cls
  obtain ⟨n, hn⟩ : ∃ n, n = c.toNat := ⟨_, rfl⟩
  rw [← hn] at hc ⊢
  clear hn
  by_cases a1 : 97 ≤ n
  · by_cases a2 : n ≤ 122
    · have b1 : (97 : Int) ≤ n := by omega
      have b2 : (n : Int) ≤ 122 := by omega
      rw [if_pos ⟨a1, a2⟩]
      go_enter Tryz.func94, Tryz.ntmps94
      go_wp2_with fail
      go_ret
      exact ⟨rfl, rfl⟩
    · have b1 : (97 : Int) ≤ n := by omega
      have b2 : ¬ (n : Int) ≤ 122 := by omega
      have b3 : (65 : Int) ≤ n := by omega
      have b4 : ¬ (n : Int) ≤ 90 := by omega
      have b5 : ((n : Int) == 95) = false := by simp; omega
      have b6 : (48 : Int) ≤ n := by omega
      have b7 : ¬ (n : Int) ≤ 57 := by omega
      have b8 : ¬ (n : Int) = 95 := by omega
      rw [if_neg (by omega), if_neg (by omega), if_neg (by omega)]
      go_enter Tryz.func94, Tryz.ntmps94
      go_wp2_with fail
      go_ret
      exact ⟨rfl, rfl⟩
  · have b1 : ¬ (97 : Int) ≤ n := by omega
    rw [if_neg (by omega)]
    by_cases a3 : n = 95
    · subst a3
      go_enter Tryz.func94, Tryz.ntmps94
      go_wp2_with fail
      go_ret
      exact ⟨rfl, rfl⟩
    have b5 : ((n : Int) == 95) = false := by simp; omega
    have b8 : ¬ (n : Int) = 95 := by omega
    by_cases a4 : 65 ≤ n
    · have b3 : (65 : Int) ≤ n := by omega
      by_cases a5 : n ≤ 90
      · have b4 : (n : Int) ≤ 90 := by omega
        rw [if_pos (by omega)]
        go_enter Tryz.func94, Tryz.ntmps94
        go_wp2_with fail
        go_ret
        exact ⟨rfl, rfl⟩
      · have b4 : ¬ (n : Int) ≤ 90 := by omega
        have b6 : (48 : Int) ≤ n := by omega
        have b7 : ¬ (n : Int) ≤ 57 := by omega
        rw [if_neg (by omega), if_neg (by omega)]
        go_enter Tryz.func94, Tryz.ntmps94
        go_wp2_with fail
        go_ret
        exact ⟨rfl, rfl⟩
    · have b3 : ¬ (65 : Int) ≤ n := by omega
      rw [if_neg (by omega)]
      by_cases a6 : 48 ≤ n
      · have b6 : (48 : Int) ≤ n := by omega
        by_cases a7 : n ≤ 57
        · have b7 : (n : Int) ≤ 57 := by omega
          rw [if_pos (by omega)]
          go_enter Tryz.func94, Tryz.ntmps94
          go_wp2_with fail
          go_ret
          exact ⟨rfl, rfl⟩
        · have b7 : ¬ (n : Int) ≤ 57 := by omega
          rw [if_neg (by omega)]
          go_enter Tryz.func94, Tryz.ntmps94
          go_wp2_with fail
          go_ret
          exact ⟨rfl, rfl⟩
      · have b6 : ¬ (48 : Int) ≤ n := by omega
        rw [if_neg (by omega)]
        go_enter Tryz.func94, Tryz.ntmps94
        go_wp2_with fail
        go_ret
        exact ⟨rfl, rfl⟩
set_option maxRecDepth 100000 in
set_option maxHeartbeats 4000000 in
theorem sTests (s : P.Bs) {w : World} : Calls Tryz.prog 55 #[.string (bs s)] w fun e w' => e = .returned (.int .i64 (P.tests s)) ∧ w' = w := by
  by_cases c0 : s = [116, 114, 117, 101]
  · subst c0
    go_enter Tryz.func55, Tryz.ntmps55
    go_wp2_with fail
    go_ret
    exact ⟨rfl, rfl⟩
  by_cases c1 : s = [102, 97, 105, 108]
  · subst c1
    go_enter Tryz.func55, Tryz.ntmps55
    go_wp2_with fail
    go_ret
    exact ⟨rfl, rfl⟩
  by_cases c2 : s = [118, 97, 114]
  · subst c2
    go_enter Tryz.func55, Tryz.ntmps55
    go_wp2_with fail
    go_ret
    exact ⟨rfl, rfl⟩
  by_cases c3 : s = [110, 111, 110, 118, 97, 114]
  · subst c3
    go_enter Tryz.func55, Tryz.ntmps55
    go_wp2_with fail
    go_ret
    exact ⟨rfl, rfl⟩
  by_cases c4 : s = [97, 116, 111, 109]
  · subst c4
    go_enter Tryz.func55, Tryz.ntmps55
    go_wp2_with fail
    go_ret
    exact ⟨rfl, rfl⟩
  by_cases c5 : s = [105, 110, 116, 101, 103, 101, 114]
  · subst c5
    go_enter Tryz.func55, Tryz.ntmps55
    go_wp2_with fail
    go_ret
    exact ⟨rfl, rfl⟩
  by_cases c6 : s = [61]
  · subst c6
    go_enter Tryz.func55, Tryz.ntmps55
    go_wp2_with fail
    go_ret
    exact ⟨rfl, rfl⟩
  by_cases c7 : s = [92, 61]
  · subst c7
    go_enter Tryz.func55, Tryz.ntmps55
    go_wp2_with fail
    go_ret
    exact ⟨rfl, rfl⟩
  by_cases c8 : s = [61, 61]
  · subst c8
    go_enter Tryz.func55, Tryz.ntmps55
    go_wp2_with fail
    go_ret
    exact ⟨rfl, rfl⟩
  by_cases c9 : s = [105, 115]
  · subst c9
    go_enter Tryz.func55, Tryz.ntmps55
    go_wp2_with fail
    go_ret
    exact ⟨rfl, rfl⟩
  by_cases c10 : s = [60]
  · subst c10
    go_enter Tryz.func55, Tryz.ntmps55
    go_wp2_with fail
    go_ret
    exact ⟨rfl, rfl⟩
  by_cases c11 : s = [62]
  · subst c11
    go_enter Tryz.func55, Tryz.ntmps55
    go_wp2_with fail
    go_ret
    exact ⟨rfl, rfl⟩
  by_cases c12 : s = [61, 60]
  · subst c12
    go_enter Tryz.func55, Tryz.ntmps55
    go_wp2_with fail
    go_ret
    exact ⟨rfl, rfl⟩
  by_cases c13 : s = [62, 61]
  · subst c13
    go_enter Tryz.func55, Tryz.ntmps55
    go_wp2_with fail
    go_ret
    exact ⟨rfl, rfl⟩
  by_cases c14 : s = [61, 58, 61]
  · subst c14
    go_enter Tryz.func55, Tryz.ntmps55
    go_wp2_with fail
    go_ret
    exact ⟨rfl, rfl⟩
  have e : P.tests s = -1 := by
    unfold P.tests
    rw [if_neg, if_neg, if_neg] <;> simp [c0, c1, c2, c3, c4, c5, c6, c7, c8, c9, c10, c11, c12, c13, c14]
  rw [e]
  have d0 : (s == ([116, 114, 117, 101] : P.Bs)) = false := by simpa using c0
  have d1 : (s == ([102, 97, 105, 108] : P.Bs)) = false := by simpa using c1
  have d2 : (s == ([118, 97, 114] : P.Bs)) = false := by simpa using c2
  have d3 : (s == ([110, 111, 110, 118, 97, 114] : P.Bs)) = false := by simpa using c3
  have d4 : (s == ([97, 116, 111, 109] : P.Bs)) = false := by simpa using c4
  have d5 : (s == ([105, 110, 116, 101, 103, 101, 114] : P.Bs)) = false := by simpa using c5
  have d6 : (s == ([61] : P.Bs)) = false := by simpa using c6
  have d7 : (s == ([92, 61] : P.Bs)) = false := by simpa using c7
  have d8 : (s == ([61, 61] : P.Bs)) = false := by simpa using c8
  have d9 : (s == ([105, 115] : P.Bs)) = false := by simpa using c9
  have d10 : (s == ([60] : P.Bs)) = false := by simpa using c10
  have d11 : (s == ([62] : P.Bs)) = false := by simpa using c11
  have d12 : (s == ([61, 60] : P.Bs)) = false := by simpa using c12
  have d13 : (s == ([62, 61] : P.Bs)) = false := by simpa using c13
  have d14 : (s == ([61, 58, 61] : P.Bs)) = false := by simpa using c14
  go_enter Tryz.func55, Tryz.ntmps55
  go_wp2_with fail
  go_ret
  exact ⟨rfl, rfl⟩
end Go.Proofs.YtkmpelgfhjgddaaGreatDoor
