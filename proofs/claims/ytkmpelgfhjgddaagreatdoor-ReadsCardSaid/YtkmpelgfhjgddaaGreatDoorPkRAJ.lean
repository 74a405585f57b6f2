/- A part of one proof (RW2, PureM, RCon, RW3); no conditions beyond what each theorem names. -/
import Derived.Test.YtkmpelgfhjgddaaGreatDoorPkRAI
set_option linter.all false
set_option linter.unusedVariables false
set_option linter.unusedSimpArgs false
namespace Go.Proofs.YtkmpelgfhjgddaaGreatDoor
open Go.RowKit Sx
set_option maxRecDepth 100000
theorem rTests (s : P.Bs) (w : World) : Calls Tryz.prog 35 #[.string (bs s)] w fun e w' => e = .returned (.int .i64 (P.tests s)) ∧ w' = w := by
  by_cases h0 : s = [116, 114, 117, 101]
  · subst h0
    refine sh_r_Tests_ok ?_
    simp (disch := first | assumption | omega | ((simp only [size_alloc, sz_drew, size_upd, List.size_toArray, List.length_cons, List.length_nil]) <;> omega) | decide) only [sh_r_Tests, Pr, PX, PC, NX, ends, fillL, wrL, sOf, Nat.reduceAdd, Nat.reduceMul, Nat.reduceLeDiff, Nat.reduceEqDiff, Int.reduceToNat, Int.reduceAdd, Int.reduceLT, Int.reduceLE, ↓reduceIte, forall_const, eq_self, zG1, zG2]
    rfl
  by_cases h1 : s = [102, 97, 105, 108]
  · subst h1
    refine sh_r_Tests_ok ?_
    simp (disch := first | assumption | omega | ((simp only [size_alloc, sz_drew, size_upd, List.size_toArray, List.length_cons, List.length_nil]) <;> omega) | decide) only [sh_r_Tests, Pr, PX, PC, NX, ends, fillL, wrL, sOf, Nat.reduceAdd, Nat.reduceMul, Nat.reduceLeDiff, Nat.reduceEqDiff, Int.reduceToNat, Int.reduceAdd, Int.reduceLT, Int.reduceLE, ↓reduceIte, forall_const, eq_self, zG1, zG2]
    rfl
  by_cases h2 : s = [118, 97, 114]
  · subst h2
    refine sh_r_Tests_ok ?_
    simp (disch := first | assumption | omega | ((simp only [size_alloc, sz_drew, size_upd, List.size_toArray, List.length_cons, List.length_nil]) <;> omega) | decide) only [sh_r_Tests, Pr, PX, PC, NX, ends, fillL, wrL, sOf, Nat.reduceAdd, Nat.reduceMul, Nat.reduceLeDiff, Nat.reduceEqDiff, Int.reduceToNat, Int.reduceAdd, Int.reduceLT, Int.reduceLE, ↓reduceIte, forall_const, eq_self, zG1, zG2]
    rfl
  by_cases h3 : s = [110, 111, 110, 118, 97, 114]
  · subst h3
    refine sh_r_Tests_ok ?_
    simp (disch := first | assumption | omega | ((simp only [size_alloc, sz_drew, size_upd, List.size_toArray, List.length_cons, List.length_nil]) <;> omega) | decide) only [sh_r_Tests, Pr, PX, PC, NX, ends, fillL, wrL, sOf, Nat.reduceAdd, Nat.reduceMul, Nat.reduceLeDiff, Nat.reduceEqDiff, Int.reduceToNat, Int.reduceAdd, Int.reduceLT, Int.reduceLE, ↓reduceIte, forall_const, eq_self, zG1, zG2]
    rfl
  by_cases h4 : s = [97, 116, 111, 109]
  · subst h4
    refine sh_r_Tests_ok ?_
    simp (disch := first | assumption | omega | ((simp only [size_alloc, sz_drew, size_upd, List.size_toArray, List.length_cons, List.length_nil]) <;> omega) | decide) only [sh_r_Tests, Pr, PX, PC, NX, ends, fillL, wrL, sOf, Nat.reduceAdd, Nat.reduceMul, Nat.reduceLeDiff, Nat.reduceEqDiff, Int.reduceToNat, Int.reduceAdd, Int.reduceLT, Int.reduceLE, ↓reduceIte, forall_const, eq_self, zG1, zG2]
    rfl
  by_cases h5 : s = [105, 110, 116, 101, 103, 101, 114]
  · subst h5
    refine sh_r_Tests_ok ?_
    simp (disch := first | assumption | omega | ((simp only [size_alloc, sz_drew, size_upd, List.size_toArray, List.length_cons, List.length_nil]) <;> omega) | decide) only [sh_r_Tests, Pr, PX, PC, NX, ends, fillL, wrL, sOf, Nat.reduceAdd, Nat.reduceMul, Nat.reduceLeDiff, Nat.reduceEqDiff, Int.reduceToNat, Int.reduceAdd, Int.reduceLT, Int.reduceLE, ↓reduceIte, forall_const, eq_self, zG1, zG2]
    rfl
  by_cases h6 : s = [61]
  · subst h6
    refine sh_r_Tests_ok ?_
    simp (disch := first | assumption | omega | ((simp only [size_alloc, sz_drew, size_upd, List.size_toArray, List.length_cons, List.length_nil]) <;> omega) | decide) only [sh_r_Tests, Pr, PX, PC, NX, ends, fillL, wrL, sOf, Nat.reduceAdd, Nat.reduceMul, Nat.reduceLeDiff, Nat.reduceEqDiff, Int.reduceToNat, Int.reduceAdd, Int.reduceLT, Int.reduceLE, ↓reduceIte, forall_const, eq_self, zG1, zG2]
    rfl
  by_cases h7 : s = [92, 61]
  · subst h7
    refine sh_r_Tests_ok ?_
    simp (disch := first | assumption | omega | ((simp only [size_alloc, sz_drew, size_upd, List.size_toArray, List.length_cons, List.length_nil]) <;> omega) | decide) only [sh_r_Tests, Pr, PX, PC, NX, ends, fillL, wrL, sOf, Nat.reduceAdd, Nat.reduceMul, Nat.reduceLeDiff, Nat.reduceEqDiff, Int.reduceToNat, Int.reduceAdd, Int.reduceLT, Int.reduceLE, ↓reduceIte, forall_const, eq_self, zG1, zG2]
    rfl
  by_cases h8 : s = [61, 61]
  · subst h8
    refine sh_r_Tests_ok ?_
    simp (disch := first | assumption | omega | ((simp only [size_alloc, sz_drew, size_upd, List.size_toArray, List.length_cons, List.length_nil]) <;> omega) | decide) only [sh_r_Tests, Pr, PX, PC, NX, ends, fillL, wrL, sOf, Nat.reduceAdd, Nat.reduceMul, Nat.reduceLeDiff, Nat.reduceEqDiff, Int.reduceToNat, Int.reduceAdd, Int.reduceLT, Int.reduceLE, ↓reduceIte, forall_const, eq_self, zG1, zG2]
    rfl
  by_cases h9 : s = [105, 115]
  · subst h9
    refine sh_r_Tests_ok ?_
    simp (disch := first | assumption | omega | ((simp only [size_alloc, sz_drew, size_upd, List.size_toArray, List.length_cons, List.length_nil]) <;> omega) | decide) only [sh_r_Tests, Pr, PX, PC, NX, ends, fillL, wrL, sOf, Nat.reduceAdd, Nat.reduceMul, Nat.reduceLeDiff, Nat.reduceEqDiff, Int.reduceToNat, Int.reduceAdd, Int.reduceLT, Int.reduceLE, ↓reduceIte, forall_const, eq_self, zG1, zG2]
    rfl
  by_cases h10 : s = [60]
  · subst h10
    refine sh_r_Tests_ok ?_
    simp (disch := first | assumption | omega | ((simp only [size_alloc, sz_drew, size_upd, List.size_toArray, List.length_cons, List.length_nil]) <;> omega) | decide) only [sh_r_Tests, Pr, PX, PC, NX, ends, fillL, wrL, sOf, Nat.reduceAdd, Nat.reduceMul, Nat.reduceLeDiff, Nat.reduceEqDiff, Int.reduceToNat, Int.reduceAdd, Int.reduceLT, Int.reduceLE, ↓reduceIte, forall_const, eq_self, zG1, zG2]
    rfl
  by_cases h11 : s = [62]
  · subst h11
    refine sh_r_Tests_ok ?_
    simp (disch := first | assumption | omega | ((simp only [size_alloc, sz_drew, size_upd, List.size_toArray, List.length_cons, List.length_nil]) <;> omega) | decide) only [sh_r_Tests, Pr, PX, PC, NX, ends, fillL, wrL, sOf, Nat.reduceAdd, Nat.reduceMul, Nat.reduceLeDiff, Nat.reduceEqDiff, Int.reduceToNat, Int.reduceAdd, Int.reduceLT, Int.reduceLE, ↓reduceIte, forall_const, eq_self, zG1, zG2]
    rfl
  by_cases h12 : s = [61, 60]
  · subst h12
    refine sh_r_Tests_ok ?_
    simp (disch := first | assumption | omega | ((simp only [size_alloc, sz_drew, size_upd, List.size_toArray, List.length_cons, List.length_nil]) <;> omega) | decide) only [sh_r_Tests, Pr, PX, PC, NX, ends, fillL, wrL, sOf, Nat.reduceAdd, Nat.reduceMul, Nat.reduceLeDiff, Nat.reduceEqDiff, Int.reduceToNat, Int.reduceAdd, Int.reduceLT, Int.reduceLE, ↓reduceIte, forall_const, eq_self, zG1, zG2]
    rfl
  by_cases h13 : s = [62, 61]
  · subst h13
    refine sh_r_Tests_ok ?_
    simp (disch := first | assumption | omega | ((simp only [size_alloc, sz_drew, size_upd, List.size_toArray, List.length_cons, List.length_nil]) <;> omega) | decide) only [sh_r_Tests, Pr, PX, PC, NX, ends, fillL, wrL, sOf, Nat.reduceAdd, Nat.reduceMul, Nat.reduceLeDiff, Nat.reduceEqDiff, Int.reduceToNat, Int.reduceAdd, Int.reduceLT, Int.reduceLE, ↓reduceIte, forall_const, eq_self, zG1, zG2]
    rfl
  by_cases h14 : s = [61, 58, 61]
  · subst h14
    refine sh_r_Tests_ok ?_
    simp (disch := first | assumption | omega | ((simp only [size_alloc, sz_drew, size_upd, List.size_toArray, List.length_cons, List.length_nil]) <;> omega) | decide) only [sh_r_Tests, Pr, PX, PC, NX, ends, fillL, wrL, sOf, Nat.reduceAdd, Nat.reduceMul, Nat.reduceLeDiff, Nat.reduceEqDiff, Int.reduceToNat, Int.reduceAdd, Int.reduceLT, Int.reduceLE, ↓reduceIte, forall_const, eq_self, zG1, zG2]
    rfl
  have e : P.tests s = -1 := by simp [P.tests, h0, h1, h2, h3, h4, h5, h6, h7, h8, h9, h10, h11, h12, h13, h14]
  refine sh_r_Tests_ok ?_
  simp (disch := first | assumption | omega | ((simp only [size_alloc, sz_drew, size_upd, List.size_toArray, List.length_cons, List.length_nil]) <;> omega) | decide) only [sh_r_Tests, Pr, PX, PC, NX, ends, fillL, wrL, sOf, Nat.reduceAdd, Nat.reduceMul, Nat.reduceLeDiff, Nat.reduceEqDiff, Int.reduceToNat, Int.reduceAdd, Int.reduceLT, Int.reduceLE, ↓reduceIte, forall_const, eq_self, zG1, zG2, e, h0, h1, h2, h3, h4, h5, h6, h7, h8, h9, h10, h11, h12, h13, h14]
theorem rValue (s : P.Bs) (w : World) (hd : s.all P.digit = true) (hl : s.length ≤ 9) : Calls Tryz.prog 107 #[.string (bs s)] w fun e w' => e = .returned (.int .i64 (P.num s)) ∧ w' = w := by
  refine sh_r_value_ok ?_
  refine ⟨fun n t w1 => ∃ j : Nat, j ≤ s.length ∧ n = s.length - j ∧ t 3 = .int .i64 (P.num (s.take j)) ∧ t 4 = .int .i64 j ∧ w1 = w, ⟨s.length, 0, Nat.zero_le _, rfl, rfl, rfl, rfl⟩, ?_⟩
  intro n t d w1 h
  refine toPr ?_
  obtain ⟨j, hj, rfl, h3, h4, rfl⟩ := h
  have hb := P.num_bound (s := s.take j) (by rw [List.all_eq_true] at hd ⊢; exact fun x hx => hd x (List.mem_of_mem_take hx)) (by rw [List.length_take]; omega)
  by_cases hlt : j < s.length
  · have hc := List.all_eq_true.1 hd _ (List.getElem_mem hlt)
    have hg : s.getD j 0 = s[j] := by simp [List.getD, hlt]
    simp only [P.digit, decide_eq_true_eq] at hc
    have hn : P.num (s.take (j + 1)) = 10 * P.num (s.take j) + ((s[j].toNat : Int) - 48) := by
      rw [List.take_succ_eq_append_getElem hlt, P.num_snoc]
    generalize P.num (s.take j) = q at *
    simp (disch := first | assumption | omega | ((simp only [size_alloc, sz_drew, size_upd, List.size_toArray, List.length_cons, List.length_nil]) <;> omega) | decide) only [sh_r_value, Pr, PX, PC, NX, ends, fillL, wrL, sOf, Nat.reduceAdd, Nat.reduceMul, Nat.reduceLeDiff, Nat.reduceEqDiff, Int.reduceToNat, Int.reduceAdd, Int.reduceLT, Int.reduceLE, ↓reduceIte, forall_const, eq_self, zG1, zG2, ch_9, cv_5_2, ln_9, h3, h4, hg]
    refine ⟨s.length - (j + 1), by omega, j + 1, by omega, rfl, ?_, rfl⟩
    rw [hn]
  · have : j = s.length := by omega
    subst this
    rw [List.take_length] at h3
    simp (disch := first | assumption | omega | ((simp only [size_alloc, sz_drew, size_upd, List.size_toArray, List.length_cons, List.length_nil]) <;> omega) | decide) only [sh_r_value, Pr, PX, PC, NX, ends, fillL, wrL, sOf, Nat.reduceAdd, Nat.reduceMul, Nat.reduceLeDiff, Nat.reduceEqDiff, Int.reduceToNat, Int.reduceAdd, Int.reduceLT, Int.reduceLE, ↓reduceIte, forall_const, eq_self, zG1, zG2, ch_9, cv_5_2, ln_9, h3, h4]
end Go.Proofs.YtkmpelgfhjgddaaGreatDoor
namespace Go.Proofs.YtkmpelgfhjgddaaGreatDoor.P
theorem bind_ok {α β : Type} {r : Option (Res α)} {g : α → Nat → List Bs → Option (Res β)} {b : β} {k : Nat} {v : List Bs}
    (h : Res.bind r g = some (.ok b k v)) : ∃ a k1 v1, r = some (.ok a k1 v1) ∧ g a k1 v1 = some (.ok b k v) := by
  unfold Res.bind at h
  split at h
  · cases h
  · cases h
  · rename_i a k1 v1
    exact ⟨a, k1, v1, rfl, h⟩
theorem musT_ok {α : Type} {T : List Tok} {s : Bs} {x y : α} {k k' : Nat} {v v' : List Bs} (h : musT T s x k v = some (.ok y k' v')) : k' = k + 1 ∧ y = x ∧ v' = v := by
  unfold musT at h
  split at h
  · simp only [Option.some.injEq, Res.ok.injEq] at h
    exact ⟨h.2.1.symm, h.1.symm, h.2.2.symm⟩
  · simp at h
theorem pVar_k {t : Tok} {k k' : Nat} {v v' : List Bs} {x : Ex} (h : pVar t k v = .ok x k' v') : k' = k := by
  unfold pVar at h
  split at h
  · injection h with _ h _; exact h.symm
  · split at h
    · cases h
    · injection h with _ h _; exact h.symm
structure Mono (T : List Tok) (f : Nat) : Prop where
  prim : ∀ k v d x k' v', pPrim T f k v d = some (.ok x k' v') → k < k'
  args : ∀ k v d a acc x k' v', pArgs T f k v d a acc = some (.ok x k' v') → k < k'
  list : ∀ k v d x k' v', pList T f k v d = some (.ok x k' v') → k < k'
  elems : ∀ k v d acc x k' v', pElems T f k v d acc = some (.ok x k' v') → k < k'
  oper : ∀ l k v d x k' v', pOper T f l k v d = some (.ok x k' v') → k < k'
  more : ∀ l y k v d x k' v', pMore T f l y k v d = some (.ok x k' v') → k ≤ k'
theorem mono (T : List Tok) : ∀ f, Mono T f
  | 0 => ⟨by intros; simp [pPrim] at *, by intros; simp [pArgs] at *, by intros; simp [pList] at *, by intros; simp [pElems] at *, by intros; simp [pOper] at *, by intros; simp [pMore] at *⟩
  | f + 1 => by
    have ih := mono T f
    refine ⟨?_, ?_, ?_, ?_, ?_, ?_⟩
    · intro k v d x k' v' h
      rw [pPrim] at h
      split at h
      · simp at h
      split at h
      · simp only [Option.some.injEq, Res.ok.injEq] at h; omega
      split at h
      · simp only [Option.some.injEq] at h; have := pVar_k h; omega
      split at h
      · split at h
        · obtain ⟨a, k1, v1, h1, h2⟩ := bind_ok h
          have := ih.args _ _ _ _ _ _ _ _ h1
          have := (musT_ok h2).1
          omega
        · simp only [Option.some.injEq, Res.ok.injEq] at h; omega
      split at h
      · split at h
        · simp only [Option.some.injEq, Res.ok.injEq] at h; omega
        · simp at h
      split at h
      · obtain ⟨a, k1, v1, h1, h2⟩ := bind_ok h
        have := ih.oper _ _ _ _ _ _ _ h1
        have := (musT_ok h2).1
        omega
      split at h
      · have := ih.list _ _ _ _ _ _ h; omega
      · simp at h
    · intro k v d a acc x k' v' h
      rw [pArgs] at h
      obtain ⟨y, k1, v1, h1, h2⟩ := bind_ok h
      have := ih.oper _ _ _ _ _ _ _ h1
      split at h2
      · have := ih.args _ _ _ _ _ _ _ _ h2; omega
      · split at h2
        · simp at h2
        · simp only [Option.some.injEq, Res.ok.injEq] at h2; omega
    · intro k v d x k' v' h
      rw [pList] at h
      split at h
      · simp only [Option.some.injEq, Res.ok.injEq] at h; omega
      · obtain ⟨y, k1, v1, h1, h2⟩ := bind_ok h
        have := ih.elems _ _ _ _ _ _ _ h1
        split at h2
        · obtain ⟨z, k2, v2, h3, h4⟩ := bind_ok h2
          have := ih.oper _ _ _ _ _ _ _ h3
          have := (musT_ok h4).1
          omega
        · have := (musT_ok h2).1; omega
    · intro k v d acc x k' v' h
      rw [pElems] at h
      obtain ⟨y, k1, v1, h1, h2⟩ := bind_ok h
      have := ih.oper _ _ _ _ _ _ _ h1
      split at h2
      · have := ih.elems _ _ _ _ _ _ _ h2; omega
      · simp only [Option.some.injEq, Res.ok.injEq] at h2; omega
    · intro l k v d x k' v' h
      rw [pOper] at h
      split at h
      · exact ih.prim _ _ _ _ _ _ h
      · obtain ⟨y, k1, v1, h1, h2⟩ := bind_ok h
        have := ih.oper _ _ _ _ _ _ _ h1
        have := ih.more _ _ _ _ _ _ _ _ h2
        omega
    · intro l y k v d x k' v' h
      rw [pMore] at h
      split at h
      · simp only [Option.some.injEq, Res.ok.injEq] at h; omega
      · obtain ⟨z, k1, v1, h1, h2⟩ := bind_ok h
        have := ih.oper _ _ _ _ _ _ _ h1
        have := ih.more _ _ _ _ _ _ _ _ h2
        omega
end Go.Proofs.YtkmpelgfhjgddaaGreatDoor.P
namespace Go.Proofs.YtkmpelgfhjgddaaGreatDoor
open Go.RowKit Sx
set_option maxRecDepth 100000
def RStX (pb tb : Nat) (T : List P.Tok) (d : Nat) (w w' : World) (l : List Value) : P.Res P.Ex → Prop
  | .ok x k vs => IsRx (Nu w w') w' l x ∧ RP w' pb tb T k vs d 0 0
  | .err c a => c ≠ 0 ∧ ∃ k vs, RP w' pb tb T k vs d c a
def ShX (a b c f g : Value) : Prop := ∃ (kd : Int) (nm : P.Bs) (n k : Int) (p : Option Addr) (q r : Nat), a = .int .u8 kd ∧ b = .string (bs nm) ∧ c = .int .i64 n ∧ f = .int .i64 k ∧ g = .slice p q r ∧ 0 ≤ kd ∧ kd ≤ 255
theorem ShX.of {kd : Int} {nm : P.Bs} {n k : Int} {p : Option Addr} {q r : Nat} (h : 0 ≤ kd ∧ kd ≤ 255) : ShX (.int .u8 kd) (.string (bs nm)) (.int .i64 n) (.int .i64 k) (.slice p q r) := ⟨_, _, _, _, _, _, _, rfl, rfl, rfl, rfl, rfl, h.1, h.2⟩
def RPostX (pb tb : Nat) (T : List P.Tok) (d : Nat) (w : World) (r : P.Res P.Ex) (e : Ending) (w' : World) : Prop :=
  ∃ a b c f g, e = .returned (.agg #[a, b, c, f, g]) ∧ (a.oneCell' = true ∧ b.oneCell' = true ∧ c.oneCell' = true ∧ f.oneCell' = true ∧ g.oneCell' = true ∧ ShX a b c f g) ∧ RFr pb w w' ∧ RStX pb tb T d w w' [a, b, c, f, g] r
def RStA (pb tb : Nat) (T : List P.Tok) (d : Nat) (w w' : World) (v : Value) : P.Res (List P.Ex) → Prop
  | .ok l k vs => (∃ us, IsRw (Nu w w') w' 69 5 v l.length us ∧ IsRxs (Nu w w') w' us l) ∧ RP w' pb tb T k vs d 0 0
  | .err c a => c ≠ 0 ∧ ∃ k vs, RP w' pb tb T k vs d c a
def RPostA (pb tb : Nat) (T : List P.Tok) (d : Nat) (w : World) (r : P.Res (List P.Ex)) (e : Ending) (w' : World) : Prop :=
  ∃ a n c, e = .returned (.slice a n c) ∧ RFr pb w w' ∧ RStA pb tb T d w w' (.slice a n c) r
structure RCE (f : Nat) : Prop where
  go : ∀ {pb tb : Nat} {T : List P.Tok} {k : Nat} {vars : List P.Bs} {d : Nat} {w : World} {r : P.Res P.Ex}, RP w pb tb T k vars d 0 0 → d ≤ 8 →
    P.pOper T f 0 k vars d = some r → Calls Tryz.prog 22 #[.pointer (some ⟨pb, 0, none⟩)] w (RPostX pb tb T d w r)
structure RCT (f : Nat) : Prop where
  go : ∀ {pb tb : Nat} {T : List P.Tok} {k : Nat} {vars : List P.Bs} {d : Nat} {w : World} {r : P.Res P.Ex}, RP w pb tb T k vars d 0 0 → d ≤ 8 →
    P.pOper T f 1 k vars d = some r → Calls Tryz.prog 41 #[.pointer (some ⟨pb, 0, none⟩)] w (RPostX pb tb T d w r)
structure RCP (f : Nat) : Prop where
  go : ∀ {pb tb : Nat} {T : List P.Tok} {k : Nat} {vars : List P.Bs} {d : Nat} {w : World} {r : P.Res P.Ex}, RP w pb tb T k vars d 0 0 → d ≤ 8 →
    P.pPrim T f k vars d = some r → Calls Tryz.prog 75 #[.pointer (some ⟨pb, 0, none⟩)] w (RPostX pb tb T d w r)
structure RCA (f : Nat) : Prop where
  go : ∀ {pb tb : Nat} {T : List P.Tok} {k : Nat} {vars : List P.Bs} {d : Nat} {w : World} {r : P.Res (List P.Ex)} (at_ : Nat), RP w pb tb T k vars d 0 0 → d ≤ 8 →
    P.pArgs T f k vars d at_ [] = some r → Calls Tryz.prog 33 #[.pointer (some ⟨pb, 0, none⟩), .int .i64 at_] w (RPostA pb tb T d w r)
structure RCL (f : Nat) : Prop where
  go : ∀ {pb tb : Nat} {T : List P.Tok} {k : Nat} {vars : List P.Bs} {d : Nat} {w : World} {r : P.Res P.Ex}, RP w pb tb T k vars d 0 0 → d ≤ 8 →
    P.pList T f k vars d = some r → Calls Tryz.prog 109 #[.pointer (some ⟨pb, 0, none⟩)] w (RPostX pb tb T d w r)
abbrev Fx (w w' : World) (v : Value) : Nat → Prop := fun b => w.heap.size ≤ b ∧ b < w'.heap.size ∧ some b ≠ v.ownBlock
theorem RFr.keeps {pb : Nat} {w w' : World} {F : Nat → Prop} {et : Nat} (h : RFr pb w w') (hn : ∀ b, F b → b ≠ pb) (ht : et ≠ 9) : Keeps F et w w' :=
  fun b _ hb hc => SFr.keep h hc (hn b hb) ht
theorem own_fr {pb : Nat} {w w' : World} (h : RFr pb w w') {base e size n : Nat} {v : Value} {xs : List Value} (hu : w.ownsRow base e size v n xs) (hb : pb < base) (he : e ≠ 9) : w'.ownsRow base e size v n xs := by
  obtain ⟨h0, hu⟩ := hu
  refine ⟨h0, ?_⟩
  rcases hu with hu | ⟨g, cap, cur, rfl, h1, h2, h3⟩
  · exact .inl hu
  · exact .inr ⟨g, cap, cur, rfl, h1, SFr.keep h h2 (by omega) he, h3⟩
theorem Tryz.infoE : (Tryz.prog.info? 69).map (fun i => (i.zero, i.size, i.bytes)) = some (some (.agg #[.int .u8 0, .string (bs []), .int .i64 0, .int .i64 0, .slice none 0 0]), 5, 64) := by kernel_rfl
theorem wr_appendE {w : World} {base n : Nat} {v : Value} {xs : List Value} (hown : w.ownsRow base 69 5 v n xs) {b m : Nat} {a0 a1 a2 a3 a4 : Value}
    (hb : w.heap[b]? = some (.cells #[a0, a1, a2, a3, a4] 69 (0, 0))) (h1 : a0.oneCell' = true ∧ a1.oneCell' = true ∧ a2.oneCell' = true ∧ a3.oneCell' = true ∧ a4.oneCell' = true)
    (hn : n ≤ 100000) (hbase : base ≤ w.heap.size) {K : Value → World → Prop} {X : Value → World → Prop}
    (h : ∀ v' w', w'.ownsRow base 69 5 v' (n + 1) (xs ++ [a0, a1, a2, a3, a4]) → w.grownBy w' v.ownBlock → (v'.ownBlock = v.ownBlock ∨ ∀ k, v'.ownBlock = some k → w.heap.size ≤ k) → K v' w') :
    WR Tryz.prog (Builtin.append_ #[34, 34] 34 #[v, .slice (some ⟨b, 0, none⟩) 1 m]) w K X := by
  obtain ⟨i, hi, h0⟩ := Option.map_eq_some_iff.1 Tryz.infoE
  simp only [Prod.mk.injEq] at h0
  obtain ⟨hz, hs, hbt⟩ := h0
  refine wr_append (t := 34) (e := 69) (by kernel_rfl) hi hz hs hbt rfl (by decide) hown hb rfl (fun u hu => ?_) (by omega) (by decide) hbase h
  simp only [List.mem_cons, List.not_mem_nil, or_false] at hu
  rcases hu with rfl | rfl | rfl | rfl | rfl
  · exact h1.1
  · exact h1.2.1
  · exact h1.2.2.1
  · exact h1.2.2.2.1
  · exact h1.2.2.2.2
end Go.Proofs.YtkmpelgfhjgddaaGreatDoor
namespace Go.Proofs.YtkmpelgfhjgddaaGreatDoor
open Go.RowKit Sx
set_option maxRecDepth 100000
structure RowS (w w1 : World) (v : Value) (acc : List P.Ex) : Prop where
  own : ∃ xs, w1.ownsRow w.heap.size 69 5 v acc.length xs ∧ IsRxs (Fx w w1 v) w1 xs acc
theorem RowS.nil (w : World) : RowS w w (.slice none 0 0) [] := ⟨[], World.ownsRow_nil _ _ _ _, by unfold IsRxs; rfl⟩
theorem RowS.more {w w1 w2 w3 w4 : World} {pb : Nat} {v v' : Value} {acc : List P.Ex} {x : P.Ex} {a b c f g : Value} (h : RowS w w1 v acc) (h12 : RFr pb w1 w2) (hpb : pb < w.heap.size) (hx : IsRx (Nu w1 w2) w2 [a, b, c, f, g] x) (hww : w.heap.size ≤ w1.heap.size)
    (h23 : Ext w2 w3) {xs : List Value} (hxs : w3.ownsRow w.heap.size 69 5 v acc.length xs) (hown' : w4.ownsRow w.heap.size 69 5 v' (acc.length + 1) (xs ++ [a, b, c, f, g]))
    (hg : w3.grownBy w4 v.ownBlock) (hv : v'.ownBlock = v.ownBlock ∨ ∀ k, v'.ownBlock = some k → w3.heap.size ≤ k) : RowS w w4 v' (acc ++ [x]) := by
  obtain ⟨xs', o1, o2⟩ := h.own
  have s12 := h12.size
  have s23 := h23.size
  have s34 := hg.size
  have o3 : w3.ownsRow w.heap.size 69 5 v acc.length xs' := own_ext h23.ext (own_fr h12 o1 (by omega) (by decide))
  have e : xs' = xs := by
    rcases o3.2 with ⟨hv1, hn⟩ | ⟨g1, c1, cur1, hv1, _, g2, _, _, _, g3⟩
    · have l1 := o3.1
      have l2 := hxs.1
      rw [hn] at l1 l2
      have e1 : xs' = [] := List.eq_nil_of_length_eq_zero (by simpa using l1)
      have e2 : xs = [] := List.eq_nil_of_length_eq_zero (by simpa using l2)
      rw [e1, e2]
    · rcases hxs.2 with ⟨hv2, _⟩ | ⟨g1', c1', cur1', hv2, _, g2', _, _, _, g3'⟩
      · rw [hv1] at hv2; cases hv2
      · rw [hv1] at hv2
        injection hv2 with hv2 _ _
        injection hv2 with hv2
        injection hv2 with hv2 _ _
        subst hv2
        rw [g2] at g2'
        injection g2' with g2'
        injection g2' with g2' _ _
        subst g2'
        rw [← g3, ← g3']
  subst e
  have lt : ∀ k, v.ownBlock = some k → k < w1.heap.size := fun k hk => (o1.lt k hk).2
  have kp34 : ∀ b cs, some b ≠ v.ownBlock → b < w3.heap.size → w3.heap[b]? = some (.cells cs 69 (0, 0)) → w4.heap[b]? = some (.cells cs 69 (0, 0)) :=
    fun b cs hb hl hc => by rw [hg.block b hl hb]; exact hc
  have nv : ∀ b, b < w3.heap.size → some b ≠ v.ownBlock → some b ≠ v'.ownBlock := fun b hb hne he => by
    rcases hv with hv | hv
    · rw [hv] at he; exact hne he
    · have := hv b he.symm; omega
  refine ⟨_, by rw [List.length_append]; exact hown', IsRxs.snoc ?_ ?_⟩
  · refine IsRxs.mono (F := Fx w w1 v) (fun b hb => ⟨hb.1, by have := hb.2.1; omega, nv b (by have := hb.2.1; omega) hb.2.2⟩) (fun b cs hb hc => ?_) _ _ o2
    have h1 := SFr.keep h12 hc (by have := hb.1; omega) (by decide)
    have h2 := h23.ext _ _ h1
    exact kp34 b cs hb.2.2 (ltOf h2) h2
  · refine IsRx.mono (F := Nu w1 w2) (fun b hb => ⟨by have := hb.1; omega, by have := hb.2; omega, nv b (by have := hb.2; omega) (fun e => by have := lt b e.symm; have := hb.1; omega)⟩) (fun b cs hb hc => ?_) _ _ hx
    have h2 := h23.ext _ _ hc
    exact kp34 b cs (fun e => by have := lt b e.symm; have := hb.1; omega) (ltOf h2) h2
set_option maxHeartbeats 1000000 in
theorem rArgs {f : Nat} (hE : ∀ g, g < f → RCE g) : RCA f := ⟨by
  intro pb tb T k vars d w r at_ h hd hr
  have hpb : pb < w.heap.size := by obtain ⟨_, _, hx⟩ := id h; exact ltOf hx.cell
  have hT : T.length ≤ 2001 := by obtain ⟨_, _, hx⟩ := id h; exact hx.tw.len
  refine sh_Pr_parser_args_ok ?_
  refine ⟨fun n s w1 =>
      (s 6 = .bool true ∧ ∃ f' k' vs acc, n = f' + 1 ∧ f' ≤ f ∧ acc.length ≤ k' ∧ P.pArgs T f' k' vs d at_ acc = some r ∧ RowS w w1 (s 5) acc ∧ RP w1 pb tb T k' vs d 0 0 ∧ RFr pb w w1) ∨
      (s 6 = .bool false ∧ n = 0 ∧ RFr pb w w1 ∧ ∃ m xs, w1.ownsRow w.heap.size 69 5 (s 5) m xs ∧ m ≤ 100000 ∧
        ((∃ k' vs acc, m = acc.length ∧ r = (if 4 < acc.length then .err 4 at_ else .ok acc k' vs) ∧ RowS w w1 (s 5) acc ∧ RP w1 pb tb T k' vs d 0 0) ∨ (∃ c a k' vs, r = .err c a ∧ c ≠ 0 ∧ RP w1 pb tb T k' vs d c a))),
    ⟨f + 1, .inl ⟨rfl, f, k, vars, [], rfl, Nat.le_refl _, Nat.zero_le _, hr, RowS.nil w, h, FrM.refl _ _⟩⟩, ?_⟩
  intro n s dd w1 hI
  refine toPr ?_
  rcases hI with ⟨h6, f', k', vs, acc, rfl, hf', hak, hp, hrow, hP, hF⟩ | ⟨h6, rfl, hF, m, xs, hown, hm, hfin⟩
  · cases f' with
    | zero => simp [P.pArgs] at hp
    | succ f' =>
    rw [P.pArgs] at hp
    have hkt : k' < T.length := by obtain ⟨_, _, hx⟩ := id hP; exact hx.kt
    have hs1 := hF.size
    cases hq : P.pOper T f' 0 k' vs d with
    | none => rw [hq] at hp; simp [P.Res.bind] at hp
    | some q =>
    rw [hq] at hp
    simp (disch := first | assumption | omega | ((simp only [size_alloc, sz_drew, size_upd, List.size_toArray, List.length_cons, List.length_nil]) <;> omega) | decide) only [sh_Pr_parser_args, Pr, PX, PC, NX, ends, fillL, wrL, sOf, Nat.reduceAdd, Nat.reduceMul, Nat.reduceLeDiff, Nat.reduceEqDiff, Int.reduceToNat, Int.reduceAdd, Int.reduceLT, Int.reduceLE, ↓reduceIte, forall_const, eq_self, zG1, zG2, al_69, br_34_1, ld_69, ln_34, st_69, h6]
    refine ((hE f' (by omega)).go hP hd hq).mono ?_
    rintro e w2 ⟨a, b, c, g, u, rfl, ⟨o1, o2, o3, o4, o5, oh⟩, hF2, hst⟩
    have hs2 := hF2.size
    have hrow2 : w2.ownsRow w.heap.size 69 5 (s 5) acc.length (Classical.choose hrow.own) := own_fr hF2 (Classical.choose_spec hrow.own).1 hpb (by decide)
    simp (disch := first | assumption | omega | ((simp only [size_alloc, sz_drew, size_upd, List.size_toArray, List.length_cons, List.length_nil]) <;> omega) | decide) only [sh_Pr_parser_args, Pr, PX, PC, NX, ends, fillL, wrL, sOf, Nat.reduceAdd, Nat.reduceMul, Nat.reduceLeDiff, Nat.reduceEqDiff, Int.reduceToNat, Int.reduceAdd, Int.reduceLT, Int.reduceLE, ↓reduceIte, forall_const, eq_self, zG1, zG2, al_69, br_34_1, ld_69, ln_34, st_69, o1, o2, o3, o4, o5]
    have hx3 : Ext w2 ((upd (w2.alloc (.cells #[.int .u8 0, .string (bs []), .int .i64 0, .int .i64 0, .slice none 0 0] 69)) w2.heap.size (.cells #[a, b, c, g, u] 69)).alloc (.cells #[a, b, c, g, u] 69)) :=
      (((FrM.refl _ _).alloc _).upd (.inr (Nat.le_refl _))).alloc _
    refine wr_appendE (base := w.heap.size) (n := acc.length) (own_ext hx3.ext hrow2) (hp_alloc_new (by rw [size_upd, size_alloc])) ⟨o1, o2, o3, o4, o5⟩ (by omega) (by have := hx3.size; omega) ?_
    intro v' w4 hown4 hg4 hv4
    have hF4 : RFr pb w w4 := (((hF.trans hF2).trans hx3.toM)).grow hg4 (fun k hk => (hrow2.lt k hk).1)
    cases q with
    | err c0 a0 =>
      obtain ⟨hc0, k2, vs2, hP2⟩ := hst
      simp only [P.Res.bind, Option.some.injEq] at hp
      have hP4 := (hP2.ext hx3).grow (own_ext hx3.ext hrow2) (by decide) hpb hg4
      refine (rIs_no hP4 [44] (.inl hc0)).mono ?_
      rintro e w5 ⟨rfl, hP5, hF5⟩
      simp (disch := first | assumption | omega | ((simp only [size_alloc, sz_drew, size_upd, List.size_toArray, List.length_cons, List.length_nil]) <;> omega) | decide) only [sh_Pr_parser_args, Pr, PX, PC, NX, ends, fillL, wrL, sOf, Nat.reduceAdd, Nat.reduceMul, Nat.reduceLeDiff, Nat.reduceEqDiff, Int.reduceToNat, Int.reduceAdd, Int.reduceLT, Int.reduceLE, ↓reduceIte, forall_const, eq_self, zG1, zG2, al_69, br_34_1, ld_69, ln_34, st_69]
      refine ⟨0, Nat.succ_pos _, .inr ⟨rfl, hF4.trans hF5, _, _, own_fr hF5 hown4 hpb (by decide), by omega, .inr ⟨c0, a0, k2, vs2, hp.symm, hc0, hP5⟩⟩⟩
    | ok x k2 vs2 =>
      obtain ⟨hx, hP2⟩ := hst
      have hk2 := (P.mono T f').oper _ _ _ _ _ _ _ hq
      have hP4 := (hP2.ext hx3).grow (own_ext hx3.ext hrow2) (by decide) hpb hg4
      have hrow4 : RowS w w4 v' (acc ++ [x]) := hrow.more hF2 hpb hx hs1 hx3 (own_ext hx3.ext hrow2) hown4 hg4 hv4
      simp only [P.Res.bind] at hp
      have hmn : ∀ {w5 : World}, RFr pb w4 w5 → RowS w w5 v' (acc ++ [x]) := fun hF5 => by
        obtain ⟨xs, p1, p2⟩ := hrow4.own
        have := hF5.size
        exact ⟨xs, own_fr hF5 p1 hpb (by decide), IsRxs.mono (fun b hb => ⟨hb.1, by have := hb.2.1; omega, hb.2.2⟩) (RFr.keeps hF5 (fun b hb => by have := hb.1; omega) (by decide)) _ _ p2⟩
      by_cases hc : P.isT T k2 [44] = true
      · rw [if_pos hc] at hp
        refine (rIs_yes hP4 [44] hc).mono ?_
        rintro e w5 ⟨rfl, hP5, hF5⟩
        simp (disch := first | assumption | omega | ((simp only [size_alloc, sz_drew, size_upd, List.size_toArray, List.length_cons, List.length_nil]) <;> omega) | decide) only [sh_Pr_parser_args, Pr, PX, PC, NX, ends, fillL, wrL, sOf, Nat.reduceAdd, Nat.reduceMul, Nat.reduceLeDiff, Nat.reduceEqDiff, Int.reduceToNat, Int.reduceAdd, Int.reduceLT, Int.reduceLE, ↓reduceIte, forall_const, eq_self, zG1, zG2, al_69, br_34_1, ld_69, ln_34, st_69]
        exact ⟨f' + 1, by omega, .inl ⟨f', k2 + 1, vs2, acc ++ [x], rfl, by omega, by simp; omega, hp, hmn hF5, hP5, hF4.trans hF5⟩⟩
      · rw [if_neg hc] at hp
        refine (rIs_no hP4 [44] (.inr (by simpa using hc))).mono ?_
        rintro e w5 ⟨rfl, hP5, hF5⟩
        simp (disch := first | assumption | omega | ((simp only [size_alloc, sz_drew, size_upd, List.size_toArray, List.length_cons, List.length_nil]) <;> omega) | decide) only [sh_Pr_parser_args, Pr, PX, PC, NX, ends, fillL, wrL, sOf, Nat.reduceAdd, Nat.reduceMul, Nat.reduceLeDiff, Nat.reduceEqDiff, Int.reduceToNat, Int.reduceAdd, Int.reduceLT, Int.reduceLE, ↓reduceIte, forall_const, eq_self, zG1, zG2, al_69, br_34_1, ld_69, ln_34, st_69]
        refine ⟨0, Nat.succ_pos _, .inr ⟨rfl, hF4.trans hF5, _, _, own_fr hF5 hown4 hpb (by decide), by omega, .inl ⟨k2, vs2, acc ++ [x], by simp, ?_, hmn hF5, hP5⟩⟩⟩
        have e4 : P.maxArity = 4 := rfl
        rw [e4] at hp
        split at hp
        · rename_i h4; rw [if_pos h4]; injection hp with hp; exact hp.symm
        · rename_i h4; rw [if_neg h4]; injection hp with hp; exact hp.symm
  · obtain ⟨a0, c0, hs5⟩ := own_slice hown
    rcases hfin with ⟨k', vs, acc, rfl, hr', hrow, hP⟩ | ⟨c, a, k', vs, hr', hc, hP⟩
    · by_cases h4 : 4 < acc.length
      · rw [if_pos h4] at hr'
        simp (disch := first | assumption | omega | ((simp only [size_alloc, sz_drew, size_upd, List.size_toArray, List.length_cons, List.length_nil]) <;> omega) | decide) only [sh_Pr_parser_args, Pr, PX, PC, NX, ends, fillL, wrL, sOf, Nat.reduceAdd, Nat.reduceMul, Nat.reduceLeDiff, Nat.reduceEqDiff, Int.reduceToNat, Int.reduceAdd, Int.reduceLT, Int.reduceLE, ↓reduceIte, forall_const, eq_self, zG1, zG2, al_69, br_34_1, ld_69, ln_34, st_69, h6, hs5]
        refine (rFault hP 4 _).mono ?_
        rintro e w2 ⟨rfl, hP2, hF2⟩
        rw [if_pos rfl, if_pos rfl] at hP2
        simp (disch := first | assumption | omega | ((simp only [size_alloc, sz_drew, size_upd, List.size_toArray, List.length_cons, List.length_nil]) <;> omega) | decide) only [sh_Pr_parser_args, Pr, PX, PC, NX, ends, fillL, wrL, sOf, Nat.reduceAdd, Nat.reduceMul, Nat.reduceLeDiff, Nat.reduceEqDiff, Int.reduceToNat, Int.reduceAdd, Int.reduceLT, Int.reduceLE, ↓reduceIte, forall_const, eq_self, zG1, zG2, al_69, br_34_1, ld_69, ln_34, st_69, hs5]
        rw [hr']
        exact ⟨_, _, _, rfl, hF.trans hF2, by decide, _, _, hP2⟩
      · rw [if_neg h4] at hr'
        simp (disch := first | assumption | omega | ((simp only [size_alloc, sz_drew, size_upd, List.size_toArray, List.length_cons, List.length_nil]) <;> omega) | decide) only [sh_Pr_parser_args, Pr, PX, PC, NX, ends, fillL, wrL, sOf, Nat.reduceAdd, Nat.reduceMul, Nat.reduceLeDiff, Nat.reduceEqDiff, Int.reduceToNat, Int.reduceAdd, Int.reduceLT, Int.reduceLE, ↓reduceIte, forall_const, eq_self, zG1, zG2, al_69, br_34_1, ld_69, ln_34, st_69, h6, hs5]
        rw [hr']
        obtain ⟨xs', p1, p2⟩ := hrow.own
        rw [hs5] at p1
        refine ⟨_, _, _, rfl, hF, ⟨xs', own_rw p1 (fun k h1 h2 => ⟨h1, h2⟩), IsRxs.mono (fun b hb => ⟨hb.1, hb.2.1⟩) (fun b cs _ hc => hc) _ _ p2⟩, hP⟩
    · have hfin2 : ∀ {w2 : World} {k2 : Nat} {vs2 : List P.Bs}, RFr pb w1 w2 → RP w2 pb tb T k2 vs2 d c a → RPostA pb tb T d w r (.returned (.slice a0 m c0)) w2 := fun hF2 hP2 => by
        rw [hr']
        exact ⟨_, _, _, rfl, hF.trans hF2, hc, _, _, hP2⟩
      by_cases h4 : 4 < m
      · simp (disch := first | assumption | omega | ((simp only [size_alloc, sz_drew, size_upd, List.size_toArray, List.length_cons, List.length_nil]) <;> omega) | decide) only [sh_Pr_parser_args, Pr, PX, PC, NX, ends, fillL, wrL, sOf, Nat.reduceAdd, Nat.reduceMul, Nat.reduceLeDiff, Nat.reduceEqDiff, Int.reduceToNat, Int.reduceAdd, Int.reduceLT, Int.reduceLE, ↓reduceIte, forall_const, eq_self, zG1, zG2, al_69, br_34_1, ld_69, ln_34, st_69, h6, hs5]
        refine (rFault hP 4 _).mono ?_
        rintro e w2 ⟨rfl, hP2, hF2⟩
        rw [if_neg hc, if_neg hc] at hP2
        simp (disch := first | assumption | omega | ((simp only [size_alloc, sz_drew, size_upd, List.size_toArray, List.length_cons, List.length_nil]) <;> omega) | decide) only [sh_Pr_parser_args, Pr, PX, PC, NX, ends, fillL, wrL, sOf, Nat.reduceAdd, Nat.reduceMul, Nat.reduceLeDiff, Nat.reduceEqDiff, Int.reduceToNat, Int.reduceAdd, Int.reduceLT, Int.reduceLE, ↓reduceIte, forall_const, eq_self, zG1, zG2, al_69, br_34_1, ld_69, ln_34, st_69, hs5]
        exact hfin2 hF2 hP2
      · simp (disch := first | assumption | omega | ((simp only [size_alloc, sz_drew, size_upd, List.size_toArray, List.length_cons, List.length_nil]) <;> omega) | decide) only [sh_Pr_parser_args, Pr, PX, PC, NX, ends, fillL, wrL, sOf, Nat.reduceAdd, Nat.reduceMul, Nat.reduceLeDiff, Nat.reduceEqDiff, Int.reduceToNat, Int.reduceAdd, Int.reduceLT, Int.reduceLE, ↓reduceIte, forall_const, eq_self, zG1, zG2, al_69, br_34_1, ld_69, ln_34, st_69, h6, hs5]
        exact hfin2 (FrM.refl _ _) hP⟩
end Go.Proofs.YtkmpelgfhjgddaaGreatDoor
