/- A part of one proof (RBase, RW1, RBase2, RW2); no conditions beyond what each theorem names. -/
import Derived.Test.YtkmpelgfhjgddaaGreatDoorPkE
import Derived.Test.YtkmpelgfhjgddaaGreatDoorPkH
import Derived.Test.YtkmpelgfhjgddaaGreatDoorPkF
set_option linter.all false
set_option linter.unusedVariables false
set_option linter.unusedSimpArgs false
namespace Go.Proofs.YtkmpelgfhjgddaaGreatDoor
open Go.RowKit Sx
def rk (k : Nat) : Nat := if k = 0 then 101 else if k = 1 then 97 else if k = 2 then 118 else if k = 3 then 110 else 115
def RToks (w : World) (tb : Nat) (T : List P.Tok) : Prop :=
  ∃ cs, w.heap[tb]? = some (.cells cs 60 (0, 0)) ∧ ∀ j, j < T.length →
    cs[j * 3]? = some (.int .u8 (rk (P.tk T j).kind)) ∧ cs[j * 3 + 1]? = some (.string (bs (P.tk T j).text)) ∧ cs[j * 3 + 2]? = some (.int .i64 ((P.tk T j).pos))
structure TWs (T : List P.Tok) : Prop extends TW T where
  sg : ∀ u ∈ T, u.kind = 4 → u.text = [46] ∨ u.text ∈ P.signs
structure RPx (w : World) (pb tb : Nat) (T : List P.Tok) (k : Nat) (vars : List P.Bs) (d : Int) (er at_ lc : Nat) (vv : Value) : Prop where
  tw : TWs T
  lt : tb < pb
  kt : k < T.length
  nv : vars.length ≤ 13 ∧ (er = 0 → vars.length ≤ 12)
  dp : -1 ≤ d ∧ d ≤ 1000
  toks : RToks w tb T
  lc1 : T.length ≤ lc
  lc2 : lc ≤ 9223372036854775807
  cell : w.heap[pb]? = some (.cells #[.slice (some ⟨tb, 0, none⟩) T.length lc, .int .i64 k, vv, .int .i64 d, .int .i64 er, .int .i64 at_] 58 (0, 0))
  own : w.ownsRow (pb + 1) 9 1 vv vars.length (vars.map fun s => .string (bs s))
def RP (w : World) (pb tb : Nat) (T : List P.Tok) (k : Nat) (vars : List P.Bs) (d : Int) (er at_ : Nat) : Prop := ∃ lc vv, RPx w pb tb T k vars d er at_ lc vv
abbrev RFr (pb : Nat) (w w' : World) : Prop := FrM (MS pb) w w'
theorem FrM.upd {M : Nat → Obj → Prop} {a b : World} (h : FrM M a b) {p : Nat} {o : Obj} (hp : (∀ x, M p x) ∨ a.heap.size ≤ p) : FrM M a (upd b p o) :=
  ⟨h.os, h.tape, h.output, by rw [size_upd]; exact h.size, fun i x hi hm => by
    rcases hp with hp | hp
    · by_cases e : i = p
      · subst e; exact absurd (hp x) hm
      · rw [hp_upd_other e]; exact h.block i x hi hm
    · have := ltOf hi
      rw [hp_upd_other (by omega)]; exact h.block i x hi hm⟩
theorem RToks.at {w : World} {tb : Nat} {T : List P.Tok} (h : RToks w tb T) : ∃ cs, w.heap[tb]? = some (.cells cs 60 (0, 0)) ∧ ∀ j, j < T.length → j * 3 + 3 ≤ cs.size ∧
    (cs.toList.drop (j * 3)).take 3 = [.int .u8 (rk (P.tk T j).kind), .string (bs (P.tk T j).text), .int .i64 ((P.tk T j).pos)] := by
  obtain ⟨cs, h1, h2⟩ := h
  refine ⟨cs, h1, fun j hj => ?_⟩
  obtain ⟨a, b, c⟩ := h2 j hj
  have hc := (Array.getElem?_eq_some_iff.1 c).1
  refine ⟨by omega, ?_⟩
  apply List.ext_getElem?
  intro i
  rw [List.getElem?_take]
  match i with
  | 0 => simpa using a
  | 1 => simpa using b
  | 2 => simpa using c
  | i + 3 => simp; omega
theorem MS.tb {pb tb : Nat} (h : tb < pb) (o : Obj) : ¬ MS pb tb o := by rintro (h' | ⟨h', _⟩) <;> omega
theorem RToks.fr {pb tb : Nat} {w w' : World} {T : List P.Tok} (h : RToks w tb T) (hf : RFr pb w w') (hl : tb < pb) : RToks w' tb T := by
  obtain ⟨cs, h1, h2⟩ := h
  exact ⟨cs, hf.block _ _ h1 (MS.tb hl _), h2⟩
theorem own_ext {w w' : World} (hw : ∀ (b : Nat) (o : Obj), w.heap[b]? = some o → w'.heap[b]? = some o) {base e size n : Nat} {v : Value} {xs : List Value} (h : w.ownsRow base e size v n xs) : w'.ownsRow base e size v n xs := by
  obtain ⟨g1, g2⟩ := h
  refine ⟨g1, ?_⟩
  rcases g2 with g | ⟨g, cp, cur, e1, e2, e3, e4⟩
  · exact .inl g
  · exact .inr ⟨g, cp, cur, e1, e2, hw _ _ e3, e4⟩
theorem own_upd {w : World} {p : Nat} {o : Obj} {base e size n : Nat} {v : Value} {xs : List Value} (h : w.ownsRow base e size v n xs) (hp : p < base) : (upd w p o).ownsRow base e size v n xs := by
  obtain ⟨g1, g2⟩ := h
  refine ⟨g1, ?_⟩
  rcases g2 with g | ⟨g, cp, cur, e1, e2, e3, e4⟩
  · exact .inl g
  · exact .inr ⟨g, cp, cur, e1, e2, by rw [hp_upd_other (by omega)]; exact e3, e4⟩
theorem RPx.ext {w w' : World} {pb tb : Nat} {T : List P.Tok} {k : Nat} {vars : List P.Bs} {d : Int} {er at_ lc : Nat} {vv : Value} (h : RPx w pb tb T k vars d er at_ lc vv) (hf : Ext w w') :
    RPx w' pb tb T k vars d er at_ lc vv := by
  obtain ⟨tw, lt, kt, nv, dp, ⟨cs, c1, c2⟩, h1, h2, h3, g⟩ := h
  exact ⟨tw, lt, kt, nv, dp, ⟨cs, hf.ext _ _ c1, c2⟩, h1, h2, hf.ext _ _ h3, own_ext hf.ext g⟩
theorem RP.ext {w w' : World} {pb tb : Nat} {T : List P.Tok} {k : Nat} {vars : List P.Bs} {d : Int} {er at_ : Nat} (h : RP w pb tb T k vars d er at_) (hf : Ext w w') : RP w' pb tb T k vars d er at_ := by
  obtain ⟨lc, vv, h⟩ := h
  exact ⟨lc, vv, h.ext hf⟩
theorem RPx.set {w : World} {pb tb : Nat} {T : List P.Tok} {k : Nat} {vars : List P.Bs} {d : Int} {er at_ lc : Nat} {vv : Value} (h : RPx w pb tb T k vars d er at_ lc vv)
    {k' : Nat} {kz : Int} {d' : Int} {er' at' : Nat} (hk : k' < T.length) (hd : -1 ≤ d' ∧ d' ≤ 1000) (hkz : kz = k') (he : er' = 0 → er = 0) :
    RPx (upd w pb (.cells #[.slice (some ⟨tb, 0, none⟩) T.length lc, .int .i64 kz, vv, .int .i64 d', .int .i64 er', .int .i64 at'] 58 (0, 0))) pb tb T k' vars d' er' at' lc vv := by
  subst hkz
  obtain ⟨tw, lt, kt, nv, dp, ⟨cs, c1, c2⟩, h1, h2, h3, g⟩ := h
  refine ⟨tw, lt, hk, ⟨nv.1, fun e => nv.2 (he e)⟩, hd, ⟨cs, ?_, c2⟩, h1, h2, hp_upd_same rfl (ltOf h3), own_upd g (by omega)⟩
  rw [hp_upd_other (by omega)]; exact c1
theorem RPx.cs {w : World} {pb tb : Nat} {T : List P.Tok} {k : Nat} {vars : List P.Bs} {d : Int} {er at_ lc : Nat} {vv : Value} (h : RPx w pb tb T k vars d er at_ lc vv) :
    ∃ cs, w.heap[tb]? = some (.cells cs 60 (0, 0)) ∧ k * 3 + 3 ≤ cs.size ∧ (cs.toList.drop (k * 3)).take 3 = [.int .u8 (rk (P.tk T k).kind), .string (bs (P.tk T k).text), .int .i64 ((P.tk T k).pos)] := by
  obtain ⟨cs, c1, c2⟩ := h.toks.at
  exact ⟨cs, c1, c2 k h.kt⟩
theorem RP.of {w : World} {pb tb : Nat} {T : List P.Tok} {k : Nat} {vars : List P.Bs} {d : Int} {er at_ lc : Nat} {vv : Value} (h : RPx w pb tb T k vars d er at_ lc vv) : RP w pb tb T k vars d er at_ := ⟨lc, vv, h⟩
theorem rk_inj {a b : Nat} (ha : a ≤ 4) (hb : b ≤ 4) (h : rk a = rk b) : a = b := by
  unfold rk at h
  repeat' split at h
  all_goals omega
theorem rk_sign {a : Nat} (ha : a ≤ 4) : rk a = 115 ↔ a = 4 := by
  unfold rk
  repeat' split
  all_goals omega
theorem rk_atom {a : Nat} (ha : a ≤ 4) : rk a = 97 ↔ a = 1 := by
  unfold rk
  repeat' split
  all_goals omega
theorem rk_var {a : Nat} (ha : a ≤ 4) : rk a = 118 ↔ a = 2 := by
  unfold rk
  repeat' split
  all_goals omega
theorem rk_num {a : Nat} (ha : a ≤ 4) : rk a = 110 ↔ a = 3 := by
  unfold rk
  repeat' split
  all_goals omega
theorem rk_end {a : Nat} (ha : a ≤ 4) : rk a = 101 ↔ a = 0 := by
  unfold rk
  repeat' split
  all_goals omega
theorem rk_small (a : Nat) : rk a ≤ 255 := by
  unfold rk
  repeat' split
  all_goals omega
theorem RPx.kind4 {w : World} {pb tb : Nat} {T : List P.Tok} {k : Nat} {vars : List P.Bs} {d : Int} {er at_ lc : Nat} {vv : Value} (h : RPx w pb tb T k vars d er at_ lc vv) : (P.tk T k).kind ≤ 4 := h.tw.kind _ (tk_mem h.kt)
end Go.Proofs.YtkmpelgfhjgddaaGreatDoor
namespace Go.Proofs.YtkmpelgfhjgddaaGreatDoor
open Go.RowKit Sx
set_option maxRecDepth 100000
section
variable {pb tb : Nat} {T : List P.Tok} {k : Nat} {vars : List P.Bs} {d : Int} {er at_ : Nat} {w : World}
theorem rNext (h : RP w pb tb T k vars d er at_) :
    Calls Tryz.prog 16 #[.pointer (some ⟨pb, 0, none⟩)] w fun e w' =>
      e = .returned (.agg #[.int .u8 (rk (P.tk T k).kind), .string (bs (P.tk T k).text), .int .i64 ((P.tk T k).pos)]) ∧ Ext w w' := by
  obtain ⟨lc, vv, h⟩ := h
  obtain ⟨cs, c1, c3, c4⟩ := h.cs
  have h3 := h.cell
  have l1 := ltOf h3
  have l2 := ltOf c1
  have l3 := h.kt
  refine sh_Pr_parser_next_ok ?_
  simp (disch := first | assumption | omega | ((simp only [size_alloc, sz_drew, size_upd, List.size_toArray, List.length_cons, List.length_nil]) <;> omega) | decide) only [sh_Pr_parser_next, Pr, PX, PC, NX, ends, fillL, wrL, sOf, Nat.reduceAdd, Nat.reduceMul, Nat.reduceLeDiff, Nat.reduceEqDiff, Int.reduceToNat, Int.reduceAdd, Int.reduceLT, Int.reduceLE, ↓reduceIte, forall_const, eq_self, zG1, zG2, al_60, fa_58_0, fa_58_1, ix_56, ld_3, ld_56, ld_60, st_60, h3, c1, c4]
  exact (((FrM.refl _ _).alloc _).drew).upd (.inr (Nat.le_refl _))
theorem rFault (h : RP w pb tb T k vars d er at_) (c a : Nat) :
    Calls Tryz.prog 17 #[.pointer (some ⟨pb, 0, none⟩), .int .i64 c, .int .i64 a] w fun e w' =>
      e = .returned (.tuple #[]) ∧ RP w' pb tb T k vars d (if er = 0 then c else er) (if er = 0 then a else at_) ∧ RFr pb w w' := by
  obtain ⟨lc, vv, h⟩ := h
  have h3 := h.cell
  have l1 := ltOf h3
  by_cases he : er = 0
  · subst he
    refine sh_Pr_parser_fault_ok ?_
    simp (disch := first | assumption | omega | ((simp only [size_alloc, sz_drew, size_upd, List.size_toArray, List.length_cons, List.length_nil]) <;> omega) | decide) only [sh_Pr_parser_fault, Pr, PX, PC, NX, ends, fillL, wrL, sOf, Nat.reduceAdd, Nat.reduceMul, Nat.reduceLeDiff, Nat.reduceEqDiff, Int.reduceToNat, Int.reduceAdd, Int.reduceLT, Int.reduceLE, ↓reduceIte, forall_const, eq_self, zG1, zG2, fa_58_4, fa_58_5, ld_29, st_29, st_3, h3]
    exact ⟨RP.of (h.set h.kt h.dp rfl fun _ => rfl), (FrM.refl _ _).upd (.inl fun _ => .inl rfl)⟩
  · refine sh_Pr_parser_fault_ok ?_
    simp (disch := first | assumption | omega | ((simp only [size_alloc, sz_drew, size_upd, List.size_toArray, List.length_cons, List.length_nil]) <;> omega) | decide) only [sh_Pr_parser_fault, Pr, PX, PC, NX, ends, fillL, wrL, sOf, Nat.reduceAdd, Nat.reduceMul, Nat.reduceLeDiff, Nat.reduceEqDiff, Int.reduceToNat, Int.reduceAdd, Int.reduceLT, Int.reduceLE, ↓reduceIte, forall_const, eq_self, zG1, zG2, fa_58_4, fa_58_5, ld_29, st_29, st_3, h3, if_neg he]
    exact ⟨RP.of h, FrM.refl _ _⟩
theorem rNone (h : RP w pb tb T k vars d er at_) :
    Calls Tryz.prog 31 #[.pointer (some ⟨pb, 0, none⟩)] w fun e w' =>
      e = .returned (.tuple #[]) ∧ RP w' pb tb T k vars d (if er = 0 then 2 else er) (if er = 0 then (P.tk T k).pos else at_) ∧ RFr pb w w' := by
  refine sh_Pr_parser_none_ok ?_
  refine (rNext h).mono ?_
  rintro e w1 ⟨rfl, hf⟩
  have hz := hf.size
  simp (disch := first | assumption | omega | ((simp only [size_alloc, sz_drew, size_upd, List.size_toArray, List.length_cons, List.length_nil]) <;> omega) | decide) only [sh_Pr_parser_none, Pr, PX, PC, NX, ends, fillL, wrL, sOf, Nat.reduceAdd, Nat.reduceMul, Nat.reduceLeDiff, Nat.reduceEqDiff, Int.reduceToNat, Int.reduceAdd, Int.reduceLT, Int.reduceLE, ↓reduceIte, forall_const, eq_self, zG1, zG2, al_60, fa_60_2, ld_3, st_60]
  refine (rFault (h.ext ((hf.alloc _).upd (.inr hz))) 2 _).mono ?_
  rintro e w2 ⟨rfl, h2, hf3⟩
  simp only [ends]
  exact ⟨trivial, h2, ((hf.alloc _).upd (.inr hz)).toM.trans hf3⟩
theorem rIs_yes (h : RP w pb tb T k vars d 0 at_) (s : P.Bs) (hs : P.isT T k s = true) :
    Calls Tryz.prog 32 #[.pointer (some ⟨pb, 0, none⟩), .string (bs s)] w fun e w' =>
      e = .returned (.bool true) ∧ RP w' pb tb T (k + 1) vars d 0 at_ ∧ RFr pb w w' := by
  obtain ⟨lc, vv, hx⟩ := id h
  have h4 := hx.kind4
  simp only [P.isT, Bool.and_eq_true, Bool.or_eq_true, beq_iff_eq] at hs
  obtain ⟨hk, ht⟩ := hs
  have hkn : k + 1 < T.length := hx.tw.next hx.kt (by omega)
  have hl : T.length ≤ 2001 := hx.tw.len
  have l1 := ltOf hx.cell
  refine sh_Pr_parser_is_ok ?_
  refine (rNext h).mono ?_
  rintro e w1 ⟨rfl, hf⟩
  have hz := hf.size
  have h3 := (hx.ext hf).cell
  have hfin : ∀ {w2 : World} {kz : Int}, Ext w w2 → kz = (k + 1 : Nat) → RP (upd w2 pb (.cells #[.slice (some ⟨tb, 0, none⟩) T.length lc, .int .i64 kz, vv, .int .i64 d, .int .i64 (0 : Nat), .int .i64 at_] 58 (0, 0))) pb tb T (k + 1) vars d 0 at_ ∧
      RFr pb w (upd w2 pb (.cells #[.slice (some ⟨tb, 0, none⟩) T.length lc, .int .i64 kz, vv, .int .i64 d, .int .i64 (0 : Nat), .int .i64 at_] 58 (0, 0))) :=
    fun hf hk => ⟨RP.of ((hx.ext hf).set hkn hx.dp hk fun _ => rfl), hf.toM.upd (.inl fun _ => .inl rfl)⟩
  rcases hk with hk | hk
  · rw [hk, ht, show rk 4 = 115 from rfl]
    simp (disch := first | assumption | omega | ((simp only [size_alloc, sz_drew, size_upd, List.size_toArray, List.length_cons, List.length_nil]) <;> omega) | decide) only [sh_Pr_parser_is, Pr, PX, PC, NX, ends, fillL, wrL, sOf, Nat.reduceAdd, Nat.reduceMul, Nat.reduceLeDiff, Nat.reduceEqDiff, Int.reduceToNat, Int.reduceAdd, Int.reduceLT, Int.reduceLE, ↓reduceIte, forall_const, eq_self, zG1, zG2, al_60, fa_58_1, fa_58_4, fa_60_0, fa_60_1, ld_29, ld_3, ld_5, ld_9, st_3, st_60, h3]
    exact hfin ((hf.alloc _).upd (.inr hz)) rfl
  · rw [hk, ht, show rk 1 = 97 from rfl]
    simp (disch := first | assumption | omega | ((simp only [size_alloc, sz_drew, size_upd, List.size_toArray, List.length_cons, List.length_nil]) <;> omega) | decide) only [sh_Pr_parser_is, Pr, PX, PC, NX, ends, fillL, wrL, sOf, Nat.reduceAdd, Nat.reduceMul, Nat.reduceLeDiff, Nat.reduceEqDiff, Int.reduceToNat, Int.reduceAdd, Int.reduceLT, Int.reduceLE, ↓reduceIte, forall_const, eq_self, zG1, zG2, al_60, fa_58_1, fa_58_4, fa_60_0, fa_60_1, ld_29, ld_3, ld_5, ld_9, st_3, st_60, h3]
    exact hfin ((hf.alloc _).upd (.inr hz)) rfl
theorem rIs_no (h : RP w pb tb T k vars d er at_) (s : P.Bs) (hs : er ≠ 0 ∨ P.isT T k s = false) :
    Calls Tryz.prog 32 #[.pointer (some ⟨pb, 0, none⟩), .string (bs s)] w fun e w' => e = .returned (.bool false) ∧ RP w' pb tb T k vars d er at_ ∧ RFr pb w w' := by
  obtain ⟨lc, vv, hx⟩ := id h
  have h4 := hx.kind4
  have l1 := ltOf hx.cell
  have hfin : ∀ {w2 : World}, Ext w w2 → RP w2 pb tb T k vars d er at_ ∧ RFr pb w w2 := fun hf => ⟨h.ext hf, hf.toM⟩
  refine sh_Pr_parser_is_ok ?_
  refine (rNext h).mono ?_
  rintro e w1 ⟨rfl, hf⟩
  have hz := hf.size
  have h3 := (hx.ext hf).cell
  have s1 := rk_sign h4
  have s2 := rk_atom h4
  by_cases he : er = 0
  · subst he
    have hs := hs.resolve_left (by simp)
    by_cases hk : (P.tk T k).kind = 4 ∨ (P.tk T k).kind = 1
    · have ht : ¬ (P.tk T k).text = s := by
        intro ht
        simp only [P.isT, ht, beq_self_eq_true, Bool.and_true, Bool.or_eq_false_iff, beq_eq_false_iff_ne] at hs
        omega
      rcases hk with hk | hk
      · rw [hk, show rk 4 = 115 from rfl]
        simp (disch := first | assumption | omega | ((simp only [size_alloc, sz_drew, size_upd, List.size_toArray, List.length_cons, List.length_nil]) <;> omega) | decide) only [sh_Pr_parser_is, Pr, PX, PC, NX, ends, fillL, wrL, sOf, Nat.reduceAdd, Nat.reduceMul, Nat.reduceLeDiff, Nat.reduceEqDiff, Int.reduceToNat, Int.reduceAdd, Int.reduceLT, Int.reduceLE, ↓reduceIte, forall_const, eq_self, zG1, zG2, al_60, fa_58_1, fa_58_4, fa_60_0, fa_60_1, ld_29, ld_3, ld_5, ld_9, st_3, st_60, h3]
        exact hfin ((hf.alloc _).upd (.inr hz))
      · rw [hk, show rk 1 = 97 from rfl]
        simp (disch := first | assumption | omega | ((simp only [size_alloc, sz_drew, size_upd, List.size_toArray, List.length_cons, List.length_nil]) <;> omega) | decide) only [sh_Pr_parser_is, Pr, PX, PC, NX, ends, fillL, wrL, sOf, Nat.reduceAdd, Nat.reduceMul, Nat.reduceLeDiff, Nat.reduceEqDiff, Int.reduceToNat, Int.reduceAdd, Int.reduceLT, Int.reduceLE, ↓reduceIte, forall_const, eq_self, zG1, zG2, al_60, fa_58_1, fa_58_4, fa_60_0, fa_60_1, ld_29, ld_3, ld_5, ld_9, st_3, st_60, h3]
        exact hfin ((hf.alloc _).upd (.inr hz))
    · generalize rk (P.tk T k).kind = q at *
      have q1 : ¬ (q : Int) = 115 := by omega
      have q2 : ¬ (q : Int) = 97 := by omega
      simp (disch := first | assumption | omega | ((simp only [size_alloc, sz_drew, size_upd, List.size_toArray, List.length_cons, List.length_nil]) <;> omega) | decide) only [sh_Pr_parser_is, Pr, PX, PC, NX, ends, fillL, wrL, sOf, Nat.reduceAdd, Nat.reduceMul, Nat.reduceLeDiff, Nat.reduceEqDiff, Int.reduceToNat, Int.reduceAdd, Int.reduceLT, Int.reduceLE, ↓reduceIte, forall_const, eq_self, zG1, zG2, al_60, fa_58_1, fa_58_4, fa_60_0, fa_60_1, ld_29, ld_3, ld_5, ld_9, st_3, st_60, h3]
      exact hfin ((hf.alloc _).upd (.inr hz))
  · simp (disch := first | assumption | omega | ((simp only [size_alloc, sz_drew, size_upd, List.size_toArray, List.length_cons, List.length_nil]) <;> omega) | decide) only [sh_Pr_parser_is, Pr, PX, PC, NX, ends, fillL, wrL, sOf, Nat.reduceAdd, Nat.reduceMul, Nat.reduceLeDiff, Nat.reduceEqDiff, Int.reduceToNat, Int.reduceAdd, Int.reduceLT, Int.reduceLE, ↓reduceIte, forall_const, eq_self, zG1, zG2, al_60, fa_58_1, fa_58_4, fa_60_0, fa_60_1, ld_29, ld_3, ld_5, ld_9, st_3, st_60, h3]
    exact hfin ((hf.alloc _).upd (.inr hz))
theorem rMust_yes (h : RP w pb tb T k vars d 0 at_) (s : P.Bs) (hs : P.isT T k s = true) :
    Calls Tryz.prog 34 #[.pointer (some ⟨pb, 0, none⟩), .string (bs s)] w fun e w' =>
      e = .returned (.tuple #[]) ∧ RP w' pb tb T (k + 1) vars d 0 at_ ∧ RFr pb w w' := by
  refine sh_Pr_parser_must_ok ?_
  refine (rIs_yes h s hs).mono ?_
  rintro e w1 ⟨rfl, h1⟩
  simp (disch := first | assumption | omega | ((simp only [size_alloc, sz_drew, size_upd, List.size_toArray, List.length_cons, List.length_nil]) <;> omega) | decide) only [sh_Pr_parser_must, Pr, PX, PC, NX, ends, fillL, wrL, sOf, Nat.reduceAdd, Nat.reduceMul, Nat.reduceLeDiff, Nat.reduceEqDiff, Int.reduceToNat, Int.reduceAdd, Int.reduceLT, Int.reduceLE, ↓reduceIte, forall_const, eq_self, zG1, zG2]
  exact h1
theorem rMust_no (h : RP w pb tb T k vars d er at_) (s : P.Bs) (hs : er ≠ 0 ∨ P.isT T k s = false) :
    Calls Tryz.prog 34 #[.pointer (some ⟨pb, 0, none⟩), .string (bs s)] w fun e w' =>
      e = .returned (.tuple #[]) ∧ RP w' pb tb T k vars d (if er = 0 then 2 else er) (if er = 0 then (P.tk T k).pos else at_) ∧ RFr pb w w' := by
  refine sh_Pr_parser_must_ok ?_
  refine (rIs_no h s hs).mono ?_
  rintro e w1 ⟨rfl, h1, hf1⟩
  simp (disch := first | assumption | omega | ((simp only [size_alloc, sz_drew, size_upd, List.size_toArray, List.length_cons, List.length_nil]) <;> omega) | decide) only [sh_Pr_parser_must, Pr, PX, PC, NX, ends, fillL, wrL, sOf, Nat.reduceAdd, Nat.reduceMul, Nat.reduceLeDiff, Nat.reduceEqDiff, Int.reduceToNat, Int.reduceAdd, Int.reduceLT, Int.reduceLE, ↓reduceIte, forall_const, eq_self, zG1, zG2]
  refine (rNone h1).mono ?_
  rintro e w2 ⟨rfl, h2, hf2⟩
  simp only [ends]
  exact ⟨trivial, h2, hf1.trans hf2⟩
theorem rEnter_ok (h : RP w pb tb T k vars d 0 0) (hd : 0 ≤ d) (hd8 : d + 1 ≤ 8) :
    Calls Tryz.prog 84 #[.pointer (some ⟨pb, 0, none⟩)] w fun e w' =>
      e = .returned (.bool true) ∧ RP w' pb tb T k vars (d + 1) 0 0 ∧ RFr pb w w' := by
  obtain ⟨lc, vv, hx⟩ := id h
  have l1 := ltOf hx.cell
  have h3 := hx.cell
  refine sh_Pr_parser_enter_ok ?_
  simp (disch := first | assumption | omega | ((simp only [size_alloc, sz_drew, size_upd, List.size_toArray, List.length_cons, List.length_nil]) <;> omega) | decide) only [sh_Pr_parser_enter, Pr, PX, PC, NX, ends, fillL, wrL, sOf, Nat.reduceAdd, Nat.reduceMul, Nat.reduceLeDiff, Nat.reduceEqDiff, Int.reduceToNat, Int.reduceAdd, Int.reduceLT, Int.reduceLE, ↓reduceIte, forall_const, eq_self, zG1, zG2, al_60, fa_58_3, fa_58_4, fa_60_2, ld_29, ld_3, st_3, st_60, h3]
  have hx1 := hx.set (k' := k) (kz := k) (d' := d + 1) (er' := 0) (at' := 0) hx.kt (by omega) rfl fun _ => rfl
  have hf1 : RFr pb w (upd w pb (.cells #[.slice (some ⟨tb, 0, none⟩) T.length lc, .int .i64 k, vv, .int .i64 (d + 1), .int .i64 (0 : Nat), .int .i64 (0 : Nat)] 58 (0, 0))) := (FrM.refl _ _).upd (.inl fun _ => .inl rfl)
  refine (rNext (RP.of hx1)).mono ?_
  rintro e w1 ⟨rfl, hf⟩
  have hz := hf.size
  rw [size_upd] at hz
  have h4 := (hx1.ext hf).cell
  simp (disch := first | assumption | omega | ((simp only [size_alloc, sz_drew, size_upd, List.size_toArray, List.length_cons, List.length_nil]) <;> omega) | decide) only [sh_Pr_parser_enter, Pr, PX, PC, NX, ends, fillL, wrL, sOf, Nat.reduceAdd, Nat.reduceMul, Nat.reduceLeDiff, Nat.reduceEqDiff, Int.reduceToNat, Int.reduceAdd, Int.reduceLT, Int.reduceLE, ↓reduceIte, forall_const, eq_self, zG1, zG2, al_60, fa_58_3, fa_58_4, fa_60_2, ld_29, ld_3, st_3, st_60, h4]
  exact ⟨rfl, (RP.of hx1).ext ((hf.alloc _).upd (.inr (by rw [size_upd]; exact hz))), hf1.trans ((hf.alloc _).upd (.inr (by rw [size_upd]; exact hz))).toM⟩
theorem rEnter_deep (h : RP w pb tb T k vars d 0 0) (hd : 0 ≤ d ∧ d ≤ 100) (hd8 : ¬ d + 1 ≤ 8) :
    Calls Tryz.prog 84 #[.pointer (some ⟨pb, 0, none⟩)] w fun e w' =>
      e = .returned (.bool false) ∧ RP w' pb tb T k vars (d + 1) 4 (P.tk T k).pos ∧ RFr pb w w' := by
  obtain ⟨lc, vv, hx⟩ := id h
  have l1 := ltOf hx.cell
  have h3 := hx.cell
  refine sh_Pr_parser_enter_ok ?_
  simp (disch := first | assumption | omega | ((simp only [size_alloc, sz_drew, size_upd, List.size_toArray, List.length_cons, List.length_nil]) <;> omega) | decide) only [sh_Pr_parser_enter, Pr, PX, PC, NX, ends, fillL, wrL, sOf, Nat.reduceAdd, Nat.reduceMul, Nat.reduceLeDiff, Nat.reduceEqDiff, Int.reduceToNat, Int.reduceAdd, Int.reduceLT, Int.reduceLE, ↓reduceIte, forall_const, eq_self, zG1, zG2, al_60, fa_58_3, fa_58_4, fa_60_2, ld_29, ld_3, st_3, st_60, h3]
  have hx1 := hx.set (k' := k) (kz := k) (d' := d + 1) (er' := 0) (at' := 0) hx.kt (by omega) rfl fun _ => rfl
  have hf1 : RFr pb w (upd w pb (.cells #[.slice (some ⟨tb, 0, none⟩) T.length lc, .int .i64 k, vv, .int .i64 (d + 1), .int .i64 (0 : Nat), .int .i64 (0 : Nat)] 58 (0, 0))) := (FrM.refl _ _).upd (.inl fun _ => .inl rfl)
  refine (rNext (RP.of hx1)).mono ?_
  rintro e w1 ⟨rfl, hf⟩
  have hz := hf.size
  rw [size_upd] at hz
  have h4 := (hx1.ext hf).cell
  simp (disch := first | assumption | omega | ((simp only [size_alloc, sz_drew, size_upd, List.size_toArray, List.length_cons, List.length_nil]) <;> omega) | decide) only [sh_Pr_parser_enter, Pr, PX, PC, NX, ends, fillL, wrL, sOf, Nat.reduceAdd, Nat.reduceMul, Nat.reduceLeDiff, Nat.reduceEqDiff, Int.reduceToNat, Int.reduceAdd, Int.reduceLT, Int.reduceLE, ↓reduceIte, forall_const, eq_self, zG1, zG2, al_60, fa_58_3, fa_58_4, fa_60_2, ld_29, ld_3, st_3, st_60, h4]
  refine (rFault ((RP.of hx1).ext ((hf.alloc _).upd (.inr (by rw [size_upd]; exact hz)))) 4 _).mono ?_
  rintro e w2 ⟨rfl, h2, hf2⟩
  rw [if_pos rfl, if_pos rfl] at h2
  obtain ⟨lc', vv', hx2⟩ := id h2
  have h5 := hx2.cell
  simp (disch := first | assumption | omega | ((simp only [size_alloc, sz_drew, size_upd, List.size_toArray, List.length_cons, List.length_nil]) <;> omega) | decide) only [sh_Pr_parser_enter, Pr, PX, PC, NX, ends, fillL, wrL, sOf, Nat.reduceAdd, Nat.reduceMul, Nat.reduceLeDiff, Nat.reduceEqDiff, Int.reduceToNat, Int.reduceAdd, Int.reduceLT, Int.reduceLE, ↓reduceIte, forall_const, eq_self, zG1, zG2, al_60, fa_58_3, fa_58_4, fa_60_2, ld_29, ld_3, st_3, st_60, h5]
  exact ⟨rfl, h2, (hf1.trans ((hf.alloc _).upd (.inr (by rw [size_upd]; exact hz))).toM).trans hf2⟩
end
end Go.Proofs.YtkmpelgfhjgddaaGreatDoor
namespace Go.Proofs.YtkmpelgfhjgddaaGreatDoor
open Go.RowKit Sx
def IsRw (F : Nat → Prop) (w : World) (et m : Nat) (v : Value) (n : Nat) (vs : List Value) : Prop :=
  (n = 0 ∧ vs = [] ∧ v = .slice none 0 0) ∨
  ∃ b cap cs, v = .slice (some ⟨b, 0, none⟩) n cap ∧ F b ∧ w.heap[b]? = some (.cells cs et (0, 0)) ∧ m * n ≤ cs.size ∧ cs.toList.take (m * n) = vs ∧ n ≤ 9223372036854775807
theorem IsRw.mono {F F' : Nat → Prop} {w w' : World} {et m : Nat} {v : Value} {n : Nat} {vs : List Value} (h : IsRw F w et m v n vs) (hf : ∀ b, F b → F' b)
    (hw : ∀ b cs, F b → w.heap[b]? = some (.cells cs et (0, 0)) → w'.heap[b]? = some (.cells cs et (0, 0))) : IsRw F' w' et m v n vs := by
  rcases h with h | ⟨b, cap, cs, h1, h2, h3, h4, h5⟩
  · exact .inl h
  · exact .inr ⟨b, cap, cs, h1, hf b h2, hw b cs h2 h3, h4, h5⟩
theorem IsRw.shape {F : Nat → Prop} {w : World} {et m : Nat} {v : Value} {n : Nat} {vs : List Value} (h : IsRw F w et m v n vs) : ∃ a c, v = .slice a n c := by
  rcases h with ⟨rfl, _, h⟩ | ⟨b, cap, cs, h, _⟩
  · exact ⟨_, _, h⟩
  · exact ⟨_, _, h⟩
mutual
def IsRx (F : Nat → Prop) (w : World) (l : List Value) : P.Ex → Prop
  | .mk kind name n k args => ∃ av vs, l = [.int .u8 kind, .string (bs name), .int .i64 n, .int .i64 k, av] ∧ IsRw F w 69 5 av args.length vs ∧ IsRxs F w vs args
  termination_by structural x => x
def IsRxs (F : Nat → Prop) (w : World) (vs : List Value) : List P.Ex → Prop
  | [] => vs = []
  | x :: xs => ∃ l r, vs = l ++ r ∧ IsRx F w l x ∧ IsRxs F w r xs
  termination_by structural x => x
end
abbrev Keeps (F : Nat → Prop) (et : Nat) (w w' : World) : Prop := ∀ b cs, F b → w.heap[b]? = some (.cells cs et (0, 0)) → w'.heap[b]? = some (.cells cs et (0, 0))
mutual
theorem IsRx.mono {F F' : Nat → Prop} {w w' : World} (hf : ∀ b, F b → F' b) (hw : Keeps F 69 w w') : ∀ (x : P.Ex) (l : List Value), IsRx F w l x → IsRx F' w' l x
  | .mk kind name n k args, l, h => by
    unfold IsRx at h ⊢
    obtain ⟨av, vs, h1, h2, h3⟩ := h
    exact ⟨av, vs, h1, h2.mono hf hw, IsRxs.mono hf hw args vs h3⟩
  termination_by structural x => x
theorem IsRxs.mono {F F' : Nat → Prop} {w w' : World} (hf : ∀ b, F b → F' b) (hw : Keeps F 69 w w') : ∀ (xs : List P.Ex) (vs : List Value), IsRxs F w vs xs → IsRxs F' w' vs xs
  | [], vs, h => by unfold IsRxs at h ⊢; exact h
  | x :: xs, vs, h => by
    unfold IsRxs at h ⊢
    obtain ⟨l, r, h1, h2, h3⟩ := h
    exact ⟨l, r, h1, IsRx.mono hf hw x l h2, IsRxs.mono hf hw xs r h3⟩
  termination_by structural x => x
end
theorem IsRx.len {F : Nat → Prop} {w : World} {l : List Value} {x : P.Ex} (h : IsRx F w l x) : ∃ a b c d e, l = [a, b, c, d, e] ∧ a.oneCell' = true ∧ b.oneCell' = true ∧ c.oneCell' = true ∧ d.oneCell' = true ∧ e.oneCell' = true := by
  cases x
  unfold IsRx at h
  obtain ⟨av, vs, rfl, h2, -⟩ := h
  obtain ⟨a, c, rfl⟩ := h2.shape
  exact ⟨_, _, _, _, _, rfl, rfl, rfl, rfl, rfl, rfl⟩
theorem IsRxs.snoc {F : Nat → Prop} {w : World} {l : List Value} {x : P.Ex} : ∀ {xs : List P.Ex} {vs : List Value}, IsRxs F w vs xs → IsRx F w l x → IsRxs F w (vs ++ l) (xs ++ [x])
  | [], vs, h, hx => by
    unfold IsRxs at h
    subst h
    show IsRxs F w ([] ++ l) (x :: [])
    unfold IsRxs
    exact ⟨l, [], by simp, hx, by unfold IsRxs; rfl⟩
  | y :: ys, vs, h, hx => by
    unfold IsRxs at h
    obtain ⟨m, r, rfl, h2, h3⟩ := h
    show IsRxs F w (m ++ r ++ l) (y :: (ys ++ [x]))
    unfold IsRxs
    exact ⟨m, r ++ l, by simp, h2, IsRxs.snoc h3 hx⟩
theorem IsRxs.length {F : Nat → Prop} {w : World} : ∀ {xs : List P.Ex} {vs : List Value}, IsRxs F w vs xs → vs.length = 5 * xs.length
  | [], vs, h => by unfold IsRxs at h; subst h; rfl
  | x :: xs, vs, h => by
    unfold IsRxs at h
    obtain ⟨l, r, rfl, h2, h3⟩ := h
    obtain ⟨a, b, c, d, e, rfl, -⟩ := h2.len
    have := IsRxs.length h3
    simp
    omega
theorem IsRxs.at {F : Nat → Prop} {w : World} : ∀ {xs : List P.Ex} {vs : List Value} (j : Nat) (hj : j < xs.length), IsRxs F w vs xs → IsRx F w ((vs.drop (5 * j)).take 5) xs[j]
  | x :: xs, vs, 0, _, h => by
    unfold IsRxs at h
    obtain ⟨l, r, rfl, h2, h3⟩ := h
    obtain ⟨a, b, c, d, e, rfl, -⟩ := h2.len
    exact h2
  | x :: xs, vs, j + 1, hj, h => by
    unfold IsRxs at h
    obtain ⟨l, r, rfl, h2, h3⟩ := h
    obtain ⟨a, b, c, d, e, rfl, -⟩ := h2.len
    have := IsRxs.at (w := w) (F := F) j (by simpa using hj) h3
    have e1 : 5 * (j + 1) = 5 + 5 * j := by omega
    rw [e1, ← List.drop_drop]
    exact this
mutual
def IsRb (F : Nat → Prop) (w : World) (l : List Value) : P.Bd → Prop
  | .mk kind name args parts => ∃ av pv vs us, l = [.int .u8 kind, .string (bs name), av, pv] ∧ IsRw F w 69 5 av args.length vs ∧ IsRxs F w vs args ∧
      IsRw F w 37 4 pv parts.length us ∧ IsRbs F w us parts
  termination_by structural x => x
def IsRbs (F : Nat → Prop) (w : World) (vs : List Value) : List P.Bd → Prop
  | [] => vs = []
  | x :: xs => ∃ l r, vs = l ++ r ∧ IsRb F w l x ∧ IsRbs F w r xs
  termination_by structural x => x
end
mutual
theorem IsRb.mono {F F' : Nat → Prop} {w w' : World} (hf : ∀ b, F b → F' b) (hw : Keeps F 69 w w') (hb : Keeps F 37 w w') : ∀ (x : P.Bd) (l : List Value), IsRb F w l x → IsRb F' w' l x
  | .mk kind name args parts, l, h => by
    unfold IsRb at h ⊢
    obtain ⟨av, pv, vs, us, h1, h2, h3, h4, h5⟩ := h
    exact ⟨av, pv, vs, us, h1, h2.mono hf hw, IsRxs.mono hf hw args vs h3, h4.mono hf hb, IsRbs.mono hf hw hb parts us h5⟩
  termination_by structural x => x
theorem IsRbs.mono {F F' : Nat → Prop} {w w' : World} (hf : ∀ b, F b → F' b) (hw : Keeps F 69 w w') (hb : Keeps F 37 w w') : ∀ (xs : List P.Bd) (vs : List Value), IsRbs F w vs xs → IsRbs F' w' vs xs
  | [], vs, h => by unfold IsRbs at h ⊢; exact h
  | x :: xs, vs, h => by
    unfold IsRbs at h ⊢
    obtain ⟨l, r, h1, h2, h3⟩ := h
    exact ⟨l, r, h1, IsRb.mono hf hw hb x l h2, IsRbs.mono hf hw hb xs r h3⟩
  termination_by structural x => x
end
theorem IsRb.len {F : Nat → Prop} {w : World} {l : List Value} {x : P.Bd} (h : IsRb F w l x) : ∃ a b c d, l = [a, b, c, d] ∧ a.oneCell' = true ∧ b.oneCell' = true ∧ c.oneCell' = true ∧ d.oneCell' = true := by
  cases x
  unfold IsRb at h
  obtain ⟨av, pv, vs, us, rfl, h2, -, h4, -⟩ := h
  obtain ⟨a, c, rfl⟩ := h2.shape
  obtain ⟨a, c, rfl⟩ := h4.shape
  exact ⟨_, _, _, _, rfl, rfl, rfl, rfl, rfl⟩
theorem IsRbs.snoc {F : Nat → Prop} {w : World} {l : List Value} {x : P.Bd} : ∀ {xs : List P.Bd} {vs : List Value}, IsRbs F w vs xs → IsRb F w l x → IsRbs F w (vs ++ l) (xs ++ [x])
  | [], vs, h, hx => by
    unfold IsRbs at h
    subst h
    show IsRbs F w ([] ++ l) (x :: [])
    unfold IsRbs
    exact ⟨l, [], by simp, hx, by unfold IsRbs; rfl⟩
  | y :: ys, vs, h, hx => by
    unfold IsRbs at h
    obtain ⟨m, r, rfl, h2, h3⟩ := h
    show IsRbs F w (m ++ r ++ l) (y :: (ys ++ [x]))
    unfold IsRbs
    exact ⟨m, r ++ l, by simp, h2, IsRbs.snoc h3 hx⟩
theorem IsRbs.length {F : Nat → Prop} {w : World} : ∀ {xs : List P.Bd} {vs : List Value}, IsRbs F w vs xs → vs.length = 4 * xs.length
  | [], vs, h => by unfold IsRbs at h; subst h; rfl
  | x :: xs, vs, h => by
    unfold IsRbs at h
    obtain ⟨l, r, rfl, h2, h3⟩ := h
    obtain ⟨a, b, c, d, rfl, -⟩ := h2.len
    have := IsRbs.length h3
    simp
    omega
theorem wr_append {P : Program} {t ty e : TypeId} {i : TypeInfo} {z : Value} {size bytes : Nat} (ht : P.underlying t = some (.slice e)) (hi : P.info? e = some i) (hz : i.zero = some z)
    (hsize : i.size = size) (hby : i.bytes = bytes) (hzs : z.cells.size = size) (hsz : 0 < size) {w : World} {base : Nat}
    {v : Value} {n : Nat} {xs : List Value} (hown : w.ownsRow base e size v n xs) {b m c : Nat} {cs : Array Value} {T : TypeId} {zz : Nat × Nat} (hb : w.heap[b]? = some (.cells cs T zz)) (hl : cs.toList.length = m * size) (h1 : ∀ u ∈ cs.toList, u.oneCell' = true)
    (hn : n + m ≤ 1000000) (hby2 : bytes ≤ 1000) (hbase : base ≤ w.heap.size) {K : Value → World → Prop} {X : Value → World → Prop}
    (h : ∀ v' w', w'.ownsRow base e size v' (n + m) (xs ++ cs.toList) → w.grownBy w' v.ownBlock → (v'.ownBlock = v.ownBlock ∨ ∀ k, v'.ownBlock = some k → w.heap.size ≤ k) → K v' w') :
    WR P (Builtin.append_ #[t, t] ty #[v, .slice (some ⟨b, 0, none⟩) m c]) w K X := by
  have hb2 : (n + m) * bytes ≤ 1000000 * 1000 := Nat.mul_le_mul hn hby2
  obtain ⟨v', w', r1, r2, r3, r4⟩ := run_append_own2 (P := P) w base t ty e i z size bytes ht hi hz hsize hby hzs hsz v n xs hown ⟨b, 0, none⟩ m c cs.toList hl (fun j u hu => by
    rw [addr_add, Nat.zero_add]; exact cellOf hb (by simpa using hu)) h1 (by unfold maxLen; omega) (by omega) hbase
  rw [wr_ok r1]
  exact h v' w' r2 r3 r4
theorem FrM.grow {M : Nat → Obj → Prop} {a b c : World} (h : FrM M a b) {r : Option Nat} (hg : b.grownBy c r) (hr : ∀ k, r = some k → a.heap.size ≤ k) : FrM M a c :=
  ⟨hg.os.trans h.os, hg.tape.trans h.tape, hg.output.trans h.output, Nat.le_trans h.size hg.size, fun i o hi hm => by
    have := ltOf hi
    have h1 := h.block i o hi hm
    rw [hg.block i (ltOf h1) (fun e => by have := hr i e.symm; omega)]; exact h1⟩
theorem own_slice {w : World} {base e size n : Nat} {v : Value} {xs : List Value} (h : w.ownsRow base e size v n xs) : ∃ a c, v = .slice a n c := by
  rcases h.2 with ⟨rfl, rfl⟩ | ⟨g, cap, cur, rfl, _⟩
  · exact ⟨_, _, rfl⟩
  · exact ⟨_, _, rfl⟩
theorem own_rw {w : World} {base e size n : Nat} {v : Value} {xs : List Value} {F : Nat → Prop} (h : w.ownsRow base e size v n xs) (hF : ∀ k, base ≤ k → k < w.heap.size → F k) : IsRw F w e size v n xs := by
  obtain ⟨h0, h⟩ := h
  rcases h with ⟨rfl, rfl⟩ | ⟨g, cap, cur, rfl, h1, h2, h3, h4, h5, h6⟩
  · exact .inl ⟨rfl, List.eq_nil_of_length_eq_zero (by simpa using h0), rfl⟩
  · refine .inr ⟨g, cap, cur, rfl, hF g h1 (ltOf h2), h2, ?_, by rw [Nat.mul_comm]; exact h6, by unfold maxLen at h4; omega⟩
    rw [h5, Nat.mul_comm]
    exact Nat.mul_le_mul_right _ h3
theorem own_grow {w w' : World} {base base' e e' size size' n n' : Nat} {v u : Value} {xs xs' : List Value} (h : w.ownsRow base e size v n xs) (hu : w.ownsRow base' e' size' u n' xs') (hne : e ≠ e')
    (hg : w.grownBy w' u.ownBlock) : w'.ownsRow base e size v n xs := by
  obtain ⟨h0, h⟩ := h
  refine ⟨h0, ?_⟩
  rcases h with h | ⟨g, cap, cur, rfl, h1, h2, h3⟩
  · exact .inl h
  · refine .inr ⟨g, cap, cur, rfl, h1, ?_, h3⟩
    rw [hg.block g (ltOf h2) (fun e1 => ?_)]
    · exact h2
    · rcases hu.2 with ⟨rfl, _⟩ | ⟨g', cap', cur', rfl, _, h4, _⟩
      · cases e1
      · simp only [Value.ownBlock, Option.some.injEq] at e1
        subst e1
        rw [h2] at h4
        injection h4 with h4
        injection h4 with _ h4
        exact hne h4
theorem RP.grow {w w' : World} {pb tb : Nat} {T : List P.Tok} {k : Nat} {vars : List P.Bs} {d : Int} {er at_ : Nat} (h : RP w pb tb T k vars d er at_) {base' e' size' n' : Nat} {u : Value} {xs' : List Value}
    (hu : w.ownsRow base' e' size' u n' xs') (hne : 9 ≠ e') (hb : pb < base') (hg : w.grownBy w' u.ownBlock) : RP w' pb tb T k vars d er at_ := by
  obtain ⟨lc, vv, tw, lt, kt, nv, dp, ⟨cs, c1, c2⟩, h1, h2, h3, g⟩ := h
  have hk : ∀ b, b ≤ pb → b < w.heap.size → w'.heap[b]? = w.heap[b]? := fun b hb1 hb2 => hg.block b hb2 (fun e1 => by
    have := (hu.lt b e1.symm).1
    omega)
  exact ⟨lc, vv, tw, lt, kt, nv, dp, ⟨cs, by rw [hk tb (by omega) (ltOf c1)]; exact c1, c2⟩, h1, h2, by rw [hk pb (Nat.le_refl _) (ltOf h3)]; exact h3, own_grow g hu hne hg⟩
end Go.Proofs.YtkmpelgfhjgddaaGreatDoor
namespace Go.Proofs.YtkmpelgfhjgddaaGreatDoor
open Go.RowKit Sx
set_option maxRecDepth 100000
theorem rTests (s : P.Bs) (w : World) : Calls Tryz.prog 35 #[.string (bs s)] w fun e w' => e = .returned (.int .i64 (P.tests s)) ∧ w' = w := by
  by_cases h0 : s = [116, 114, 117, 101]
  · subst h0
    refine sh_r_Tests_ok ?_
    simp (disch := first | assumption | omega | ((simp only [size_alloc, sz_drew, size_upd, List.size_toArray, List.length_cons, List.length_nil]) <;> omega) | decide) only [sh_r_Tests, Pr, PX, PC, NX, ends, fillL, wrL, sOf, Nat.reduceAdd, Nat.reduceMul, Nat.reduceLeDiff, Nat.reduceEqDiff, Int.reduceToNat, Int.reduceAdd, Int.reduceLT, Int.reduceLE, ↓reduceIte, forall_const, eq_self, zG1, zG2]
    rfl
  by_cases h1 : s = [102, 97, 105, 108]
  · subst h1
    refine sh_r_Tests_ok ?_
    simp (disch := first | assumption | omega | ((simp only [size_alloc, sz_drew, size_upd, List.size_toArray, List.length_cons, List.length_nil]) <;> omega) | decide) only [sh_r_Tests, Pr, PX, PC, NX, ends, fillL, wrL, sOf, Nat.reduceAdd, Nat.reduceMul, Nat.reduceLeDiff, Nat.reduceEqDiff, Int.reduceToNat, Int.reduceAdd, Int.reduceLT, Int.reduceLE, ↓reduceIte, forall_const, eq_self, zG1, zG2]
    rfl
  by_cases h2 : s = [118, 97, 114]
  · subst h2
    refine sh_r_Tests_ok ?_
    simp (disch := first | assumption | omega | ((simp only [size_alloc, sz_drew, size_upd, List.size_toArray, List.length_cons, List.length_nil]) <;> omega) | decide) only [sh_r_Tests, Pr, PX, PC, NX, ends, fillL, wrL, sOf, Nat.reduceAdd, Nat.reduceMul, Nat.reduceLeDiff, Nat.reduceEqDiff, Int.reduceToNat, Int.reduceAdd, Int.reduceLT, Int.reduceLE, ↓reduceIte, forall_const, eq_self, zG1, zG2]
    rfl
  by_cases h3 : s = [110, 111, 110, 118, 97, 114]
  · subst h3
    refine sh_r_Tests_ok ?_
    simp (disch := first | assumption | omega | ((simp only [size_alloc, sz_drew, size_upd, List.size_toArray, List.length_cons, List.length_nil]) <;> omega) | decide) only [sh_r_Tests, Pr, PX, PC, NX, ends, fillL, wrL, sOf, Nat.reduceAdd, Nat.reduceMul, Nat.reduceLeDiff, Nat.reduceEqDiff, Int.reduceToNat, Int.reduceAdd, Int.reduceLT, Int.reduceLE, ↓reduceIte, forall_const, eq_self, zG1, zG2]
    rfl
  by_cases h4 : s = [97, 116, 111, 109]
  · subst h4
    refine sh_r_Tests_ok ?_
    simp (disch := first | assumption | omega | ((simp only [size_alloc, sz_drew, size_upd, List.size_toArray, List.length_cons, List.length_nil]) <;> omega) | decide) only [sh_r_Tests, Pr, PX, PC, NX, ends, fillL, wrL, sOf, Nat.reduceAdd, Nat.reduceMul, Nat.reduceLeDiff, Nat.reduceEqDiff, Int.reduceToNat, Int.reduceAdd, Int.reduceLT, Int.reduceLE, ↓reduceIte, forall_const, eq_self, zG1, zG2]
    rfl
  by_cases h5 : s = [105, 110, 116, 101, 103, 101, 114]
  · subst h5
    refine sh_r_Tests_ok ?_
    simp (disch := first | assumption | omega | ((simp only [size_alloc, sz_drew, size_upd, List.size_toArray, List.length_cons, List.length_nil]) <;> omega) | decide) only [sh_r_Tests, Pr, PX, PC, NX, ends, fillL, wrL, sOf, Nat.reduceAdd, Nat.reduceMul, Nat.reduceLeDiff, Nat.reduceEqDiff, Int.reduceToNat, Int.reduceAdd, Int.reduceLT, Int.reduceLE, ↓reduceIte, forall_const, eq_self, zG1, zG2]
    rfl
  by_cases h6 : s = [61]
  · subst h6
    refine sh_r_Tests_ok ?_
    simp (disch := first | assumption | omega | ((simp only [size_alloc, sz_drew, size_upd, List.size_toArray, List.length_cons, List.length_nil]) <;> omega) | decide) only [sh_r_Tests, Pr, PX, PC, NX, ends, fillL, wrL, sOf, Nat.reduceAdd, Nat.reduceMul, Nat.reduceLeDiff, Nat.reduceEqDiff, Int.reduceToNat, Int.reduceAdd, Int.reduceLT, Int.reduceLE, ↓reduceIte, forall_const, eq_self, zG1, zG2]
    rfl
  by_cases h7 : s = [92, 61]
  · subst h7
    refine sh_r_Tests_ok ?_
    simp (disch := first | assumption | omega | ((simp only [size_alloc, sz_drew, size_upd, List.size_toArray, List.length_cons, List.length_nil]) <;> omega) | decide) only [sh_r_Tests, Pr, PX, PC, NX, ends, fillL, wrL, sOf, Nat.reduceAdd, Nat.reduceMul, Nat.reduceLeDiff, Nat.reduceEqDiff, Int.reduceToNat, Int.reduceAdd, Int.reduceLT, Int.reduceLE, ↓reduceIte, forall_const, eq_self, zG1, zG2]
    rfl
  by_cases h8 : s = [61, 61]
  · subst h8
    refine sh_r_Tests_ok ?_
    simp (disch := first | assumption | omega | ((simp only [size_alloc, sz_drew, size_upd, List.size_toArray, List.length_cons, List.length_nil]) <;> omega) | decide) only [sh_r_Tests, Pr, PX, PC, NX, ends, fillL, wrL, sOf, Nat.reduceAdd, Nat.reduceMul, Nat.reduceLeDiff, Nat.reduceEqDiff, Int.reduceToNat, Int.reduceAdd, Int.reduceLT, Int.reduceLE, ↓reduceIte, forall_const, eq_self, zG1, zG2]
    rfl
  by_cases h9 : s = [105, 115]
  · subst h9
    refine sh_r_Tests_ok ?_
    simp (disch := first | assumption | omega | ((simp only [size_alloc, sz_drew, size_upd, List.size_toArray, List.length_cons, List.length_nil]) <;> omega) | decide) only [sh_r_Tests, Pr, PX, PC, NX, ends, fillL, wrL, sOf, Nat.reduceAdd, Nat.reduceMul, Nat.reduceLeDiff, Nat.reduceEqDiff, Int.reduceToNat, Int.reduceAdd, Int.reduceLT, Int.reduceLE, ↓reduceIte, forall_const, eq_self, zG1, zG2]
    rfl
  by_cases h10 : s = [60]
  · subst h10
    refine sh_r_Tests_ok ?_
    simp (disch := first | assumption | omega | ((simp only [size_alloc, sz_drew, size_upd, List.size_toArray, List.length_cons, List.length_nil]) <;> omega) | decide) only [sh_r_Tests, Pr, PX, PC, NX, ends, fillL, wrL, sOf, Nat.reduceAdd, Nat.reduceMul, Nat.reduceLeDiff, Nat.reduceEqDiff, Int.reduceToNat, Int.reduceAdd, Int.reduceLT, Int.reduceLE, ↓reduceIte, forall_const, eq_self, zG1, zG2]
    rfl
  by_cases h11 : s = [62]
  · subst h11
    refine sh_r_Tests_ok ?_
    simp (disch := first | assumption | omega | ((simp only [size_alloc, sz_drew, size_upd, List.size_toArray, List.length_cons, List.length_nil]) <;> omega) | decide) only [sh_r_Tests, Pr, PX, PC, NX, ends, fillL, wrL, sOf, Nat.reduceAdd, Nat.reduceMul, Nat.reduceLeDiff, Nat.reduceEqDiff, Int.reduceToNat, Int.reduceAdd, Int.reduceLT, Int.reduceLE, ↓reduceIte, forall_const, eq_self, zG1, zG2]
    rfl
  by_cases h12 : s = [61, 60]
  · subst h12
    refine sh_r_Tests_ok ?_
    simp (disch := first | assumption | omega | ((simp only [size_alloc, sz_drew, size_upd, List.size_toArray, List.length_cons, List.length_nil]) <;> omega) | decide) only [sh_r_Tests, Pr, PX, PC, NX, ends, fillL, wrL, sOf, Nat.reduceAdd, Nat.reduceMul, Nat.reduceLeDiff, Nat.reduceEqDiff, Int.reduceToNat, Int.reduceAdd, Int.reduceLT, Int.reduceLE, ↓reduceIte, forall_const, eq_self, zG1, zG2]
    rfl
  by_cases h13 : s = [62, 61]
  · subst h13
    refine sh_r_Tests_ok ?_
    simp (disch := first | assumption | omega | ((simp only [size_alloc, sz_drew, size_upd, List.size_toArray, List.length_cons, List.length_nil]) <;> omega) | decide) only [sh_r_Tests, Pr, PX, PC, NX, ends, fillL, wrL, sOf, Nat.reduceAdd, Nat.reduceMul, Nat.reduceLeDiff, Nat.reduceEqDiff, Int.reduceToNat, Int.reduceAdd, Int.reduceLT, Int.reduceLE, ↓reduceIte, forall_const, eq_self, zG1, zG2]
    rfl
  by_cases h14 : s = [61, 58, 61]
  · subst h14
    refine sh_r_Tests_ok ?_
    simp (disch := first | assumption | omega | ((simp only [size_alloc, sz_drew, size_upd, List.size_toArray, List.length_cons, List.length_nil]) <;> omega) | decide) only [sh_r_Tests, Pr, PX, PC, NX, ends, fillL, wrL, sOf, Nat.reduceAdd, Nat.reduceMul, Nat.reduceLeDiff, Nat.reduceEqDiff, Int.reduceToNat, Int.reduceAdd, Int.reduceLT, Int.reduceLE, ↓reduceIte, forall_const, eq_self, zG1, zG2]
    rfl
  have e : P.tests s = -1 := by simp [P.tests, h0, h1, h2, h3, h4, h5, h6, h7, h8, h9, h10, h11, h12, h13, h14]
  refine sh_r_Tests_ok ?_
  simp (disch := first | assumption | omega | ((simp only [size_alloc, sz_drew, size_upd, List.size_toArray, List.length_cons, List.length_nil]) <;> omega) | decide) only [sh_r_Tests, Pr, PX, PC, NX, ends, fillL, wrL, sOf, Nat.reduceAdd, Nat.reduceMul, Nat.reduceLeDiff, Nat.reduceEqDiff, Int.reduceToNat, Int.reduceAdd, Int.reduceLT, Int.reduceLE, ↓reduceIte, forall_const, eq_self, zG1, zG2, e, h0, h1, h2, h3, h4, h5, h6, h7, h8, h9, h10, h11, h12, h13, h14]
theorem rValue (s : P.Bs) (w : World) (hd : s.all P.digit = true) (hl : s.length ≤ 9) : Calls Tryz.prog 107 #[.string (bs s)] w fun e w' => e = .returned (.int .i64 (P.num s)) ∧ w' = w := by
  refine sh_r_value_ok ?_
  refine ⟨fun n t w1 => ∃ j : Nat, j ≤ s.length ∧ n = s.length - j ∧ t 3 = .int .i64 (P.num (s.take j)) ∧ t 4 = .int .i64 j ∧ w1 = w, ⟨s.length, 0, Nat.zero_le _, rfl, rfl, rfl, rfl⟩, ?_⟩
  intro n t d w1 h
  refine toPr ?_
  obtain ⟨j, hj, rfl, h3, h4, rfl⟩ := h
  have hb := P.num_bound (s := s.take j) (by rw [List.all_eq_true] at hd ⊢; exact fun x hx => hd x (List.mem_of_mem_take hx)) (by rw [List.length_take]; omega)
  by_cases hlt : j < s.length
  · have hc := List.all_eq_true.1 hd _ (List.getElem_mem hlt)
    have hg : s.getD j 0 = s[j] := by simp [List.getD, hlt]
    simp only [P.digit, decide_eq_true_eq] at hc
    have hn : P.num (s.take (j + 1)) = 10 * P.num (s.take j) + ((s[j].toNat : Int) - 48) := by
      rw [List.take_succ_eq_append_getElem hlt, P.num_snoc]
    generalize P.num (s.take j) = q at *
    simp (disch := first | assumption | omega | ((simp only [size_alloc, sz_drew, size_upd, List.size_toArray, List.length_cons, List.length_nil]) <;> omega) | decide) only [sh_r_value, Pr, PX, PC, NX, ends, fillL, wrL, sOf, Nat.reduceAdd, Nat.reduceMul, Nat.reduceLeDiff, Nat.reduceEqDiff, Int.reduceToNat, Int.reduceAdd, Int.reduceLT, Int.reduceLE, ↓reduceIte, forall_const, eq_self, zG1, zG2, ch_9, cv_5_2, ln_9, h3, h4, hg]
    refine ⟨s.length - (j + 1), by omega, j + 1, by omega, rfl, ?_, rfl⟩
    rw [hn]
  · have : j = s.length := by omega
    subst this
    rw [List.take_length] at h3
    simp (disch := first | assumption | omega | ((simp only [size_alloc, sz_drew, size_upd, List.size_toArray, List.length_cons, List.length_nil]) <;> omega) | decide) only [sh_r_value, Pr, PX, PC, NX, ends, fillL, wrL, sOf, Nat.reduceAdd, Nat.reduceMul, Nat.reduceLeDiff, Nat.reduceEqDiff, Int.reduceToNat, Int.reduceAdd, Int.reduceLT, Int.reduceLE, ↓reduceIte, forall_const, eq_self, zG1, zG2, ch_9, cv_5_2, ln_9, h3, h4]
end Go.Proofs.YtkmpelgfhjgddaaGreatDoor
