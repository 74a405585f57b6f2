/- A part of one proof (RW6, RW7); no conditions beyond what each theorem names. -/
import Derived.Test.YtkmpelgfhjgddaaGreatDoorPkRAL
set_option linter.all false
set_option linter.unusedVariables false
set_option linter.unusedSimpArgs false
namespace Go.Proofs.YtkmpelgfhjgddaaGreatDoor
open Go.RowKit Sx
set_option maxRecDepth 100000
theorem rStX_RP {wA w2 : World} {pb tb : Nat} {T : List P.Tok} {d : Nat} {l : List Value} {r : P.Res P.Ex} (hst : RStX pb tb T d wA w2 l r) :
    ∃ k vs c a, RP w2 pb tb T k vs d c a ∧ ∀ {w w3 : World} (d' : Nat), w.heap.size ≤ wA.heap.size → w2.heap.size ≤ w3.heap.size → Keeps (Nu wA w2) 69 w2 w3 → RP w3 pb tb T k vs d' c a → RStX pb tb T d' w w3 l r := by
  cases r with
  | err c a =>
    obtain ⟨hc, k, vs, hP⟩ := hst
    exact ⟨k, vs, c, a, hP, fun d' _ _ _ hP' => ⟨hc, k, vs, hP'⟩⟩
  | ok x k vs =>
    obtain ⟨hx, hP⟩ := hst
    exact ⟨k, vs, 0, 0, hP, fun d' h1 h2 h3 hP' => ⟨IsRx.mono (fun b hb => ⟨by have := hb.1; omega, by have := hb.2; omega⟩) h3 _ _ hx, hP'⟩⟩
theorem rPrim {f : Nat} (hB : RCB f) : RCP (f + 1) := ⟨by
  intro pb tb T k vars d w r h hd hr
  obtain ⟨l1, hkt, hlT, h4⟩ := h.cs
  refine sh_Pr_parser_prim_ok ?_
  simp (disch := first | assumption | omega | ((simp only [size_alloc, sz_drew, size_upd, List.size_toArray, List.length_cons, List.length_nil]) <;> omega) | decide) only [sh_Pr_parser_prim, Pr, PX, PC, NX, ends, fillL, wrL, sOf, Nat.reduceAdd, Nat.reduceMul, Nat.reduceLeDiff, Nat.reduceEqDiff, Int.reduceToNat, Int.reduceAdd, Int.reduceLT, Int.reduceLE, ↓reduceIte, forall_const, eq_self, zG1, zG2, al_69, bd_69, fa_58_3, ld_3, ld_69, st_3, st_69]
  have hf0 : Ext w (upd ((w.alloc (.cells #[.int .u8 0, .string (bs []), .int .i64 0, .int .i64 0, .slice none 0 0] 69)).alloc (.cells #[.int .u8 0, .string (bs []), .int .i64 0, .int .i64 0, .slice none 0 0] 69)) (w.heap.size + 1) (.cells #[.int .u8 0, .string (bs []), .int .i64 0, .int .i64 0, .slice none 0 0] 69)) := by (repeat (first | assumption | exact FrM.refl _ _ | (refine FrM.upd ?_ (.inr (by (try simp only [size_alloc, sz_drew, size_upd, List.size_toArray, List.length_cons, List.length_nil]) <;> omega))) | refine FrM.alloc ?_ _ | refine FrM.drew ?_))
  by_cases h8 : d + 1 ≤ 8
  · refine Calls.mono (rEnter_ok (h.ext hf0) (by omega) (by omega)) ?_
    rintro e w1 ⟨rfl, hP1, hF1⟩
    simp (disch := first | assumption | omega | ((simp only [size_alloc, sz_drew, size_upd, List.size_toArray, List.length_cons, List.length_nil]) <;> omega) | decide) only [sh_Pr_parser_prim, Pr, PX, PC, NX, ends, fillL, wrL, sOf, Nat.reduceAdd, Nat.reduceMul, Nat.reduceLeDiff, Nat.reduceEqDiff, Int.reduceToNat, Int.reduceAdd, Int.reduceLT, Int.reduceLE, ↓reduceIte, forall_const, eq_self, zG1, zG2, al_69, bd_69, fa_58_3, ld_3, ld_69, st_3, st_69]
    have s1 := hF1.size
    rw [size_upd, size_alloc, size_alloc] at s1
    have c0 : w1.heap[w.heap.size]? = some (.cells #[.int .u8 0, .string (bs []), .int .i64 0, .int .i64 0, .slice none 0 0] 69 (0, 0)) := SFr.keep hF1 (by simp (disch := first | assumption | omega | ((simp only [size_alloc, sz_drew, size_upd, List.size_toArray, List.length_cons, List.length_nil]) <;> omega) | decide) only [hp_alloc_old, hp_alloc_new, hp_upd_same, hp_upd_other, hp_drew, sz_drew, size_upd, size_alloc]) (by omega) (by decide)
    have c1 : w1.heap[w.heap.size + 1]? = some (.cells #[.int .u8 0, .string (bs []), .int .i64 0, .int .i64 0, .slice none 0 0] 69 (0, 0)) := SFr.keep hF1 (by simp (disch := first | assumption | omega | ((simp only [size_alloc, sz_drew, size_upd, List.size_toArray, List.length_cons, List.length_nil]) <;> omega) | decide) only [hp_alloc_old, hp_alloc_new, hp_upd_same, hp_upd_other, hp_drew, sz_drew, size_upd, size_alloc]) (by omega) (by decide)
    refine Calls.mono (hB.go (d := d) hP1 h8 hr) ?_
    rintro e w2 ⟨a, b, c, g, u, rfl, ⟨o1, o2, o3, o4, o5, oh⟩, hF2, hst⟩
    have s2 := hF2.size
    have d0 := SFr.keep hF2 c0 (by omega) (by decide)
    have d1 := SFr.keep hF2 c1 (by omega) (by decide)
    obtain ⟨k2, vs2, c2, a2, hP2, hfin⟩ := rStX_RP hst
    obtain ⟨lc2, vv2, hx2⟩ := id hP2
    have h3 := hx2.cell
    simp (disch := first | assumption | omega | ((simp only [size_alloc, sz_drew, size_upd, List.size_toArray, List.length_cons, List.length_nil]) <;> omega) | decide) only [sh_Pr_parser_prim, Pr, PX, PC, NX, ends, fillL, wrL, sOf, Nat.reduceAdd, Nat.reduceMul, Nat.reduceLeDiff, Nat.reduceEqDiff, Int.reduceToNat, Int.reduceAdd, Int.reduceLT, Int.reduceLE, ↓reduceIte, forall_const, eq_self, zG1, zG2, al_69, bd_69, fa_58_3, ld_3, ld_69, st_3, st_69, d0, d1, h3, o1, o2, o3, o4, o5]
    have ed : ((d + 1 : Nat) : Int) - 1 = d := by omega
    rw [ed]
    have hRP := RP.of (((hx2.updT (q := w.heap.size + 1) (o := .cells #[a, b, c, g, u] 69 (0, 0)) (by omega) d1 (by decide))).set (k' := k2) (kz := k2) (d' := d) (er' := c2) (at' := a2) hx2.kt (by omega) rfl (fun h => h))
    refine ⟨_, _, _, _, _, rfl, ⟨o1, o2, o3, o4, o5, oh⟩, (((((hf0.toM.trans hF1).trans hF2).upd (.inr (by omega))).upd (.inl fun _ => .inl rfl)).upd (.inr (by omega))),
      hfin d (by omega) (by ((try simp only [size_alloc, sz_drew, size_upd, List.size_toArray, List.length_cons, List.length_nil]) <;> omega)) (fun b' cs hb hc => ?_) (hRP.updT (by omega) (by simp (disch := first | assumption | omega | ((simp only [size_alloc, sz_drew, size_upd, List.size_toArray, List.length_cons, List.length_nil]) <;> omega) | decide) only [hp_alloc_old, hp_alloc_new, hp_upd_same, hp_upd_other, hp_drew, sz_drew, size_upd, size_alloc]; exact d0) (by decide))⟩
    have hb1 := hb.1
    rw [hp_upd_other (by omega), hp_upd_other (by omega), hp_upd_other (by omega)]
    exact hc
  · have hd8 : d = 8 := by omega
    rw [P.pPrim, if_pos (by unfold P.maxDepth; omega)] at hr
    obtain rfl := (Option.some.inj hr).symm
    refine Calls.mono (rEnter_deep (h.ext hf0) (by omega) (by omega)) ?_
    rintro e w1 ⟨rfl, hP1, hF1⟩
    have s1 := hF1.size
    rw [size_upd, size_alloc, size_alloc] at s1
    have c0 : w1.heap[w.heap.size]? = some (.cells #[.int .u8 0, .string (bs []), .int .i64 0, .int .i64 0, .slice none 0 0] 69 (0, 0)) := SFr.keep hF1 (by simp (disch := first | assumption | omega | ((simp only [size_alloc, sz_drew, size_upd, List.size_toArray, List.length_cons, List.length_nil]) <;> omega) | decide) only [hp_alloc_old, hp_alloc_new, hp_upd_same, hp_upd_other, hp_drew, sz_drew, size_upd, size_alloc]) (by omega) (by decide)
    have c1 : w1.heap[w.heap.size + 1]? = some (.cells #[.int .u8 0, .string (bs []), .int .i64 0, .int .i64 0, .slice none 0 0] 69 (0, 0)) := SFr.keep hF1 (by simp (disch := first | assumption | omega | ((simp only [size_alloc, sz_drew, size_upd, List.size_toArray, List.length_cons, List.length_nil]) <;> omega) | decide) only [hp_alloc_old, hp_alloc_new, hp_upd_same, hp_upd_other, hp_drew, sz_drew, size_upd, size_alloc]) (by omega) (by decide)
    obtain ⟨lc2, vv2, hx2⟩ := id hP1
    have h3 := hx2.cell
    simp (disch := first | assumption | omega | ((simp only [size_alloc, sz_drew, size_upd, List.size_toArray, List.length_cons, List.length_nil]) <;> omega) | decide) only [sh_Pr_parser_prim, Pr, PX, PC, NX, ends, fillL, wrL, sOf, Nat.reduceAdd, Nat.reduceMul, Nat.reduceLeDiff, Nat.reduceEqDiff, Int.reduceToNat, Int.reduceAdd, Int.reduceLT, Int.reduceLE, ↓reduceIte, forall_const, eq_self, zG1, zG2, al_69, bd_69, fa_58_3, ld_3, ld_69, st_3, st_69, c0, c1, h3]
    have ed : ((d : Nat) : Int) + 1 - 1 = d := by omega
    rw [ed]
    exact ⟨_, _, _, _, _, rfl, ⟨rfl, rfl, rfl, rfl, rfl, .of (by decide)⟩, ((hf0.toM.trans hF1).upd (.inl fun _ => .inl rfl)).upd (.inr (by omega)), by decide, _, _,
      (RP.of (hx2.set (k' := k) (kz := k) (d' := d) (er' := 4) (at' := (P.tk T k).pos) hx2.kt (by omega) rfl (fun h => h))).updT (by omega) (by simp (disch := first | assumption | omega | ((simp only [size_alloc, sz_drew, size_upd, List.size_toArray, List.length_cons, List.length_nil]) <;> omega) | decide) only [hp_alloc_old, hp_alloc_new, hp_upd_same, hp_upd_other, hp_drew, sz_drew, size_upd, size_alloc]; exact c0) (by decide)⟩⟩
end Go.Proofs.YtkmpelgfhjgddaaGreatDoor
namespace Go.Proofs.YtkmpelgfhjgddaaGreatDoor
open Go.RowKit Sx
set_option maxRecDepth 100000
theorem opAt1 {T : List P.Tok} {k : Nat} : P.opAt T 1 k = if P.isT T k [42] then some [42] else if P.isT T k [47, 47] then some [47, 47] else if P.isT T k [109, 111, 100] then some [109, 111, 100] else none := by
  unfold P.opAt P.ops
  simp only [Nat.one_ne_zero, if_false, List.find?_cons, List.find?_nil]
  split <;> rename_i h1
  · rw [if_pos h1]
  · rw [if_neg (by simp [h1])]
    split <;> rename_i h2
    · rw [if_pos h2]
    · rw [if_neg (by simp [h2])]
      split <;> rename_i h3
      · rw [if_pos h3]
      · rw [if_neg (by simp [h3])]
theorem opAt0 {T : List P.Tok} {k : Nat} : P.opAt T 0 k = if P.isT T k [43] then some [43] else if P.isT T k [45] then some [45] else none := by
  unfold P.opAt P.ops
  simp only [if_true, List.find?_cons, List.find?_nil]
  split <;> rename_i h1
  · rw [if_pos h1]
  · rw [if_neg (by simp [h1])]
    split <;> rename_i h2
    · rw [if_pos h2]
    · rw [if_neg (by simp [h2])]
theorem isT_4 {T : List P.Tok} {k : Nat} {s : P.Bs} (hk : (P.tk T k).kind = 4) : P.isT T k s = true ↔ (P.tk T k).text = s := by simp [P.isT, hk]
theorem isT_1 {T : List P.Tok} {k : Nat} {s : P.Bs} (hk : (P.tk T k).kind = 1) : P.isT T k s = true ↔ (P.tk T k).text = s := by simp [P.isT, hk]
theorem isT_n {T : List P.Tok} {k : Nat} {s : P.Bs} (h4 : (P.tk T k).kind ≠ 4) (h1 : (P.tk T k).kind ≠ 1) : P.isT T k s = false := by simp [P.isT, h4, h1]
theorem isRx_two {F : Nat → Prop} {w : World} {l ly : List Value} {x y : P.Ex} (hx : IsRx F w l x) (hy : IsRx F w ly y) {q : Nat} {cs : Array Value} (hq : w.heap[q]? = some (.cells cs 69 (0, 0))) (hc : cs.toList = l ++ ly) (hF : F q) (o : P.Bs) (kd : Nat) :
    IsRx F w [.int .u8 kd, .string (bs o), .int .i64 0, .int .i64 0, .slice (some ⟨q, 0, none⟩) 2 2] (.mk kd o 0 0 [x, y]) := by
  have h2 : IsRxs F w (l ++ ly) [x, y] := by
    unfold IsRxs
    refine ⟨l, ly, rfl, hx, ?_⟩
    unfold IsRxs
    exact ⟨ly, [], by simp, hy, by unfold IsRxs; rfl⟩
  have h3 := h2.length
  unfold IsRx
  refine ⟨_, l ++ ly, rfl, .inr ⟨q, 2, cs, rfl, hF, hq, ?_, ?_, by simp⟩, h2⟩
  · have : cs.size = cs.toList.length := by simp
    rw [this, hc, h3]
    simp
  · rw [hc, List.take_of_length_le (by rw [h3]; simp)]
theorem opAt1_cases {T : List P.Tok} (h : TWs T) {k : Nat} (hk : k < T.length) :
    ((((P.tk T k).kind = 4 ∧ (P.tk T k).text = [42]) ∨ ((P.tk T k).kind = 4 ∧ (P.tk T k).text = [47, 47]) ∨ ((P.tk T k).kind = 1 ∧ (P.tk T k).text = [109, 111, 100])) ∧ P.opAt T 1 k = some (P.tk T k).text) ∨
    (((P.tk T k).kind = 4 ∧ (P.tk T k).text ≠ [42] ∧ (P.tk T k).text ≠ [47, 47]) ∨ ((P.tk T k).kind = 1 ∧ (P.tk T k).text ≠ [109, 111, 100]) ∨ ((P.tk T k).kind ≠ 4 ∧ (P.tk T k).kind ≠ 1)) ∧ P.opAt T 1 k = none := by
  rw [opAt1]
  by_cases k4 : (P.tk T k).kind = 4
  · have hm : (P.tk T k).text ≠ [109, 111, 100] := by
      intro e
      rcases h.sg _ (tk_mem hk) k4 with h1 | h1
      · rw [e] at h1; cases h1
      · rw [e] at h1; revert h1; decide
    simp only [isT_4 k4]
    by_cases h1 : (P.tk T k).text = [42]
    · exact .inl ⟨.inl ⟨k4, h1⟩, by rw [if_pos h1, h1]⟩
    · rw [if_neg h1]
      by_cases h2 : (P.tk T k).text = [47, 47]
      · exact .inl ⟨.inr (.inl ⟨k4, h2⟩), by rw [if_pos h2, h2]⟩
      · rw [if_neg h2, if_neg hm]
        exact .inr ⟨.inl ⟨k4, h1, h2⟩, rfl⟩
  · by_cases k1 : (P.tk T k).kind = 1
    · obtain ⟨c, r, e, hc⟩ := h.words _ (tk_mem hk) k1
      simp only [isT_1 k1]
      rw [if_neg (by rw [e]; intro h1; injection h1 with h1; rw [h1] at hc; revert hc; decide), if_neg (by rw [e]; intro h1; injection h1 with h1; rw [h1] at hc; revert hc; decide)]
      by_cases h3 : (P.tk T k).text = [109, 111, 100]
      · exact .inl ⟨.inr (.inr ⟨k1, h3⟩), by rw [if_pos h3, h3]⟩
      · rw [if_neg h3]
        exact .inr ⟨.inr (.inl ⟨k1, h3⟩), rfl⟩
    · simp only [isT_n k4 k1]
      exact .inr ⟨.inr (.inr ⟨k4, k1⟩), rfl⟩
theorem opAt0_cases {T : List P.Tok} (h : TWs T) {k : Nat} (hk : k < T.length) :
    ((((P.tk T k).kind = 4 ∧ (P.tk T k).text = [43]) ∨ ((P.tk T k).kind = 4 ∧ (P.tk T k).text = [45])) ∧ P.opAt T 0 k = some (P.tk T k).text) ∨
    (((P.tk T k).kind = 4 ∧ (P.tk T k).text ≠ [43] ∧ (P.tk T k).text ≠ [45]) ∨ (P.tk T k).kind ≠ 4) ∧ P.opAt T 0 k = none := by
  rw [opAt0]
  by_cases k4 : (P.tk T k).kind = 4
  · simp only [isT_4 k4]
    by_cases h1 : (P.tk T k).text = [43]
    · exact .inl ⟨.inl ⟨k4, h1⟩, by rw [if_pos h1, h1]⟩
    · rw [if_neg h1]
      by_cases h2 : (P.tk T k).text = [45]
      · exact .inl ⟨.inr ⟨k4, h2⟩, by rw [if_pos h2, h2]⟩
      · rw [if_neg h2]
        exact .inr ⟨.inl ⟨k4, h1, h2⟩, rfl⟩
  · by_cases k1 : (P.tk T k).kind = 1
    · obtain ⟨c, r, e, hc⟩ := h.words _ (tk_mem hk) k1
      simp only [isT_1 k1]
      rw [if_neg (by rw [e]; intro h1; injection h1 with h1; rw [h1] at hc; revert hc; decide), if_neg (by rw [e]; intro h1; injection h1 with h1; rw [h1] at hc; revert hc; decide)]
      exact .inr ⟨.inr k4, rfl⟩
    · simp only [isT_n k4 k1]
      exact .inr ⟨.inr k4, rfl⟩
abbrev Fb (w w' : World) (q : Nat) : Nat → Prop := fun b => w.heap.size < b ∧ b < w'.heap.size ∧ b ≠ q
theorem rProduct {f : Nat} (hP : ∀ g, g < f → RCP g) : RCT f := ⟨by
  intro pb tb T k vars d w r h hd hr
  obtain ⟨l1, hkt, hlT, h4⟩ := h.cs
  cases f with
  | zero => simp [P.pOper] at hr
  | succ f =>
  rw [P.pOper, if_neg (by decide)] at hr
  cases f with
  | zero => simp [P.pOper, P.Res.bind] at hr
  | succ f =>
  rw [show (1 + 1 : Nat) = 2 from rfl, P.pOper, if_pos rfl] at hr
  cases hq : P.pPrim T f k vars d with
  | none => rw [hq] at hr; simp [P.Res.bind] at hr
  | some q =>
  rw [hq] at hr
  refine sh_Pr_parser_product_ok ?_
  simp (disch := first | assumption | omega | ((simp only [size_alloc, sz_drew, size_upd, List.size_toArray, List.length_cons, List.length_nil]) <;> omega) | decide) only [sh_Pr_parser_product, Pr, PX, PC, NX, ends, fillL, wrL, sOf, Nat.reduceAdd, Nat.reduceMul, Nat.reduceLeDiff, Nat.reduceEqDiff, Int.reduceToNat, Int.reduceAdd, Int.reduceLT, Int.reduceLE, ↓reduceIte, forall_const, eq_self, zG1, zG2, al_60, al_69, bd_69, br_34_2, fa_58_1, fa_58_4, fa_60_0, fa_60_1, ld_29, ld_3, ld_5, ld_69, ld_9, st_3, st_60, st_69]
  have hf0 : Ext w (w.alloc (.cells #[.int .u8 0, .string (bs []), .int .i64 0, .int .i64 0, .slice none 0 0] 69)) := by (repeat (first | assumption | exact FrM.refl _ _ | (refine FrM.upd ?_ (.inr (by (try simp only [size_alloc, sz_drew, size_upd, List.size_toArray, List.length_cons, List.length_nil]) <;> omega))) | refine FrM.alloc ?_ _ | refine FrM.drew ?_))
  refine Calls.mono ((hP f (by omega)).go (h.ext hf0) hd hq) ?_
  rintro e w1 ⟨a, b, c, g, u, rfl, ⟨o1, o2, o3, o4, o5, oh⟩, hF1, hst⟩
  have s1 := hF1.size
  rw [size_alloc] at s1
  have c0 : w1.heap[w.heap.size]? = some (.cells #[.int .u8 0, .string (bs []), .int .i64 0, .int .i64 0, .slice none 0 0] 69 (0, 0)) := SFr.keep hF1 (by simp (disch := first | assumption | omega | ((simp only [size_alloc, sz_drew, size_upd, List.size_toArray, List.length_cons, List.length_nil]) <;> omega) | decide) only [hp_alloc_old, hp_alloc_new, hp_upd_same, hp_upd_other, hp_drew, sz_drew, size_upd, size_alloc]) (by omega) (by decide)
  simp (disch := first | assumption | omega | ((simp only [size_alloc, sz_drew, size_upd, List.size_toArray, List.length_cons, List.length_nil]) <;> omega) | decide) only [sh_Pr_parser_product, Pr, PX, PC, NX, ends, fillL, wrL, sOf, Nat.reduceAdd, Nat.reduceMul, Nat.reduceLeDiff, Nat.reduceEqDiff, Int.reduceToNat, Int.reduceAdd, Int.reduceLT, Int.reduceLE, ↓reduceIte, forall_const, eq_self, zG1, zG2, al_60, al_69, bd_69, br_34_2, fa_58_1, fa_58_4, fa_60_0, fa_60_1, ld_29, ld_3, ld_5, ld_69, ld_9, st_3, st_60, st_69, o1, o2, o3, o4, o5]
  have hX2 : Ext w1 (upd (w1.alloc (.cells #[.int .u8 0, .string (bs []), .int .i64 0, .int .i64 0, .slice none 0 0] 69)) w1.heap.size (.cells #[a, b, c, g, u] 69)) := by (repeat (first | assumption | exact FrM.refl _ _ | (refine FrM.upd ?_ (.inr (by (try simp only [size_alloc, sz_drew, size_upd, List.size_toArray, List.length_cons, List.length_nil]) <;> omega))) | refine FrM.alloc ?_ _ | refine FrM.drew ?_))
  refine ⟨fun n s wl => ∃ a b c g u, (a.oneCell' = true ∧ b.oneCell' = true ∧ c.oneCell' = true ∧ g.oneCell' = true ∧ u.oneCell' = true ∧ ShX a b c g u) ∧
      wl.heap[w.heap.size]? = some (.cells #[.int .u8 0, .string (bs []), .int .i64 0, .int .i64 0, .slice none 0 0] 69 (0, 0)) ∧ wl.heap[w1.heap.size]? = some (.cells #[a, b, c, g, u] 69 (0, 0)) ∧ RFr pb w wl ∧
      ((∃ f' x k' vs, n = f' + 1 ∧ f' ≤ f + 1 ∧ IsRx (Fb w wl w1.heap.size) wl [a, b, c, g, u] x ∧ RP wl pb tb T k' vs d 0 0 ∧ P.pMore T f' 1 x k' vs d = some r) ∨
       (n = 0 ∧ ∃ c a k' vs, r = .err c a ∧ c ≠ 0 ∧ RP wl pb tb T k' vs d c a)), ?_, ?_⟩
  · cases q with
    | err c1 a1 =>
      obtain ⟨hc, k2, vs2, hP2⟩ := hst
      simp only [P.Res.bind, Option.some.injEq] at hr
      exact ⟨0, a, b, c, g, u, ⟨o1, o2, o3, o4, o5, oh⟩, by simp (disch := first | assumption | omega | ((simp only [size_alloc, sz_drew, size_upd, List.size_toArray, List.length_cons, List.length_nil]) <;> omega) | decide) only [hp_alloc_old, hp_alloc_new, hp_upd_same, hp_upd_other, hp_drew, sz_drew, size_upd, size_alloc]; exact c0, by simp (disch := first | assumption | omega | ((simp only [size_alloc, sz_drew, size_upd, List.size_toArray, List.length_cons, List.length_nil]) <;> omega) | decide) only [hp_alloc_old, hp_alloc_new, hp_upd_same, hp_upd_other, hp_drew, sz_drew, size_upd, size_alloc], (hf0.toM.trans hF1).trans hX2.toM, .inr ⟨rfl, c1, a1, k2, vs2, hr.symm, hc, hP2.ext hX2⟩⟩
    | ok x k2 vs2 =>
      obtain ⟨hx, hP2⟩ := hst
      simp only [P.Res.bind] at hr
      refine ⟨f + 1 + 1, a, b, c, g, u, ⟨o1, o2, o3, o4, o5, oh⟩, by simp (disch := first | assumption | omega | ((simp only [size_alloc, sz_drew, size_upd, List.size_toArray, List.length_cons, List.length_nil]) <;> omega) | decide) only [hp_alloc_old, hp_alloc_new, hp_upd_same, hp_upd_other, hp_drew, sz_drew, size_upd, size_alloc]; exact c0, by simp (disch := first | assumption | omega | ((simp only [size_alloc, sz_drew, size_upd, List.size_toArray, List.length_cons, List.length_nil]) <;> omega) | decide) only [hp_alloc_old, hp_alloc_new, hp_upd_same, hp_upd_other, hp_drew, sz_drew, size_upd, size_alloc], (hf0.toM.trans hF1).trans hX2.toM, .inl ⟨f + 1, x, k2, vs2, rfl, Nat.le_refl _, IsRx.mono (fun b hb => ?_) (fun b cs hb hc => hX2.ext _ _ hc) _ _ hx, hP2.ext hX2, hr⟩⟩
      have hb1 := hb.1
      have hb2 := hb.2
      rw [size_alloc] at hb1
      exact ⟨by omega, by ((try simp only [size_alloc, sz_drew, size_upd, List.size_toArray, List.length_cons, List.length_nil]) <;> omega), by omega⟩
  · intro n s dd wl hI
    refine toPr ?_
    obtain ⟨a, b, c, g, u, ⟨o1, o2, o3, o4, o5, oh⟩, e0, e1, hF, hI⟩ := hI
    have le0 := ltOf e0
    have le1 := ltOf e1
    rcases hI with ⟨f', x, k', vs, rfl, hf', hx, hPl, hm⟩ | ⟨rfl, c1, a1, k', vs, rfl, hc, hPl⟩
    · cases f' with
      | zero => simp [P.pMore] at hm
      | succ f' =>
      rw [P.pMore] at hm
      obtain ⟨lc3, vv3, hx3⟩ := id hPl
      have h3 := hx3.cell
      rcases opAt1_cases hx3.tw hx3.kt with ⟨hop, ho⟩ | ⟨hop, ho⟩
      · rw [ho] at hm
        simp only at hm
        cases f' with
        | zero => simp [P.pOper, P.Res.bind] at hm
        | succ f' =>
        rw [show (1 + 1 : Nat) = 2 from rfl, P.pOper, if_pos rfl] at hm
        cases hq2 : P.pPrim T f' (k' + 1) vs d with
        | none => rw [hq2] at hm; simp [P.Res.bind] at hm
        | some q2 =>
        rw [hq2] at hm
        have hkn := hx3.tw.next hx3.kt (by omega)
        rcases hop with ⟨k4, ht⟩ | ⟨k4, ht⟩ | ⟨k4, ht⟩
        all_goals
          simp (disch := first | assumption | omega | ((simp only [size_alloc, sz_drew, size_upd, List.size_toArray, List.length_cons, List.length_nil]) <;> omega) | decide) only [sh_Pr_parser_product, Pr, PX, PC, NX, ends, fillL, wrL, sOf, Nat.reduceAdd, Nat.reduceMul, Nat.reduceLeDiff, Nat.reduceEqDiff, Int.reduceToNat, Int.reduceAdd, Int.reduceLT, Int.reduceLE, ↓reduceIte, forall_const, eq_self, zG1, zG2, al_60, al_69, bd_69, br_34_2, fa_58_1, fa_58_4, fa_60_0, fa_60_1, ld_29, ld_3, ld_5, ld_69, ld_9, st_3, st_60, st_69, h3]
          refine Calls.mono (rNext hPl) ?_
          rintro e w2 ⟨rfl, hf2⟩
          have s2 := hf2.size
          have g1 := hf2.ext _ _ e1
          have g0 := hf2.ext _ _ e0
          have h3' := hf2.ext _ _ h3
          rw [k4, ht]
          try rw [show rk 4 = 115 from rfl]
          try rw [show rk 1 = 97 from rfl]
          simp (disch := first | assumption | omega | ((simp only [size_alloc, sz_drew, size_upd, List.size_toArray, List.length_cons, List.length_nil]) <;> omega) | decide) only [sh_Pr_parser_product, Pr, PX, PC, NX, ends, fillL, wrL, sOf, Nat.reduceAdd, Nat.reduceMul, Nat.reduceLeDiff, Nat.reduceEqDiff, Int.reduceToNat, Int.reduceAdd, Int.reduceLT, Int.reduceLE, ↓reduceIte, forall_const, eq_self, zG1, zG2, al_60, al_69, bd_69, br_34_2, fa_58_1, fa_58_4, fa_60_0, fa_60_1, ld_29, ld_3, ld_5, ld_69, ld_9, st_3, st_60, st_69, h3', g1]
          refine Calls.mono ((hP f' (by omega)).go (rStepP (kz := (k' : Int) + 1) hx3 ?_ rfl hkn) hd hq2) ?_
          · (repeat (first | assumption | exact FrM.refl _ _ | (refine FrM.upd ?_ (.inr (by (try simp only [size_alloc, sz_drew, size_upd, List.size_toArray, List.length_cons, List.length_nil]) <;> omega))) | refine FrM.alloc ?_ _ | refine FrM.drew ?_))
          rintro e w3 ⟨a', b', c', g', u', rfl, ⟨p1, p2, p3, p4, p5, ph⟩, hF3, hst3⟩
          have s3 := hF3.size
          rw [size_upd, size_upd, size_alloc] at s3
          have i0 : w3.heap[w.heap.size]? = some (.cells #[.int .u8 0, .string (bs []), .int .i64 0, .int .i64 0, .slice none 0 0] 69 (0, 0)) := SFr.keep hF3 (by simp (disch := first | assumption | omega | ((simp only [size_alloc, sz_drew, size_upd, List.size_toArray, List.length_cons, List.length_nil]) <;> omega) | decide) only [hp_alloc_old, hp_alloc_new, hp_upd_same, hp_upd_other, hp_drew, sz_drew, size_upd, size_alloc]; exact g0) (by omega) (by decide)
          have i1 : w3.heap[w1.heap.size]? = some (.cells #[a, b, c, g, u] 69 (0, 0)) := SFr.keep hF3 (by simp (disch := first | assumption | omega | ((simp only [size_alloc, sz_drew, size_upd, List.size_toArray, List.length_cons, List.length_nil]) <;> omega) | decide) only [hp_alloc_old, hp_alloc_new, hp_upd_same, hp_upd_other, hp_drew, sz_drew, size_upd, size_alloc]; exact g1) (by omega) (by decide)
          have i2 := SFr.keep (b := w2.heap.size) hF3 (by simp (disch := first | assumption | omega | ((simp only [size_alloc, sz_drew, size_upd, List.size_toArray, List.length_cons, List.length_nil]) <;> omega) | decide) only [hp_alloc_old, hp_alloc_new, hp_upd_same, hp_upd_other, hp_drew, sz_drew, size_upd, size_alloc]; rfl) (by omega) (by decide)
          have li1 := ltOf i1
          have li2 := ltOf i2
          simp (disch := first | assumption | omega | ((simp only [size_alloc, sz_drew, size_upd, List.size_toArray, List.length_cons, List.length_nil]) <;> omega) | decide) only [sh_Pr_parser_product, Pr, PX, PC, NX, ends, fillL, wrL, sOf, Nat.reduceAdd, Nat.reduceMul, Nat.reduceLeDiff, Nat.reduceEqDiff, Int.reduceToNat, Int.reduceAdd, Int.reduceLT, Int.reduceLE, ↓reduceIte, forall_const, eq_self, zG1, zG2, al_60, al_69, bd_69, br_34_2, fa_58_1, fa_58_4, fa_60_0, fa_60_1, ld_29, ld_3, ld_5, ld_69, ld_9, st_3, st_60, st_69, i0, i1, i2, o1, o2, o3, o4, o5, p1, p2, p3, p4, p5]
          have hX3 : Ext w3 ((upd (w3.alloc (.cells #[.int .u8 0, .string (bs []), .int .i64 0, .int .i64 0, .slice none 0 0] 69)) w3.heap.size (.cells #[a', b', c', g', u'] 69)).alloc (.cells #[a, b, c, g, u, a', b', c', g', u'] 69)) := by (repeat (first | assumption | exact FrM.refl _ _ | (refine FrM.upd ?_ (.inr (by (try simp only [size_alloc, sz_drew, size_upd, List.size_toArray, List.length_cons, List.length_nil]) <;> omega))) | refine FrM.alloc ?_ _ | refine FrM.drew ?_))
          have hF4 := (hF.trans ((rStepF (show Ext wl _ from (by (repeat (first | assumption | exact FrM.refl _ _ | (refine FrM.upd ?_ (.inr (by (try simp only [size_alloc, sz_drew, size_upd, List.size_toArray, List.length_cons, List.length_nil]) <;> omega))) | refine FrM.alloc ?_ _ | refine FrM.drew ?_)) : Ext wl (upd (w2.alloc (.cells #[.int .u8 0, .string (bs []), .int .i64 0] 60)) w2.heap.size (.cells _ 60))))).trans hF3)).trans hX3.toM
          have s4 := hX3.size
          cases q2 with
          | err c2 a2 =>
            obtain ⟨hc2, k5, vs5, hP5⟩ := hst3
            simp only [P.Res.bind, Option.some.injEq] at hm
            exact ⟨0, Nat.succ_pos _, _, _, _, _, _, ⟨rfl, rfl, rfl, rfl, rfl, .of (by decide)⟩, rfl, hF4.upd (.inr (by omega)), .inr ⟨rfl, c2, a2, k5, vs5, hm.symm, hc2, (hP5.ext hX3).updT (by omega) (hX3.ext _ _ i1) (by decide)⟩⟩
          | ok y k5 vs5 =>
            obtain ⟨hy, hP5⟩ := hst3
            simp only [P.Res.bind] at hm
            rw [ht] at hm
            refine ⟨f' + 1 + 1, by omega, _, _, _, _, _, ⟨rfl, rfl, rfl, rfl, rfl, .of (by decide)⟩, rfl, hF4.upd (.inr (by omega)), .inl ⟨f' + 1, _, k5, vs5, rfl, by omega, ?_, (hP5.ext hX3).updT (by omega) (hX3.ext _ _ i1) (by decide), hm⟩⟩
            refine isRx_two (q := w3.heap.size + 1) (l := [a, b, c, g, u]) (ly := [a', b', c', g', u']) (IsRx.mono (fun b hb => ?_) (fun b cs hb hc => ?_) _ _ hx) (IsRx.mono (fun b hb => ?_) (fun b cs hb hc => ?_) _ _ hy) (by simp (disch := first | assumption | omega | ((simp only [size_alloc, sz_drew, size_upd, List.size_toArray, List.length_cons, List.length_nil]) <;> omega) | decide) only [hp_alloc_old, hp_alloc_new, hp_upd_same, hp_upd_other, hp_drew, sz_drew, size_upd, size_alloc]; rfl) rfl ⟨by omega, by ((try simp only [size_alloc, sz_drew, size_upd, List.size_toArray, List.length_cons, List.length_nil]) <;> omega), by omega⟩ _ _
            · have h1 := hb.1
              have h2 := hb.2.1
              exact ⟨h1, by ((try simp only [size_alloc, sz_drew, size_upd, List.size_toArray, List.length_cons, List.length_nil]) <;> omega), hb.2.2⟩
            · have h1 := hb.1
              have h2 := hb.2.1
              have h3 := hb.2.2
              have hl := ltOf hc
              have hc2 := hf2.ext _ _ hc
              rw [hp_upd_other (by omega)]
              have hbp : b ≠ pb := by omega
              exact hX3.ext _ _ (SFr.keep hF3 (by simp (disch := first | assumption | omega | ((simp only [size_alloc, sz_drew, size_upd, List.size_toArray, List.length_cons, List.length_nil]) <;> omega) | decide) only [hp_alloc_old, hp_alloc_new, hp_upd_same, hp_upd_other, hp_drew, sz_drew, size_upd, size_alloc]; exact hc2) hbp (by decide))
            · have h1 := hb.1
              have h2 := hb.2
              rw [size_upd, size_upd, size_alloc] at h1
              exact ⟨by omega, by ((try simp only [size_alloc, sz_drew, size_upd, List.size_toArray, List.length_cons, List.length_nil]) <;> omega), by omega⟩
            · have h1 := hb.1
              rw [size_upd, size_upd, size_alloc] at h1
              rw [hp_upd_other (by omega)]
              exact hX3.ext _ _ hc
      · rw [ho] at hm
        simp only [Option.some.injEq] at hm
        have hend : ∀ {w3 : World}, Ext wl w3 → RPostX pb tb T d w r (.returned (.agg #[a, b, c, g, u])) (upd w3 w.heap.size (.cells #[a, b, c, g, u] 69)) := fun hf3 => by
          have s3 := hf3.size
          rw [← hm]
          refine ⟨_, _, _, _, _, rfl, ⟨o1, o2, o3, o4, o5, oh⟩, (hF.trans hf3.toM).upd (.inr (Nat.le_refl _)), IsRx.mono (fun b hb => ?_) (fun b cs hb hc => ?_) _ _ hx, (hPl.ext hf3).updT l1 (hf3.ext _ _ e0) (by decide)⟩
          · exact ⟨by have := hb.1; omega, by have := hb.2.1; rw [size_upd]; omega⟩
          · have := hb.1
            rw [hp_upd_other (by omega)]
            exact hf3.ext _ _ hc
        rcases hop with ⟨k4, ht1, ht2⟩ | ⟨k4, ht1⟩ | ⟨k4, k1⟩
        · simp (disch := first | assumption | omega | ((simp only [size_alloc, sz_drew, size_upd, List.size_toArray, List.length_cons, List.length_nil]) <;> omega) | decide) only [sh_Pr_parser_product, Pr, PX, PC, NX, ends, fillL, wrL, sOf, Nat.reduceAdd, Nat.reduceMul, Nat.reduceLeDiff, Nat.reduceEqDiff, Int.reduceToNat, Int.reduceAdd, Int.reduceLT, Int.reduceLE, ↓reduceIte, forall_const, eq_self, zG1, zG2, al_60, al_69, bd_69, br_34_2, fa_58_1, fa_58_4, fa_60_0, fa_60_1, ld_29, ld_3, ld_5, ld_69, ld_9, st_3, st_60, st_69, h3]
          refine Calls.mono (rNext hPl) ?_
          rintro e w2 ⟨rfl, hf2⟩
          have s2 := hf2.size
          have g1 := hf2.ext _ _ e1
          have g0 := hf2.ext _ _ e0
          rw [k4, show rk 4 = 115 from rfl]
          simp (disch := first | assumption | omega | ((simp only [size_alloc, sz_drew, size_upd, List.size_toArray, List.length_cons, List.length_nil]) <;> omega) | decide) only [sh_Pr_parser_product, Pr, PX, PC, NX, ends, fillL, wrL, sOf, Nat.reduceAdd, Nat.reduceMul, Nat.reduceLeDiff, Nat.reduceEqDiff, Int.reduceToNat, Int.reduceAdd, Int.reduceLT, Int.reduceLE, ↓reduceIte, forall_const, eq_self, zG1, zG2, al_60, al_69, bd_69, br_34_2, fa_58_1, fa_58_4, fa_60_0, fa_60_1, ld_29, ld_3, ld_5, ld_69, ld_9, st_3, st_60, st_69, g1, g0, o1, o2, o3, o4, o5]
          refine hend ?_
          (repeat (first | assumption | exact FrM.refl _ _ | (refine FrM.upd ?_ (.inr (by (try simp only [size_alloc, sz_drew, size_upd, List.size_toArray, List.length_cons, List.length_nil]) <;> omega))) | refine FrM.alloc ?_ _ | refine FrM.drew ?_))
        · simp (disch := first | assumption | omega | ((simp only [size_alloc, sz_drew, size_upd, List.size_toArray, List.length_cons, List.length_nil]) <;> omega) | decide) only [sh_Pr_parser_product, Pr, PX, PC, NX, ends, fillL, wrL, sOf, Nat.reduceAdd, Nat.reduceMul, Nat.reduceLeDiff, Nat.reduceEqDiff, Int.reduceToNat, Int.reduceAdd, Int.reduceLT, Int.reduceLE, ↓reduceIte, forall_const, eq_self, zG1, zG2, al_60, al_69, bd_69, br_34_2, fa_58_1, fa_58_4, fa_60_0, fa_60_1, ld_29, ld_3, ld_5, ld_69, ld_9, st_3, st_60, st_69, h3]
          refine Calls.mono (rNext hPl) ?_
          rintro e w2 ⟨rfl, hf2⟩
          have s2 := hf2.size
          have g1 := hf2.ext _ _ e1
          have g0 := hf2.ext _ _ e0
          rw [k4, show rk 1 = 97 from rfl]
          simp (disch := first | assumption | omega | ((simp only [size_alloc, sz_drew, size_upd, List.size_toArray, List.length_cons, List.length_nil]) <;> omega) | decide) only [sh_Pr_parser_product, Pr, PX, PC, NX, ends, fillL, wrL, sOf, Nat.reduceAdd, Nat.reduceMul, Nat.reduceLeDiff, Nat.reduceEqDiff, Int.reduceToNat, Int.reduceAdd, Int.reduceLT, Int.reduceLE, ↓reduceIte, forall_const, eq_self, zG1, zG2, al_60, al_69, bd_69, br_34_2, fa_58_1, fa_58_4, fa_60_0, fa_60_1, ld_29, ld_3, ld_5, ld_69, ld_9, st_3, st_60, st_69, g1, g0, o1, o2, o3, o4, o5]
          refine hend ?_
          (repeat (first | assumption | exact FrM.refl _ _ | (refine FrM.upd ?_ (.inr (by (try simp only [size_alloc, sz_drew, size_upd, List.size_toArray, List.length_cons, List.length_nil]) <;> omega))) | refine FrM.alloc ?_ _ | refine FrM.drew ?_))
        · have q1 : ¬ (rk (P.tk T k').kind : Int) = 115 := fun e => k4 ((rk_sign hx3.kind4).1 (by omega))
          have q2 : ¬ (rk (P.tk T k').kind : Int) = 97 := fun e => k1 ((rk_atom hx3.kind4).1 (by omega))
          have q3 := rk_small (P.tk T k').kind
          simp (disch := first | assumption | omega | ((simp only [size_alloc, sz_drew, size_upd, List.size_toArray, List.length_cons, List.length_nil]) <;> omega) | decide) only [sh_Pr_parser_product, Pr, PX, PC, NX, ends, fillL, wrL, sOf, Nat.reduceAdd, Nat.reduceMul, Nat.reduceLeDiff, Nat.reduceEqDiff, Int.reduceToNat, Int.reduceAdd, Int.reduceLT, Int.reduceLE, ↓reduceIte, forall_const, eq_self, zG1, zG2, al_60, al_69, bd_69, br_34_2, fa_58_1, fa_58_4, fa_60_0, fa_60_1, ld_29, ld_3, ld_5, ld_69, ld_9, st_3, st_60, st_69, h3]
          refine Calls.mono (rNext hPl) ?_
          rintro e w2 ⟨rfl, hf2⟩
          have s2 := hf2.size
          have g1 := hf2.ext _ _ e1
          have g0 := hf2.ext _ _ e0
          generalize hgq : rk (P.tk T k').kind = q at *
          simp (disch := first | assumption | omega | ((simp only [size_alloc, sz_drew, size_upd, List.size_toArray, List.length_cons, List.length_nil]) <;> omega) | decide) only [sh_Pr_parser_product, Pr, PX, PC, NX, ends, fillL, wrL, sOf, Nat.reduceAdd, Nat.reduceMul, Nat.reduceLeDiff, Nat.reduceEqDiff, Int.reduceToNat, Int.reduceAdd, Int.reduceLT, Int.reduceLE, ↓reduceIte, forall_const, eq_self, zG1, zG2, al_60, al_69, bd_69, br_34_2, fa_58_1, fa_58_4, fa_60_0, fa_60_1, ld_29, ld_3, ld_5, ld_69, ld_9, st_3, st_60, st_69, g1, g0, o1, o2, o3, o4, o5]
          refine hend ?_
          (repeat (first | assumption | exact FrM.refl _ _ | (refine FrM.upd ?_ (.inr (by (try simp only [size_alloc, sz_drew, size_upd, List.size_toArray, List.length_cons, List.length_nil]) <;> omega))) | refine FrM.alloc ?_ _ | refine FrM.drew ?_))
    · obtain ⟨lc3, vv3, hx3⟩ := id hPl
      have h3 := hx3.cell
      simp (disch := first | assumption | omega | ((simp only [size_alloc, sz_drew, size_upd, List.size_toArray, List.length_cons, List.length_nil]) <;> omega) | decide) only [sh_Pr_parser_product, Pr, PX, PC, NX, ends, fillL, wrL, sOf, Nat.reduceAdd, Nat.reduceMul, Nat.reduceLeDiff, Nat.reduceEqDiff, Int.reduceToNat, Int.reduceAdd, Int.reduceLT, Int.reduceLE, ↓reduceIte, forall_const, eq_self, zG1, zG2, al_60, al_69, bd_69, br_34_2, fa_58_1, fa_58_4, fa_60_0, fa_60_1, ld_29, ld_3, ld_5, ld_69, ld_9, st_3, st_60, st_69, h3, e0, e1, o1, o2, o3, o4, o5]
      exact ⟨_, _, _, _, _, rfl, ⟨o1, o2, o3, o4, o5, oh⟩, hF.upd (.inr (Nat.le_refl _)), hc, _, _, hPl.updT l1 e0 (by decide)⟩⟩
end Go.Proofs.YtkmpelgfhjgddaaGreatDoor
