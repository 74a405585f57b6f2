/- A part of one proof (RW11, RW12, RW13); no conditions beyond what each theorem names. -/
import Derived.Test.YtkmpelgfhjgddaaGreatDoorPkW
import Derived.Test.YtkmpelgfhjgddaaGreatDoorPkF
import Derived.Test.YtkmpelgfhjgddaaGreatDoorPkA
set_option linter.all false
set_option linter.unusedVariables false
set_option linter.unusedSimpArgs false
namespace Go.Proofs.YtkmpelgfhjgddaaGreatDoor
open Go.RowKit Sx
set_option maxRecDepth 100000
theorem rLit {f : Nat} (hB : RCGoal f) : RCLit (f + 1) := ⟨by
  intro pb tb T k vars d w r h hd hr
  obtain ⟨l1, hkt, hlT, h4⟩ := h.cs
  refine sh_Pr_parser_lit_ok ?_
  simp (disch := first | assumption | omega | ((simp only [size_alloc, sz_drew, size_upd, List.size_toArray, List.length_cons, List.length_nil]) <;> omega) | decide) only [sh_Pr_parser_lit, Pr, PX, PC, NX, ends, fillL, wrL, sOf, Nat.reduceAdd, Nat.reduceMul, Nat.reduceLeDiff, Nat.reduceEqDiff, Int.reduceToNat, Int.reduceAdd, Int.reduceLT, Int.reduceLE, ↓reduceIte, forall_const, eq_self, zG1, zG2, al_37, bd_37, fa_58_3, ld_3, ld_37, st_3, st_37]
  have hf0 : Ext w (upd ((w.alloc (.cells #[.int .u8 0, .string (bs []), .slice none 0 0, .slice none 0 0] 37)).alloc (.cells #[.int .u8 0, .string (bs []), .slice none 0 0, .slice none 0 0] 37)) (w.heap.size + 1) (.cells #[.int .u8 0, .string (bs []), .slice none 0 0, .slice none 0 0] 37)) := by (repeat (first | assumption | exact FrM.refl _ _ | (refine FrM.upd ?_ (.inr (by (try simp only [size_alloc, sz_drew, size_upd, List.size_toArray, List.length_cons, List.length_nil]) <;> omega))) | refine FrM.alloc ?_ _ | refine FrM.drew ?_))
  by_cases h8 : d + 1 ≤ 8
  · refine Calls.mono (rEnter_ok (h.ext hf0) (by omega) (by omega)) ?_
    rintro e w1 ⟨rfl, hP1, hF1⟩
    simp (disch := first | assumption | omega | ((simp only [size_alloc, sz_drew, size_upd, List.size_toArray, List.length_cons, List.length_nil]) <;> omega) | decide) only [sh_Pr_parser_lit, Pr, PX, PC, NX, ends, fillL, wrL, sOf, Nat.reduceAdd, Nat.reduceMul, Nat.reduceLeDiff, Nat.reduceEqDiff, Int.reduceToNat, Int.reduceAdd, Int.reduceLT, Int.reduceLE, ↓reduceIte, forall_const, eq_self, zG1, zG2, al_37, bd_37, fa_58_3, ld_3, ld_37, st_3, st_37]
    have s1 := hF1.size
    rw [size_upd, size_alloc, size_alloc] at s1
    have c0 : w1.heap[w.heap.size]? = some (.cells #[.int .u8 0, .string (bs []), .slice none 0 0, .slice none 0 0] 37 (0, 0)) := SFr.keep hF1 (by simp (disch := first | assumption | omega | ((simp only [size_alloc, sz_drew, size_upd, List.size_toArray, List.length_cons, List.length_nil]) <;> omega) | decide) only [hp_alloc_old, hp_alloc_new, hp_upd_same, hp_upd_other, hp_drew, sz_drew, size_upd, size_alloc]) (by omega) (by decide)
    have c1 : w1.heap[w.heap.size + 1]? = some (.cells #[.int .u8 0, .string (bs []), .slice none 0 0, .slice none 0 0] 37 (0, 0)) := SFr.keep hF1 (by simp (disch := first | assumption | omega | ((simp only [size_alloc, sz_drew, size_upd, List.size_toArray, List.length_cons, List.length_nil]) <;> omega) | decide) only [hp_alloc_old, hp_alloc_new, hp_upd_same, hp_upd_other, hp_drew, sz_drew, size_upd, size_alloc]) (by omega) (by decide)
    refine Calls.mono (hB.go (d := d) hP1 h8 hr) ?_
    rintro e w2 ⟨a, b, c, g, rfl, ⟨o1, o2, o3, o4⟩, hF2, hst⟩
    have s2 := hF2.size
    have d0 := SFr.keep hF2 c0 (by omega) (by decide)
    have d1 := SFr.keep hF2 c1 (by omega) (by decide)
    obtain ⟨k2, vs2, c2, a2, hP2, hfin⟩ := rStB_RP hst
    obtain ⟨lc2, vv2, hx2⟩ := id hP2
    have h3 := hx2.cell
    simp (disch := first | assumption | omega | ((simp only [size_alloc, sz_drew, size_upd, List.size_toArray, List.length_cons, List.length_nil]) <;> omega) | decide) only [sh_Pr_parser_lit, Pr, PX, PC, NX, ends, fillL, wrL, sOf, Nat.reduceAdd, Nat.reduceMul, Nat.reduceLeDiff, Nat.reduceEqDiff, Int.reduceToNat, Int.reduceAdd, Int.reduceLT, Int.reduceLE, ↓reduceIte, forall_const, eq_self, zG1, zG2, al_37, bd_37, fa_58_3, ld_3, ld_37, st_3, st_37, d0, d1, h3, o1, o2, o3, o4]
    have ed : ((d + 1 : Nat) : Int) - 1 = d := by omega
    rw [ed]
    have hRP := RP.of (((hx2.updT (q := w.heap.size + 1) (o := .cells #[a, b, c, g] 37 (0, 0)) (by omega) d1 (by decide))).set (k' := k2) (kz := k2) (d' := d) (er' := c2) (at' := a2) hx2.kt (by omega) rfl (fun h => h))
    refine ⟨_, _, _, _, rfl, ⟨o1, o2, o3, o4⟩, (((((hf0.toM.trans hF1).trans hF2).upd (.inr (by omega))).upd (.inl fun _ => .inl rfl)).upd (.inr (by omega))),
      hfin d (by omega) (by ((try simp only [size_alloc, sz_drew, size_upd, List.size_toArray, List.length_cons, List.length_nil]) <;> omega)) (fun b' cs hb hc => ?_) (fun b' cs hb hc => ?_) (hRP.updT (by omega) (by simp (disch := first | assumption | omega | ((simp only [size_alloc, sz_drew, size_upd, List.size_toArray, List.length_cons, List.length_nil]) <;> omega) | decide) only [hp_alloc_old, hp_alloc_new, hp_upd_same, hp_upd_other, hp_drew, sz_drew, size_upd, size_alloc]; exact d0) (by decide))⟩
    all_goals
      have hb1 := hb.1
      rw [hp_upd_other (by omega), hp_upd_other (by omega), hp_upd_other (by omega)]
      exact hc
  · have hd8 : d = 8 := by omega
    rw [P.pLit, if_pos (by unfold P.maxDepth; omega)] at hr
    obtain rfl := (Option.some.inj hr).symm
    refine Calls.mono (rEnter_deep (h.ext hf0) (by omega) (by omega)) ?_
    rintro e w1 ⟨rfl, hP1, hF1⟩
    have s1 := hF1.size
    rw [size_upd, size_alloc, size_alloc] at s1
    have c0 : w1.heap[w.heap.size]? = some (.cells #[.int .u8 0, .string (bs []), .slice none 0 0, .slice none 0 0] 37 (0, 0)) := SFr.keep hF1 (by simp (disch := first | assumption | omega | ((simp only [size_alloc, sz_drew, size_upd, List.size_toArray, List.length_cons, List.length_nil]) <;> omega) | decide) only [hp_alloc_old, hp_alloc_new, hp_upd_same, hp_upd_other, hp_drew, sz_drew, size_upd, size_alloc]) (by omega) (by decide)
    have c1 : w1.heap[w.heap.size + 1]? = some (.cells #[.int .u8 0, .string (bs []), .slice none 0 0, .slice none 0 0] 37 (0, 0)) := SFr.keep hF1 (by simp (disch := first | assumption | omega | ((simp only [size_alloc, sz_drew, size_upd, List.size_toArray, List.length_cons, List.length_nil]) <;> omega) | decide) only [hp_alloc_old, hp_alloc_new, hp_upd_same, hp_upd_other, hp_drew, sz_drew, size_upd, size_alloc]) (by omega) (by decide)
    obtain ⟨lc2, vv2, hx2⟩ := id hP1
    have h3 := hx2.cell
    simp (disch := first | assumption | omega | ((simp only [size_alloc, sz_drew, size_upd, List.size_toArray, List.length_cons, List.length_nil]) <;> omega) | decide) only [sh_Pr_parser_lit, Pr, PX, PC, NX, ends, fillL, wrL, sOf, Nat.reduceAdd, Nat.reduceMul, Nat.reduceLeDiff, Nat.reduceEqDiff, Int.reduceToNat, Int.reduceAdd, Int.reduceLT, Int.reduceLE, ↓reduceIte, forall_const, eq_self, zG1, zG2, al_37, bd_37, fa_58_3, ld_3, ld_37, st_3, st_37, c0, c1, h3]
    have ed : ((d : Nat) : Int) + 1 - 1 = d := by omega
    rw [ed]
    exact ⟨_, _, _, _, rfl, ⟨rfl, rfl, rfl, rfl⟩, ((hf0.toM.trans hF1).upd (.inl fun _ => .inl rfl)).upd (.inr (by omega)), by decide, _, _,
      (RP.of (hx2.set (k' := k) (kz := k) (d' := d) (er' := 4) (at' := (P.tk T k).pos) hx2.kt (by omega) rfl (fun h => h))).updT (by omega) (by simp (disch := first | assumption | omega | ((simp only [size_alloc, sz_drew, size_upd, List.size_toArray, List.length_cons, List.length_nil]) <;> omega) | decide) only [hp_alloc_old, hp_alloc_new, hp_upd_same, hp_upd_other, hp_drew, sz_drew, size_upd, size_alloc]; exact c0) (by decide)⟩⟩
theorem rRest {f : Nat} (hB : RCBody f) : RCRest (f + 1) := ⟨by
  intro pb tb T k vars d w r h hd hr
  obtain ⟨l1, hkt, hlT, h4⟩ := h.cs
  refine sh_Pr_parser_rest_ok ?_
  simp (disch := first | assumption | omega | ((simp only [size_alloc, sz_drew, size_upd, List.size_toArray, List.length_cons, List.length_nil]) <;> omega) | decide) only [sh_Pr_parser_rest, Pr, PX, PC, NX, ends, fillL, wrL, sOf, Nat.reduceAdd, Nat.reduceMul, Nat.reduceLeDiff, Nat.reduceEqDiff, Int.reduceToNat, Int.reduceAdd, Int.reduceLT, Int.reduceLE, ↓reduceIte, forall_const, eq_self, zG1, zG2, al_37, bd_37, fa_58_3, ld_3, ld_37, st_3, st_37]
  have hf0 : Ext w (upd ((w.alloc (.cells #[.int .u8 0, .string (bs []), .slice none 0 0, .slice none 0 0] 37)).alloc (.cells #[.int .u8 0, .string (bs []), .slice none 0 0, .slice none 0 0] 37)) (w.heap.size + 1) (.cells #[.int .u8 0, .string (bs []), .slice none 0 0, .slice none 0 0] 37)) := by (repeat (first | assumption | exact FrM.refl _ _ | (refine FrM.upd ?_ (.inr (by (try simp only [size_alloc, sz_drew, size_upd, List.size_toArray, List.length_cons, List.length_nil]) <;> omega))) | refine FrM.alloc ?_ _ | refine FrM.drew ?_))
  by_cases h8 : d + 1 ≤ 8
  · refine Calls.mono (rEnter_ok (h.ext hf0) (by omega) (by omega)) ?_
    rintro e w1 ⟨rfl, hP1, hF1⟩
    simp (disch := first | assumption | omega | ((simp only [size_alloc, sz_drew, size_upd, List.size_toArray, List.length_cons, List.length_nil]) <;> omega) | decide) only [sh_Pr_parser_rest, Pr, PX, PC, NX, ends, fillL, wrL, sOf, Nat.reduceAdd, Nat.reduceMul, Nat.reduceLeDiff, Nat.reduceEqDiff, Int.reduceToNat, Int.reduceAdd, Int.reduceLT, Int.reduceLE, ↓reduceIte, forall_const, eq_self, zG1, zG2, al_37, bd_37, fa_58_3, ld_3, ld_37, st_3, st_37]
    have s1 := hF1.size
    rw [size_upd, size_alloc, size_alloc] at s1
    have c0 : w1.heap[w.heap.size]? = some (.cells #[.int .u8 0, .string (bs []), .slice none 0 0, .slice none 0 0] 37 (0, 0)) := SFr.keep hF1 (by simp (disch := first | assumption | omega | ((simp only [size_alloc, sz_drew, size_upd, List.size_toArray, List.length_cons, List.length_nil]) <;> omega) | decide) only [hp_alloc_old, hp_alloc_new, hp_upd_same, hp_upd_other, hp_drew, sz_drew, size_upd, size_alloc]) (by omega) (by decide)
    have c1 : w1.heap[w.heap.size + 1]? = some (.cells #[.int .u8 0, .string (bs []), .slice none 0 0, .slice none 0 0] 37 (0, 0)) := SFr.keep hF1 (by simp (disch := first | assumption | omega | ((simp only [size_alloc, sz_drew, size_upd, List.size_toArray, List.length_cons, List.length_nil]) <;> omega) | decide) only [hp_alloc_old, hp_alloc_new, hp_upd_same, hp_upd_other, hp_drew, sz_drew, size_upd, size_alloc]) (by omega) (by decide)
    rw [P.pRest, if_neg (by unfold P.maxDepth; omega)] at hr
    refine Calls.mono (hB.go (d := d + 1) hP1 h8 hr) ?_
    rintro e w2 ⟨a, b, c, g, rfl, ⟨o1, o2, o3, o4⟩, hF2, hst⟩
    have s2 := hF2.size
    have d0 := SFr.keep hF2 c0 (by omega) (by decide)
    have d1 := SFr.keep hF2 c1 (by omega) (by decide)
    obtain ⟨k2, vs2, c2, a2, hP2, hfin⟩ := rStB_RP hst
    obtain ⟨lc2, vv2, hx2⟩ := id hP2
    have h3 := hx2.cell
    simp (disch := first | assumption | omega | ((simp only [size_alloc, sz_drew, size_upd, List.size_toArray, List.length_cons, List.length_nil]) <;> omega) | decide) only [sh_Pr_parser_rest, Pr, PX, PC, NX, ends, fillL, wrL, sOf, Nat.reduceAdd, Nat.reduceMul, Nat.reduceLeDiff, Nat.reduceEqDiff, Int.reduceToNat, Int.reduceAdd, Int.reduceLT, Int.reduceLE, ↓reduceIte, forall_const, eq_self, zG1, zG2, al_37, bd_37, fa_58_3, ld_3, ld_37, st_3, st_37, d0, d1, h3, o1, o2, o3, o4]
    have ed : ((d + 1 : Nat) : Int) - 1 = d := by omega
    rw [ed]
    have hRP := RP.of (((hx2.updT (q := w.heap.size + 1) (o := .cells #[a, b, c, g] 37 (0, 0)) (by omega) d1 (by decide))).set (k' := k2) (kz := k2) (d' := d) (er' := c2) (at' := a2) hx2.kt (by omega) rfl (fun h => h))
    refine ⟨_, _, _, _, rfl, ⟨o1, o2, o3, o4⟩, (((((hf0.toM.trans hF1).trans hF2).upd (.inr (by omega))).upd (.inl fun _ => .inl rfl)).upd (.inr (by omega))),
      hfin d (by omega) (by ((try simp only [size_alloc, sz_drew, size_upd, List.size_toArray, List.length_cons, List.length_nil]) <;> omega)) (fun b' cs hb hc => ?_) (fun b' cs hb hc => ?_) (hRP.updT (by omega) (by simp (disch := first | assumption | omega | ((simp only [size_alloc, sz_drew, size_upd, List.size_toArray, List.length_cons, List.length_nil]) <;> omega) | decide) only [hp_alloc_old, hp_alloc_new, hp_upd_same, hp_upd_other, hp_drew, sz_drew, size_upd, size_alloc]; exact d0) (by decide))⟩
    all_goals
      have hb1 := hb.1
      rw [hp_upd_other (by omega), hp_upd_other (by omega), hp_upd_other (by omega)]
      exact hc
  · have hd8 : d = 8 := by omega
    rw [P.pRest, if_pos (by unfold P.maxDepth; omega)] at hr
    obtain rfl := (Option.some.inj hr).symm
    refine Calls.mono (rEnter_deep (h.ext hf0) (by omega) (by omega)) ?_
    rintro e w1 ⟨rfl, hP1, hF1⟩
    have s1 := hF1.size
    rw [size_upd, size_alloc, size_alloc] at s1
    have c0 : w1.heap[w.heap.size]? = some (.cells #[.int .u8 0, .string (bs []), .slice none 0 0, .slice none 0 0] 37 (0, 0)) := SFr.keep hF1 (by simp (disch := first | assumption | omega | ((simp only [size_alloc, sz_drew, size_upd, List.size_toArray, List.length_cons, List.length_nil]) <;> omega) | decide) only [hp_alloc_old, hp_alloc_new, hp_upd_same, hp_upd_other, hp_drew, sz_drew, size_upd, size_alloc]) (by omega) (by decide)
    have c1 : w1.heap[w.heap.size + 1]? = some (.cells #[.int .u8 0, .string (bs []), .slice none 0 0, .slice none 0 0] 37 (0, 0)) := SFr.keep hF1 (by simp (disch := first | assumption | omega | ((simp only [size_alloc, sz_drew, size_upd, List.size_toArray, List.length_cons, List.length_nil]) <;> omega) | decide) only [hp_alloc_old, hp_alloc_new, hp_upd_same, hp_upd_other, hp_drew, sz_drew, size_upd, size_alloc]) (by omega) (by decide)
    obtain ⟨lc2, vv2, hx2⟩ := id hP1
    have h3 := hx2.cell
    simp (disch := first | assumption | omega | ((simp only [size_alloc, sz_drew, size_upd, List.size_toArray, List.length_cons, List.length_nil]) <;> omega) | decide) only [sh_Pr_parser_rest, Pr, PX, PC, NX, ends, fillL, wrL, sOf, Nat.reduceAdd, Nat.reduceMul, Nat.reduceLeDiff, Nat.reduceEqDiff, Int.reduceToNat, Int.reduceAdd, Int.reduceLT, Int.reduceLE, ↓reduceIte, forall_const, eq_self, zG1, zG2, al_37, bd_37, fa_58_3, ld_3, ld_37, st_3, st_37, c0, c1, h3]
    have ed : ((d : Nat) : Int) + 1 - 1 = d := by omega
    rw [ed]
    exact ⟨_, _, _, _, rfl, ⟨rfl, rfl, rfl, rfl⟩, ((hf0.toM.trans hF1).upd (.inl fun _ => .inl rfl)).upd (.inr (by omega)), by decide, _, _,
      (RP.of (hx2.set (k' := k) (kz := k) (d' := d) (er' := 4) (at' := (P.tk T k).pos) hx2.kt (by omega) rfl (fun h => h))).updT (by omega) (by simp (disch := first | assumption | omega | ((simp only [size_alloc, sz_drew, size_upd, List.size_toArray, List.length_cons, List.length_nil]) <;> omega) | decide) only [hp_alloc_old, hp_alloc_new, hp_upd_same, hp_upd_other, hp_drew, sz_drew, size_upd, size_alloc]; exact c0) (by decide)⟩⟩
end Go.Proofs.YtkmpelgfhjgddaaGreatDoor
namespace Go.Proofs.YtkmpelgfhjgddaaGreatDoor
open Go.RowKit Sx
set_option maxRecDepth 100000
theorem own_four {w : World} {base : Nat} {v : Value} {m : Nat} {xs : List Value} (h : w.ownsRow base 37 4 v m xs) {i : Nat} (hi : i < m) (h1 : ∀ u ∈ xs, u.oneCell' = true) :
    ∃ g cap cur a0 a1 a2 a3, v = .slice (some ⟨g, 0, none⟩) m cap ∧ w.heap[g]? = some (.cells cur 37 (0, 0)) ∧ i * 4 + 4 ≤ cur.size ∧ (cur.toList.drop (i * 4)).take 4 = [a0, a1, a2, a3] ∧
      (xs.drop (4 * i)).take 4 = [a0, a1, a2, a3] ∧ a0.oneCell' = true ∧ a1.oneCell' = true ∧ a2.oneCell' = true ∧ a3.oneCell' = true := by
  obtain ⟨hl, h⟩ := h
  rcases h with ⟨_, rfl⟩ | ⟨g, cap, cur, rfl, g1, g2, g3, g4, g5, g6⟩
  · omega
  have hms : m * 4 ≤ cur.size := by rw [g5]; exact Nat.mul_le_mul_right _ g3
  have e1 : (xs.drop (4 * i)).take 4 = (cur.toList.drop (i * 4)).take 4 := by
    rw [← g6, List.drop_take, List.take_take, Nat.mul_comm 4 i]
    congr 1
    omega
  have e2 : ((cur.toList.drop (i * 4)).take 4).length = 4 := by
    simp
    omega
  have hone : ∀ u ∈ (cur.toList.drop (i * 4)).take 4, u.oneCell' = true := fun u hu => by
    rw [← e1] at hu
    exact h1 u (List.mem_of_mem_drop (List.mem_of_mem_take hu))
  match hq : (cur.toList.drop (i * 4)).take 4, e2 with
  | [a0, a1, a2, a3], _ =>
    rw [hq] at hone e1
    exact ⟨g, cap, cur, a0, a1, a2, a3, rfl, g2, by omega, hq, e1, hone _ (by simp), hone _ (by simp), hone _ (by simp), hone _ (by simp)⟩
set_option maxHeartbeats 1000000 in
theorem rRow {f : Nat} (hE : ∀ g, g < f + 1 → RCLit g) : RCRow (f + 1) := ⟨by
  intro pb tb T k vars d w r h hd hr
  obtain ⟨l1, hkt, hlT, h4⟩ := h.cs
  rw [P.pRow] at hr
  cases hq : P.pLits T f k vars d [] with
  | none => rw [hq] at hr; simp [P.Res.bind] at hr
  | some q =>
  rw [hq] at hr
  refine sh_Pr_parser_row_ok ?_
  simp (disch := first | assumption | omega | ((simp only [size_alloc, sz_drew, size_upd, List.size_toArray, List.length_cons, List.length_nil]) <;> omega) | decide) only [sh_Pr_parser_row, Pr, PX, PC, NX, ends, fillL, wrL, sOf, Nat.reduceAdd, Nat.reduceMul, Nat.reduceLeDiff, Nat.reduceEqDiff, Int.reduceToNat, Int.reduceAdd, Int.reduceLT, Int.reduceLE, ↓reduceIte, forall_const, eq_self, zG1, zG2, al_37, bd_37, br_35_1, ix_35, ld_37, ln_35, st_37]
  have hf0 : Ext w (w.alloc (.cells #[.int .u8 0, .string (bs []), .slice none 0 0, .slice none 0 0] 37)) := by (repeat (first | assumption | exact FrM.refl _ _ | (refine FrM.upd ?_ (.inr (by (try simp only [size_alloc, sz_drew, size_upd, List.size_toArray, List.length_cons, List.length_nil]) <;> omega))) | refine FrM.alloc ?_ _ | refine FrM.drew ?_))
  have hpb : pb < (w.alloc (.cells #[.int .u8 0, .string (bs []), .slice none 0 0, .slice none 0 0] 37)).heap.size := by ((try simp only [size_alloc, sz_drew, size_upd, List.size_toArray, List.length_cons, List.length_nil]) <;> omega)
  have c0 : (w.alloc (.cells #[.int .u8 0, .string (bs []), .slice none 0 0, .slice none 0 0] 37)).heap[w.heap.size]? = some (.cells #[.int .u8 0, .string (bs []), .slice none 0 0, .slice none 0 0] 37 (0, 0)) := blk_alloc_new w _
  generalize hwB : w.alloc (.cells #[.int .u8 0, .string (bs []), .slice none 0 0, .slice none 0 0] 37) = wB at *
  have hsB := hf0.size
  have lc0 := ltOf c0
  refine ⟨fun n s w1 => RFr pb wB w1 ∧
      ((s 4 = .bool true ∧ ∃ f' k' vs acc, n = f' + 1 ∧ f' ≤ f ∧ acc.length ≤ k' ∧ P.pLits T f' k' vs d acc = some q ∧ RowB wB w1 (s 3) acc ∧ RP w1 pb tb T k' vs d 0 0) ∨
      (s 4 = .bool false ∧ n = 0 ∧ ∃ m xs, w1.ownsRow wB.heap.size 37 4 (s 3) m xs ∧ (∀ u ∈ xs, u.oneCell' = true) ∧ m ≤ 100000 ∧
        ((∃ k' vs acc, m = acc.length ∧ q = .ok acc k' vs ∧ RowB wB w1 (s 3) acc ∧ RP w1 pb tb T k' vs d 0 0) ∨ (∃ c a k' vs, q = .err c a ∧ c ≠ 0 ∧ RP w1 pb tb T k' vs d c a)))),
    ⟨f + 1, FrM.refl _ _, .inl ⟨rfl, f, k, vars, [], rfl, Nat.le_refl _, Nat.zero_le _, hq, RowB.nil wB, h.ext hf0⟩⟩, ?_⟩
  intro n s dd w1 hI
  refine toPr ?_
  rcases hI with ⟨hF, ⟨h6, f', k', vs, acc, rfl, hf', hak, hp, hrow, hP⟩ | ⟨h6, rfl, m, xs, hown, hone, hm, hfin⟩⟩
  · cases f' with
    | zero => simp [P.pLits] at hp
    | succ f' =>
    rw [P.pLits] at hp
    have hkt : k' < T.length := by obtain ⟨_, _, hx⟩ := id hP; exact hx.kt
    have hs1 := hF.size
    cases hq2 : P.pLit T f' k' vs d with
    | none => rw [hq2] at hp; simp [P.Res.bind] at hp
    | some q2 =>
    rw [hq2] at hp
    simp (disch := first | assumption | omega | ((simp only [size_alloc, sz_drew, size_upd, List.size_toArray, List.length_cons, List.length_nil]) <;> omega) | decide) only [sh_Pr_parser_row, Pr, PX, PC, NX, ends, fillL, wrL, sOf, Nat.reduceAdd, Nat.reduceMul, Nat.reduceLeDiff, Nat.reduceEqDiff, Int.reduceToNat, Int.reduceAdd, Int.reduceLT, Int.reduceLE, ↓reduceIte, forall_const, eq_self, zG1, zG2, al_37, bd_37, br_35_1, ix_35, ld_37, ln_35, st_37, h6]
    refine ((hE f' (by omega)).go hP hd hq2).mono ?_
    rintro e w2 ⟨a, b, c, g, rfl, ⟨o1, o2, o3, o4⟩, hF2, hst⟩
    have hs2 := hF2.size
    obtain ⟨xs0, ho0, hi0⟩ := id hrow.own
    have hrow2 : w2.ownsRow wB.heap.size 37 4 (s 3) acc.length xs0 := own_fr hF2 ho0 hpb (by decide)
    simp (disch := first | assumption | omega | ((simp only [size_alloc, sz_drew, size_upd, List.size_toArray, List.length_cons, List.length_nil]) <;> omega) | decide) only [sh_Pr_parser_row, Pr, PX, PC, NX, ends, fillL, wrL, sOf, Nat.reduceAdd, Nat.reduceMul, Nat.reduceLeDiff, Nat.reduceEqDiff, Int.reduceToNat, Int.reduceAdd, Int.reduceLT, Int.reduceLE, ↓reduceIte, forall_const, eq_self, zG1, zG2, al_37, bd_37, br_35_1, ix_35, ld_37, ln_35, st_37, o1, o2, o3, o4]
    have hx3 : Ext w2 ((upd (w2.alloc (.cells #[.int .u8 0, .string (bs []), .slice none 0 0, .slice none 0 0] 37)) w2.heap.size (.cells #[a, b, c, g] 37)).alloc (.cells #[a, b, c, g] 37)) :=
      (((FrM.refl _ _).alloc _).upd (.inr (Nat.le_refl _))).alloc _
    refine wr_appendB (base := wB.heap.size) (n := acc.length) (own_ext hx3.ext hrow2) (hp_alloc_new (by rw [size_upd, size_alloc])) ⟨o1, o2, o3, o4⟩ (by omega) (by have := hx3.size; omega) ?_
    intro v' w4 hown4 hg4 hv4
    have hF4 : RFr pb wB w4 := (((hF.trans hF2).trans hx3.toM)).grow hg4 (fun k hk => (hrow2.lt k hk).1)
    have hone4 : ∀ u' ∈ xs0 ++ [a, b, c, g], u'.oneCell' = true := fun u' hu => by
      simp only [List.mem_append, List.mem_cons, List.not_mem_nil, or_false] at hu
      rcases hu with hu | rfl | rfl | rfl | rfl
      · exact IsRbs.one hi0 _ hu
      · exact o1
      · exact o2
      · exact o3
      · exact o4
    cases q2 with
    | err c0 a0 =>
      obtain ⟨hc0, k2, vs2, hP2⟩ := hst
      simp only [P.Res.bind, Option.some.injEq] at hp
      have hP4 := (hP2.ext hx3).grow (own_ext hx3.ext hrow2) (by decide) hpb hg4
      refine (rIs_no hP4 [44] (.inl hc0)).mono ?_
      rintro e w5 ⟨rfl, hP5, hF5⟩
      simp (disch := first | assumption | omega | ((simp only [size_alloc, sz_drew, size_upd, List.size_toArray, List.length_cons, List.length_nil]) <;> omega) | decide) only [sh_Pr_parser_row, Pr, PX, PC, NX, ends, fillL, wrL, sOf, Nat.reduceAdd, Nat.reduceMul, Nat.reduceLeDiff, Nat.reduceEqDiff, Int.reduceToNat, Int.reduceAdd, Int.reduceLT, Int.reduceLE, ↓reduceIte, forall_const, eq_self, zG1, zG2, al_37, bd_37, br_35_1, ix_35, ld_37, ln_35, st_37]
      exact ⟨0, Nat.succ_pos _, hF4.trans hF5, .inr ⟨rfl, _, _, own_fr hF5 hown4 hpb (by decide), hone4, by omega, .inr ⟨c0, a0, k2, vs2, hp.symm, hc0, hP5⟩⟩⟩
    | ok x k2 vs2 =>
      obtain ⟨hx, hP2⟩ := hst
      have hk2 := (P.monoB T f').lit _ _ _ _ _ _ hq2
      have hP4 := (hP2.ext hx3).grow (own_ext hx3.ext hrow2) (by decide) hpb hg4
      have hrow4 : RowB wB w4 v' (acc ++ [x]) := hrow.more hF2 hpb hx hs1 hx3 (own_ext hx3.ext hrow2) hown4 hg4 hv4
      simp only [P.Res.bind] at hp
      have hmn : ∀ {w5 : World}, RFr pb w4 w5 → RowB wB w5 v' (acc ++ [x]) := fun hF5 => by
        obtain ⟨xs, p1, p2⟩ := hrow4.own
        have := hF5.size
        exact ⟨xs, own_fr hF5 p1 hpb (by decide), IsRbs.mono (fun b hb => ⟨hb.1, by have := hb.2.1; omega, hb.2.2⟩) (RFr.keeps hF5 (fun b hb => by have := hb.1; omega) (by decide)) (RFr.keeps hF5 (fun b hb => by have := hb.1; omega) (by decide)) _ _ p2⟩
      by_cases hc : P.isT T k2 [44] = true
      · rw [if_pos hc] at hp
        refine (rIs_yes hP4 [44] hc).mono ?_
        rintro e w5 ⟨rfl, hP5, hF5⟩
        simp (disch := first | assumption | omega | ((simp only [size_alloc, sz_drew, size_upd, List.size_toArray, List.length_cons, List.length_nil]) <;> omega) | decide) only [sh_Pr_parser_row, Pr, PX, PC, NX, ends, fillL, wrL, sOf, Nat.reduceAdd, Nat.reduceMul, Nat.reduceLeDiff, Nat.reduceEqDiff, Int.reduceToNat, Int.reduceAdd, Int.reduceLT, Int.reduceLE, ↓reduceIte, forall_const, eq_self, zG1, zG2, al_37, bd_37, br_35_1, ix_35, ld_37, ln_35, st_37]
        exact ⟨f' + 1, by omega, hF4.trans hF5, .inl ⟨f', k2 + 1, vs2, acc ++ [x], rfl, by omega, by simp; omega, hp, hmn hF5, hP5⟩⟩
      · rw [if_neg hc] at hp
        refine (rIs_no hP4 [44] (.inr (by simpa using hc))).mono ?_
        rintro e w5 ⟨rfl, hP5, hF5⟩
        simp (disch := first | assumption | omega | ((simp only [size_alloc, sz_drew, size_upd, List.size_toArray, List.length_cons, List.length_nil]) <;> omega) | decide) only [sh_Pr_parser_row, Pr, PX, PC, NX, ends, fillL, wrL, sOf, Nat.reduceAdd, Nat.reduceMul, Nat.reduceLeDiff, Nat.reduceEqDiff, Int.reduceToNat, Int.reduceAdd, Int.reduceLT, Int.reduceLE, ↓reduceIte, forall_const, eq_self, zG1, zG2, al_37, bd_37, br_35_1, ix_35, ld_37, ln_35, st_37]
        exact ⟨0, Nat.succ_pos _, hF4.trans hF5, .inr ⟨rfl, _, _, own_fr hF5 hown4 hpb (by decide), hone4, by omega, .inl ⟨k2, vs2, acc ++ [x], by simp, (Option.some.inj hp).symm, hmn hF5, hP5⟩⟩⟩
  · have hs1 := hF.size
    have d0 := SFr.keep hF c0 (by omega) (by decide)
    have ld0 := ltOf d0
    have hFw : RFr pb w w1 := hf0.toM.trans hF
    obtain ⟨a0, c0', hs3⟩ := own_slice hown
    by_cases hm1 : m = 1
    · subst hm1
      obtain ⟨gb, cap, cur, v0, v1, v2, v3, hv, g2, g3, g4, g5, p0, p1, p2, p3⟩ := own_four hown (i := 0) (by omega) hone
      have lg2 := ltOf g2
      rw [Nat.zero_mul, List.drop_zero] at g4
      simp (disch := first | assumption | omega | ((simp only [size_alloc, sz_drew, size_upd, List.size_toArray, List.length_cons, List.length_nil]) <;> omega) | decide) only [sh_Pr_parser_row, Pr, PX, PC, NX, ends, fillL, wrL, sOf, Nat.reduceAdd, Nat.reduceMul, Nat.reduceLeDiff, Nat.reduceEqDiff, Int.reduceToNat, Int.reduceAdd, Int.reduceLT, Int.reduceLE, ↓reduceIte, forall_const, eq_self, zG1, zG2, al_37, bd_37, br_35_1, ix_35, ld_37, ln_35, st_37, h6, hv, g2, g4, d0, p0, p1, p2, p3]
      refine ⟨_, _, _, _, rfl, ⟨p0, p1, p2, p3⟩, hFw.upd (.inr (Nat.le_refl _)), ?_⟩
      rcases hfin with ⟨k', vs, acc, hacc, rfl, hrow, hP⟩ | ⟨c, a, k', vs, rfl, hc, hP⟩
      · obtain ⟨b, rfl⟩ : ∃ b, acc = [b] := List.length_eq_one_iff.1 hacc.symm
        simp only [P.Res.bind, Option.some.injEq] at hr
        rw [← hr]
        obtain ⟨xs', q1, q2⟩ := hrow.own
        have hxx := ownsRow_det hown q1
        subst hxx
        have hbx : IsRb (Fx wB w1 (s 3)) w1 [v0, v1, v2, v3] b := by
          unfold IsRbs at q2
          obtain ⟨l, r', rfl, q3, q4⟩ := q2
          obtain ⟨e0, e1, e2, e3, rfl, -⟩ := q3.len
          have e : [v0, v1, v2, v3] = [e0, e1, e2, e3] := by rw [← g5]; rfl
          rw [e]; exact q3
        refine ⟨IsRb.mono (fun i hi => ?_) (fun i cs hi hc => ?_) (fun i cs hi hc => ?_) _ _ hbx, hP.updT l1 d0 (by decide)⟩
        · exact ⟨by have := hi.1; omega, by rw [size_upd]; exact hi.2.1⟩
        · rw [hp_upd_other (by have := hi.1; omega)]; exact hc
        · rw [hp_upd_other (by have := hi.1; omega)]; exact hc
      · simp only [P.Res.bind, Option.some.injEq] at hr
        rw [← hr]
        exact ⟨hc, _, _, hP.updT l1 d0 (by decide)⟩
    · simp (disch := first | assumption | omega | ((simp only [size_alloc, sz_drew, size_upd, List.size_toArray, List.length_cons, List.length_nil]) <;> omega) | decide) only [sh_Pr_parser_row, Pr, PX, PC, NX, ends, fillL, wrL, sOf, Nat.reduceAdd, Nat.reduceMul, Nat.reduceLeDiff, Nat.reduceEqDiff, Int.reduceToNat, Int.reduceAdd, Int.reduceLT, Int.reduceLE, ↓reduceIte, forall_const, eq_self, zG1, zG2, al_37, bd_37, br_35_1, ix_35, ld_37, ln_35, st_37, h6, hs3, d0]
      refine ⟨_, _, _, _, rfl, ⟨rfl, rfl, rfl, rfl⟩, hFw.upd (.inr (Nat.le_refl _)), ?_⟩
      rcases hfin with ⟨k', vs, acc, rfl, rfl, hrow, hP⟩ | ⟨c, a, k', vs, rfl, hc, hP⟩
      · have hr2 : r = .ok (.mk 44 [] [] acc) k' vs := by
          simp only [P.Res.bind, Option.some.injEq] at hr
          rw [← hr]
          match acc, hm1 with
          | [], _ => rfl
          | [b], h => exact absurd rfl h
          | b :: c :: l, _ => rfl
        rw [hr2]
        obtain ⟨xs', q1, q2⟩ := hrow.own
        have hk : ∀ t, Keeps (Fx wB w1 (s 3)) t w1 (upd w1 w.heap.size (.cells #[.int .u8 44, .string (bs []), .slice none 0 0, .slice a0 acc.length c0'] 37)) := fun t i cs hi hc => by
          rw [hp_upd_other (by have := hi.1; omega)]; exact hc
        have hk2 : Keeps (Fl wB.heap.size w1) 37 w1 (upd w1 w.heap.size (.cells #[.int .u8 44, .string (bs []), .slice none 0 0, .slice a0 acc.length c0'] 37)) := fun i cs hi hc => by
          rw [hp_upd_other (by have := hi.1; omega)]; exact hc
        have hn : ∀ i, Fl wB.heap.size w1 i → Nu w (upd w1 w.heap.size (.cells #[.int .u8 44, .string (bs []), .slice none 0 0, .slice a0 acc.length c0'] 37)) i := fun i hi => ⟨by have := hi.1; omega, by rw [size_upd]; exact hi.2⟩
        refine ⟨?_, hP.updT l1 d0 (by decide)⟩
        unfold IsRb
        rw [hs3] at q1
        exact ⟨_, _, [], xs', rfl, .inl ⟨rfl, rfl, rfl⟩, by unfold IsRxs; rfl, (own_rw q1 (fun k h1 h2 => (⟨h1, h2⟩ : Fl wB.heap.size w1 k))).mono hn hk2,
          IsRbs.mono (fun i hi => hn i ⟨hi.1, hi.2.1⟩) (hk _) (hk _) _ _ q2⟩
      · simp only [P.Res.bind, Option.some.injEq] at hr
        rw [← hr]
        exact ⟨hc, _, _, hP.updT l1 d0 (by decide)⟩⟩
end Go.Proofs.YtkmpelgfhjgddaaGreatDoor
namespace Go.Proofs.YtkmpelgfhjgddaaGreatDoor
open Go.RowKit Sx
set_option maxRecDepth 100000
theorem isRb_parts {F : Nat → Prop} {w : World} {us : List Value} {ps : List P.Bd} (h : IsRbs F w us ps) {q : Nat} {cs : Array Value} (hq : w.heap[q]? = some (.cells cs 37 (0, 0))) (hc : cs.toList = us) (hF : F q) (kd cap : Nat) (hn : ps.length ≤ 9223372036854775807 := by simp) :
    IsRb F w [.int .u8 kd, .string (bs []), .slice none 0 0, .slice (some ⟨q, 0, none⟩) ps.length cap] (.mk kd [] [] ps) := by
  have h3 := h.length
  unfold IsRb
  refine ⟨_, _, [], us, rfl, .inl ⟨rfl, rfl, rfl⟩, by unfold IsRxs; rfl, .inr ⟨q, cap, cs, rfl, hF, hq, ?_, ?_, hn⟩, h⟩
  · have : cs.size = cs.toList.length := by simp
    rw [this, hc, h3]
    exact Nat.le_refl _
  · rw [hc, List.take_of_length_le (by rw [h3]; exact Nat.le_refl _)]
theorem isRbs_cons {F : Nat → Prop} {w : World} {l r : List Value} {x : P.Bd} {xs : List P.Bd} (hx : IsRb F w l x) (hr : IsRbs F w r xs) : IsRbs F w (l ++ r) (x :: xs) := by
  unfold IsRbs
  exact ⟨l, r, rfl, hx, hr⟩
theorem isRbs_nil {F : Nat → Prop} {w : World} : IsRbs F w [] [] := by unfold IsRbs; rfl
theorem IsRb.fr {F F' : Nat → Prop} {pb : Nat} {w w' : World} {l : List Value} {x : P.Bd} (h : IsRb F w l x) (hF : RFr pb w w') (hn : ∀ b, F b → b ≠ pb) (hf : ∀ b, F b → F' b) : IsRb F' w' l x :=
  IsRb.mono hf (RFr.keeps hF hn (by decide)) (RFr.keeps hF hn (by decide)) _ _ h
theorem IsRb.updT {F F' : Nat → Prop} {q : Nat} {o : Obj} {w : World} {l : List Value} {x : P.Bd} (h : IsRb F w l x) (hn : ∀ b, F b → b ≠ q) (hf : ∀ b, F b → F' b) : IsRb F' (upd w q o) l x :=
  IsRb.mono hf (fun b cs hb hc => by rw [hp_upd_other (hn b hb)]; exact hc) (fun b cs hb hc => by rw [hp_upd_other (hn b hb)]; exact hc) _ _ h
theorem rBodyEnd {pb tb : Nat} {T : List P.Tok} {d : Nat} {w wt : World} {r : P.Res P.Bd} {q2 z : Nat} {a0 a1 a2 a3 b0 b1 b2 b3 c0 c1 c2 c3 : Value} (hpb : pb < w.heap.size) (hq2 : w.heap.size = q2) (hF : RFr pb w wt) (hz : wt.heap.size = z)
    (h2 : wt.heap[q2]? = some (.cells #[.int .u8 0, .string (bs []), .slice none 0 0, .slice none 0 0] 37 (0, 0)))
    (hst : (∃ k vs a b c, r = .ok (.mk 63 [] [] [a, b, c]) k vs ∧ RP wt pb tb T k vs d 0 0 ∧ IsRb (Fl (q2 + 1) wt) wt [a0, a1, a2, a3] a ∧ IsRb (Fl (q2 + 1) wt) wt [b0, b1, b2, b3] b ∧ IsRb (Fl (q2 + 1) wt) wt [c0, c1, c2, c3] c) ∨
      (∃ k vs c a, r = .err c a ∧ c ≠ 0 ∧ RP wt pb tb T k vs d c a)) :
    RPostB pb tb T d w r (.returned (.agg #[.int .u8 63, .string (bs []), .slice none 0 0, .slice (some ⟨z, 0, none⟩) 3 3])) (upd (wt.alloc (.cells #[a0, a1, a2, a3, b0, b1, b2, b3, c0, c1, c2, c3] 37)) q2
      (.cells #[.int .u8 63, .string (bs []), .slice none 0 0, .slice (some ⟨z, 0, none⟩) 3 3] 37)) := by
  subst hz
  have l2 := ltOf h2
  have hX : Ext wt (wt.alloc (.cells #[a0, a1, a2, a3, b0, b1, b2, b3, c0, c1, c2, c3] 37)) := by (repeat (first | assumption | exact FrM.refl _ _ | (refine FrM.upd ?_ (.inr (by (try simp only [size_alloc, sz_drew, size_upd, List.size_toArray, List.length_cons, List.length_nil]) <;> omega))) | refine FrM.alloc ?_ _ | refine FrM.drew ?_))
  refine ⟨_, _, _, _, rfl, ⟨rfl, rfl, rfl, rfl⟩, (hF.trans hX.toM).upd (.inr (by omega)), ?_⟩
  rcases hst with ⟨k, vs, a, b, c, rfl, hP, e1, e2, e3⟩ | ⟨k, vs, c, a, rfl, hc, hP⟩
  · refine ⟨?_, (hP.ext hX).updT (by omega) (hX.ext _ _ h2) (by decide)⟩
    have hall : IsRbs (Fl (q2 + 1) wt) wt ([a0, a1, a2, a3] ++ ([b0, b1, b2, b3] ++ ([c0, c1, c2, c3] ++ []))) [a, b, c] := isRbs_cons e1 (isRbs_cons e2 (isRbs_cons e3 isRbs_nil))
    have hk : ∀ t, Keeps (Fl (q2 + 1) wt) t wt (upd (wt.alloc (.cells #[a0, a1, a2, a3, b0, b1, b2, b3, c0, c1, c2, c3] 37)) q2
        (.cells #[.int .u8 63, .string (bs []), .slice none 0 0, .slice (some ⟨wt.heap.size, 0, none⟩) 3 3] 37)) := fun t i cs hi hc => by
      rw [hp_upd_other (by have := hi.1; omega)]
      exact hX.ext _ _ hc
    refine isRb_parts (q := wt.heap.size) (cs := #[a0, a1, a2, a3, b0, b1, b2, b3, c0, c1, c2, c3]) (IsRbs.mono (fun i hi => ?_) (hk _) (hk _) _ _ hall) (by rw [hp_upd_other (by omega)]; exact hp_alloc_new rfl) rfl ⟨by omega, by ((try simp only [size_alloc, sz_drew, size_upd, List.size_toArray, List.length_cons, List.length_nil]) <;> omega)⟩ 63 3
    exact ⟨by have := hi.1; omega, by have := hi.2; ((try simp only [size_alloc, sz_drew, size_upd, List.size_toArray, List.length_cons, List.length_nil]) <;> omega)⟩
  · exact ⟨hc, _, _, (hP.ext hX).updT (by omega) (hX.ext _ _ h2) (by decide)⟩
end Go.Proofs.YtkmpelgfhjgddaaGreatDoor
