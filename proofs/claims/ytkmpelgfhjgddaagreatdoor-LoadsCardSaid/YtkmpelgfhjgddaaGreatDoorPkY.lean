/- A part of one proof (RW14, RW15, RW16); no conditions beyond what each theorem names. -/
import Derived.Test.YtkmpelgfhjgddaaGreatDoorPkX
import Derived.Test.YtkmpelgfhjgddaaGreatDoorPkA
set_option linter.all false
set_option linter.unusedVariables false
set_option linter.unusedSimpArgs false
namespace Go.Proofs.YtkmpelgfhjgddaaGreatDoor
open Go.RowKit Sx
set_option maxRecDepth 100000
set_option maxHeartbeats 1000000 in
theorem rBody {f : Nat} (hR : RCRow f) (hS : RCRest f) : RCBody (f + 1) := ⟨by
  intro pb tb T k vars d w r h hd hr
  obtain ⟨l1, hkt, hlT, h4⟩ := h.cs
  rw [P.pBody] at hr
  cases hq : P.pRow T f k vars d with
  | none => rw [hq] at hr; simp [P.Res.bind] at hr
  | some q =>
  rw [hq] at hr
  refine sh_Pr_parser_body_ok ?_
  simp (disch := first | assumption | omega | ((simp only [size_alloc, sz_drew, size_upd, List.size_toArray, List.length_cons, List.length_nil]) <;> omega) | decide) only [sh_Pr_parser_body, Pr, PX, PC, NX, ends, fillL, wrL, sOf, Nat.reduceAdd, Nat.reduceMul, Nat.reduceLeDiff, Nat.reduceEqDiff, Int.reduceToNat, Int.reduceAdd, Int.reduceLT, Int.reduceLE, ↓reduceIte, forall_const, eq_self, zG1, zG2, al_37, bd_37, br_35_2, br_35_3, ld_37, st_37]
  have hf0 : Ext w (w.alloc (.cells #[.int .u8 0, .string (bs []), .slice none 0 0, .slice none 0 0] 37)) := by (repeat (first | assumption | exact FrM.refl _ _ | (refine FrM.upd ?_ (.inr (by (try simp only [size_alloc, sz_drew, size_upd, List.size_toArray, List.length_cons, List.length_nil]) <;> omega))) | refine FrM.alloc ?_ _ | refine FrM.drew ?_))
  refine Calls.mono (hR.go (h.ext hf0) hd hq) ?_
  rintro e w1 ⟨a0, a1, a2, a3, rfl, ⟨o0, o1, o2, o3⟩, hF1, hst⟩
  have s1 := hF1.size
  rw [size_alloc] at s1
  have c0 : w1.heap[w.heap.size]? = some (.cells #[.int .u8 0, .string (bs []), .slice none 0 0, .slice none 0 0] 37 (0, 0)) := SFr.keep hF1 (by simp (disch := first | assumption | omega | ((simp only [size_alloc, sz_drew, size_upd, List.size_toArray, List.length_cons, List.length_nil]) <;> omega) | decide) only [hp_alloc_old, hp_alloc_new, hp_upd_same, hp_upd_other, hp_drew, sz_drew, size_upd, size_alloc]) (by omega) (by decide)
  simp (disch := first | assumption | omega | ((simp only [size_alloc, sz_drew, size_upd, List.size_toArray, List.length_cons, List.length_nil]) <;> omega) | decide) only [sh_Pr_parser_body, Pr, PX, PC, NX, ends, fillL, wrL, sOf, Nat.reduceAdd, Nat.reduceMul, Nat.reduceLeDiff, Nat.reduceEqDiff, Int.reduceToNat, Int.reduceAdd, Int.reduceLT, Int.reduceLE, ↓reduceIte, forall_const, eq_self, zG1, zG2, al_37, bd_37, br_35_2, br_35_3, ld_37, st_37, o0, o1, o2, o3]
  have hX2 : Ext w1 (upd (w1.alloc (.cells #[.int .u8 0, .string (bs []), .slice none 0 0, .slice none 0 0] 37)) w1.heap.size (.cells #[a0, a1, a2, a3] 37)) := by (repeat (first | assumption | exact FrM.refl _ _ | (refine FrM.upd ?_ (.inr (by (try simp only [size_alloc, sz_drew, size_upd, List.size_toArray, List.length_cons, List.length_nil]) <;> omega))) | refine FrM.alloc ?_ _ | refine FrM.drew ?_))
  have hFw2 : RFr pb w (upd (w1.alloc (.cells #[.int .u8 0, .string (bs []), .slice none 0 0, .slice none 0 0] 37)) w1.heap.size (.cells #[a0, a1, a2, a3] 37)) := (hf0.toM.trans hF1).trans hX2.toM
  have hkeep : ∀ {w2 : World}, RFr pb (upd (w1.alloc (.cells #[.int .u8 0, .string (bs []), .slice none 0 0, .slice none 0 0] 37)) w1.heap.size (.cells #[a0, a1, a2, a3] 37)) w2 →
      w2.heap[w.heap.size]? = some (.cells #[.int .u8 0, .string (bs []), .slice none 0 0, .slice none 0 0] 37 (0, 0)) ∧ w2.heap[w1.heap.size]? = some (.cells #[a0, a1, a2, a3] 37 (0, 0)) := fun hF =>
    ⟨SFr.keep hF (by simp (disch := first | assumption | omega | ((simp only [size_alloc, sz_drew, size_upd, List.size_toArray, List.length_cons, List.length_nil]) <;> omega) | decide) only [hp_alloc_old, hp_alloc_new, hp_upd_same, hp_upd_other, hp_drew, sz_drew, size_upd, size_alloc]; exact c0) (by omega) (by decide), SFr.keep hF (by simp (disch := first | assumption | omega | ((simp only [size_alloc, sz_drew, size_upd, List.size_toArray, List.length_cons, List.length_nil]) <;> omega) | decide) only [hp_alloc_old, hp_alloc_new, hp_upd_same, hp_upd_other, hp_drew, sz_drew, size_upd, size_alloc]) (by omega) (by decide)⟩
  cases q with
  | err c1 e1 =>
    obtain ⟨hc, k2, vs2, hP⟩ := hst
    simp only [P.Res.bind, Option.some.injEq] at hr
    refine Calls.mono (rIs_no (hP.ext hX2) [45, 62] (.inl hc)) ?_
    rintro e w2 ⟨rfl, hP2, hF2⟩
    simp (disch := first | assumption | omega | ((simp only [size_alloc, sz_drew, size_upd, List.size_toArray, List.length_cons, List.length_nil]) <;> omega) | decide) only [sh_Pr_parser_body, Pr, PX, PC, NX, ends, fillL, wrL, sOf, Nat.reduceAdd, Nat.reduceMul, Nat.reduceLeDiff, Nat.reduceEqDiff, Int.reduceToNat, Int.reduceAdd, Int.reduceLT, Int.reduceLE, ↓reduceIte, forall_const, eq_self, zG1, zG2, al_37, bd_37, br_35_2, br_35_3, ld_37, st_37]
    refine Calls.mono (rIs_no hP2 [59] (.inl hc)) ?_
    rintro e w3 ⟨rfl, hP3, hF3⟩
    obtain ⟨d0, d1⟩ := hkeep (hF2.trans hF3)
    have ld0 := ltOf d0
    simp (disch := first | assumption | omega | ((simp only [size_alloc, sz_drew, size_upd, List.size_toArray, List.length_cons, List.length_nil]) <;> omega) | decide) only [sh_Pr_parser_body, Pr, PX, PC, NX, ends, fillL, wrL, sOf, Nat.reduceAdd, Nat.reduceMul, Nat.reduceLeDiff, Nat.reduceEqDiff, Int.reduceToNat, Int.reduceAdd, Int.reduceLT, Int.reduceLE, ↓reduceIte, forall_const, eq_self, zG1, zG2, al_37, bd_37, br_35_2, br_35_3, ld_37, st_37, d0, d1, o0, o1, o2, o3]
    rw [← hr]
    exact ⟨_, _, _, _, rfl, ⟨o0, o1, o2, o3⟩, ((hFw2.trans hF2).trans hF3).upd (.inr (Nat.le_refl _)), hc, _, _, hP3.updT l1 d0 (by decide)⟩
  | ok a k1 v1 =>
    obtain ⟨ha, hP⟩ := hst
    have ha0 : IsRb (fun b => w.heap.size < b ∧ b < w1.heap.size) w1 [a0, a1, a2, a3] a := IsRb.mono (fun b hb => ⟨by have := hb.1; rw [size_alloc] at this; omega, hb.2⟩) (fun b cs _ hc => hc) (fun b cs _ hc => hc) _ _ ha
    simp only [P.Res.bind] at hr
    by_cases hth : P.isT T k1 [45, 62] = true
    · rw [if_pos hth] at hr
      refine Calls.mono (rIs_yes (hP.ext hX2) [45, 62] hth) ?_
      rintro e w2 ⟨rfl, hP2, hF2⟩
      simp (disch := first | assumption | omega | ((simp only [size_alloc, sz_drew, size_upd, List.size_toArray, List.length_cons, List.length_nil]) <;> omega) | decide) only [sh_Pr_parser_body, Pr, PX, PC, NX, ends, fillL, wrL, sOf, Nat.reduceAdd, Nat.reduceMul, Nat.reduceLeDiff, Nat.reduceEqDiff, Int.reduceToNat, Int.reduceAdd, Int.reduceLT, Int.reduceLE, ↓reduceIte, forall_const, eq_self, zG1, zG2, al_37, bd_37, br_35_2, br_35_3, ld_37, st_37]
      have s2 := hF2.size
      rw [size_upd, size_alloc] at s2
      cases hq2 : P.pRow T f (k1 + 1) v1 d with
      | none => rw [hq2] at hr; simp [P.Res.bind] at hr
      | some q2 =>
      rw [hq2] at hr
      refine Calls.mono (hR.go hP2 hd hq2) ?_
      rintro e w3 ⟨b0, b1, b2, b3, rfl, ⟨p0, p1, p2, p3⟩, hF3, hst3⟩
      have s3 := hF3.size
      simp (disch := first | assumption | omega | ((simp only [size_alloc, sz_drew, size_upd, List.size_toArray, List.length_cons, List.length_nil]) <;> omega) | decide) only [sh_Pr_parser_body, Pr, PX, PC, NX, ends, fillL, wrL, sOf, Nat.reduceAdd, Nat.reduceMul, Nat.reduceLeDiff, Nat.reduceEqDiff, Int.reduceToNat, Int.reduceAdd, Int.reduceLT, Int.reduceLE, ↓reduceIte, forall_const, eq_self, zG1, zG2, al_37, bd_37, br_35_2, br_35_3, ld_37, st_37, p0, p1, p2, p3]
      have hX4 : Ext w3 (upd ((upd (w3.alloc (.cells #[.int .u8 0, .string (bs []), .slice none 0 0, .slice none 0 0] 37)) w3.heap.size (.cells #[b0, b1, b2, b3] 37)).alloc (.cells #[.int .u8 0, .string (bs []), .slice none 0 0, .slice none 0 0] 37)) (w3.heap.size + 1)
        (.cells #[.int .u8 103, .string (bs [102, 97, 105, 108]), .slice none 0 0, .slice none 0 0] 37)) := by (repeat (first | assumption | exact FrM.refl _ _ | (refine FrM.upd ?_ (.inr (by (try simp only [size_alloc, sz_drew, size_upd, List.size_toArray, List.length_cons, List.length_nil]) <;> omega))) | refine FrM.alloc ?_ _ | refine FrM.drew ?_))
      have hx56 : ∀ {w5 : World}, RFr pb (upd ((upd (w3.alloc (.cells #[.int .u8 0, .string (bs []), .slice none 0 0, .slice none 0 0] 37)) w3.heap.size (.cells #[b0, b1, b2, b3] 37)).alloc (.cells #[.int .u8 0, .string (bs []), .slice none 0 0, .slice none 0 0] 37)) (w3.heap.size + 1)
          (.cells #[.int .u8 103, .string (bs [102, 97, 105, 108]), .slice none 0 0, .slice none 0 0] 37)) w5 →
          w5.heap[w3.heap.size]? = some (.cells #[b0, b1, b2, b3] 37 (0, 0)) ∧ w5.heap[w3.heap.size + 1]? = some (.cells #[.int .u8 103, .string (bs [102, 97, 105, 108]), .slice none 0 0, .slice none 0 0] 37 (0, 0)) ∧ w3.heap.size + 2 ≤ w5.heap.size := fun hF => by
        have s := hF.size
        rw [size_upd, size_alloc, size_upd, size_alloc] at s
        exact ⟨SFr.keep hF (by simp (disch := first | assumption | omega | ((simp only [size_alloc, sz_drew, size_upd, List.size_toArray, List.length_cons, List.length_nil]) <;> omega) | decide) only [hp_alloc_old, hp_alloc_new, hp_upd_same, hp_upd_other, hp_drew, sz_drew, size_upd, size_alloc]) (by omega) (by decide), SFr.keep hF (by simp (disch := first | assumption | omega | ((simp only [size_alloc, sz_drew, size_upd, List.size_toArray, List.length_cons, List.length_nil]) <;> omega) | decide) only [hp_alloc_old, hp_alloc_new, hp_upd_same, hp_upd_other, hp_drew, sz_drew, size_upd, size_alloc]) (by omega) (by decide), s⟩
      cases q2 with
      | err c2 a2' =>
        obtain ⟨hc, k2, vs2, hP3⟩ := hst3
        simp only [P.Res.bind, Option.some.injEq] at hr
        refine Calls.mono (rIs_no (hP3.ext hX4) [59] (.inl hc)) ?_
        rintro e w5 ⟨rfl, hP5, hF5⟩
        obtain ⟨d0, d1⟩ := hkeep (((hF2.trans hF3).trans hX4.toM).trans hF5)
        obtain ⟨d5, d6, s5⟩ := hx56 hF5
        have ld0 := ltOf d0
        simp (disch := first | assumption | omega | ((simp only [size_alloc, sz_drew, size_upd, List.size_toArray, List.length_cons, List.length_nil]) <;> omega) | decide) only [sh_Pr_parser_body, Pr, PX, PC, NX, ends, fillL, wrL, sOf, Nat.reduceAdd, Nat.reduceMul, Nat.reduceLeDiff, Nat.reduceEqDiff, Int.reduceToNat, Int.reduceAdd, Int.reduceLT, Int.reduceLE, ↓reduceIte, forall_const, eq_self, zG1, zG2, al_37, bd_37, br_35_2, br_35_3, ld_37, st_37, d0, d1, d5, d6, o0, o1, o2, o3, p0, p1, p2, p3]
        exact rBodyEnd l1 rfl ((((hFw2.trans hF2).trans hF3).trans hX4.toM).trans hF5) rfl d0
          (.inr ⟨_, _, _, _, hr.symm, hc, hP5⟩)
      | ok b k2 vs2 =>
        obtain ⟨hb, hP3⟩ := hst3
        simp only [P.Res.bind] at hr
        have ha5 : ∀ {w5 : World}, RFr pb w3 w5 → IsRb (Fl (w.heap.size + 1) w5) w5 [a0, a1, a2, a3] a := fun hF => by
          have := hF.size
          exact IsRb.fr ha0 (((hX2.toM.trans hF2).trans hF3).trans hF) (fun b hb => by have := hb.1; omega) (fun b hb => ⟨hb.1, by have := hb.2; omega⟩)
        have hb5 : ∀ {w5 : World}, RFr pb w3 w5 → IsRb (Fl (w.heap.size + 1) w5) w5 [b0, b1, b2, b3] b := fun hF => by
          have := hF.size
          exact IsRb.fr hb hF (fun b hb => by have := hb.1; omega) (fun b hb => ⟨by have := hb.1; omega, by have := hb.2; omega⟩)
        by_cases hor : P.isT T k2 [59] = true
        · rw [if_pos hor] at hr
          refine Calls.mono (rIs_yes (hP3.ext hX4) [59] hor) ?_
          rintro e w5 ⟨rfl, hP5, hF5⟩
          simp (disch := first | assumption | omega | ((simp only [size_alloc, sz_drew, size_upd, List.size_toArray, List.length_cons, List.length_nil]) <;> omega) | decide) only [sh_Pr_parser_body, Pr, PX, PC, NX, ends, fillL, wrL, sOf, Nat.reduceAdd, Nat.reduceMul, Nat.reduceLeDiff, Nat.reduceEqDiff, Int.reduceToNat, Int.reduceAdd, Int.reduceLT, Int.reduceLE, ↓reduceIte, forall_const, eq_self, zG1, zG2, al_37, bd_37, br_35_2, br_35_3, ld_37, st_37]
          cases hq3 : P.pRest T f (k2 + 1) vs2 d with
          | none => rw [hq3] at hr; simp [P.Res.bind] at hr
          | some q3 =>
          rw [hq3] at hr
          refine Calls.mono (hS.go hP5 hd hq3) ?_
          rintro e w6 ⟨e0, e1, e2, e3, rfl, ⟨g0, g1, g2, g3⟩, hF6, hst6⟩
          have s6 := hF6.size
          obtain ⟨d0, d1⟩ := hkeep ((((hF2.trans hF3).trans hX4.toM).trans hF5).trans hF6)
          obtain ⟨d5, d6, s5⟩ := hx56 (hF5.trans hF6)
          obtain ⟨-, -, s5'⟩ := hx56 hF5
          have ld6 := ltOf d6
          have hF36 : RFr pb w3 (upd w6 (w3.heap.size + 1) (.cells #[e0, e1, e2, e3] 37)) := ((hX4.toM.trans hF5).trans hF6).upd (.inr (by omega))
          have ld0 := ltOf d0
          simp (disch := first | assumption | omega | ((simp only [size_alloc, sz_drew, size_upd, List.size_toArray, List.length_cons, List.length_nil]) <;> omega) | decide) only [sh_Pr_parser_body, Pr, PX, PC, NX, ends, fillL, wrL, sOf, Nat.reduceAdd, Nat.reduceMul, Nat.reduceLeDiff, Nat.reduceEqDiff, Int.reduceToNat, Int.reduceAdd, Int.reduceLT, Int.reduceLE, ↓reduceIte, forall_const, eq_self, zG1, zG2, al_37, bd_37, br_35_2, br_35_3, ld_37, st_37, d0, d1, d5, d6, g0, g1, g2, g3, o0, o1, o2, o3, p0, p1, p2, p3]
          refine rBodyEnd l1 rfl (((hFw2.trans hF2).trans hF3).trans hF36) (size_upd _ _ _)
            (by rw [hp_upd_other (by omega)]; exact d0) ?_
          cases q3 with
          | err c3 a3' =>
            obtain ⟨hc3, k5, vs5, hP6⟩ := hst6
            simp only [P.Res.bind, Option.some.injEq] at hr
            exact .inr ⟨k5, vs5, _, _, hr.symm, hc3, hP6.updT (by omega) d6 (by decide)⟩
          | ok c k5 vs5 =>
            obtain ⟨hc6, hP6⟩ := hst6
            simp only [P.Res.bind, Option.some.injEq] at hr
            exact .inl ⟨k5, vs5, a, b, c, hr.symm, hP6.updT (by omega) d6 (by decide), ha5 hF36, hb5 hF36,
              IsRb.updT hc6 (fun b hb => by have := hb.1; omega) (fun b hb => ⟨by have := hb.1; omega, by rw [size_upd]; exact hb.2⟩)⟩
        · rw [if_neg hor] at hr
          refine Calls.mono (rIs_no (hP3.ext hX4) [59] (.inr (by simpa using hor))) ?_
          rintro e w5 ⟨rfl, hP5, hF5⟩
          obtain ⟨d0, d1⟩ := hkeep (((hF2.trans hF3).trans hX4.toM).trans hF5)
          obtain ⟨d5, d6, s5⟩ := hx56 hF5
          have ld0 := ltOf d0
          simp (disch := first | assumption | omega | ((simp only [size_alloc, sz_drew, size_upd, List.size_toArray, List.length_cons, List.length_nil]) <;> omega) | decide) only [sh_Pr_parser_body, Pr, PX, PC, NX, ends, fillL, wrL, sOf, Nat.reduceAdd, Nat.reduceMul, Nat.reduceLeDiff, Nat.reduceEqDiff, Int.reduceToNat, Int.reduceAdd, Int.reduceLT, Int.reduceLE, ↓reduceIte, forall_const, eq_self, zG1, zG2, al_37, bd_37, br_35_2, br_35_3, ld_37, st_37, d0, d1, d5, d6, o0, o1, o2, o3, p0, p1, p2, p3]
          refine rBodyEnd l1 rfl ((((hFw2.trans hF2).trans hF3).trans hX4.toM).trans hF5) rfl d0
            (.inl ⟨k2, vs2, a, b, P.failB, (Option.some.inj hr).symm, hP5, ha5 (hX4.toM.trans hF5), hb5 (hX4.toM.trans hF5), ?_⟩)
          unfold P.failB IsRb
          exact ⟨_, _, [], [], rfl, .inl ⟨rfl, rfl, rfl⟩, by unfold IsRxs; rfl, .inl ⟨rfl, rfl, rfl⟩, isRbs_nil⟩
    · rw [if_neg hth] at hr
      refine Calls.mono (rIs_no (hP.ext hX2) [45, 62] (.inr (by simpa using hth))) ?_
      rintro e w2 ⟨rfl, hP2, hF2⟩
      simp (disch := first | assumption | omega | ((simp only [size_alloc, sz_drew, size_upd, List.size_toArray, List.length_cons, List.length_nil]) <;> omega) | decide) only [sh_Pr_parser_body, Pr, PX, PC, NX, ends, fillL, wrL, sOf, Nat.reduceAdd, Nat.reduceMul, Nat.reduceLeDiff, Nat.reduceEqDiff, Int.reduceToNat, Int.reduceAdd, Int.reduceLT, Int.reduceLE, ↓reduceIte, forall_const, eq_self, zG1, zG2, al_37, bd_37, br_35_2, br_35_3, ld_37, st_37]
      have s2 := hF2.size
      rw [size_upd, size_alloc] at s2
      by_cases hor : P.isT T k1 [59] = true
      · rw [if_pos hor] at hr
        refine Calls.mono (rIs_yes hP2 [59] hor) ?_
        rintro e w3 ⟨rfl, hP3, hF3⟩
        simp (disch := first | assumption | omega | ((simp only [size_alloc, sz_drew, size_upd, List.size_toArray, List.length_cons, List.length_nil]) <;> omega) | decide) only [sh_Pr_parser_body, Pr, PX, PC, NX, ends, fillL, wrL, sOf, Nat.reduceAdd, Nat.reduceMul, Nat.reduceLeDiff, Nat.reduceEqDiff, Int.reduceToNat, Int.reduceAdd, Int.reduceLT, Int.reduceLE, ↓reduceIte, forall_const, eq_self, zG1, zG2, al_37, bd_37, br_35_2, br_35_3, ld_37, st_37]
        have s3 := hF3.size
        cases hq3 : P.pRest T f (k1 + 1) v1 d with
        | none => rw [hq3] at hr; simp [P.Res.bind] at hr
        | some q3 =>
        rw [hq3] at hr
        refine Calls.mono (hS.go hP3 hd hq3) ?_
        rintro e w4 ⟨b0, b1, b2, b3, rfl, ⟨p0, p1, p2, p3⟩, hF4, hst4⟩
        have s4 := hF4.size
        obtain ⟨d0, d1⟩ := hkeep ((hF2.trans hF3).trans hF4)
        have ld0 := ltOf d0
        have ld1 := ltOf d1
        simp (disch := first | assumption | omega | ((simp only [size_alloc, sz_drew, size_upd, List.size_toArray, List.length_cons, List.length_nil]) <;> omega) | decide) only [sh_Pr_parser_body, Pr, PX, PC, NX, ends, fillL, wrL, sOf, Nat.reduceAdd, Nat.reduceMul, Nat.reduceLeDiff, Nat.reduceEqDiff, Int.reduceToNat, Int.reduceAdd, Int.reduceLT, Int.reduceLE, ↓reduceIte, forall_const, eq_self, zG1, zG2, al_37, bd_37, br_35_2, br_35_3, ld_37, st_37, d0, d1, o0, o1, o2, o3, p0, p1, p2, p3]
        have hX5 : Ext w4 ((upd (w4.alloc (.cells #[.int .u8 0, .string (bs []), .slice none 0 0, .slice none 0 0] 37)) w4.heap.size (.cells #[b0, b1, b2, b3] 37)).alloc (.cells #[a0, a1, a2, a3, b0, b1, b2, b3] 37)) := by (repeat (first | assumption | exact FrM.refl _ _ | (refine FrM.upd ?_ (.inr (by (try simp only [size_alloc, sz_drew, size_upd, List.size_toArray, List.length_cons, List.length_nil]) <;> omega))) | refine FrM.alloc ?_ _ | refine FrM.drew ?_))
        refine ⟨_, _, _, _, rfl, ⟨rfl, rfl, rfl, rfl⟩, ((((hFw2.trans hF2).trans hF3).trans hF4).trans hX5.toM).upd (.inr (Nat.le_refl _)), ?_⟩
        cases q3 with
        | err c3 a3' =>
          obtain ⟨hc3, k5, vs5, hP5⟩ := hst4
          simp only [P.Res.bind, Option.some.injEq] at hr
          rw [← hr]
          exact ⟨hc3, k5, vs5, (hP5.ext hX5).updT l1 (hX5.ext _ _ d0) (by decide)⟩
        | ok b k5 vs5 =>
          obtain ⟨hb, hP5⟩ := hst4
          simp only [P.Res.bind, Option.some.injEq] at hr
          rw [← hr]
          refine ⟨?_, (hP5.ext hX5).updT l1 (hX5.ext _ _ d0) (by decide)⟩
          have ha4 := IsRb.fr (F' := fun b => w.heap.size < b ∧ b < w4.heap.size) ha0 (((hX2.toM.trans hF2).trans hF3).trans hF4) (fun b hb => by have := hb.1; omega) (fun b hb => ⟨hb.1, by have := hb.2; omega⟩)
          have hb4 : IsRb (fun b => w.heap.size < b ∧ b < w4.heap.size) w4 [b0, b1, b2, b3] b := IsRb.mono (fun b hb => ⟨by have := hb.1; omega, hb.2⟩) (fun b cs _ hc => hc) (fun b cs _ hc => hc) _ _ hb
          have hall := isRbs_cons ha4 (isRbs_cons hb4 isRbs_nil)
          refine isRb_parts (q := w4.heap.size + 1) (cs := #[a0, a1, a2, a3, b0, b1, b2, b3]) (IsRbs.mono (fun i hi => ?_) (fun i cs hi hc => ?_) (fun i cs hi hc => ?_) _ _ hall) (by rw [hp_upd_other (by omega)]; exact hp_alloc_new (by rw [size_upd, size_alloc])) rfl ⟨by omega, by ((try simp only [size_alloc, sz_drew, size_upd, List.size_toArray, List.length_cons, List.length_nil]) <;> omega)⟩ 59 2
          · exact ⟨by have := hi.1; omega, by have := hi.2; ((try simp only [size_alloc, sz_drew, size_upd, List.size_toArray, List.length_cons, List.length_nil]) <;> omega)⟩
          · rw [hp_upd_other (by have := hi.1; omega)]
            exact hX5.ext _ _ hc
          · rw [hp_upd_other (by have := hi.1; omega)]
            exact hX5.ext _ _ hc
      · rw [if_neg hor] at hr
        obtain rfl := (Option.some.inj hr).symm
        refine Calls.mono (rIs_no hP2 [59] (.inr (by simpa using hor))) ?_
        rintro e w3 ⟨rfl, hP3, hF3⟩
        have s3 := hF3.size
        obtain ⟨d0, d1⟩ := hkeep (hF2.trans hF3)
        have ld0 := ltOf d0
        simp (disch := first | assumption | omega | ((simp only [size_alloc, sz_drew, size_upd, List.size_toArray, List.length_cons, List.length_nil]) <;> omega) | decide) only [sh_Pr_parser_body, Pr, PX, PC, NX, ends, fillL, wrL, sOf, Nat.reduceAdd, Nat.reduceMul, Nat.reduceLeDiff, Nat.reduceEqDiff, Int.reduceToNat, Int.reduceAdd, Int.reduceLT, Int.reduceLE, ↓reduceIte, forall_const, eq_self, zG1, zG2, al_37, bd_37, br_35_2, br_35_3, ld_37, st_37, d0, d1, o0, o1, o2, o3]
        have hb := IsRb.fr (F' := fun b => w.heap.size < b ∧ b < w1.heap.size) ha0 ((hX2.toM.trans hF2).trans hF3) (fun b hb => by have := hb.1; omega) (fun b hb => hb)
        exact ⟨_, _, _, _, rfl, ⟨o0, o1, o2, o3⟩, ((hFw2.trans hF2).trans hF3).upd (.inr (Nat.le_refl _)), hb.updT (fun b hb => by have := hb.1; omega) (fun b hb => ⟨by have := hb.1; omega, by have := hb.2; rw [size_upd]; omega⟩), hP3.updT l1 d0 (by decide)⟩⟩
end Go.Proofs.YtkmpelgfhjgddaaGreatDoor
namespace Go.Proofs.YtkmpelgfhjgddaaGreatDoor
open Go.RowKit Sx
set_option maxRecDepth 100000
set_option maxHeartbeats 1000000 in
theorem rGoal1 {f : Nat} (hL : RCLit f) (hB : RCBody f) (hT : ∀ {pb tb : Nat} {T : List P.Tok} {k : Nat} {vars : List P.Bs} {d : Nat} {w : World} {r : P.Res P.Bd}, RP w pb tb T k vars (d + 1 : Nat) 0 0 → d + 1 ≤ 8 →
      P.isT T k [33] = false → P.isT T k [92, 43] = false → P.isT T k [40] = false → P.pLit T (f + 1) k vars d = some r →
      Calls Tryz.prog 100 #[.pointer (some ⟨pb, 0, none⟩)] w (RPostB pb tb T (d + 1) w r)) : RCGoal f := ⟨by
  intro pb tb T k vars d w r h hd hr
  obtain ⟨l1, hkt, hlT, h4⟩ := h.cs
  have hr0 := hr
  rw [P.pLit, if_neg (by unfold P.maxDepth; omega)] at hr
  have hf0 : Ext w (w.alloc (.cells #[.int .u8 0, .string (bs []), .slice none 0 0, .slice none 0 0] 37)) := by (repeat (first | assumption | exact FrM.refl _ _ | (refine FrM.upd ?_ (.inr (by (try simp only [size_alloc, sz_drew, size_upd, List.size_toArray, List.length_cons, List.length_nil]) <;> omega))) | refine FrM.alloc ?_ _ | refine FrM.drew ?_))
  have c0 : (w.alloc (.cells #[.int .u8 0, .string (bs []), .slice none 0 0, .slice none 0 0] 37)).heap[w.heap.size]? = some (.cells #[.int .u8 0, .string (bs []), .slice none 0 0, .slice none 0 0] 37 (0, 0)) := blk_alloc_new w _
  by_cases h1 : P.isT T k [33] = true
  · rw [if_pos h1] at hr
    obtain rfl := (Option.some.inj hr).symm
    refine sh_Pr_parser_goal_ok ?_
    simp (disch := first | assumption | omega | ((simp only [size_alloc, sz_drew, size_upd, List.size_toArray, List.length_cons, List.length_nil]) <;> omega) | decide) only [sh_Pr_parser_goal, Pr, PX, PC, NX, ends, fillL, wrL, sOf, Nat.reduceAdd, Nat.reduceMul, Nat.reduceLeDiff, Nat.reduceEqDiff, Int.reduceToNat, Int.reduceAdd, Int.reduceLT, Int.reduceLE, ↓reduceIte, forall_const, eq_self, zG1, zG2, al_37, al_60, al_69, bd_37, br_34_2, br_35_1, fa_58_1, fa_58_4, fa_60_0, fa_60_1, fa_60_2, fa_69_0, fa_69_1, fa_69_4, ld_29, ld_3, ld_34, ld_37, ld_5, ld_69, ld_9, ln_34, st_3, st_37, st_60, st_69]
    refine Calls.mono (rIs_yes (h.ext hf0) [33] h1) ?_
    rintro e w1 ⟨rfl, hP1, hF1⟩
    have d0 := SFr.keep hF1 c0 (by omega) (by decide)
    have ld0 := ltOf d0
    simp (disch := first | assumption | omega | ((simp only [size_alloc, sz_drew, size_upd, List.size_toArray, List.length_cons, List.length_nil]) <;> omega) | decide) only [sh_Pr_parser_goal, Pr, PX, PC, NX, ends, fillL, wrL, sOf, Nat.reduceAdd, Nat.reduceMul, Nat.reduceLeDiff, Nat.reduceEqDiff, Int.reduceToNat, Int.reduceAdd, Int.reduceLT, Int.reduceLE, ↓reduceIte, forall_const, eq_self, zG1, zG2, al_37, al_60, al_69, bd_37, br_34_2, br_35_1, fa_58_1, fa_58_4, fa_60_0, fa_60_1, fa_60_2, fa_69_0, fa_69_1, fa_69_4, ld_29, ld_3, ld_34, ld_37, ld_5, ld_69, ld_9, ln_34, st_3, st_37, st_60, st_69, d0]
    refine ⟨_, _, _, _, rfl, ⟨rfl, rfl, rfl, rfl⟩, (hf0.toM.trans hF1).upd (.inr (Nat.le_refl _)), ?_, hP1.updT l1 d0 (by decide)⟩
    unfold IsRb
    exact ⟨_, _, [], [], rfl, .inl ⟨rfl, rfl, rfl⟩, by unfold IsRxs; rfl, .inl ⟨rfl, rfl, rfl⟩, isRbs_nil⟩
  rw [if_neg h1] at hr
  by_cases h2 : P.isT T k [92, 43] = true
  · rw [if_pos h2] at hr
    refine sh_Pr_parser_goal_ok ?_
    simp (disch := first | assumption | omega | ((simp only [size_alloc, sz_drew, size_upd, List.size_toArray, List.length_cons, List.length_nil]) <;> omega) | decide) only [sh_Pr_parser_goal, Pr, PX, PC, NX, ends, fillL, wrL, sOf, Nat.reduceAdd, Nat.reduceMul, Nat.reduceLeDiff, Nat.reduceEqDiff, Int.reduceToNat, Int.reduceAdd, Int.reduceLT, Int.reduceLE, ↓reduceIte, forall_const, eq_self, zG1, zG2, al_37, al_60, al_69, bd_37, br_34_2, br_35_1, fa_58_1, fa_58_4, fa_60_0, fa_60_1, fa_60_2, fa_69_0, fa_69_1, fa_69_4, ld_29, ld_3, ld_34, ld_37, ld_5, ld_69, ld_9, ln_34, st_3, st_37, st_60, st_69]
    refine Calls.mono (rIs_no (h.ext hf0) [33] (.inr (by simpa using h1))) ?_
    rintro e w1 ⟨rfl, hP1, hF1⟩
    simp (disch := first | assumption | omega | ((simp only [size_alloc, sz_drew, size_upd, List.size_toArray, List.length_cons, List.length_nil]) <;> omega) | decide) only [sh_Pr_parser_goal, Pr, PX, PC, NX, ends, fillL, wrL, sOf, Nat.reduceAdd, Nat.reduceMul, Nat.reduceLeDiff, Nat.reduceEqDiff, Int.reduceToNat, Int.reduceAdd, Int.reduceLT, Int.reduceLE, ↓reduceIte, forall_const, eq_self, zG1, zG2, al_37, al_60, al_69, bd_37, br_34_2, br_35_1, fa_58_1, fa_58_4, fa_60_0, fa_60_1, fa_60_2, fa_69_0, fa_69_1, fa_69_4, ld_29, ld_3, ld_34, ld_37, ld_5, ld_69, ld_9, ln_34, st_3, st_37, st_60, st_69]
    have s1 := hF1.size
    rw [size_alloc] at s1
    refine Calls.mono (rIs_yes hP1 [92, 43] h2) ?_
    rintro e w2 ⟨rfl, hP2, hF2⟩
    simp (disch := first | assumption | omega | ((simp only [size_alloc, sz_drew, size_upd, List.size_toArray, List.length_cons, List.length_nil]) <;> omega) | decide) only [sh_Pr_parser_goal, Pr, PX, PC, NX, ends, fillL, wrL, sOf, Nat.reduceAdd, Nat.reduceMul, Nat.reduceLeDiff, Nat.reduceEqDiff, Int.reduceToNat, Int.reduceAdd, Int.reduceLT, Int.reduceLE, ↓reduceIte, forall_const, eq_self, zG1, zG2, al_37, al_60, al_69, bd_37, br_34_2, br_35_1, fa_58_1, fa_58_4, fa_60_0, fa_60_1, fa_60_2, fa_69_0, fa_69_1, fa_69_4, ld_29, ld_3, ld_34, ld_37, ld_5, ld_69, ld_9, ln_34, st_3, st_37, st_60, st_69]
    have s2 := hF2.size
    cases hq : P.pLit T f (k + 1) vars (d + 1) with
    | none => rw [hq] at hr; simp [P.Res.bind] at hr
    | some q =>
    rw [hq] at hr
    refine Calls.mono (hL.go hP2 hd hq) ?_
    rintro e w3 ⟨a0, a1, a2, a3, rfl, ⟨o0, o1, o2, o3⟩, hF3, hst⟩
    have s3 := hF3.size
    have d0 := SFr.keep ((hF1.trans hF2).trans hF3) c0 (by omega) (by decide)
    have ld0 := ltOf d0
    simp (disch := first | assumption | omega | ((simp only [size_alloc, sz_drew, size_upd, List.size_toArray, List.length_cons, List.length_nil]) <;> omega) | decide) only [sh_Pr_parser_goal, Pr, PX, PC, NX, ends, fillL, wrL, sOf, Nat.reduceAdd, Nat.reduceMul, Nat.reduceLeDiff, Nat.reduceEqDiff, Int.reduceToNat, Int.reduceAdd, Int.reduceLT, Int.reduceLE, ↓reduceIte, forall_const, eq_self, zG1, zG2, al_37, al_60, al_69, bd_37, br_34_2, br_35_1, fa_58_1, fa_58_4, fa_60_0, fa_60_1, fa_60_2, fa_69_0, fa_69_1, fa_69_4, ld_29, ld_3, ld_34, ld_37, ld_5, ld_69, ld_9, ln_34, st_3, st_37, st_60, st_69, d0, o0, o1, o2, o3]
    have hX : Ext w3 ((upd (w3.alloc (.cells #[.int .u8 0, .string (bs []), .slice none 0 0, .slice none 0 0] 37)) w3.heap.size (.cells #[a0, a1, a2, a3] 37)).alloc (.cells #[a0, a1, a2, a3] 37)) := by (repeat (first | assumption | exact FrM.refl _ _ | (refine FrM.upd ?_ (.inr (by (try simp only [size_alloc, sz_drew, size_upd, List.size_toArray, List.length_cons, List.length_nil]) <;> omega))) | refine FrM.alloc ?_ _ | refine FrM.drew ?_))
    refine ⟨_, _, _, _, rfl, ⟨rfl, rfl, rfl, rfl⟩, ((((hf0.toM.trans hF1).trans hF2).trans hF3).trans hX.toM).upd (.inr (Nat.le_refl _)), ?_⟩
    cases q with
    | err c1 e1 =>
      obtain ⟨hc, k2, vs2, hP3⟩ := hst
      simp only [P.Res.bind, Option.some.injEq] at hr
      rw [← hr]
      exact ⟨hc, _, _, (hP3.ext hX).updT l1 (hX.ext _ _ d0) (by decide)⟩
    | ok a k2 vs2 =>
      obtain ⟨ha, hP3⟩ := hst
      simp only [P.Res.bind, Option.some.injEq] at hr
      rw [← hr]
      refine ⟨?_, (hP3.ext hX).updT l1 (hX.ext _ _ d0) (by decide)⟩
      refine isRb_parts (q := w3.heap.size + 1) (cs := #[a0, a1, a2, a3]) (IsRbs.mono (fun i hi => ?_) (fun i cs hi hc => ?_) (fun i cs hi hc => ?_) _ _ (isRbs_cons ha isRbs_nil)) (by rw [hp_upd_other (by omega)]; exact hp_alloc_new (by rw [size_upd, size_alloc])) rfl ⟨by omega, by ((try simp only [size_alloc, sz_drew, size_upd, List.size_toArray, List.length_cons, List.length_nil]) <;> omega)⟩ 126 1
      · exact ⟨by have := hi.1; omega, by have := hi.2; ((try simp only [size_alloc, sz_drew, size_upd, List.size_toArray, List.length_cons, List.length_nil]) <;> omega)⟩
      · rw [hp_upd_other (by have := hi.1; omega)]
        exact hX.ext _ _ hc
      · rw [hp_upd_other (by have := hi.1; omega)]
        exact hX.ext _ _ hc
  rw [if_neg h2] at hr
  by_cases h3 : P.isT T k [40] = true
  · rw [if_pos h3] at hr
    refine sh_Pr_parser_goal_ok ?_
    simp (disch := first | assumption | omega | ((simp only [size_alloc, sz_drew, size_upd, List.size_toArray, List.length_cons, List.length_nil]) <;> omega) | decide) only [sh_Pr_parser_goal, Pr, PX, PC, NX, ends, fillL, wrL, sOf, Nat.reduceAdd, Nat.reduceMul, Nat.reduceLeDiff, Nat.reduceEqDiff, Int.reduceToNat, Int.reduceAdd, Int.reduceLT, Int.reduceLE, ↓reduceIte, forall_const, eq_self, zG1, zG2, al_37, al_60, al_69, bd_37, br_34_2, br_35_1, fa_58_1, fa_58_4, fa_60_0, fa_60_1, fa_60_2, fa_69_0, fa_69_1, fa_69_4, ld_29, ld_3, ld_34, ld_37, ld_5, ld_69, ld_9, ln_34, st_3, st_37, st_60, st_69]
    refine Calls.mono (rIs_no (h.ext hf0) [33] (.inr (by simpa using h1))) ?_
    rintro e w1 ⟨rfl, hP1, hF1⟩
    simp (disch := first | assumption | omega | ((simp only [size_alloc, sz_drew, size_upd, List.size_toArray, List.length_cons, List.length_nil]) <;> omega) | decide) only [sh_Pr_parser_goal, Pr, PX, PC, NX, ends, fillL, wrL, sOf, Nat.reduceAdd, Nat.reduceMul, Nat.reduceLeDiff, Nat.reduceEqDiff, Int.reduceToNat, Int.reduceAdd, Int.reduceLT, Int.reduceLE, ↓reduceIte, forall_const, eq_self, zG1, zG2, al_37, al_60, al_69, bd_37, br_34_2, br_35_1, fa_58_1, fa_58_4, fa_60_0, fa_60_1, fa_60_2, fa_69_0, fa_69_1, fa_69_4, ld_29, ld_3, ld_34, ld_37, ld_5, ld_69, ld_9, ln_34, st_3, st_37, st_60, st_69]
    have s1 := hF1.size
    rw [size_alloc] at s1
    refine Calls.mono (rIs_no hP1 [92, 43] (.inr (by simpa using h2))) ?_
    rintro e w2 ⟨rfl, hP2, hF2⟩
    simp (disch := first | assumption | omega | ((simp only [size_alloc, sz_drew, size_upd, List.size_toArray, List.length_cons, List.length_nil]) <;> omega) | decide) only [sh_Pr_parser_goal, Pr, PX, PC, NX, ends, fillL, wrL, sOf, Nat.reduceAdd, Nat.reduceMul, Nat.reduceLeDiff, Nat.reduceEqDiff, Int.reduceToNat, Int.reduceAdd, Int.reduceLT, Int.reduceLE, ↓reduceIte, forall_const, eq_self, zG1, zG2, al_37, al_60, al_69, bd_37, br_34_2, br_35_1, fa_58_1, fa_58_4, fa_60_0, fa_60_1, fa_60_2, fa_69_0, fa_69_1, fa_69_4, ld_29, ld_3, ld_34, ld_37, ld_5, ld_69, ld_9, ln_34, st_3, st_37, st_60, st_69]
    have s2 := hF2.size
    refine Calls.mono (rIs_yes hP2 [40] h3) ?_
    rintro e w3 ⟨rfl, hP3, hF3⟩
    simp (disch := first | assumption | omega | ((simp only [size_alloc, sz_drew, size_upd, List.size_toArray, List.length_cons, List.length_nil]) <;> omega) | decide) only [sh_Pr_parser_goal, Pr, PX, PC, NX, ends, fillL, wrL, sOf, Nat.reduceAdd, Nat.reduceMul, Nat.reduceLeDiff, Nat.reduceEqDiff, Int.reduceToNat, Int.reduceAdd, Int.reduceLT, Int.reduceLE, ↓reduceIte, forall_const, eq_self, zG1, zG2, al_37, al_60, al_69, bd_37, br_34_2, br_35_1, fa_58_1, fa_58_4, fa_60_0, fa_60_1, fa_60_2, fa_69_0, fa_69_1, fa_69_4, ld_29, ld_3, ld_34, ld_37, ld_5, ld_69, ld_9, ln_34, st_3, st_37, st_60, st_69]
    have s3 := hF3.size
    cases hq : P.pBody T f (k + 1) vars (d + 1) with
    | none => rw [hq] at hr; simp [P.Res.bind] at hr
    | some q =>
    rw [hq] at hr
    refine Calls.mono (hB.go hP3 hd hq) ?_
    rintro e w4 ⟨a, b, c, g, rfl, ⟨o1, o2, o3, o4⟩, hF4, hst⟩
    have s4 := hF4.size
    have e0 := SFr.keep (((hF1.trans hF2).trans hF3).trans hF4) c0 (by omega) (by decide)
    simp (disch := first | assumption | omega | ((simp only [size_alloc, sz_drew, size_upd, List.size_toArray, List.length_cons, List.length_nil]) <;> omega) | decide) only [sh_Pr_parser_goal, Pr, PX, PC, NX, ends, fillL, wrL, sOf, Nat.reduceAdd, Nat.reduceMul, Nat.reduceLeDiff, Nat.reduceEqDiff, Int.reduceToNat, Int.reduceAdd, Int.reduceLT, Int.reduceLE, ↓reduceIte, forall_const, eq_self, zG1, zG2, al_37, al_60, al_69, bd_37, br_34_2, br_35_1, fa_58_1, fa_58_4, fa_60_0, fa_60_1, fa_60_2, fa_69_0, fa_69_1, fa_69_4, ld_29, ld_3, ld_34, ld_37, ld_5, ld_69, ld_9, ln_34, st_3, st_37, st_60, st_69, o1, o2, o3, o4]
    have hX4 : Ext w4 (upd (w4.alloc (.cells #[.int .u8 0, .string (bs []), .slice none 0 0, .slice none 0 0] 37)) w4.heap.size (.cells #[a, b, c, g] 37)) := by (repeat (first | assumption | exact FrM.refl _ _ | (refine FrM.upd ?_ (.inr (by (try simp only [size_alloc, sz_drew, size_upd, List.size_toArray, List.length_cons, List.length_nil]) <;> omega))) | refine FrM.alloc ?_ _ | refine FrM.drew ?_))
    have hF14 : RFr pb w w4 := (((hf0.toM.trans hF1).trans hF2).trans hF3).trans hF4
    have hend : ∀ {w5 : World}, RFr pb (upd (w4.alloc (.cells #[.int .u8 0, .string (bs []), .slice none 0 0, .slice none 0 0] 37)) w4.heap.size (.cells #[a, b, c, g] 37)) w5 →
          w5.heap[w.heap.size]? = some (.cells #[.int .u8 0, .string (bs []), .slice none 0 0, .slice none 0 0] 37 (0, 0)) ∧ w5.heap[w4.heap.size]? = some (.cells #[a, b, c, g] 37 (0, 0)) := fun hF =>
        ⟨SFr.keep hF (hX4.ext _ _ e0) (by omega) (by decide), SFr.keep hF (by simp (disch := first | assumption | omega | ((simp only [size_alloc, sz_drew, size_upd, List.size_toArray, List.length_cons, List.length_nil]) <;> omega) | decide) only [hp_alloc_old, hp_alloc_new, hp_upd_same, hp_upd_other, hp_drew, sz_drew, size_upd, size_alloc]) (by omega) (by decide)⟩
    cases q with
    | err c0 a0 =>
      obtain ⟨hc, k2, vs2, hP4⟩ := hst
      simp only [P.Res.bind, Option.some.injEq] at hr
      refine Calls.mono (rMustE (hP4.ext hX4) [41] hc) ?_
      rintro e w5 ⟨rfl, hP5, hF5⟩
      obtain ⟨f0, f2⟩ := hend hF5
      have l5 := ltOf f0
      simp (disch := first | assumption | omega | ((simp only [size_alloc, sz_drew, size_upd, List.size_toArray, List.length_cons, List.length_nil]) <;> omega) | decide) only [sh_Pr_parser_goal, Pr, PX, PC, NX, ends, fillL, wrL, sOf, Nat.reduceAdd, Nat.reduceMul, Nat.reduceLeDiff, Nat.reduceEqDiff, Int.reduceToNat, Int.reduceAdd, Int.reduceLT, Int.reduceLE, ↓reduceIte, forall_const, eq_self, zG1, zG2, al_37, al_60, al_69, bd_37, br_34_2, br_35_1, fa_58_1, fa_58_4, fa_60_0, fa_60_1, fa_60_2, fa_69_0, fa_69_1, fa_69_4, ld_29, ld_3, ld_34, ld_37, ld_5, ld_69, ld_9, ln_34, st_3, st_37, st_60, st_69, f0, f2, o1, o2, o3, o4]
      rw [← hr]
      exact ⟨_, _, _, _, rfl, ⟨o1, o2, o3, o4⟩, ((hF14.trans hX4.toM).trans hF5).upd (.inr (Nat.le_refl _)), hc, _, _, hP5.updT l1 f0 (by decide)⟩
    | ok x k2 vs2 =>
      obtain ⟨hx4, hP4⟩ := hst
      simp only [P.Res.bind] at hr
      refine rMustX (hP4.ext hX4) [41] _ hr ?_ ?_
      · intro w5 hr5 hP5 hF5
        obtain ⟨f0, f2⟩ := hend hF5
        have l5 := ltOf f0
        have s5 := hF5.size
        rw [size_upd, size_alloc] at s5
        simp (disch := first | assumption | omega | ((simp only [size_alloc, sz_drew, size_upd, List.size_toArray, List.length_cons, List.length_nil]) <;> omega) | decide) only [sh_Pr_parser_goal, Pr, PX, PC, NX, ends, fillL, wrL, sOf, Nat.reduceAdd, Nat.reduceMul, Nat.reduceLeDiff, Nat.reduceEqDiff, Int.reduceToNat, Int.reduceAdd, Int.reduceLT, Int.reduceLE, ↓reduceIte, forall_const, eq_self, zG1, zG2, al_37, al_60, al_69, bd_37, br_34_2, br_35_1, fa_58_1, fa_58_4, fa_60_0, fa_60_1, fa_60_2, fa_69_0, fa_69_1, fa_69_4, ld_29, ld_3, ld_34, ld_37, ld_5, ld_69, ld_9, ln_34, st_3, st_37, st_60, st_69, f0, f2, o1, o2, o3, o4]
        rw [hr5]
        have hb := IsRb.fr (F' := Nu w3 w4) hx4 (hX4.toM.trans hF5) (fun b hb => by have := hb.1; omega) (fun b hb => hb)
        exact ⟨_, _, _, _, rfl, ⟨o1, o2, o3, o4⟩, ((hF14.trans hX4.toM).trans hF5).upd (.inr (Nat.le_refl _)), hb.updT (fun b hb => by have := hb.1; omega) (fun b hb => ⟨by have := hb.1; omega, by rw [size_upd]; have := hb.2; omega⟩), hP5.updT l1 f0 (by decide)⟩
      · intro w5 a5 hr5 hP5 hF5
        obtain ⟨f0, f2⟩ := hend hF5
        have l5 := ltOf f0
        simp (disch := first | assumption | omega | ((simp only [size_alloc, sz_drew, size_upd, List.size_toArray, List.length_cons, List.length_nil]) <;> omega) | decide) only [sh_Pr_parser_goal, Pr, PX, PC, NX, ends, fillL, wrL, sOf, Nat.reduceAdd, Nat.reduceMul, Nat.reduceLeDiff, Nat.reduceEqDiff, Int.reduceToNat, Int.reduceAdd, Int.reduceLT, Int.reduceLE, ↓reduceIte, forall_const, eq_self, zG1, zG2, al_37, al_60, al_69, bd_37, br_34_2, br_35_1, fa_58_1, fa_58_4, fa_60_0, fa_60_1, fa_60_2, fa_69_0, fa_69_1, fa_69_4, ld_29, ld_3, ld_34, ld_37, ld_5, ld_69, ld_9, ln_34, st_3, st_37, st_60, st_69, f0, f2, o1, o2, o3, o4]
        rw [hr5]
        exact ⟨_, _, _, _, rfl, ⟨o1, o2, o3, o4⟩, ((hF14.trans hX4.toM).trans hF5).upd (.inr (Nat.le_refl _)), by decide, _, _, hP5.updT l1 f0 (by decide)⟩
  exact hT h hd (by simpa using h1) (by simpa using h2) (by simpa using h3) hr0⟩
end Go.Proofs.YtkmpelgfhjgddaaGreatDoor
namespace Go.Proofs.YtkmpelgfhjgddaaGreatDoor
open Go.RowKit Sx
set_option maxRecDepth 100000
theorem tests2_iff (s : P.Bs) : P.tests s = 2 ↔ s ∈ P.compares := by
  constructor
  · intro h
    unfold P.tests at h
    split at h
    · cases h
    · split at h
      · cases h
      · split at h
        · assumption
        · cases h
  · intro h
    simp only [P.compares, List.mem_cons, List.not_mem_nil, or_false] at h
    rcases h with rfl | rfl | rfl | rfl | rfl | rfl | rfl | rfl | rfl <;> decide
theorem cmpAt_eq {T : List P.Tok} {k : Nat} : P.cmpAt T k = if ((P.tk T k).kind = 4 ∨ (P.tk T k).kind = 1) ∧ P.tests (P.tk T k).text = 2 then some (P.tk T k).text else none := by
  simp only [tests2_iff]
  unfold P.cmpAt
  by_cases hk : (P.tk T k).kind = 4 ∨ (P.tk T k).kind = 1
  · have hi : ∀ s, P.isT T k s = ((P.tk T k).text == s) := fun s => by
      unfold P.isT
      rcases hk with hk | hk <;> simp [hk]
    have hf : P.isT T k = fun s => (P.tk T k).text == s := funext hi
    rw [hf]
    by_cases hm : (P.tk T k).text ∈ P.compares
    · rw [if_pos ⟨hk, hm⟩]
      generalize (P.tk T k).text = t at *
      simp only [P.compares, List.mem_cons, List.not_mem_nil, or_false] at hm
      rcases hm with rfl | rfl | rfl | rfl | rfl | rfl | rfl | rfl | rfl <;> decide
    · rw [if_neg (fun h => hm h.2), List.find?_eq_none]
      intro s hs e
      have : (P.tk T k).text = s := by simpa using e
      exact hm (this ▸ hs)
  · rw [if_neg (fun h => hk h.1), List.find?_eq_none]
    intro s hs
    have hk4 : (P.tk T k).kind ≠ 4 := fun e => hk (.inl e)
    have hk1 : (P.tk T k).kind ≠ 1 := fun e => hk (.inr e)
    rw [isT_n hk4 hk1]
    decide
end Go.Proofs.YtkmpelgfhjgddaaGreatDoor
