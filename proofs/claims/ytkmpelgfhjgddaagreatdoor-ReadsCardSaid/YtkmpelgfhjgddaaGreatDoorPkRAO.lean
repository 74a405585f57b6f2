/- A part of one proof (RW10, RCon2, RCon3, ShR3, PureB, PureH, PureL, PureL2, RW20); no conditions beyond what each theorem names. -/
import Derived.Test.YtkmpelgfhjgddaaGreatDoorPkRAN
set_option linter.all false
set_option linter.unusedVariables false
set_option linter.unusedSimpArgs false
namespace Go.Proofs.YtkmpelgfhjgddaaGreatDoor
open Go.RowKit Sx
set_option maxRecDepth 100000
theorem ownsRow_det {w : World} {base e size n : Nat} {v : Value} {xs ys : List Value} (h : w.ownsRow base e size v n xs) (h' : w.ownsRow base e size v n ys) : xs = ys := by
  rcases h.2 with ⟨hv1, hn⟩ | ⟨g1, c1, cur1, hv1, _, g2, _, _, _, g3⟩
  · have l1 := h.1
    have l2 := h'.1
    rw [hn, Nat.zero_mul] at l1 l2
    rw [List.eq_nil_of_length_eq_zero l1, List.eq_nil_of_length_eq_zero l2]
  · rcases h'.2 with ⟨hv2, _⟩ | ⟨g1', c1', cur1', hv2, _, g2', _, _, _, g3'⟩
    · rw [hv1] at hv2; cases hv2
    · rw [hv1] at hv2
      injection hv2 with hv2 _ _
      injection hv2 with hv2
      injection hv2 with hv2 _ _
      subst hv2
      rw [g2] at g2'
      injection g2' with g2'
      injection g2' with g2' _ _
      subst g2'
      rw [← g3, ← g3']
set_option maxHeartbeats 1000000 in
theorem rList {f : Nat} (hE : ∀ g, g < f + 1 → RCE g) : RCL (f + 1) := ⟨by
  intro pb tb T k vars d w r h hd hr
  obtain ⟨l1, hkt, hlT, h4⟩ := h.cs
  rw [P.pList] at hr
  refine sh_Pr_parser_list_ok ?_
  simp (disch := first | assumption | omega | ((simp only [size_alloc, sz_drew, size_upd, List.size_toArray, List.length_cons, List.length_nil]) <;> omega) | decide) only [sh_Pr_parser_list, Pr, PX, PC, NX, ends, fillL, wrL, sOf, Nat.reduceAdd, Nat.reduceMul, Nat.reduceLeDiff, Nat.reduceEqDiff, Int.reduceToNat, Int.reduceAdd, Int.reduceLT, Int.reduceLE, ↓reduceIte, forall_const, eq_self, zG1, zG2, al_69, bd_69, br_34_1, br_34_2, ix_34, ld_69, ln_34, st_69]
  have hf0 : Ext w (upd ((w.alloc (.cells #[.int .u8 0, .string (bs []), .int .i64 0, .int .i64 0, .slice none 0 0] 69)).alloc (.cells #[.int .u8 0, .string (bs []), .int .i64 0, .int .i64 0, .slice none 0 0] 69)) (w.heap.size + 1) (.cells #[.int .u8 97, .string (bs [91, 93]), .int .i64 0, .int .i64 0, .slice none 0 0] 69)) := by (repeat (first | assumption | exact FrM.refl _ _ | (refine FrM.upd ?_ (.inr (by (try simp only [size_alloc, sz_drew, size_upd, List.size_toArray, List.length_cons, List.length_nil]) <;> omega))) | refine FrM.alloc ?_ _ | refine FrM.drew ?_))
  by_cases h9 : P.isT T k [93] = true
  · rw [if_pos h9] at hr
    obtain rfl := (Option.some.inj hr).symm
    refine Calls.mono (rIs_yes (h.ext hf0) [93] h9) ?_
    rintro e w1 ⟨rfl, hP1, hF1⟩
    have s1 := hF1.size
    rw [size_upd, size_alloc, size_alloc] at s1
    have c0 : w1.heap[w.heap.size]? = some (.cells #[.int .u8 0, .string (bs []), .int .i64 0, .int .i64 0, .slice none 0 0] 69 (0, 0)) := SFr.keep hF1 (by simp (disch := first | assumption | omega | ((simp only [size_alloc, sz_drew, size_upd, List.size_toArray, List.length_cons, List.length_nil]) <;> omega) | decide) only [hp_alloc_old, hp_alloc_new, hp_upd_same, hp_upd_other, hp_drew, sz_drew, size_upd, size_alloc]) (by omega) (by decide)
    have c1 : w1.heap[w.heap.size + 1]? = some (.cells #[.int .u8 97, .string (bs [91, 93]), .int .i64 0, .int .i64 0, .slice none 0 0] 69 (0, 0)) := SFr.keep hF1 (by simp (disch := first | assumption | omega | ((simp only [size_alloc, sz_drew, size_upd, List.size_toArray, List.length_cons, List.length_nil]) <;> omega) | decide) only [hp_alloc_old, hp_alloc_new, hp_upd_same, hp_upd_other, hp_drew, sz_drew, size_upd, size_alloc]) (by omega) (by decide)
    have lc0 := ltOf c0
    simp (disch := first | assumption | omega | ((simp only [size_alloc, sz_drew, size_upd, List.size_toArray, List.length_cons, List.length_nil]) <;> omega) | decide) only [sh_Pr_parser_list, Pr, PX, PC, NX, ends, fillL, wrL, sOf, Nat.reduceAdd, Nat.reduceMul, Nat.reduceLeDiff, Nat.reduceEqDiff, Int.reduceToNat, Int.reduceAdd, Int.reduceLT, Int.reduceLE, ↓reduceIte, forall_const, eq_self, zG1, zG2, al_69, bd_69, br_34_1, br_34_2, ix_34, ld_69, ln_34, st_69, c0, c1]
    exact ⟨_, _, _, _, _, rfl, ⟨rfl, rfl, rfl, rfl, rfl, .of (by decide)⟩, (hf0.toM.trans hF1).upd (.inr (Nat.le_refl _)), isRx_nil _ _ _ _ _, hP1.updT l1 c0 (by decide)⟩
  rw [if_neg h9] at hr
  refine Calls.mono (rIs_no (h.ext hf0) [93] (.inr (by simpa using h9))) ?_
  rintro e wB ⟨rfl, hP1, hF1⟩
  have s1 := hF1.size
  rw [size_upd, size_alloc, size_alloc] at s1
  have c0 : wB.heap[w.heap.size]? = some (.cells #[.int .u8 0, .string (bs []), .int .i64 0, .int .i64 0, .slice none 0 0] 69 (0, 0)) := SFr.keep hF1 (by simp (disch := first | assumption | omega | ((simp only [size_alloc, sz_drew, size_upd, List.size_toArray, List.length_cons, List.length_nil]) <;> omega) | decide) only [hp_alloc_old, hp_alloc_new, hp_upd_same, hp_upd_other, hp_drew, sz_drew, size_upd, size_alloc]) (by omega) (by decide)
  have c1 : wB.heap[w.heap.size + 1]? = some (.cells #[.int .u8 97, .string (bs [91, 93]), .int .i64 0, .int .i64 0, .slice none 0 0] 69 (0, 0)) := SFr.keep hF1 (by simp (disch := first | assumption | omega | ((simp only [size_alloc, sz_drew, size_upd, List.size_toArray, List.length_cons, List.length_nil]) <;> omega) | decide) only [hp_alloc_old, hp_alloc_new, hp_upd_same, hp_upd_other, hp_drew, sz_drew, size_upd, size_alloc]) (by omega) (by decide)
  have hFB : RFr pb w wB := hf0.toM.trans hF1
  cases hq : P.pElems T f k vars d [] with
  | none => rw [hq] at hr; simp [P.Res.bind] at hr
  | some q =>
  rw [hq] at hr
  have hpb : pb < wB.heap.size := by omega
  simp (disch := first | assumption | omega | ((simp only [size_alloc, sz_drew, size_upd, List.size_toArray, List.length_cons, List.length_nil]) <;> omega) | decide) only [sh_Pr_parser_list, Pr, PX, PC, NX, ends, fillL, wrL, sOf, Nat.reduceAdd, Nat.reduceMul, Nat.reduceLeDiff, Nat.reduceEqDiff, Int.reduceToNat, Int.reduceAdd, Int.reduceLT, Int.reduceLE, ↓reduceIte, forall_const, eq_self, zG1, zG2, al_69, bd_69, br_34_1, br_34_2, ix_34, ld_69, ln_34, st_69]
  refine ⟨fun n s w1 => RFr pb wB w1 ∧
      ((s 6 = .bool true ∧ ∃ f' k' vs acc, n = f' + 1 ∧ f' ≤ f ∧ acc.length ≤ k' ∧ P.pElems T f' k' vs d acc = some q ∧ RowS wB w1 (s 5) acc ∧ RP w1 pb tb T k' vs d 0 0) ∨
      (s 6 = .bool false ∧ n = 0 ∧ ∃ m xs, w1.ownsRow wB.heap.size 69 5 (s 5) m xs ∧ (∀ u ∈ xs, u.oneCell' = true) ∧ m ≤ 100000 ∧
        ((∃ k' vs acc, m = acc.length ∧ q = .ok acc k' vs ∧ RowS wB w1 (s 5) acc ∧ RP w1 pb tb T k' vs d 0 0) ∨ (∃ c a k' vs, q = .err c a ∧ c ≠ 0 ∧ RP w1 pb tb T k' vs d c a)))),
    ⟨f + 1, FrM.refl _ _, .inl ⟨rfl, f, k, vars, [], rfl, Nat.le_refl _, Nat.zero_le _, hq, RowS.nil wB, hP1⟩⟩, ?_⟩
  intro n s dd w1 hI
  refine toPr ?_
  rcases hI with ⟨hF, ⟨h6, f', k', vs, acc, rfl, hf', hak, hp, hrow, hP⟩ | ⟨h6, rfl, m, xs, hown, hone, hm, hfin⟩⟩
  · cases f' with
    | zero => simp [P.pElems] at hp
    | succ f' =>
    rw [P.pElems] at hp
    have hkt : k' < T.length := by obtain ⟨_, _, hx⟩ := id hP; exact hx.kt
    have hs1 := hF.size
    cases hq2 : P.pOper T f' 0 k' vs d with
    | none => rw [hq2] at hp; simp [P.Res.bind] at hp
    | some q2 =>
    rw [hq2] at hp
    simp (disch := first | assumption | omega | ((simp only [size_alloc, sz_drew, size_upd, List.size_toArray, List.length_cons, List.length_nil]) <;> omega) | decide) only [sh_Pr_parser_list, Pr, PX, PC, NX, ends, fillL, wrL, sOf, Nat.reduceAdd, Nat.reduceMul, Nat.reduceLeDiff, Nat.reduceEqDiff, Int.reduceToNat, Int.reduceAdd, Int.reduceLT, Int.reduceLE, ↓reduceIte, forall_const, eq_self, zG1, zG2, al_69, bd_69, br_34_1, br_34_2, ix_34, ld_69, ln_34, st_69, h6]
    refine ((hE f' (by omega)).go hP hd hq2).mono ?_
    rintro e w2 ⟨a, b, c, g, u, rfl, ⟨o1, o2, o3, o4, o5, oh⟩, hF2, hst⟩
    have hs2 := hF2.size
    obtain ⟨xs0, ho0, hi0⟩ := id hrow.own
    have hrow2 : w2.ownsRow wB.heap.size 69 5 (s 5) acc.length xs0 := own_fr hF2 ho0 hpb (by decide)
    simp (disch := first | assumption | omega | ((simp only [size_alloc, sz_drew, size_upd, List.size_toArray, List.length_cons, List.length_nil]) <;> omega) | decide) only [sh_Pr_parser_list, Pr, PX, PC, NX, ends, fillL, wrL, sOf, Nat.reduceAdd, Nat.reduceMul, Nat.reduceLeDiff, Nat.reduceEqDiff, Int.reduceToNat, Int.reduceAdd, Int.reduceLT, Int.reduceLE, ↓reduceIte, forall_const, eq_self, zG1, zG2, al_69, bd_69, br_34_1, br_34_2, ix_34, ld_69, ln_34, st_69, o1, o2, o3, o4, o5]
    have hx3 : Ext w2 ((upd (w2.alloc (.cells #[.int .u8 0, .string (bs []), .int .i64 0, .int .i64 0, .slice none 0 0] 69)) w2.heap.size (.cells #[a, b, c, g, u] 69)).alloc (.cells #[a, b, c, g, u] 69)) :=
      (((FrM.refl _ _).alloc _).upd (.inr (Nat.le_refl _))).alloc _
    refine wr_appendE (base := wB.heap.size) (n := acc.length) (own_ext hx3.ext hrow2) (hp_alloc_new (by rw [size_upd, size_alloc])) ⟨o1, o2, o3, o4, o5⟩ (by omega) (by have := hx3.size; omega) ?_
    intro v' w4 hown4 hg4 hv4
    have hF4 : RFr pb wB w4 := (((hF.trans hF2).trans hx3.toM)).grow hg4 (fun k hk => (hrow2.lt k hk).1)
    have hone4 : ∀ u' ∈ xs0 ++ [a, b, c, g, u], u'.oneCell' = true := fun u' hu => by
      simp only [List.mem_append, List.mem_cons, List.not_mem_nil, or_false] at hu
      rcases hu with hu | rfl | rfl | rfl | rfl | rfl
      · exact IsRxs.one hi0 _ hu
      · exact o1
      · exact o2
      · exact o3
      · exact o4
      · exact o5
    cases q2 with
    | err c0 a0 =>
      obtain ⟨hc0, k2, vs2, hP2⟩ := hst
      simp only [P.Res.bind, Option.some.injEq] at hp
      have hP4 := (hP2.ext hx3).grow (own_ext hx3.ext hrow2) (by decide) hpb hg4
      refine (rIs_no hP4 [44] (.inl hc0)).mono ?_
      rintro e w5 ⟨rfl, hP5, hF5⟩
      simp (disch := first | assumption | omega | ((simp only [size_alloc, sz_drew, size_upd, List.size_toArray, List.length_cons, List.length_nil]) <;> omega) | decide) only [sh_Pr_parser_list, Pr, PX, PC, NX, ends, fillL, wrL, sOf, Nat.reduceAdd, Nat.reduceMul, Nat.reduceLeDiff, Nat.reduceEqDiff, Int.reduceToNat, Int.reduceAdd, Int.reduceLT, Int.reduceLE, ↓reduceIte, forall_const, eq_self, zG1, zG2, al_69, bd_69, br_34_1, br_34_2, ix_34, ld_69, ln_34, st_69]
      exact ⟨0, Nat.succ_pos _, hF4.trans hF5, .inr ⟨rfl, _, _, own_fr hF5 hown4 hpb (by decide), hone4, by omega, .inr ⟨c0, a0, k2, vs2, hp.symm, hc0, hP5⟩⟩⟩
    | ok x k2 vs2 =>
      obtain ⟨hx, hP2⟩ := hst
      have hk2 := (P.mono T f').oper _ _ _ _ _ _ _ hq2
      have hP4 := (hP2.ext hx3).grow (own_ext hx3.ext hrow2) (by decide) hpb hg4
      have hrow4 : RowS wB w4 v' (acc ++ [x]) := hrow.more hF2 hpb hx hs1 hx3 (own_ext hx3.ext hrow2) hown4 hg4 hv4
      simp only [P.Res.bind] at hp
      have hmn : ∀ {w5 : World}, RFr pb w4 w5 → RowS wB w5 v' (acc ++ [x]) := fun hF5 => by
        obtain ⟨xs, p1, p2⟩ := hrow4.own
        have := hF5.size
        exact ⟨xs, own_fr hF5 p1 hpb (by decide), IsRxs.mono (fun b hb => ⟨hb.1, by have := hb.2.1; omega, hb.2.2⟩) (RFr.keeps hF5 (fun b hb => by have := hb.1; omega) (by decide)) _ _ p2⟩
      by_cases hc : P.isT T k2 [44] = true
      · rw [if_pos hc] at hp
        refine (rIs_yes hP4 [44] hc).mono ?_
        rintro e w5 ⟨rfl, hP5, hF5⟩
        simp (disch := first | assumption | omega | ((simp only [size_alloc, sz_drew, size_upd, List.size_toArray, List.length_cons, List.length_nil]) <;> omega) | decide) only [sh_Pr_parser_list, Pr, PX, PC, NX, ends, fillL, wrL, sOf, Nat.reduceAdd, Nat.reduceMul, Nat.reduceLeDiff, Nat.reduceEqDiff, Int.reduceToNat, Int.reduceAdd, Int.reduceLT, Int.reduceLE, ↓reduceIte, forall_const, eq_self, zG1, zG2, al_69, bd_69, br_34_1, br_34_2, ix_34, ld_69, ln_34, st_69]
        exact ⟨f' + 1, by omega, hF4.trans hF5, .inl ⟨f', k2 + 1, vs2, acc ++ [x], rfl, by omega, by simp; omega, hp, hmn hF5, hP5⟩⟩
      · rw [if_neg hc] at hp
        refine (rIs_no hP4 [44] (.inr (by simpa using hc))).mono ?_
        rintro e w5 ⟨rfl, hP5, hF5⟩
        simp (disch := first | assumption | omega | ((simp only [size_alloc, sz_drew, size_upd, List.size_toArray, List.length_cons, List.length_nil]) <;> omega) | decide) only [sh_Pr_parser_list, Pr, PX, PC, NX, ends, fillL, wrL, sOf, Nat.reduceAdd, Nat.reduceMul, Nat.reduceLeDiff, Nat.reduceEqDiff, Int.reduceToNat, Int.reduceAdd, Int.reduceLT, Int.reduceLE, ↓reduceIte, forall_const, eq_self, zG1, zG2, al_69, bd_69, br_34_1, br_34_2, ix_34, ld_69, ln_34, st_69]
        exact ⟨0, Nat.succ_pos _, hF4.trans hF5, .inr ⟨rfl, _, _, own_fr hF5 hown4 hpb (by decide), hone4, by omega, .inl ⟨k2, vs2, acc ++ [x], by simp, (Option.some.inj hp).symm, hmn hF5, hP5⟩⟩⟩
  · have hsB := hF.size
    have d0 := SFr.keep hF c0 (by omega) (by decide)
    have d1 := SFr.keep hF c1 (by omega) (by decide)
    have hFw := hFB.trans hF
    simp (disch := first | assumption | omega | ((simp only [size_alloc, sz_drew, size_upd, List.size_toArray, List.length_cons, List.length_nil]) <;> omega) | decide) only [sh_Pr_parser_list, Pr, PX, PC, NX, ends, fillL, wrL, sOf, Nat.reduceAdd, Nat.reduceMul, Nat.reduceLeDiff, Nat.reduceEqDiff, Int.reduceToNat, Int.reduceAdd, Int.reduceLT, Int.reduceLE, ↓reduceIte, forall_const, eq_self, zG1, zG2, al_69, bd_69, br_34_1, br_34_2, ix_34, ld_69, ln_34, st_69, h6]
    rcases hfin with ⟨k', vs, acc, rfl, rfl, hrow, hP⟩ | ⟨c, a, k', vs, rfl, hc, hP⟩
    · simp only [P.Res.bind] at hr
      obtain ⟨xs', p1, p2⟩ := hrow.own
      have hxx := ownsRow_det hown p1
      subst hxx
      have p2' : IsRxs (Fl wB.heap.size w1) w1 xs acc := IsRxs.mono (fun b hb => ⟨hb.1, hb.2.1⟩) (fun b cs _ hc => hc) _ _ p2
      by_cases hbar : P.isT T k' [124] = true
      · rw [if_pos hbar] at hr
        refine Calls.mono (rIs_yes hP [124] hbar) ?_
        rintro e w2 ⟨rfl, hP2, hF2⟩
        have s2 := hF2.size
        have e0 := SFr.keep hF2 d0 (by omega) (by decide)
        have e1 := SFr.keep hF2 d1 (by omega) (by decide)
        have own2 := own_fr hF2 hown (by omega) (by decide)
        simp (disch := first | assumption | omega | ((simp only [size_alloc, sz_drew, size_upd, List.size_toArray, List.length_cons, List.length_nil]) <;> omega) | decide) only [sh_Pr_parser_list, Pr, PX, PC, NX, ends, fillL, wrL, sOf, Nat.reduceAdd, Nat.reduceMul, Nat.reduceLeDiff, Nat.reduceEqDiff, Int.reduceToNat, Int.reduceAdd, Int.reduceLT, Int.reduceLE, ↓reduceIte, forall_const, eq_self, zG1, zG2, al_69, bd_69, br_34_1, br_34_2, ix_34, ld_69, ln_34, st_69]
        cases hq3 : P.pOper T f 0 (k' + 1) vs d with
        | none => rw [hq3] at hr; simp [P.Res.bind] at hr
        | some q3 =>
        rw [hq3] at hr
        refine Calls.mono ((hE f (by omega)).go hP2 hd hq3) ?_
        rintro e w3 ⟨a, b, c, g, u, rfl, ⟨o1, o2, o3, o4, o5, oh⟩, hF3, hst⟩
        have s3 := hF3.size
        have f0 := SFr.keep hF3 e0 (by omega) (by decide)
        have f1 := SFr.keep hF3 e1 (by omega) (by decide)
        have own3 := own_fr hF3 own2 (by omega) (by decide)
        have lf1 := ltOf f1
        simp (disch := first | assumption | omega | ((simp only [size_alloc, sz_drew, size_upd, List.size_toArray, List.length_cons, List.length_nil]) <;> omega) | decide) only [sh_Pr_parser_list, Pr, PX, PC, NX, ends, fillL, wrL, sOf, Nat.reduceAdd, Nat.reduceMul, Nat.reduceLeDiff, Nat.reduceEqDiff, Int.reduceToNat, Int.reduceAdd, Int.reduceLT, Int.reduceLE, ↓reduceIte, forall_const, eq_self, zG1, zG2, al_69, bd_69, br_34_1, br_34_2, ix_34, ld_69, ln_34, st_69, f1, o1, o2, o3, o4, o5]
        refine rListTail (q2 := w.heap.size) (q3 := (w.alloc (.cells #[.int .u8 0, .string (bs []), .int .i64 0, .int .i64 0, .slice none 0 0] 69)).heap.size) (B := wB.heap.size) (m := acc.length) (xs := xs) (a := a) (b := b) (c := c) (g := g) (u := u) l1 (Nat.le_refl _) (by rw [size_alloc]; exact Nat.lt_succ_self _) (by rw [size_alloc]; omega) (((hFw.trans hF2).trans hF3).upd (.inr (by omega))) (by simp (disch := first | assumption | omega | ((simp only [size_alloc, sz_drew, size_upd, List.size_toArray, List.length_cons, List.length_nil]) <;> omega) | decide) only [hp_alloc_old, hp_alloc_new, hp_upd_same, hp_upd_other, hp_drew, sz_drew, size_upd, size_alloc]; exact f0) (by rw [size_alloc]; exact hp_upd_same rfl lf1) ⟨o1, o2, o3, o4, o5, oh⟩
          (own_upd own3 (by omega)) hone hm ?_
        cases q3 with
        | err c3 a3 =>
          obtain ⟨hc3, k5, vs5, hP5⟩ := hst
          simp only [P.Res.bind, Option.some.injEq] at hr
          exact .inr ⟨k5, vs5, c3, a3, hr.symm, hc3, hP5.updT (by omega) f1 (by decide)⟩
        | ok x k5 vs5 =>
          obtain ⟨hx5, hP5⟩ := hst
          simp only [P.Res.bind] at hr
          refine .inl ⟨k5, vs5, acc, x, hr, hP5.updT (by omega) f1 (by decide), IsRx.mono (fun i hi => ?_) (fun i cs hi hc => ?_) _ _ hx5, IsRxs.mono (fun i hi => ?_) (fun i cs hi hc => ?_) _ _ p2', rfl⟩
          · exact ⟨by have := hi.1; omega, by rw [size_upd]; exact hi.2⟩
          · rw [hp_upd_other (by have := hi.1; omega)]; exact hc
          · exact ⟨hi.1, by rw [size_upd]; have := hi.2; omega⟩
          · rw [hp_upd_other (by have := hi.1; omega)]
            exact SFr.keep hF3 (SFr.keep hF2 hc (by have := hi.1; omega) (by decide)) (by have := hi.1; omega) (by decide)
      · rw [if_neg hbar] at hr
        refine Calls.mono (rIs_no hP [124] (.inr (by simpa using hbar))) ?_
        rintro e w2 ⟨rfl, hP2, hF2⟩
        have s2 := hF2.size
        have e0 := SFr.keep hF2 d0 (by omega) (by decide)
        have e1 := SFr.keep hF2 d1 (by omega) (by decide)
        have own2 := own_fr hF2 hown (by omega) (by decide)
        simp (disch := first | assumption | omega | ((simp only [size_alloc, sz_drew, size_upd, List.size_toArray, List.length_cons, List.length_nil]) <;> omega) | decide) only [sh_Pr_parser_list, Pr, PX, PC, NX, ends, fillL, wrL, sOf, Nat.reduceAdd, Nat.reduceMul, Nat.reduceLeDiff, Nat.reduceEqDiff, Int.reduceToNat, Int.reduceAdd, Int.reduceLT, Int.reduceLE, ↓reduceIte, forall_const, eq_self, zG1, zG2, al_69, bd_69, br_34_1, br_34_2, ix_34, ld_69, ln_34, st_69]
        refine rListTail (q2 := w.heap.size) (q3 := (w.alloc (.cells #[.int .u8 0, .string (bs []), .int .i64 0, .int .i64 0, .slice none 0 0] 69)).heap.size) (B := wB.heap.size) (m := acc.length) (xs := xs) l1 (Nat.le_refl _) (by rw [size_alloc]; exact Nat.lt_succ_self _) (by rw [size_alloc]; omega) (hFw.trans hF2) e0 (by rw [size_alloc]; exact e1) ⟨rfl, rfl, rfl, rfl, rfl, .of (by decide)⟩ own2 hone hm
          (.inl ⟨k', vs, acc, _, hr, hP2, isRx_nil _ _ _ _ _, IsRxs.mono (fun i hi => ⟨hi.1, by have := hi.2; omega⟩) (RFr.keeps hF2 (fun b hb => by have := hb.1; omega) (by decide)) _ _ p2', rfl⟩)
    · simp only [P.Res.bind, Option.some.injEq] at hr
      refine Calls.mono (rIs_no hP [124] (.inl hc)) ?_
      rintro e w2 ⟨rfl, hP2, hF2⟩
      have s2 := hF2.size
      have e0 := SFr.keep hF2 d0 (by omega) (by decide)
      have e1 := SFr.keep hF2 d1 (by omega) (by decide)
      have own2 := own_fr hF2 hown (by omega) (by decide)
      simp (disch := first | assumption | omega | ((simp only [size_alloc, sz_drew, size_upd, List.size_toArray, List.length_cons, List.length_nil]) <;> omega) | decide) only [sh_Pr_parser_list, Pr, PX, PC, NX, ends, fillL, wrL, sOf, Nat.reduceAdd, Nat.reduceMul, Nat.reduceLeDiff, Nat.reduceEqDiff, Int.reduceToNat, Int.reduceAdd, Int.reduceLT, Int.reduceLE, ↓reduceIte, forall_const, eq_self, zG1, zG2, al_69, bd_69, br_34_1, br_34_2, ix_34, ld_69, ln_34, st_69]
      exact rListTail (q2 := w.heap.size) (q3 := (w.alloc (.cells #[.int .u8 0, .string (bs []), .int .i64 0, .int .i64 0, .slice none 0 0] 69)).heap.size) (B := wB.heap.size) (m := m) (xs := xs) l1 (Nat.le_refl _) (by rw [size_alloc]; exact Nat.lt_succ_self _) (by rw [size_alloc]; omega) (hFw.trans hF2) e0 (by rw [size_alloc]; exact e1) ⟨rfl, rfl, rfl, rfl, rfl, .of (by decide)⟩ own2 hone hm
        (.inr ⟨_, _, _, _, hr.symm, hc, hP2⟩)⟩
theorem rTerms (f : Nat) : RCE f ∧ RCT f ∧ RCP f ∧ RCA f ∧ RCL f := by
    induction f using Nat.strongRecOn with
    | ind f ih =>
      have hE : ∀ g, g < f → RCE g := fun g hg => (ih g hg).1
      have hT : ∀ g, g < f → RCT g := fun g hg => (ih g hg).2.1
      have hP : ∀ g, g < f → RCP g := fun g hg => (ih g hg).2.2.1
      refine ⟨rExpr hT, rProduct hP, ?_, rArgs hE, ?_⟩
      · cases f with
        | zero => exact ⟨fun _ _ hr => by simp [P.pPrim] at hr⟩
        | succ f =>
          obtain ⟨a, b, c, d, e⟩ := ih f (Nat.lt_succ_self _)
          exact rPrim (rBare a d e)
      · cases f with
        | zero => exact ⟨fun _ _ hr => by simp [P.pList] at hr⟩
        | succ f => exact rList hE
end Go.Proofs.YtkmpelgfhjgddaaGreatDoor
namespace Go.Proofs.YtkmpelgfhjgddaaGreatDoor
open Go.RowKit Sx
set_option maxRecDepth 100000
def RStB (pb tb : Nat) (T : List P.Tok) (d : Nat) (w w' : World) (l : List Value) : P.Res P.Bd → Prop
  | .ok x k vs => IsRb (Nu w w') w' l x ∧ RP w' pb tb T k vs d 0 0
  | .err c a => c ≠ 0 ∧ ∃ k vs, RP w' pb tb T k vs d c a
def RPostB (pb tb : Nat) (T : List P.Tok) (d : Nat) (w : World) (r : P.Res P.Bd) (e : Ending) (w' : World) : Prop :=
  ∃ a b c f, e = .returned (.agg #[a, b, c, f]) ∧ (a.oneCell' = true ∧ b.oneCell' = true ∧ c.oneCell' = true ∧ f.oneCell' = true) ∧ RFr pb w w' ∧ RStB pb tb T d w w' [a, b, c, f] r
structure RCLit (f : Nat) : Prop where
  go : ∀ {pb tb : Nat} {T : List P.Tok} {k : Nat} {vars : List P.Bs} {d : Nat} {w : World} {r : P.Res P.Bd}, RP w pb tb T k vars d 0 0 → d ≤ 8 →
    P.pLit T f k vars d = some r → Calls Tryz.prog 83 #[.pointer (some ⟨pb, 0, none⟩)] w (RPostB pb tb T d w r)
structure RCRow (f : Nat) : Prop where
  go : ∀ {pb tb : Nat} {T : List P.Tok} {k : Nat} {vars : List P.Bs} {d : Nat} {w : World} {r : P.Res P.Bd}, RP w pb tb T k vars d 0 0 → d ≤ 8 →
    P.pRow T f k vars d = some r → Calls Tryz.prog 64 #[.pointer (some ⟨pb, 0, none⟩)] w (RPostB pb tb T d w r)
structure RCBody (f : Nat) : Prop where
  go : ∀ {pb tb : Nat} {T : List P.Tok} {k : Nat} {vars : List P.Bs} {d : Nat} {w : World} {r : P.Res P.Bd}, RP w pb tb T k vars d 0 0 → d ≤ 8 →
    P.pBody T f k vars d = some r → Calls Tryz.prog 36 #[.pointer (some ⟨pb, 0, none⟩)] w (RPostB pb tb T d w r)
structure RCRest (f : Nat) : Prop where
  go : ∀ {pb tb : Nat} {T : List P.Tok} {k : Nat} {vars : List P.Bs} {d : Nat} {w : World} {r : P.Res P.Bd}, RP w pb tb T k vars d 0 0 → d ≤ 8 →
    P.pRest T f k vars d = some r → Calls Tryz.prog 65 #[.pointer (some ⟨pb, 0, none⟩)] w (RPostB pb tb T d w r)
structure RCGoal (f : Nat) : Prop where
  go : ∀ {pb tb : Nat} {T : List P.Tok} {k : Nat} {vars : List P.Bs} {d : Nat} {w : World} {r : P.Res P.Bd}, RP w pb tb T k vars (d + 1 : Nat) 0 0 → d + 1 ≤ 8 →
    P.pLit T (f + 1) k vars d = some r → Calls Tryz.prog 100 #[.pointer (some ⟨pb, 0, none⟩)] w (RPostB pb tb T (d + 1) w r)
theorem Tryz.infoB : (Tryz.prog.info? 37).map (fun i => (i.zero, i.size, i.bytes)) = some (some (.agg #[.int .u8 0, .string (bs []), .slice none 0 0, .slice none 0 0]), 4, 72) := by kernel_rfl
theorem wr_appendB {w : World} {base n : Nat} {v : Value} {xs : List Value} (hown : w.ownsRow base 37 4 v n xs) {b m : Nat} {a0 a1 a2 a3 : Value}
    (hb : w.heap[b]? = some (.cells #[a0, a1, a2, a3] 37 (0, 0))) (h1 : a0.oneCell' = true ∧ a1.oneCell' = true ∧ a2.oneCell' = true ∧ a3.oneCell' = true)
    (hn : n ≤ 100000) (hbase : base ≤ w.heap.size) {K : Value → World → Prop} {X : Value → World → Prop}
    (h : ∀ v' w', w'.ownsRow base 37 4 v' (n + 1) (xs ++ [a0, a1, a2, a3]) → w.grownBy w' v.ownBlock → (v'.ownBlock = v.ownBlock ∨ ∀ k, v'.ownBlock = some k → w.heap.size ≤ k) → K v' w') :
    WR Tryz.prog (Builtin.append_ #[35, 35] 35 #[v, .slice (some ⟨b, 0, none⟩) 1 m]) w K X := by
  obtain ⟨i, hi, h0⟩ := Option.map_eq_some_iff.1 Tryz.infoB
  simp only [Prod.mk.injEq] at h0
  obtain ⟨hz, hs, hbt⟩ := h0
  refine wr_append (t := 35) (e := 37) (by kernel_rfl) hi hz hs hbt rfl (by decide) hown hb rfl (fun u hu => ?_) (by omega) (by decide) hbase h
  simp only [List.mem_cons, List.not_mem_nil, or_false] at hu
  rcases hu with rfl | rfl | rfl | rfl
  · exact h1.1
  · exact h1.2.1
  · exact h1.2.2.1
  · exact h1.2.2.2
end Go.Proofs.YtkmpelgfhjgddaaGreatDoor
namespace Go.Proofs.YtkmpelgfhjgddaaGreatDoor
open Go.RowKit Sx
set_option maxRecDepth 100000
structure RowB (w w1 : World) (v : Value) (acc : List P.Bd) : Prop where
  own : ∃ xs, w1.ownsRow w.heap.size 37 4 v acc.length xs ∧ IsRbs (Fx w w1 v) w1 xs acc
end Go.Proofs.YtkmpelgfhjgddaaGreatDoor
namespace Go.Proofs.YtkmpelgfhjgddaaGreatDoor
open Go.Proofs.YtkmpelgfhjgddaaGreatDoor.Sx
set_option maxRecDepth 100000
set_option linter.unusedVariables false
def sh_Pr_parser_finished (p0 : Value) (w : World) (R : Ending → World → Prop) : Prop :=
  CA Tryz.prog 16 #[p0] w (fun x4 w1 =>
  WR Tryz.prog (Instr.alloc 60 true (.tuple #[])) w1 (fun x2 w1_1 =>
  WU Tryz.prog (Instr.storeAt 60 x2 x4) w1_1 (fun w1_2 =>
  JN (fun j =>
    NC p0 fun x6 =>
    RD Tryz.prog (Instr.fieldAt 58 x6 4) w1_2 (fun x7 =>
    RD Tryz.prog (Instr.loadAt 29 x7) w1_2 (fun x8 =>
    RD Tryz.prog (bo .eql 29 (.tmp 8) (.const (.int .i64 0)) x8 (.int .i64 0)) w1_2 (fun x9 => BS x9 (
    RD Tryz.prog (Instr.fieldAt 60 x2 0) w1_2 (fun x11 =>
    RD Tryz.prog (Instr.loadAt 5 x11) w1_2 (fun x12 =>
    RD Tryz.prog (bo .neq 5 (.tmp 12) (.const (.int .u8 101)) x12 (.int .u8 101)) w1_2 (fun x13 =>
    j (sOf [(14, x13)]) w1_2) (PX R)) (PX R)) (PX R)) (
    j (sOf [(14, (.bool false))]) w1_2)) (PX R)) (PX R)) (PX R))
    (fun s d w1_3 =>
    BS (s 14) (CA Tryz.prog 31 #[p0] w1_3 (fun x16 w1_4 =>
    R (.returned (.tuple #[])) w1_4) (PC R)) (R (.returned (.tuple #[])) w1_3))) (PX R)) (PX R)) (PC R)
theorem sh_Pr_parser_finished_ok {p0 : Value} {w : World} {R : Ending → World → Prop} (h : sh_Pr_parser_finished p0 w R) : Calls Tryz.prog 23 #[p0] w R :=
  callsEq (args := [p0]) (good (fun _ => []) (fun n => match n with | 1000 => some [14] | _ => none) (fun _ => 0) (fun _ => none) (fun _ => []) (fun n => match n with | 1000 => [] | _ => []) (fun _ => false) (fun n => match n with | 13 => true | 14 => true | _ => false)) Tryz.func23 rfl (by kernel_rfl) (by kernel_rfl) (Nat.le_of_ble_eq_true (by kernel_rfl)) [] (by kernel_rfl) h
end Go.Proofs.YtkmpelgfhjgddaaGreatDoor
namespace Go.Proofs.YtkmpelgfhjgddaaGreatDoor.P
structure MonoB (T : List Tok) (f : Nat) : Prop where
  lit : ∀ k v d x k' v', pLit T f k v d = some (.ok x k' v') → k < k'
  lits : ∀ k v d acc x k' v', pLits T f k v d acc = some (.ok x k' v') → k < k'
  row : ∀ k v d x k' v', pRow T f k v d = some (.ok x k' v') → k < k'
  rest : ∀ k v d x k' v', pRest T f k v d = some (.ok x k' v') → k < k'
  body : ∀ k v d x k' v', pBody T f k v d = some (.ok x k' v') → k < k'
def whole : Bd → Prop
  | .mk kind _ _ parts => kind = 63 → parts.length = 3
structure WholeB (T : List Tok) (f : Nat) : Prop where
  lit : ∀ k v d x k' v', pLit T f k v d = some (.ok x k' v') → whole x
  lits : ∀ k v d acc x k' v', (∀ b ∈ acc, whole b) → pLits T f k v d acc = some (.ok x k' v') → (∀ b ∈ x, whole b) ∧ acc.length < x.length
  row : ∀ k v d x k' v', pRow T f k v d = some (.ok x k' v') → whole x
  rest : ∀ k v d x k' v', pRest T f k v d = some (.ok x k' v') → whole x
  body : ∀ k v d x k' v', pBody T f k v d = some (.ok x k' v') → whole x
end Go.Proofs.YtkmpelgfhjgddaaGreatDoor.P
namespace Go.Proofs.YtkmpelgfhjgddaaGreatDoor.P
def small (s : Bs) : Prop := ∃ c r, s = c :: r ∧ cls c = 115
def headOk (x : Ex) : Prop := (x.kind = 97 → x.args = [] ∧ (x.name = [91, 93] ∨ small x.name)) ∧ (x.kind = 99 → x.name ∈ [[46], [43], [45], [42], [47, 47]] ∨ small x.name)
structure HeadT (T : List Tok) (f : Nat) : Prop where
  prim : ∀ k v d x k' v', pPrim T f k v d = some (.ok x k' v') → headOk x
  list : ∀ k v d x k' v', pList T f k v d = some (.ok x k' v') → headOk x
  oper : ∀ l k v d x k' v', pOper T f l k v d = some (.ok x k' v') → headOk x
  more : ∀ l y k v d x k' v', headOk y → pMore T f l y k v d = some (.ok x k' v') → headOk x
end Go.Proofs.YtkmpelgfhjgddaaGreatDoor.P
namespace Go.Proofs.YtkmpelgfhjgddaaGreatDoor.P
theorem lexGo_some : ∀ (f : Nat) (r : Bs) (i : Nat), r.length < f → ∃ q, lexGo f r i = some q
  | 0, r, i, h => absurd h (Nat.not_lt_zero _)
  | f + 1, [], i, _ => ⟨_, by rw [lexGo]⟩
  | f + 1, c :: r, i, h => by
    have h1 : r.length < f := by simpa using h
    rw [lexGo]
    split
    · exact lexGo_some f r (i + 1) h1
    split
    · dsimp only
      split
      · exact ⟨_, rfl⟩
      · rename_i hc hw
        have hl : ((c :: r).drop ((c :: r).takeWhile (fun x => cls x ≠ 0)).length).length < f := by
          have : 0 < ((c :: r).takeWhile (fun x => cls x ≠ 0)).length := by
            rw [List.takeWhile_cons, if_pos (by simpa using hc)]
            simp
          rw [List.length_drop]
          simp only [List.length_cons] at h ⊢
          omega
        obtain ⟨q, hq⟩ := lexGo_some f ((c :: r).drop ((c :: r).takeWhile (fun x => cls x ≠ 0)).length) (i + ((c :: r).takeWhile (fun x => cls x ≠ 0)).length) hl
        rw [hq]
        cases q <;> exact ⟨_, rfl⟩
    split
    · obtain ⟨q, hq⟩ := lexGo_some f r (i + 1) h1
      rw [hq]
      cases q <;> exact ⟨_, rfl⟩
    split
    · exact ⟨_, rfl⟩
    · rename_i s hs
      have hm := List.mem_of_find?_eq_some hs
      have hl : ((c :: r).drop s.length).length < f := by
        have : 0 < s.length := by
          revert hm
          generalize s = t
          intro hm
          simp only [signs, List.mem_cons, List.not_mem_nil, or_false] at hm
          rcases hm with rfl | rfl | rfl | rfl | rfl | rfl | rfl | rfl | rfl | rfl | rfl | rfl | rfl | rfl | rfl | rfl | rfl | rfl | rfl | rfl | rfl | rfl | rfl <;> decide
        rw [List.length_drop]
        simp only [List.length_cons] at h ⊢
        omega
      obtain ⟨q, hq⟩ := lexGo_some f ((c :: r).drop s.length) (i + s.length) hl
      rw [hq]
      cases q <;> exact ⟨_, rfl⟩
def tokOk (u : Tok) : Prop := u.kind ≤ 4 ∧ (u.kind = 3 → u.text ≠ [] ∧ u.text.all digit = true ∧ u.text.length ≤ 9) ∧ (u.kind = 1 → ∃ c r, u.text = c :: r ∧ cls c = 115) ∧ (u.kind = 2 → u.text ≠ []) ∧ (u.kind = 4 → u.text = [46] ∨ u.text ∈ signs)
theorem wordKind_ok {w : Bs} {i : Nat} (hw : wordKind w ≠ 0) : tokOk ⟨wordKind w, w, i⟩ ∧ wordKind w ≠ 4 := by
  cases w with
  | nil => exact absurd rfl hw
  | cons c r =>
    unfold wordKind at hw ⊢
    dsimp only at hw ⊢
    by_cases h1 : cls c = 115
    · rw [if_pos h1] at hw ⊢
      split at hw
      · rename_i h2
        rw [if_pos h2]
        exact ⟨⟨by simp, by simp, fun _ => ⟨c, r, rfl, h1⟩, by simp, by simp⟩, by decide⟩
      · exact absurd rfl hw
    · rw [if_neg h1] at hw ⊢
      by_cases h3 : cls c = 99
      · rw [if_pos h3] at hw ⊢
        split at hw
        · rename_i h2
          rw [if_pos h2]
          exact ⟨⟨by simp, by simp, by simp, by simp, by simp⟩, by decide⟩
        · exact absurd rfl hw
      · rw [if_neg h3] at hw ⊢
        split at hw
        · rename_i h2
          rw [if_pos h2]
          exact ⟨⟨by simp, fun _ => ⟨by simp, h2.2.1, h2.1⟩, by simp, by simp, by simp⟩, by decide⟩
        · exact absurd rfl hw
structure LexOk (n : Nat) (T : List Tok) : Prop where
  len : T.length ≤ n + 1
  last : ∃ l t, T = l ++ [t] ∧ t.kind = 0 ∧ ∀ u ∈ l, u.kind ≠ 0
  tok : ∀ u ∈ T, tokOk u
theorem LexOk.cons {n m : Nat} {T : List Tok} (h : LexOk n T) {u : Tok} (hu : tokOk u) (h0 : u.kind ≠ 0) (hm : n < m) : LexOk m (u :: T) := by
  obtain ⟨h1, ⟨l, t, rfl, h2, h3⟩, h4⟩ := h
  refine ⟨by simp at h1 ⊢; omega, ⟨u :: l, t, rfl, h2, fun v hv => ?_⟩, fun v hv => ?_⟩
  · rcases List.mem_cons.1 hv with rfl | hv
    · exact h0
    · exact h3 v hv
  · rcases List.mem_cons.1 hv with rfl | hv
    · exact hu
    · exact h4 v hv
theorem LexOk.mono {n m : Nat} {T : List Tok} (h : LexOk n T) (hm : n ≤ m) : LexOk m T := ⟨by have := h.len; omega, h.last, h.tok⟩
theorem lexGo_ok : ∀ (f : Nat) (r : Bs) (i : Nat) (T : List Tok), lexGo f r i = some (.inr T) → LexOk r.length T
  | 0, r, i, T, h => by rw [lexGo] at h; cases h
  | f + 1, [], i, T, h => by
    rw [lexGo] at h
    simp only [Option.some.injEq, Sum.inr.injEq] at h
    subst h
    exact ⟨by simp, ⟨[], _, rfl, rfl, by simp⟩, fun u hu => by
      simp only [List.mem_cons, List.not_mem_nil, or_false] at hu
      subst hu
      exact ⟨by simp, by simp, by simp, by simp, by simp⟩⟩
  | f + 1, c :: r, i, T, h => by
    rw [lexGo] at h
    split at h
    · exact (lexGo_ok f r (i + 1) T h).mono (by simp)
    split at h
    · dsimp only at h
      split at h
      · cases h
      · rename_i hc hw
        have hpos : 0 < ((c :: r).takeWhile (fun x => cls x ≠ 0)).length := by
          rw [List.takeWhile_cons, if_pos (by simpa using hc)]
          simp
        cases hq : lexGo f ((c :: r).drop ((c :: r).takeWhile (fun x => cls x ≠ 0)).length) (i + ((c :: r).takeWhile (fun x => cls x ≠ 0)).length) with
        | none => rw [hq] at h; cases h
        | some q =>
          rw [hq] at h
          cases q with
          | inl j => cases h
          | inr l =>
            simp only [Option.some.injEq, Sum.inr.injEq] at h
            rw [← h]
            refine (lexGo_ok f _ _ l hq).cons (wordKind_ok hw).1 hw ?_
            rw [List.length_drop]
            simp only [List.length_cons]
            omega
    split at h
    · cases hq : lexGo f r (i + 1) with
      | none => rw [hq] at h; cases h
      | some q =>
        rw [hq] at h
        cases q with
        | inl j => cases h
        | inr l =>
          simp only [Option.some.injEq, Sum.inr.injEq] at h
          rw [← h]
          exact (lexGo_ok f _ _ l hq).cons ⟨by simp, by simp, by simp, by simp, fun _ => .inl rfl⟩ (by simp) (by simp)
    split at h
    · cases h
    · rename_i s hs
      have hm := List.mem_of_find?_eq_some hs
      have hl : 0 < s.length := by
        revert hm
        generalize s = t
        intro hm
        simp only [signs, List.mem_cons, List.not_mem_nil, or_false] at hm
        rcases hm with rfl | rfl | rfl | rfl | rfl | rfl | rfl | rfl | rfl | rfl | rfl | rfl | rfl | rfl | rfl | rfl | rfl | rfl | rfl | rfl | rfl | rfl | rfl <;> decide
      cases hq : lexGo f ((c :: r).drop s.length) (i + s.length) with
      | none => rw [hq] at h; cases h
      | some q =>
        rw [hq] at h
        cases q with
        | inl j => cases h
        | inr l =>
          simp only [Option.some.injEq, Sum.inr.injEq] at h
          rw [← h]
          refine (lexGo_ok f _ _ l hq).cons ⟨by simp, by simp, by simp, by simp, fun _ => .inr hm⟩ (by simp) ?_
          rw [List.length_drop]
          simp only [List.length_cons]
          omega
def lex (s : Bs) : Sum Nat (List Tok) := (lexGo (s.length + 1) s 0).getD (.inl 0)
theorem lex_eq (s : Bs) : lexGo (s.length + 1) s 0 = some (lex s) := by
  obtain ⟨q, hq⟩ := lexGo_some (s.length + 1) s 0 (Nat.lt_succ_self _)
  rw [lex, hq]; rfl
end Go.Proofs.YtkmpelgfhjgddaaGreatDoor.P
namespace Go.Proofs.YtkmpelgfhjgddaaGreatDoor
theorem twhile (p : UInt8 → Bool) : ∀ (l : P.Bs), (∀ m, m < (l.takeWhile p).length → p (l.getD m 0) = true) ∧ ((l.takeWhile p).length < l.length → p (l.getD (l.takeWhile p).length 0) = false) ∧ (l.takeWhile p).length ≤ l.length ∧ l.take (l.takeWhile p).length = l.takeWhile p
  | [] => ⟨fun m h => absurd h (Nat.not_lt_zero _), fun h => absurd h (Nat.not_lt_zero _), Nat.le_refl _, rfl⟩
  | c :: l => by
    obtain ⟨h1, h2, h3, h4⟩ := twhile p l
    by_cases hc : p c = true
    · rw [List.takeWhile_cons, if_pos hc]
      refine ⟨fun m hm => ?_, fun h => ?_, by simpa using h3, by simp [h4]⟩
      · cases m with
        | zero => exact hc
        | succ m => exact h1 m (by simpa using hm)
      · exact h2 (by simpa using h)
    · rw [List.takeWhile_cons, if_neg hc]
      exact ⟨fun m h => absurd h (Nat.not_lt_zero _), fun _ => by simpa using hc, by simp, rfl⟩
theorem getD_drop0 (s : P.Bs) (j m : Nat) : (s.drop j).getD m 0 = s.getD (j + m) 0 := by
  simp [List.getD_eq_getElem?_getD, List.getElem?_drop]
theorem isPrefix_iff (x s : P.Bs) (j : Nat) : x.isPrefixOf (s.drop j) = true ↔ (j + x.length ≤ s.length ∨ x = []) ∧ (s.take (j + x.length)).drop j = x := by
  rw [List.isPrefixOf_iff_prefix, List.prefix_iff_eq_take, List.drop_take, show j + x.length - j = x.length by omega]
  constructor
  · intro h
    refine ⟨?_, h.symm⟩
    have := congrArg List.length h
    simp at this
    rcases Nat.lt_or_ge 0 x.length with h0 | h0
    · left; omega
    · right; exact List.eq_nil_of_length_eq_zero (by omega)
  · rintro ⟨-, h⟩
    exact h.symm
theorem signs_ne {x : P.Bs} (h : x ∈ P.signs) : x ≠ [] ∧ x.length ≤ 3 := by
  simp only [P.signs, List.mem_cons, List.not_mem_nil, or_false] at h
  rcases h with rfl | rfl | rfl | rfl | rfl | rfl | rfl | rfl | rfl | rfl | rfl | rfl | rfl | rfl | rfl | rfl | rfl | rfl | rfl | rfl | rfl | rfl | rfl <;> decide
def signK (p : P.Bs → Bool) (k : Nat) : P.Bs := ((P.signs.take k).find? p).getD []
theorem signK_succ {p : P.Bs → Bool} {k : Nat} (hk : k < 23) (h : signK p k = []) : signK p (k + 1) = if p (P.signs.getD k []) = true then P.signs.getD k [] else [] := by
  have hl : k < P.signs.length := hk
  have hn : (P.signs.take k).find? p = none := by
    cases hf : (P.signs.take k).find? p with
    | none => rfl
    | some x =>
      rw [signK, hf] at h
      exact absurd h (signs_ne (List.mem_of_mem_take (List.mem_of_find?_eq_some hf))).1
  have hg : P.signs.getD k [] = P.signs[k] := by rw [List.getD_eq_getElem?_getD, List.getElem?_eq_getElem hl]; rfl
  rw [signK, List.take_add_one, List.find?_append, hn, List.getElem?_eq_getElem hl, hg]
  simp only [Option.toList, Option.none_or, List.find?_cons, List.find?_nil]
  split <;> rename_i hp
  · rw [if_pos hp]; rfl
  · rw [if_neg (by simp [hp])]; rfl
theorem signK_all (p : P.Bs → Bool) : signK p 23 = (P.signs.find? p).getD [] := rfl
theorem signK_ne {p : P.Bs → Bool} {k : Nat} (h : signK p k ≠ []) : signK p 23 = signK p k := by
  have e : P.signs = P.signs.take k ++ P.signs.drop k := (List.take_append_drop k _).symm
  rw [signK_all]
  unfold signK at h ⊢
  cases hf : (P.signs.take k).find? p with
  | none => rw [hf] at h; exact absurd rfl h
  | some x => rw [e, List.find?_append, hf]; rfl
def lexFin (acc : List P.Tok) : Sum Nat (List P.Tok) → Sum Nat (List P.Tok)
  | .inl i => .inl i
  | .inr l => .inr (acc ++ l)
end Go.Proofs.YtkmpelgfhjgddaaGreatDoor
namespace Go.Proofs.YtkmpelgfhjgddaaGreatDoor
open Go.RowKit Sx
set_option maxRecDepth 100000
structure ClSt (pb tb : Nat) (T : List P.Tok) (w : World) (q3 q : Nat) (nm : P.Bs) (at_ : Nat) (r : P.Res P.Cl) (cont : List P.Ex → P.Bd → Nat → List P.Bs → Option (P.Res P.Cl)) (w' : World) : Prop where
  fr : RFr pb w w'
  z2 : w'.heap[w.heap.size]? = some (.cells #[.string (bs []), .slice none 0 0, .int .u8 0, .string (bs []), .slice none 0 0, .slice none 0 0, .slice none 0 0] 40 (0, 0))
  t3 : w'.heap[q3]? = some (.cells #[.int .u8 97, .string (bs nm), .int .i64 at_] 60 (0, 0))
  st : ∃ av b0 b1 b2 b3, w'.heap[q]? = some (.cells #[.string (bs nm), av, b0, b1, b2, b3, .slice none 0 0] 40 (0, 0)) ∧
    (av.oneCell' = true ∧ b0.oneCell' = true ∧ b1.oneCell' = true ∧ b2.oneCell' = true ∧ b3.oneCell' = true) ∧
    ((∃ us l bd k vs, IsRw (fun b => q < b ∧ b < w'.heap.size) w' 69 5 av l.length us ∧ IsRxs (fun b => q < b ∧ b < w'.heap.size) w' us l ∧ IsRb (fun b => q < b ∧ b < w'.heap.size) w' [b0, b1, b2, b3] bd ∧
        RP w' pb tb T k vs 0 0 0 ∧ cont l bd k vs = some r) ∨
      (∃ c a k vs, c ≠ 0 ∧ r = .err c a ∧ RP w' pb tb T k vs 0 c a))
end Go.Proofs.YtkmpelgfhjgddaaGreatDoor
