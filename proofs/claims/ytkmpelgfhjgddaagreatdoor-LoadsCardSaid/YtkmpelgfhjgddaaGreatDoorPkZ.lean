/- A part of one proof (RW16b, RW19); no conditions beyond what each theorem names. -/
import Derived.Test.YtkmpelgfhjgddaaGreatDoorPkY
import Derived.Test.YtkmpelgfhjgddaaGreatDoorPkA
set_option linter.all false
set_option linter.unusedVariables false
set_option linter.unusedSimpArgs false
namespace Go.Proofs.YtkmpelgfhjgddaaGreatDoor
open Go.RowKit Sx
set_option maxRecDepth 100000
theorem isRb_rx {F : Nat → Prop} {w : World} {a b c f av : Value} {kd : Nat} {nm : P.Bs} {n : Int} {k : Nat} {args : List P.Ex} (h : IsRx F w [a, b, c, f, av] (.mk kd nm n k args)) (kd' : Nat) (nm' : P.Bs) :
    IsRb F w [.int .u8 kd', .string (bs nm'), av, .slice none 0 0] (.mk kd' nm' args []) := by
  unfold IsRx at h
  obtain ⟨av', vs, e, h1, h2⟩ := h
  injection e with _ e; injection e with _ e; injection e with _ e; injection e with _ e; injection e with e _
  subst e
  unfold IsRb
  exact ⟨_, _, vs, [], rfl, h1, h2, .inl ⟨rfl, rfl, rfl⟩, isRbs_nil⟩
set_option maxHeartbeats 1000000 in
theorem rGoalT {f : Nat} {pb tb : Nat} {T : List P.Tok} {k : Nat} {vars : List P.Bs} {d : Nat} {w : World} {r : P.Res P.Bd} (h : RP w pb tb T k vars (d + 1 : Nat) 0 0) (hd : d + 1 ≤ 8)
      (h1 : P.isT T k [33] = false) (h2 : P.isT T k [92, 43] = false) (h3 : P.isT T k [40] = false) (hr : P.pLit T (f + 1) k vars d = some r) :
      Calls Tryz.prog 100 #[.pointer (some ⟨pb, 0, none⟩)] w (RPostB pb tb T (d + 1) w r) := by
  obtain ⟨l1, hkt, hlT, h4⟩ := h.cs
  rw [P.pLit, if_neg (by unfold P.maxDepth; omega), if_neg (by simp [h1]), if_neg (by simp [h2]), if_neg (by simp [h3])] at hr
  have hf0 : Ext w (w.alloc (.cells #[.int .u8 0, .string (bs []), .slice none 0 0, .slice none 0 0] 37)) := by (repeat (first | assumption | exact FrM.refl _ _ | (refine FrM.upd ?_ (.inr (by (try simp only [size_alloc, sz_drew, size_upd, List.size_toArray, List.length_cons, List.length_nil]) <;> omega))) | refine FrM.alloc ?_ _ | refine FrM.drew ?_))
  have c0 : (w.alloc (.cells #[.int .u8 0, .string (bs []), .slice none 0 0, .slice none 0 0] 37)).heap[w.heap.size]? = some (.cells #[.int .u8 0, .string (bs []), .slice none 0 0, .slice none 0 0] 37 (0, 0)) := blk_alloc_new w _
  refine sh_Pr_parser_goal_ok ?_
  simp (disch := first | assumption | omega | ((simp only [size_alloc, sz_drew, size_upd, List.size_toArray, List.length_cons, List.length_nil]) <;> omega) | decide) only [sh_Pr_parser_goal, Pr, PX, PC, NX, ends, fillL, wrL, sOf, Nat.reduceAdd, Nat.reduceMul, Nat.reduceLeDiff, Nat.reduceEqDiff, Int.reduceToNat, Int.reduceAdd, Int.reduceLT, Int.reduceLE, ↓reduceIte, forall_const, eq_self, zG1, zG2, al_37, al_60, al_69, bd_37, br_34_2, br_35_1, fa_58_1, fa_58_4, fa_60_0, fa_60_1, fa_60_2, fa_69_0, fa_69_1, fa_69_4, ld_29, ld_3, ld_34, ld_37, ld_5, ld_69, ld_9, ln_34, st_3, st_37, st_60, st_69]
  refine Calls.mono (rIs_no (h.ext hf0) [33] (.inr h1)) ?_
  rintro e w1 ⟨rfl, hP1, hF1⟩
  have d0 := SFr.keep hF1 c0 (by omega) (by decide)
  simp (disch := first | assumption | omega | ((simp only [size_alloc, sz_drew, size_upd, List.size_toArray, List.length_cons, List.length_nil]) <;> omega) | decide) only [sh_Pr_parser_goal, Pr, PX, PC, NX, ends, fillL, wrL, sOf, Nat.reduceAdd, Nat.reduceMul, Nat.reduceLeDiff, Nat.reduceEqDiff, Int.reduceToNat, Int.reduceAdd, Int.reduceLT, Int.reduceLE, ↓reduceIte, forall_const, eq_self, zG1, zG2, al_37, al_60, al_69, bd_37, br_34_2, br_35_1, fa_58_1, fa_58_4, fa_60_0, fa_60_1, fa_60_2, fa_69_0, fa_69_1, fa_69_4, ld_29, ld_3, ld_34, ld_37, ld_5, ld_69, ld_9, ln_34, st_3, st_37, st_60, st_69]
  refine Calls.mono (rIs_no hP1 [92, 43] (.inr h2)) ?_
  rintro e w2 ⟨rfl, hP2, hF2⟩
  have d0 := SFr.keep hF2 d0 (by omega) (by decide)
  simp (disch := first | assumption | omega | ((simp only [size_alloc, sz_drew, size_upd, List.size_toArray, List.length_cons, List.length_nil]) <;> omega) | decide) only [sh_Pr_parser_goal, Pr, PX, PC, NX, ends, fillL, wrL, sOf, Nat.reduceAdd, Nat.reduceMul, Nat.reduceLeDiff, Nat.reduceEqDiff, Int.reduceToNat, Int.reduceAdd, Int.reduceLT, Int.reduceLE, ↓reduceIte, forall_const, eq_self, zG1, zG2, al_37, al_60, al_69, bd_37, br_34_2, br_35_1, fa_58_1, fa_58_4, fa_60_0, fa_60_1, fa_60_2, fa_69_0, fa_69_1, fa_69_4, ld_29, ld_3, ld_34, ld_37, ld_5, ld_69, ld_9, ln_34, st_3, st_37, st_60, st_69]
  refine Calls.mono (rIs_no hP2 [40] (.inr h3)) ?_
  rintro e w3 ⟨rfl, hP3, hF3⟩
  have d0 := SFr.keep hF3 d0 (by omega) (by decide)
  have hF03 := ((hf0.toM.trans hF1).trans hF2).trans hF3
  have ld0 := ltOf d0
  clear hP1 hP2 hF1 hF2 hF3 c0 hf0 h
  simp (disch := first | assumption | omega | ((simp only [size_alloc, sz_drew, size_upd, List.size_toArray, List.length_cons, List.length_nil]) <;> omega) | decide) only [sh_Pr_parser_goal, Pr, PX, PC, NX, ends, fillL, wrL, sOf, Nat.reduceAdd, Nat.reduceMul, Nat.reduceLeDiff, Nat.reduceEqDiff, Int.reduceToNat, Int.reduceAdd, Int.reduceLT, Int.reduceLE, ↓reduceIte, forall_const, eq_self, zG1, zG2, al_37, al_60, al_69, bd_37, br_34_2, br_35_1, fa_58_1, fa_58_4, fa_60_0, fa_60_1, fa_60_2, fa_69_0, fa_69_1, fa_69_4, ld_29, ld_3, ld_34, ld_37, ld_5, ld_69, ld_9, ln_34, st_3, st_37, st_60, st_69]
  refine Calls.mono (rNext hP3) ?_
  rintro e w4 ⟨rfl, hE4⟩
  have hP4 := hP3.ext hE4
  have hF4 := hF03.trans hE4.toM
  have d0 := hE4.ext _ _ d0
  have s4 := hE4.size
  simp (disch := first | assumption | omega | ((simp only [size_alloc, sz_drew, size_upd, List.size_toArray, List.length_cons, List.length_nil]) <;> omega) | decide) only [sh_Pr_parser_goal, Pr, PX, PC, NX, ends, fillL, wrL, sOf, Nat.reduceAdd, Nat.reduceMul, Nat.reduceLeDiff, Nat.reduceEqDiff, Int.reduceToNat, Int.reduceAdd, Int.reduceLT, Int.reduceLE, ↓reduceIte, forall_const, eq_self, zG1, zG2, al_37, al_60, al_69, bd_37, br_34_2, br_35_1, fa_58_1, fa_58_4, fa_60_0, fa_60_1, fa_60_2, fa_69_0, fa_69_1, fa_69_4, ld_29, ld_3, ld_34, ld_37, ld_5, ld_69, ld_9, ln_34, st_3, st_37, st_60, st_69]
  cases hq : P.pOper T f 0 k vars (d + 1) with
  | none => rw [hq] at hr; simp [P.Res.bind] at hr
  | some q =>
  rw [hq] at hr
  have hX : Ext w4 (upd (w4.alloc (.cells #[.int .u8 0, .string (bs []), .int .i64 0] 60)) w4.heap.size (.cells #[.int .u8 (rk (P.tk T k).kind), .string (bs (P.tk T k).text), .int .i64 ((P.tk T k).pos)] 60)) := by (repeat (first | assumption | exact FrM.refl _ _ | (refine FrM.upd ?_ (.inr (by (try simp only [size_alloc, sz_drew, size_upd, List.size_toArray, List.length_cons, List.length_nil]) <;> omega))) | refine FrM.alloc ?_ _ | refine FrM.drew ?_))
  refine Calls.mono ((rTerms f).1.go (hP4.ext hX) hd hq) ?_
  rintro e w5 ⟨x0, x1, x2, x3, x4, rfl, ⟨o0, o1, o2, o3, o4, hsh⟩, hF5, hst⟩
  have s5 := hF5.size
  rw [size_upd, size_alloc] at s5
  have d0 := SFr.keep hF5 (hX.ext _ _ d0) (by omega) (by decide)
  have d1 : w5.heap[w4.heap.size]? = some (.cells #[.int .u8 (rk (P.tk T k).kind), .string (bs (P.tk T k).text), .int .i64 ((P.tk T k).pos)] 60 (0, 0)) := SFr.keep hF5 (by simp (disch := first | assumption | omega | ((simp only [size_alloc, sz_drew, size_upd, List.size_toArray, List.length_cons, List.length_nil]) <;> omega) | decide) only [hp_alloc_old, hp_alloc_new, hp_upd_same, hp_upd_other, hp_drew, sz_drew, size_upd, size_alloc]) (by omega) (by decide)
  obtain ⟨kd, nm, nn, kk, pp, qq, rr, rfl, rfl, rfl, rfl, rfl, hkd⟩ := hsh
  simp (disch := first | assumption | omega | ((simp only [size_alloc, sz_drew, size_upd, List.size_toArray, List.length_cons, List.length_nil]) <;> omega) | decide) only [sh_Pr_parser_goal, Pr, PX, PC, NX, ends, fillL, wrL, sOf, Nat.reduceAdd, Nat.reduceMul, Nat.reduceLeDiff, Nat.reduceEqDiff, Int.reduceToNat, Int.reduceAdd, Int.reduceLT, Int.reduceLE, ↓reduceIte, forall_const, eq_self, zG1, zG2, al_37, al_60, al_69, bd_37, br_34_2, br_35_1, fa_58_1, fa_58_4, fa_60_0, fa_60_1, fa_60_2, fa_69_0, fa_69_1, fa_69_4, ld_29, ld_3, ld_34, ld_37, ld_5, ld_69, ld_9, ln_34, st_3, st_37, st_60, st_69]
  have hF05 := (hF4.trans hX.toM).trans hF5
  have ld4 := hE4.size
  clear hX hF5 hP4 hP3 hE4
  have s04 := hF4.size
  clear hF4
  obtain ⟨k5, vs5, er, at5, hP5, hq5⟩ : ∃ k5 vs5 er at5, RP w5 pb tb T k5 vs5 (d + 1 : Nat) er at5 ∧
      ((er = 0 ∧ at5 = 0 ∧ ∃ x, q = .ok x k5 vs5 ∧ IsRx (fun b => w.heap.size < b ∧ b < w5.heap.size) w5 [.int .u8 kd, .string (bs nm), .int .i64 nn, .int .i64 kk, .slice pp qq rr] x) ∨ (er ≠ 0 ∧ q = .err er at5)) := by
    cases q with
    | err c a =>
      obtain ⟨hc, k2, vs2, hP⟩ := hst
      exact ⟨k2, vs2, c, a, hP, .inr ⟨hc, rfl⟩⟩
    | ok x k2 vs2 =>
      obtain ⟨hx, hP⟩ := hst
      exact ⟨k2, vs2, 0, 0, hP, .inl ⟨rfl, rfl, x, rfl, IsRx.mono (fun b hb => ⟨by have := hb.1; rw [size_upd, size_alloc] at this; omega, hb.2⟩) (fun b cs hb hc => hc) _ _ hx⟩⟩
  clear hst
  have hX6 : Ext w5 (upd (w5.alloc (.cells #[.int .u8 0, .string (bs []), .int .i64 0, .int .i64 0, .slice none 0 0] 69)) w5.heap.size (.cells #[.int .u8 kd, .string (bs nm), .int .i64 nn, .int .i64 kk, .slice pp qq rr] 69)) := by (repeat (first | assumption | exact FrM.refl _ _ | (refine FrM.upd ?_ (.inr (by (try simp only [size_alloc, sz_drew, size_upd, List.size_toArray, List.length_cons, List.length_nil]) <;> omega))) | refine FrM.alloc ?_ _ | refine FrM.drew ?_))
  have d2 : (upd (w5.alloc (.cells #[.int .u8 0, .string (bs []), .int .i64 0, .int .i64 0, .slice none 0 0] 69)) w5.heap.size (.cells #[.int .u8 kd, .string (bs nm), .int .i64 nn, .int .i64 kk, .slice pp qq rr] 69)).heap[w5.heap.size]? = some (.cells #[.int .u8 kd, .string (bs nm), .int .i64 nn, .int .i64 kk, .slice pp qq rr] 69 (0, 0)) := by simp (disch := first | assumption | omega | ((simp only [size_alloc, sz_drew, size_upd, List.size_toArray, List.length_cons, List.length_nil]) <;> omega) | decide) only [hp_alloc_old, hp_alloc_new, hp_upd_same, hp_upd_other, hp_drew, sz_drew, size_upd, size_alloc]
  have d0 := hX6.ext _ _ d0
  have d1 := hX6.ext _ _ d1
  have hP6 := hP5.ext hX6
  have hF06 := hF05.trans hX6.toM
  have k6 : ∀ b cs, Nu w w5 b → w5.heap[b]? = some (.cells cs 69 (0, 0)) → (upd (w5.alloc (.cells #[.int .u8 0, .string (bs []), .int .i64 0, .int .i64 0, .slice none 0 0] 69)) w5.heap.size (.cells #[.int .u8 kd, .string (bs nm), .int .i64 nn, .int .i64 kk, .slice pp qq rr] 69)).heap[b]? = some (.cells cs 69 (0, 0)) :=
    fun b cs _ hc => hX6.ext _ _ hc
  generalize hw6 : upd (w5.alloc (.cells #[.int .u8 0, .string (bs []), .int .i64 0, .int .i64 0, .slice none 0 0] 69)) w5.heap.size (.cells #[.int .u8 kd, .string (bs nm), .int .i64 nn, .int .i64 kk, .slice pp qq rr] 69) = w6 at *
  refine Calls.mono (rNext hP6) ?_
  rintro e w7 ⟨rfl, hE7⟩
  simp (disch := first | assumption | omega | ((simp only [size_alloc, sz_drew, size_upd, List.size_toArray, List.length_cons, List.length_nil]) <;> omega) | decide) only [sh_Pr_parser_goal, Pr, PX, PC, NX, ends, fillL, wrL, sOf, Nat.reduceAdd, Nat.reduceMul, Nat.reduceLeDiff, Nat.reduceEqDiff, Int.reduceToNat, Int.reduceAdd, Int.reduceLT, Int.reduceLE, ↓reduceIte, forall_const, eq_self, zG1, zG2, al_37, al_60, al_69, bd_37, br_34_2, br_35_1, fa_58_1, fa_58_4, fa_60_0, fa_60_1, fa_60_2, fa_69_0, fa_69_1, fa_69_4, ld_29, ld_3, ld_34, ld_37, ld_5, ld_69, ld_9, ln_34, st_3, st_37, st_60, st_69]
  have hX8 : Ext w6 (upd (w7.alloc (.cells #[.int .u8 0, .string (bs []), .int .i64 0] 60)) w7.heap.size (.cells #[.int .u8 (rk (P.tk T k5).kind), .string (bs (P.tk T k5).text), .int .i64 ((P.tk T k5).pos)] 60)) := by
    have := hE7.size
    (repeat (first | assumption | exact FrM.refl _ _ | (refine FrM.upd ?_ (.inr (by (try simp only [size_alloc, sz_drew, size_upd, List.size_toArray, List.length_cons, List.length_nil]) <;> omega))) | refine FrM.alloc ?_ _ | refine FrM.drew ?_))
  have d3 : (upd (w7.alloc (.cells #[.int .u8 0, .string (bs []), .int .i64 0] 60)) w7.heap.size (.cells #[.int .u8 (rk (P.tk T k5).kind), .string (bs (P.tk T k5).text), .int .i64 ((P.tk T k5).pos)] 60)).heap[w7.heap.size]? = some (.cells #[.int .u8 (rk (P.tk T k5).kind), .string (bs (P.tk T k5).text), .int .i64 ((P.tk T k5).pos)] 60 (0, 0)) := by simp (disch := first | assumption | omega | ((simp only [size_alloc, sz_drew, size_upd, List.size_toArray, List.length_cons, List.length_nil]) <;> omega) | decide) only [hp_alloc_old, hp_alloc_new, hp_upd_same, hp_upd_other, hp_drew, sz_drew, size_upd, size_alloc]
  have d0 := hX8.ext _ _ d0
  have d1 := hX8.ext _ _ d1
  have d2 := hX8.ext _ _ d2
  have hP8 := hP6.ext hX8
  have hF08 := hF06.trans hX8.toM
  have k8 := fun b cs hb hc => hX8.ext _ _ (k6 b cs hb hc)
  have s67 := hE7.size
  have s56 := hX6.size
  generalize hw8 : upd (w7.alloc (.cells #[.int .u8 0, .string (bs []), .int .i64 0] 60)) w7.heap.size (.cells #[.int .u8 (rk (P.tk T k5).kind), .string (bs (P.tk T k5).text), .int .i64 ((P.tk T k5).pos)] 60) = w8 at *
  clear hw8 hw6 hX8 hE7 k6 hF06 hP6 hX6 hF05 hP5
  refine (rTests _ _).mono ?_
  rintro e w9 ⟨rfl, rfl⟩
  obtain ⟨lc, vv, hx8⟩ := id hP8
  have h3 := hx8.cell
  have hk4 := hx8.kind4
  have hk5 := hx8.kt
  have e1 : ((rk (P.tk T k5).kind : Nat) : Int) = 115 ↔ (P.tk T k5).kind = 4 := by have := rk_sign hk4; omega
  have e2 : ((rk (P.tk T k5).kind : Nat) : Int) = 97 ↔ (P.tk T k5).kind = 1 := by have := rk_atom hk4; omega
  have hpb5 : pb < w5.heap.size := by omega
  have hcm := @cmpAt_eq T k5
  refine ⟨fun s w' => w' = w9 ∧ s 62 = .bool (decide (er = 0 ∧ P.tests (P.tk T k5).text = 2 ∧ ((P.tk T k5).kind = 4 ∨ (P.tk T k5).kind = 1))), ?_, ?_⟩
  · simp (disch := first | assumption | omega | ((simp only [size_alloc, sz_drew, size_upd, List.size_toArray, List.length_cons, List.length_nil]) <;> omega) | decide) only [sh_Pr_parser_goal, Pr, PX, PC, NX, ends, fillL, wrL, sOf, Nat.reduceAdd, Nat.reduceMul, Nat.reduceLeDiff, Nat.reduceEqDiff, Int.reduceToNat, Int.reduceAdd, Int.reduceLT, Int.reduceLE, ↓reduceIte, forall_const, eq_self, zG1, zG2, al_37, al_60, al_69, bd_37, br_34_2, br_35_1, fa_58_1, fa_58_4, fa_60_0, fa_60_1, fa_60_2, fa_69_0, fa_69_1, fa_69_4, ld_29, ld_3, ld_34, ld_37, ld_5, ld_69, ld_9, ln_34, st_3, st_37, st_60, st_69, h3, d3, bs_dec]
    simp only [e1, e2]
    by_cases b1 : er = 0 <;> by_cases b2 : P.tests (P.tk T k5).text = 2 <;> by_cases b3 : (P.tk T k5).kind = 4 <;> by_cases b4 : (P.tk T k5).kind = 1 <;> simp [b1, b2, b3, b4]
  · rintro s w' ⟨rfl, hs⟩ dd
    rw [hs]
    by_cases hcmp : er = 0 ∧ P.tests (P.tk T k5).text = 2 ∧ ((P.tk T k5).kind = 4 ∨ (P.tk T k5).kind = 1)
    · rw [bs_pos _ _ hcmp]
      obtain ⟨rfl, htt, hkk⟩ := hcmp
      simp (disch := first | assumption | omega | ((simp only [size_alloc, sz_drew, size_upd, List.size_toArray, List.length_cons, List.length_nil]) <;> omega) | decide) only [sh_Pr_parser_goal, Pr, PX, PC, NX, ends, fillL, wrL, sOf, Nat.reduceAdd, Nat.reduceMul, Nat.reduceLeDiff, Nat.reduceEqDiff, Int.reduceToNat, Int.reduceAdd, Int.reduceLT, Int.reduceLE, ↓reduceIte, forall_const, eq_self, zG1, zG2, al_37, al_60, al_69, bd_37, br_34_2, br_35_1, fa_58_1, fa_58_4, fa_60_0, fa_60_1, fa_60_2, fa_69_0, fa_69_1, fa_69_4, ld_29, ld_3, ld_34, ld_37, ld_5, ld_69, ld_9, ln_34, st_3, st_37, st_60, st_69, h3, d3]
      obtain ⟨-, rfl, x, rfl, hx5⟩ := hq5.resolve_right (by simp)
      simp only [P.Res.bind] at hr
      rw [hcm, if_pos ⟨hkk, htt⟩] at hr
      dsimp only at hr
      have hnx := hx8.tw.toTW.next hk5 (by omega)
      have hP9 := RP.of (hx8.set (k' := k5 + 1) (kz := (k5 : Int) + 1) (d' := (d + 1 : Nat)) (er' := 0) (at' := 0) hnx (by omega) (by omega) (fun h => h))
      cases hq2 : P.pOper T f 0 (k5 + 1) vs5 (d + 1) with
      | none => rw [hq2] at hr; simp [P.Res.bind] at hr
      | some q2 =>
      rw [hq2] at hr
      refine Calls.mono ((rTerms f).1.go hP9 hd hq2) ?_
      rintro e wA ⟨y0, y1, y2, y3, y4, rfl, ⟨p0, p1, p2, p3, p4, hshy⟩, hFA, hsty⟩
      have sA := hFA.size
      rw [size_upd] at sA
      have a0 := SFr.keep hFA (by rw [hp_upd_other (show ¬ w.heap.size = pb by omega)]; exact d0) (by omega) (by decide)
      have a2 := SFr.keep hFA (by rw [hp_upd_other (show ¬ w5.heap.size = pb by omega)]; exact d2) (by omega) (by decide)
      have a3 := SFr.keep hFA (by rw [hp_upd_other (show ¬ w7.heap.size = pb by omega)]; exact d3) (by omega) (by decide)
      obtain ⟨kdy, nmy, nny, kky, ppy, qqy, rry, rfl, rfl, rfl, rfl, rfl, hkdy⟩ := hshy
      have la0 := ltOf a0
      have la2 := ltOf a2
      have la3 := ltOf a3
      simp (disch := first | assumption | omega | ((simp only [size_alloc, sz_drew, size_upd, List.size_toArray, List.length_cons, List.length_nil]) <;> omega) | decide) only [sh_Pr_parser_goal, Pr, PX, PC, NX, ends, fillL, wrL, sOf, Nat.reduceAdd, Nat.reduceMul, Nat.reduceLeDiff, Nat.reduceEqDiff, Int.reduceToNat, Int.reduceAdd, Int.reduceLT, Int.reduceLE, ↓reduceIte, forall_const, eq_self, zG1, zG2, al_37, al_60, al_69, bd_37, br_34_2, br_35_1, fa_58_1, fa_58_4, fa_60_0, fa_60_1, fa_60_2, fa_69_0, fa_69_1, fa_69_4, ld_29, ld_3, ld_34, ld_37, ld_5, ld_69, ld_9, ln_34, st_3, st_37, st_60, st_69, a0, a2, a3]
      generalize hwC : (upd (wA.alloc (.cells #[.int .u8 0, .string (bs []), .int .i64 0, .int .i64 0, .slice none 0 0] 69)) wA.heap.size (.cells #[.int .u8 kdy, .string (bs nmy), .int .i64 nny, .int .i64 kky, .slice ppy qqy rry] 69)).alloc
          (.cells #[.int .u8 kd, .string (bs nm), .int .i64 nn, .int .i64 kk, .slice pp qq rr, .int .u8 kdy, .string (bs nmy), .int .i64 nny, .int .i64 kky, .slice ppy qqy rry] 69) = wC
      have hXC : Ext wA wC := by rw [← hwC]; (repeat (first | assumption | exact FrM.refl _ _ | (refine FrM.upd ?_ (.inr (by (try simp only [size_alloc, sz_drew, size_upd, List.size_toArray, List.length_cons, List.length_nil]) <;> omega))) | refine FrM.alloc ?_ _ | refine FrM.drew ?_))
      have q1 : wC.heap[wA.heap.size + 1]? = some (.cells #[.int .u8 kd, .string (bs nm), .int .i64 nn, .int .i64 kk, .slice pp qq rr, .int .u8 kdy, .string (bs nmy), .int .i64 nny, .int .i64 kky, .slice ppy qqy rry] 69 (0, 0)) := by rw [← hwC]; exact hp_alloc_new (by rw [size_upd, size_alloc])
      have sC : wC.heap.size = wA.heap.size + 2 := by rw [← hwC, size_alloc, size_upd, size_alloc]
      have hF08u : RFr pb w (upd w' pb (.cells #[.slice (some ⟨tb, 0, none⟩) T.length lc, .int .i64 (↑k5 + 1), vv, .int .i64 ↑(d + 1), .int .i64 ↑0, .int .i64 ↑0] 58)) := hF08.upd (.inl fun _ => .inl rfl)
      refine ⟨_, _, _, _, rfl, ⟨rfl, rfl, rfl, rfl⟩, ((hF08u.trans hFA).trans hXC.toM).upd (.inr (Nat.le_refl _)), ?_⟩
      cases q2 with
      | err c a =>
        obtain ⟨hc, k2, vs2, hP⟩ := hsty
        simp only [P.Res.bind, Option.some.injEq] at hr
        rw [← hr]
        exact ⟨hc, _, _, (hP.ext hXC).updT l1 (hXC.ext _ _ a0) (by decide)⟩
      | ok y k2 vs2 =>
        obtain ⟨hy, hP⟩ := hsty
        simp only [P.Res.bind, Option.some.injEq] at hr
        rw [← hr]
        refine ⟨?_, (hP.ext hXC).updT l1 (hXC.ext _ _ a0) (by decide)⟩
        have hxC : IsRx (fun b => w.heap.size < b ∧ b < wC.heap.size) wC [.int .u8 kd, .string (bs nm), .int .i64 nn, .int .i64 kk, .slice pp qq rr] x :=
          IsRx.mono (fun b hb => ⟨hb.1, by have := hb.2; omega⟩) (fun b cs hb hc => hXC.ext _ _ (SFr.keep hFA (by rw [hp_upd_other (by have := hb.1; omega)]; exact k8 b cs ⟨by have := hb.1; omega, hb.2⟩ hc) (by have := hb.1; omega) (by decide))) _ _ hx5
        have hyC : IsRx (fun b => w.heap.size < b ∧ b < wC.heap.size) wC [.int .u8 kdy, .string (bs nmy), .int .i64 nny, .int .i64 kky, .slice ppy qqy rry] y :=
          IsRx.mono (fun b hb => ⟨by have := hb.1; rw [size_upd] at this; have := ltOf d0; omega, by have := hb.2; omega⟩) (fun b cs hb hc => hXC.ext _ _ hc) _ _ hy
        exact (isRb_rx (isRx_two hxC hyC q1 rfl (by omega) (P.tk T k5).text 103) 103 (P.tk T k5).text).updT (fun b hb => by have := hb.1; omega) (fun b hb => ⟨by have := hb.1; omega, by rw [size_upd]; exact hb.2⟩)
    · rw [bs_neg _ _ hcmp]
      have hbs : ∀ {a b : P.Bs}, Value.string (bs a) = .string (bs b) → a = b := fun h => by
        injection h with h
        have := congrArg ByteArray.toList h
        rwa [toList_bs, toList_bs] at this
      have hx : er = 0 → ∃ x, q = .ok x k5 vs5 ∧ at5 = 0 ∧ IsRx (fun b => w.heap.size < b ∧ b < w5.heap.size) w5 [.int .u8 kd, .string (bs nm), .int .i64 nn, .int .i64 kk, .slice pp qq rr] x ∧ (x.kind : Int) = kd ∧ x.name = nm ∧ x.args.length = qq ∧
          (P.noGoal x = true ↔ ((¬ kd = 97 ∧ ¬ kd = 99) ∨ (kd = 99 ∧ (nm = [43] ∨ nm = [45] ∨ nm = [42] ∨ nm = [47, 47] ∨ (nm = [109, 111, 100] ∧ qq = 2))) ∨ nm = [46] ∨ nm = [91, 93])) := by
        intro he
        obtain ⟨-, h5, x, rfl, hx5⟩ := hq5.resolve_right (by simp [he])
        have hho := (P.headT T (fun k hk => by
          rcases Nat.lt_or_ge k T.length with h | h
          · exact hx8.tw.toTW.words _ (tk_mem h) hk
          · rw [show P.tk T k = P.tk T T.length by simp [P.tk, List.getD_eq_getElem?_getD, List.getElem?_eq_none h]] at hk
            simp [P.tk] at hk) f).oper _ _ _ _ _ _ _ hq
        have hng := P.noGoal_iff hho
        obtain ⟨kind, name, n, kx, args⟩ := x
        have hx6 := hx5
        unfold IsRx at hx6
        obtain ⟨av, vs, e, g1, g2⟩ := hx6
        injection e with q0 e; injection e with q1 e; injection e with q2 e; injection e with q3 e; injection e with q4 e
        injection q0 with _ q0
        have q1 := hbs q1
        subst q0 q1 q4
        obtain ⟨pa, cp, e2⟩ := g1.shape
        injection e2 with _ e2 _
        subst e2
        refine ⟨_, rfl, h5, hx5, rfl, rfl, rfl, hng.trans ?_⟩
        simp only [P.Ex.kind, P.Ex.name, P.Ex.args]
        have t1 : ((kind : Nat) : Int) = 97 ↔ kind = 97 := by omega
        have t2 : ((kind : Nat) : Int) = 99 ↔ kind = 99 := by omega
        rw [t1, t2]
      have hno : er = 0 → P.cmpAt T k5 = none := fun he => by
        rw [hcm, if_neg (fun h => hcmp ⟨he, h.2, h.1⟩)]
      have la0 := ltOf d0
      have la1 := ltOf d1
      have la2 := ltOf d2
      have hbad : ∀ {wz : World}, wz = w' → (er = 0 → ∀ x, q = .ok x k5 vs5 → P.noGoal x = true) →
          ∀ e w3, e = .returned (.agg #[.int .u8 0, .string (bs []), .slice none 0 0, .slice none 0 0]) → (∃ w2, RP w2 pb tb T k5 vs5 (d + 1 : Nat) (if er = 0 then 2 else er) (if er = 0 then (P.tk T k).pos else at5) ∧ RFr pb w' w2 ∧ w3 = upd w2 w.heap.size (.cells #[.int .u8 0, .string (bs []), .slice none 0 0, .slice none 0 0] 37)) → RPostB pb tb T (d + 1) w r e w3 := by
        rintro wz - hng e w3 rfl ⟨w2, hP2, hF2, rfl⟩
        have g0 := SFr.keep hF2 d0 (by omega) (by decide)
        refine ⟨_, _, _, _, rfl, ⟨rfl, rfl, rfl, rfl⟩, (hF08.trans hF2).upd (.inr (Nat.le_refl _)), ?_⟩
        by_cases he : er = 0
        · obtain ⟨x, rfl, -⟩ := hx he
          simp only [P.Res.bind, hno he, if_pos (hng he _ rfl), Option.some.injEq] at hr
          rw [← hr]
          rw [if_pos he, if_pos he] at hP2
          exact ⟨by decide, _, _, hP2.updT l1 g0 (by decide)⟩
        · rcases hq5 with ⟨h', _⟩ | ⟨_, rfl⟩
          · exact absurd h' he
          · simp only [P.Res.bind, Option.some.injEq] at hr
            rw [← hr]
            rw [if_neg he, if_neg he] at hP2
            exact ⟨he, _, _, hP2.updT l1 g0 (by decide)⟩
      refine ⟨fun s w2 => w2 = w' ∧ s 13 = .bool (decide (kd = 99 ∧ (nm = [43] ∨ nm = [45] ∨ nm = [42] ∨ nm = [47, 47] ∨ (nm = [109, 111, 100] ∧ qq = 2)))), ?_, ?_⟩
      · simp (disch := first | assumption | omega | ((simp only [size_alloc, sz_drew, size_upd, List.size_toArray, List.length_cons, List.length_nil]) <;> omega) | decide) only [sh_Pr_parser_goal, Pr, PX, PC, NX, ends, fillL, wrL, sOf, Nat.reduceAdd, Nat.reduceMul, Nat.reduceLeDiff, Nat.reduceEqDiff, Int.reduceToNat, Int.reduceAdd, Int.reduceLT, Int.reduceLE, ↓reduceIte, forall_const, eq_self, zG1, zG2, al_37, al_60, al_69, bd_37, br_34_2, br_35_1, fa_58_1, fa_58_4, fa_60_0, fa_60_1, fa_60_2, fa_69_0, fa_69_1, fa_69_4, ld_29, ld_3, ld_34, ld_37, ld_5, ld_69, ld_9, ln_34, st_3, st_37, st_60, st_69, d2, bs_dec]
        have t3 : ((qq : Nat) : Int) = 2 ↔ qq = 2 := by omega
        simp only [t3]
        by_cases b1 : kd = 99 <;> by_cases b2 : nm = [43] <;> by_cases b3 : nm = [45] <;> by_cases b4 : nm = [42] <;> by_cases b5 : nm = [47, 47] <;> by_cases b6 : nm = [109, 111, 100] <;> by_cases b7 : qq = 2 <;> simp [b1, b2, b3, b4, b5, b6, b7] <;> simp_all
      · rintro s2 w2 ⟨rfl, hs2⟩ dd2
        rw [hs2]
        by_cases hop : kd = 99 ∧ (nm = [43] ∨ nm = [45] ∨ nm = [42] ∨ nm = [47, 47] ∨ (nm = [109, 111, 100] ∧ qq = 2))
        · rw [bs_pos _ _ hop]
          refine ⟨fun s w3 => w3 = w2 ∧ s 132 = .bool true, ?_, ?_⟩
          · simp (disch := first | assumption | omega | ((simp only [size_alloc, sz_drew, size_upd, List.size_toArray, List.length_cons, List.length_nil]) <;> omega) | decide) only [sh_Pr_parser_goal, Pr, PX, PC, NX, ends, fillL, wrL, sOf, Nat.reduceAdd, Nat.reduceMul, Nat.reduceLeDiff, Nat.reduceEqDiff, Int.reduceToNat, Int.reduceAdd, Int.reduceLT, Int.reduceLE, ↓reduceIte, forall_const, eq_self, zG1, zG2, al_37, al_60, al_69, bd_37, br_34_2, br_35_1, fa_58_1, fa_58_4, fa_60_0, fa_60_1, fa_60_2, fa_69_0, fa_69_1, fa_69_4, ld_29, ld_3, ld_34, ld_37, ld_5, ld_69, ld_9, ln_34, st_3, st_37, st_60, st_69, d2, bs_dec]
          · rintro s3 w3 ⟨rfl, hs3⟩ dd3
            rw [hs3]
            simp (disch := first | assumption | omega | ((simp only [size_alloc, sz_drew, size_upd, List.size_toArray, List.length_cons, List.length_nil]) <;> omega) | decide) only [sh_Pr_parser_goal, Pr, PX, PC, NX, ends, fillL, wrL, sOf, Nat.reduceAdd, Nat.reduceMul, Nat.reduceLeDiff, Nat.reduceEqDiff, Int.reduceToNat, Int.reduceAdd, Int.reduceLT, Int.reduceLE, ↓reduceIte, forall_const, eq_self, zG1, zG2, al_37, al_60, al_69, bd_37, br_34_2, br_35_1, fa_58_1, fa_58_4, fa_60_0, fa_60_1, fa_60_2, fa_69_0, fa_69_1, fa_69_4, ld_29, ld_3, ld_34, ld_37, ld_5, ld_69, ld_9, ln_34, st_3, st_37, st_60, st_69, d1]
            refine Calls.mono (rFault hP8 2 _) ?_
            rintro e w4' ⟨rfl, hP9, hF9⟩
            have g0 := SFr.keep hF9 d0 (by omega) (by decide)
            have lg0 := ltOf g0
            simp (disch := first | assumption | omega | ((simp only [size_alloc, sz_drew, size_upd, List.size_toArray, List.length_cons, List.length_nil]) <;> omega) | decide) only [sh_Pr_parser_goal, Pr, PX, PC, NX, ends, fillL, wrL, sOf, Nat.reduceAdd, Nat.reduceMul, Nat.reduceLeDiff, Nat.reduceEqDiff, Int.reduceToNat, Int.reduceAdd, Int.reduceLT, Int.reduceLE, ↓reduceIte, forall_const, eq_self, zG1, zG2, al_37, al_60, al_69, bd_37, br_34_2, br_35_1, fa_58_1, fa_58_4, fa_60_0, fa_60_1, fa_60_2, fa_69_0, fa_69_1, fa_69_4, ld_29, ld_3, ld_34, ld_37, ld_5, ld_69, ld_9, ln_34, st_3, st_37, st_60, st_69, g0]
            exact hbad rfl (fun he x hxq => by
              obtain ⟨x', h1', -, -, -, -, -, h2'⟩ := hx he
              rw [hxq] at h1'
              injection h1' with h1'
              rw [h1']
              exact h2'.2 (.inr (.inl hop))) _ _ rfl ⟨_, hP9, hF9, rfl⟩
        · rw [bs_neg _ _ hop]
          refine ⟨fun s w3 => w3 = w2 ∧ s 132 = .bool (decide ((¬ kd = 97 ∧ ¬ kd = 99) ∨ nm = [46] ∨ nm = [91, 93])), ?_, ?_⟩
          · simp (disch := first | assumption | omega | ((simp only [size_alloc, sz_drew, size_upd, List.size_toArray, List.length_cons, List.length_nil]) <;> omega) | decide) only [sh_Pr_parser_goal, Pr, PX, PC, NX, ends, fillL, wrL, sOf, Nat.reduceAdd, Nat.reduceMul, Nat.reduceLeDiff, Nat.reduceEqDiff, Int.reduceToNat, Int.reduceAdd, Int.reduceLT, Int.reduceLE, ↓reduceIte, forall_const, eq_self, zG1, zG2, al_37, al_60, al_69, bd_37, br_34_2, br_35_1, fa_58_1, fa_58_4, fa_60_0, fa_60_1, fa_60_2, fa_69_0, fa_69_1, fa_69_4, ld_29, ld_3, ld_34, ld_37, ld_5, ld_69, ld_9, ln_34, st_3, st_37, st_60, st_69, d2, bs_dec]
            by_cases b1 : kd = 99 <;> by_cases b2 : kd = 97 <;> by_cases b3 : nm = [46] <;> by_cases b4 : nm = [91, 93] <;> simp [b1, b2, b3, b4] <;> simp_all
          · rintro s3 w3 ⟨rfl, hs3⟩ dd3
            rw [hs3]
            by_cases hb : (¬ kd = 97 ∧ ¬ kd = 99) ∨ nm = [46] ∨ nm = [91, 93]
            · rw [bs_pos _ _ hb]
              simp (disch := first | assumption | omega | ((simp only [size_alloc, sz_drew, size_upd, List.size_toArray, List.length_cons, List.length_nil]) <;> omega) | decide) only [sh_Pr_parser_goal, Pr, PX, PC, NX, ends, fillL, wrL, sOf, Nat.reduceAdd, Nat.reduceMul, Nat.reduceLeDiff, Nat.reduceEqDiff, Int.reduceToNat, Int.reduceAdd, Int.reduceLT, Int.reduceLE, ↓reduceIte, forall_const, eq_self, zG1, zG2, al_37, al_60, al_69, bd_37, br_34_2, br_35_1, fa_58_1, fa_58_4, fa_60_0, fa_60_1, fa_60_2, fa_69_0, fa_69_1, fa_69_4, ld_29, ld_3, ld_34, ld_37, ld_5, ld_69, ld_9, ln_34, st_3, st_37, st_60, st_69, d1]
              refine Calls.mono (rFault hP8 2 _) ?_
              rintro e w4' ⟨rfl, hP9, hF9⟩
              have g0 := SFr.keep hF9 d0 (by omega) (by decide)
              have lg0 := ltOf g0
              simp (disch := first | assumption | omega | ((simp only [size_alloc, sz_drew, size_upd, List.size_toArray, List.length_cons, List.length_nil]) <;> omega) | decide) only [sh_Pr_parser_goal, Pr, PX, PC, NX, ends, fillL, wrL, sOf, Nat.reduceAdd, Nat.reduceMul, Nat.reduceLeDiff, Nat.reduceEqDiff, Int.reduceToNat, Int.reduceAdd, Int.reduceLT, Int.reduceLE, ↓reduceIte, forall_const, eq_self, zG1, zG2, al_37, al_60, al_69, bd_37, br_34_2, br_35_1, fa_58_1, fa_58_4, fa_60_0, fa_60_1, fa_60_2, fa_69_0, fa_69_1, fa_69_4, ld_29, ld_3, ld_34, ld_37, ld_5, ld_69, ld_9, ln_34, st_3, st_37, st_60, st_69, g0]
              exact hbad rfl (fun he x hxq => by
                obtain ⟨x', h1', -, -, -, -, -, h2'⟩ := hx he
                rw [hxq] at h1'
                injection h1' with h1'
                rw [h1']
                exact h2'.2 (hb.elim .inl fun h => .inr (.inr h))) _ _ rfl ⟨_, hP9, hF9, rfl⟩
            · rw [bs_neg _ _ hb]
              simp (disch := first | assumption | omega | ((simp only [size_alloc, sz_drew, size_upd, List.size_toArray, List.length_cons, List.length_nil]) <;> omega) | decide) only [sh_Pr_parser_goal, Pr, PX, PC, NX, ends, fillL, wrL, sOf, Nat.reduceAdd, Nat.reduceMul, Nat.reduceLeDiff, Nat.reduceEqDiff, Int.reduceToNat, Int.reduceAdd, Int.reduceLT, Int.reduceLE, ↓reduceIte, forall_const, eq_self, zG1, zG2, al_37, al_60, al_69, bd_37, br_34_2, br_35_1, fa_58_1, fa_58_4, fa_60_0, fa_60_1, fa_60_2, fa_69_0, fa_69_1, fa_69_4, ld_29, ld_3, ld_34, ld_37, ld_5, ld_69, ld_9, ln_34, st_3, st_37, st_60, st_69, d2]
              refine (rTests _ _).mono ?_
              rintro e w4' ⟨rfl, rfl⟩
              simp (disch := first | assumption | omega | ((simp only [size_alloc, sz_drew, size_upd, List.size_toArray, List.length_cons, List.length_nil]) <;> omega) | decide) only [sh_Pr_parser_goal, Pr, PX, PC, NX, ends, fillL, wrL, sOf, Nat.reduceAdd, Nat.reduceMul, Nat.reduceLeDiff, Nat.reduceEqDiff, Int.reduceToNat, Int.reduceAdd, Int.reduceLT, Int.reduceLE, ↓reduceIte, forall_const, eq_self, zG1, zG2, al_37, al_60, al_69, bd_37, br_34_2, br_35_1, fa_58_1, fa_58_4, fa_60_0, fa_60_1, fa_60_2, fa_69_0, fa_69_1, fa_69_4, ld_29, ld_3, ld_34, ld_37, ld_5, ld_69, ld_9, ln_34, st_3, st_37, st_60, st_69]
              have hend : ∀ {wz : World} {c a : Nat}, RP wz pb tb T k5 vs5 (d + 1 : Nat) c a → RFr pb w4' wz → (er ≠ 0 → c = er ∧ a = at5) →
                  (er = 0 → (c = 3 ∧ a = (P.tk T k).pos ∧ (0 ≤ P.tests nm ∧ ¬ P.tests nm = qq)) ∨ (c = 0 ∧ a = 0 ∧ ¬ (0 ≤ P.tests nm ∧ ¬ P.tests nm = qq))) →
                  RPostB pb tb T (d + 1) w r (.returned (.agg #[.int .u8 103, .string (bs nm), .slice pp qq rr, .slice none 0 0])) (upd wz w.heap.size (.cells #[.int .u8 103, .string (bs nm), .slice pp qq rr, .slice none 0 0] 37)) := by
                intro wz c a hPz hFz hce hc0
                have g0 := SFr.keep hFz d0 (by omega) (by decide)
                refine ⟨_, _, _, _, rfl, ⟨rfl, rfl, rfl, rfl⟩, (hF08.trans hFz).upd (.inr (Nat.le_refl _)), ?_⟩
                by_cases he : er = 0
                · obtain ⟨x, rfl, h5, hxx, hxk, hxn, hxa, hxg⟩ := hx he
                  have hng : ¬ P.noGoal x = true := fun h => by
                    rcases hxg.1 h with h | h | h
                    · exact hb (.inl h)
                    · exact hop h
                    · exact hb (.inr h)
                  simp only [P.Res.bind, hno he, if_neg hng, hxn, hxa] at hr
                  rcases hc0 he with ⟨rfl, rfl, hbt⟩ | ⟨rfl, rfl, hbt⟩
                  · rw [if_pos hbt] at hr
                    simp only [Option.some.injEq] at hr
                    rw [← hr]
                    exact ⟨by decide, _, _, hPz.updT l1 g0 (by decide)⟩
                  · rw [if_neg hbt] at hr
                    simp only [Option.some.injEq] at hr
                    rw [← hr]
                    refine ⟨?_, hPz.updT l1 g0 (by decide)⟩
                    have hxz : IsRx (fun b => w.heap.size < b ∧ b < wz.heap.size) wz [.int .u8 kd, .string (bs nm), .int .i64 nn, .int .i64 kk, .slice pp qq rr] x :=
                      IsRx.mono (fun b hb => ⟨hb.1, by have := hb.2; have := hFz.size; omega⟩) (fun b cs hb hc => SFr.keep hFz (k8 b cs ⟨by have := hb.1; omega, hb.2⟩ hc) (by have := hb.1; omega) (by decide)) _ _ hxx
                    obtain ⟨kind, name, n, kx, args⟩ := x
                    exact (isRb_rx hxz 103 nm).updT (fun b hb => by have := hb.1; omega) (fun b hb => ⟨by have := hb.1; omega, by rw [size_upd]; exact hb.2⟩)
                · rcases hq5 with ⟨h', _⟩ | ⟨_, rfl⟩
                  · exact absurd h' he
                  · simp only [P.Res.bind, Option.some.injEq] at hr
                    rw [← hr]
                    obtain ⟨rfl, rfl⟩ := hce he
                    exact ⟨he, _, _, hPz.updT l1 g0 (by decide)⟩
              refine ⟨fun s w3 => w3 = w4' ∧ s 149 = .bool (decide (0 ≤ P.tests nm ∧ ¬ P.tests nm = qq)), ?_, ?_⟩
              · simp (disch := first | assumption | omega | ((simp only [size_alloc, sz_drew, size_upd, List.size_toArray, List.length_cons, List.length_nil]) <;> omega) | decide) only [sh_Pr_parser_goal, Pr, PX, PC, NX, ends, fillL, wrL, sOf, Nat.reduceAdd, Nat.reduceMul, Nat.reduceLeDiff, Nat.reduceEqDiff, Int.reduceToNat, Int.reduceAdd, Int.reduceLT, Int.reduceLE, ↓reduceIte, forall_const, eq_self, zG1, zG2, al_37, al_60, al_69, bd_37, br_34_2, br_35_1, fa_58_1, fa_58_4, fa_60_0, fa_60_1, fa_60_2, fa_69_0, fa_69_1, fa_69_4, ld_29, ld_3, ld_34, ld_37, ld_5, ld_69, ld_9, ln_34, st_3, st_37, st_60, st_69, d2, bs_dec]
                by_cases b1 : 0 ≤ P.tests nm <;> by_cases b2 : P.tests nm = qq <;> simp [b1, b2]
              · rintro s5 w5' ⟨rfl, hs5⟩ dd5
                rw [hs5]
                by_cases hbt : 0 ≤ P.tests nm ∧ ¬ P.tests nm = qq
                · rw [bs_pos _ _ hbt]
                  simp (disch := first | assumption | omega | ((simp only [size_alloc, sz_drew, size_upd, List.size_toArray, List.length_cons, List.length_nil]) <;> omega) | decide) only [sh_Pr_parser_goal, Pr, PX, PC, NX, ends, fillL, wrL, sOf, Nat.reduceAdd, Nat.reduceMul, Nat.reduceLeDiff, Nat.reduceEqDiff, Int.reduceToNat, Int.reduceAdd, Int.reduceLT, Int.reduceLE, ↓reduceIte, forall_const, eq_self, zG1, zG2, al_37, al_60, al_69, bd_37, br_34_2, br_35_1, fa_58_1, fa_58_4, fa_60_0, fa_60_1, fa_60_2, fa_69_0, fa_69_1, fa_69_4, ld_29, ld_3, ld_34, ld_37, ld_5, ld_69, ld_9, ln_34, st_3, st_37, st_60, st_69, d1]
                  refine Calls.mono (rFault hP8 3 _) ?_
                  rintro e w6' ⟨rfl, hP9, hF9⟩
                  have g0 := SFr.keep hF9 d0 (by omega) (by decide)
                  have g2 := SFr.keep hF9 d2 (by omega) (by decide)
                  have lg0 := ltOf g0
                  simp (disch := first | assumption | omega | ((simp only [size_alloc, sz_drew, size_upd, List.size_toArray, List.length_cons, List.length_nil]) <;> omega) | decide) only [sh_Pr_parser_goal, Pr, PX, PC, NX, ends, fillL, wrL, sOf, Nat.reduceAdd, Nat.reduceMul, Nat.reduceLeDiff, Nat.reduceEqDiff, Int.reduceToNat, Int.reduceAdd, Int.reduceLT, Int.reduceLE, ↓reduceIte, forall_const, eq_self, zG1, zG2, al_37, al_60, al_69, bd_37, br_34_2, br_35_1, fa_58_1, fa_58_4, fa_60_0, fa_60_1, fa_60_2, fa_69_0, fa_69_1, fa_69_4, ld_29, ld_3, ld_34, ld_37, ld_5, ld_69, ld_9, ln_34, st_3, st_37, st_60, st_69, g0, g2]
                  exact hend hP9 hF9 (fun he => by rw [if_neg he, if_neg he]; exact ⟨rfl, rfl⟩) (fun he => by rw [if_pos he, if_pos he]; exact .inl ⟨rfl, rfl, hbt⟩)
                · rw [bs_neg _ _ hbt]
                  simp (disch := first | assumption | omega | ((simp only [size_alloc, sz_drew, size_upd, List.size_toArray, List.length_cons, List.length_nil]) <;> omega) | decide) only [sh_Pr_parser_goal, Pr, PX, PC, NX, ends, fillL, wrL, sOf, Nat.reduceAdd, Nat.reduceMul, Nat.reduceLeDiff, Nat.reduceEqDiff, Int.reduceToNat, Int.reduceAdd, Int.reduceLT, Int.reduceLE, ↓reduceIte, forall_const, eq_self, zG1, zG2, al_37, al_60, al_69, bd_37, br_34_2, br_35_1, fa_58_1, fa_58_4, fa_60_0, fa_60_1, fa_60_2, fa_69_0, fa_69_1, fa_69_4, ld_29, ld_3, ld_34, ld_37, ld_5, ld_69, ld_9, ln_34, st_3, st_37, st_60, st_69, d0, d2]
                  exact hend hP8 (FrM.refl _ _) (fun he => ⟨rfl, rfl⟩) (fun he => .inr ⟨he, (hx he).elim fun _ h => h.2.1, hbt⟩)
end Go.Proofs.YtkmpelgfhjgddaaGreatDoor
namespace Go.Proofs.YtkmpelgfhjgddaaGreatDoor
open Go.RowKit Sx
theorem rGoal {f : Nat} (hL : RCLit f) (hB : RCBody f) : RCGoal f := rGoal1 hL hB fun h hd h1 h2 h3 hr => rGoalT h hd h1 h2 h3 hr
theorem rBodiesAll (f : Nat) : RCLit f ∧ RCRow f ∧ RCRest f ∧ RCBody f := by
  induction f using Nat.strongRecOn with
  | ind f ih =>
    cases f with
    | zero => exact ⟨⟨fun _ _ h => by simp [P.pLit] at h⟩, ⟨fun _ _ h => by simp [P.pRow] at h⟩, ⟨fun _ _ h => by simp [P.pRest] at h⟩, ⟨fun _ _ h => by simp [P.pBody] at h⟩⟩
    | succ f =>
      have hf := ih f (Nat.lt_succ_self _)
      exact ⟨rLit (rGoal hf.1 hf.2.2.2), rRow fun g hg => (ih g hg).1, rRest hf.2.2.2, rBody hf.2.1 hf.2.2.1⟩
theorem rBodies (f : Nat) : RCBody f := (rBodiesAll f).2.2.2
end Go.Proofs.YtkmpelgfhjgddaaGreatDoor
