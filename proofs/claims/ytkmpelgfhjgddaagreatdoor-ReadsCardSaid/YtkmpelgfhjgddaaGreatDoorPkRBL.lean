/- A part of one proof (RD10, PureI); no conditions beyond what each theorem names. -/
import Derived.Test.YtkmpelgfhjgddaaGreatDoorPkRBK
set_option linter.all false
set_option linter.unusedVariables false
set_option linter.unusedSimpArgs false
namespace Go.Proofs.YtkmpelgfhjgddaaGreatDoor
open Go.RowKit Sx
set_option maxRecDepth 100000
theorem rFinished {pb tb : Nat} {T : List P.Tok} {k : Nat} {vars : List P.Bs} {d : Int} {er at_ : Nat} {w : World} (h : RP w pb tb T k vars d er at_) :
    Calls Tryz.prog 23 #[.pointer (some ⟨pb, 0, none⟩)] w fun e w' => e = .returned (.tuple #[]) ∧
      RP w' pb tb T k vars d (if er = 0 ∧ (P.tk T k).kind ≠ 0 then 2 else er) (if er = 0 ∧ (P.tk T k).kind ≠ 0 then (P.tk T k).pos else at_) ∧ RFr pb w w' := by
  obtain ⟨lc, vv, hx⟩ := id h
  have hk4 := hx.kind4
  refine sh_Pr_parser_finished_ok ?_
  refine (rNext h).mono ?_
  rintro e w1 ⟨rfl, hE1⟩
  have s1 := hE1.size
  have l0 := ltOf hx.cell
  obtain ⟨w2, hw2⟩ : ∃ y, y = upd (w1.alloc (.cells #[.int .u8 0, .string (bs []), .int .i64 0] 60)) w1.heap.size (.cells #[.int .u8 (rk (P.tk T k).kind), .string (bs (P.tk T k).text), .int .i64 ((P.tk T k).pos)] 60) := ⟨_, rfl⟩
  have hE2 : Ext w w2 := by rw [hw2]; (repeat (first | assumption | exact FrM.refl _ _ | (refine FrM.upd ?_ (.inr (by (try simp only [size_alloc, sz_drew, size_upd, List.size_toArray, List.length_cons, List.length_nil]) <;> omega))) | refine FrM.alloc ?_ _ | refine FrM.drew ?_))
  have h2 := hx.ext hE2
  have h1 := hx.ext hE1
  have hc1 := h1.cell
  by_cases hc : er = 0 ∧ (P.tk T k).kind ≠ 0
  · rw [if_pos hc, if_pos hc]
    obtain ⟨rfl, hk0⟩ := hc
    have hrk : ¬ ((rk (P.tk T k).kind : Nat) : Int) = 101 := by have := rk_end hk4; omega
    simp (disch := first | assumption | omega | ((simp only [size_alloc, sz_drew, size_upd, List.size_toArray, List.length_cons, List.length_nil]) <;> omega) | decide) only [sh_Pr_parser_finished, Pr, PX, PC, NX, ends, fillL, wrL, sOf, Nat.reduceAdd, Nat.reduceMul, Nat.reduceLeDiff, Nat.reduceEqDiff, Int.reduceToNat, Int.reduceAdd, Int.reduceLT, Int.reduceLE, ↓reduceIte, forall_const, eq_self, zG1, zG2, al_60, fa_58_4, fa_60_0, ld_29, ld_5, st_60, hc1]
    rw [← hw2]
    refine Calls.mono (rNone ⟨lc, vv, h2⟩) ?_
    rintro e w3 ⟨rfl, h3, hF3⟩
    rw [if_pos rfl, if_pos rfl] at h3
    exact ⟨rfl, h3, hE2.toM.trans hF3⟩
  · rw [if_neg hc, if_neg hc]
    by_cases he : er = 0
    · subst he
      have hk0 : (P.tk T k).kind = 0 := by simpa using hc
      have hrk : rk (P.tk T k).kind = 101 := (rk_end hk4).2 hk0
      rw [hrk] at hw2
      rw [hrk]
      simp (disch := first | assumption | omega | ((simp only [size_alloc, sz_drew, size_upd, List.size_toArray, List.length_cons, List.length_nil]) <;> omega) | decide) only [sh_Pr_parser_finished, Pr, PX, PC, NX, ends, fillL, wrL, sOf, Nat.reduceAdd, Nat.reduceMul, Nat.reduceLeDiff, Nat.reduceEqDiff, Int.reduceToNat, Int.reduceAdd, Int.reduceLT, Int.reduceLE, ↓reduceIte, forall_const, eq_self, zG1, zG2, al_60, fa_58_4, fa_60_0, ld_29, ld_5, st_60, hc1]
      rw [← hw2]
      exact ⟨⟨lc, vv, h2⟩, hE2.toM⟩
    · have he' : ¬ ((er : Nat) : Int) = 0 := by omega
      simp (disch := first | assumption | omega | ((simp only [size_alloc, sz_drew, size_upd, List.size_toArray, List.length_cons, List.length_nil]) <;> omega) | decide) only [sh_Pr_parser_finished, Pr, PX, PC, NX, ends, fillL, wrL, sOf, Nat.reduceAdd, Nat.reduceMul, Nat.reduceLeDiff, Nat.reduceEqDiff, Int.reduceToNat, Int.reduceAdd, Int.reduceLT, Int.reduceLE, ↓reduceIte, forall_const, eq_self, zG1, zG2, al_60, fa_58_4, fa_60_0, ld_29, ld_5, st_60, hc1]
      rw [← hw2]
      exact ⟨⟨lc, vv, h2⟩, hE2.toM⟩
def RPostT (w : World) (r : P.Res P.Ex) (e : Ending) (w' : World) : Prop :=
  Ext w w' ∧ match r with
  | .err c a => c ≠ 0 ∧ e = .returned (.tuple #[.agg #[.string (bs []), .slice none 0 0, .int .u8 0, .string (bs []), .slice none 0 0, .slice none 0 0, .slice none 0 0], .int .i64 c, .int .i64 a])
  | .ok x _ vs => ∃ av va vc us, e = .returned (.tuple #[.agg #[.string (bs []), av, .int .u8 0, .string (bs []), .slice none 0 0, .slice none 0 0, .slice va vs.length vc], .int .i64 0, .int .i64 (-1)]) ∧
      (∃ b, av = .slice (some ⟨b, 0, none⟩) 1 1 ∧ w.heap.size ≤ b ∧ w'.heap[b]? = some (.cells us.toArray 69 (0, 0)) ∧ us.length = 5) ∧ IsRx (fun b => w.heap.size ≤ b) w' us x ∧ vs.length ≤ 12
set_option maxHeartbeats 1000000 in
theorem rTerm (s : P.Bs) (w : World) (hl : s.length ≤ 100000) : Calls Tryz.prog 11 #[.string (bs s)] w (RPostT w (P.term s)) := by
  refine sh_r_Term_ok ?_
  simp (disch := first | assumption | omega | ((simp only [size_alloc, sz_drew, size_upd, List.size_toArray, List.length_cons, List.length_nil]) <;> omega) | decide) only [sh_r_Term, Pr, PX, PC, NX, ends, fillL, wrL, sOf, Nat.reduceAdd, Nat.reduceMul, Nat.reduceLeDiff, Nat.reduceEqDiff, Int.reduceToNat, Int.reduceAdd, Int.reduceLT, Int.reduceLE, ↓reduceIte, forall_const, eq_self, zG1, zG2, al_40, al_69, bd_40, br_34_1, eqp_53, fa_58_2, fa_58_4, fa_58_5, ld_29, ld_3, ld_38, ld_40, ld_69, st_40, st_69]
  obtain ⟨w0, hw0⟩ : ∃ y, y = w.alloc (.cells #[.string (bs []), .slice none 0 0, .int .u8 0, .string (bs []), .slice none 0 0, .slice none 0 0, .slice none 0 0] 40 (0, 0)) := ⟨_, rfl⟩
  have hE0 : Ext w w0 := by rw [hw0]; exact (FrM.refl _ _).alloc _
  have g0 : w0.heap[w.heap.size]? = some (.cells #[.string (bs []), .slice none 0 0, .int .u8 0, .string (bs []), .slice none 0 0, .slice none 0 0, .slice none 0 0] 40 (0, 0)) := by rw [hw0]; exact hp_alloc_new rfl
  rw [← hw0]
  have l0 := ltOf g0
  have hs0 : w0.heap.size = w.heap.size + 1 := by rw [hw0, size_alloc]
  have hEu : ∀ {w1 : World} {o : Obj}, Ext w0 w1 → Ext w (upd w1 w.heap.size o) := fun hE1 => (hE0.trans hE1).upd (.inr (Nat.le_refl _))
  refine Calls.mono (rBegun s w0 hl) ?_
  rintro e w1 ⟨hE1, (⟨hl2, rfl⟩ | ⟨hl2, i, hi, rfl⟩ | ⟨hl2, T, pb, tb, hT, rfl, hpw, hP1⟩)⟩
  · have g1 := hE1.ext _ _ g0
    have l1 := ltOf g1
    simp (disch := first | assumption | omega | ((simp only [size_alloc, sz_drew, size_upd, List.size_toArray, List.length_cons, List.length_nil]) <;> omega) | decide) only [sh_r_Term, Pr, PX, PC, NX, ends, fillL, wrL, sOf, Nat.reduceAdd, Nat.reduceMul, Nat.reduceLeDiff, Nat.reduceEqDiff, Int.reduceToNat, Int.reduceAdd, Int.reduceLT, Int.reduceLE, ↓reduceIte, forall_const, eq_self, zG1, zG2, al_40, al_69, bd_40, br_34_1, eqp_53, fa_58_2, fa_58_4, fa_58_5, ld_29, ld_3, ld_38, ld_40, ld_69, st_40, st_69, g1]
    rw [P.term, P.ofText, if_pos hl2]
    refine ⟨?_, by decide, rfl⟩
    exact hEu hE1
  · have g1 := hE1.ext _ _ g0
    have l1 := ltOf g1
    simp (disch := first | assumption | omega | ((simp only [size_alloc, sz_drew, size_upd, List.size_toArray, List.length_cons, List.length_nil]) <;> omega) | decide) only [sh_r_Term, Pr, PX, PC, NX, ends, fillL, wrL, sOf, Nat.reduceAdd, Nat.reduceMul, Nat.reduceLeDiff, Nat.reduceEqDiff, Int.reduceToNat, Int.reduceAdd, Int.reduceLT, Int.reduceLE, ↓reduceIte, forall_const, eq_self, zG1, zG2, al_40, al_69, bd_40, br_34_1, eqp_53, fa_58_2, fa_58_4, fa_58_5, ld_29, ld_3, ld_38, ld_40, ld_69, st_40, st_69, g1]
    rw [P.term, P.ofText, if_neg (by omega), hi]
    refine ⟨?_, by decide, rfl⟩
    exact hEu hE1
  · have hpr : P.term s = P.termT T := by rw [P.term, P.ofText, if_neg (by omega), hT]
    rw [hpr]
    simp (disch := first | assumption | omega | ((simp only [size_alloc, sz_drew, size_upd, List.size_toArray, List.length_cons, List.length_nil]) <;> omega) | decide) only [sh_r_Term, Pr, PX, PC, NX, ends, fillL, wrL, sOf, Nat.reduceAdd, Nat.reduceMul, Nat.reduceLeDiff, Nat.reduceEqDiff, Int.reduceToNat, Int.reduceAdd, Int.reduceLT, Int.reduceLE, ↓reduceIte, forall_const, eq_self, zG1, zG2, al_40, al_69, bd_40, br_34_1, eqp_53, fa_58_2, fa_58_4, fa_58_5, ld_29, ld_3, ld_38, ld_40, ld_69, st_40, st_69]
    cases hq : P.pOper T (P.fuelFor T) 0 0 [] 0 with
    | none =>
      obtain ⟨r, hr⟩ := (P.tot T (P.fuelFor T)).oper 0 0 [] 0 (by omega) (by unfold P.fuelFor; omega)
      rw [hr] at hq; cases hq
    | some q =>
    refine Calls.mono ((rTerms (P.fuelFor T)).1.go (d := 0) hP1 (by omega) hq) ?_
    rintro e w2 ⟨a, b, c, f, g, rfl, ⟨ha, hb, hc, hf, hg, hsh⟩, hF2, hst⟩
    have s2 := hF2.size
    have s1 := hE1.size
    simp (disch := first | assumption | omega | ((simp only [size_alloc, sz_drew, size_upd, List.size_toArray, List.length_cons, List.length_nil]) <;> omega) | decide) only [sh_r_Term, Pr, PX, PC, NX, ends, fillL, wrL, sOf, Nat.reduceAdd, Nat.reduceMul, Nat.reduceLeDiff, Nat.reduceEqDiff, Int.reduceToNat, Int.reduceAdd, Int.reduceLT, Int.reduceLE, ↓reduceIte, forall_const, eq_self, zG1, zG2, al_40, al_69, bd_40, br_34_1, eqp_53, fa_58_2, fa_58_4, fa_58_5, ld_29, ld_3, ld_38, ld_40, ld_69, st_40, st_69, ha, hb, hc, hf, hg]
    have hEf : ∀ {w2 : World}, RFr pb w1 w2 → Ext w0 w2 := fun hF => ⟨hF.os.trans hE1.os, hF.tape.trans hE1.tape, hF.output.trans hE1.output, Nat.le_trans hE1.size hF.size, fun b o hb _ => by
      have h1 := hE1.ext _ _ hb
      have h2 := ltOf hb
      exact hF.block b o h1 (by rintro (h | ⟨h, _⟩) <;> omega)⟩
    obtain ⟨w3, hw3⟩ : ∃ y, y = upd (w2.alloc (.cells #[.int .u8 0, .string (bs []), .int .i64 0, .int .i64 0, .slice none 0 0] 69)) w2.heap.size (.cells #[a, b, c, f, g] 69) := ⟨_, rfl⟩
    have hE3 : Ext w2 w3 := by rw [hw3]; (repeat (first | assumption | exact FrM.refl _ _ | (refine FrM.upd ?_ (.inr (by (try simp only [size_alloc, sz_drew, size_upd, List.size_toArray, List.length_cons, List.length_nil]) <;> omega))) | refine FrM.alloc ?_ _ | refine FrM.drew ?_))
    have s3 := hE3.size
    have g3 : w3.heap[w2.heap.size]? = some (.cells #[a, b, c, f, g] 69 (0, 0)) := by rw [hw3]; exact hp_upd_same rfl (by rw [size_alloc]; omega)
    rw [← hw3]
    have l3 := ltOf g3
    have fin : ∀ {k : Nat} {vs : List P.Bs} {er at_ : Nat}, (RP w2 pb tb T k vs 0 er at_) → Calls Tryz.prog 23 #[.pointer (some ⟨pb, 0, none⟩)] w3 fun e w' => e = .returned (.tuple #[]) ∧
      RP w' pb tb T k vs 0 (if er = 0 ∧ (P.tk T k).kind ≠ 0 then 2 else er) (if er = 0 ∧ (P.tk T k).kind ≠ 0 then (P.tk T k).pos else at_) ∧ RFr pb w3 w' := fun h => rFinished (h.ext hE3)
    cases q with
    | err c0 a0 =>
      obtain ⟨hc0, k2, vs2, hP2⟩ := hst
      refine Calls.mono (fin hP2) ?_
      rintro e w4 ⟨rfl, hP4, hF4⟩
      rw [if_neg (by omega), if_neg (by omega)] at hP4
      have hte : P.termT T = .err c0 a0 := by rw [P.termT, hq]
      rw [hte]
      obtain ⟨lc, vv, hx4⟩ := hP4
      have h4 := hx4.cell
      have hE4 : Ext w0 w4.drew := hEf (((hF2.trans hE3.toM).trans hF4).drew)
      have g4 := hE4.ext _ _ g0
      have l4 := ltOf g4
      have hc0' : ¬ ((c0 : Nat) : Int) = 0 := by omega
      simp (disch := first | assumption | omega | ((simp only [size_alloc, sz_drew, size_upd, List.size_toArray, List.length_cons, List.length_nil]) <;> omega) | decide) only [sh_r_Term, Pr, PX, PC, NX, ends, fillL, wrL, sOf, Nat.reduceAdd, Nat.reduceMul, Nat.reduceLeDiff, Nat.reduceEqDiff, Int.reduceToNat, Int.reduceAdd, Int.reduceLT, Int.reduceLE, ↓reduceIte, forall_const, eq_self, zG1, zG2, al_40, al_69, bd_40, br_34_1, eqp_53, fa_58_2, fa_58_4, fa_58_5, ld_29, ld_3, ld_38, ld_40, ld_69, st_40, st_69, h4]
      refine ⟨fun w' => w'.heap[pb]? = w4.heap[pb]?, rfl, ?_⟩
      refine rds (.agg #[.string (bs []), .slice none 0 0, .int .u8 0, .string (bs []), .slice none 0 0, .slice none 0 0, .slice none 0 0]) (fun w' hS => by simp (disch := first | assumption | omega | ((simp only [size_alloc, sz_drew, size_upd, List.size_toArray, List.length_cons, List.length_nil]) <;> omega) | decide) only [sh_r_Term, Pr, PX, PC, NX, ends, fillL, wrL, sOf, Nat.reduceAdd, Nat.reduceMul, Nat.reduceLeDiff, Nat.reduceEqDiff, Int.reduceToNat, Int.reduceAdd, Int.reduceLT, Int.reduceLE, ↓reduceIte, forall_const, eq_self, zG1, zG2, al_40, al_69, bd_40, br_34_1, eqp_53, fa_58_2, fa_58_4, fa_58_5, ld_29, ld_3, ld_38, ld_40, ld_69, st_40, st_69]) ?_
      refine rds (.pointer (some ⟨pb, 4, none⟩)) (fun w' hS => by rw [h4] at hS; simp (disch := first | assumption | omega | ((simp only [size_alloc, sz_drew, size_upd, List.size_toArray, List.length_cons, List.length_nil]) <;> omega) | decide) only [sh_r_Term, Pr, PX, PC, NX, ends, fillL, wrL, sOf, Nat.reduceAdd, Nat.reduceMul, Nat.reduceLeDiff, Nat.reduceEqDiff, Int.reduceToNat, Int.reduceAdd, Int.reduceLT, Int.reduceLE, ↓reduceIte, forall_const, eq_self, zG1, zG2, al_40, al_69, bd_40, br_34_1, eqp_53, fa_58_2, fa_58_4, fa_58_5, ld_29, ld_3, ld_38, ld_40, ld_69, st_40, st_69, hS]) (rds (.int .i64 (c0 : Nat)) (fun w' hS => by rw [h4] at hS; have := ltOf hS; simp (disch := first | assumption | omega | ((simp only [size_alloc, sz_drew, size_upd, List.size_toArray, List.length_cons, List.length_nil]) <;> omega) | decide) only [sh_r_Term, Pr, PX, PC, NX, ends, fillL, wrL, sOf, Nat.reduceAdd, Nat.reduceMul, Nat.reduceLeDiff, Nat.reduceEqDiff, Int.reduceToNat, Int.reduceAdd, Int.reduceLT, Int.reduceLE, ↓reduceIte, forall_const, eq_self, zG1, zG2, al_40, al_69, bd_40, br_34_1, eqp_53, fa_58_2, fa_58_4, fa_58_5, ld_29, ld_3, ld_38, ld_40, ld_69, st_40, st_69, hS]) ?_)
      refine rds (.pointer (some ⟨pb, 5, none⟩)) (fun w' hS => by rw [h4] at hS; simp (disch := first | assumption | omega | ((simp only [size_alloc, sz_drew, size_upd, List.size_toArray, List.length_cons, List.length_nil]) <;> omega) | decide) only [sh_r_Term, Pr, PX, PC, NX, ends, fillL, wrL, sOf, Nat.reduceAdd, Nat.reduceMul, Nat.reduceLeDiff, Nat.reduceEqDiff, Int.reduceToNat, Int.reduceAdd, Int.reduceLT, Int.reduceLE, ↓reduceIte, forall_const, eq_self, zG1, zG2, al_40, al_69, bd_40, br_34_1, eqp_53, fa_58_2, fa_58_4, fa_58_5, ld_29, ld_3, ld_38, ld_40, ld_69, st_40, st_69, hS]) (rds (.int .i64 (a0 : Nat)) (fun w' hS => by rw [h4] at hS; have := ltOf hS; simp (disch := first | assumption | omega | ((simp only [size_alloc, sz_drew, size_upd, List.size_toArray, List.length_cons, List.length_nil]) <;> omega) | decide) only [sh_r_Term, Pr, PX, PC, NX, ends, fillL, wrL, sOf, Nat.reduceAdd, Nat.reduceMul, Nat.reduceLeDiff, Nat.reduceEqDiff, Int.reduceToNat, Int.reduceAdd, Int.reduceLT, Int.reduceLE, ↓reduceIte, forall_const, eq_self, zG1, zG2, al_40, al_69, bd_40, br_34_1, eqp_53, fa_58_2, fa_58_4, fa_58_5, ld_29, ld_3, ld_38, ld_40, ld_69, st_40, st_69, hS]) ?_)
      simp (disch := first | assumption | omega | ((simp only [size_alloc, sz_drew, size_upd, List.size_toArray, List.length_cons, List.length_nil]) <;> omega) | decide) only [sh_r_Term, Pr, PX, PC, NX, ends, fillL, wrL, sOf, Nat.reduceAdd, Nat.reduceMul, Nat.reduceLeDiff, Nat.reduceEqDiff, Int.reduceToNat, Int.reduceAdd, Int.reduceLT, Int.reduceLE, ↓reduceIte, forall_const, eq_self, zG1, zG2, al_40, al_69, bd_40, br_34_1, eqp_53, fa_58_2, fa_58_4, fa_58_5, ld_29, ld_3, ld_38, ld_40, ld_69, st_40, st_69, g4]
      exact ⟨hEu hE4, hc0, rfl⟩
    | ok x k2 vs2 =>
      obtain ⟨hx2, hP2⟩ := hst
      refine Calls.mono (fin hP2) ?_
      rintro e w4 ⟨rfl, hP4, hF4⟩
      by_cases hk0 : (P.tk T k2).kind = 0
      · rw [if_neg (by omega), if_neg (by omega)] at hP4
        have hte : P.termT T = .ok x k2 vs2 := by rw [P.termT, hq]; simp only [if_pos hk0]
        rw [hte]
        obtain ⟨lc, vv, hx4⟩ := hP4
        have h4 := hx4.cell
        have own4 := hx4.own
        obtain ⟨va, vc, rfl⟩ := own_slice own4
        have hE4 : Ext w0 w4.drew := hEf (((hF2.trans hE3.toM).trans hF4).drew)
        have s4 := hF4.size
        obtain ⟨lc1, vv1, hx1⟩ := id hP1
        have lpb := ltOf hx1.cell
        have q4 : w4.heap[w2.heap.size]? = some (.cells #[a, b, c, f, g] 69 (0, 0)) := hF4.block _ _ g3 (by
          rintro (h | ⟨h, cs, z, h1⟩)
          · omega
          · simp at h1)
        have g4 := hE4.ext _ _ g0
        have l4 := ltOf g4
        simp (disch := first | assumption | omega | ((simp only [size_alloc, sz_drew, size_upd, List.size_toArray, List.length_cons, List.length_nil]) <;> omega) | decide) only [sh_r_Term, Pr, PX, PC, NX, ends, fillL, wrL, sOf, Nat.reduceAdd, Nat.reduceMul, Nat.reduceLeDiff, Nat.reduceEqDiff, Int.reduceToNat, Int.reduceAdd, Int.reduceLT, Int.reduceLE, ↓reduceIte, forall_const, eq_self, zG1, zG2, al_40, al_69, bd_40, br_34_1, eqp_53, fa_58_2, fa_58_4, fa_58_5, ld_29, ld_3, ld_38, ld_40, ld_69, st_40, st_69, h4]
        refine ⟨fun w' => w'.heap[pb]? = w4.heap[pb]? ∧ w'.heap[w2.heap.size]? = w4.heap[w2.heap.size]?, ⟨rfl, rfl⟩, ?_⟩
        refine rds (.agg #[a, b, c, f, g]) (fun w' hS => by obtain ⟨hS1, hS⟩ := hS; rw [q4] at hS; have := ltOf hS; simp (disch := first | assumption | omega | ((simp only [size_alloc, sz_drew, size_upd, List.size_toArray, List.length_cons, List.length_nil]) <;> omega) | decide) only [sh_r_Term, Pr, PX, PC, NX, ends, fillL, wrL, sOf, Nat.reduceAdd, Nat.reduceMul, Nat.reduceLeDiff, Nat.reduceEqDiff, Int.reduceToNat, Int.reduceAdd, Int.reduceLT, Int.reduceLE, ↓reduceIte, forall_const, eq_self, zG1, zG2, al_40, al_69, bd_40, br_34_1, eqp_53, fa_58_2, fa_58_4, fa_58_5, ld_29, ld_3, ld_38, ld_40, ld_69, st_40, st_69, hS, ha, hb, hc, hf, hg]) ?_
        refine rds (.pointer (some ⟨pb, 2, none⟩)) (fun w' hS => by obtain ⟨hS, -⟩ := hS; rw [h4] at hS; simp (disch := first | assumption | omega | ((simp only [size_alloc, sz_drew, size_upd, List.size_toArray, List.length_cons, List.length_nil]) <;> omega) | decide) only [sh_r_Term, Pr, PX, PC, NX, ends, fillL, wrL, sOf, Nat.reduceAdd, Nat.reduceMul, Nat.reduceLeDiff, Nat.reduceEqDiff, Int.reduceToNat, Int.reduceAdd, Int.reduceLT, Int.reduceLE, ↓reduceIte, forall_const, eq_self, zG1, zG2, al_40, al_69, bd_40, br_34_1, eqp_53, fa_58_2, fa_58_4, fa_58_5, ld_29, ld_3, ld_38, ld_40, ld_69, st_40, st_69, hS]) (rds (.slice va vs2.length vc) (fun w' hS => by obtain ⟨hS, -⟩ := hS; rw [h4] at hS; have := ltOf hS; simp (disch := first | assumption | omega | ((simp only [size_alloc, sz_drew, size_upd, List.size_toArray, List.length_cons, List.length_nil]) <;> omega) | decide) only [sh_r_Term, Pr, PX, PC, NX, ends, fillL, wrL, sOf, Nat.reduceAdd, Nat.reduceMul, Nat.reduceLeDiff, Nat.reduceEqDiff, Int.reduceToNat, Int.reduceAdd, Int.reduceLT, Int.reduceLE, ↓reduceIte, forall_const, eq_self, zG1, zG2, al_40, al_69, bd_40, br_34_1, eqp_53, fa_58_2, fa_58_4, fa_58_5, ld_29, ld_3, ld_38, ld_40, ld_69, st_40, st_69, hS]) ?_)
        simp (disch := first | assumption | omega | ((simp only [size_alloc, sz_drew, size_upd, List.size_toArray, List.length_cons, List.length_nil]) <;> omega) | decide) only [sh_r_Term, Pr, PX, PC, NX, ends, fillL, wrL, sOf, Nat.reduceAdd, Nat.reduceMul, Nat.reduceLeDiff, Nat.reduceEqDiff, Int.reduceToNat, Int.reduceAdd, Int.reduceLT, Int.reduceLE, ↓reduceIte, forall_const, eq_self, zG1, zG2, al_40, al_69, bd_40, br_34_1, eqp_53, fa_58_2, fa_58_4, fa_58_5, ld_29, ld_3, ld_38, ld_40, ld_69, st_40, st_69, g4, ha, hb, hc, hf, hg]
        have lpb4 := ltOf h4
        have hEd : Ext w4 (w4.drew.alloc (.cells #[a, b, c, f, g] 69)) := ((FrM.refl _ _).drew).alloc _
        refine ⟨hEu (hE4.alloc _), _, _, _, [a, b, c, f, g], rfl, ⟨_, rfl, by omega, ?_, rfl⟩, ?_, hx4.nv.2 rfl⟩
        · rw [hp_upd_other (by omega)]
          exact hp_alloc_new (by rw [sz_drew])
        · refine hx2.mono (fun b hb => by have := hb.1; omega) (fun bb cs hF hb => ?_)
          have k3 := hE3.ext _ _ hb
          have k4 := hF4.block _ _ k3 (by
            rintro (h | ⟨h, cs, z, h1⟩)
            · have := hF.1; omega
            · simp at h1)
          rw [hp_upd_other (by have := hF.1; omega)]
          exact hEd.ext _ _ k4
      · have hte : P.termT T = .err 2 (P.tk T k2).pos := by rw [P.termT, hq]; simp only [if_neg hk0]
        rw [if_pos ⟨rfl, hk0⟩, if_pos ⟨rfl, hk0⟩] at hP4
        obtain ⟨c0, hc00⟩ : ∃ c0, c0 = 2 := ⟨_, rfl⟩
        obtain ⟨a0, ha0⟩ : ∃ a0, a0 = (P.tk T k2).pos := ⟨_, rfl⟩
        rw [← hc00, ← ha0] at hte hP4
        have hc0 : c0 ≠ 0 := by omega
        rw [hte]
        obtain ⟨lc, vv, hx4⟩ := hP4
        have h4 := hx4.cell
        have hE4 : Ext w0 w4.drew := hEf (((hF2.trans hE3.toM).trans hF4).drew)
        have g4 := hE4.ext _ _ g0
        have l4 := ltOf g4
        have hc0' : ¬ ((c0 : Nat) : Int) = 0 := by omega
        simp (disch := first | assumption | omega | ((simp only [size_alloc, sz_drew, size_upd, List.size_toArray, List.length_cons, List.length_nil]) <;> omega) | decide) only [sh_r_Term, Pr, PX, PC, NX, ends, fillL, wrL, sOf, Nat.reduceAdd, Nat.reduceMul, Nat.reduceLeDiff, Nat.reduceEqDiff, Int.reduceToNat, Int.reduceAdd, Int.reduceLT, Int.reduceLE, ↓reduceIte, forall_const, eq_self, zG1, zG2, al_40, al_69, bd_40, br_34_1, eqp_53, fa_58_2, fa_58_4, fa_58_5, ld_29, ld_3, ld_38, ld_40, ld_69, st_40, st_69, h4]
        refine ⟨fun w' => w'.heap[pb]? = w4.heap[pb]?, rfl, ?_⟩
        refine rds (.agg #[.string (bs []), .slice none 0 0, .int .u8 0, .string (bs []), .slice none 0 0, .slice none 0 0, .slice none 0 0]) (fun w' hS => by simp (disch := first | assumption | omega | ((simp only [size_alloc, sz_drew, size_upd, List.size_toArray, List.length_cons, List.length_nil]) <;> omega) | decide) only [sh_r_Term, Pr, PX, PC, NX, ends, fillL, wrL, sOf, Nat.reduceAdd, Nat.reduceMul, Nat.reduceLeDiff, Nat.reduceEqDiff, Int.reduceToNat, Int.reduceAdd, Int.reduceLT, Int.reduceLE, ↓reduceIte, forall_const, eq_self, zG1, zG2, al_40, al_69, bd_40, br_34_1, eqp_53, fa_58_2, fa_58_4, fa_58_5, ld_29, ld_3, ld_38, ld_40, ld_69, st_40, st_69]) ?_
        refine rds (.pointer (some ⟨pb, 4, none⟩)) (fun w' hS => by rw [h4] at hS; simp (disch := first | assumption | omega | ((simp only [size_alloc, sz_drew, size_upd, List.size_toArray, List.length_cons, List.length_nil]) <;> omega) | decide) only [sh_r_Term, Pr, PX, PC, NX, ends, fillL, wrL, sOf, Nat.reduceAdd, Nat.reduceMul, Nat.reduceLeDiff, Nat.reduceEqDiff, Int.reduceToNat, Int.reduceAdd, Int.reduceLT, Int.reduceLE, ↓reduceIte, forall_const, eq_self, zG1, zG2, al_40, al_69, bd_40, br_34_1, eqp_53, fa_58_2, fa_58_4, fa_58_5, ld_29, ld_3, ld_38, ld_40, ld_69, st_40, st_69, hS]) (rds (.int .i64 (c0 : Nat)) (fun w' hS => by rw [h4] at hS; have := ltOf hS; simp (disch := first | assumption | omega | ((simp only [size_alloc, sz_drew, size_upd, List.size_toArray, List.length_cons, List.length_nil]) <;> omega) | decide) only [sh_r_Term, Pr, PX, PC, NX, ends, fillL, wrL, sOf, Nat.reduceAdd, Nat.reduceMul, Nat.reduceLeDiff, Nat.reduceEqDiff, Int.reduceToNat, Int.reduceAdd, Int.reduceLT, Int.reduceLE, ↓reduceIte, forall_const, eq_self, zG1, zG2, al_40, al_69, bd_40, br_34_1, eqp_53, fa_58_2, fa_58_4, fa_58_5, ld_29, ld_3, ld_38, ld_40, ld_69, st_40, st_69, hS]) ?_)
        refine rds (.pointer (some ⟨pb, 5, none⟩)) (fun w' hS => by rw [h4] at hS; simp (disch := first | assumption | omega | ((simp only [size_alloc, sz_drew, size_upd, List.size_toArray, List.length_cons, List.length_nil]) <;> omega) | decide) only [sh_r_Term, Pr, PX, PC, NX, ends, fillL, wrL, sOf, Nat.reduceAdd, Nat.reduceMul, Nat.reduceLeDiff, Nat.reduceEqDiff, Int.reduceToNat, Int.reduceAdd, Int.reduceLT, Int.reduceLE, ↓reduceIte, forall_const, eq_self, zG1, zG2, al_40, al_69, bd_40, br_34_1, eqp_53, fa_58_2, fa_58_4, fa_58_5, ld_29, ld_3, ld_38, ld_40, ld_69, st_40, st_69, hS]) (rds (.int .i64 (a0 : Nat)) (fun w' hS => by rw [h4] at hS; have := ltOf hS; simp (disch := first | assumption | omega | ((simp only [size_alloc, sz_drew, size_upd, List.size_toArray, List.length_cons, List.length_nil]) <;> omega) | decide) only [sh_r_Term, Pr, PX, PC, NX, ends, fillL, wrL, sOf, Nat.reduceAdd, Nat.reduceMul, Nat.reduceLeDiff, Nat.reduceEqDiff, Int.reduceToNat, Int.reduceAdd, Int.reduceLT, Int.reduceLE, ↓reduceIte, forall_const, eq_self, zG1, zG2, al_40, al_69, bd_40, br_34_1, eqp_53, fa_58_2, fa_58_4, fa_58_5, ld_29, ld_3, ld_38, ld_40, ld_69, st_40, st_69, hS]) ?_)
        simp (disch := first | assumption | omega | ((simp only [size_alloc, sz_drew, size_upd, List.size_toArray, List.length_cons, List.length_nil]) <;> omega) | decide) only [sh_r_Term, Pr, PX, PC, NX, ends, fillL, wrL, sOf, Nat.reduceAdd, Nat.reduceMul, Nat.reduceLeDiff, Nat.reduceEqDiff, Int.reduceToNat, Int.reduceAdd, Int.reduceLT, Int.reduceLE, ↓reduceIte, forall_const, eq_self, zG1, zG2, al_40, al_69, bd_40, br_34_1, eqp_53, fa_58_2, fa_58_4, fa_58_5, ld_29, ld_3, ld_38, ld_40, ld_69, st_40, st_69, g4]
        exact ⟨hEu hE4, hc0, rfl⟩
end Go.Proofs.YtkmpelgfhjgddaaGreatDoor
namespace Go.Proofs.YtkmpelgfhjgddaaGreatDoor.P
mutual
def Rep (H : Hp) (t : Nat) : Tm → Prop
  | .atom s => t < H.nodes.length ∧ (H.nd t).kind = 97 ∧ (H.nd t).name = s
  | .int n => t < H.nodes.length ∧ (H.nd t).kind = 110 ∧ (H.nd t).n = n
  | .var i => t < H.nodes.length ∧ t = i ∧ (H.nd t).kind = 118 ∧ H.toOf t = -1
  | .comp name args => t < H.nodes.length ∧ (H.nd t).kind = 99 ∧ (H.nd t).name = name ∧ args ≠ [] ∧ Reps H (H.nd t).args args
  termination_by structural T => T
def Reps (H : Hp) (l : List Nat) : List Tm → Prop
  | [] => l = []
  | T :: r => ∃ t l', l = t :: l' ∧ Rep H t T ∧ Reps H l' r
  termination_by structural T => T
end
structure Hp.Le (H H' : Hp) : Prop where
  len : H.nodes.length ≤ H'.nodes.length
  nd : ∀ t, t < H.nodes.length → H'.nd t = H.nd t
  to : ∀ t, t < H.nodes.length → H'.toOf t = H.toOf t
theorem Hp.Le.refl (H : Hp) : H.Le H := ⟨Nat.le_refl _, fun _ _ => rfl, fun _ _ => rfl⟩
theorem Hp.Le.trans {A B C : Hp} (h : A.Le B) (k : B.Le C) : A.Le C :=
  ⟨Nat.le_trans h.len k.len, fun t ht => (k.nd t (Nat.lt_of_lt_of_le ht h.len)).trans (h.nd t ht), fun t ht => (k.to t (Nat.lt_of_lt_of_le ht h.len)).trans (h.to t ht)⟩
def Hp.Ev (H : Hp) : Prop := H.to.length = H.nodes.length
theorem Hp.Le.add {H : Hp} (he : H.Ev) (d : Nd) : H.Le (H.add d) :=
  ⟨by simp [Hp.add], fun t ht => by simp [Hp.add, Hp.nd, List.getD_eq_getElem?_getD, List.getElem?_append_left ht],
   fun t ht => by simp [Hp.add, Hp.toOf, List.getD_eq_getElem?_getD, List.getElem?_append_left (show t < H.to.length by rw [he]; exact ht)]⟩
theorem Hp.Ev.add {H : Hp} (he : H.Ev) (d : Nd) : (H.add d).Ev := by unfold Hp.Ev at *; simp [Hp.add, he]
theorem Hp.add_nd (H : Hp) (d : Nd) : (H.add d).nd H.nodes.length = d := by simp [Hp.add, Hp.nd, List.getD_eq_getElem?_getD]
theorem Hp.add_to {H : Hp} (he : H.Ev) (d : Nd) : (H.add d).toOf H.nodes.length = -1 := by rw [← he]; simp [Hp.add, Hp.toOf, List.getD_eq_getElem?_getD]
theorem Hp.add_len (H : Hp) (d : Nd) : (H.add d).nodes.length = H.nodes.length + 1 := by simp [Hp.add]
mutual
theorem Rep.mono {H H' : Hp} (h : H.Le H') : ∀ {T : Tm} {t : Nat}, Rep H t T → Rep H' t T
  | .atom s, t, hr => by
    unfold Rep at *
    rw [h.nd t hr.1]
    exact ⟨Nat.lt_of_lt_of_le hr.1 h.len, hr.2⟩
  | .int s, t, hr => by
    unfold Rep at *
    rw [h.nd t hr.1]
    exact ⟨Nat.lt_of_lt_of_le hr.1 h.len, hr.2⟩
  | .var s, t, hr => by
    unfold Rep at *
    rw [h.nd t hr.1, h.to t hr.1]
    exact ⟨Nat.lt_of_lt_of_le hr.1 h.len, hr.2⟩
  | .comp s args, t, hr => by
    unfold Rep at *
    rw [h.nd t hr.1]
    exact ⟨Nat.lt_of_lt_of_le hr.1 h.len, hr.2.1, hr.2.2.1, hr.2.2.2.1, Reps.mono h hr.2.2.2.2⟩
theorem Reps.mono {H H' : Hp} (h : H.Le H') : ∀ {L : List Tm} {l : List Nat}, Reps H l L → Reps H' l L
  | [], l, hr => by unfold Reps at *; exact hr
  | T :: r, l, hr => by
    unfold Reps at *
    obtain ⟨t, l', h1, h2, h3⟩ := hr
    exact ⟨t, l', h1, Rep.mono h h2, Reps.mono h h3⟩
end
theorem Rep.lt {H : Hp} {t : Nat} {T : Tm} (h : Rep H t T) : t < H.nodes.length := by
  cases T <;> (unfold Rep at h; exact h.1)
structure Hp.Co (H H' : Hp) : Prop where
  cost : H'.cost = H.cost
  most : H'.most = H.most
  err : H'.err = H.err
theorem Hp.Co.refl (H : Hp) : H.Co H := ⟨rfl, rfl, rfl⟩
theorem Hp.Co.trans {A B C : Hp} (h : A.Co B) (k : B.Co C) : A.Co C := ⟨k.cost.trans h.cost, k.most.trans h.most, k.err.trans h.err⟩
def Hp.Good (H : Hp) : Prop := H.Ok ∧ H.Ev
theorem Hp.Good.add {H : Hp} (h : H.Good) {d : Nd} (h1 : d.name.length ≤ 20) (h2 : -9223372036854775808 ≤ d.n ∧ d.n ≤ 9223372036854775807) (h3 : d.kind = 97 ∨ d.kind = 110 ∨ d.kind = 118 ∨ d.kind = 99)
    (h4 : d.args.length ≤ 100000 ∧ ∀ a ∈ d.args, a < H.nodes.length + 1) : (H.add d).Good := by
  obtain ⟨ho, he⟩ := h
  have hle := Hp.Le.add he d
  have key : ∀ (q : Nat → Nd → Prop), (∀ t, t < H.nodes.length → q t (H.nd t)) → q H.nodes.length d → ∀ t, t < (H.add d).nodes.length → q t ((H.add d).nd t) := by
    intro q a b t ht
    rw [Hp.add_len] at ht
    by_cases e : t = H.nodes.length
    · subst e; rw [Hp.add_nd]; exact b
    · rw [hle.nd t (by omega)]; exact a t (by omega)
  refine ⟨⟨?_, key (fun _ d => d.name.length ≤ 20) ho.name h1, key (fun _ d => -9223372036854775808 ≤ d.n ∧ d.n ≤ 9223372036854775807) ho.num h2, key (fun _ d => d.kind = 97 ∨ d.kind = 110 ∨ d.kind = 118 ∨ d.kind = 99) ho.kind h3,
    key (fun _ d' => d'.args.length ≤ 100000 ∧ ∀ a ∈ d'.args, a < (H.add d).nodes.length) (fun t ht => ⟨(ho.args t ht).1, fun a ha => by have := (ho.args t ht).2 a ha; rw [Hp.add_len]; omega⟩) (by rw [Hp.add_len]; exact h4)⟩, he.add d⟩
  intro t ht
  rw [Hp.add_len] at ht ⊢
  by_cases e : t = H.nodes.length
  · subst e; rw [Hp.add_to he]; omega
  · rw [hle.to t (by omega)]
    have := ho.to t (by omega)
    omega
def Hp.Vars (H : Hp) (nv : Nat) : Prop := nv ≤ H.nodes.length ∧ ∀ i, i < nv → (H.nd i).kind = 118 ∧ H.toOf i = -1
theorem Hp.Vars.mono {H H' : Hp} {nv : Nat} (h : H.Vars nv) (hl : H.Le H') : H'.Vars nv :=
  ⟨Nat.le_trans h.1 hl.len, fun i hi => by rw [hl.nd i (Nat.lt_of_lt_of_le hi h.1), hl.to i (Nat.lt_of_lt_of_le hi h.1)]; exact h.2 i hi⟩
theorem range_getD {nv k : Nat} (h : k < nv) : (List.range nv).getD k 0 = k := by simp [List.getD_eq_getElem?_getD, h]
mutual
theorem made_rep {nv : Nat} : ∀ (x : Ex) (H : Hp), ExOk nv x → H.Good → H.Vars nv → (H.made (List.range nv) x).1.Good ∧ H.Le (H.made (List.range nv) x).1 ∧ H.Co (H.made (List.range nv) x).1 ∧ Rep (H.made (List.range nv) x).1 (H.made (List.range nv) x).2 (made (List.range nv) x)
  | .mk kind name n k args, H, hok, hg, hv => by
    unfold ExOk at hok
    obtain ⟨h1, h2, h3, h4, h5, h6, h7, h8⟩ := hok
    unfold Hp.made made
    by_cases e : kind = 118
    · rw [if_pos e, if_neg (by omega), if_neg (by omega), if_pos e]
      have hk := h4 e
      rw [range_getD hk]
      refine ⟨hg, Hp.Le.refl _, Hp.Co.refl _, ?_⟩
      unfold Rep
      exact ⟨Nat.lt_of_lt_of_le hk hv.1, rfl, hv.2 k hk⟩
    · rw [if_neg e]
      obtain ⟨g1, g2, g3, g4, g5⟩ := mades_rep args H h8 hg hv
      dsimp only
      have hal : ∀ (L : List Tm) (H : Hp) (l : List Nat), Reps H l L → ∀ a ∈ l, a < H.nodes.length := by
        intro L
        induction L with
        | nil => intro H l h; unfold Reps at h; subst h; simp
        | cons T r ih =>
          intro H l h
          unfold Reps at h
          obtain ⟨t, l', rfl, q1, q2⟩ := h
          intro a ha
          rcases List.mem_cons.1 ha with rfl | ha
          · exact q1.lt
          · exact ih _ _ q2 a ha
      have hin := hal _ _ _ g4
      have hg2 : ((H.mades (List.range nv) args).1.add ⟨kind, name, n, (H.mades (List.range nv) args).2⟩).Good :=
        g1.add (by simp only; omega) (by simp only; omega) (by simpa using h3) ⟨by simp only; rw [g5]; omega, fun a ha => by have := hin a ha; omega⟩
      have hle2 := Hp.Le.add g1.2 ⟨kind, name, n, (H.mades (List.range nv) args).2⟩
      refine ⟨hg2, g2.trans hle2, g3.trans ⟨rfl, rfl, rfl⟩, ?_⟩
      have hlt : (H.mades (List.range nv) args).1.nodes.length < ((H.mades (List.range nv) args).1.add ⟨kind, name, n, (H.mades (List.range nv) args).2⟩).nodes.length := by rw [Hp.add_len]; omega
      by_cases e1 : kind = 97
      · rw [if_pos e1]
        unfold Rep
        rw [Hp.add_nd]
        exact ⟨hlt, e1, rfl⟩
      · rw [if_neg e1]
        by_cases e2 : kind = 110
        · rw [if_pos e2]
          unfold Rep
          rw [Hp.add_nd]
          exact ⟨hlt, e2, rfl⟩
        · rw [if_neg e2, if_neg e]
          have e3 : kind = 99 := by omega
          unfold Rep
          rw [Hp.add_nd]
          refine ⟨hlt, e3, rfl, ?_, g4.mono hle2⟩
          have := h5.2 e3
          cases args with
          | nil => exact absurd rfl this
          | cons a r => simp [mades]
  termination_by structural x => x
theorem mades_rep {nv : Nat} : ∀ (l : List Ex) (H : Hp), ExsOk nv l → H.Good → H.Vars nv → (H.mades (List.range nv) l).1.Good ∧ H.Le (H.mades (List.range nv) l).1 ∧ H.Co (H.mades (List.range nv) l).1 ∧ Reps (H.mades (List.range nv) l).1 (H.mades (List.range nv) l).2 (mades (List.range nv) l) ∧
    (H.mades (List.range nv) l).2.length = l.length
  | [], H, _, hg, _ => by
    unfold Hp.mades mades
    refine ⟨hg, Hp.Le.refl _, Hp.Co.refl _, ?_, rfl⟩
    unfold Reps
    rfl
  | x :: xs, H, hok, hg, hv => by
    unfold ExsOk at hok
    obtain ⟨g1, g2, g3, g4⟩ := made_rep x H hok.1 hg hv
    obtain ⟨q1, q2, q3, q4, q5⟩ := mades_rep xs (H.made (List.range nv) x).1 hok.2 g1 (hv.mono g2)
    unfold Hp.mades mades
    dsimp only
    refine ⟨q1, g2.trans q2, g3.trans q3, ?_, by simp [q5]⟩
    unfold Reps
    exact ⟨_, _, rfl, g4.mono q2, q4⟩
  termination_by structural x => x
end
def Hp.new (most : Nat) : Hp := ⟨[], [], [], 0, most, 0⟩
theorem new_good (m : Nat) : (Hp.new m).Good := ⟨⟨fun t ht => by simp [Hp.new] at ht, fun t ht => by simp [Hp.new] at ht, fun t ht => by simp [Hp.new] at ht, fun t ht => by simp [Hp.new] at ht, fun t ht => by simp [Hp.new] at ht⟩, rfl⟩
theorem fresh_rep : ∀ (n : Nat) (H : Hp), H.Good → H.Vars H.nodes.length → (H.fresh n).1.Good ∧ H.Co (H.fresh n).1 ∧ (H.fresh n).1.nodes.length = H.nodes.length + n ∧ (H.fresh n).1.Vars (H.nodes.length + n) ∧ (H.fresh n).2 = List.range' H.nodes.length n
  | 0, H, hg, hv => ⟨hg, Hp.Co.refl _, rfl, hv, rfl⟩
  | n + 1, H, hg, hv => by
    have hg2 : (H.add ⟨118, [], 0, []⟩).Good := hg.add (by simp) (by simp) (by simp) (by simp)
    have hv2 : (H.add ⟨118, [], 0, []⟩).Vars (H.add ⟨118, [], 0, []⟩).nodes.length := by
      refine ⟨Nat.le_refl _, fun i hi => ?_⟩
      rw [Hp.add_len] at hi
      by_cases e : i = H.nodes.length
      · subst e; rw [Hp.add_nd, Hp.add_to hg.2]; exact ⟨rfl, rfl⟩
      · have hle := Hp.Le.add hg.2 ⟨118, [], 0, []⟩
        rw [hle.nd i (by omega), hle.to i (by omega)]
        exact hv.2 i (by omega)
    obtain ⟨g1, g2, g3, g4, g5⟩ := fresh_rep n _ hg2 hv2
    rw [Hp.add_len] at g3 g4 g5
    unfold Hp.fresh
    dsimp only
    have e : H.nodes.length + 1 + n = H.nodes.length + (n + 1) := by omega
    rw [e] at g3 g4
    exact ⟨g1, (⟨rfl, rfl, rfl⟩ : H.Co (H.add _)).trans g2, g3, g4, by rw [g5, List.range'_succ]⟩
end Go.Proofs.YtkmpelgfhjgddaaGreatDoor.P
