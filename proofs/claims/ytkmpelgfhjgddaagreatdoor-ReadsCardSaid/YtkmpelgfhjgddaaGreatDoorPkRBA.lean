/- A part of one proof (RD9, ShR6, ShS1, SBack); no conditions beyond what each theorem names. -/
import Derived.Test.YtkmpelgfhjgddaaGreatDoorPkRAZ
import Derived.RangeFuncBox
import Derived.RangeFuncFrom
import Derived.RangeFuncLeaves
import Derived.Shelf.Abstract
import Derived.OwnWalkIn
import Derived.TacticsInMore
import Derived.LoopNIn
import Derived.LoopIn
set_option linter.all false
set_option linter.unusedVariables false
set_option linter.unusedSimpArgs false
namespace Go.Proofs.YtkmpelgfhjgddaaGreatDoor
open Go.RowKit Sx
set_option maxRecDepth 100000
theorem P.lenX {H : P.Hp} (hk : H.Ok) {f t least c : Nat} {seen : List Nat} {s : P.Bs} {c' : Nat} {l : List Nat} (ht : t < H.nodes.length) (h1 : seen.length ≤ c) (h2 : c' ≤ 100000000000) (h : H.text f t least c seen = some (s, c', l)) : s.length + 10 ≤ 40 * (c' - c) ∧ c + 1 ≤ c' ∧ l.length ≤ c' := by
  have := (P.lenH hk f).text _ _ _ _ _ _ _ ht h1 h2 h
  have := (P.monH H f).text _ _ _ _ _ _ _ h
  omega
set_option maxHeartbeats 4000000 in
theorem cxList {f : Nat} (ih : ∀ g, g ≤ f → CX g) {w : World} {hb wb : Nat} {H : P.Hp} {c : Nat} {seen : List Nat} {t : Nat} {r : P.Xr} (hk : H.Ok) (hn : H.nodes.length ≤ 1000000000) (hs : TSt w hb wb H c seen) (ht : t < H.nodes.length) (hl2 : (H.nd t).args.length = 2) (hsl : seen.length ≤ c) (hr : r.2.1 ≤ 100000000)
    (hq : H.list (f + 1) t [91] c seen = some r) : Calls Tryz.prog 47 #[.pointer (some ⟨wb, 0, none⟩), .int .i64 (t : Nat)] w (XPost hb wb H w r) := by
  obtain ⟨rs, rc, rl⟩ := r
  simp only at hr
  refine sh_Pr_writer_list_ok ?_
  refine ⟨fun m x w' => ∃ t out c seen, x 1 = .int .i64 (t : Nat) ∧ x 5 = .string (bs out) ∧ t < H.nodes.length ∧ (H.nd t).args.length = 2 ∧ TSt w' hb wb H c seen ∧ TFr hb wb w w' ∧ seen.length ≤ c ∧ out.length ≤ 40 + 40 * c ∧ m ≤ f + 1 ∧ H.list m t out c seen = some (rs, rc, rl),
    ⟨f + 1, t, [91], c, seen, rfl, rfl, ht, hl2, hs, FrM.refl _ _, hsl, by simp; omega, Nat.le_refl _, hq⟩, ?_⟩
  intro m x d w1 hI
  refine toPr ?_
  clear hq hs hsl hl2 ht
  obtain ⟨t, out, c, seen, hx1, hx5, ht, hl2, hs, hf1, hsl, hout, hm, hq⟩ := hI
  cases m with
  | zero => simp [P.Hp.list] at hq
  | succ g =>
  have hmo := (P.monH H (g + 1)).list _ _ _ _ _ _ _ hq
  rw [P.Hp.list] at hq
  obtain ⟨sa, c2, l2, hq1, hq2⟩ := P.Xb_some hq
  obtain ⟨kv, nv, iv, av, tv, rv, ars, sv, h⟩ := id hs
  have hargs := hk.args _ ht
  have hal : ((H.nd t).args.map fun n => (.int .i64 (n : Nat) : Value)).length = (H.nd t).args.length := by simp
  have hnd : ∀ c t, P.Hp.nd { H with cost := c } t = H.nd t := fun _ _ => rfl
  have hcell := h.h.cell
  have hw := h.cell
  simp only at hcell
  obtain ⟨ga, ca, ua, va, rfl, k7, k8, k9⟩ := h.h.an (t := t) ht
  rw [hnd] at k9
  obtain ⟨ga2, cs2, rfl, q1, q2, q3⟩ := k9.at' (j := 0) (by rw [hal]; omega)
  obtain ⟨ga3, cs3, e3, q4, q5, q6⟩ := k9.at' (j := 1) (by rw [hal]; omega)
  simp only [Value.slice.injEq, Option.some.injEq, Addr.mk.injEq, true_and, and_true] at e3
  obtain ⟨rfl, e4⟩ := e3
  rw [q2] at q5
  injection q5 with q5
  injection q5 with q5 _ _
  subst q5
  rw [hal, hl2] at k8
  have q3' : cs2[0]? = some (.int .i64 (((H.nd t).args.getD 0 0 : Nat) : Int)) := by
    rw [q3]; simp [List.getD_eq_getElem?_getD, show 0 < (H.nd t).args.length by omega]
  have q6' : cs2[1]? = some (.int .i64 (((H.nd t).args.getD 1 0 : Nat) : Int)) := by
    rw [q6]; simp [List.getD_eq_getElem?_getD, show 1 < (H.nd t).args.length by omega]
  have e1 : ((t : Nat) : Int).toNat = t := by omega
  have t1 := P.getD_lt (i := 0) hargs.2 (by omega)
  have t2 := P.getD_lt (i := 1) hargs.2 (by omega)
  simp (disch := first | assumption | omega | ((simp only [size_alloc, sz_drew, size_upd, List.size_toArray, List.length_cons, List.length_nil]) <;> omega) | decide) only [sh_Pr_writer_list, Pr, PX, PC, NX, ends, fillL, wrL, sOf, Nat.reduceAdd, Nat.reduceMul, Nat.reduceLeDiff, Nat.reduceEqDiff, Int.reduceToNat, Int.reduceAdd, Int.reduceLT, Int.reduceLE, ↓reduceIte, forall_const, eq_self, zG1, zG2, fa_129_0, fa_129_1, fa_129_3, fa_78_0, ix_116, ix_127, ix_38, ix_73, ld_116, ld_127, ld_3, ld_38, ld_5, ld_71, ld_73, ld_9, ln_73, hx1, hx5, hw, hcell, k7, k8, q2, q3', e1]
  have hc2 : c2 ≤ rc := by
    split at hq2
    · cases hq2
    split at hq2
    · simp only [Option.some.injEq, Prod.mk.injEq] at hq2; omega
    split at hq2
    · simp only [Option.some.injEq, Prod.mk.injEq] at hq2; omega
    split at hq2
    · have := (P.monH H g).list _ _ _ _ _ _ _ hq2; omega
    · obtain ⟨y, c3, l3, h3, h4⟩ := P.Xb_some hq2
      simp only [Option.some.injEq, Prod.mk.injEq] at h4
      have := (P.monH H g).text _ _ _ _ _ _ _ h3
      omega
  obtain ⟨le1, le2, le3⟩ := P.lenX hk t1 hsl (by omega) hq1
  refine Calls.mono ((ih g (by omega)).text hk hn hs t1 hsl (by simp only; omega) hq1) ?_
  rintro e w2 ⟨rfl, hs2, hf2⟩
  have hf12 := hf1.trans hf2
  obtain ⟨kv, nv, iv, av, tv2, rv2, ars2, sv2, h2⟩ := id hs2
  have hqb : w2.drew.heap[ga2]? = some (.cells cs2 3 (0, 0)) := hf2.block _ _ q2 (by obtain ⟨p1, p2⟩ := q1; exact fun hh => hh.elim (fun h => p1 (.inl h)) (fun h => by omega))
  simp (disch := first | assumption | omega | ((simp only [size_alloc, sz_drew, size_upd, List.size_toArray, List.length_cons, List.length_nil]) <;> omega) | decide) only [sh_Pr_writer_list, Pr, PX, PC, NX, ends, fillL, wrL, sOf, Nat.reduceAdd, Nat.reduceMul, Nat.reduceLeDiff, Nat.reduceEqDiff, Int.reduceToNat, Int.reduceAdd, Int.reduceLT, Int.reduceLE, ↓reduceIte, forall_const, eq_self, zG1, zG2, fa_129_0, fa_129_1, fa_129_3, fa_78_0, ix_116, ix_127, ix_38, ix_73, ld_116, ld_127, ld_3, ld_38, ld_5, ld_71, ld_73, ld_9, ln_73, hx5]
  rw [bo_ads _ _ (by omega)]
  have h3 := h2.ext ((FrM.refl (fun _ _ => False) w2).drew)
  obtain ⟨w3, hw3⟩ : ∃ y, y = w2.drew := ⟨_, rfl⟩
  have hf23 : TFr hb wb w2 w3 := by rw [hw3]; exact (FrM.refl _ w2).drew
  rw [← hw3] at h3 hqb
  have hf13 := hf12.trans hf23
  have hcell3 := h3.h.cell
  have hwc3 := h3.cell
  simp only at hcell3
  simp (disch := first | assumption | omega | ((simp only [size_alloc, sz_drew, size_upd, List.size_toArray, List.length_cons, List.length_nil]) <;> omega) | decide) only [sh_Pr_writer_list, Pr, PX, PC, NX, ends, fillL, wrL, sOf, Nat.reduceAdd, Nat.reduceMul, Nat.reduceLeDiff, Nat.reduceEqDiff, Int.reduceToNat, Int.reduceAdd, Int.reduceLT, Int.reduceLE, ↓reduceIte, forall_const, eq_self, zG1, zG2, fa_129_0, fa_129_1, fa_129_3, fa_78_0, ix_116, ix_127, ix_38, ix_73, ld_116, ld_127, ld_3, ld_38, ld_5, ld_71, ld_73, ld_9, ln_73, ← hw3, hwc3, hcell3, hqb, q6']
  cases hwk : H.walk g ((H.nd t).args.getD 1 0) with
  | none => rw [hwk] at hq2; cases hq2
  | some t' =>
  rw [hwk] at hq2
  dsimp only at hq2
  have ht' := P.Hp.walk_lt' hk t2 hwk
  refine Calls.mono (rWalk ⟨kv, nv, iv, av, tv2, rv2, ars2, h3.h⟩ (H := { H with cost := c2 }) hk.to (f := g) (t' := t') t2 hn (by
    have : ∀ (f t : Nat), P.Hp.walk { H with cost := c2 } f t = H.walk f t := by
      intro f
      induction f with
      | zero => intro t; rfl
      | succ f ih => intro t; rw [P.Hp.walk, P.Hp.walk]; simp only [ih]; rfl
    rw [this]; exact hwk)) ?_
  rintro e w4 ⟨rfl, rfl⟩
  simp (disch := first | assumption | omega | ((simp only [size_alloc, sz_drew, size_upd, List.size_toArray, List.length_cons, List.length_nil]) <;> omega) | decide) only [sh_Pr_writer_list, Pr, PX, PC, NX, ends, fillL, wrL, sOf, Nat.reduceAdd, Nat.reduceMul, Nat.reduceLeDiff, Nat.reduceEqDiff, Int.reduceToNat, Int.reduceAdd, Int.reduceLT, Int.reduceLE, ↓reduceIte, forall_const, eq_self, zG1, zG2, fa_129_0, fa_129_1, fa_129_3, fa_78_0, ix_116, ix_127, ix_38, ix_73, ld_116, ld_127, ld_3, ld_38, ld_5, ld_71, ld_73, ld_9, ln_73, hwc3]
  refine Calls.mono (rSpent ⟨kv, nv, iv, av, tv2, rv2, ars2, h3.h⟩) ?_
  rintro e w5 ⟨rfl, hE5⟩
  have h5 := h3.ext hE5
  have hf15 := hf13.trans hE5.toM
  have hover : P.Hp.spent { H with cost := c2 } = H.over c2 := rfl
  rw [hover]
  have hst5 : TSt w5 hb wb H c2 l2 := ⟨_, _, _, _, _, _, _, _, h5⟩
  by_cases hov : H.over c2 = true
  · rw [if_pos hov] at hq2
    simp only [Option.some.injEq, Prod.mk.injEq] at hq2
    obtain ⟨rfl, rfl, rfl⟩ := hq2
    simp (disch := first | assumption | omega | ((simp only [size_alloc, sz_drew, size_upd, List.size_toArray, List.length_cons, List.length_nil]) <;> omega) | decide) only [sh_Pr_writer_list, Pr, PX, PC, NX, ends, fillL, wrL, sOf, Nat.reduceAdd, Nat.reduceMul, Nat.reduceLeDiff, Nat.reduceEqDiff, Int.reduceToNat, Int.reduceAdd, Int.reduceLT, Int.reduceLE, ↓reduceIte, forall_const, eq_self, zG1, zG2, fa_129_0, fa_129_1, fa_129_3, fa_78_0, ix_116, ix_127, ix_38, ix_73, ld_116, ld_127, ld_3, ld_38, ld_5, ld_71, ld_73, ld_9, ln_73, hov]
    exact ⟨rfl, hst5, hf15⟩
  rw [if_neg hov] at hq2
  have hov' : H.over c2 = false := by simpa using hov
  have hwc5 := h5.cell
  have hcell5 := h5.h.cell
  simp only at hcell5
  obtain ⟨gk, ck, uk, rfl, k1, k2⟩ := h5.h.kd (t := t') ht'
  obtain ⟨gn, cn, un, rfl, k3, k4⟩ := h5.h.nm (t := t') ht'
  obtain ⟨gb, cb, ub, vb, rfl, m7, m8, m9⟩ := h5.h.an (t := t') ht'
  rw [hnd] at k2 k4 m9
  simp only at k1 k3 m7 hcell5
  have e2 : ((t' : Nat) : Int).toNat = t' := by omega
  have hargs' := hk.args _ ht'
  have hal' : ((H.nd t').args.map fun n => (.int .i64 (n : Nat) : Value)).length = (H.nd t').args.length := by simp
  obtain ⟨a9, c9, rfl⟩ := m9.sl
  rw [hal'] at m8
  simp (disch := first | assumption | omega | ((simp only [size_alloc, sz_drew, size_upd, List.size_toArray, List.length_cons, List.length_nil]) <;> omega) | decide) only [sh_Pr_writer_list, Pr, PX, PC, NX, ends, fillL, wrL, sOf, Nat.reduceAdd, Nat.reduceMul, Nat.reduceLeDiff, Nat.reduceEqDiff, Int.reduceToNat, Int.reduceAdd, Int.reduceLT, Int.reduceLE, ↓reduceIte, forall_const, eq_self, zG1, zG2, fa_129_0, fa_129_1, fa_129_3, fa_78_0, ix_116, ix_127, ix_38, ix_73, ld_116, ld_127, ld_3, ld_38, ld_5, ld_71, ld_73, ld_9, ln_73, hov']
  refine ⟨fun x' w' => w' = w5 ∧ ¬ ((H.nd t').kind = 97 ∧ (H.nd t').name = [91, 93]), ?_, ?_⟩
  · refine ⟨fun x' w' => w' = w5 ∧ x' 67 = .bool (decide ((H.nd t').kind = 97 ∧ (H.nd t').name = [91, 93])), ?_, ?_⟩
    · by_cases h97 : (H.nd t').kind = 97
      · have h97' : (((H.nd t').kind : Nat) : Int) = 97 := by omega
        by_cases hnm : (H.nd t').name = [91, 93]
        · simp (disch := first | assumption | omega | ((simp only [size_alloc, sz_drew, size_upd, List.size_toArray, List.length_cons, List.length_nil]) <;> omega) | decide) only [sh_Pr_writer_list, Pr, PX, PC, NX, ends, fillL, wrL, sOf, Nat.reduceAdd, Nat.reduceMul, Nat.reduceLeDiff, Nat.reduceEqDiff, Int.reduceToNat, Int.reduceAdd, Int.reduceLT, Int.reduceLE, ↓reduceIte, forall_const, eq_self, zG1, zG2, fa_129_0, fa_129_1, fa_129_3, fa_78_0, ix_116, ix_127, ix_38, ix_73, ld_116, ld_127, ld_3, ld_38, ld_5, ld_71, ld_73, ld_9, ln_73, hwc5, hcell5, k1, k2, k3, k4, e2, hnm]
          simp [sOf, h97]
        · simp (disch := first | assumption | omega | ((simp only [size_alloc, sz_drew, size_upd, List.size_toArray, List.length_cons, List.length_nil]) <;> omega) | decide) only [sh_Pr_writer_list, Pr, PX, PC, NX, ends, fillL, wrL, sOf, Nat.reduceAdd, Nat.reduceMul, Nat.reduceLeDiff, Nat.reduceEqDiff, Int.reduceToNat, Int.reduceAdd, Int.reduceLT, Int.reduceLE, ↓reduceIte, forall_const, eq_self, zG1, zG2, fa_129_0, fa_129_1, fa_129_3, fa_78_0, ix_116, ix_127, ix_38, ix_73, ld_116, ld_127, ld_3, ld_38, ld_5, ld_71, ld_73, ld_9, ln_73, hwc5, hcell5, k1, k2, k3, k4, e2, hnm]
          simp [sOf, h97]
      · have h97' : ¬ (((H.nd t').kind : Nat) : Int) = 97 := by omega
        simp (disch := first | assumption | omega | ((simp only [size_alloc, sz_drew, size_upd, List.size_toArray, List.length_cons, List.length_nil]) <;> omega) | decide) only [sh_Pr_writer_list, Pr, PX, PC, NX, ends, fillL, wrL, sOf, Nat.reduceAdd, Nat.reduceMul, Nat.reduceLeDiff, Nat.reduceEqDiff, Int.reduceToNat, Int.reduceAdd, Int.reduceLT, Int.reduceLE, ↓reduceIte, forall_const, eq_self, zG1, zG2, fa_129_0, fa_129_1, fa_129_3, fa_78_0, ix_116, ix_127, ix_38, ix_73, ld_116, ld_127, ld_3, ld_38, ld_5, ld_71, ld_73, ld_9, ln_73, hwc5, hcell5, k1, k2, e2]
        simp [sOf, h97]
    · rintro x' w' ⟨rfl, hx'⟩ d'
      rw [hx']
      by_cases hc : (H.nd t').kind = 97 ∧ (H.nd t').name = [91, 93]
      · rw [bs_pos _ _ hc, if_pos hc] at *
        simp only [Option.some.injEq, Prod.mk.injEq] at hq2
        obtain ⟨rfl, rfl, rfl⟩ := hq2
        rw [bo_ads _ _ (by simp; omega)]
        exact ⟨rfl, hst5, hf15⟩
      · rw [bs_neg _ _ hc]
        exact ⟨rfl, hc⟩
  · rintro x' w' ⟨rfl, hc⟩ d'
    rw [if_neg hc] at hq2
    refine ⟨fun x' w'' => w'' = w' ∧ ((H.nd t').kind = 99 ∧ (H.nd t').name = [46] ∧ (H.nd t').args.length = 2), ?_, ?_⟩
    · refine ⟨fun x' w'' => w'' = w' ∧ x' 107 = .bool (decide (¬ ((H.nd t').kind = 99 ∧ (H.nd t').name = [46] ∧ (H.nd t').args.length = 2))), ?_, ?_⟩
      · by_cases h97 : (H.nd t').kind = 99
        · have h97' : (((H.nd t').kind : Nat) : Int) = 99 := by omega
          by_cases hnm : (H.nd t').name = [46]
          · simp (disch := first | assumption | omega | ((simp only [size_alloc, sz_drew, size_upd, List.size_toArray, List.length_cons, List.length_nil]) <;> omega) | decide) only [sh_Pr_writer_list, Pr, PX, PC, NX, ends, fillL, wrL, sOf, Nat.reduceAdd, Nat.reduceMul, Nat.reduceLeDiff, Nat.reduceEqDiff, Int.reduceToNat, Int.reduceAdd, Int.reduceLT, Int.reduceLE, ↓reduceIte, forall_const, eq_self, zG1, zG2, fa_129_0, fa_129_1, fa_129_3, fa_78_0, ix_116, ix_127, ix_38, ix_73, ld_116, ld_127, ld_3, ld_38, ld_5, ld_71, ld_73, ld_9, ln_73, hwc5, hcell5, k1, k2, k3, k4, m7, m8, e2, hnm]
            simp [sOf, h97]
            try omega
          · simp (disch := first | assumption | omega | ((simp only [size_alloc, sz_drew, size_upd, List.size_toArray, List.length_cons, List.length_nil]) <;> omega) | decide) only [sh_Pr_writer_list, Pr, PX, PC, NX, ends, fillL, wrL, sOf, Nat.reduceAdd, Nat.reduceMul, Nat.reduceLeDiff, Nat.reduceEqDiff, Int.reduceToNat, Int.reduceAdd, Int.reduceLT, Int.reduceLE, ↓reduceIte, forall_const, eq_self, zG1, zG2, fa_129_0, fa_129_1, fa_129_3, fa_78_0, ix_116, ix_127, ix_38, ix_73, ld_116, ld_127, ld_3, ld_38, ld_5, ld_71, ld_73, ld_9, ln_73, hwc5, hcell5, k1, k2, k3, k4, e2, hnm]
            simp [sOf, h97, hnm]
        · have h97' : ¬ (((H.nd t').kind : Nat) : Int) = 99 := by omega
          simp (disch := first | assumption | omega | ((simp only [size_alloc, sz_drew, size_upd, List.size_toArray, List.length_cons, List.length_nil]) <;> omega) | decide) only [sh_Pr_writer_list, Pr, PX, PC, NX, ends, fillL, wrL, sOf, Nat.reduceAdd, Nat.reduceMul, Nat.reduceLeDiff, Nat.reduceEqDiff, Int.reduceToNat, Int.reduceAdd, Int.reduceLT, Int.reduceLE, ↓reduceIte, forall_const, eq_self, zG1, zG2, fa_129_0, fa_129_1, fa_129_3, fa_78_0, ix_116, ix_127, ix_38, ix_73, ld_116, ld_127, ld_3, ld_38, ld_5, ld_71, ld_73, ld_9, ln_73, hwc5, hcell5, k1, k2, e2]
          simp [sOf, h97]
      · rintro x' w'' ⟨rfl, hx'⟩ d'
        rw [hx']
        by_cases hc3 : (H.nd t').kind = 99 ∧ (H.nd t').name = [46] ∧ (H.nd t').args.length = 2
        · rw [bs_neg _ _ (by simpa using hc3)]
          exact ⟨rfl, hc3⟩
        · rw [bs_pos _ _ hc3]
          rw [if_neg hc3] at hq2
          obtain ⟨sb, c6, l6, hq3, hq4⟩ := P.Xb_some hq2
          simp only [Option.some.injEq, Prod.mk.injEq] at hq4
          obtain ⟨rfl, rfl, rfl⟩ := hq4
          obtain ⟨le4, le5, le6⟩ := P.lenX hk ht' (by omega) (by omega) hq3
          refine Calls.mono ((ih g (by omega)).text hk hn hst5 ht' (by omega) (by simp only; omega) hq3) ?_
          rintro e w6 ⟨rfl, hs6, hf6⟩
          simp (disch := first | assumption | omega | ((simp only [size_alloc, sz_drew, size_upd, List.size_toArray, List.length_cons, List.length_nil]) <;> omega) | decide) only [sh_Pr_writer_list, Pr, PX, PC, NX, ends, fillL, wrL, sOf, Nat.reduceAdd, Nat.reduceMul, Nat.reduceLeDiff, Nat.reduceEqDiff, Int.reduceToNat, Int.reduceAdd, Int.reduceLT, Int.reduceLE, ↓reduceIte, forall_const, eq_self, zG1, zG2, fa_129_0, fa_129_1, fa_129_3, fa_78_0, ix_116, ix_127, ix_38, ix_73, ld_116, ld_127, ld_3, ld_38, ld_5, ld_71, ld_73, ld_9, ln_73]
          rw [bo_ads _ _ (by simp; omega), bo_ads _ _ (by simp; omega), bo_ads _ _ (by simp; omega)]
          exact ⟨rfl, hs6, hf15.trans hf6⟩
    · rintro x' w'' ⟨rfl, hc3⟩ d'
      rw [if_pos hc3] at hq2
      rw [bo_ads _ _ (by simp; omega)]
      exact ⟨g, by omega, t', _, c2, l2, rfl, rfl, ht', hc3.2.2, hst5, hf15, by omega, by simp; omega, by omega, hq2⟩
theorem cx : ∀ f, CX f := by
  intro f
  induction f using Nat.strongRecOn with
  | _ f ih =>
    cases f with
    | zero => exact ⟨fun _ _ _ _ _ _ h => by simp [P.Hp.text] at h, fun _ _ _ _ _ _ _ h => by simp [P.Hp.list] at h⟩
    | succ f =>
      have ih' : ∀ g, g ≤ f → CX g := fun g hg => ih g (by omega)
      exact ⟨fun a b c d e g h => cxText ih' a b c d e g h, fun a b c d e g i h => cxList ih' a b c d e g i h⟩
end Go.Proofs.YtkmpelgfhjgddaaGreatDoor
namespace Go.Proofs.YtkmpelgfhjgddaaGreatDoor
open Go.Proofs.YtkmpelgfhjgddaaGreatDoor.Sx
set_option maxRecDepth 100000
set_option linter.unusedVariables false
def sh_r_New (p0 : Value) (w : World) (R : Ending → World → Prop) : Prop :=
  RD Tryz.prog (Instr.build 129 #[(7, p0)]) w (fun x4 =>
  WR Tryz.prog (Instr.box 129 x4) w (fun x5 w1 =>
  R (.returned x5) w1) (PX R)) (PX R)
theorem sh_r_New_ok {p0 : Value} {w : World} {R : Ending → World → Prop} (h : sh_r_New p0 w R) : Calls Tryz.prog 24 #[p0] w R :=
  callsEq (args := [p0]) (good (fun _ => []) (fun _ => none) (fun _ => 0) (fun _ => none) (fun _ => []) (fun _ => []) (fun _ => false) (fun _ => false)) Tryz.func24 rfl (by kernel_rfl) (by kernel_rfl) (Nat.le_of_ble_eq_true (by kernel_rfl)) [] (by kernel_rfl) h
end Go.Proofs.YtkmpelgfhjgddaaGreatDoor
namespace Go.Proofs.YtkmpelgfhjgddaaGreatDoor
open Go.Proofs.YtkmpelgfhjgddaaGreatDoor.Sx
set_option maxRecDepth 100000
set_option linter.unusedVariables false
def sh_s_lex (p0 : Value) (w : World) (R : Ending → World → Prop) : Prop :=
  JS (fun j =>
    RD Tryz.prog (Builtin.len_ #[9] 3 #[p0]) w (fun x10 =>
    RD Tryz.prog (bo .gtr 3 (.tmp 10) (.const (.int .i64 2000)) x10 (.int .i64 2000)) w (fun x11 =>
    BS x11 (CA Tryz.prog 50 #[(.int .i64 1), (.int .i64 0)] w (fun x12 w1_1 =>
    j (sOf []) w1_1) (PC R)) (j (sOf []) w)) (PX R)) (PX R))
    (fun s d w1 =>
    LoopW (fun rec s_1 d_1 w1_2 =>
      RD Tryz.prog (Builtin.len_ #[9] 3 #[p0]) w1_2 (fun x15 =>
      RD Tryz.prog (bo .lss 3 (.tmp 13) (.tmp 15) (s_1 3) x15) w1_2 (fun x16 =>
      BS x16 (RD Tryz.prog (Instr.index 9 p0 (s_1 3)) w1_2 (fun x19 =>
      JS (fun j_1 =>
        JS (fun j_2 =>
          RD Tryz.prog (bo .eql 5 (.tmp 20) (.const (.int .u8 32)) x19 (.int .u8 32)) w1_2 (fun x21 => BS x21 (
          j_2 (sOf [(25, (.bool true))]) w1_2) (
          RD Tryz.prog (bo .eql 5 (.tmp 23) (.const (.int .u8 10)) x19 (.int .u8 10)) w1_2 (fun x24 =>
          j_2 (sOf [(25, x24)]) w1_2) (PX R))) (PX R))
          (fun s_3 d_3 w1_4 =>
          BS (s_3 25) (RD Tryz.prog (bo .add 3 (.tmp 26) (.const (.int .i64 1)) (s_1 3) (.int .i64 1)) w1_4 (fun x27 =>
          rec (sOf [(2, (s_1 2)), (3, x27)]) w1_4) (PX R)) (j_1 (sOf [(3, (s_1 3))]) w1_4)))
        (fun s_2 d_2 w1_3 =>
        CA Tryz.prog 94 #[x19] w1_3 (fun x29 w1_5 =>
        RD Tryz.prog (bo .neq 5 (.tmp 30) (.const (.int .u8 0)) x29 (.int .u8 0)) w1_5 (fun x31 =>
        BS x31 (JS (fun j_3 =>
          LoopW (fun rec_1 s_5 d_5 w1_7 =>
            RD Tryz.prog (Builtin.len_ #[9] 3 #[p0]) w1_7 (fun x35 =>
            RD Tryz.prog (bo .lss 3 (.tmp 33) (.tmp 35) (s_5 6) x35) w1_7 (fun x36 => BS x36 (
            RD Tryz.prog (Instr.index 9 p0 (s_5 6)) w1_7 (fun x40 =>
            CA Tryz.prog 94 #[x40] w1_7 (fun x41 w1_8 =>
            RD Tryz.prog (bo .neq 5 (.tmp 41) (.const (.int .u8 0)) x41 (.int .u8 0)) w1_8 (fun x42 =>
            BS x42 (RD Tryz.prog (bo .add 3 (.tmp 44) (.const (.int .i64 1)) (s_5 6) (.int .i64 1)) w1_8 (fun x45 =>
            rec_1 (sOf [(6, x45)]) w1_8) (PX R)) (j_3 (sOf [(6, (s_5 6))]) w1_8)) (PX R)) (PC R)) (PX R)) (
            BS (.bool false) (RD Tryz.prog (bo .add 3 (.tmp 44) (.const (.int .i64 1)) (s_5 6) (.int .i64 1)) w1_7 (fun x45_1 =>
            rec_1 (sOf [(6, x45_1)]) w1_7) (PX R)) (j_3 (sOf [(6, (s_5 6))]) w1_7))) (PX R)) (PX R))
            (sOf [(6, (s_2 3))]) w1_5)
          (fun s_4 d_4 w1_6 =>
          RD Tryz.prog (Instr.sliceAt 9 p0 (some (s_2 3)) (some (s_4 6)) none) w1_6 (fun x50 =>
          CA Tryz.prog 95 #[x50, (s_2 3), x29] w1_6 (fun x53 w1_9 =>
          WR Tryz.prog (Instr.buildSlice 140 1 #[(0, x53)]) w1_9 (fun x54 w1_10 =>
          WR Tryz.prog (Builtin.append_ #[140, 140] 140 #[(s_1 2), x54]) w1_10 (fun x55 w1_11 =>
          rec (sOf [(2, x55), (3, (s_4 6))]) w1_11) (PX R)) (PX R)) (PC R)) (PX R))) (JS (fun j_4 =>
          JS (fun j_5 =>
            RD Tryz.prog (bo .eql 5 (.tmp 57) (.const (.int .u8 46)) x19 (.int .u8 46)) w1_5 (fun x58 => BS x58 (
            RD Tryz.prog (bo .add 3 (.tmp 60) (.const (.int .i64 1)) (s_2 3) (.int .i64 1)) w1_5 (fun x61 =>
            RD Tryz.prog (Builtin.len_ #[9] 3 #[p0]) w1_5 (fun x63 =>
            RD Tryz.prog (bo .eql 3 (.tmp 61) (.tmp 63) x61 x63) w1_5 (fun x64 => BS x64 (
            j_5 (sOf [(79, (.bool true))]) w1_5) (
            RD Tryz.prog (bo .add 3 (.tmp 67) (.const (.int .i64 1)) (s_2 3) (.int .i64 1)) w1_5 (fun x68 =>
            RD Tryz.prog (Instr.index 9 p0 x68) w1_5 (fun x69 =>
            RD Tryz.prog (bo .eql 5 (.tmp 69) (.const (.int .u8 32)) x69 (.int .u8 32)) w1_5 (fun x70 => BS x70 (
            j_5 (sOf [(79, (.bool true))]) w1_5) (
            RD Tryz.prog (bo .add 3 (.tmp 74) (.const (.int .i64 1)) (s_2 3) (.int .i64 1)) w1_5 (fun x75 =>
            RD Tryz.prog (Instr.index 9 p0 x75) w1_5 (fun x76 =>
            RD Tryz.prog (bo .eql 5 (.tmp 76) (.const (.int .u8 10)) x76 (.int .u8 10)) w1_5 (fun x77 =>
            j_5 (sOf [(79, x77)]) w1_5) (PX R)) (PX R)) (PX R))) (PX R)) (PX R)) (PX R))) (PX R)) (PX R)) (PX R)) (
            j_5 (sOf [(79, (.bool false))]) w1_5)) (PX R))
            (fun s_7 d_7 w1_13 =>
            BS (s_7 79) (RD Tryz.prog (Instr.build 139 #[(0, (.int .i64 4)), (1, (.string (bs [46]))), (2, (s_2 3))]) w1_13 (fun x82 =>
            WR Tryz.prog (Instr.buildSlice 140 1 #[(0, x82)]) w1_13 (fun x83 w1_14 =>
            WR Tryz.prog (Builtin.append_ #[140, 140] 140 #[(s_1 2), x83]) w1_14 (fun x84 w1_15 =>
            RD Tryz.prog (bo .add 3 (.tmp 85) (.const (.int .i64 1)) (s_2 3) (.int .i64 1)) w1_15 (fun x86 =>
            rec (sOf [(2, x84), (3, x86)]) w1_15) (PX R)) (PX R)) (PX R)) (PX R)) (j_4 (sOf [(2, (s_1 2)), (3, (s_2 3))]) w1_13)))
          (fun s_6 d_6 w1_12 =>
          RD Tryz.prog (Instr.loadAt 206 (.pointer (some ⟨1, 0, none⟩))) w1_12 (fun x87 =>
          LoopW (fun rec_2 s_8 d_8 w1_16 =>
            RD Tryz.prog (bo .lss 3 (.tmp 88) (.const (.int .i64 23)) (s_8 88) (.int .i64 23)) w1_16 (fun x89 =>
            BS x89 (RD Tryz.prog (Instr.index 206 x87 (s_8 88)) w1_16 (fun x90 =>
            RD Tryz.prog (Instr.sliceAt 9 p0 (some (s_8 3)) none none) w1_16 (fun x93 =>
            CA Tryz.prog 96 #[x93, x90] w1_16 (fun x95 w1_17 =>
            BS x95 (RD Tryz.prog (Instr.build 139 #[(0, (.int .i64 4)), (1, x90), (2, (s_8 3))]) w1_17 (fun x99 =>
            WR Tryz.prog (Instr.buildSlice 140 1 #[(0, x99)]) w1_17 (fun x100 w1_18 =>
            WR Tryz.prog (Builtin.append_ #[140, 140] 140 #[(s_8 2), x100]) w1_18 (fun x101 w1_19 =>
            RD Tryz.prog (Builtin.len_ #[9] 3 #[x90]) w1_19 (fun x104 =>
            RD Tryz.prog (bo .add 3 (.tmp 102) (.tmp 104) (s_8 3) x104) w1_19 (fun x105 =>
            rec (sOf [(2, x101), (3, x105)]) w1_19) (PX R)) (PX R)) (PX R)) (PX R)) (PX R)) (RD Tryz.prog (bo .add 3 (.tmp 88) (.const (.int .i64 1)) (s_8 88) (.int .i64 1)) w1_17 (fun x106 =>
            rec_2 (sOf [(2, (s_8 2)), (3, (s_8 3)), (88, x106)]) w1_17) (PX R))) (PC R)) (PX R)) (PX R)) (CA Tryz.prog 50 #[(.int .i64 2), (s_8 3)] w1_16 (fun x108 w1_20 =>
          rec (sOf [(2, (s_8 2)), (3, (s_8 3))]) w1_20) (PC R))) (PX R))
            (sOf [(2, (s_6 2)), (3, (s_6 3)), (88, (.int .i64 0))]) w1_12) (PX R)))) (PX R)) (PC R))) (PX R)) (RD Tryz.prog (Builtin.len_ #[9] 3 #[p0]) w1_2 (fun x111 =>
    RD Tryz.prog (Instr.build 139 #[(0, (.int .i64 0)), (1, (.string (bs []))), (2, x111)]) w1_2 (fun x112 =>
    WR Tryz.prog (Instr.buildSlice 140 1 #[(0, x112)]) w1_2 (fun x113 w1_21 =>
    WR Tryz.prog (Builtin.append_ #[140, 140] 140 #[(s_1 2), x113]) w1_21 (fun x114 w1_22 =>
    R (.returned x114) w1_22) (PX R)) (PX R)) (PX R)) (PX R))) (PX R)) (PX R))
      (sOf [(2, (.slice none 0 0)), (3, (.int .i64 0))]) w1)
theorem sh_s_lex_ok {p0 : Value} {w : World} {R : Ending → World → Prop} (h : sh_s_lex p0 w R) : Calls Tryz.prog 77 #[p0] w R :=
  callsEq (args := [p0]) (good (fun n => match n with | 4 => [2, 3] | 11 => [6] | 19 => [2, 3, 88] | _ => []) (fun n => match n with | 2001 => some [] | 6000 => some [25] | 7001 => some [3] | 12001 => some [6] | 15000 => some [79] | 17002 => some [2, 3] | _ => none) (fun _ => 0) (fun _ => none) (fun n => match n with | 4 => [] | 11 => [] | 19 => [] | _ => []) (fun n => match n with | 2001 => [] | 6000 => [] | 7001 => [] | 12001 => [] | 15000 => [] | 17002 => [] | _ => []) (fun n => match n with | 2001 => true | 6000 => true | 7001 => true | 12001 => true | 15000 => true | 17002 => true | _ => false) (fun n => match n with | 11 => true | 16 => true | 24 => true | 25 => true | 31 => true | 42 => true | 43 => true | 77 => true | 78 => true | 79 => true | 89 => true | 95 => true | _ => false)) Tryz.func77 rfl (by kernel_rfl) (by kernel_rfl) (Nat.le_of_ble_eq_true (by kernel_rfl)) [] (by kernel_rfl) h
def sh_s_word (p0 p1 p2 : Value) (w : World) (R : Ending → World → Prop) : Prop :=
  WR Tryz.prog (Instr.alloc 139 true (.tuple #[])) w (fun x6 w1 =>
  JS (fun j =>
    RD Tryz.prog (bo .eql 5 (.tmp 7) (.const (.int .u8 115)) p2 (.int .u8 115)) w1 (fun x30 =>
    BS x30 (RD Tryz.prog (Builtin.len_ #[9] 3 #[p0]) w1 (fun x32 =>
    RD Tryz.prog (bo .leq 3 (.tmp 32) (.const (.int .i64 8)) x32 (.int .i64 8)) w1 (fun x33 =>
    BS x33 (RD Tryz.prog (Instr.build 139 #[(0, (.int .i64 1)), (1, p0), (2, p1)]) w1 (fun x36 =>
    WU Tryz.prog (Instr.storeAt 139 x6 x36) w1 (fun w1_2 =>
    RD Tryz.prog (Instr.loadAt 139 x6) w1_2 (fun r => R (.returned r) w1_2) NX) (PX R)) (PX R)) (j (sOf []) w1)) (PX R)) (PX R)) (RD Tryz.prog (bo .eql 5 (.tmp 7) (.const (.int .u8 99)) p2 (.int .u8 99)) w1 (fun x38 =>
    BS x38 (RD Tryz.prog (Builtin.len_ #[9] 3 #[p0]) w1 (fun x40 =>
    RD Tryz.prog (bo .leq 3 (.tmp 40) (.const (.int .i64 8)) x40 (.int .i64 8)) w1 (fun x41 =>
    BS x41 (RD Tryz.prog (Instr.build 139 #[(0, (.int .i64 2)), (1, p0), (2, p1)]) w1 (fun x44 =>
    WU Tryz.prog (Instr.storeAt 139 x6 x44) w1 (fun w1_3 =>
    RD Tryz.prog (Instr.loadAt 139 x6) w1_3 (fun r_1 => R (.returned r_1) w1_3) NX) (PX R)) (PX R)) (j (sOf []) w1)) (PX R)) (PX R)) (JS (fun j_1 =>
      RD Tryz.prog (Builtin.len_ #[9] 3 #[p0]) w1 (fun x9 =>
      RD Tryz.prog (bo .leq 3 (.tmp 9) (.const (.int .i64 9)) x9 (.int .i64 9)) w1 (fun x10 => BS x10 (
      CA Tryz.prog 110 #[p0, (.string (bs [48, 49, 50, 51, 52, 53, 54, 55, 56, 57]))] w1 (fun x13 w1_5 =>
      RD Tryz.prog (bo .eql 9 (.tmp 13) (.const (.string (bs []))) x13 (.string (bs []))) w1_5 (fun x14 => BS x14 (
      RD Tryz.prog (Instr.index 9 p0 (.int .i64 0)) w1_5 (fun x18 =>
      RD Tryz.prog (bo .neq 5 (.tmp 18) (.const (.int .u8 48)) x18 (.int .u8 48)) w1_5 (fun x19 => BS x19 (
      j_1 (sOf [(25, (.bool true))]) w1_5) (
      RD Tryz.prog (Builtin.len_ #[9] 3 #[p0]) w1_5 (fun x22 =>
      RD Tryz.prog (bo .eql 3 (.tmp 22) (.const (.int .i64 1)) x22 (.int .i64 1)) w1_5 (fun x23 =>
      j_1 (sOf [(25, x23)]) w1_5) (PX R)) (PX R))) (PX R)) (PX R)) (
      j_1 (sOf [(25, (.bool false))]) w1_5)) (PX R)) (PC R)) (
      j_1 (sOf [(25, (.bool false))]) w1)) (PX R)) (PX R))
      (fun s_1 d_1 w1_4 =>
      BS (s_1 25) (RD Tryz.prog (Instr.build 139 #[(0, (.int .i64 3)), (1, p0), (2, p1)]) w1_4 (fun x28 =>
      WU Tryz.prog (Instr.storeAt 139 x6 x28) w1_4 (fun w1_6 =>
      RD Tryz.prog (Instr.loadAt 139 x6) w1_6 (fun r_2 => R (.returned r_2) w1_6) NX) (PX R)) (PX R)) (j (sOf []) w1_4)))) (PX R))) (PX R))
    (fun s d w1_1 =>
    CA Tryz.prog 50 #[(.int .i64 2), p1] w1_1 (fun x46 w1_7 =>
    RD Tryz.prog (Instr.build 139 #[]) w1_7 (fun x47 =>
    WU Tryz.prog (Instr.storeAt 139 x6 x47) w1_7 (fun w1_8 =>
    RD Tryz.prog (Instr.loadAt 139 x6) w1_8 (fun r_3 => R (.returned r_3) w1_8) NX) (PX R)) (PX R)) (PC R))) (PX R)
theorem sh_s_word_ok {p0 p1 p2 : Value} {w : World} {R : Ending → World → Prop} (h : sh_s_word p0 p1 p2 w R) : Calls Tryz.prog 95 #[p0, p1, p2] w R :=
  callsEq (args := [p0, p1, p2]) (good (fun _ => []) (fun n => match n with | 2000 => some [25] | 3008 => some [] | _ => none) (fun _ => 0) (fun _ => none) (fun _ => []) (fun n => match n with | 2000 => [] | 3008 => [] | _ => []) (fun n => match n with | 2000 => true | 3008 => true | _ => false) (fun n => match n with | 23 => true | 24 => true | 25 => true | 29 => true | 30 => true | 33 => true | 37 => true | 38 => true | 41 => true | _ => false)) Tryz.func95 rfl (by kernel_rfl) (by kernel_rfl) (Nat.le_of_ble_eq_true (by kernel_rfl)) [] (by kernel_rfl) h
def sh_s_fail (p0 p1 : Value) (w : World) (R : Ending → World → Prop) : Prop :=
  RD Tryz.prog (Instr.build 89 #[(0, p0), (1, p1)]) w (fun x6 =>
  WR Tryz.prog (Instr.box 89 x6) w (fun x7 w1 =>
  WR Tryz.prog (Instr.makeInterface 85 x7) w1 (fun x8 w1_1 =>
  RD Tryz.prog (Instr.panic x8) w1_1 (fun _ =>
  R (.returned (.tuple #[])) w1_1) (PX R)) (PX R)) (PX R)) (PX R)
theorem sh_s_fail_ok {p0 p1 : Value} {w : World} {R : Ending → World → Prop} (h : sh_s_fail p0 p1 w R) : Calls Tryz.prog 50 #[p0, p1] w R :=
  callsEq (args := [p0, p1]) (good (fun _ => []) (fun _ => none) (fun _ => 0) (fun _ => none) (fun _ => []) (fun _ => []) (fun _ => false) (fun _ => false)) Tryz.func50 rfl (by kernel_rfl) (by kernel_rfl) (Nat.le_of_ble_eq_true (by kernel_rfl)) [] (by kernel_rfl) h
def sh_a_Tell (p0 : Value) (w : World) (R : Ending → World → Prop) : Prop :=
  WR Tryz.prog (Instr.alloc 85 true (.tuple #[])) w (fun x4 w1 =>
  WR Tryz.prog (Instr.alloc 29 true (.tuple #[])) w1 (fun x5 w1_1 =>
  RD Tryz.prog (bo .eql 48 (.tmp 7) (.const .nilIface) p0 .nilIface) w1_1 (fun x8 =>
  BS x8 (R (.returned (.tuple #[(.int .i64 0), (.int .i64 (-1))])) w1_1) (WR Tryz.prog (Instr.makeInterface 87 x4) w1_1 (fun x11 w1_2 =>
  CA Tryz.prog 29 #[p0, x11] w1_2 (fun x12 w1_3 =>
  BS x12 (RD Tryz.prog (Instr.loadAt 85 x4) w1_3.drew (fun x13 =>
  NC x13 fun x14 =>
  RD Tryz.prog (Instr.fieldAt 89 x14 0) w1_3.drew (fun x15 =>
  RD Tryz.prog (Instr.loadAt 29 x15) w1_3.drew (fun x16 =>
  RD Tryz.prog (Instr.loadAt 85 x4) w1_3.drew (fun x17 =>
  NC x17 fun x18 =>
  RD Tryz.prog (Instr.fieldAt 89 x18 1) w1_3.drew (fun x19 =>
  RD Tryz.prog (Instr.loadAt 3 x19) w1_3.drew (fun x20 =>
  R (.returned (.tuple #[x16, x20])) w1_3.drew) NX) NX) NX) NX) NX) NX) (WR Tryz.prog (Instr.makeInterface 90 x5) w1_3 (fun x23 w1_4 =>
  CA Tryz.prog 29 #[p0, x23] w1_4 (fun x24 w1_5 =>
  BS x24 (RD Tryz.prog (Instr.loadAt 29 x5) w1_5 (fun x25 =>
  R (.returned (.tuple #[x25, (.int .i64 (-1))])) w1_5) (PX R)) (R (.returned (.tuple #[(.int .i64 (-1)), (.int .i64 (-1))])) w1_5)) (PC R)) (PX R))) (PC R)) (PX R))) (PX R)) (PX R)) (PX R)
theorem sh_a_Tell_ok {p0 : Value} {w : World} {R : Ending → World → Prop} (h : sh_a_Tell p0 w R) : Calls Tryz.prog 14 #[p0] w R :=
  callsEq (args := [p0]) (good (fun _ => []) (fun _ => none) (fun n => match n with | 6 => 10 | _ => 0) (fun _ => none) (fun _ => []) (fun _ => []) (fun _ => false) (fun n => match n with | 6 => true | 8 => true | 9 => true | 12 => true | 21 => true | 24 => true | _ => false)) Tryz.func14 rfl (by kernel_rfl) (by kernel_rfl) (Nat.le_of_ble_eq_true (by kernel_rfl)) [] (by kernel_rfl) h
end Go.Proofs.YtkmpelgfhjgddaaGreatDoor
namespace Go.Proofs.YtkmpelgfhjgddaaGreatDoor
open Go.RowKit Go.Shelf
set_option linter.unusedVariables false
attribute [local go_sem] Oper.semAt_some
def KeepX (X : Nat) (W W' : World) : Prop := ∀ (b : Nat) (cs : Array Value) (t : TypeId) (z : Nat × Nat), b ≠ X → W.heap[b]? = some (.cells cs t z) → W'.heap[b]? = some (.cells cs t z)
theorem KeepX.trans {X : Nat} {A B C : World} (h : KeepX X A B) (k : KeepX X B C) : KeepX X A C := fun b cs t z hb hc => k b cs t z hb (h b cs t z hb hc)
def downto (bl : List Nat) (k : Nat) : List (Nat × Nat) := (List.range k).map fun j => (bl.length - 1 - j, bl.getD (bl.length - 1 - j) 0)
theorem downto_succ (bl : List Nat) (k : Nat) : downto bl (k + 1) = downto bl k ++ [(bl.length - 1 - k, bl.getD (bl.length - 1 - k) 0)] := by simp [downto, List.range_succ]
theorem downto_length (bl : List Nat) (k : Nat) : (downto bl k).length = k := by simp [downto]
abbrev encB (x : Nat × Nat) : Array Value := #[.int .i64 x.1, .pointer (some ⟨x.2, 0, none⟩)]
set_option maxRecDepth 100000 in
set_option maxHeartbeats 2000000 in
theorem back1_in (F : Fence) (n : Nat) (h8 : F.fn 142) (hro : F.round = none) (hn : 1 ≤ n) (l Bs g cap X : Nat) (bl : List Nat) (hX1 : Bs ≠ X) (hX2 : g ≠ X) (hlen : bl.length ≤ 100000)
    (J Jx : List (Nat × Nat) → World → Prop)
    (hY : ∀ pre x W, J pre W → pre.length < bl.length → YieldAt F (n - 1) Tryz.prog l (encB x) W fun e W' =>
      (e = .returned (.bool true) ∧ J (pre ++ [x]) W' ∧ KeepX X W W') ∨ (e = .returned (.bool false) ∧ Jx (pre ++ [x]) W'))
    (W : World) (hBs : W.heap[Bs]? = some (.cells #[.slice (some ⟨g, 0, none⟩) bl.length cap] 101 (0, 0))) (cur : Array Value) (hg : W.heap[g]? = some (.cells cur 124 (0, 0)))
    (hc : ∀ j, j < bl.length → cur[j]? = some (.pointer (some ⟨bl.getD j 0, 0, none⟩))) (h0 : J [] W) :
    CallsIn F n Tryz.prog 142 #[.func (.yield l) #[] #[], .pointer (some ⟨Bs, 0, none⟩)] W fun e W' => (∃ v, e = .returned v) ∧
      ((∃ ys, ys = downto bl bl.length ∧ J ys W') ∨ (∃ pre, True ∧ Jx pre W')) := by
  have HC := Lib.hid hc
  have HG := Lib.hid hg
  have HB := Lib.hid hBs
  have HY := Lib.hid hY
  have hBc : W.cell? ⟨Bs, 0, none⟩ = some (.slice (some ⟨g, 0, none⟩) bl.length cap) := cellOf hBs rfl
  obtain ⟨len, hl⟩ : ∃ len, len = bl.length := ⟨_, rfl⟩
  rw [← hl] at hlen hBc
  have HL := Lib.hid hl
  clear hl hc hg hBs hY
  refine callsIn_of_wp Tryz.func142 rfl h8 ?_ hro
  simp only [Tryz.ntmps142, List.size_toArray, List.length_cons, List.length_nil, Nat.reduceAdd, Nat.reduceSub, Array.replicate_succ, Array.replicate_zero, List.push_toArray, List.append_toArray, List.nil_append, List.cons_append]
  gi_wp2
  gi_loopw [3] (fun i wr => ∃ k : Nat, k ≤ len ∧ i = .int .i64 ((len : Int) - 1 - k) ∧ J (downto bl k) wr ∧ KeepX X W wr)
    (fun i _ => (intOf i + 1).toNat)
  case atStart => exact ⟨0, Nat.zero_le _, by simp, h0, fun _ _ _ _ _ h => h⟩
  case round =>
    obtain ⟨k, hk, rfl, hJs, hnx⟩ := hrel
    have HJ := Lib.hid hJs
    have HN := Lib.hid hnx
    have hBc2 : wr.cell? ⟨Bs, 0, none⟩ = some (.slice (some ⟨g, 0, none⟩) len cap) := by rw [HL.out]; exact cellOf (HN.out _ _ _ _ hX1 HB.out) rfl
    clear hJs hnx hBc
    by_cases hlt : k < len
    · obtain ⟨i, hi⟩ : ∃ i : Nat, i = len - 1 - k := ⟨_, rfl⟩
      have hii : ((len : Int) - 1 - k) = (i : Int) := by omega
      rw [hii]
      have hcx : wr.cell? ⟨g, i, none⟩ = some (.pointer (some ⟨bl.getD i 0, 0, none⟩)) := cellOf (HN.out _ _ _ _ hX2 HG.out) (HC.out i (by have := HL.out; omega))
      obtain ⟨fn, tmps, assign, body, hy, hR⟩ := HY.out _ (i, bl.getD i 0) wr HJ.out (by rw [downto_length, ← HL.out]; exact hlt)
      have hil : i < len := by omega
      have hy2 : (Instr.yield l #[.int .i64 (i : Int), .pointer (some ⟨bl.getD i 0, 0, none⟩)]).run Tryz.prog wr = .ok (.round l fn tmps assign body) wr := hy
      clear hy
      have HI := Lib.hid hi
      have HII := Lib.hid hii
      obtain ⟨bb, hbb⟩ : ∃ bb, bb = bl.getD i 0 := ⟨_, rfl⟩
      rw [← hbb] at hcx hy2
      have HBB := Lib.hid hbb
      clear hi hii hbb
      gi_wp2
      refine hR.mono ?_
      rintro e W3 (⟨rfl, hJ3, hk3⟩ | ⟨rfl, hJx3⟩)
      · gi_wp2
        go_roundw
        case rel =>
          refine ⟨k + 1, by omega, ?_, ?_, HN.out.trans hk3⟩
          · have := HI.out; congr 1; omega
          · have := HL.out; have e := HI.out; rw [downto_succ, ← this, ← e]; exact hJ3
        case measure => simp [intOf]
      · gi_wp2
        refine bodyPost_ret (results_none rfl _ _ _) rfl ?_
        exact ⟨⟨_, rfl⟩, .inr ⟨_, trivial, hJx3⟩⟩
    · obtain rfl : k = len := by omega
      gi_wp2
      go_end0
      exact ⟨⟨_, rfl⟩, .inl ⟨_, rfl, by rw [← HL.out]; exact HJ.out⟩⟩
set_option maxHeartbeats 400000 in
theorem backward (a : Option Addr) (n c : Nat) (w : World) :
    Calls Tryz.prog 130 #[.slice a n c] w fun e w' => e = .returned (.func (.func 142) #[] #[.pointer (some ⟨w.heap.size, 0, none⟩)]) ∧ w.alloc (.cells #[.slice a n c] 101) = w' := by
  have hmf : ∀ (fn : Fn) (first cap : Array Value) (w : World), (Instr.makeFunc fn first cap).run Tryz.prog w = .ok (.func fn first cap) w := fun _ _ _ _ => rfl
  go_enter Tryz.func130, Tryz.ntmps130
  go_wp2
  go_ret
  exact ⟨rfl, rfl⟩
theorem back_stops (F : Fence) (n : Nat) (h8 : F.fn 142) (hro : F.round = none) (hn : 1 ≤ n) (Bs g cap X : Nat) (bl : List Nat) (hX1 : Bs ≠ X) (hX2 : g ≠ X) (hlen : bl.length ≤ 100000) (w : World)
    (hBs : w.heap[Bs]? = some (.cells #[.slice (some ⟨g, 0, none⟩) bl.length cap] 101 (0, 0))) (cur : Array Value) (hg : w.heap[g]? = some (.cells cur 124 (0, 0)))
    (hc : ∀ j, j < bl.length → cur[j]? = some (.pointer (some ⟨bl.getD j 0, 0, none⟩))) :
    SeqStopsK F n Tryz.prog 142 #[.pointer (some ⟨Bs, 0, none⟩)] encB (KeepX X) (fun ys => ys = downto bl bl.length) (fun _ => True) bl.length w := fun l J Jx W hW _ _ hY h0 =>
  back1_in F n h8 hro hn l Bs g cap X bl hX1 hX2 hlen J Jx hY W (by rw [hW.block Bs (ltOf hBs)]; exact hBs) cur (by rw [hW.block g (ltOf hg)]; exact hg) hc h0
end Go.Proofs.YtkmpelgfhjgddaaGreatDoor
