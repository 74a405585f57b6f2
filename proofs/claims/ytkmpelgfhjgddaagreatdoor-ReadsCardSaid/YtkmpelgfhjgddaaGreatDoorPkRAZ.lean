/- A part of one proof (RD8); no conditions beyond what each theorem names. -/
import Derived.Test.YtkmpelgfhjgddaaGreatDoorPkRAY
set_option linter.all false
set_option linter.unusedVariables false
set_option linter.unusedSimpArgs false
namespace Go.Proofs.YtkmpelgfhjgddaaGreatDoor
open Go.RowKit Sx
set_option maxRecDepth 100000
def XPost (hb wb : Nat) (H : P.Hp) (w : World) (r : P.Xr) (e : Ending) (w' : World) : Prop := e = .returned (.string (bs r.1)) ∧ TSt w' hb wb H r.2.1 r.2.2 ∧ TFr hb wb w w'
structure CX (f : Nat) : Prop where
  text : ∀ {w : World} {hb wb : Nat} {H : P.Hp} {c : Nat} {seen : List Nat} {t least : Nat} {r : P.Xr}, H.Ok → H.nodes.length ≤ 1000000000 → TSt w hb wb H c seen → t < H.nodes.length → seen.length ≤ c → r.2.1 ≤ 100000000 →
    H.text f t least c seen = some r → Calls Tryz.prog 27 #[.pointer (some ⟨wb, 0, none⟩), .int .i64 (t : Nat), .int .i64 (least : Nat)] w (XPost hb wb H w r)
  list : ∀ {w : World} {hb wb : Nat} {H : P.Hp} {c : Nat} {seen : List Nat} {t : Nat} {r : P.Xr}, H.Ok → H.nodes.length ≤ 1000000000 → TSt w hb wb H c seen → t < H.nodes.length → (H.nd t).args.length = 2 → seen.length ≤ c → r.2.1 ≤ 100000000 →
    H.list f t [91] c seen = some r → Calls Tryz.prog 47 #[.pointer (some ⟨wb, 0, none⟩), .int .i64 (t : Nat)] w (XPost hb wb H w r)
theorem XPost.of {hb wb : Nat} {H : P.Hp} {w w1 w' : World} {r : P.Xr} {e : Ending} (h : XPost hb wb H w1 r e w') (hf : TFr hb wb w w1) : XPost hb wb H w r e w' := ⟨h.1, h.2.1, hf.trans h.2.2⟩
theorem TSx.more {w w2 : World} {hb wb : Nat} {H : P.Hp} {c : Nat} {seen : List Nat} {kv nv iv av tv rv : Value} {ars : List Value} {sv v' : Value} {t : Nat} (h : TSx w hb wb H c seen kv nv iv av tv rv ars sv)
    (ho : w2.ownsRow (wb + 1) 3 1 v' (seen.length + 1) ((seen.map fun n => .int .i64 (n : Nat)) ++ [.int .i64 (t : Nat)])) (hg : (w.alloc (.cells #[.int .i64 (t : Nat)] 3 (0, 0))).grownBy w2 sv.ownBlock) :
    TSx (upd w2 wb (.cells #[.pointer (some ⟨hb, 0, none⟩), v'] 78 (0, 0))) hb wb H c (seen ++ [t]) kv nv iv av tv rv ars v' ∧ TFr hb wb w (upd w2 wb (.cells #[.pointer (some ⟨hb, 0, none⟩), v'] 78 (0, 0))) ∧
      w2.heap[wb]? = some (.cells #[.pointer (some ⟨hb, 0, none⟩), sv] 78 (0, 0)) := by
  have lw := ltOf h.cell
  have hE : Ext w (w.alloc (.cells #[.int .i64 (t : Nat)] 3 (0, 0))) := (FrM.refl _ _).alloc _
  have hsv : ∀ k, sv.ownBlock = some k → wb + 1 ≤ k := fun k hk => (h.own.lt k hk).1
  have hf2 : FrM (fun b _ => wb ≤ b) w w2 := ⟨hg.os.trans hE.os, hg.tape.trans hE.tape, hg.output.trans hE.output, Nat.le_trans hE.size hg.size, fun b o hb' hm => by
    have h1 := hE.ext _ _ hb'
    rw [hg.block b (ltOf h1) (fun e => hm (by have := hsv b e.symm; omega))]; exact h1⟩
  have hcw : w2.heap[wb]? = some (.cells #[.pointer (some ⟨hb, 0, none⟩), sv] 78 (0, 0)) := by
    have h1 := hE.ext _ _ h.cell
    rw [hg.block wb (ltOf h1) (fun e => by have := hsv wb e.symm; omega)]; exact h1
  have l2 := ltOf hcw
  have hf3 : FrM (fun b _ => wb ≤ b) w (upd w2 wb (.cells #[.pointer (some ⟨hb, 0, none⟩), v'] 78 (0, 0))) := hf2.upd (.inl fun _ => Nat.le_refl _)
  obtain ⟨g1, g2⟩ := h.h.frT h.lt (fun _ h => h) hf3
  refine ⟨⟨g1, g2, hp_upd_same rfl l2, ?_⟩, hf3.mono fun _ _ _ h => .inr h, hcw⟩
  have := own_upd (o := .cells #[.pointer (some ⟨hb, 0, none⟩), v'] 78 (0, 0)) ho (show wb < wb + 1 by omega)
  rw [List.length_append, List.map_append]
  exact this
set_option maxHeartbeats 4000000 in
theorem cxText {f : Nat} (ih : ∀ g, g ≤ f → CX g) {w : World} {hb wb : Nat} {H : P.Hp} {c : Nat} {seen : List Nat} {t least : Nat} {r : P.Xr} (hk : H.Ok) (hn : H.nodes.length ≤ 1000000000) (hs : TSt w hb wb H c seen) (ht : t < H.nodes.length) (hsl : seen.length ≤ c) (hr : r.2.1 ≤ 100000000)
    (hq : H.text (f + 1) t least c seen = some r) : Calls Tryz.prog 27 #[.pointer (some ⟨wb, 0, none⟩), .int .i64 (t : Nat), .int .i64 (least : Nat)] w (XPost hb wb H w r) := by
  obtain ⟨rs, rc, rl⟩ := r
  simp only at hr
  obtain ⟨kv, nv, iv, av, tv, rv, ars, sv, h⟩ := hs
  have hcell := h.h.cell
  have hw := h.cell
  have lw := ltOf hw
  have lh := ltOf hcell
  have hlt := h.hlt
  have mo := P.monH H f
  have hrc := (P.monH H (f + 1)).text _ _ _ _ _ _ _ hq
  rw [P.Hp.text] at hq
  simp only at hcell
  refine sh_Pr_writer_text_ok ?_
  simp (disch := first | assumption | omega | ((simp only [size_alloc, sz_drew, size_upd, List.size_toArray, List.length_cons, List.length_nil]) <;> omega) | decide) only [sh_Pr_writer_text, Pr, PX, PC, NX, ends, fillL, wrL, sOf, Nat.reduceAdd, Nat.reduceMul, Nat.reduceLeDiff, Nat.reduceEqDiff, Int.reduceToNat, Int.reduceAdd, Int.reduceLT, Int.reduceLE, ↓reduceIte, forall_const, eq_self, zG1, zG2, br_73_1, fa_129_0, fa_129_1, fa_129_2, fa_129_3, fa_129_6, fa_78_0, fa_78_1, ix_116, ix_126, ix_127, ix_38, ix_73, ld_116, ld_126, ld_127, ld_2, ld_3, ld_38, ld_5, ld_71, ld_73, ld_9, ln_73, st_3, st_73, hw, hcell]
  have hc1 : ((c : Nat) : Int) + 1 = ((c + 1 : Nat) : Int) := by omega
  rw [hc1]
  have h1 := h.cost (c + 1)
  obtain ⟨w1, hw1⟩ : ∃ y, y = upd w hb (.cells #[kv, nv, iv, av, tv, rv, .int .i64 ((c + 1 : Nat) : Int), .int .i64 (H.most : Nat), .int .i64 (H.err : Nat)] 129 (0, 0)) := ⟨_, rfl⟩
  rw [← hw1] at h1 ⊢
  have hf1 : TFr hb wb w w1 := by rw [hw1]; exact (FrM.refl _ _).upd (.inl fun _ => .inl rfl)
  refine (rSpent ⟨kv, nv, iv, av, tv, rv, ars, h1.h⟩).mono ?_
  rintro e w2 ⟨rfl, hE2⟩
  have h2 := h1.ext hE2
  have hf2 : TFr hb wb w w2 := hf1.trans hE2.toM
  have hover : P.Hp.spent { H with cost := c + 1 } = H.over (c + 1) := rfl
  rw [hover]
  by_cases hov : H.over (c + 1) = true
  · rw [if_pos hov] at hq
    simp only [Option.some.injEq, Prod.mk.injEq] at hq
    obtain ⟨rfl, rfl, rfl⟩ := hq
    simp (disch := first | assumption | omega | ((simp only [size_alloc, sz_drew, size_upd, List.size_toArray, List.length_cons, List.length_nil]) <;> omega) | decide) only [sh_Pr_writer_text, Pr, PX, PC, NX, ends, fillL, wrL, sOf, Nat.reduceAdd, Nat.reduceMul, Nat.reduceLeDiff, Nat.reduceEqDiff, Int.reduceToNat, Int.reduceAdd, Int.reduceLT, Int.reduceLE, ↓reduceIte, forall_const, eq_self, zG1, zG2, br_73_1, fa_129_0, fa_129_1, fa_129_2, fa_129_3, fa_129_6, fa_78_0, fa_78_1, ix_116, ix_126, ix_127, ix_38, ix_73, ld_116, ld_126, ld_127, ld_2, ld_3, ld_38, ld_5, ld_71, ld_73, ld_9, ln_73, st_3, st_73, hov]
    exact ⟨rfl, ⟨_, _, _, _, _, _, _, _, h2⟩, hf2⟩
  · rw [if_neg hov] at hq
    have hov' : H.over (c + 1) = false := by simpa using hov
    have hw2 := h2.cell
    simp (disch := first | assumption | omega | ((simp only [size_alloc, sz_drew, size_upd, List.size_toArray, List.length_cons, List.length_nil]) <;> omega) | decide) only [sh_Pr_writer_text, Pr, PX, PC, NX, ends, fillL, wrL, sOf, Nat.reduceAdd, Nat.reduceMul, Nat.reduceLeDiff, Nat.reduceEqDiff, Int.reduceToNat, Int.reduceAdd, Int.reduceLT, Int.reduceLE, ↓reduceIte, forall_const, eq_self, zG1, zG2, br_73_1, fa_129_0, fa_129_1, fa_129_2, fa_129_3, fa_129_6, fa_78_0, fa_78_1, ix_116, ix_126, ix_127, ix_38, ix_73, ld_116, ld_126, ld_127, ld_2, ld_3, ld_38, ld_5, ld_71, ld_73, ld_9, ln_73, st_3, st_73, hov', hw2]
    cases hwk : H.walk f t with
    | none => rw [hwk] at hq; cases hq
    | some t' =>
    rw [hwk] at hq
    dsimp only at hq
    have ht' := P.Hp.walk_lt' hk ht hwk
    refine (rWalk ⟨kv, nv, iv, av, tv, rv, ars, h2.h⟩ (H := { H with cost := c + 1 }) hk.to (f := f) (t' := t') ht hn (by
      have : ∀ (f t : Nat), P.Hp.walk { H with cost := c + 1 } f t = H.walk f t := by
        intro f
        induction f with
        | zero => intro t; rfl
        | succ f ih => intro t; rw [P.Hp.walk, P.Hp.walk]; simp only [ih]; rfl
      rw [this]; exact hwk)).mono ?_
    rintro e w3 ⟨rfl, rfl⟩
    have hcell3 := h2.h.cell
    simp only at hcell3
    obtain ⟨gk, ck, uk, rfl, k1, k2⟩ := h2.h.kd (t := t') ht'
    obtain ⟨gn, cn, un, rfl, k3, k4⟩ := h2.h.nm (t := t') ht'
    obtain ⟨gi, ci, ui, rfl, k5, k6⟩ := h2.h.nn (t := t') ht'
    obtain ⟨ga, ca, ua, va, rfl, k7, k8, k9⟩ := h2.h.an (t := t') ht'
    have hnd : P.Hp.nd { H with cost := c + 1 } t' = H.nd t' := rfl
    rw [hnd] at k2 k4 k6 k9
    simp only at k1 k3 k5 k7 hcell3
    have e1 : ((t' : Nat) : Int).toNat = t' := by omega
    have hst : TSt w3 hb wb H (c + 1) seen := ⟨_, _, _, _, _, _, _, _, h2⟩
    by_cases h97 : (H.nd t').kind = 97
    · have h97' : (((H.nd t').kind : Nat) : Int) = 97 := by omega
      rw [if_pos h97] at hq
      simp only [Option.some.injEq, Prod.mk.injEq] at hq
      obtain ⟨rfl, rfl, rfl⟩ := hq
      simp (disch := first | assumption | omega | ((simp only [size_alloc, sz_drew, size_upd, List.size_toArray, List.length_cons, List.length_nil]) <;> omega) | decide) only [sh_Pr_writer_text, Pr, PX, PC, NX, ends, fillL, wrL, sOf, Nat.reduceAdd, Nat.reduceMul, Nat.reduceLeDiff, Nat.reduceEqDiff, Int.reduceToNat, Int.reduceAdd, Int.reduceLT, Int.reduceLE, ↓reduceIte, forall_const, eq_self, zG1, zG2, br_73_1, fa_129_0, fa_129_1, fa_129_2, fa_129_3, fa_129_6, fa_78_0, fa_78_1, ix_116, ix_126, ix_127, ix_38, ix_73, ld_116, ld_126, ld_127, ld_2, ld_3, ld_38, ld_5, ld_71, ld_73, ld_9, ln_73, st_3, st_73, hw2, hcell3, k1, k2, k3, k4, e1]
      exact ⟨rfl, hst, hf2⟩
    have h97' : ¬ (((H.nd t').kind : Nat) : Int) = 97 := by omega
    rw [if_neg h97] at hq
    by_cases h110 : (H.nd t').kind = 110
    · have h110' : (((H.nd t').kind : Nat) : Int) = 110 := by omega
      rw [if_pos h110] at hq
      simp only [Option.some.injEq, Prod.mk.injEq] at hq
      obtain ⟨rfl, rfl, rfl⟩ := hq
      simp (disch := first | assumption | omega | ((simp only [size_alloc, sz_drew, size_upd, List.size_toArray, List.length_cons, List.length_nil]) <;> omega) | decide) only [sh_Pr_writer_text, Pr, PX, PC, NX, ends, fillL, wrL, sOf, Nat.reduceAdd, Nat.reduceMul, Nat.reduceLeDiff, Nat.reduceEqDiff, Int.reduceToNat, Int.reduceAdd, Int.reduceLT, Int.reduceLE, ↓reduceIte, forall_const, eq_self, zG1, zG2, br_73_1, fa_129_0, fa_129_1, fa_129_2, fa_129_3, fa_129_6, fa_78_0, fa_78_1, ix_116, ix_126, ix_127, ix_38, ix_73, ld_116, ld_126, ld_127, ld_2, ld_3, ld_38, ld_5, ld_71, ld_73, ld_9, ln_73, st_3, st_73, hw2, hcell3, k1, k2, k5, k6, e1]
      refine (rDecimal _ (hk.num _ ht').1 (hk.num _ ht').2 w3).mono ?_
      rintro e w4 ⟨rfl, rfl⟩
      exact ⟨rfl, hst, hf2⟩
    have h110' : ¬ (((H.nd t').kind : Nat) : Int) = 110 := by omega
    rw [if_neg h110] at hq
    by_cases h118 : (H.nd t').kind = 118
    · have h118' : (((H.nd t').kind : Nat) : Int) = 118 := by omega
      rw [if_pos h118] at hq
      simp (disch := first | assumption | omega | ((simp only [size_alloc, sz_drew, size_upd, List.size_toArray, List.length_cons, List.length_nil]) <;> omega) | decide) only [sh_Pr_writer_text, Pr, PX, PC, NX, ends, fillL, wrL, sOf, Nat.reduceAdd, Nat.reduceMul, Nat.reduceLeDiff, Nat.reduceEqDiff, Int.reduceToNat, Int.reduceAdd, Int.reduceLT, Int.reduceLE, ↓reduceIte, forall_const, eq_self, zG1, zG2, br_73_1, fa_129_0, fa_129_1, fa_129_2, fa_129_3, fa_129_6, fa_78_0, fa_78_1, ix_116, ix_126, ix_127, ix_38, ix_73, ld_116, ld_126, ld_127, ld_2, ld_3, ld_38, ld_5, ld_71, ld_73, ld_9, ln_73, st_3, st_73, hw2, hcell3, k1, k2, e1]
      obtain ⟨as_, cs_, rfl⟩ := own_slice h2.own
      refine ⟨fun m x w' => w' = w3 ∧ ∃ j, x 8 = .int .i64 (j : Nat) ∧ j ≤ seen.length ∧ m = seen.length - j ∧ ∀ (i : Nat) (hi : i < seen.length), i < j → seen[i] ≠ t', ⟨_, rfl, 0, rfl, Nat.zero_le _, rfl, fun i _ h => by omega⟩, ?_⟩
      intro m x d w4 hI
      refine toPr ?_
      obtain ⟨rfl, j, hx8, hj, rfl, hno⟩ := hI
      by_cases hjl : j < seen.length
      · obtain ⟨gs, cs', us, q1, q2, q3⟩ := own_at h2.own hjl
        simp only [Value.slice.injEq, true_and] at q1
        obtain ⟨rfl, rfl⟩ := q1
        rw [List.getElem?_map, List.getElem?_eq_getElem hjl] at q3
        have ej : ((j : Nat) : Int).toNat = j := by omega
        have q3' : us[j]? = some (.int .i64 ((seen[j] : Nat) : Int)) := q3
        by_cases heq : seen[j] = t'
        · have heq' : ((seen[j] : Nat) : Int) = (t' : Int) := by omega
          have hix : seen.idxOf? t' = some j := List.idxOf?_eq_some_iff.2 ⟨hjl, heq, fun i hi => hno i (by omega) hi⟩
          rw [hix] at hq
          simp only [Option.some.injEq, Prod.mk.injEq] at hq
          obtain ⟨rfl, rfl, rfl⟩ := hq
          simp (disch := first | assumption | omega | ((simp only [size_alloc, sz_drew, size_upd, List.size_toArray, List.length_cons, List.length_nil]) <;> omega) | decide) only [sh_Pr_writer_text, Pr, PX, PC, NX, ends, fillL, wrL, sOf, Nat.reduceAdd, Nat.reduceMul, Nat.reduceLeDiff, Nat.reduceEqDiff, Int.reduceToNat, Int.reduceAdd, Int.reduceLT, Int.reduceLE, ↓reduceIte, forall_const, eq_self, zG1, zG2, br_73_1, fa_129_0, fa_129_1, fa_129_2, fa_129_3, fa_129_6, fa_78_0, fa_78_1, ix_116, ix_126, ix_127, ix_38, ix_73, ld_116, ld_126, ld_127, ld_2, ld_3, ld_38, ld_5, ld_71, ld_73, ld_9, ln_73, st_3, st_73, hw2, hx8, q2, q3', ej]
          have ejj : ((j : Nat) : Int) + 1 = ((j + 1 : Nat) : Int) := by omega
          rw [ejj]
          refine (rDecimalN w4 (j + 1) (by omega)).mono ?_
          rintro e w5 ⟨rfl, rfl⟩
          have hl : (P.decN (j + 1)).length ≤ 19 := P.decN_len (by omega)
          simp (disch := first | assumption | omega | ((simp only [size_alloc, sz_drew, size_upd, List.size_toArray, List.length_cons, List.length_nil]) <;> omega) | decide) only [sh_Pr_writer_text, Pr, PX, PC, NX, ends, fillL, wrL, sOf, Nat.reduceAdd, Nat.reduceMul, Nat.reduceLeDiff, Nat.reduceEqDiff, Int.reduceToNat, Int.reduceAdd, Int.reduceLT, Int.reduceLE, ↓reduceIte, forall_const, eq_self, zG1, zG2, br_73_1, fa_129_0, fa_129_1, fa_129_2, fa_129_3, fa_129_6, fa_78_0, fa_78_1, ix_116, ix_126, ix_127, ix_38, ix_73, ld_116, ld_126, ld_127, ld_2, ld_3, ld_38, ld_5, ld_71, ld_73, ld_9, ln_73, st_3, st_73]
          rw [bo_ads _ _ (by simp; omega)]
          exact ⟨rfl, hst, hf2⟩
        · have heq' : ¬ ((seen[j] : Nat) : Int) = (t' : Int) := by omega
          simp (disch := first | assumption | omega | ((simp only [size_alloc, sz_drew, size_upd, List.size_toArray, List.length_cons, List.length_nil]) <;> omega) | decide) only [sh_Pr_writer_text, Pr, PX, PC, NX, ends, fillL, wrL, sOf, Nat.reduceAdd, Nat.reduceMul, Nat.reduceLeDiff, Nat.reduceEqDiff, Int.reduceToNat, Int.reduceAdd, Int.reduceLT, Int.reduceLE, ↓reduceIte, forall_const, eq_self, zG1, zG2, br_73_1, fa_129_0, fa_129_1, fa_129_2, fa_129_3, fa_129_6, fa_78_0, fa_78_1, ix_116, ix_126, ix_127, ix_38, ix_73, ld_116, ld_126, ld_127, ld_2, ld_3, ld_38, ld_5, ld_71, ld_73, ld_9, ln_73, st_3, st_73, hw2, hx8, q2, q3', ej]
          refine ⟨_, by omega, j + 1, by simp [sOf], by omega, rfl, fun i hi hij => ?_⟩
          by_cases e : i = j
          · subst e; exact heq
          · exact hno i hi (by omega)
      · have hjs : j = seen.length := by omega
        subst hjs
        have hix : seen.idxOf? t' = none := List.idxOf?_eq_none_iff.2 fun hm => by
          obtain ⟨i, hi, he⟩ := List.getElem_of_mem hm
          exact hno i hi hi he
        rw [hix] at hq
        simp only [Option.some.injEq, Prod.mk.injEq] at hq
        obtain ⟨rfl, rfl, rfl⟩ := hq
        simp (disch := first | assumption | omega | ((simp only [size_alloc, sz_drew, size_upd, List.size_toArray, List.length_cons, List.length_nil]) <;> omega) | decide) only [sh_Pr_writer_text, Pr, PX, PC, NX, ends, fillL, wrL, sOf, Nat.reduceAdd, Nat.reduceMul, Nat.reduceLeDiff, Nat.reduceEqDiff, Int.reduceToNat, Int.reduceAdd, Int.reduceLT, Int.reduceLE, ↓reduceIte, forall_const, eq_self, zG1, zG2, br_73_1, fa_129_0, fa_129_1, fa_129_2, fa_129_3, fa_129_6, fa_78_0, fa_78_1, ix_116, ix_126, ix_127, ix_38, ix_73, ld_116, ld_126, ld_127, ld_2, ld_3, ld_38, ld_5, ld_71, ld_73, ld_9, ln_73, st_3, st_73, hw2, hx8]
        have l4 := ltOf hw2
        refine wr_app1 (by kernel_rfl) Tryz.infoInt rfl (by decide) (h2.own.alloc _) (hp_alloc_new rfl) rfl (by omega) (by rw [size_alloc]; omega) ?_
        intro v' w5 ho5 hg5 hv5
        obtain ⟨a5, c5, rfl⟩ := own_slice ho5
        obtain ⟨m1, m2, m3⟩ := h2.more ho5 hg5
        have l5 := ltOf m3
        simp (disch := first | assumption | omega | ((simp only [size_alloc, sz_drew, size_upd, List.size_toArray, List.length_cons, List.length_nil]) <;> omega) | decide) only [sh_Pr_writer_text, Pr, PX, PC, NX, ends, fillL, wrL, sOf, Nat.reduceAdd, Nat.reduceMul, Nat.reduceLeDiff, Nat.reduceEqDiff, Int.reduceToNat, Int.reduceAdd, Int.reduceLT, Int.reduceLE, ↓reduceIte, forall_const, eq_self, zG1, zG2, br_73_1, fa_129_0, fa_129_1, fa_129_2, fa_129_3, fa_129_6, fa_78_0, fa_78_1, ix_116, ix_126, ix_127, ix_38, ix_73, ld_116, ld_126, ld_127, ld_2, ld_3, ld_38, ld_5, ld_71, ld_73, ld_9, ln_73, st_3, st_73, m3]
        have ess : ((seen.length + 1 : Nat) : Int) = ((seen.length + 1 : Nat) : Int) := rfl
        refine Calls.mono (rDecimalN _ (seen.length + 1) (by omega)) ?_
        rintro e w6 ⟨rfl, rfl⟩
        have hl : (P.decN (seen.length + 1)).length ≤ 19 := P.decN_len (by omega)
        simp (disch := first | assumption | omega | ((simp only [size_alloc, sz_drew, size_upd, List.size_toArray, List.length_cons, List.length_nil]) <;> omega) | decide) only [sh_Pr_writer_text, Pr, PX, PC, NX, ends, fillL, wrL, sOf, Nat.reduceAdd, Nat.reduceMul, Nat.reduceLeDiff, Nat.reduceEqDiff, Int.reduceToNat, Int.reduceAdd, Int.reduceLT, Int.reduceLE, ↓reduceIte, forall_const, eq_self, zG1, zG2, br_73_1, fa_129_0, fa_129_1, fa_129_2, fa_129_3, fa_129_6, fa_78_0, fa_78_1, ix_116, ix_126, ix_127, ix_38, ix_73, ld_116, ld_126, ld_127, ld_2, ld_3, ld_38, ld_5, ld_71, ld_73, ld_9, ln_73, st_3, st_73]
        rw [bo_ads _ _ (by simp; omega)]
        exact ⟨rfl, ⟨_, _, _, _, _, _, _, _, m1⟩, hf2.trans m2⟩
    have h118' : ¬ (((H.nd t').kind : Nat) : Int) = 118 := by omega
    rw [if_neg h118] at hq
    simp (disch := first | assumption | omega | ((simp only [size_alloc, sz_drew, size_upd, List.size_toArray, List.length_cons, List.length_nil]) <;> omega) | decide) only [sh_Pr_writer_text, Pr, PX, PC, NX, ends, fillL, wrL, sOf, Nat.reduceAdd, Nat.reduceMul, Nat.reduceLeDiff, Nat.reduceEqDiff, Int.reduceToNat, Int.reduceAdd, Int.reduceLT, Int.reduceLE, ↓reduceIte, forall_const, eq_self, zG1, zG2, br_73_1, fa_129_0, fa_129_1, fa_129_2, fa_129_3, fa_129_6, fa_78_0, fa_78_1, ix_116, ix_126, ix_127, ix_38, ix_73, ld_116, ld_126, ld_127, ld_2, ld_3, ld_38, ld_5, ld_71, ld_73, ld_9, ln_73, st_3, st_73, hw2, hcell3, k1, k2, e1]
    refine (rPower hst ht' hn).mono ?_
    rintro e w4 ⟨rfl, rfl⟩
    have hargs := hk.args _ ht'
    have hal : ((H.nd t').args.map fun n => (.int .i64 (n : Nat) : Value)).length = (H.nd t').args.length := by simp
    simp (disch := first | assumption | omega | ((simp only [size_alloc, sz_drew, size_upd, List.size_toArray, List.length_cons, List.length_nil]) <;> omega) | decide) only [sh_Pr_writer_text, Pr, PX, PC, NX, ends, fillL, wrL, sOf, Nat.reduceAdd, Nat.reduceMul, Nat.reduceLeDiff, Nat.reduceEqDiff, Int.reduceToNat, Int.reduceAdd, Int.reduceLT, Int.reduceLE, ↓reduceIte, forall_const, eq_self, zG1, zG2, br_73_1, fa_129_0, fa_129_1, fa_129_2, fa_129_3, fa_129_6, fa_78_0, fa_78_1, ix_116, ix_126, ix_127, ix_38, ix_73, ld_116, ld_126, ld_127, ld_2, ld_3, ld_38, ld_5, ld_71, ld_73, ld_9, ln_73, st_3, st_73, hw2, hcell3, k7, k8, e1]
    by_cases hp : H.power t' ≠ 0
    · rw [if_pos hp] at hq
      obtain ⟨hl2, hp2⟩ := P.Hp.power_two hp
      have hp' : (0 : Int) < ((H.power t' : Nat) : Int) := by omega
      obtain ⟨ga2, cs2, rfl, q1, q2, q3⟩ := k9.at' (j := 0) (by rw [hal]; omega)
      obtain ⟨ga3, cs3, e3, q4, q5, q6⟩ := k9.at' (j := 1) (by rw [hal]; omega)
      simp only [Value.slice.injEq, Option.some.injEq, Addr.mk.injEq, true_and, and_true] at e3
      obtain ⟨rfl, e4⟩ := e3
      rw [q2] at q5
      injection q5 with q5
      injection q5 with q5 _ _
      subst q5
      rw [hal, hl2] at k8
      rw [hal, hl2]
      have q3' : cs2[0]? = some (.int .i64 (((H.nd t').args.getD 0 0 : Nat) : Int)) := by
        rw [q3]; simp [List.getD_eq_getElem?_getD, show 0 < (H.nd t').args.length by omega]
      have q6' : cs2[1]? = some (.int .i64 (((H.nd t').args.getD 1 0 : Nat) : Int)) := by
        rw [q6]; simp [List.getD_eq_getElem?_getD, show 1 < (H.nd t').args.length by omega]
      obtain ⟨sa, ca1, la1, hq1, hq'⟩ := P.Xb_some hq
      obtain ⟨sb, ca2, la2, hq2, hq''⟩ := P.Xb_some hq'
      simp only [Option.some.injEq, Prod.mk.injEq] at hq''
      obtain ⟨hrs, rfl, rfl⟩ := hq''
      have mo1 := mo.text _ _ _ _ _ _ _ hq1
      have mo2 := mo.text _ _ _ _ _ _ _ hq2
      have t1 := P.getD_lt (i := 0) hargs.2 (by omega)
      have t2 := P.getD_lt (i := 1) hargs.2 (by omega)
      have le1 := (P.lenH hk f).text _ _ _ _ _ _ _ t1 (by omega) (by omega) hq1
      have le2 := (P.lenH hk f).text _ _ _ _ _ _ _ t2 (by omega) (by omega) hq2
      simp (disch := first | assumption | omega | ((simp only [size_alloc, sz_drew, size_upd, List.size_toArray, List.length_cons, List.length_nil]) <;> omega) | decide) only [sh_Pr_writer_text, Pr, PX, PC, NX, ends, fillL, wrL, sOf, Nat.reduceAdd, Nat.reduceMul, Nat.reduceLeDiff, Nat.reduceEqDiff, Int.reduceToNat, Int.reduceAdd, Int.reduceLT, Int.reduceLE, ↓reduceIte, forall_const, eq_self, zG1, zG2, br_73_1, fa_129_0, fa_129_1, fa_129_2, fa_129_3, fa_129_6, fa_78_0, fa_78_1, ix_116, ix_126, ix_127, ix_38, ix_73, ld_116, ld_126, ld_127, ld_2, ld_3, ld_38, ld_5, ld_71, ld_73, ld_9, ln_73, st_3, st_73, q2, q3']
      refine Calls.mono ((ih f (Nat.le_refl _)).text hk hn hst t1 (by omega) (by simp only; omega) hq1) ?_
      rintro e w5 ⟨rfl, hs5, hf5⟩
      have qb5 : w5.heap[ga2]? = some (.cells cs2 3 (0, 0)) := hf5.block _ _ q2 (by obtain ⟨p1, p2⟩ := q1; exact fun hh => hh.elim (fun h => p1 (.inl h)) (fun h => by omega))
      have hpi : ((H.power t' : Nat) : Int) + 1 = ((H.power t' + 1 : Nat) : Int) := by omega
      simp (disch := first | assumption | omega | ((simp only [size_alloc, sz_drew, size_upd, List.size_toArray, List.length_cons, List.length_nil]) <;> omega) | decide) only [sh_Pr_writer_text, Pr, PX, PC, NX, ends, fillL, wrL, sOf, Nat.reduceAdd, Nat.reduceMul, Nat.reduceLeDiff, Nat.reduceEqDiff, Int.reduceToNat, Int.reduceAdd, Int.reduceLT, Int.reduceLE, ↓reduceIte, forall_const, eq_self, zG1, zG2, br_73_1, fa_129_0, fa_129_1, fa_129_2, fa_129_3, fa_129_6, fa_78_0, fa_78_1, ix_116, ix_126, ix_127, ix_38, ix_73, ld_116, ld_126, ld_127, ld_2, ld_3, ld_38, ld_5, ld_71, ld_73, ld_9, ln_73, st_3, st_73, qb5, q6', hpi]
      refine Calls.mono ((ih f (Nat.le_refl _)).text hk hn hs5 t2 (by simp only; omega) (by simp only; omega) hq2) ?_
      rintro e w6 ⟨rfl, hs6, hf6⟩
      have hf06 := (hf2.trans hf5).trans hf6
      obtain ⟨kv6, nv6, iv6, av6, tv6, rv6, ars6, sv6, h6⟩ := id hs6
      have hw6 := h6.cell
      have hcell6 := h6.h.cell
      simp only at hcell6 hw6
      obtain ⟨gn6, cn6, un6, rfl, k36, k46⟩ := h6.h.nm (t := t') ht'
      have hnd6 : ∀ c, P.Hp.nd { H with cost := c } t' = H.nd t' := fun _ => rfl
      rw [hnd6] at k46
      have lw6 := ltOf hw6
      simp (disch := first | assumption | omega | ((simp only [size_alloc, sz_drew, size_upd, List.size_toArray, List.length_cons, List.length_nil]) <;> omega) | decide) only [sh_Pr_writer_text, Pr, PX, PC, NX, ends, fillL, wrL, sOf, Nat.reduceAdd, Nat.reduceMul, Nat.reduceLeDiff, Nat.reduceEqDiff, Int.reduceToNat, Int.reduceAdd, Int.reduceLT, Int.reduceLE, ↓reduceIte, forall_const, eq_self, zG1, zG2, br_73_1, fa_129_0, fa_129_1, fa_129_2, fa_129_3, fa_129_6, fa_78_0, fa_78_1, ix_116, ix_126, ix_127, ix_38, ix_73, ld_116, ld_126, ld_127, ld_2, ld_3, ld_38, ld_5, ld_71, ld_73, ld_9, ln_73, st_3, st_73, hw6, hcell6, k36, k46, e1]
      have hnl := hk.name _ ht'
      refine ⟨fun x w' => w' = w6 ∧ x 15 = .string (bs (if (H.nd t').name = [109, 111, 100] then [32, 109, 111, 100, 32] else (H.nd t').name)), ?_, ?_⟩
      · by_cases hm : (H.nd t').name = [109, 111, 100]
        · simp (disch := first | assumption | omega | ((simp only [size_alloc, sz_drew, size_upd, List.size_toArray, List.length_cons, List.length_nil]) <;> omega) | decide) only [sh_Pr_writer_text, Pr, PX, PC, NX, ends, fillL, wrL, sOf, Nat.reduceAdd, Nat.reduceMul, Nat.reduceLeDiff, Nat.reduceEqDiff, Int.reduceToNat, Int.reduceAdd, Int.reduceLT, Int.reduceLE, ↓reduceIte, forall_const, eq_self, zG1, zG2, br_73_1, fa_129_0, fa_129_1, fa_129_2, fa_129_3, fa_129_6, fa_78_0, fa_78_1, ix_116, ix_126, ix_127, ix_38, ix_73, ld_116, ld_126, ld_127, ld_2, ld_3, ld_38, ld_5, ld_71, ld_73, ld_9, ln_73, st_3, st_73, hm]
        · simp (disch := first | assumption | omega | ((simp only [size_alloc, sz_drew, size_upd, List.size_toArray, List.length_cons, List.length_nil]) <;> omega) | decide) only [sh_Pr_writer_text, Pr, PX, PC, NX, ends, fillL, wrL, sOf, Nat.reduceAdd, Nat.reduceMul, Nat.reduceLeDiff, Nat.reduceEqDiff, Int.reduceToNat, Int.reduceAdd, Int.reduceLT, Int.reduceLE, ↓reduceIte, forall_const, eq_self, zG1, zG2, br_73_1, fa_129_0, fa_129_1, fa_129_2, fa_129_3, fa_129_6, fa_78_0, fa_78_1, ix_116, ix_126, ix_127, ix_38, ix_73, ld_116, ld_126, ld_127, ld_2, ld_3, ld_38, ld_5, ld_71, ld_73, ld_9, ln_73, st_3, st_73, hm]
      · rintro x w' ⟨rfl, hx15⟩ d
        obtain ⟨op, hop⟩ : ∃ op : P.Bs, op = if (H.nd t').name = [109, 111, 100] then [32, 109, 111, 100, 32] else (H.nd t').name := ⟨_, rfl⟩
        rw [← hop] at hx15 hrs
        have hopl : op.length ≤ 20 := by rw [hop]; split <;> simp_all
        by_cases hpl : H.power t' < least
        · rw [if_pos hpl] at hrs
          simp (disch := first | assumption | omega | ((simp only [size_alloc, sz_drew, size_upd, List.size_toArray, List.length_cons, List.length_nil]) <;> omega) | decide) only [sh_Pr_writer_text, Pr, PX, PC, NX, ends, fillL, wrL, sOf, Nat.reduceAdd, Nat.reduceMul, Nat.reduceLeDiff, Nat.reduceEqDiff, Int.reduceToNat, Int.reduceAdd, Int.reduceLT, Int.reduceLE, ↓reduceIte, forall_const, eq_self, zG1, zG2, br_73_1, fa_129_0, fa_129_1, fa_129_2, fa_129_3, fa_129_6, fa_78_0, fa_78_1, ix_116, ix_126, ix_127, ix_38, ix_73, ld_116, ld_126, ld_127, ld_2, ld_3, ld_38, ld_5, ld_71, ld_73, ld_9, ln_73, st_3, st_73, hx15]
          rw [bo_ads _ _ (by simp; omega)]
          rw [hx15]
          rw [bo_ads _ _ (by simp; omega), bo_ads _ _ (by simp; omega), bo_ads _ _ (by simp; omega)]
          refine ⟨?_, hs6, hf06⟩
          rw [← hrs]
          simp
        · rw [if_neg hpl] at hrs
          simp (disch := first | assumption | omega | ((simp only [size_alloc, sz_drew, size_upd, List.size_toArray, List.length_cons, List.length_nil]) <;> omega) | decide) only [sh_Pr_writer_text, Pr, PX, PC, NX, ends, fillL, wrL, sOf, Nat.reduceAdd, Nat.reduceMul, Nat.reduceLeDiff, Nat.reduceEqDiff, Int.reduceToNat, Int.reduceAdd, Int.reduceLT, Int.reduceLE, ↓reduceIte, forall_const, eq_self, zG1, zG2, br_73_1, fa_129_0, fa_129_1, fa_129_2, fa_129_3, fa_129_6, fa_78_0, fa_78_1, ix_116, ix_126, ix_127, ix_38, ix_73, ld_116, ld_126, ld_127, ld_2, ld_3, ld_38, ld_5, ld_71, ld_73, ld_9, ln_73, st_3, st_73, hx15]
          rw [bo_ads _ _ (by omega), bo_ads _ _ (by simp; omega)]
          refine ⟨?_, hs6, hf06⟩
          rw [← hrs]
    · rw [if_neg hp] at hq
      have hp0 : H.power t' = 0 := by simpa using hp
      have hp' : ¬ (0 : Int) < ((H.power t' : Nat) : Int) := by omega
      obtain ⟨a9, c9, rfl⟩ := k9.sl
      rw [hal] at k8 ⊢
      simp (disch := first | assumption | omega | ((simp only [size_alloc, sz_drew, size_upd, List.size_toArray, List.length_cons, List.length_nil]) <;> omega) | decide) only [sh_Pr_writer_text, Pr, PX, PC, NX, ends, fillL, wrL, sOf, Nat.reduceAdd, Nat.reduceMul, Nat.reduceLeDiff, Nat.reduceEqDiff, Int.reduceToNat, Int.reduceAdd, Int.reduceLT, Int.reduceLE, ↓reduceIte, forall_const, eq_self, zG1, zG2, br_73_1, fa_129_0, fa_129_1, fa_129_2, fa_129_3, fa_129_6, fa_78_0, fa_78_1, ix_116, ix_126, ix_127, ix_38, ix_73, ld_116, ld_126, ld_127, ld_2, ld_3, ld_38, ld_5, ld_71, ld_73, ld_9, ln_73, st_3, st_73]
      refine ⟨fun _ w' => w' = w4 ∧ ¬ ((H.nd t').name = [46] ∧ (H.nd t').args.length = 2), ?_, ?_⟩
      · refine ⟨fun x w' => w' = w4 ∧ x 189 = .bool (decide ((H.nd t').name = [46] ∧ (H.nd t').args.length = 2)), ?_, ?_⟩
        · by_cases hnm : (H.nd t').name = [46]
          · simp (disch := first | assumption | omega | ((simp only [size_alloc, sz_drew, size_upd, List.size_toArray, List.length_cons, List.length_nil]) <;> omega) | decide) only [sh_Pr_writer_text, Pr, PX, PC, NX, ends, fillL, wrL, sOf, Nat.reduceAdd, Nat.reduceMul, Nat.reduceLeDiff, Nat.reduceEqDiff, Int.reduceToNat, Int.reduceAdd, Int.reduceLT, Int.reduceLE, ↓reduceIte, forall_const, eq_self, zG1, zG2, br_73_1, fa_129_0, fa_129_1, fa_129_2, fa_129_3, fa_129_6, fa_78_0, fa_78_1, ix_116, ix_126, ix_127, ix_38, ix_73, ld_116, ld_126, ld_127, ld_2, ld_3, ld_38, ld_5, ld_71, ld_73, ld_9, ln_73, st_3, st_73, hw2, hcell3, k3, k4, e1, hnm]
            simp [sOf]
            omega
          · simp (disch := first | assumption | omega | ((simp only [size_alloc, sz_drew, size_upd, List.size_toArray, List.length_cons, List.length_nil]) <;> omega) | decide) only [sh_Pr_writer_text, Pr, PX, PC, NX, ends, fillL, wrL, sOf, Nat.reduceAdd, Nat.reduceMul, Nat.reduceLeDiff, Nat.reduceEqDiff, Int.reduceToNat, Int.reduceAdd, Int.reduceLT, Int.reduceLE, ↓reduceIte, forall_const, eq_self, zG1, zG2, br_73_1, fa_129_0, fa_129_1, fa_129_2, fa_129_3, fa_129_6, fa_78_0, fa_78_1, ix_116, ix_126, ix_127, ix_38, ix_73, ld_116, ld_126, ld_127, ld_2, ld_3, ld_38, ld_5, ld_71, ld_73, ld_9, ln_73, st_3, st_73, hw2, hcell3, k3, k4, e1, hnm]
            simp [sOf, hnm]
        · rintro x w' ⟨rfl, hx⟩ d
          rw [hx]
          by_cases hc : (H.nd t').name = [46] ∧ (H.nd t').args.length = 2
          · rw [bs_pos _ _ hc, if_pos hc] at *
            refine Calls.mono ((ih f (Nat.le_refl _)).list hk hn hst ht' hc.2 (by omega) (by simp only; omega) hq) ?_
            rintro e w5 hp5
            have hp6 := hp5.of hf2
            obtain ⟨rfl, hp7⟩ := hp6
            exact ⟨rfl, hp7⟩
          · rw [bs_neg _ _ hc]
            exact ⟨rfl, hc⟩
      · rintro _ w' ⟨rfl, hc⟩ d
        rw [if_neg hc] at hq
        have hnl := hk.name _ ht'
        simp (disch := first | assumption | omega | ((simp only [size_alloc, sz_drew, size_upd, List.size_toArray, List.length_cons, List.length_nil]) <;> omega) | decide) only [sh_Pr_writer_text, Pr, PX, PC, NX, ends, fillL, wrL, sOf, Nat.reduceAdd, Nat.reduceMul, Nat.reduceLeDiff, Nat.reduceEqDiff, Int.reduceToNat, Int.reduceAdd, Int.reduceLT, Int.reduceLE, ↓reduceIte, forall_const, eq_self, zG1, zG2, br_73_1, fa_129_0, fa_129_1, fa_129_2, fa_129_3, fa_129_6, fa_78_0, fa_78_1, ix_116, ix_126, ix_127, ix_38, ix_73, ld_116, ld_126, ld_127, ld_2, ld_3, ld_38, ld_5, ld_71, ld_73, ld_9, ln_73, st_3, st_73, hw2, hcell3, k3, k4, e1]
        rw [bo_ads _ _ (by simp; omega)]
        refine ⟨fun m x w'' => ∃ j out cj sj, x 17 = .int .i64 (j : Nat) ∧ x 16 = .string (bs out) ∧ j ≤ (H.nd t').args.length ∧ m = (H.nd t').args.length - j ∧ TSt w'' hb wb H cj sj ∧ TFr hb wb w w'' ∧ TFr hb wb w' w'' ∧ sj.length ≤ cj ∧ c + 1 ≤ cj ∧
          out.length ≤ 40 + 40 * cj ∧ ∃ g, g ≤ f ∧ H.targs g ((H.nd t').args.drop j) (decide (j = 0)) out cj sj = some (rs, rc, rl),
          ⟨_, 0, _, c + 1, seen, rfl, rfl, Nat.zero_le _, rfl, hst, hf2, FrM.refl _ _, by omega, Nat.le_refl _, by simp; omega, f, Nat.le_refl _, by simpa using hq⟩, ?_⟩
        intro m x d w5 hI
        refine toPr ?_
        obtain ⟨j, out, cj, sj, hx17, hx16, hj, rfl, hs5, hf5, hf45, hsj, hcj, hout, g, hg, hqj⟩ := hI
        by_cases hjl : j < (H.nd t').args.length
        · rw [List.drop_eq_getElem_cons hjl] at hqj
          cases g with
          | zero => simp [P.Hp.targs] at hqj
          | succ g =>
          rw [P.Hp.targs] at hqj
          obtain ⟨sa, ca1, la1, hq1, hq2⟩ := P.Xb_some hqj
          have mo1 := (P.monH H g).text _ _ _ _ _ _ _ hq1
          have mo2 := (P.monH H g).targs _ _ _ _ _ _ _ _ hq2
          have tj : (H.nd t').args[j] < H.nodes.length := hargs.2 _ (List.getElem_mem _)
          have le1 := (P.lenH hk g).text _ _ _ _ _ _ _ tj hsj (by omega) hq1
          obtain ⟨ga2, cs2, e3, q1, q2, q3⟩ := k9.at' (j := j) (by rw [hal]; exact hjl)
          simp only [Value.slice.injEq, true_and] at e3
          obtain ⟨rfl, rfl⟩ := e3
          have hf25 : w5.heap[ga2]? = some (.cells cs2 3 (0, 0)) := hf45.block _ _ q2 (by obtain ⟨p1, p2⟩ := q1; exact fun hh => hh.elim (fun h => p1 (.inl h)) (fun h => by omega))
          have q3' : cs2[j]? = some (.int .i64 (((H.nd t').args[j] : Nat) : Int)) := by
            rw [q3]; simp [hjl]
          have ej : ((j : Nat) : Int).toNat = j := by omega
          have hjl' : ((j : Nat) : Int) < (((H.nd t').args.length : Nat) : Int) := by omega
          simp (disch := first | assumption | omega | ((simp only [size_alloc, sz_drew, size_upd, List.size_toArray, List.length_cons, List.length_nil]) <;> omega) | decide) only [sh_Pr_writer_text, Pr, PX, PC, NX, ends, fillL, wrL, sOf, Nat.reduceAdd, Nat.reduceMul, Nat.reduceLeDiff, Nat.reduceEqDiff, Int.reduceToNat, Int.reduceAdd, Int.reduceLT, Int.reduceLE, ↓reduceIte, forall_const, eq_self, zG1, zG2, br_73_1, fa_129_0, fa_129_1, fa_129_2, fa_129_3, fa_129_6, fa_78_0, fa_78_1, ix_116, ix_126, ix_127, ix_38, ix_73, ld_116, ld_126, ld_127, ld_2, ld_3, ld_38, ld_5, ld_71, ld_73, ld_9, ln_73, st_3, st_73, hx17, hjl']
          refine ⟨fun x' w'' => x' 16 = .string (bs ((if decide (j = 0) then out else out ++ [44]) ++ sa)) ∧ TSt w'' hb wb H ca1 la1 ∧ TFr hb wb w w'' ∧ TFr hb wb w' w'', ?_, ?_⟩
          · simp (disch := first | assumption | omega | ((simp only [size_alloc, sz_drew, size_upd, List.size_toArray, List.length_cons, List.length_nil]) <;> omega) | decide) only [sh_Pr_writer_text, Pr, PX, PC, NX, ends, fillL, wrL, sOf, Nat.reduceAdd, Nat.reduceMul, Nat.reduceLeDiff, Nat.reduceEqDiff, Int.reduceToNat, Int.reduceAdd, Int.reduceLT, Int.reduceLE, ↓reduceIte, forall_const, eq_self, zG1, zG2, br_73_1, fa_129_0, fa_129_1, fa_129_2, fa_129_3, fa_129_6, fa_78_0, fa_78_1, ix_116, ix_126, ix_127, ix_38, ix_73, ld_116, ld_126, ld_127, ld_2, ld_3, ld_38, ld_5, ld_71, ld_73, ld_9, ln_73, st_3, st_73, hx17, hx16, hf25, q3', ej]
            refine Calls.mono ((ih g (by omega)).text hk hn hs5 tj hsj (by simp only; omega) hq1) ?_
            rintro e w6 ⟨rfl, hs6, hf6⟩
            refine ⟨fun x' w'' => w'' = w6 ∧ x' 16 = .string (bs (if decide (j = 0) then out else out ++ [44])), ?_, ?_⟩
            · by_cases hj0 : j = 0
              · subst hj0
                simp (disch := first | assumption | omega | ((simp only [size_alloc, sz_drew, size_upd, List.size_toArray, List.length_cons, List.length_nil]) <;> omega) | decide) only [sh_Pr_writer_text, Pr, PX, PC, NX, ends, fillL, wrL, sOf, Nat.reduceAdd, Nat.reduceMul, Nat.reduceLeDiff, Nat.reduceEqDiff, Int.reduceToNat, Int.reduceAdd, Int.reduceLT, Int.reduceLE, ↓reduceIte, forall_const, eq_self, zG1, zG2, br_73_1, fa_129_0, fa_129_1, fa_129_2, fa_129_3, fa_129_6, fa_78_0, fa_78_1, ix_116, ix_126, ix_127, ix_38, ix_73, ld_116, ld_126, ld_127, ld_2, ld_3, ld_38, ld_5, ld_71, ld_73, ld_9, ln_73, st_3, st_73, hx17, hx16]
              · have hj0' : (0 : Int) < ((j : Nat) : Int) := by omega
                simp (disch := first | assumption | omega | ((simp only [size_alloc, sz_drew, size_upd, List.size_toArray, List.length_cons, List.length_nil]) <;> omega) | decide) only [sh_Pr_writer_text, Pr, PX, PC, NX, ends, fillL, wrL, sOf, Nat.reduceAdd, Nat.reduceMul, Nat.reduceLeDiff, Nat.reduceEqDiff, Int.reduceToNat, Int.reduceAdd, Int.reduceLT, Int.reduceLE, ↓reduceIte, forall_const, eq_self, zG1, zG2, br_73_1, fa_129_0, fa_129_1, fa_129_2, fa_129_3, fa_129_6, fa_78_0, fa_78_1, ix_116, ix_126, ix_127, ix_38, ix_73, ld_116, ld_126, ld_127, ld_2, ld_3, ld_38, ld_5, ld_71, ld_73, ld_9, ln_73, st_3, st_73, hx17, hx16]
                rw [bo_ads _ _ (by simp; omega)]
                simp (disch := first | assumption | omega | ((simp only [size_alloc, sz_drew, size_upd, List.size_toArray, List.length_cons, List.length_nil]) <;> omega) | decide) only [sh_Pr_writer_text, Pr, PX, PC, NX, ends, fillL, wrL, sOf, Nat.reduceAdd, Nat.reduceMul, Nat.reduceLeDiff, Nat.reduceEqDiff, Int.reduceToNat, Int.reduceAdd, Int.reduceLT, Int.reduceLE, ↓reduceIte, forall_const, eq_self, zG1, zG2, br_73_1, fa_129_0, fa_129_1, fa_129_2, fa_129_3, fa_129_6, fa_78_0, fa_78_1, ix_116, ix_126, ix_127, ix_38, ix_73, ld_116, ld_126, ld_127, ld_2, ld_3, ld_38, ld_5, ld_71, ld_73, ld_9, ln_73, st_3, st_73, hj0]
                rfl
            · rintro x' w'' ⟨rfl, hx'⟩ d'
              rw [hx', bo_ads _ _ (by split <;> simp <;> omega)]
              simp (disch := first | assumption | omega | ((simp only [size_alloc, sz_drew, size_upd, List.size_toArray, List.length_cons, List.length_nil]) <;> omega) | decide) only [sh_Pr_writer_text, Pr, PX, PC, NX, ends, fillL, wrL, sOf, Nat.reduceAdd, Nat.reduceMul, Nat.reduceLeDiff, Nat.reduceEqDiff, Int.reduceToNat, Int.reduceAdd, Int.reduceLT, Int.reduceLE, ↓reduceIte, forall_const, eq_self, zG1, zG2, br_73_1, fa_129_0, fa_129_1, fa_129_2, fa_129_3, fa_129_6, fa_78_0, fa_78_1, ix_116, ix_126, ix_127, ix_38, ix_73, ld_116, ld_126, ld_127, ld_2, ld_3, ld_38, ld_5, ld_71, ld_73, ld_9, ln_73, st_3, st_73]
              exact ⟨hs6, hf5.trans hf6, hf45.trans hf6⟩
          · rintro x' w'' ⟨hx', hs6, hf6, hf46⟩ d'
            have ej1 : ((j : Nat) : Int) + 1 = ((j + 1 : Nat) : Int) := by omega
            simp (disch := first | assumption | omega | ((simp only [size_alloc, sz_drew, size_upd, List.size_toArray, List.length_cons, List.length_nil]) <;> omega) | decide) only [sh_Pr_writer_text, Pr, PX, PC, NX, ends, fillL, wrL, sOf, Nat.reduceAdd, Nat.reduceMul, Nat.reduceLeDiff, Nat.reduceEqDiff, Int.reduceToNat, Int.reduceAdd, Int.reduceLT, Int.reduceLE, ↓reduceIte, forall_const, eq_self, zG1, zG2, br_73_1, fa_129_0, fa_129_1, fa_129_2, fa_129_3, fa_129_6, fa_78_0, fa_78_1, ix_116, ix_126, ix_127, ix_38, ix_73, ld_116, ld_126, ld_127, ld_2, ld_3, ld_38, ld_5, ld_71, ld_73, ld_9, ln_73, st_3, st_73, hx17, hx', ej1]
            refine ⟨_, by omega, j + 1, _, ca1, la1, rfl, rfl, by omega, rfl, hs6, hf6, hf46, by omega, by omega, ?_, g, by omega, hq2⟩
            have : ((if decide (j = 0) then out else out ++ [44]) ++ sa).length ≤ out.length + 1 + sa.length := by split <;> simp <;> omega
            omega
        · have hje : j = (H.nd t').args.length := by omega
          subst hje
          rw [List.drop_length] at hqj
          cases g with
          | zero => simp [P.Hp.targs] at hqj
          | succ g =>
          rw [P.Hp.targs] at hqj
          simp only [Option.some.injEq, Prod.mk.injEq] at hqj
          obtain ⟨rfl, rfl, rfl⟩ := hqj
          simp (disch := first | assumption | omega | ((simp only [size_alloc, sz_drew, size_upd, List.size_toArray, List.length_cons, List.length_nil]) <;> omega) | decide) only [sh_Pr_writer_text, Pr, PX, PC, NX, ends, fillL, wrL, sOf, Nat.reduceAdd, Nat.reduceMul, Nat.reduceLeDiff, Nat.reduceEqDiff, Int.reduceToNat, Int.reduceAdd, Int.reduceLT, Int.reduceLE, ↓reduceIte, forall_const, eq_self, zG1, zG2, br_73_1, fa_129_0, fa_129_1, fa_129_2, fa_129_3, fa_129_6, fa_78_0, fa_78_1, ix_116, ix_126, ix_127, ix_38, ix_73, ld_116, ld_126, ld_127, ld_2, ld_3, ld_38, ld_5, ld_71, ld_73, ld_9, ln_73, st_3, st_73, hx17, hx16]
          rw [bo_ads _ _ (by simp; omega)]
          exact ⟨rfl, hs5, hf5⟩
end Go.Proofs.YtkmpelgfhjgddaaGreatDoor
