/- A part of one proof (RW5); no conditions beyond what each theorem names. -/
import Derived.Test.YtkmpelgfhjgddaaGreatDoorPkRAK
set_option linter.all false
set_option linter.unusedVariables false
set_option linter.unusedSimpArgs false
namespace Go.Proofs.YtkmpelgfhjgddaaGreatDoor
open Go.RowKit Sx
set_option maxRecDepth 100000
theorem isRx_nil (F : Nat → Prop) (w : World) (kd : Nat) (s : P.Bs) (n : Int) : IsRx F w [.int .u8 kd, .string (bs s), .int .i64 n, .int .i64 0, .slice none 0 0] (.mk kd s n 0 []) := by
  unfold IsRx
  exact ⟨_, [], rfl, .inl ⟨rfl, rfl, rfl⟩, by unfold IsRxs; rfl⟩
theorem RP.cs {w : World} {pb tb : Nat} {T : List P.Tok} {k : Nat} {vars : List P.Bs} {d : Int} {er at_ : Nat} (h : RP w pb tb T k vars d er at_) : pb < w.heap.size ∧ k < T.length ∧ T.length ≤ 2001 ∧ (P.tk T k).kind ≤ 4 := by
  obtain ⟨_, _, h⟩ := h
  exact ⟨ltOf h.cell, h.kt, h.tw.len, h.kind4⟩
theorem rMustX {pb tb : Nat} {T : List P.Tok} {k : Nat} {vars : List P.Bs} {d : Int} {w : World} (h : RP w pb tb T k vars d 0 0) (s : P.Bs) {α : Type} (x : α) {r : P.Res α} (hr : P.musT T s x k vars = some r) {R : Ending → World → Prop}
    (hok : ∀ w', r = .ok x (k + 1) vars → RP w' pb tb T (k + 1) vars d 0 0 → RFr pb w w' → R (.returned (.tuple #[])) w')
    (herr : ∀ w' a, r = .err 2 a → RP w' pb tb T k vars d 2 a → RFr pb w w' → R (.returned (.tuple #[])) w') :
    Calls Tryz.prog 34 #[.pointer (some ⟨pb, 0, none⟩), .string (bs s)] w R := by
  unfold P.musT at hr
  split at hr
  · rename_i hs
    refine (rMust_yes h s hs).mono ?_
    rintro e w1 ⟨rfl, h1, hf⟩
    exact hok w1 (Option.some.inj hr).symm h1 hf
  · rename_i hs
    refine (rMust_no h s (.inr (by simpa using hs))).mono ?_
    rintro e w1 ⟨rfl, h1, hf⟩
    exact herr w1 _ (Option.some.inj hr).symm h1 hf
theorem rMustE {pb tb : Nat} {T : List P.Tok} {k : Nat} {vars : List P.Bs} {d : Int} {c a : Nat} {w : World} (h : RP w pb tb T k vars d c a) (s : P.Bs) (hc : c ≠ 0) :
    Calls Tryz.prog 34 #[.pointer (some ⟨pb, 0, none⟩), .string (bs s)] w fun e w' => e = .returned (.tuple #[]) ∧ RP w' pb tb T k vars d c a ∧ RFr pb w w' := by
  refine (rMust_no h s (.inl hc)).mono ?_
  rintro e w1 ⟨rfl, h1, hf⟩
  rw [if_neg hc, if_neg hc] at h1
  exact ⟨rfl, h1, hf⟩
theorem RPx.updT {w : World} {pb tb : Nat} {T : List P.Tok} {k : Nat} {vars : List P.Bs} {d : Int} {er at_ lc : Nat} {vv : Value} (h : RPx w pb tb T k vars d er at_ lc vv) {q t : Nat} {cs : Array Value} {z : Nat × Nat} {o : Obj}
    (hq : pb < q) (hb : w.heap[q]? = some (.cells cs t z)) (ht : t ≠ 9) : RPx (upd w q o) pb tb T k vars d er at_ lc vv := by
  obtain ⟨tw, lt, kt, nv, dp, ⟨cs, c1, c2⟩, h1, h2, h3, g⟩ := h
  refine ⟨tw, lt, kt, nv, dp, ⟨cs, ?_, c2⟩, h1, h2, ?_, own_updT g hb ht⟩
  · rw [hp_upd_other (by omega)]; exact c1
  · rw [hp_upd_other (by omega)]; exact h3
theorem RP.updT {w : World} {pb tb : Nat} {T : List P.Tok} {k : Nat} {vars : List P.Bs} {d : Int} {er at_ : Nat} (h : RP w pb tb T k vars d er at_) {q t : Nat} {cs : Array Value} {z : Nat × Nat} {o : Obj}
    (hq : pb < q) (hb : w.heap[q]? = some (.cells cs t z)) (ht : t ≠ 9) : RP (upd w q o) pb tb T k vars d er at_ := by
  obtain ⟨lc, vv, h⟩ := h
  exact ⟨lc, vv, h.updT hq hb ht⟩
theorem rStepP {w w2 : World} {pb tb : Nat} {T : List P.Tok} {k : Nat} {vars : List P.Bs} {d : Int} {lc : Nat} {vv : Value} (hx : RPx w pb tb T k vars d 0 0 lc vv) (hf : Ext w w2) {kz : Int} (hkz : kz = (k + 1 : Nat)) (hk : k + 1 < T.length) :
    RP (upd w2 pb (.cells #[.slice (some ⟨tb, 0, none⟩) T.length lc, .int .i64 kz, vv, .int .i64 d, .int .i64 (0 : Nat), .int .i64 (0 : Nat)] 58 (0, 0))) pb tb T (k + 1) vars d 0 0 :=
  RP.of ((hx.ext hf).set hk hx.dp hkz fun _ => rfl)
theorem rStepF {w w2 : World} {pb : Nat} (hf : Ext w w2) {o : Obj} : RFr pb w (upd w2 pb o) := hf.toM.upd (.inl fun _ => .inl rfl)
theorem rBoxX {w wA w2 : World} {pb tb : Nat} {T : List P.Tok} {d : Nat} {l : List Value} {r : P.Res P.Ex} (hfr : RFr pb w wA) (hF2 : RFr pb wA w2) (hst : RStX pb tb T d wA w2 l r) {q t : Nat} {cs : Array Value} {z : Nat × Nat}
    (hq : w.heap.size ≤ q) (hqA : q < wA.heap.size) (hpb : pb < w.heap.size) (hb : w2.heap[q]? = some (.cells cs t z)) (ht : t ≠ 9) (o : Obj) :
    RFr pb w (upd w2 q o) ∧ RStX pb tb T d w (upd w2 q o) l r := by
  have s1 := hfr.size
  have s2 := hF2.size
  refine ⟨(hfr.trans hF2).upd (.inr hq), ?_⟩
  cases r with
  | err c a =>
    obtain ⟨hc, k, vs, hP⟩ := hst
    exact ⟨hc, k, vs, hP.updT (by omega) hb ht⟩
  | ok x k vs =>
    obtain ⟨hx, hP⟩ := hst
    refine ⟨IsRx.mono (fun b hb => ⟨by have := hb.1; omega, by rw [size_upd]; exact hb.2⟩) (fun b cs hb hc => ?_) _ _ hx, hP.updT (by omega) hb ht⟩
    rw [hp_upd_other (by have := hb.1; omega)]; exact hc
structure RCB (f : Nat) : Prop where
  go : ∀ {pb tb : Nat} {T : List P.Tok} {k : Nat} {vars : List P.Bs} {d : Nat} {w : World} {r : P.Res P.Ex}, RP w pb tb T k vars (d + 1 : Nat) 0 0 → d + 1 ≤ 8 →
    P.pPrim T (f + 1) k vars d = some r → Calls Tryz.prog 93 #[.pointer (some ⟨pb, 0, none⟩)] w (RPostX pb tb T (d + 1) w r)
theorem rBare {f : Nat} (hE : RCE f) (hA : RCA f) (hL : RCL f) : RCB f := ⟨by
  intro pb tb T k vars d w r h hd hr
  obtain ⟨l1, hkt, hlT, h4⟩ := h.cs
  obtain ⟨lc, vv, hx⟩ := id h
  rw [P.pPrim, if_neg (by unfold P.maxDepth; omega)] at hr
  have hf0 : Ext w (w.alloc (.cells #[.int .u8 0, .string (bs []), .int .i64 0, .int .i64 0, .slice none 0 0] 69)) := (FrM.refl _ _).alloc _
  have hkn : (P.tk T k).kind ≠ 0 → k + 1 < T.length := fun h0 => hx.tw.next hkt h0
  by_cases k3 : (P.tk T k).kind = 3
  · rw [if_pos k3] at hr
    obtain rfl := (Option.some.inj hr).symm
    obtain ⟨-, hdg, hln⟩ := hx.tw.digits _ (tk_mem hkt) k3
    refine sh_Pr_parser_bare_ok ?_
    simp (disch := first | assumption | omega | ((simp only [size_alloc, sz_drew, size_upd, List.size_toArray, List.length_cons, List.length_nil]) <;> omega) | decide) only [sh_Pr_parser_bare, Pr, PX, PC, NX, ends, fillL, wrL, sOf, Nat.reduceAdd, Nat.reduceMul, Nat.reduceLeDiff, Nat.reduceEqDiff, Int.reduceToNat, Int.reduceAdd, Int.reduceLT, Int.reduceLE, ↓reduceIte, forall_const, eq_self, zG1, zG2, al_60, al_69, bd_69, fa_58_1, fa_60_0, fa_60_1, fa_60_2, fa_69_0, fa_69_4, ld_3, ld_5, ld_60, ld_69, ld_9, st_3, st_34, st_5, st_60, st_69]
    refine (rNext (h.ext hf0)).mono ?_
    rintro e w1 ⟨rfl, hf1⟩
    have hs1 := hf1.size
    rw [size_alloc] at hs1
    have b0 := hf1.ext _ _ (blk_alloc_new w _)
    have hf01 := hf0.trans hf1
    have hx1 := hx.ext hf01
    have h3 := hx1.cell
    rw [k3, show rk 3 = 110 from rfl]
    simp (disch := first | assumption | omega | ((simp only [size_alloc, sz_drew, size_upd, List.size_toArray, List.length_cons, List.length_nil]) <;> omega) | decide) only [sh_Pr_parser_bare, Pr, PX, PC, NX, ends, fillL, wrL, sOf, Nat.reduceAdd, Nat.reduceMul, Nat.reduceLeDiff, Nat.reduceEqDiff, Int.reduceToNat, Int.reduceAdd, Int.reduceLT, Int.reduceLE, ↓reduceIte, forall_const, eq_self, zG1, zG2, al_60, al_69, bd_69, fa_58_1, fa_60_0, fa_60_1, fa_60_2, fa_69_0, fa_69_4, ld_3, ld_5, ld_60, ld_69, ld_9, st_3, st_34, st_5, st_60, st_69, h3, b0]
    refine (rValue _ _ hdg hln).mono ?_
    rintro e w2 ⟨rfl, rfl⟩
    simp (disch := first | assumption | omega | ((simp only [size_alloc, sz_drew, size_upd, List.size_toArray, List.length_cons, List.length_nil]) <;> omega) | decide) only [sh_Pr_parser_bare, Pr, PX, PC, NX, ends, fillL, wrL, sOf, Nat.reduceAdd, Nat.reduceMul, Nat.reduceLeDiff, Nat.reduceEqDiff, Int.reduceToNat, Int.reduceAdd, Int.reduceLT, Int.reduceLE, ↓reduceIte, forall_const, eq_self, zG1, zG2, al_60, al_69, bd_69, fa_58_1, fa_60_0, fa_60_1, fa_60_2, fa_69_0, fa_69_4, ld_3, ld_5, ld_60, ld_69, ld_9, st_3, st_34, st_5, st_60, st_69, h3, b0]
    refine ⟨_, _, _, _, _, rfl, ⟨rfl, rfl, rfl, rfl, rfl, .of (by decide)⟩, (rStepF ?_).upd (.inr (Nat.le_refl _)), isRx_nil _ _ _ _ _, (rStepP hx ?_ rfl (hkn (by omega))).updT l1 (by simp (disch := first | assumption | omega | ((simp only [size_alloc, sz_drew, size_upd, List.size_toArray, List.length_cons, List.length_nil]) <;> omega) | decide) only [hp_alloc_old, hp_alloc_new, hp_upd_same, hp_upd_other, hp_drew, sz_drew, size_upd, size_alloc]; exact b0) (by decide)⟩
    · (repeat (first | assumption | exact FrM.refl _ _ | (refine FrM.upd ?_ (.inr (by (try simp only [size_alloc, sz_drew, size_upd, List.size_toArray, List.length_cons, List.length_nil]) <;> omega))) | refine FrM.alloc ?_ _ | refine FrM.drew ?_))
    · (repeat (first | assumption | exact FrM.refl _ _ | (refine FrM.upd ?_ (.inr (by (try simp only [size_alloc, sz_drew, size_upd, List.size_toArray, List.length_cons, List.length_nil]) <;> omega))) | refine FrM.alloc ?_ _ | refine FrM.drew ?_))
  rw [if_neg k3] at hr
  by_cases k2 : (P.tk T k).kind = 2
  · rw [if_pos k2] at hr
    obtain rfl := (Option.some.inj hr).symm
    refine sh_Pr_parser_bare_ok ?_
    simp (disch := first | assumption | omega | ((simp only [size_alloc, sz_drew, size_upd, List.size_toArray, List.length_cons, List.length_nil]) <;> omega) | decide) only [sh_Pr_parser_bare, Pr, PX, PC, NX, ends, fillL, wrL, sOf, Nat.reduceAdd, Nat.reduceMul, Nat.reduceLeDiff, Nat.reduceEqDiff, Int.reduceToNat, Int.reduceAdd, Int.reduceLT, Int.reduceLE, ↓reduceIte, forall_const, eq_self, zG1, zG2, al_60, al_69, bd_69, fa_58_1, fa_60_0, fa_60_1, fa_60_2, fa_69_0, fa_69_4, ld_3, ld_5, ld_60, ld_69, ld_9, st_3, st_34, st_5, st_60, st_69]
    refine (rNext (h.ext hf0)).mono ?_
    rintro e w1 ⟨rfl, hf1⟩
    have hs1 := hf1.size
    rw [size_alloc] at hs1
    have b0 := hf1.ext _ _ (blk_alloc_new w _)
    have hf01 := hf0.trans hf1
    have hx1 := hx.ext hf01
    have h3 := hx1.cell
    rw [k2, show rk 2 = 118 from rfl]
    simp (disch := first | assumption | omega | ((simp only [size_alloc, sz_drew, size_upd, List.size_toArray, List.length_cons, List.length_nil]) <;> omega) | decide) only [sh_Pr_parser_bare, Pr, PX, PC, NX, ends, fillL, wrL, sOf, Nat.reduceAdd, Nat.reduceMul, Nat.reduceLeDiff, Nat.reduceEqDiff, Int.reduceToNat, Int.reduceAdd, Int.reduceLT, Int.reduceLE, ↓reduceIte, forall_const, eq_self, zG1, zG2, al_60, al_69, bd_69, fa_58_1, fa_60_0, fa_60_1, fa_60_2, fa_69_0, fa_69_4, ld_3, ld_5, ld_60, ld_69, ld_9, st_3, st_34, st_5, st_60, st_69, h3, b0]
    have hf2 : Ext w (upd (w1.alloc (.cells #[.int .u8 0, .string (bs []), .int .i64 0] 60)) w1.heap.size (.cells #[.int .u8 (118 : Nat), .string (bs (P.tk T k).text), .int .i64 ((P.tk T k).pos)] 60)) := by (repeat (first | assumption | exact FrM.refl _ _ | (refine FrM.upd ?_ (.inr (by (try simp only [size_alloc, sz_drew, size_upd, List.size_toArray, List.length_cons, List.length_nil]) <;> omega))) | refine FrM.alloc ?_ _ | refine FrM.drew ?_))
    refine (rVariable (rStepP hx hf2 rfl (hkn (by omega))) (P.tk T k) 118).mono ?_
    rintro e w2 ⟨a, b, c, g, u, rfl, ⟨o1, o2, o3, o4, o5, oh⟩, hF2, hst⟩
    have c0 : w2.heap[w.heap.size]? = some (.cells #[.int .u8 0, .string (bs []), .int .i64 0, .int .i64 0, .slice none 0 0] 69 (0, 0)) := SFr.keep hF2 (by simp (disch := first | assumption | omega | ((simp only [size_alloc, sz_drew, size_upd, List.size_toArray, List.length_cons, List.length_nil]) <;> omega) | decide) only [hp_alloc_old, hp_alloc_new, hp_upd_same, hp_upd_other, hp_drew, sz_drew, size_upd, size_alloc]; exact b0) (by omega) (by decide)
    have l2 := ltOf c0
    simp (disch := first | assumption | omega | ((simp only [size_alloc, sz_drew, size_upd, List.size_toArray, List.length_cons, List.length_nil]) <;> omega) | decide) only [sh_Pr_parser_bare, Pr, PX, PC, NX, ends, fillL, wrL, sOf, Nat.reduceAdd, Nat.reduceMul, Nat.reduceLeDiff, Nat.reduceEqDiff, Int.reduceToNat, Int.reduceAdd, Int.reduceLT, Int.reduceLE, ↓reduceIte, forall_const, eq_self, zG1, zG2, al_60, al_69, bd_69, fa_58_1, fa_60_0, fa_60_1, fa_60_2, fa_69_0, fa_69_4, ld_3, ld_5, ld_60, ld_69, ld_9, st_3, st_34, st_5, st_60, st_69, c0, o1, o2, o3, o4, o5]
    obtain ⟨p1, p2⟩ := rBoxX (rStepF hf2) hF2 hst (Nat.le_refl _) (by ((try simp only [size_alloc, sz_drew, size_upd, List.size_toArray, List.length_cons, List.length_nil]) <;> omega)) l1 c0 (by decide) (.cells #[a, b, c, g, u] 69 (0, 0))
    exact ⟨_, _, _, _, _, rfl, ⟨o1, o2, o3, o4, o5, oh⟩, p1, p2⟩
  rw [if_neg k2] at hr
  by_cases k1 : (P.tk T k).kind = 1
  · rw [if_pos k1] at hr
    have hf2 : ∀ {w1 : World}, Ext w w1 → w.heap.size + 1 ≤ w1.heap.size → Ext w (upd (w1.alloc (.cells #[.int .u8 0, .string (bs []), .int .i64 0] 60)) w1.heap.size (.cells #[.int .u8 (97 : Nat), .string (bs (P.tk T k).text), .int .i64 ((P.tk T k).pos)] 60)) := fun hf hs => by (repeat (first | assumption | exact FrM.refl _ _ | (refine FrM.upd ?_ (.inr (by (try simp only [size_alloc, sz_drew, size_upd, List.size_toArray, List.length_cons, List.length_nil]) <;> omega))) | refine FrM.alloc ?_ _ | refine FrM.drew ?_))
    by_cases ho : P.isT T (k + 1) [40] = true
    · rw [if_pos ho] at hr
      refine sh_Pr_parser_bare_ok ?_
      simp (disch := first | assumption | omega | ((simp only [size_alloc, sz_drew, size_upd, List.size_toArray, List.length_cons, List.length_nil]) <;> omega) | decide) only [sh_Pr_parser_bare, Pr, PX, PC, NX, ends, fillL, wrL, sOf, Nat.reduceAdd, Nat.reduceMul, Nat.reduceLeDiff, Nat.reduceEqDiff, Int.reduceToNat, Int.reduceAdd, Int.reduceLT, Int.reduceLE, ↓reduceIte, forall_const, eq_self, zG1, zG2, al_60, al_69, bd_69, fa_58_1, fa_60_0, fa_60_1, fa_60_2, fa_69_0, fa_69_4, ld_3, ld_5, ld_60, ld_69, ld_9, st_3, st_34, st_5, st_60, st_69]
      refine (rNext (h.ext hf0)).mono ?_
      rintro e w1 ⟨rfl, hf1⟩
      have hs1 := hf1.size
      rw [size_alloc] at hs1
      have b0 := hf1.ext _ _ (blk_alloc_new w _)
      have hf01 := hf0.trans hf1
      have hx1 := hx.ext hf01
      have h3 := hx1.cell
      rw [k1, show rk 1 = 97 from rfl]
      simp (disch := first | assumption | omega | ((simp only [size_alloc, sz_drew, size_upd, List.size_toArray, List.length_cons, List.length_nil]) <;> omega) | decide) only [sh_Pr_parser_bare, Pr, PX, PC, NX, ends, fillL, wrL, sOf, Nat.reduceAdd, Nat.reduceMul, Nat.reduceLeDiff, Nat.reduceEqDiff, Int.reduceToNat, Int.reduceAdd, Int.reduceLT, Int.reduceLE, ↓reduceIte, forall_const, eq_self, zG1, zG2, al_60, al_69, bd_69, fa_58_1, fa_60_0, fa_60_1, fa_60_2, fa_69_0, fa_69_4, ld_3, ld_5, ld_60, ld_69, ld_9, st_3, st_34, st_5, st_60, st_69, h3, b0]
      have hP2 := rStepP (kz := (k : Int) + 1) hx (hf2 hf01 hs1) rfl (hkn (by omega))
      have hF2 := rStepF (pb := pb) (o := .cells #[.slice (some ⟨tb, 0, none⟩) T.length lc, .int .i64 ((k : Int) + 1), vv, .int .i64 (d + 1 : Nat), .int .i64 (0 : Nat), .int .i64 (0 : Nat)] 58 (0, 0)) (hf2 hf01 hs1)
      refine Calls.mono (rIs_yes (hP2.ext ?_) [40] ho) ?_
      · (repeat (first | assumption | exact FrM.refl _ _ | (refine FrM.upd ?_ (.inr (by (try simp only [size_alloc, sz_drew, size_upd, List.size_toArray, List.length_cons, List.length_nil]) <;> omega))) | refine FrM.alloc ?_ _ | refine FrM.drew ?_))
      rintro e w2 ⟨rfl, hP3, hF3⟩
      have hs3 := hF3.size
      rw [size_upd, size_alloc, size_upd, size_upd, size_alloc] at hs3
      have c0 : w2.heap[w.heap.size]? = some (.cells #[.int .u8 0, .string (bs []), .int .i64 0, .int .i64 0, .slice none 0 0] 69 (0, 0)) := SFr.keep hF3 (by simp (disch := first | assumption | omega | ((simp only [size_alloc, sz_drew, size_upd, List.size_toArray, List.length_cons, List.length_nil]) <;> omega) | decide) only [hp_alloc_old, hp_alloc_new, hp_upd_same, hp_upd_other, hp_drew, sz_drew, size_upd, size_alloc]; exact b0) (by omega) (by decide)
      have c1 : w2.heap[w1.heap.size]? = some (.cells #[.int .u8 (97 : Nat), .string (bs (P.tk T k).text), .int .i64 ((P.tk T k).pos)] 60 (0, 0)) := SFr.keep hF3 (by simp (disch := first | assumption | omega | ((simp only [size_alloc, sz_drew, size_upd, List.size_toArray, List.length_cons, List.length_nil]) <;> omega) | decide) only [hp_alloc_old, hp_alloc_new, hp_upd_same, hp_upd_other, hp_drew, sz_drew, size_upd, size_alloc]) (by omega) (by decide)
      have c2 : w2.heap[w1.heap.size + 1]? = some (.cells #[.int .u8 97, .string (bs (P.tk T k).text), .int .i64 0, .int .i64 0, .slice none 0 0] 69 (0, 0)) := SFr.keep hF3 (by simp (disch := first | assumption | omega | ((simp only [size_alloc, sz_drew, size_upd, List.size_toArray, List.length_cons, List.length_nil]) <;> omega) | decide) only [hp_alloc_old, hp_alloc_new, hp_upd_same, hp_upd_other, hp_drew, sz_drew, size_upd, size_alloc]) (by omega) (by decide)
      simp (disch := first | assumption | omega | ((simp only [size_alloc, sz_drew, size_upd, List.size_toArray, List.length_cons, List.length_nil]) <;> omega) | decide) only [sh_Pr_parser_bare, Pr, PX, PC, NX, ends, fillL, wrL, sOf, Nat.reduceAdd, Nat.reduceMul, Nat.reduceLeDiff, Nat.reduceEqDiff, Int.reduceToNat, Int.reduceAdd, Int.reduceLT, Int.reduceLE, ↓reduceIte, forall_const, eq_self, zG1, zG2, al_60, al_69, bd_69, fa_58_1, fa_60_0, fa_60_1, fa_60_2, fa_69_0, fa_69_4, ld_3, ld_5, ld_60, ld_69, ld_9, st_3, st_34, st_5, st_60, st_69, c0, c1, c2]
      have hFa : RFr pb w (upd w2 (w1.heap.size + 1) (.cells #[.int .u8 99, .string (bs (P.tk T k).text), .int .i64 0, .int .i64 0, .slice none 0 0] 69 (0, 0))) :=
        ((((hF2.alloc _).upd (.inr (by ((try simp only [size_alloc, sz_drew, size_upd, List.size_toArray, List.length_cons, List.length_nil]) <;> omega)))).trans hF3).upd (.inr (by omega)))
      have hsa := hF3.size
      cases hq : P.pArgs T f (k + 2) vars (d + 1) (P.tk T k).pos [] with
      | none => rw [hq] at hr; simp [P.Res.bind] at hr
      | some q =>
      rw [hq] at hr
      refine Calls.mono (hA.go _ (hP3.updT (by omega) c2 (by decide)) hd hq) ?_
      rintro e w3 ⟨a, n, c, rfl, hF4, hst⟩
      have hs4 := hF4.size
      rw [size_upd] at hs4
      have c0 : w3.heap[w.heap.size]? = some (.cells #[.int .u8 0, .string (bs []), .int .i64 0, .int .i64 0, .slice none 0 0] 69 (0, 0)) := SFr.keep hF4 (by simp (disch := first | assumption | omega | ((simp only [size_alloc, sz_drew, size_upd, List.size_toArray, List.length_cons, List.length_nil]) <;> omega) | decide) only [hp_alloc_old, hp_alloc_new, hp_upd_same, hp_upd_other, hp_drew, sz_drew, size_upd, size_alloc]; exact c0) (by omega) (by decide)
      have c2 : w3.heap[w1.heap.size + 1]? = some (.cells #[.int .u8 99, .string (bs (P.tk T k).text), .int .i64 0, .int .i64 0, .slice none 0 0] 69 (0, 0)) := SFr.keep hF4 (by simp (disch := first | assumption | omega | ((simp only [size_alloc, sz_drew, size_upd, List.size_toArray, List.length_cons, List.length_nil]) <;> omega) | decide) only [hp_alloc_old, hp_alloc_new, hp_upd_same, hp_upd_other, hp_drew, sz_drew, size_upd, size_alloc]) (by omega) (by decide)
      have l3 := ltOf c0
      simp (disch := first | assumption | omega | ((simp only [size_alloc, sz_drew, size_upd, List.size_toArray, List.length_cons, List.length_nil]) <;> omega) | decide) only [sh_Pr_parser_bare, Pr, PX, PC, NX, ends, fillL, wrL, sOf, Nat.reduceAdd, Nat.reduceMul, Nat.reduceLeDiff, Nat.reduceEqDiff, Int.reduceToNat, Int.reduceAdd, Int.reduceLT, Int.reduceLE, ↓reduceIte, forall_const, eq_self, zG1, zG2, al_60, al_69, bd_69, fa_58_1, fa_60_0, fa_60_1, fa_60_2, fa_69_0, fa_69_4, ld_3, ld_5, ld_60, ld_69, ld_9, st_3, st_34, st_5, st_60, st_69, c0, c2]
      have hFb : RFr pb w (upd w3 (w1.heap.size + 1) (.cells #[.int .u8 99, .string (bs (P.tk T k).text), .int .i64 0, .int .i64 0, .slice a n c] 69 (0, 0))) := (hFa.trans hF4).upd (.inr (by omega))
      have hend : ∀ {w4 : World}, RFr pb (upd w3 (w1.heap.size + 1) (.cells #[.int .u8 99, .string (bs (P.tk T k).text), .int .i64 0, .int .i64 0, .slice a n c] 69 (0, 0))) w4 →
          w4.heap[w.heap.size]? = some (.cells #[.int .u8 0, .string (bs []), .int .i64 0, .int .i64 0, .slice none 0 0] 69 (0, 0)) ∧ w4.heap[w1.heap.size + 1]? = some (.cells #[.int .u8 99, .string (bs (P.tk T k).text), .int .i64 0, .int .i64 0, .slice a n c] 69 (0, 0)) := fun hF =>
        ⟨SFr.keep hF (by simp (disch := first | assumption | omega | ((simp only [size_alloc, sz_drew, size_upd, List.size_toArray, List.length_cons, List.length_nil]) <;> omega) | decide) only [hp_alloc_old, hp_alloc_new, hp_upd_same, hp_upd_other, hp_drew, sz_drew, size_upd, size_alloc]; exact c0) (by omega) (by decide), SFr.keep hF (by simp (disch := first | assumption | omega | ((simp only [size_alloc, sz_drew, size_upd, List.size_toArray, List.length_cons, List.length_nil]) <;> omega) | decide) only [hp_alloc_old, hp_alloc_new, hp_upd_same, hp_upd_other, hp_drew, sz_drew, size_upd, size_alloc]) (by omega) (by decide)⟩
      cases q with
      | err c0 a0 =>
        obtain ⟨hc, k2, vs2, hP4⟩ := hst
        simp only [P.Res.bind, Option.some.injEq] at hr
        refine Calls.mono (rMustE (hP4.updT (by omega) c2 (by decide)) [41] hc) ?_
        rintro e w4 ⟨rfl, hP5, hF5⟩
        obtain ⟨d0, d2⟩ := hend hF5
        have l4 := ltOf d0
        simp (disch := first | assumption | omega | ((simp only [size_alloc, sz_drew, size_upd, List.size_toArray, List.length_cons, List.length_nil]) <;> omega) | decide) only [sh_Pr_parser_bare, Pr, PX, PC, NX, ends, fillL, wrL, sOf, Nat.reduceAdd, Nat.reduceMul, Nat.reduceLeDiff, Nat.reduceEqDiff, Int.reduceToNat, Int.reduceAdd, Int.reduceLT, Int.reduceLE, ↓reduceIte, forall_const, eq_self, zG1, zG2, al_60, al_69, bd_69, fa_58_1, fa_60_0, fa_60_1, fa_60_2, fa_69_0, fa_69_4, ld_3, ld_5, ld_60, ld_69, ld_9, st_3, st_34, st_5, st_60, st_69, d0, d2]
        rw [← hr]
        exact ⟨_, _, _, _, _, rfl, ⟨rfl, rfl, rfl, rfl, rfl, .of (by decide)⟩, (hFb.trans hF5).upd (.inr (Nat.le_refl _)), hc, _, _, hP5.updT l1 d0 (by decide)⟩
      | ok l k2 vs2 =>
        obtain ⟨⟨us, u1, u2⟩, hP4⟩ := hst
        simp only [P.Res.bind] at hr
        refine rMustX (hP4.updT (by omega) c2 (by decide)) [41] _ hr ?_ ?_
        · intro w4 hr4 hP5 hF5
          obtain ⟨d0, d2⟩ := hend hF5
          have l4 := ltOf d0
          have s5 := hF5.size
          rw [size_upd] at s5
          simp (disch := first | assumption | omega | ((simp only [size_alloc, sz_drew, size_upd, List.size_toArray, List.length_cons, List.length_nil]) <;> omega) | decide) only [sh_Pr_parser_bare, Pr, PX, PC, NX, ends, fillL, wrL, sOf, Nat.reduceAdd, Nat.reduceMul, Nat.reduceLeDiff, Nat.reduceEqDiff, Int.reduceToNat, Int.reduceAdd, Int.reduceLT, Int.reduceLE, ↓reduceIte, forall_const, eq_self, zG1, zG2, al_60, al_69, bd_69, fa_58_1, fa_60_0, fa_60_1, fa_60_2, fa_69_0, fa_69_4, ld_3, ld_5, ld_60, ld_69, ld_9, st_3, st_34, st_5, st_60, st_69, d0, d2]
          rw [hr4]
          have hk : Keeps (Nu (upd w2 (w1.heap.size + 1) (.cells #[.int .u8 99, .string (bs (P.tk T k).text), .int .i64 0, .int .i64 0, .slice none 0 0] 69 (0, 0))) w3) 69 w3 (upd w4 w.heap.size (.cells #[.int .u8 99, .string (bs (P.tk T k).text), .int .i64 0, .int .i64 0, .slice a n c] 69 (0, 0))) := fun b cs hb hc => by
            have hb1 := hb.1
            rw [size_upd] at hb1
            rw [hp_upd_other (by omega)]
            exact SFr.keep hF5 (by rw [hp_upd_other (by omega)]; exact hc) (by omega) (by decide)
          have hn : ∀ b, Nu (upd w2 (w1.heap.size + 1) (.cells #[.int .u8 99, .string (bs (P.tk T k).text), .int .i64 0, .int .i64 0, .slice none 0 0] 69 (0, 0))) w3 b → Nu w (upd w4 w.heap.size (.cells #[.int .u8 99, .string (bs (P.tk T k).text), .int .i64 0, .int .i64 0, .slice a n c] 69 (0, 0))) b := fun b hb => by
            have hb1 := hb.1
            have hb2 := hb.2
            rw [size_upd] at hb1
            exact ⟨by omega, by rw [size_upd]; omega⟩
          refine ⟨_, _, _, _, _, rfl, ⟨rfl, rfl, rfl, rfl, rfl, .of (by decide)⟩, (hFb.trans hF5).upd (.inr (Nat.le_refl _)), ?_, hP5.updT l1 d0 (by decide)⟩
          unfold IsRx
          exact ⟨_, us, rfl, u1.mono hn hk, IsRxs.mono hn hk _ _ u2⟩
        · intro w4 a4 hr4 hP5 hF5
          obtain ⟨d0, d2⟩ := hend hF5
          have l4 := ltOf d0
          simp (disch := first | assumption | omega | ((simp only [size_alloc, sz_drew, size_upd, List.size_toArray, List.length_cons, List.length_nil]) <;> omega) | decide) only [sh_Pr_parser_bare, Pr, PX, PC, NX, ends, fillL, wrL, sOf, Nat.reduceAdd, Nat.reduceMul, Nat.reduceLeDiff, Nat.reduceEqDiff, Int.reduceToNat, Int.reduceAdd, Int.reduceLT, Int.reduceLE, ↓reduceIte, forall_const, eq_self, zG1, zG2, al_60, al_69, bd_69, fa_58_1, fa_60_0, fa_60_1, fa_60_2, fa_69_0, fa_69_4, ld_3, ld_5, ld_60, ld_69, ld_9, st_3, st_34, st_5, st_60, st_69, d0, d2]
          rw [hr4]
          exact ⟨_, _, _, _, _, rfl, ⟨rfl, rfl, rfl, rfl, rfl, .of (by decide)⟩, (hFb.trans hF5).upd (.inr (Nat.le_refl _)), by decide, _, _, hP5.updT l1 d0 (by decide)⟩
    · rw [if_neg ho] at hr
      obtain rfl := (Option.some.inj hr).symm
      refine sh_Pr_parser_bare_ok ?_
      simp (disch := first | assumption | omega | ((simp only [size_alloc, sz_drew, size_upd, List.size_toArray, List.length_cons, List.length_nil]) <;> omega) | decide) only [sh_Pr_parser_bare, Pr, PX, PC, NX, ends, fillL, wrL, sOf, Nat.reduceAdd, Nat.reduceMul, Nat.reduceLeDiff, Nat.reduceEqDiff, Int.reduceToNat, Int.reduceAdd, Int.reduceLT, Int.reduceLE, ↓reduceIte, forall_const, eq_self, zG1, zG2, al_60, al_69, bd_69, fa_58_1, fa_60_0, fa_60_1, fa_60_2, fa_69_0, fa_69_4, ld_3, ld_5, ld_60, ld_69, ld_9, st_3, st_34, st_5, st_60, st_69]
      refine (rNext (h.ext hf0)).mono ?_
      rintro e w1 ⟨rfl, hf1⟩
      have hs1 := hf1.size
      rw [size_alloc] at hs1
      have b0 := hf1.ext _ _ (blk_alloc_new w _)
      have hf01 := hf0.trans hf1
      have hx1 := hx.ext hf01
      have h3 := hx1.cell
      rw [k1, show rk 1 = 97 from rfl]
      simp (disch := first | assumption | omega | ((simp only [size_alloc, sz_drew, size_upd, List.size_toArray, List.length_cons, List.length_nil]) <;> omega) | decide) only [sh_Pr_parser_bare, Pr, PX, PC, NX, ends, fillL, wrL, sOf, Nat.reduceAdd, Nat.reduceMul, Nat.reduceLeDiff, Nat.reduceEqDiff, Int.reduceToNat, Int.reduceAdd, Int.reduceLT, Int.reduceLE, ↓reduceIte, forall_const, eq_self, zG1, zG2, al_60, al_69, bd_69, fa_58_1, fa_60_0, fa_60_1, fa_60_2, fa_69_0, fa_69_4, ld_3, ld_5, ld_60, ld_69, ld_9, st_3, st_34, st_5, st_60, st_69, h3, b0]
      have hP2 := rStepP (kz := (k : Int) + 1) hx (hf2 hf01 hs1) rfl (hkn (by omega))
      have hF2 := rStepF (pb := pb) (o := .cells #[.slice (some ⟨tb, 0, none⟩) T.length lc, .int .i64 ((k : Int) + 1), vv, .int .i64 (d + 1 : Nat), .int .i64 (0 : Nat), .int .i64 (0 : Nat)] 58 (0, 0)) (hf2 hf01 hs1)
      refine Calls.mono (rIs_no (hP2.ext ?_) [40] (.inr (by simpa using ho))) ?_
      · (repeat (first | assumption | exact FrM.refl _ _ | (refine FrM.upd ?_ (.inr (by (try simp only [size_alloc, sz_drew, size_upd, List.size_toArray, List.length_cons, List.length_nil]) <;> omega))) | refine FrM.alloc ?_ _ | refine FrM.drew ?_))
      rintro e w2 ⟨rfl, hP3, hF3⟩
      have hs3 := hF3.size
      rw [size_upd, size_alloc, size_upd, size_upd, size_alloc] at hs3
      have c0 : w2.heap[w.heap.size]? = some (.cells #[.int .u8 0, .string (bs []), .int .i64 0, .int .i64 0, .slice none 0 0] 69 (0, 0)) := SFr.keep hF3 (by simp (disch := first | assumption | omega | ((simp only [size_alloc, sz_drew, size_upd, List.size_toArray, List.length_cons, List.length_nil]) <;> omega) | decide) only [hp_alloc_old, hp_alloc_new, hp_upd_same, hp_upd_other, hp_drew, sz_drew, size_upd, size_alloc]; exact b0) (by omega) (by decide)
      have c2 : w2.heap[w1.heap.size + 1]? = some (.cells #[.int .u8 97, .string (bs (P.tk T k).text), .int .i64 0, .int .i64 0, .slice none 0 0] 69 (0, 0)) := SFr.keep hF3 (by simp (disch := first | assumption | omega | ((simp only [size_alloc, sz_drew, size_upd, List.size_toArray, List.length_cons, List.length_nil]) <;> omega) | decide) only [hp_alloc_old, hp_alloc_new, hp_upd_same, hp_upd_other, hp_drew, sz_drew, size_upd, size_alloc]) (by omega) (by decide)
      have l2 := ltOf c0
      simp (disch := first | assumption | omega | ((simp only [size_alloc, sz_drew, size_upd, List.size_toArray, List.length_cons, List.length_nil]) <;> omega) | decide) only [sh_Pr_parser_bare, Pr, PX, PC, NX, ends, fillL, wrL, sOf, Nat.reduceAdd, Nat.reduceMul, Nat.reduceLeDiff, Nat.reduceEqDiff, Int.reduceToNat, Int.reduceAdd, Int.reduceLT, Int.reduceLE, ↓reduceIte, forall_const, eq_self, zG1, zG2, al_60, al_69, bd_69, fa_58_1, fa_60_0, fa_60_1, fa_60_2, fa_69_0, fa_69_4, ld_3, ld_5, ld_60, ld_69, ld_9, st_3, st_34, st_5, st_60, st_69, c0, c2]
      exact ⟨_, _, _, _, _, rfl, ⟨rfl, rfl, rfl, rfl, rfl, .of (by decide)⟩, (((hF2.alloc _).upd (.inr (by ((try simp only [size_alloc, sz_drew, size_upd, List.size_toArray, List.length_cons, List.length_nil]) <;> omega)))).trans hF3).upd (.inr (Nat.le_refl _)), isRx_nil _ _ _ _ _, hP3.updT l1 c0 (by decide)⟩
  rw [if_neg k1] at hr
  have n3 : ¬ (rk (P.tk T k).kind : Int) = 110 := fun e => k3 ((rk_num h4).1 (by omega))
  have n2 : ¬ (rk (P.tk T k).kind : Int) = 118 := fun e => k2 ((rk_var h4).1 (by omega))
  have n1 : ¬ (rk (P.tk T k).kind : Int) = 97 := fun e => k1 ((rk_atom h4).1 (by omega))
  refine sh_Pr_parser_bare_ok ?_
  simp (disch := first | assumption | omega | ((simp only [size_alloc, sz_drew, size_upd, List.size_toArray, List.length_cons, List.length_nil]) <;> omega) | decide) only [sh_Pr_parser_bare, Pr, PX, PC, NX, ends, fillL, wrL, sOf, Nat.reduceAdd, Nat.reduceMul, Nat.reduceLeDiff, Nat.reduceEqDiff, Int.reduceToNat, Int.reduceAdd, Int.reduceLT, Int.reduceLE, ↓reduceIte, forall_const, eq_self, zG1, zG2, al_60, al_69, bd_69, fa_58_1, fa_60_0, fa_60_1, fa_60_2, fa_69_0, fa_69_4, ld_3, ld_5, ld_60, ld_69, ld_9, st_3, st_34, st_5, st_60, st_69]
  refine (rNext (h.ext hf0)).mono ?_
  rintro e w1 ⟨rfl, hf1⟩
  have hs1 := hf1.size
  rw [size_alloc] at hs1
  have b0 := hf1.ext _ _ (blk_alloc_new w _)
  have hf01 := hf0.trans hf1
  have hr4 := rk_small (P.tk T k).kind
  generalize hgq : rk (P.tk T k).kind = q at *
  simp (disch := first | assumption | omega | ((simp only [size_alloc, sz_drew, size_upd, List.size_toArray, List.length_cons, List.length_nil]) <;> omega) | decide) only [sh_Pr_parser_bare, Pr, PX, PC, NX, ends, fillL, wrL, sOf, Nat.reduceAdd, Nat.reduceMul, Nat.reduceLeDiff, Nat.reduceEqDiff, Int.reduceToNat, Int.reduceAdd, Int.reduceLT, Int.reduceLE, ↓reduceIte, forall_const, eq_self, zG1, zG2, al_60, al_69, bd_69, fa_58_1, fa_60_0, fa_60_1, fa_60_2, fa_69_0, fa_69_4, ld_3, ld_5, ld_60, ld_69, ld_9, st_3, st_34, st_5, st_60, st_69, b0]
  have hP1 := h.ext (hf01.trans (show Ext w1 (upd (w1.alloc (.cells #[.int .u8 0, .string (bs []), .int .i64 0] 60)) w1.heap.size (.cells #[.int .u8 q, .string (bs (P.tk T k).text), .int .i64 ((P.tk T k).pos)] 60)) by (repeat (first | assumption | exact FrM.refl _ _ | (refine FrM.upd ?_ (.inr (by (try simp only [size_alloc, sz_drew, size_upd, List.size_toArray, List.length_cons, List.length_nil]) <;> omega))) | refine FrM.alloc ?_ _ | refine FrM.drew ?_))))
  have hF1 : RFr pb w (upd (w1.alloc (.cells #[.int .u8 0, .string (bs []), .int .i64 0] 60)) w1.heap.size (.cells #[.int .u8 q, .string (bs (P.tk T k).text), .int .i64 ((P.tk T k).pos)] 60)) := FrM.toM (by (repeat (first | assumption | exact FrM.refl _ _ | (refine FrM.upd ?_ (.inr (by (try simp only [size_alloc, sz_drew, size_upd, List.size_toArray, List.length_cons, List.length_nil]) <;> omega))) | refine FrM.alloc ?_ _ | refine FrM.drew ?_)))
  by_cases hm : P.isT T k [45] = true
  · rw [if_pos hm] at hr
    refine Calls.mono (rIs_yes hP1 [45] hm) ?_
    rintro e w2 ⟨rfl, hP2, hF2⟩
    simp (disch := first | assumption | omega | ((simp only [size_alloc, sz_drew, size_upd, List.size_toArray, List.length_cons, List.length_nil]) <;> omega) | decide) only [sh_Pr_parser_bare, Pr, PX, PC, NX, ends, fillL, wrL, sOf, Nat.reduceAdd, Nat.reduceMul, Nat.reduceLeDiff, Nat.reduceEqDiff, Int.reduceToNat, Int.reduceAdd, Int.reduceLT, Int.reduceLE, ↓reduceIte, forall_const, eq_self, zG1, zG2, al_60, al_69, bd_69, fa_58_1, fa_60_0, fa_60_1, fa_60_2, fa_69_0, fa_69_4, ld_3, ld_5, ld_60, ld_69, ld_9, st_3, st_34, st_5, st_60, st_69]
    have hs2 := hF2.size
    rw [size_upd, size_alloc] at hs2
    have c0 : w2.heap[w.heap.size]? = some (.cells #[.int .u8 0, .string (bs []), .int .i64 0, .int .i64 0, .slice none 0 0] 69 (0, 0)) := SFr.keep hF2 (by simp (disch := first | assumption | omega | ((simp only [size_alloc, sz_drew, size_upd, List.size_toArray, List.length_cons, List.length_nil]) <;> omega) | decide) only [hp_alloc_old, hp_alloc_new, hp_upd_same, hp_upd_other, hp_drew, sz_drew, size_upd, size_alloc]; exact b0) (by omega) (by decide)
    have c1 : w2.heap[w1.heap.size]? = some (.cells #[.int .u8 q, .string (bs (P.tk T k).text), .int .i64 ((P.tk T k).pos)] 60 (0, 0)) := SFr.keep hF2 (by simp (disch := first | assumption | omega | ((simp only [size_alloc, sz_drew, size_upd, List.size_toArray, List.length_cons, List.length_nil]) <;> omega) | decide) only [hp_alloc_old, hp_alloc_new, hp_upd_same, hp_upd_other, hp_drew, sz_drew, size_upd, size_alloc]) (by omega) (by decide)
    have hF12 := hF1.trans hF2
    refine (rNext hP2).mono ?_
    rintro e w3 ⟨rfl, hf3⟩
    have hs3 := hf3.size
    have d0 := hf3.ext _ _ c0
    have d1 := hf3.ext _ _ c1
    have ld1 := ltOf d1
    obtain ⟨lc3, vv3, hx3⟩ := hP2.ext hf3
    have h3 := hx3.cell
    have hk4 := hx3.kind4
    have hr5 := rk_small (P.tk T (k + 1)).kind
    by_cases k3' : (P.tk T (k + 1)).kind = 3
    · rw [if_pos k3'] at hr
      obtain rfl := (Option.some.inj hr).symm
      obtain ⟨-, hdg, hln⟩ := hx.tw.digits _ (tk_mem hx3.kt) k3'
      have hb := P.num_bound hdg hln
      rw [k3', show rk 3 = 110 from rfl]
      simp (disch := first | assumption | omega | ((simp only [size_alloc, sz_drew, size_upd, List.size_toArray, List.length_cons, List.length_nil]) <;> omega) | decide) only [sh_Pr_parser_bare, Pr, PX, PC, NX, ends, fillL, wrL, sOf, Nat.reduceAdd, Nat.reduceMul, Nat.reduceLeDiff, Nat.reduceEqDiff, Int.reduceToNat, Int.reduceAdd, Int.reduceLT, Int.reduceLE, ↓reduceIte, forall_const, eq_self, zG1, zG2, al_60, al_69, bd_69, fa_58_1, fa_60_0, fa_60_1, fa_60_2, fa_69_0, fa_69_4, ld_3, ld_5, ld_60, ld_69, ld_9, st_3, st_34, st_5, st_60, st_69, d0, d1, h3]
      refine (rValue _ _ hdg hln).mono ?_
      rintro e w4 ⟨rfl, rfl⟩
      have ld0 := ltOf d0
      have l3 := ltOf h3
      simp (disch := first | assumption | omega | ((simp only [size_alloc, sz_drew, size_upd, List.size_toArray, List.length_cons, List.length_nil]) <;> omega) | decide) only [sh_Pr_parser_bare, Pr, PX, PC, NX, ends, fillL, wrL, sOf, Nat.reduceAdd, Nat.reduceMul, Nat.reduceLeDiff, Nat.reduceEqDiff, Int.reduceToNat, Int.reduceAdd, Int.reduceLT, Int.reduceLE, ↓reduceIte, forall_const, eq_self, zG1, zG2, al_60, al_69, bd_69, fa_58_1, fa_60_0, fa_60_1, fa_60_2, fa_69_0, fa_69_4, ld_3, ld_5, ld_60, ld_69, ld_9, st_3, st_34, st_5, st_60, st_69, h3, d0]
      rw [Int.zero_sub]
      refine ⟨_, _, _, _, _, rfl, ⟨rfl, rfl, rfl, rfl, rfl, .of (by decide)⟩, (((hF12.trans hf3.toM).upd (.inr (by omega))).upd (.inl fun _ => .inl rfl)).upd (.inr (Nat.le_refl _)), isRx_nil _ _ _ _ _,
        (RP.of ((hx3.updT (by omega) d1 (by decide)).set (hx3.tw.next hx3.kt (by omega)) hx3.dp (by omega) fun _ => rfl)).updT l1 (by simp (disch := first | assumption | omega | ((simp only [size_alloc, sz_drew, size_upd, List.size_toArray, List.length_cons, List.length_nil]) <;> omega) | decide) only [hp_alloc_old, hp_alloc_new, hp_upd_same, hp_upd_other, hp_drew, sz_drew, size_upd, size_alloc]; exact d0) (by decide)⟩
    · rw [if_neg k3'] at hr
      obtain rfl := (Option.some.inj hr).symm
      have n3' : ¬ (rk (P.tk T (k + 1)).kind : Int) = 110 := fun e => k3' ((rk_num hk4).1 (by omega))
      generalize hgq2 : rk (P.tk T (k + 1)).kind = q2 at *
      simp (disch := first | assumption | omega | ((simp only [size_alloc, sz_drew, size_upd, List.size_toArray, List.length_cons, List.length_nil]) <;> omega) | decide) only [sh_Pr_parser_bare, Pr, PX, PC, NX, ends, fillL, wrL, sOf, Nat.reduceAdd, Nat.reduceMul, Nat.reduceLeDiff, Nat.reduceEqDiff, Int.reduceToNat, Int.reduceAdd, Int.reduceLT, Int.reduceLE, ↓reduceIte, forall_const, eq_self, zG1, zG2, al_60, al_69, bd_69, fa_58_1, fa_60_0, fa_60_1, fa_60_2, fa_69_0, fa_69_4, ld_3, ld_5, ld_60, ld_69, ld_9, st_3, st_34, st_5, st_60, st_69, d0, d1]
      refine Calls.mono (rNone ((RP.of hx3).updT (by omega) d1 (by decide))) ?_
      rintro e w4 ⟨rfl, hP4, hF4⟩
      have e0 : w4.heap[w.heap.size]? = some (.cells #[.int .u8 0, .string (bs []), .int .i64 0, .int .i64 0, .slice none 0 0] 69 (0, 0)) := SFr.keep hF4 (by simp (disch := first | assumption | omega | ((simp only [size_alloc, sz_drew, size_upd, List.size_toArray, List.length_cons, List.length_nil]) <;> omega) | decide) only [hp_alloc_old, hp_alloc_new, hp_upd_same, hp_upd_other, hp_drew, sz_drew, size_upd, size_alloc]; exact d0) (by omega) (by decide)
      have l4 := ltOf e0
      simp (disch := first | assumption | omega | ((simp only [size_alloc, sz_drew, size_upd, List.size_toArray, List.length_cons, List.length_nil]) <;> omega) | decide) only [sh_Pr_parser_bare, Pr, PX, PC, NX, ends, fillL, wrL, sOf, Nat.reduceAdd, Nat.reduceMul, Nat.reduceLeDiff, Nat.reduceEqDiff, Int.reduceToNat, Int.reduceAdd, Int.reduceLT, Int.reduceLE, ↓reduceIte, forall_const, eq_self, zG1, zG2, al_60, al_69, bd_69, fa_58_1, fa_60_0, fa_60_1, fa_60_2, fa_69_0, fa_69_4, ld_3, ld_5, ld_60, ld_69, ld_9, st_3, st_34, st_5, st_60, st_69, e0]
      rw [if_pos rfl, if_pos rfl] at hP4
      exact ⟨_, _, _, _, _, rfl, ⟨rfl, rfl, rfl, rfl, rfl, .of (by decide)⟩, (((hF12.trans hf3.toM).upd (.inr (by omega))).trans hF4).upd (.inr (Nat.le_refl _)), by decide, _, _, hP4.updT l1 e0 (by decide)⟩
  rw [if_neg hm] at hr
  refine Calls.mono (rIs_no hP1 [45] (.inr (by simpa using hm))) ?_
  rintro e w2 ⟨rfl, hP2, hF2⟩
  simp (disch := first | assumption | omega | ((simp only [size_alloc, sz_drew, size_upd, List.size_toArray, List.length_cons, List.length_nil]) <;> omega) | decide) only [sh_Pr_parser_bare, Pr, PX, PC, NX, ends, fillL, wrL, sOf, Nat.reduceAdd, Nat.reduceMul, Nat.reduceLeDiff, Nat.reduceEqDiff, Int.reduceToNat, Int.reduceAdd, Int.reduceLT, Int.reduceLE, ↓reduceIte, forall_const, eq_self, zG1, zG2, al_60, al_69, bd_69, fa_58_1, fa_60_0, fa_60_1, fa_60_2, fa_69_0, fa_69_4, ld_3, ld_5, ld_60, ld_69, ld_9, st_3, st_34, st_5, st_60, st_69]
  have hs2 := hF2.size
  rw [size_upd, size_alloc] at hs2
  have c0 : w2.heap[w.heap.size]? = some (.cells #[.int .u8 0, .string (bs []), .int .i64 0, .int .i64 0, .slice none 0 0] 69 (0, 0)) := SFr.keep hF2 (by simp (disch := first | assumption | omega | ((simp only [size_alloc, sz_drew, size_upd, List.size_toArray, List.length_cons, List.length_nil]) <;> omega) | decide) only [hp_alloc_old, hp_alloc_new, hp_upd_same, hp_upd_other, hp_drew, sz_drew, size_upd, size_alloc]; exact b0) (by omega) (by decide)
  have hF12 := hF1.trans hF2
  by_cases ho : P.isT T k [40] = true
  · rw [if_pos ho] at hr
    refine Calls.mono (rIs_yes hP2 [40] ho) ?_
    rintro e w3 ⟨rfl, hP3, hF3⟩
    simp (disch := first | assumption | omega | ((simp only [size_alloc, sz_drew, size_upd, List.size_toArray, List.length_cons, List.length_nil]) <;> omega) | decide) only [sh_Pr_parser_bare, Pr, PX, PC, NX, ends, fillL, wrL, sOf, Nat.reduceAdd, Nat.reduceMul, Nat.reduceLeDiff, Nat.reduceEqDiff, Int.reduceToNat, Int.reduceAdd, Int.reduceLT, Int.reduceLE, ↓reduceIte, forall_const, eq_self, zG1, zG2, al_60, al_69, bd_69, fa_58_1, fa_60_0, fa_60_1, fa_60_2, fa_69_0, fa_69_4, ld_3, ld_5, ld_60, ld_69, ld_9, st_3, st_34, st_5, st_60, st_69]
    have hs3 := hF3.size
    have d0 := SFr.keep hF3 c0 (by omega) (by decide)
    cases hq : P.pOper T f 0 (k + 1) vars (d + 1) with
    | none => rw [hq] at hr; simp [P.Res.bind] at hr
    | some q =>
    rw [hq] at hr
    refine Calls.mono (hE.go hP3 hd hq) ?_
    rintro e w4 ⟨a, b, c, g, u, rfl, ⟨o1, o2, o3, o4, o5, oh⟩, hF4, hst⟩
    have hs4 := hF4.size
    have e0 := SFr.keep hF4 d0 (by omega) (by decide)
    simp (disch := first | assumption | omega | ((simp only [size_alloc, sz_drew, size_upd, List.size_toArray, List.length_cons, List.length_nil]) <;> omega) | decide) only [sh_Pr_parser_bare, Pr, PX, PC, NX, ends, fillL, wrL, sOf, Nat.reduceAdd, Nat.reduceMul, Nat.reduceLeDiff, Nat.reduceEqDiff, Int.reduceToNat, Int.reduceAdd, Int.reduceLT, Int.reduceLE, ↓reduceIte, forall_const, eq_self, zG1, zG2, al_60, al_69, bd_69, fa_58_1, fa_60_0, fa_60_1, fa_60_2, fa_69_0, fa_69_4, ld_3, ld_5, ld_60, ld_69, ld_9, st_3, st_34, st_5, st_60, st_69, o1, o2, o3, o4, o5]
    have hX4 : Ext w4 (upd (w4.alloc (.cells #[.int .u8 0, .string (bs []), .int .i64 0, .int .i64 0, .slice none 0 0] 69)) w4.heap.size (.cells #[a, b, c, g, u] 69)) := by (repeat (first | assumption | exact FrM.refl _ _ | (refine FrM.upd ?_ (.inr (by (try simp only [size_alloc, sz_drew, size_upd, List.size_toArray, List.length_cons, List.length_nil]) <;> omega))) | refine FrM.alloc ?_ _ | refine FrM.drew ?_))
    have hF14 : RFr pb w w4 := (hF12.trans hF3).trans hF4
    have hend : ∀ {w5 : World}, RFr pb (upd (w4.alloc (.cells #[.int .u8 0, .string (bs []), .int .i64 0, .int .i64 0, .slice none 0 0] 69)) w4.heap.size (.cells #[a, b, c, g, u] 69)) w5 →
          w5.heap[w.heap.size]? = some (.cells #[.int .u8 0, .string (bs []), .int .i64 0, .int .i64 0, .slice none 0 0] 69 (0, 0)) ∧ w5.heap[w4.heap.size]? = some (.cells #[a, b, c, g, u] 69 (0, 0)) := fun hF =>
        ⟨SFr.keep hF (by simp (disch := first | assumption | omega | ((simp only [size_alloc, sz_drew, size_upd, List.size_toArray, List.length_cons, List.length_nil]) <;> omega) | decide) only [hp_alloc_old, hp_alloc_new, hp_upd_same, hp_upd_other, hp_drew, sz_drew, size_upd, size_alloc]; exact e0) (by omega) (by decide), SFr.keep hF (by simp (disch := first | assumption | omega | ((simp only [size_alloc, sz_drew, size_upd, List.size_toArray, List.length_cons, List.length_nil]) <;> omega) | decide) only [hp_alloc_old, hp_alloc_new, hp_upd_same, hp_upd_other, hp_drew, sz_drew, size_upd, size_alloc]) (by omega) (by decide)⟩
    cases q with
    | err c0 a0 =>
      obtain ⟨hc, k2, vs2, hP4⟩ := hst
      simp only [P.Res.bind, Option.some.injEq] at hr
      refine Calls.mono (rMustE (hP4.ext hX4) [41] hc) ?_
      rintro e w5 ⟨rfl, hP5, hF5⟩
      obtain ⟨f0, f2⟩ := hend hF5
      have l5 := ltOf f0
      simp (disch := first | assumption | omega | ((simp only [size_alloc, sz_drew, size_upd, List.size_toArray, List.length_cons, List.length_nil]) <;> omega) | decide) only [sh_Pr_parser_bare, Pr, PX, PC, NX, ends, fillL, wrL, sOf, Nat.reduceAdd, Nat.reduceMul, Nat.reduceLeDiff, Nat.reduceEqDiff, Int.reduceToNat, Int.reduceAdd, Int.reduceLT, Int.reduceLE, ↓reduceIte, forall_const, eq_self, zG1, zG2, al_60, al_69, bd_69, fa_58_1, fa_60_0, fa_60_1, fa_60_2, fa_69_0, fa_69_4, ld_3, ld_5, ld_60, ld_69, ld_9, st_3, st_34, st_5, st_60, st_69, f0, f2, o1, o2, o3, o4, o5]
      rw [← hr]
      exact ⟨_, _, _, _, _, rfl, ⟨o1, o2, o3, o4, o5, oh⟩, ((hF14.trans hX4.toM).trans hF5).upd (.inr (Nat.le_refl _)), hc, _, _, hP5.updT l1 f0 (by decide)⟩
    | ok x k2 vs2 =>
      obtain ⟨hx4, hP4⟩ := hst
      simp only [P.Res.bind] at hr
      refine rMustX (hP4.ext hX4) [41] _ hr ?_ ?_
      · intro w5 hr5 hP5 hF5
        obtain ⟨f0, f2⟩ := hend hF5
        have l5 := ltOf f0
        have s5 := hF5.size
        rw [size_upd, size_alloc] at s5
        simp (disch := first | assumption | omega | ((simp only [size_alloc, sz_drew, size_upd, List.size_toArray, List.length_cons, List.length_nil]) <;> omega) | decide) only [sh_Pr_parser_bare, Pr, PX, PC, NX, ends, fillL, wrL, sOf, Nat.reduceAdd, Nat.reduceMul, Nat.reduceLeDiff, Nat.reduceEqDiff, Int.reduceToNat, Int.reduceAdd, Int.reduceLT, Int.reduceLE, ↓reduceIte, forall_const, eq_self, zG1, zG2, al_60, al_69, bd_69, fa_58_1, fa_60_0, fa_60_1, fa_60_2, fa_69_0, fa_69_4, ld_3, ld_5, ld_60, ld_69, ld_9, st_3, st_34, st_5, st_60, st_69, f0, f2, o1, o2, o3, o4, o5]
        rw [hr5]
        refine ⟨_, _, _, _, _, rfl, ⟨o1, o2, o3, o4, o5, oh⟩, ((hF14.trans hX4.toM).trans hF5).upd (.inr (Nat.le_refl _)), IsRx.mono (fun b hb => ?_) (fun b cs hb hc => ?_) _ _ hx4, hP5.updT l1 f0 (by decide)⟩
        · exact ⟨by have := hb.1; omega, by have := hb.2; rw [size_upd]; omega⟩
        · have h1 := hb.1
          rw [hp_upd_other (by omega)]
          exact SFr.keep hF5 (hX4.ext _ _ hc) (by omega) (by decide)
      · intro w5 a5 hr5 hP5 hF5
        obtain ⟨f0, f2⟩ := hend hF5
        have l5 := ltOf f0
        simp (disch := first | assumption | omega | ((simp only [size_alloc, sz_drew, size_upd, List.size_toArray, List.length_cons, List.length_nil]) <;> omega) | decide) only [sh_Pr_parser_bare, Pr, PX, PC, NX, ends, fillL, wrL, sOf, Nat.reduceAdd, Nat.reduceMul, Nat.reduceLeDiff, Nat.reduceEqDiff, Int.reduceToNat, Int.reduceAdd, Int.reduceLT, Int.reduceLE, ↓reduceIte, forall_const, eq_self, zG1, zG2, al_60, al_69, bd_69, fa_58_1, fa_60_0, fa_60_1, fa_60_2, fa_69_0, fa_69_4, ld_3, ld_5, ld_60, ld_69, ld_9, st_3, st_34, st_5, st_60, st_69, f0, f2, o1, o2, o3, o4, o5]
        rw [hr5]
        exact ⟨_, _, _, _, _, rfl, ⟨o1, o2, o3, o4, o5, oh⟩, ((hF14.trans hX4.toM).trans hF5).upd (.inr (Nat.le_refl _)), by decide, _, _, hP5.updT l1 f0 (by decide)⟩
  rw [if_neg ho] at hr
  refine Calls.mono (rIs_no hP2 [40] (.inr (by simpa using ho))) ?_
  rintro e w3 ⟨rfl, hP3, hF3⟩
  simp (disch := first | assumption | omega | ((simp only [size_alloc, sz_drew, size_upd, List.size_toArray, List.length_cons, List.length_nil]) <;> omega) | decide) only [sh_Pr_parser_bare, Pr, PX, PC, NX, ends, fillL, wrL, sOf, Nat.reduceAdd, Nat.reduceMul, Nat.reduceLeDiff, Nat.reduceEqDiff, Int.reduceToNat, Int.reduceAdd, Int.reduceLT, Int.reduceLE, ↓reduceIte, forall_const, eq_self, zG1, zG2, al_60, al_69, bd_69, fa_58_1, fa_60_0, fa_60_1, fa_60_2, fa_69_0, fa_69_4, ld_3, ld_5, ld_60, ld_69, ld_9, st_3, st_34, st_5, st_60, st_69]
  have hs3 := hF3.size
  have d0 := SFr.keep hF3 c0 (by omega) (by decide)
  have hF13 := hF12.trans hF3
  by_cases hb : P.isT T k [91] = true
  · rw [if_pos hb] at hr
    refine Calls.mono (rIs_yes hP3 [91] hb) ?_
    rintro e w4 ⟨rfl, hP4, hF4⟩
    simp (disch := first | assumption | omega | ((simp only [size_alloc, sz_drew, size_upd, List.size_toArray, List.length_cons, List.length_nil]) <;> omega) | decide) only [sh_Pr_parser_bare, Pr, PX, PC, NX, ends, fillL, wrL, sOf, Nat.reduceAdd, Nat.reduceMul, Nat.reduceLeDiff, Nat.reduceEqDiff, Int.reduceToNat, Int.reduceAdd, Int.reduceLT, Int.reduceLE, ↓reduceIte, forall_const, eq_self, zG1, zG2, al_60, al_69, bd_69, fa_58_1, fa_60_0, fa_60_1, fa_60_2, fa_69_0, fa_69_4, ld_3, ld_5, ld_60, ld_69, ld_9, st_3, st_34, st_5, st_60, st_69]
    have hs4 := hF4.size
    have e0 := SFr.keep hF4 d0 (by omega) (by decide)
    refine Calls.mono (hL.go hP4 hd hr) ?_
    rintro e w5 ⟨a, b, c, g, u, rfl, ⟨o1, o2, o3, o4, o5, oh⟩, hF5, hst⟩
    have f0 := SFr.keep hF5 e0 (by omega) (by decide)
    have l5 := ltOf f0
    simp (disch := first | assumption | omega | ((simp only [size_alloc, sz_drew, size_upd, List.size_toArray, List.length_cons, List.length_nil]) <;> omega) | decide) only [sh_Pr_parser_bare, Pr, PX, PC, NX, ends, fillL, wrL, sOf, Nat.reduceAdd, Nat.reduceMul, Nat.reduceLeDiff, Nat.reduceEqDiff, Int.reduceToNat, Int.reduceAdd, Int.reduceLT, Int.reduceLE, ↓reduceIte, forall_const, eq_self, zG1, zG2, al_60, al_69, bd_69, fa_58_1, fa_60_0, fa_60_1, fa_60_2, fa_69_0, fa_69_4, ld_3, ld_5, ld_60, ld_69, ld_9, st_3, st_34, st_5, st_60, st_69, f0, o1, o2, o3, o4, o5]
    obtain ⟨p1, p2⟩ := rBoxX (hF13.trans hF4) hF5 hst (Nat.le_refl _) (by omega) l1 f0 (by decide) (.cells #[a, b, c, g, u] 69 (0, 0))
    exact ⟨_, _, _, _, _, rfl, ⟨o1, o2, o3, o4, o5, oh⟩, p1, p2⟩
  rw [if_neg hb] at hr
  obtain rfl := (Option.some.inj hr).symm
  refine Calls.mono (rIs_no hP3 [91] (.inr (by simpa using hb))) ?_
  rintro e w4 ⟨rfl, hP4, hF4⟩
  simp (disch := first | assumption | omega | ((simp only [size_alloc, sz_drew, size_upd, List.size_toArray, List.length_cons, List.length_nil]) <;> omega) | decide) only [sh_Pr_parser_bare, Pr, PX, PC, NX, ends, fillL, wrL, sOf, Nat.reduceAdd, Nat.reduceMul, Nat.reduceLeDiff, Nat.reduceEqDiff, Int.reduceToNat, Int.reduceAdd, Int.reduceLT, Int.reduceLE, ↓reduceIte, forall_const, eq_self, zG1, zG2, al_60, al_69, bd_69, fa_58_1, fa_60_0, fa_60_1, fa_60_2, fa_69_0, fa_69_4, ld_3, ld_5, ld_60, ld_69, ld_9, st_3, st_34, st_5, st_60, st_69]
  have hs4 := hF4.size
  have e0 := SFr.keep hF4 d0 (by omega) (by decide)
  refine Calls.mono (rNone hP4) ?_
  rintro e w5 ⟨rfl, hP5, hF5⟩
  have f0 := SFr.keep hF5 e0 (by omega) (by decide)
  have l5 := ltOf f0
  simp (disch := first | assumption | omega | ((simp only [size_alloc, sz_drew, size_upd, List.size_toArray, List.length_cons, List.length_nil]) <;> omega) | decide) only [sh_Pr_parser_bare, Pr, PX, PC, NX, ends, fillL, wrL, sOf, Nat.reduceAdd, Nat.reduceMul, Nat.reduceLeDiff, Nat.reduceEqDiff, Int.reduceToNat, Int.reduceAdd, Int.reduceLT, Int.reduceLE, ↓reduceIte, forall_const, eq_self, zG1, zG2, al_60, al_69, bd_69, fa_58_1, fa_60_0, fa_60_1, fa_60_2, fa_69_0, fa_69_4, ld_3, ld_5, ld_60, ld_69, ld_9, st_3, st_34, st_5, st_60, st_69, f0]
  rw [if_pos rfl, if_pos rfl] at hP5
  exact ⟨_, _, _, _, _, rfl, ⟨rfl, rfl, rfl, rfl, rfl, .of (by decide)⟩, (((hF13.trans hF4)).trans hF5).upd (.inr (Nat.le_refl _)), by decide, _, _, hP5.updT l1 f0 (by decide)⟩⟩
end Go.Proofs.YtkmpelgfhjgddaaGreatDoor
