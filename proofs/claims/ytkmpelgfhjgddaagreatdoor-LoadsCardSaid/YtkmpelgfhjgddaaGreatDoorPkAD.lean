/- A part of one proof (RW22); no conditions beyond what each theorem names. -/
import Derived.Test.YtkmpelgfhjgddaaGreatDoorPkAC
import Derived.Test.YtkmpelgfhjgddaaGreatDoorPkA
set_option linter.all false
set_option linter.unusedVariables false
set_option linter.unusedSimpArgs false
namespace Go.Proofs.YtkmpelgfhjgddaaGreatDoor
open Go.RowKit Sx
set_option maxRecDepth 100000
theorem TWs.of {n : Nat} {T : List P.Tok} (h : P.LexOk n T) (hn : n ≤ 2000) : TWs T :=
  { len := by have := h.len; omega, last := h.last, kind := fun u hu => (h.tok u hu).1, digits := fun u hu => (h.tok u hu).2.1, words := fun u hu => (h.tok u hu).2.2.1, vars := fun u hu => (h.tok u hu).2.2.2.1, sg := fun u hu => (h.tok u hu).2.2.2.2 }
theorem lex_ok {s : P.Bs} {T : List P.Tok} (h : P.lex s = .inr T) : P.LexOk s.length T := P.lexGo_ok _ _ _ _ (by rw [P.lex_eq, h])
def P.program (s : P.Bs) : P.Res (List P.Cl) :=
  if 2000 < s.length then .err 1 0 else match P.lex s with
  | .inl i => .err 2 i
  | .inr T => P.progT T
theorem rBegun (s : P.Bs) (w : World) (hl : s.length ≤ 100000) : Calls Tryz.prog 15 #[.string (bs s)] w fun e w' => Ext w w' ∧
    ((2000 < s.length ∧ e = .returned (.tuple #[.pointer none, .int .i64 1, .int .i64 0])) ∨
    (s.length ≤ 2000 ∧ ∃ i, P.lex s = .inl i ∧ e = .returned (.tuple #[.pointer none, .int .i64 2, .int .i64 i])) ∨
    (s.length ≤ 2000 ∧ ∃ T pb tb, P.lex s = .inr T ∧ e = .returned (.tuple #[.pointer (some ⟨pb, 0, none⟩), .int .i64 0, .int .i64 (-1)]) ∧ w.heap.size ≤ pb ∧ RP w' pb tb T 0 [] 0 0 0)) := by
  by_cases h2 : 2000 < s.length
  · refine sh_r_begun_ok ?_
    simp (disch := first | assumption | omega | ((simp only [size_alloc, sz_drew, size_upd, List.size_toArray, List.length_cons, List.length_nil]) <;> omega) | decide) only [sh_r_begun, Pr, PX, PC, NX, ends, fillL, wrL, sOf, Nat.reduceAdd, Nat.reduceMul, Nat.reduceLeDiff, Nat.reduceEqDiff, Int.reduceToNat, Int.reduceAdd, Int.reduceLT, Int.reduceLE, ↓reduceIte, forall_const, eq_self, zG1, zG2, bd_58, ln_9]
    exact ⟨FrM.refl _ _, .inl h2⟩
  · refine sh_r_begun_ok ?_
    simp (disch := first | assumption | omega | ((simp only [size_alloc, sz_drew, size_upd, List.size_toArray, List.length_cons, List.length_nil]) <;> omega) | decide) only [sh_r_begun, Pr, PX, PC, NX, ends, fillL, wrL, sOf, Nat.reduceAdd, Nat.reduceMul, Nat.reduceLeDiff, Nat.reduceEqDiff, Int.reduceToNat, Int.reduceAdd, Int.reduceLT, Int.reduceLE, ↓reduceIte, forall_const, eq_self, zG1, zG2, bd_58, ln_9]
    refine (rLex s w (by omega)).mono ?_
    rintro e w1 ⟨hE, hp⟩
    cases hx : P.lex s with
    | inl i =>
      rw [hx] at hp
      dsimp only at hp
      subst hp
      simp (disch := first | assumption | omega | ((simp only [size_alloc, sz_drew, size_upd, List.size_toArray, List.length_cons, List.length_nil]) <;> omega) | decide) only [sh_r_begun, Pr, PX, PC, NX, ends, fillL, wrL, sOf, Nat.reduceAdd, Nat.reduceMul, Nat.reduceLeDiff, Nat.reduceEqDiff, Int.reduceToNat, Int.reduceAdd, Int.reduceLT, Int.reduceLE, ↓reduceIte, forall_const, eq_self, zG1, zG2, bd_58, ln_9]
      exact ⟨hE, .inr (.inl ⟨by omega, i, rfl, rfl⟩)⟩
    | inr T =>
      rw [hx] at hp
      obtain ⟨v, rfl, hown⟩ := hp
      have hlo := lex_ok hx
      have htw := TWs.of hlo (by omega)
      have hTn : 0 < T.length := htw.toTW.pos
      obtain ⟨htl, hown⟩ := hown
      rcases hown with ⟨-, h0⟩ | ⟨tb, cap, cur, rfl, ht1, ht2, ht3, ht4, ht5, ht6⟩
      · omega
      simp (disch := first | assumption | omega | ((simp only [size_alloc, sz_drew, size_upd, List.size_toArray, List.length_cons, List.length_nil]) <;> omega) | decide) only [sh_r_begun, Pr, PX, PC, NX, ends, fillL, wrL, sOf, Nat.reduceAdd, Nat.reduceMul, Nat.reduceLeDiff, Nat.reduceEqDiff, Int.reduceToNat, Int.reduceAdd, Int.reduceLT, Int.reduceLE, ↓reduceIte, forall_const, eq_self, zG1, zG2, bd_58, ln_9]
      have hX : Ext w1 (w1.alloc (.cells #[.slice (some ⟨tb, 0, none⟩) T.length cap, .int .i64 0, .slice none 0 0, .int .i64 0, .int .i64 0, .int .i64 0] 58)) := by (repeat (first | assumption | exact FrM.refl _ _ | (refine FrM.upd ?_ (.inr (by (try simp only [size_alloc, sz_drew, size_upd, List.size_toArray, List.length_cons, List.length_nil]) <;> omega))) | refine FrM.alloc ?_ _ | refine FrM.drew ?_))
      have s1 := hE.size
      have ltb := ltOf ht2
      refine ⟨hE.trans hX, .inr (.inr ⟨by omega, T, _, tb, rfl, rfl, s1, cap, .slice none 0 0, htw, ltb, hTn, ⟨by simp, fun _ => by simp⟩, by omega, ⟨cur, hX.ext _ _ ht2, fun j hj => ?_⟩, ht3, by unfold maxLen at ht4; omega, blk_alloc_new _ _, World.ownsRow_nil _ _ _ _⟩)⟩
      obtain ⟨c1, c2, c3⟩ := tcells_at T j hj
      have hcl : ∀ i, i < T.length * 3 → cur[i]? = (tcells T)[i]? := fun i hi => by
        rw [← ht6, List.getElem?_take_of_lt hi, Array.getElem?_toList]
      rw [hcl _ (by omega), hcl _ (by omega), hcl _ (by omega)]
      exact ⟨c1, c2, c3⟩
def IsRcs (F : Nat → Prop) (w : World) (vs : List Value) : List P.Cl → Prop
  | [] => vs = []
  | x :: xs => ∃ l r, vs = l ++ r ∧ l.length = 7 ∧ IsRc F w l x ∧ IsRcs F w r xs
theorem IsRc.mono {F F' : Nat → Prop} {w w' : World} {l : List Value} {c : P.Cl} (hf : ∀ b, F b → F' b) (hw : Keeps F 69 w w') (hb : Keeps F 37 w w') (h : IsRc F w l c) : IsRc F' w' l c := by
  obtain ⟨av, vs, b0, b1, b2, b3, va, vc, h1, h2, h3, h4⟩ := h
  exact ⟨av, vs, b0, b1, b2, b3, va, vc, h1, h2.mono hf hw, IsRxs.mono hf hw _ _ h3, IsRb.mono hf hw hb _ _ h4⟩
theorem IsRcs.mono {F F' : Nat → Prop} {w w' : World} (hf : ∀ b, F b → F' b) (hw : Keeps F 69 w w') (hb : Keeps F 37 w w') : ∀ (xs : List P.Cl) (vs : List Value), IsRcs F w vs xs → IsRcs F' w' vs xs
  | [], vs, h => h
  | x :: xs, vs, h => by
    obtain ⟨l, r, h1, hl, h2, h3⟩ := h
    exact ⟨l, r, h1, hl, h2.mono hf hw hb, IsRcs.mono hf hw hb xs r h3⟩
theorem IsRcs.snoc {F : Nat → Prop} {w : World} {l : List Value} {x : P.Cl} (hl : l.length = 7) (hx : IsRc F w l x) : ∀ {xs : List P.Cl} {vs : List Value}, IsRcs F w vs xs → IsRcs F w (vs ++ l) (xs ++ [x])
  | [], vs, h => by
    have h : vs = [] := h
    subst h
    exact ⟨l, [], by simp, hl, hx, rfl⟩
  | y :: ys, vs, h => by
    obtain ⟨m, r, rfl, hm, h2, h3⟩ := h
    exact ⟨m, r ++ l, by simp, hm, h2, IsRcs.snoc hl hx h3⟩
theorem IsRcs.length {F : Nat → Prop} {w : World} : ∀ {xs : List P.Cl} {vs : List Value}, IsRcs F w vs xs → vs.length = 7 * xs.length
  | [], vs, h => by have h : vs = [] := h; subst h; rfl
  | x :: xs, vs, h => by
    obtain ⟨l, r, rfl, hl, h2, h3⟩ := h
    have := IsRcs.length h3
    simp [hl]
    omega
theorem Tryz.infoC : (Tryz.prog.info? 40).map (fun i => (i.zero, i.size, i.bytes)) = some (some (.agg #[.string (bs []), .slice none 0 0, .int .u8 0, .string (bs []), .slice none 0 0, .slice none 0 0, .slice none 0 0]), 7, 136) := by kernel_rfl
theorem wr_appendC {w : World} {base n : Nat} {v : Value} {xs : List Value} (hown : w.ownsRow base 40 7 v n xs) {b m : Nat} {l : List Value}
    (hb : w.heap[b]? = some (.cells l.toArray 40 (0, 0))) (h1 : One7 l)
    (hn : n ≤ 100000) (hbase : base ≤ w.heap.size) {K : Value → World → Prop} {X : Value → World → Prop}
    (h : ∀ v' w', w'.ownsRow base 40 7 v' (n + 1) (xs ++ l) → w.grownBy w' v.ownBlock → (v'.ownBlock = v.ownBlock ∨ ∀ k, v'.ownBlock = some k → w.heap.size ≤ k) → K v' w') :
    WR Tryz.prog (Builtin.append_ #[23, 23] 23 #[v, .slice (some ⟨b, 0, none⟩) 1 m]) w K X := by
  obtain ⟨i, hi, h0⟩ := Option.map_eq_some_iff.1 Tryz.infoC
  simp only [Prod.mk.injEq] at h0
  obtain ⟨hz, hs, hbt⟩ := h0
  exact wr_append (m := 1) (t := 23) (e := 40) (by kernel_rfl) hi hz hs hbt rfl (by decide) hown hb (by simpa using h1.1) (fun u hu => h1.2 u (by simpa using hu)) (by omega) (by decide) hbase h
def RowC (B : Nat) (w1 : World) (v : Value) (acc : List P.Cl) : Prop :=
  ∃ xs, w1.ownsRow B 40 7 v acc.length xs ∧ IsRcs (fun b => B ≤ b ∧ b < w1.heap.size ∧ some b ≠ v.ownBlock) w1 xs acc
theorem RowC.more {B : Nat} {w1 w2 w3 w4 : World} {pb : Nat} {v v' : Value} {acc : List P.Cl} {x : P.Cl} {l : List Value} (h : RowC B w1 v acc) (h12 : RFr pb w1 w2) (hpb : pb < B) (hx : IsRc (Nu w1 w2) w2 l x) (hl : l.length = 7) (hww : B ≤ w1.heap.size)
    (h23 : Ext w2 w3) {xs : List Value} (hxs : w3.ownsRow B 40 7 v acc.length xs) (hown' : w4.ownsRow B 40 7 v' (acc.length + 1) (xs ++ l))
    (hg : w3.grownBy w4 v.ownBlock) (hv : v'.ownBlock = v.ownBlock ∨ ∀ k, v'.ownBlock = some k → w3.heap.size ≤ k) : RowC B w4 v' (acc ++ [x]) := by
  obtain ⟨xs', o1, o2⟩ := h
  have s12 := h12.size
  have s23 := h23.size
  have s34 := hg.size
  have o3 : w3.ownsRow B 40 7 v acc.length xs' := own_ext h23.ext (own_fr h12 o1 (by omega) (by decide))
  have e : xs' = xs := ownsRow_det o3 hxs
  subst e
  have lt : ∀ k, v.ownBlock = some k → k < w1.heap.size := fun k hk => (o1.lt k hk).2
  have kp34 : ∀ b t cs, some b ≠ v.ownBlock → b < w3.heap.size → w3.heap[b]? = some (.cells cs t (0, 0)) → w4.heap[b]? = some (.cells cs t (0, 0)) :=
    fun b t cs hb hl hc => by rw [hg.block b hl hb]; exact hc
  have nv : ∀ b, b < w3.heap.size → some b ≠ v.ownBlock → some b ≠ v'.ownBlock := fun b hb hne he => by
    rcases hv with hv | hv
    · rw [hv] at he; exact hne he
    · have := hv b he.symm; omega
  refine ⟨_, by rw [List.length_append]; exact hown', IsRcs.snoc hl ?_ ?_⟩
  · refine IsRc.mono (F := Nu w1 w2) (fun b hb => ⟨by have := hb.1; omega, by have := hb.2; omega, nv b (by have := hb.2; omega) (fun e => by have := lt b e.symm; have := hb.1; omega)⟩) (fun b cs hb hc => ?_) (fun b cs hb hc => ?_) hx
    all_goals
      have h2 := h23.ext _ _ hc
      exact kp34 b _ cs (fun e => by have := lt b e.symm; have := hb.1; omega) (ltOf h2) h2
  · refine IsRcs.mono (F := fun b => B ≤ b ∧ b < w1.heap.size ∧ some b ≠ v.ownBlock) (fun b hb => ⟨hb.1, by have := hb.2.1; omega, nv b (by have := hb.2.1; omega) hb.2.2⟩) (fun b cs hb hc => ?_) (fun b cs hb hc => ?_) _ _ o2
    all_goals
      have h1 := SFr.keep h12 hc (by have := hb.1; omega) (by decide)
      have h2 := h23.ext _ _ h1
      exact kp34 b _ cs hb.2.2 (ltOf h2) h2
theorem RowC.fr {B : Nat} {w1 w2 : World} {pb : Nat} {v : Value} {acc : List P.Cl} (h : RowC B w1 v acc) (hF : RFr pb w1 w2) (hpb : pb < B) : RowC B w2 v acc := by
  obtain ⟨xs, o1, o2⟩ := h
  have := hF.size
  exact ⟨xs, own_fr hF o1 (by omega) (by decide), IsRcs.mono (fun b hb => ⟨hb.1, by have := hb.2.1; omega, hb.2.2⟩) (RFr.keeps hF (fun b hb => by have := hb.1; omega) (by decide)) (RFr.keeps hF (fun b hb => by have := hb.1; omega) (by decide)) _ _ o2⟩
theorem RowC.base {B B' : Nat} {w1 : World} {v : Value} {acc : List P.Cl} (h : RowC B w1 v acc) (hB : B' ≤ B) : RowC B' w1 v acc := by
  obtain ⟨xs, o1, o2⟩ := h
  exact ⟨xs, own_base o1 hB, IsRcs.mono (fun b hb => ⟨by have := hb.1; omega, hb.2⟩) (fun b cs _ hc => hc) (fun b cs _ hc => hc) _ _ o2⟩
theorem one7_of {l : List Value} (h : One7 l) : ∃ a b c d e f g, l = [a, b, c, d, e, f, g] ∧ a.oneCell' = true ∧ b.oneCell' = true ∧ c.oneCell' = true ∧ d.oneCell' = true ∧ e.oneCell' = true ∧ f.oneCell' = true ∧ g.oneCell' = true := by
  obtain ⟨hl, h⟩ := h
  match l, hl with
  | [a, b, c, d, e, f, g], _ => exact ⟨a, b, c, d, e, f, g, rfl, h _ (by simp), h _ (by simp), h _ (by simp), h _ (by simp), h _ (by simp), h _ (by simp), h _ (by simp)⟩
def RPostP (w : World) (r : P.Res (List P.Cl)) (e : Ending) (w' : World) : Prop :=
  Ext w w' ∧ match r with
  | .err c a => c ≠ 0 ∧ e = .returned (.tuple #[.slice none 0 0, .int .i64 c, .int .i64 a])
  | .ok cs _ _ => ∃ v, e = .returned (.tuple #[v, .int .i64 0, .int .i64 (-1)]) ∧ RowC w.heap.size w' v cs
set_option maxHeartbeats 1000000 in
theorem rProgram (s : P.Bs) (w : World) (hl : s.length ≤ 100000) : Calls Tryz.prog 8 #[.string (bs s)] w (RPostP w (P.program s)) := by
  refine sh_r_Program_ok ?_
  refine (rBegun s w hl).mono ?_
  rintro e w1 ⟨hE1, (⟨hl2, rfl⟩ | ⟨hl2, i, hi, rfl⟩ | ⟨hl2, T, pb, tb, hT, rfl, hpw, hP1⟩)⟩
  · simp (disch := first | assumption | omega | ((simp only [size_alloc, sz_drew, size_upd, List.size_toArray, List.length_cons, List.length_nil]) <;> omega) | decide) only [sh_r_Program, Pr, PX, PC, NX, ends, fillL, wrL, sOf, Nat.reduceAdd, Nat.reduceMul, Nat.reduceLeDiff, Nat.reduceEqDiff, Int.reduceToNat, Int.reduceAdd, Int.reduceLT, Int.reduceLE, ↓reduceIte, forall_const, eq_self, zG1, zG2, al_40, al_60, br_23_1, eqp_53, fa_58_4, fa_58_5, fa_60_0, fa_60_2, ld_29, ld_3, ld_40, ld_5, ln_23, st_40, st_60]
    rw [P.program, if_pos hl2]
    exact ⟨hE1, by decide, rfl⟩
  · simp (disch := first | assumption | omega | ((simp only [size_alloc, sz_drew, size_upd, List.size_toArray, List.length_cons, List.length_nil]) <;> omega) | decide) only [sh_r_Program, Pr, PX, PC, NX, ends, fillL, wrL, sOf, Nat.reduceAdd, Nat.reduceMul, Nat.reduceLeDiff, Nat.reduceEqDiff, Int.reduceToNat, Int.reduceAdd, Int.reduceLT, Int.reduceLE, ↓reduceIte, forall_const, eq_self, zG1, zG2, al_40, al_60, br_23_1, eqp_53, fa_58_4, fa_58_5, fa_60_0, fa_60_2, ld_29, ld_3, ld_40, ld_5, ln_23, st_40, st_60]
    rw [P.program, if_neg (by omega), hi]
    exact ⟨hE1, by decide, rfl⟩
  · have hpr : P.program s = P.progT T := by rw [P.program, if_neg (by omega), hT]
    rw [hpr]
    obtain ⟨l1, hkt, hlT, h4⟩ := hP1.cs
    simp (disch := first | assumption | omega | ((simp only [size_alloc, sz_drew, size_upd, List.size_toArray, List.length_cons, List.length_nil]) <;> omega) | decide) only [sh_r_Program, Pr, PX, PC, NX, ends, fillL, wrL, sOf, Nat.reduceAdd, Nat.reduceMul, Nat.reduceLeDiff, Nat.reduceEqDiff, Int.reduceToNat, Int.reduceAdd, Int.reduceLT, Int.reduceLE, ↓reduceIte, forall_const, eq_self, zG1, zG2, al_40, al_60, br_23_1, eqp_53, fa_58_4, fa_58_5, fa_60_0, fa_60_2, ld_29, ld_3, ld_40, ld_5, ln_23, st_40, st_60]
    have hEf : ∀ {w2 : World}, RFr pb w1 w2 → Ext w w2 := fun hF => ⟨hF.os.trans hE1.os, hF.tape.trans hE1.tape, hF.output.trans hE1.output, Nat.le_trans hE1.size hF.size, fun b o hb _ => by
      have h1 := hE1.ext _ _ hb
      have h2 := ltOf hb
      exact hF.block b o h1 (by rintro (h | ⟨h, _⟩) <;> omega)⟩
    refine ⟨fun _ w2 => RFr pb w1 w2 ∧ ∃ c a k vs, c ≠ 0 ∧ P.progT T = .err c a ∧ RP w2 pb tb T k vs 0 c a, ?_, ?_⟩
    · refine ⟨fun n t w2 => RFr pb w1 w2 ∧ ((∃ f k vs acc, n = f + 1 ∧ acc.length ≤ 40 ∧ P.pProgG T f k acc = some (P.progT T) ∧ RP w2 pb tb T k vs 0 0 0 ∧ RowC w1.heap.size w2 (t 8) acc) ∨
          (n = 0 ∧ ∃ c a k vs, c ≠ 0 ∧ P.progT T = .err c a ∧ RP w2 pb tb T k vs 0 c a)),
        ⟨T.length + 1 + 1, FrM.refl _ _, .inl ⟨_, 0, [], [], rfl, by simp, P.progT_eq T, hP1, [], World.ownsRow_nil _ _ _ _, rfl⟩⟩, ?_⟩
      intro n t dd w2 hI
      refine toPr ?_
      obtain ⟨hF, hI⟩ := hI
      have s12 := hF.size
      rcases hI with ⟨f, k, vs, acc, rfl, ha40, hq, hP, hrow⟩ | ⟨rfl, c, a, k, vs, hc, hpe, hP⟩
      · obtain ⟨lc, vv, hx⟩ := id hP
        have h3 := hx.cell
        have hk4 := hx.kind4
        cases f with
        | zero => rw [P.pProgG] at hq; cases hq
        | succ f =>
        rw [P.pProgG] at hq
        simp (disch := first | assumption | omega | ((simp only [size_alloc, sz_drew, size_upd, List.size_toArray, List.length_cons, List.length_nil]) <;> omega) | decide) only [sh_r_Program, Pr, PX, PC, NX, ends, fillL, wrL, sOf, Nat.reduceAdd, Nat.reduceMul, Nat.reduceLeDiff, Nat.reduceEqDiff, Int.reduceToNat, Int.reduceAdd, Int.reduceLT, Int.reduceLE, ↓reduceIte, forall_const, eq_self, zG1, zG2, al_40, al_60, br_23_1, eqp_53, fa_58_4, fa_58_5, fa_60_0, fa_60_2, ld_29, ld_3, ld_40, ld_5, ln_23, st_40, st_60, h3]
        refine (rNext hP).mono ?_
        rintro e w3 ⟨rfl, hE3⟩
        have s23 := hE3.size
        have hP3 := hP.ext hE3
        have hF3 := hF.trans hE3.toM
        obtain ⟨xs, o1, o2⟩ := id hrow
        obtain ⟨va, vc, hv⟩ := own_slice o1
        rw [hv] at hrow
        by_cases hk0 : (P.tk T k).kind = 0
        · rw [if_pos hk0] at hq
          have hrk : rk (P.tk T k).kind = 101 := (rk_end hk4).2 hk0
          rw [hrk]
          simp (disch := first | assumption | omega | ((simp only [size_alloc, sz_drew, size_upd, List.size_toArray, List.length_cons, List.length_nil]) <;> omega) | decide) only [sh_r_Program, Pr, PX, PC, NX, ends, fillL, wrL, sOf, Nat.reduceAdd, Nat.reduceMul, Nat.reduceLeDiff, Nat.reduceEqDiff, Int.reduceToNat, Int.reduceAdd, Int.reduceLT, Int.reduceLE, ↓reduceIte, forall_const, eq_self, zG1, zG2, al_40, al_60, br_23_1, eqp_53, fa_58_4, fa_58_5, fa_60_0, fa_60_2, ld_29, ld_3, ld_40, ld_5, ln_23, st_40, st_60]
          have hq' := (Option.some.inj hq).symm
          rw [hq']
          have hX : Ext w3 (upd (w3.alloc (.cells #[.int .u8 0, .string (bs []), .int .i64 0] 60)) w3.heap.size (.cells #[.int .u8 ((101 : Nat) : Int), .string (bs (P.tk T k).text), .int .i64 ((P.tk T k).pos)] 60)) := by (repeat (first | assumption | exact FrM.refl _ _ | (refine FrM.upd ?_ (.inr (by (try simp only [size_alloc, sz_drew, size_upd, List.size_toArray, List.length_cons, List.length_nil]) <;> omega))) | refine FrM.alloc ?_ _ | refine FrM.drew ?_))
          refine ⟨hEf (hF3.trans hX.toM), t 8, rfl, ?_⟩
          rw [hv]
          exact (hrow.fr (pb := pb) (hE3.toM.trans hX.toM) (by omega)).base hE1.size
        · rw [if_neg hk0] at hq
          have hrk : ¬ ((rk (P.tk T k).kind : Nat) : Int) = 101 := by have := rk_end hk4; omega
          have hX : Ext w3 (upd (w3.alloc (.cells #[.int .u8 0, .string (bs []), .int .i64 0] 60)) w3.heap.size (.cells #[.int .u8 (rk (P.tk T k).kind), .string (bs (P.tk T k).text), .int .i64 ((P.tk T k).pos)] 60)) := by (repeat (first | assumption | exact FrM.refl _ _ | (refine FrM.upd ?_ (.inr (by (try simp only [size_alloc, sz_drew, size_upd, List.size_toArray, List.length_cons, List.length_nil]) <;> omega))) | refine FrM.alloc ?_ _ | refine FrM.drew ?_))
          by_cases h40 : acc.length = 40
          · rw [if_pos h40] at hq
            have h40' : ((acc.length : Nat) : Int) = 40 := by omega
            simp (disch := first | assumption | omega | ((simp only [size_alloc, sz_drew, size_upd, List.size_toArray, List.length_cons, List.length_nil]) <;> omega) | decide) only [sh_r_Program, Pr, PX, PC, NX, ends, fillL, wrL, sOf, Nat.reduceAdd, Nat.reduceMul, Nat.reduceLeDiff, Nat.reduceEqDiff, Int.reduceToNat, Int.reduceAdd, Int.reduceLT, Int.reduceLE, ↓reduceIte, forall_const, eq_self, zG1, zG2, al_40, al_60, br_23_1, eqp_53, fa_58_4, fa_58_5, fa_60_0, fa_60_2, ld_29, ld_3, ld_40, ld_5, ln_23, st_40, st_60, hv]
            refine (rFault (hP3.ext hX) 4 _).mono ?_
            rintro e w5 ⟨rfl, hP5, hF5⟩
            rw [if_pos rfl, if_pos rfl] at hP5
            simp (disch := first | assumption | omega | ((simp only [size_alloc, sz_drew, size_upd, List.size_toArray, List.length_cons, List.length_nil]) <;> omega) | decide) only [sh_r_Program, Pr, PX, PC, NX, ends, fillL, wrL, sOf, Nat.reduceAdd, Nat.reduceMul, Nat.reduceLeDiff, Nat.reduceEqDiff, Int.reduceToNat, Int.reduceAdd, Int.reduceLT, Int.reduceLE, ↓reduceIte, forall_const, eq_self, zG1, zG2, al_40, al_60, br_23_1, eqp_53, fa_58_4, fa_58_5, fa_60_0, fa_60_2, ld_29, ld_3, ld_40, ld_5, ln_23, st_40, st_60]
            exact ⟨(hF3.trans hX.toM).trans hF5, 4, _, _, _, by decide, (Option.some.inj hq).symm, hP5⟩
          · rw [if_neg h40] at hq
            have h40' : ¬ ((acc.length : Nat) : Int) = 40 := by omega
            simp (disch := first | assumption | omega | ((simp only [size_alloc, sz_drew, size_upd, List.size_toArray, List.length_cons, List.length_nil]) <;> omega) | decide) only [sh_r_Program, Pr, PX, PC, NX, ends, fillL, wrL, sOf, Nat.reduceAdd, Nat.reduceMul, Nat.reduceLeDiff, Nat.reduceEqDiff, Int.reduceToNat, Int.reduceAdd, Int.reduceLT, Int.reduceLE, ↓reduceIte, forall_const, eq_self, zG1, zG2, al_40, al_60, br_23_1, eqp_53, fa_58_4, fa_58_5, fa_60_0, fa_60_2, ld_29, ld_3, ld_40, ld_5, ln_23, st_40, st_60, hv]
            cases hc : P.pClause T (P.fuelFor T) k with
            | none => rw [hc] at hq; cases hq
            | some qc =>
            rw [hc] at hq
            refine (rClause (hP3.ext hX) hc).mono ?_
            rintro e w5 ⟨l, rfl, h7, hF5, hst⟩
            obtain ⟨a0, a1, a2, a3, a4, a5, a6, rfl, p0, p1, p2, p3, p4, p5, p6⟩ := one7_of h7
            have s35 := hF5.size
            rw [size_upd, size_alloc] at s35
            simp (disch := first | assumption | omega | ((simp only [size_alloc, sz_drew, size_upd, List.size_toArray, List.length_cons, List.length_nil]) <;> omega) | decide) only [sh_r_Program, Pr, PX, PC, NX, ends, fillL, wrL, sOf, Nat.reduceAdd, Nat.reduceMul, Nat.reduceLeDiff, Nat.reduceEqDiff, Int.reduceToNat, Int.reduceAdd, Int.reduceLT, Int.reduceLE, ↓reduceIte, forall_const, eq_self, zG1, zG2, al_40, al_60, br_23_1, eqp_53, fa_58_4, fa_58_5, fa_60_0, fa_60_2, ld_29, ld_3, ld_40, ld_5, ln_23, st_40, st_60, p0, p1, p2, p3, p4, p5, p6]
            have hX5 : Ext w5 ((upd (w5.alloc (.cells #[.string (bs []), .slice none 0 0, .int .u8 0, .string (bs []), .slice none 0 0, .slice none 0 0, .slice none 0 0] 40)) w5.heap.size (.cells #[a0, a1, a2, a3, a4, a5, a6] 40)).alloc (.cells #[a0, a1, a2, a3, a4, a5, a6] 40)) := by (repeat (first | assumption | exact FrM.refl _ _ | (refine FrM.upd ?_ (.inr (by (try simp only [size_alloc, sz_drew, size_upd, List.size_toArray, List.length_cons, List.length_nil]) <;> omega))) | refine FrM.alloc ?_ _ | refine FrM.drew ?_))
            have hF25 : RFr pb w2 w5 := (hE3.toM.trans hX.toM).trans hF5
            have own5 := own_ext hX5.ext (own_fr hF25 (hv ▸ o1) (by omega) (by decide))
            rw [hv]
            refine wr_appendC (l := [a0, a1, a2, a3, a4, a5, a6]) own5 (hp_alloc_new (by rw [size_upd, size_alloc])) h7 (by omega) (by have := hX5.size; omega) ?_
            intro v' w6 hown6 hg6 hv6
            have hF6 : RFr pb w1 w6 := (((hF3.trans hX.toM).trans hF5).trans hX5.toM).grow hg6 (fun kk hkk => (own5.lt kk hkk).1)
            simp (disch := first | assumption | omega | ((simp only [size_alloc, sz_drew, size_upd, List.size_toArray, List.length_cons, List.length_nil]) <;> omega) | decide) only [sh_r_Program, Pr, PX, PC, NX, ends, fillL, wrL, sOf, Nat.reduceAdd, Nat.reduceMul, Nat.reduceLeDiff, Nat.reduceEqDiff, Int.reduceToNat, Int.reduceAdd, Int.reduceLT, Int.reduceLE, ↓reduceIte, forall_const, eq_self, zG1, zG2, al_40, al_60, br_23_1, eqp_53, fa_58_4, fa_58_5, fa_60_0, fa_60_2, ld_29, ld_3, ld_40, ld_5, ln_23, st_40, st_60]
            cases qc with
            | err c a =>
              obtain ⟨hc0, k2, vs2, hP5⟩ := hst
              simp only [P.Res.bind, Option.some.injEq] at hq
              exact ⟨0, Nat.succ_pos _, hF6, .inr ⟨rfl, c, a, k2, vs2, hc0, hq.symm, (hP5.ext hX5).grow own5 (by decide) (by omega) hg6⟩⟩
            | ok c k2 vs2 =>
              obtain ⟨hc0, hP5⟩ := hst
              simp only [P.Res.bind] at hq
              refine ⟨f + 1, by omega, hF6, .inl ⟨f, k2, vs2, acc ++ [c], rfl, by simp; omega, hq, (hP5.ext hX5).grow own5 (by decide) (by omega) hg6, ?_⟩⟩
              have hcx : IsRc (Nu w2 w5) w5 [a0, a1, a2, a3, a4, a5, a6] c := hc0.mono (fun b hb => ⟨by have := hb.1; rw [size_upd, size_alloc] at this; omega, hb.2⟩) (fun b cs _ hc => hc) (fun b cs _ hc => hc)
              simpa [sOf] using hrow.more hF25 (by omega) hcx rfl s12 hX5 own5 hown6 hg6 hv6
      · obtain ⟨lc, vv, hx⟩ := id hP
        have h3 := hx.cell
        have hc' : ¬ (c : Int) = 0 := by omega
        simp (disch := first | assumption | omega | ((simp only [size_alloc, sz_drew, size_upd, List.size_toArray, List.length_cons, List.length_nil]) <;> omega) | decide) only [sh_r_Program, Pr, PX, PC, NX, ends, fillL, wrL, sOf, Nat.reduceAdd, Nat.reduceMul, Nat.reduceLeDiff, Nat.reduceEqDiff, Int.reduceToNat, Int.reduceAdd, Int.reduceLT, Int.reduceLE, ↓reduceIte, forall_const, eq_self, zG1, zG2, al_40, al_60, br_23_1, eqp_53, fa_58_4, fa_58_5, fa_60_0, fa_60_2, ld_29, ld_3, ld_40, ld_5, ln_23, st_40, st_60, h3]
        exact ⟨hF, c, a, k, vs, hc, hpe, hP⟩
    · rintro t w2 ⟨hF, c, a, k, vs, hc, hpe, hP⟩ dd
      obtain ⟨lc, vv, hx⟩ := id hP
      have h3 := hx.cell
      simp (disch := first | assumption | omega | ((simp only [size_alloc, sz_drew, size_upd, List.size_toArray, List.length_cons, List.length_nil]) <;> omega) | decide) only [sh_r_Program, Pr, PX, PC, NX, ends, fillL, wrL, sOf, Nat.reduceAdd, Nat.reduceMul, Nat.reduceLeDiff, Nat.reduceEqDiff, Int.reduceToNat, Int.reduceAdd, Int.reduceLT, Int.reduceLE, ↓reduceIte, forall_const, eq_self, zG1, zG2, al_40, al_60, br_23_1, eqp_53, fa_58_4, fa_58_5, fa_60_0, fa_60_2, ld_29, ld_3, ld_40, ld_5, ln_23, st_40, st_60, h3]
      rw [hpe]
      exact ⟨(hEf hF).drew, hc, rfl⟩
end Go.Proofs.YtkmpelgfhjgddaaGreatDoor
