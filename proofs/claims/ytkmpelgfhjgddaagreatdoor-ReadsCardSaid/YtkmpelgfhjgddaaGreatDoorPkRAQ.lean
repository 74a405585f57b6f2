/- A part of one proof (RW21, PureF); no conditions beyond what each theorem names. -/
import Derived.Test.YtkmpelgfhjgddaaGreatDoorPkRAP
set_option linter.all false
set_option linter.unusedVariables false
set_option linter.unusedSimpArgs false
namespace Go.Proofs.YtkmpelgfhjgddaaGreatDoor
open Go.RowKit Sx
set_option maxRecDepth 100000
def tcells : List P.Tok → List Value
  | [] => []
  | t :: l => .int .u8 (rk t.kind) :: .string (bs t.text) :: .int .i64 t.pos :: tcells l
theorem tcells_snoc : ∀ (l : List P.Tok) (t : P.Tok), tcells (l ++ [t]) = tcells l ++ [.int .u8 (rk t.kind), .string (bs t.text), .int .i64 t.pos]
  | [], t => rfl
  | u :: l, t => by
    show _ :: _ :: _ :: tcells (l ++ [t]) = _
    rw [tcells_snoc l t]
    rfl
theorem tcells_at : ∀ (l : List P.Tok) (j : Nat), j < l.length → (tcells l)[j * 3]? = some (.int .u8 (rk (P.tk l j).kind)) ∧ (tcells l)[j * 3 + 1]? = some (.string (bs (P.tk l j).text)) ∧ (tcells l)[j * 3 + 2]? = some (.int .i64 (P.tk l j).pos)
  | [], j, h => absurd h (Nat.not_lt_zero _)
  | u :: l, 0, _ => ⟨rfl, rfl, rfl⟩
  | u :: l, j + 1, h => by
    have := tcells_at l j (by simpa using h)
    have e : (j + 1) * 3 = j * 3 + 3 := by omega
    rw [e]
    exact this
theorem Tryz.infoTok : (Tryz.prog.info? 60).map (fun i => (i.zero, i.size, i.bytes)) = some (some (.agg #[.int .u8 0, .string (bs []), .int .i64 0]), 3, 32) := by kernel_rfl
theorem wr_appendT {w : World} {base : Nat} {v : Value} {acc : List P.Tok} (hown : w.ownsRow base 60 3 v acc.length (tcells acc)) {b m : Nat} {kd : Nat} {tx : P.Bs} {ps : Nat} {kv tv pv : Value}
    (hb : w.heap[b]? = some (.cells #[kv, tv, pv] 60 (0, 0))) (hk : kv = .int .u8 (rk kd)) (ht : tv = .string (bs tx)) (hp : pv = .int .i64 ps)
    (hn : acc.length ≤ 100000) (hbase : base ≤ w.heap.size) {K : Value → World → Prop} {X : Value → World → Prop}
    (h : ∀ v' w', w'.ownsRow base 60 3 v' (acc ++ ([⟨kd, tx, ps⟩] : List P.Tok)).length (tcells (acc ++ ([⟨kd, tx, ps⟩] : List P.Tok))) → w.grownBy w' v.ownBlock → (v'.ownBlock = v.ownBlock ∨ ∀ k, v'.ownBlock = some k → w.heap.size ≤ k) → K v' w') :
    WR Tryz.prog (Builtin.append_ #[56, 56] 56 #[v, .slice (some ⟨b, 0, none⟩) 1 m]) w K X := by
  subst hk ht hp
  obtain ⟨i, hi, h0⟩ := Option.map_eq_some_iff.1 Tryz.infoTok
  simp only [Prod.mk.injEq] at h0
  obtain ⟨hz, hs, hbt⟩ := h0
  refine wr_append (m := 1) (t := 56) (e := 60) (by kernel_rfl) hi hz hs hbt rfl (by decide) hown hb rfl (fun u hu => ?_) (by omega) (by decide) hbase ?_
  · simp only [List.mem_cons, List.not_mem_nil, or_false] at hu
    rcases hu with rfl | rfl | rfl <;> rfl
  · intro v' w' h1 h2 h3
    refine h v' w' ?_ h2 h3
    rw [tcells_snoc, List.length_append]
    exact h1
def RPostL (w : World) (r : Sum Nat (List P.Tok)) (e : Ending) (w' : World) : Prop :=
  Ext w w' ∧ match r with
  | .inl i => e = .returned (.tuple #[.slice none 0 0, .int .i64 i])
  | .inr T => ∃ v, e = .returned (.tuple #[v, .int .i64 (-1)]) ∧ w'.ownsRow w.heap.size 60 3 v T.length (tcells T)
set_option maxHeartbeats 1000000 in
theorem rLex (s : P.Bs) (w : World) (hl : s.length ≤ 2000) : Calls Tryz.prog 30 #[.string (bs s)] w (RPostL w (P.lex s)) := by
  refine sh_r_lex_ok ?_
  simp (disch := first | assumption | omega | ((simp only [size_alloc, sz_drew, size_upd, List.size_toArray, List.length_cons, List.length_nil]) <;> omega) | decide) only [sh_r_lex, Pr, PX, PC, NX, ends, fillL, wrL, sOf, Nat.reduceAdd, Nat.reduceMul, Nat.reduceLeDiff, Nat.reduceEqDiff, Int.reduceToNat, Int.reduceAdd, Int.reduceLT, Int.reduceLE, ↓reduceIte, forall_const, eq_self, zG1, zG2, al_60, bd_60, br_56_1, ch_9, fa_60_0, ix_38, ld_5, ld_60, ld_9, ln_38, ln_9, slh_9, st_60]
  refine (rSigns w).mono ?_
  rintro e w1 ⟨rfl, rfl⟩
  have hE1 : Ext w (w.alloc (.cells (P.signs.map fun s => .string (bs s)).toArray 9)) := by (repeat (first | assumption | exact FrM.refl _ _ | (refine FrM.upd ?_ (.inr (by (try simp only [size_alloc, sz_drew, size_upd, List.size_toArray, List.length_cons, List.length_nil]) <;> omega))) | refine FrM.alloc ?_ _ | refine FrM.drew ?_))
  have g1 : (w.alloc (.cells (P.signs.map fun s => .string (bs s)).toArray 9)).heap[w.heap.size]? = some (.cells (P.signs.map fun s => .string (bs s)).toArray 9 (0, 0)) := blk_alloc_new w _
  have s1 : (w.alloc (.cells (P.signs.map fun s => .string (bs s)).toArray 9)).heap.size = w.heap.size + 1 := size_alloc _ _
  generalize w.alloc (.cells (P.signs.map fun s => .string (bs s)).toArray 9) = wS at *
  simp (disch := first | assumption | omega | ((simp only [size_alloc, sz_drew, size_upd, List.size_toArray, List.length_cons, List.length_nil]) <;> omega) | decide) only [sh_r_lex, Pr, PX, PC, NX, ends, fillL, wrL, sOf, Nat.reduceAdd, Nat.reduceMul, Nat.reduceLeDiff, Nat.reduceEqDiff, Int.reduceToNat, Int.reduceAdd, Int.reduceLT, Int.reduceLE, ↓reduceIte, forall_const, eq_self, zG1, zG2, al_60, bd_60, br_56_1, ch_9, fa_60_0, ix_38, ld_5, ld_60, ld_9, ln_38, ln_9, slh_9, st_60]
  refine ⟨fun n t w1 => Ext wS w1 ∧ ∃ j acc f q, n = s.length - j ∧ j ≤ s.length ∧ acc.length ≤ j ∧ t 6 = .int .i64 j ∧ w1.ownsRow wS.heap.size 60 3 (t 4) acc.length (tcells acc) ∧
      P.lexGo f (s.drop j) j = some q ∧ lexFin acc q = P.lex s, ⟨s.length, FrM.refl _ _, 0, [], _, _, rfl, Nat.zero_le _, Nat.le_refl _, rfl, World.ownsRow_nil _ _ _ _, P.lex_eq s, ?_⟩, ?_⟩
  · cases P.lex s <;> rfl
  intro n t dd w1 hI
  refine toPr ?_
  obtain ⟨hE, j, acc, f, q, rfl, hj, haj, h6, hown, hq, hfin⟩ := hI
  have hs1 := hE.size
  by_cases hlt : j < s.length
  · obtain ⟨c, r, hcr⟩ : ∃ c r, s.drop j = c :: r := ⟨s[j], s.drop (j + 1), List.drop_eq_getElem_cons hlt⟩
    have hcg : s.getD j 0 = c := by
      rw [List.drop_eq_getElem_cons hlt] at hcr
      injection hcr with h _
      rw [List.getD_eq_getElem?_getD, List.getElem?_eq_getElem hlt, ← h]; rfl
    have hr : s.drop (j + 1) = r := by
      rw [List.drop_eq_getElem_cons hlt] at hcr
      injection hcr
    have hc256 := c.toNat_lt
    cases f with
    | zero => rw [P.lexGo] at hq; cases hq
    | succ f =>
    rw [hcr, P.lexGo] at hq
    have hbl : (P.blank c = true) ↔ ((c.toNat : Int) = 32 ∨ (c.toNat : Int) = 10) := by
      have e1 : c = 32 ↔ c.toNat = 32 := by rw [← UInt8.toNat_inj]; rfl
      have e2 : c = 10 ↔ c.toNat = 10 := by rw [← UInt8.toNat_inj]; rfl
      simp only [P.blank, Bool.or_eq_true, beq_iff_eq, e1, e2]
      omega
    simp (disch := first | assumption | omega | ((simp only [size_alloc, sz_drew, size_upd, List.size_toArray, List.length_cons, List.length_nil]) <;> omega) | decide) only [sh_r_lex, Pr, PX, PC, NX, ends, fillL, wrL, sOf, Nat.reduceAdd, Nat.reduceMul, Nat.reduceLeDiff, Nat.reduceEqDiff, Int.reduceToNat, Int.reduceAdd, Int.reduceLT, Int.reduceLE, ↓reduceIte, forall_const, eq_self, zG1, zG2, al_60, bd_60, br_56_1, ch_9, fa_60_0, ix_38, ld_5, ld_60, ld_9, ln_38, ln_9, slh_9, st_60, h6, hcg]
    refine ⟨fun t2 w2 => w2 = w1 ∧ t2 6 = .int .i64 j ∧ P.blank c = false, ?_, ?_⟩
    · refine ⟨fun t2 w2 => w2 = w1 ∧ t2 26 = .bool (P.blank c), ?_, ?_⟩
      · simp (disch := first | assumption | omega | ((simp only [size_alloc, sz_drew, size_upd, List.size_toArray, List.length_cons, List.length_nil]) <;> omega) | decide) only [sh_r_lex, Pr, PX, PC, NX, ends, fillL, wrL, sOf, Nat.reduceAdd, Nat.reduceMul, Nat.reduceLeDiff, Nat.reduceEqDiff, Int.reduceToNat, Int.reduceAdd, Int.reduceLT, Int.reduceLE, ↓reduceIte, forall_const, eq_self, zG1, zG2, al_60, bd_60, br_56_1, ch_9, fa_60_0, ix_38, ld_5, ld_60, ld_9, ln_38, ln_9, slh_9, st_60, hcg, bs_dec]
        by_cases h32 : (c.toNat : Int) = 32
        · simp [h32, hbl.2 (.inl h32)]
        · by_cases h10 : (c.toNat : Int) = 10
          · simp [h10, hbl.2 (.inr h10)]
          · have : P.blank c = false := by
              cases hb : P.blank c with
              | false => rfl
              | true => rcases hbl.1 hb with h | h <;> contradiction
            simp [h32, h10, this]
      · rintro t2 w2 ⟨rfl, h26⟩ d2
        rw [h26]
        cases hb : P.blank c with
        | true =>
          rw [bs_true, h6]
          simp (disch := first | assumption | omega | ((simp only [size_alloc, sz_drew, size_upd, List.size_toArray, List.length_cons, List.length_nil]) <;> omega) | decide) only [sh_r_lex, Pr, PX, PC, NX, ends, fillL, wrL, sOf, Nat.reduceAdd, Nat.reduceMul, Nat.reduceLeDiff, Nat.reduceEqDiff, Int.reduceToNat, Int.reduceAdd, Int.reduceLT, Int.reduceLE, ↓reduceIte, forall_const, eq_self, zG1, zG2, al_60, bd_60, br_56_1, ch_9, fa_60_0, ix_38, ld_5, ld_60, ld_9, ln_38, ln_9, slh_9, st_60]
          refine ⟨s.length - (j + 1), by omega, hE, j + 1, acc, f, q, rfl, by omega, by omega, ?_, ?_, ?_, hfin⟩
          · simp
          · simpa using hown
          · rw [if_pos hb] at hq
            rw [hr]; exact hq
        | false =>
          rw [bs_false]
          refine ⟨rfl, ?_, rfl⟩
          simp [sOf, h6]
    · rintro t2 w2 ⟨rfl, h26, hnb⟩ d2
      rw [if_neg (by simp [hnb])] at hq
      obtain ⟨W, hW⟩ : ∃ W, W = ((c :: r).takeWhile (fun x => P.cls x ≠ 0)).length := ⟨_, rfl⟩
      have htw := twhile (fun x => P.cls x ≠ 0) (c :: r)
      rw [← hW] at htw
      dsimp only at hq
      rw [← hW] at hq
      obtain ⟨ht1, ht2, ht3, ht4⟩ := htw
      have hlen : (c :: r).length = s.length - j := by rw [← hcr, List.length_drop]
      rw [hlen] at ht2 ht3
      rw [← hcr] at ht1 ht2
      simp only [getD_drop0, decide_eq_true_eq, decide_eq_false_iff_not, ne_eq, Decidable.not_not] at ht1 ht2
      refine ⟨fun t3 w3 => w3 = w2 ∧ t3 8 = .int .i64 ((j + W : Nat) : Int), ?_, ?_⟩
      · refine ⟨fun n t3 w3 => w3 = w2 ∧ ∃ m, n = W - m ∧ m ≤ W ∧ t3 8 = .int .i64 ((j + m : Nat) : Int), ⟨W, rfl, 0, rfl, Nat.zero_le _, ?_⟩, ?_⟩
        · simp [sOf, h26]
        · intro n t3 d3 w3 hI
          refine toPr ?_
          obtain ⟨rfl, m, rfl, hm, h8⟩ := hI
          by_cases hjm : j + m < s.length
          · simp (disch := first | assumption | omega | ((simp only [size_alloc, sz_drew, size_upd, List.size_toArray, List.length_cons, List.length_nil]) <;> omega) | decide) only [sh_r_lex, Pr, PX, PC, NX, ends, fillL, wrL, sOf, Nat.reduceAdd, Nat.reduceMul, Nat.reduceLeDiff, Nat.reduceEqDiff, Int.reduceToNat, Int.reduceAdd, Int.reduceLT, Int.reduceLE, ↓reduceIte, forall_const, eq_self, zG1, zG2, al_60, bd_60, br_56_1, ch_9, fa_60_0, ix_38, ld_5, ld_60, ld_9, ln_38, ln_9, slh_9, st_60, h8]
            refine (rClass _ _).mono ?_
            rintro e w4 ⟨rfl, rfl⟩
            by_cases hmW : m < W
            · have hc0 : ¬ ((P.cls (s.getD (j + m) 0) : Nat) : Int) = 0 := by have := ht1 m hmW; omega
              simp (disch := first | assumption | omega | ((simp only [size_alloc, sz_drew, size_upd, List.size_toArray, List.length_cons, List.length_nil]) <;> omega) | decide) only [sh_r_lex, Pr, PX, PC, NX, ends, fillL, wrL, sOf, Nat.reduceAdd, Nat.reduceMul, Nat.reduceLeDiff, Nat.reduceEqDiff, Int.reduceToNat, Int.reduceAdd, Int.reduceLT, Int.reduceLE, ↓reduceIte, forall_const, eq_self, zG1, zG2, al_60, bd_60, br_56_1, ch_9, fa_60_0, ix_38, ld_5, ld_60, ld_9, ln_38, ln_9, slh_9, st_60, h8]
              exact ⟨W - (m + 1), by omega, m + 1, rfl, by omega, by simp; omega⟩
            · have hmW' : m = W := by omega
              subst hmW'
              have hc0 : ((P.cls (s.getD (j + m) 0) : Nat) : Int) = 0 := by have := ht2 (by omega); omega
              simp (disch := first | assumption | omega | ((simp only [size_alloc, sz_drew, size_upd, List.size_toArray, List.length_cons, List.length_nil]) <;> omega) | decide) only [sh_r_lex, Pr, PX, PC, NX, ends, fillL, wrL, sOf, Nat.reduceAdd, Nat.reduceMul, Nat.reduceLeDiff, Nat.reduceEqDiff, Int.reduceToNat, Int.reduceAdd, Int.reduceLT, Int.reduceLE, ↓reduceIte, forall_const, eq_self, zG1, zG2, al_60, bd_60, br_56_1, ch_9, fa_60_0, ix_38, ld_5, ld_60, ld_9, ln_38, ln_9, slh_9, st_60, h8]
          · have hmW : m = W := by
              rcases Nat.lt_or_ge m W with h | h
              · omega
              · omega
            subst hmW
            simp (disch := first | assumption | omega | ((simp only [size_alloc, sz_drew, size_upd, List.size_toArray, List.length_cons, List.length_nil]) <;> omega) | decide) only [sh_r_lex, Pr, PX, PC, NX, ends, fillL, wrL, sOf, Nat.reduceAdd, Nat.reduceMul, Nat.reduceLeDiff, Nat.reduceEqDiff, Int.reduceToNat, Int.reduceAdd, Int.reduceLT, Int.reduceLE, ↓reduceIte, forall_const, eq_self, zG1, zG2, al_60, bd_60, br_56_1, ch_9, fa_60_0, ix_38, ld_5, ld_60, ld_9, ln_38, ln_9, slh_9, st_60, h8]
      · rintro t3 w3 ⟨rfl, h8⟩ d3
        by_cases hc0 : P.cls c ≠ 0
        · rw [if_pos hc0] at hq
          have hWp : 0 < W := by
            rw [hW, List.takeWhile_cons, if_pos (by simpa using hc0)]
            simp
          simp (disch := first | assumption | omega | ((simp only [size_alloc, sz_drew, size_upd, List.size_toArray, List.length_cons, List.length_nil]) <;> omega) | decide) only [sh_r_lex, Pr, PX, PC, NX, ends, fillL, wrL, sOf, Nat.reduceAdd, Nat.reduceMul, Nat.reduceLeDiff, Nat.reduceEqDiff, Int.reduceToNat, Int.reduceAdd, Int.reduceLT, Int.reduceLE, ↓reduceIte, forall_const, eq_self, zG1, zG2, al_60, bd_60, br_56_1, ch_9, fa_60_0, ix_38, ld_5, ld_60, ld_9, ln_38, ln_9, slh_9, st_60, h8, h26]
          have hdt : List.drop j (List.take (j + W) s) = c :: r.takeWhile (fun x => P.cls x ≠ 0) := by
            rw [List.drop_take, hcr, show j + W - j = W by omega, ht4, List.takeWhile_cons, if_pos (by simpa using hc0)]
          have htk : (c :: r).takeWhile (fun x => P.cls x ≠ 0) = c :: r.takeWhile (fun x => P.cls x ≠ 0) := by rw [List.takeWhile_cons, if_pos (by simpa using hc0)]
          rw [hdt]
          rw [htk] at hq hW
          obtain ⟨wd, hwd⟩ : ∃ wd, wd = c :: r.takeWhile (fun x => P.cls x ≠ 0) := ⟨_, rfl⟩
          refine (rWord c _ (by rw [← hW]; omega) j w3).mono ?_
          rw [← hwd] at hq hW ⊢
          rintro e w4 ⟨rfl, hE4⟩
          have s4 := hE4.size
          unfold wordV
          by_cases hk0 : P.wordKind wd = 0
          · rw [if_pos hk0] at hq ⊢
            simp (disch := first | assumption | omega | ((simp only [size_alloc, sz_drew, size_upd, List.size_toArray, List.length_cons, List.length_nil]) <;> omega) | decide) only [sh_r_lex, Pr, PX, PC, NX, ends, fillL, wrL, sOf, Nat.reduceAdd, Nat.reduceMul, Nat.reduceLeDiff, Nat.reduceEqDiff, Int.reduceToNat, Int.reduceAdd, Int.reduceLT, Int.reduceLE, ↓reduceIte, forall_const, eq_self, zG1, zG2, al_60, bd_60, br_56_1, ch_9, fa_60_0, ix_38, ld_5, ld_60, ld_9, ln_38, ln_9, slh_9, st_60, h26]
            have hq' := (Option.some.inj hq).symm
            subst hq'
            simp only [lexFin] at hfin
            rw [← hfin]
            have hEf := (hE1.trans hE).trans hE4
            refine ⟨?_, rfl⟩
            (repeat (first | assumption | exact FrM.refl _ _ | (refine FrM.upd ?_ (.inr (by (try simp only [size_alloc, sz_drew, size_upd, List.size_toArray, List.length_cons, List.length_nil]) <;> omega))) | refine FrM.alloc ?_ _ | refine FrM.drew ?_))
          · rw [if_neg hk0] at hq ⊢
            have hwo := P.wordKind_ok (i := j) hk0
            have hrk : ¬ ((rk (P.wordKind wd) : Nat) : Int) = 0 := by
              have : rk (P.wordKind wd) ≠ 0 := by
                unfold rk
                repeat' split
                all_goals decide
              omega
            simp (disch := first | assumption | omega | ((simp only [size_alloc, sz_drew, size_upd, List.size_toArray, List.length_cons, List.length_nil]) <;> omega) | decide) only [sh_r_lex, Pr, PX, PC, NX, ends, fillL, wrL, sOf, Nat.reduceAdd, Nat.reduceMul, Nat.reduceLeDiff, Nat.reduceEqDiff, Int.reduceToNat, Int.reduceAdd, Int.reduceLT, Int.reduceLE, ↓reduceIte, forall_const, eq_self, zG1, zG2, al_60, bd_60, br_56_1, ch_9, fa_60_0, ix_38, ld_5, ld_60, ld_9, ln_38, ln_9, slh_9, st_60, h26]
            have hx5 : Ext w4 ((upd (w4.alloc (.cells #[.int .u8 0, .string (bs []), .int .i64 0] 60)) w4.heap.size (.cells #[.int .u8 (rk (P.wordKind wd)), .string (bs wd), .int .i64 j] 60)).alloc (.cells #[.int .u8 (rk (P.wordKind wd)), .string (bs wd), .int .i64 j] 60)) := by (repeat (first | assumption | exact FrM.refl _ _ | (refine FrM.upd ?_ (.inr (by (try simp only [size_alloc, sz_drew, size_upd, List.size_toArray, List.length_cons, List.length_nil]) <;> omega))) | refine FrM.alloc ?_ _ | refine FrM.drew ?_))
            have own4 := own_ext (hE4.trans hx5).ext hown
            refine wr_appendT (acc := acc) (base := wS.heap.size) (kd := P.wordKind wd) (tx := wd) (ps := j) own4 (hp_alloc_new (by rw [size_upd, size_alloc])) rfl rfl rfl (by omega) (by have := hx5.size; omega) ?_
            intro v' w6 hown6 hg6 hv6
            have hE6 : Ext wS w6 := ((hE.trans hE4).trans hx5).grow hg6 (fun k hk => (own4.lt k hk).1)
            cases hq2 : P.lexGo f (List.drop wd.length (c :: r)) (j + wd.length) with
            | none => rw [hW, hq2] at hq; cases hq
            | some q2 =>
            rw [hW, hq2] at hq
            refine ⟨s.length - (j + W), by omega, hE6, j + W, acc ++ [⟨P.wordKind wd, wd, j⟩], f, q2, rfl, by omega, by simp; omega, by simp [sOf, h8], by simpa [sOf] using hown6, ?_, ?_⟩
            · rw [← List.drop_drop, hcr, hW]; exact hq2
            · rw [← hfin]
              cases q2 with
              | inl i => simp only [Option.some.injEq] at hq; rw [← hq]; rfl
              | inr l => simp only [Option.some.injEq] at hq; rw [← hq]; simp [lexFin]
        · rw [if_neg hc0] at hq
          have hW0 : W = 0 := by
            rw [hW, List.takeWhile_cons, if_neg (by simpa using hc0)]
            rfl
          simp (disch := first | assumption | omega | ((simp only [size_alloc, sz_drew, size_upd, List.size_toArray, List.length_cons, List.length_nil]) <;> omega) | decide) only [sh_r_lex, Pr, PX, PC, NX, ends, fillL, wrL, sOf, Nat.reduceAdd, Nat.reduceMul, Nat.reduceLeDiff, Nat.reduceEqDiff, Int.reduceToNat, Int.reduceAdd, Int.reduceLT, Int.reduceLE, ↓reduceIte, forall_const, eq_self, zG1, zG2, al_60, bd_60, br_56_1, ch_9, fa_60_0, ix_38, ld_5, ld_60, ld_9, ln_38, ln_9, slh_9, st_60, h8, h26]
          have hcp : (c = 46 ∧ P.endsB r = true) ↔ ((c.toNat : Int) = 46 ∧ (j + 1 = s.length ∨ (j + 1 < s.length ∧ ((s.getD (j + 1) 0).toNat = 32 ∨ (s.getD (j + 1) 0).toNat = 10)))) := by
            have e1 : c = 46 ↔ c.toNat = 46 := by rw [← UInt8.toNat_inj]; rfl
            have hrl : r.length = s.length - (j + 1) := by rw [← hr, List.length_drop]
            rw [e1]
            cases r with
            | nil =>
              have hl1 : s.length = j + 1 := by simp at hrl; omega
              simp [P.endsB, hl1]
              omega
            | cons d r' =>
              have hd : s.getD (j + 1) 0 = d := by rw [show j + 1 = j + 1 + 0 from rfl, ← getD_drop0, hr]; rfl
              rw [hd]
              have e2 : d = 32 ↔ d.toNat = 32 := by rw [← UInt8.toNat_inj]; rfl
              have e3 : d = 10 ↔ d.toNat = 10 := by rw [← UInt8.toNat_inj]; rfl
              simp only [P.endsB, P.blank, Bool.or_eq_true, beq_iff_eq, e2, e3]
              simp at hrl
              omega
          obtain ⟨pt, hpt⟩ : ∃ pt : P.Bs, pt = if c = 46 ∧ P.endsB r = true then [46] else [] := ⟨_, rfl⟩
          refine ⟨fun t4 w4 => w4 = w3 ∧ t4 10 = .string (bs pt), ?_, ?_⟩
          · refine ⟨fun t4 w4 => w4 = w3 ∧ t4 83 = .bool (decide (c = 46 ∧ P.endsB r = true)), ?_, ?_⟩
            · by_cases h46 : (c.toNat : Int) = 46
              · by_cases hje : j + 1 = s.length
                · have hje' : ((j : Int) + 1) = (s.length : Int) := by omega
                  have hyes := hcp.2 ⟨h46, .inl hje⟩
                  simp (disch := first | assumption | omega | ((simp only [size_alloc, sz_drew, size_upd, List.size_toArray, List.length_cons, List.length_nil]) <;> omega) | decide) only [sh_r_lex, Pr, PX, PC, NX, ends, fillL, wrL, sOf, Nat.reduceAdd, Nat.reduceMul, Nat.reduceLeDiff, Nat.reduceEqDiff, Int.reduceToNat, Int.reduceAdd, Int.reduceLT, Int.reduceLE, ↓reduceIte, forall_const, eq_self, zG1, zG2, al_60, bd_60, br_56_1, ch_9, fa_60_0, ix_38, ld_5, ld_60, ld_9, ln_38, ln_9, slh_9, st_60, h26, hcg]
                  simp [sOf, hyes]
                · have hje' : ¬ ((j : Int) + 1) = (s.length : Int) := by omega
                  have htn : ((j : Int) + 1).toNat = j + 1 := by omega
                  simp (disch := first | assumption | omega | ((simp only [size_alloc, sz_drew, size_upd, List.size_toArray, List.length_cons, List.length_nil]) <;> omega) | decide) only [sh_r_lex, Pr, PX, PC, NX, ends, fillL, wrL, sOf, Nat.reduceAdd, Nat.reduceMul, Nat.reduceLeDiff, Nat.reduceEqDiff, Int.reduceToNat, Int.reduceAdd, Int.reduceLT, Int.reduceLE, ↓reduceIte, forall_const, eq_self, zG1, zG2, al_60, bd_60, br_56_1, ch_9, fa_60_0, ix_38, ld_5, ld_60, ld_9, ln_38, ln_9, slh_9, st_60, h26, hcg, htn, bs_dec]
                  generalize hd : (s.getD (j + 1) 0).toNat = d at *
                  by_cases g1 : d = 32
                  · have hyes := hcp.2 ⟨h46, .inr ⟨by omega, .inl g1⟩⟩
                    simp [sOf, hyes, g1]
                  · have g1' : ¬ (d : Int) = 32 := by omega
                    by_cases g2 : d = 10
                    · have hyes := hcp.2 ⟨h46, .inr ⟨by omega, .inr g2⟩⟩
                      simp [sOf, hyes, g2]
                    · have hno : ¬ (c = 46 ∧ P.endsB r = true) := fun h => by
                        rcases (hcp.1 h).2 with h | ⟨_, h | h⟩
                        · exact hje h
                        · exact g1 h
                        · exact g2 h
                      have g2' : ¬ (d : Int) = 10 := by omega
                      rw [decide_eq_false hno]
                      simp [sOf, g1', g2']
              · have hno : ¬ (c = 46 ∧ P.endsB r = true) := fun h => h46 (hcp.1 h).1
                rw [decide_eq_false hno]
                simp (disch := first | assumption | omega | ((simp only [size_alloc, sz_drew, size_upd, List.size_toArray, List.length_cons, List.length_nil]) <;> omega) | decide) only [sh_r_lex, Pr, PX, PC, NX, ends, fillL, wrL, sOf, Nat.reduceAdd, Nat.reduceMul, Nat.reduceLeDiff, Nat.reduceEqDiff, Int.reduceToNat, Int.reduceAdd, Int.reduceLT, Int.reduceLE, ↓reduceIte, forall_const, eq_self, zG1, zG2, al_60, bd_60, br_56_1, ch_9, fa_60_0, ix_38, ld_5, ld_60, ld_9, ln_38, ln_9, slh_9, st_60, h26, hcg]
            · rintro t4 w4 ⟨rfl, h83⟩ d4
              rw [h83]
              by_cases hy : c = 46 ∧ P.endsB r = true
              · rw [bs_pos _ _ hy, hpt, if_pos hy]
                simp [sOf]
              · rw [bs_neg _ _ hy, hpt, if_neg hy]
                simp [sOf]
          · rintro t4 w4 ⟨rfl, h10⟩ d4
            have hsg := (hE1.trans hE).ext
            have g4 := hE.ext _ _ g1
            have lg4 := ltOf g4
            obtain ⟨pr, hpr⟩ : ∃ pr : P.Bs → Bool, pr = fun x => x.isPrefixOf (c :: r) := ⟨_, rfl⟩
            obtain ⟨F, hF⟩ : ∃ F : P.Bs, F = if pt ≠ [] then pt else signK pr 23 := ⟨_, rfl⟩
            refine ⟨fun t5 w5 => w5 = w4 ∧ t5 10 = .string (bs F), ?_, ?_⟩
            · refine ⟨fun n t5 w5 => w5 = w4 ∧ ∃ k, n = 23 - k ∧ k ≤ 23 ∧ t5 11 = .int .i64 k ∧ t5 10 = .string (bs (if pt ≠ [] then pt else signK pr k)), ⟨23, rfl, 0, rfl, Nat.zero_le _, rfl, ?_⟩, ?_⟩
              · by_cases hp : pt = []
                · simp [sOf, h10, hp, signK]
                · simp [sOf, h10, hp]
              · intro n t5 d5 w5 hI
                refine toPr ?_
                obtain ⟨rfl, k, rfl, hk, h11, h10'⟩ := hI
                by_cases hk23 : k < 23
                · by_cases hne : (if pt ≠ [] then pt else signK pr k) = []
                  · rw [hne] at h10'
                    have hp : pt = [] := by
                      by_cases hp : pt = []
                      · exact hp
                      · rw [if_pos hp] at hne; exact hne
                    rw [if_neg (by simp [hp])] at hne
                    have hpe : ([] : P.Bs) = [] := rfl
                    simp (disch := first | assumption | omega | ((simp only [size_alloc, sz_drew, size_upd, List.size_toArray, List.length_cons, List.length_nil]) <;> omega) | decide) only [sh_r_lex, Pr, PX, PC, NX, ends, fillL, wrL, sOf, Nat.reduceAdd, Nat.reduceMul, Nat.reduceLeDiff, Nat.reduceEqDiff, Int.reduceToNat, Int.reduceAdd, Int.reduceLT, Int.reduceLE, ↓reduceIte, forall_const, eq_self, zG1, zG2, al_60, bd_60, br_56_1, ch_9, fa_60_0, ix_38, ld_5, ld_60, ld_9, ln_38, ln_9, slh_9, st_60, h11, h10']
                    obtain ⟨x, hx⟩ : ∃ x, x = P.signs.getD k [] := ⟨_, rfl⟩
                    have hxm : x ∈ P.signs := by
                      rw [hx, List.getD_eq_getElem?_getD, List.getElem?_eq_getElem (show k < P.signs.length from hk23)]
                      exact List.getElem_mem _
                    obtain ⟨hxn, hxl⟩ := signs_ne hxm
                    have hld : (P.signs.map fun s => Value.string (bs s)).toArray[k]? = some (.string (bs x)) := by
                      rw [List.getElem?_toArray, List.getElem?_map, hx, List.getD_eq_getElem?_getD, List.getElem?_eq_getElem (show k < P.signs.length from hk23)]
                      rfl
                    have hkn : ((k : Nat) : Int).toNat = k := by omega
                    refine ⟨fun t6 w6 => w6 = w5 ∧ t6 10 = .string (bs (signK pr (k + 1))), ?_, ?_⟩
                    · simp (disch := first | assumption | omega | ((simp only [size_alloc, sz_drew, size_upd, List.size_toArray, List.length_cons, List.length_nil]) <;> omega) | decide) only [sh_r_lex, Pr, PX, PC, NX, ends, fillL, wrL, sOf, Nat.reduceAdd, Nat.reduceMul, Nat.reduceLeDiff, Nat.reduceEqDiff, Int.reduceToNat, Int.reduceAdd, Int.reduceLT, Int.reduceLE, ↓reduceIte, forall_const, eq_self, zG1, zG2, al_60, bd_60, br_56_1, ch_9, fa_60_0, ix_38, ld_5, ld_60, ld_9, ln_38, ln_9, slh_9, st_60, h11, g4, hld, hkn]
                      have hpx := isPrefix_iff x s j
                      refine ⟨fun t7 w7 => w7 = w5 ∧ t7 115 = .bool (decide (x.isPrefixOf (s.drop j) = true)), ?_, ?_⟩
                      · by_cases hjl : j + x.length ≤ s.length
                        · have hjl' : (j : Int) + (x.length : Int) ≤ (s.length : Int) := by omega
                          have hjt : ((j : Int) + (x.length : Int)).toNat = j + x.length := by omega
                          have hjt2 : ((j : Nat) : Int).toNat = j := by omega
                          simp (disch := first | assumption | omega | ((simp only [size_alloc, sz_drew, size_upd, List.size_toArray, List.length_cons, List.length_nil]) <;> omega) | decide) only [sh_r_lex, Pr, PX, PC, NX, ends, fillL, wrL, sOf, Nat.reduceAdd, Nat.reduceMul, Nat.reduceLeDiff, Nat.reduceEqDiff, Int.reduceToNat, Int.reduceAdd, Int.reduceLT, Int.reduceLE, ↓reduceIte, forall_const, eq_self, zG1, zG2, al_60, bd_60, br_56_1, ch_9, fa_60_0, ix_38, ld_5, ld_60, ld_9, ln_38, ln_9, slh_9, st_60, h26, hjt, hjt2]
                          simp only [sOf, hpx]
                          simp [hjl]
                        · have hjl' : ¬ (j : Int) + (x.length : Int) ≤ (s.length : Int) := by omega
                          simp (disch := first | assumption | omega | ((simp only [size_alloc, sz_drew, size_upd, List.size_toArray, List.length_cons, List.length_nil]) <;> omega) | decide) only [sh_r_lex, Pr, PX, PC, NX, ends, fillL, wrL, sOf, Nat.reduceAdd, Nat.reduceMul, Nat.reduceLeDiff, Nat.reduceEqDiff, Int.reduceToNat, Int.reduceAdd, Int.reduceLT, Int.reduceLE, ↓reduceIte, forall_const, eq_self, zG1, zG2, al_60, bd_60, br_56_1, ch_9, fa_60_0, ix_38, ld_5, ld_60, ld_9, ln_38, ln_9, slh_9, st_60, h26]
                          simp only [sOf, hpx]
                          simp [hjl, hxn]
                      · rintro t7 w7 ⟨rfl, h115⟩ d7
                        rw [h115]
                        have hpe2 : pr (P.signs.getD k []) = x.isPrefixOf (s.drop j) := by rw [hpr, ← hx, hcr]
                        rw [signK_succ hk23 hne, hpe2]
                        by_cases hpp : x.isPrefixOf (s.drop j) = true
                        · rw [bs_pos _ _ hpp, if_pos hpp, ← hx]
                          simp [sOf]
                        · rw [bs_neg _ _ hpp, if_neg hpp]
                          simp [sOf, h10']
                    · rintro t6 w6 ⟨rfl, h10''⟩ d6
                      simp (disch := first | assumption | omega | ((simp only [size_alloc, sz_drew, size_upd, List.size_toArray, List.length_cons, List.length_nil]) <;> omega) | decide) only [sh_r_lex, Pr, PX, PC, NX, ends, fillL, wrL, sOf, Nat.reduceAdd, Nat.reduceMul, Nat.reduceLeDiff, Nat.reduceEqDiff, Int.reduceToNat, Int.reduceAdd, Int.reduceLT, Int.reduceLE, ↓reduceIte, forall_const, eq_self, zG1, zG2, al_60, bd_60, br_56_1, ch_9, fa_60_0, ix_38, ld_5, ld_60, ld_9, ln_38, ln_9, slh_9, st_60, h11, h10'']
                      refine ⟨23 - (k + 1), by omega, k + 1, rfl, by omega, by simp, ?_⟩
                      simp [hp]
                  · have hFk : F = if pt ≠ [] then pt else signK pr k := by
                      rw [hF]
                      by_cases hp : pt = []
                      · rw [if_neg (by simp [hp])] at hne ⊢
                        rw [if_neg (by simp [hp])]
                        exact signK_ne hne
                      · rw [if_pos hp, if_pos hp]
                    rw [← hFk] at hne h10'
                    simp (disch := first | assumption | omega | ((simp only [size_alloc, sz_drew, size_upd, List.size_toArray, List.length_cons, List.length_nil]) <;> omega) | decide) only [sh_r_lex, Pr, PX, PC, NX, ends, fillL, wrL, sOf, Nat.reduceAdd, Nat.reduceMul, Nat.reduceLeDiff, Nat.reduceEqDiff, Int.reduceToNat, Int.reduceAdd, Int.reduceLT, Int.reduceLE, ↓reduceIte, forall_const, eq_self, zG1, zG2, al_60, bd_60, br_56_1, ch_9, fa_60_0, ix_38, ld_5, ld_60, ld_9, ln_38, ln_9, slh_9, st_60, h11, h10']
                · have : k = 23 := by omega
                  subst this
                  rw [← hF] at h10'
                  simp (disch := first | assumption | omega | ((simp only [size_alloc, sz_drew, size_upd, List.size_toArray, List.length_cons, List.length_nil]) <;> omega) | decide) only [sh_r_lex, Pr, PX, PC, NX, ends, fillL, wrL, sOf, Nat.reduceAdd, Nat.reduceMul, Nat.reduceLeDiff, Nat.reduceEqDiff, Int.reduceToNat, Int.reduceAdd, Int.reduceLT, Int.reduceLE, ↓reduceIte, forall_const, eq_self, zG1, zG2, al_60, bd_60, br_56_1, ch_9, fa_60_0, ix_38, ld_5, ld_60, ld_9, ln_38, ln_9, slh_9, st_60, h11, h10']
            · rintro t5 w5 ⟨rfl, h10'⟩ d5
              by_cases hFe : F = []
              · have hpe : pt = [] := by
                  by_cases hp : pt = []
                  · exact hp
                  · rw [hF, if_pos hp] at hFe; exact hFe
                have hno : ¬ (c = 46 ∧ P.endsB r = true) := fun h => by rw [hpt, if_pos h] at hpe; cases hpe
                have hnf : P.signs.find? (fun s => s.isPrefixOf (c :: r)) = none := by
                  rw [hF, if_neg (by simp [hpe]), signK_all, hpr] at hFe
                  cases hf : P.signs.find? (fun s => s.isPrefixOf (c :: r)) with
                  | none => rfl
                  | some x =>
                    rw [hf] at hFe
                    exact absurd hFe (signs_ne (List.mem_of_find?_eq_some hf)).1
                rw [if_neg hno, hnf] at hq
                have hq' := (Option.some.inj hq).symm
                subst hq'
                simp only [lexFin] at hfin
                subst hFe
                have hee : ([] : P.Bs) = [] := rfl
                simp (disch := first | assumption | omega | ((simp only [size_alloc, sz_drew, size_upd, List.size_toArray, List.length_cons, List.length_nil]) <;> omega) | decide) only [sh_r_lex, Pr, PX, PC, NX, ends, fillL, wrL, sOf, Nat.reduceAdd, Nat.reduceMul, Nat.reduceLeDiff, Nat.reduceEqDiff, Int.reduceToNat, Int.reduceAdd, Int.reduceLT, Int.reduceLE, ↓reduceIte, forall_const, eq_self, zG1, zG2, al_60, bd_60, br_56_1, ch_9, fa_60_0, ix_38, ld_5, ld_60, ld_9, ln_38, ln_9, slh_9, st_60, h10', h26]
                rw [← hfin]
                exact ⟨hE1.trans hE, rfl⟩
              · have hFm : (F = [46] ∨ F ∈ P.signs) ∧ F.length ≤ 3 ∧ 0 < F.length ∧ F.length ≤ (c :: r).length ∧ ∃ q2, P.lexGo f ((c :: r).drop F.length) (j + F.length) = some q2 ∧ q = (match q2 with | .inl i => .inl i | .inr l => .inr (⟨4, F, j⟩ :: l)) := by
                  by_cases hy : c = 46 ∧ P.endsB r = true
                  · have hF46 : F = [46] := by rw [hF, hpt, if_pos hy]; rfl
                    rw [if_pos hy] at hq
                    rw [hF46]
                    refine ⟨.inl rfl, by decide, by decide, by simp, ?_⟩
                    show ∃ q2, P.lexGo f r (j + 1) = some q2 ∧ _
                    cases hq2 : P.lexGo f r (j + 1) with
                    | none => rw [hq2] at hq; cases hq
                    | some q2 =>
                      rw [hq2] at hq
                      refine ⟨q2, rfl, ?_⟩
                      cases q2 <;> exact (Option.some.inj hq).symm
                  · have hpe : pt = [] := by rw [hpt, if_neg hy]
                    rw [if_neg hy] at hq
                    have hFs : F = (P.signs.find? (fun s => s.isPrefixOf (c :: r))).getD [] := by rw [hF, if_neg (by simp [hpe]), signK_all, hpr]
                    cases hf : P.signs.find? (fun s => s.isPrefixOf (c :: r)) with
                    | none => rw [hf] at hFs; exact absurd hFs hFe
                    | some x =>
                      rw [hf] at hFs hq
                      have hFx : F = x := hFs
                      subst hFx
                      have hm := List.mem_of_find?_eq_some hf
                      have hpx := List.find?_some hf
                      have hle := (List.isPrefixOf_iff_prefix.1 hpx).length_le
                      refine ⟨.inr hm, (signs_ne hm).2, by have := (signs_ne hm).1; exact List.length_pos_iff.2 this, hle, ?_⟩
                      dsimp only at hq
                      cases hq2 : P.lexGo f ((c :: r).drop F.length) (j + F.length) with
                      | none => rw [hq2] at hq; cases hq
                      | some q2 =>
                        rw [hq2] at hq
                        refine ⟨q2, rfl, ?_⟩
                        cases q2 <;> exact (Option.some.inj hq).symm
                obtain ⟨-, hF3, hF0, hFl, q2, hq2, hqq⟩ := hFm
                rw [hlen] at hFl
                have s5 := hE.size
                simp (disch := first | assumption | omega | ((simp only [size_alloc, sz_drew, size_upd, List.size_toArray, List.length_cons, List.length_nil]) <;> omega) | decide) only [sh_r_lex, Pr, PX, PC, NX, ends, fillL, wrL, sOf, Nat.reduceAdd, Nat.reduceMul, Nat.reduceLeDiff, Nat.reduceEqDiff, Int.reduceToNat, Int.reduceAdd, Int.reduceLT, Int.reduceLE, ↓reduceIte, forall_const, eq_self, zG1, zG2, al_60, bd_60, br_56_1, ch_9, fa_60_0, ix_38, ld_5, ld_60, ld_9, ln_38, ln_9, slh_9, st_60, h10', h26]
                have hx5 : Ext w5 (w5.alloc (.cells #[.int .u8 115, .string (bs F), .int .i64 j] 60)) := by (repeat (first | assumption | exact FrM.refl _ _ | (refine FrM.upd ?_ (.inr (by (try simp only [size_alloc, sz_drew, size_upd, List.size_toArray, List.length_cons, List.length_nil]) <;> omega))) | refine FrM.alloc ?_ _ | refine FrM.drew ?_))
                have own4 := own_ext hx5.ext hown
                refine wr_appendT (acc := acc) (base := wS.heap.size) (kd := 4) (tx := F) (ps := j) own4 (hp_alloc_new rfl) rfl rfl rfl (by omega) (by rw [size_alloc]; omega) ?_
                intro v' w6 hown6 hg6 hv6
                have hE6 : Ext wS w6 := (hE.trans hx5).grow hg6 (fun k hk => (own4.lt k hk).1)
                simp (disch := first | assumption | omega | ((simp only [size_alloc, sz_drew, size_upd, List.size_toArray, List.length_cons, List.length_nil]) <;> omega) | decide) only [sh_r_lex, Pr, PX, PC, NX, ends, fillL, wrL, sOf, Nat.reduceAdd, Nat.reduceMul, Nat.reduceLeDiff, Nat.reduceEqDiff, Int.reduceToNat, Int.reduceAdd, Int.reduceLT, Int.reduceLE, ↓reduceIte, forall_const, eq_self, zG1, zG2, al_60, bd_60, br_56_1, ch_9, fa_60_0, ix_38, ld_5, ld_60, ld_9, ln_38, ln_9, slh_9, st_60, h10', h26]
                refine ⟨s.length - (j + F.length), by omega, hE6, j + F.length, acc ++ [⟨4, F, j⟩], f, q2, rfl, by omega, by simp; omega, by simp, by simpa using hown6, ?_, ?_⟩
                · rw [← List.drop_drop, hcr]; exact hq2
                · rw [← hfin, hqq]
                  cases q2 with
                  | inl i => rfl
                  | inr l => simp [lexFin]
  · have hj2 : j = s.length := by omega
    subst hj2
    have hdn : List.drop s.length s = [] := List.drop_length
    cases f with
    | zero => rw [P.lexGo] at hq; cases hq
    | succ f =>
    rw [hdn, P.lexGo] at hq
    have hq' := (Option.some.inj hq).symm
    subst hq'
    simp only [lexFin] at hfin
    simp (disch := first | assumption | omega | ((simp only [size_alloc, sz_drew, size_upd, List.size_toArray, List.length_cons, List.length_nil]) <;> omega) | decide) only [sh_r_lex, Pr, PX, PC, NX, ends, fillL, wrL, sOf, Nat.reduceAdd, Nat.reduceMul, Nat.reduceLeDiff, Nat.reduceEqDiff, Int.reduceToNat, Int.reduceAdd, Int.reduceLT, Int.reduceLE, ↓reduceIte, forall_const, eq_self, zG1, zG2, al_60, bd_60, br_56_1, ch_9, fa_60_0, ix_38, ld_5, ld_60, ld_9, ln_38, ln_9, slh_9, st_60, h6]
    have hx5 : Ext w1 (w1.alloc (.cells #[.int .u8 101, .string (bs []), .int .i64 (s.length)] 60)) := by (repeat (first | assumption | exact FrM.refl _ _ | (refine FrM.upd ?_ (.inr (by (try simp only [size_alloc, sz_drew, size_upd, List.size_toArray, List.length_cons, List.length_nil]) <;> omega))) | refine FrM.alloc ?_ _ | refine FrM.drew ?_))
    have own4 := own_ext hx5.ext hown
    refine wr_appendT (acc := acc) (base := wS.heap.size) (kd := 0) (tx := []) (ps := s.length) own4 (hp_alloc_new rfl) rfl rfl rfl (by omega) (by rw [size_alloc]; omega) ?_
    intro v' w6 hown6 hg6 hv6
    rw [← hfin]
    exact ⟨hE1.trans ((hE.trans hx5).grow hg6 (fun k hk => (own4.lt k hk).1)), v', rfl, own_base hown6 (by omega)⟩
end Go.Proofs.YtkmpelgfhjgddaaGreatDoor
namespace Go.Proofs.YtkmpelgfhjgddaaGreatDoor.P
theorem tk_lt {T : List Tok} {k : Nat} (h : (tk T k).kind ≠ 0) : k < T.length := by
  rcases Nat.lt_or_ge k T.length with h1 | h1
  · exact h1
  · exact absurd (by simp [tk, List.getD_eq_getElem?_getD, List.getElem?_eq_none h1]) h
theorem isT_lt {T : List Tok} {k : Nat} {s : Bs} (h : isT T k s = true) : k < T.length := by
  refine tk_lt fun h0 => ?_
  simp [isT, h0] at h
theorem bind_some {α β : Type} {r : Option (Res α)} {g : α → Nat → List Bs → Option (Res β)} (h : ∃ q, r = some q) (hg : ∀ a k v, r = some (.ok a k v) → ∃ q, g a k v = some q) : ∃ q, Res.bind r g = some q := by
  obtain ⟨q, rfl⟩ := h
  cases q with
  | err e a => exact ⟨_, rfl⟩
  | ok a k v => exact hg a k v rfl
theorem musT_some {α : Type} (T : List Tok) (s : Bs) (x : α) (k : Nat) (v : List Bs) : ∃ q, musT T s x k v = some q := by
  unfold musT; split <;> exact ⟨_, rfl⟩
theorem prim_lt {T : List Tok} {f k : Nat} {v v' : List Bs} {d k' : Nat} {x : Ex} (h : pPrim T f k v d = some (.ok x k' v')) : k < T.length := by
  cases f with
  | zero => simp [pPrim] at h
  | succ f =>
    refine tk_lt fun h0 => ?_
    have hi : ∀ s, isT T k s = false := fun s => by simp [isT, h0]
    rw [pPrim] at h
    simp only [h0, hi] at h
    split at h <;> simp at h
theorem oper_lt {T : List Tok} : ∀ {f l k : Nat} {v v' : List Bs} {d k' : Nat} {x : Ex}, pOper T f l k v d = some (.ok x k' v') → k < T.length
  | 0, _, _, _, _, _, _, _, h => by simp [pOper] at h
  | f + 1, l, k, v, v', d, k', x, h => by
    rw [pOper] at h
    split at h
    · exact prim_lt h
    · obtain ⟨a, k1, v1, h1, _⟩ := bind_ok h
      exact oper_lt h1
theorem opAt_lt {T : List Tok} {l k : Nat} {o : Bs} (h : opAt T l k = some o) : k < T.length := isT_lt (List.find?_some h)
structure Tot (T : List Tok) (f : Nat) : Prop where
  prim : ∀ k v d, 16 * (T.length - k) + 1 ≤ f → ∃ r, pPrim T f k v d = some r
  args : ∀ k v d a acc, 16 * (T.length - k) + 5 ≤ f → ∃ r, pArgs T f k v d a acc = some r
  list : ∀ k v d, 16 * (T.length - k) + 6 ≤ f → ∃ r, pList T f k v d = some r
  elems : ∀ k v d acc, 16 * (T.length - k) + 5 ≤ f → ∃ r, pElems T f k v d acc = some r
  oper : ∀ l k v d, l ≤ 2 → 16 * (T.length - k) + (4 - l) ≤ f → ∃ r, pOper T f l k v d = some r
  more : ∀ l y k v d, l ≤ 1 → 16 * (T.length - k) + 1 ≤ f → ∃ r, pMore T f l y k v d = some r
theorem tot (T : List Tok) : ∀ f, Tot T f
  | 0 => ⟨fun _ _ _ h => by omega, fun _ _ _ _ _ h => by omega, fun _ _ _ h => by omega, fun _ _ _ _ h => by omega, fun _ _ _ _ _ h => by omega, fun _ _ _ _ _ _ h => by omega⟩
  | f + 1 => by
    have ih := tot T f
    have mo := mono T f
    refine ⟨?_, ?_, ?_, ?_, ?_, ?_⟩
    · intro k v d hf
      rw [pPrim]
      split
      · exact ⟨_, rfl⟩
      split
      · exact ⟨_, rfl⟩
      split
      · exact ⟨_, rfl⟩
      split
      · split
        · rename_i h
          have := isT_lt h
          exact bind_some (ih.args _ _ _ _ _ (by omega)) fun _ _ _ _ => musT_some _ _ _ _ _
        · exact ⟨_, rfl⟩
      split
      · split <;> exact ⟨_, rfl⟩
      split
      · rename_i h
        have := isT_lt h
        exact bind_some (ih.oper 0 _ _ _ (by omega) (by omega)) fun _ _ _ _ => musT_some _ _ _ _ _
      split
      · rename_i h
        have := isT_lt h
        exact ih.list _ _ _ (by omega)
      · exact ⟨_, rfl⟩
    · intro k v d a acc hf
      rw [pArgs]
      refine bind_some (ih.oper 0 _ _ _ (by omega) (by omega)) fun x k' v' h => ?_
      have h1 := oper_lt h
      have h2 := mo.oper _ _ _ _ _ _ _ h
      split
      · exact ih.args _ _ _ _ _ (by omega)
      · split <;> exact ⟨_, rfl⟩
    · intro k v d hf
      rw [pList]
      split
      · exact ⟨_, rfl⟩
      · refine bind_some (ih.elems _ _ _ _ (by omega)) fun x k' v' h => ?_
        have h2 := mo.elems _ _ _ _ _ _ _ h
        split
        · rename_i hb
          have := isT_lt hb
          exact bind_some (ih.oper 0 _ _ _ (by omega) (by omega)) fun _ _ _ _ => musT_some _ _ _ _ _
        · exact musT_some _ _ _ _ _
    · intro k v d acc hf
      rw [pElems]
      refine bind_some (ih.oper 0 _ _ _ (by omega) (by omega)) fun x k' v' h => ?_
      have h1 := oper_lt h
      have h2 := mo.oper _ _ _ _ _ _ _ h
      split
      · exact ih.elems _ _ _ _ (by omega)
      · exact ⟨_, rfl⟩
    · intro l k v d hl hf
      rw [pOper]
      split
      · exact ih.prim _ _ _ (by omega)
      · refine bind_some (ih.oper _ _ _ _ (by omega) (by omega)) fun x k' v' h => ?_
        have h1 := oper_lt h
        have h2 := mo.oper _ _ _ _ _ _ _ h
        exact ih.more _ _ _ _ _ (by omega) (by omega)
    · intro l y k v d hl hf
      rw [pMore]
      split
      · exact ⟨_, rfl⟩
      · rename_i o ho
        have h0 := opAt_lt ho
        refine bind_some (ih.oper _ _ _ _ (by omega) (by omega)) fun x k' v' h => ?_
        have h2 := mo.oper _ _ _ _ _ _ _ h
        exact ih.more _ _ _ _ _ hl (by omega)
structure TotB (T : List Tok) (f : Nat) : Prop where
  lit : ∀ k v d, 16 * (T.length - k) + 5 ≤ f → ∃ r, pLit T f k v d = some r
  lits : ∀ k v d acc, 16 * (T.length - k) + 6 ≤ f → ∃ r, pLits T f k v d acc = some r
  row : ∀ k v d, 16 * (T.length - k) + 7 ≤ f → ∃ r, pRow T f k v d = some r
  rest : ∀ k v d, 16 * (T.length - k) + 9 ≤ f → ∃ r, pRest T f k v d = some r
  body : ∀ k v d, 16 * (T.length - k) + 8 ≤ f → ∃ r, pBody T f k v d = some r
def fuelFor (T : List Tok) : Nat := 16 * T.length + 20
def pProgG (T : List Tok) : Nat → Nat → List Cl → Option (Res (List Cl))
  | 0, _, _ => none
  | f + 1, k, acc =>
    if (tk T k).kind = 0 then some (.ok acc k [])
    else if acc.length = 40 then some (.err 4 (tk T k).pos)
    else Res.bind (pClause T (fuelFor T) k) fun c k' _ => pProgG T f k' (acc ++ [c])
def progT (T : List Tok) : Res (List Cl) := (pProgG T (T.length + 1) 0 []).getD (.err 0 0)
end Go.Proofs.YtkmpelgfhjgddaaGreatDoor.P
