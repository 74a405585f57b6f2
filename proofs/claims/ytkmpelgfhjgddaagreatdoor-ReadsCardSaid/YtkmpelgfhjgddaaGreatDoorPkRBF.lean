/- A part of one proof (SX2, SCon2, SBody, PureN, SX3, SX4); no conditions beyond what each theorem names. -/
import Derived.Test.YtkmpelgfhjgddaaGreatDoorPkRBE
set_option linter.all false
set_option linter.unusedVariables false
set_option linter.unusedSimpArgs false
namespace Go.Proofs.YtkmpelgfhjgddaaGreatDoor
open Go.RowKit Sx
set_option maxRecDepth 100000
def scells : List P.Tok → List Value
  | [] => []
  | t :: l => .int .i64 t.kind :: .string (bs t.text) :: .int .i64 t.pos :: scells l
theorem scells_snoc : ∀ (l : List P.Tok) (t : P.Tok), scells (l ++ [t]) = scells l ++ [.int .i64 t.kind, .string (bs t.text), .int .i64 t.pos]
  | [], t => rfl
  | u :: l, t => by
    show _ :: _ :: _ :: scells (l ++ [t]) = _
    rw [scells_snoc l t]
    rfl
theorem scells_at : ∀ (l : List P.Tok) (j : Nat), j < l.length → (scells l)[j * 3]? = some (.int .i64 (P.tk l j).kind) ∧ (scells l)[j * 3 + 1]? = some (.string (bs (P.tk l j).text)) ∧ (scells l)[j * 3 + 2]? = some (.int .i64 (P.tk l j).pos)
  | [], j, h => absurd h (Nat.not_lt_zero _)
  | u :: l, 0, _ => ⟨rfl, rfl, rfl⟩
  | u :: l, j + 1, h => by
    have := scells_at l j (by simpa using h)
    have e : (j + 1) * 3 = j * 3 + 3 := by omega
    rw [e]
    exact this
theorem Tryz.infoSTok : (Tryz.prog.info? 139).map (fun i => (i.zero, i.size, i.bytes)) = some (some (.agg #[.int .i64 0, .string (bs []), .int .i64 0]), 3, 32) := by kernel_rfl
theorem wr_appendST {w : World} {base : Nat} {v : Value} {acc : List P.Tok} (hown : w.ownsRow base 139 3 v acc.length (scells acc)) {b m : Nat} {kd : Nat} {tx : P.Bs} {ps : Nat} {kv tv pv : Value}
    (hb : w.heap[b]? = some (.cells #[kv, tv, pv] 139 (0, 0))) (hk : kv = .int .i64 kd) (ht : tv = .string (bs tx)) (hp : pv = .int .i64 ps)
    (hn : acc.length ≤ 100000) (hbase : base ≤ w.heap.size) {K : Value → World → Prop} {X : Value → World → Prop}
    (h : ∀ v' w', w'.ownsRow base 139 3 v' (acc ++ ([⟨kd, tx, ps⟩] : List P.Tok)).length (scells (acc ++ ([⟨kd, tx, ps⟩] : List P.Tok))) → w.grownBy w' v.ownBlock → (v'.ownBlock = v.ownBlock ∨ ∀ k, v'.ownBlock = some k → w.heap.size ≤ k) → K v' w') :
    WR Tryz.prog (Builtin.append_ #[140, 140] 140 #[v, .slice (some ⟨b, 0, none⟩) 1 m]) w K X := by
  subst hk ht hp
  obtain ⟨i, hi, h0⟩ := Option.map_eq_some_iff.1 Tryz.infoSTok
  simp only [Prod.mk.injEq] at h0
  obtain ⟨hz, hs, hbt⟩ := h0
  refine wr_append (m := 1) (t := 140) (e := 139) (by kernel_rfl) hi hz hs hbt rfl (by decide) hown hb rfl (fun u hu => ?_) (by omega) (by decide) hbase ?_
  · simp only [List.mem_cons, List.not_mem_nil, or_false] at hu
    rcases hu with rfl | rfl | rfl <;> rfl
  · intro v' w' h1 h2 h3
    refine h v' w' ?_ h2 h3
    rw [scells_snoc, List.length_append]
    exact h1
def STabS (w : World) : Prop := ∃ cs T z, w.heap[1]? = some (.cells cs T z) ∧ 23 ≤ cs.size ∧ cs.toList.take 23 = P.signs.map fun s => .string (bs s)
theorem STabS.ext {w w' : World} (h : STabS w) (hE : Ext w w') : STabS w' := by
  obtain ⟨cs, T, z, h1, h2⟩ := h
  exact ⟨cs, T, z, hE.ext _ _ h1, h2⟩
def SPostL (w : World) (s : P.Bs) (e : Ending) (w' : World) : Prop :=
  Ext w w' ∧ if 2000 < s.length then faulted 1 0 w w' e else match P.lex s with
  | .inl i => faulted 2 i w w' e
  | .inr T => ∃ v, e = .returned v ∧ w'.ownsRow w.heap.size 139 3 v T.length (scells T)
theorem faulted_back {c a : Int} {w w1 w2 : World} {e : Ending} (h : faulted c a w1 w2 e) (hw : w.heap.size ≤ w1.heap.size) : faulted c a w w2 e := by
  obtain ⟨b, h1, h2, h3⟩ := h
  exact ⟨b, h1, h2, by omega⟩
theorem sFail0F (c a : Int) (w : World) : Calls Tryz.prog 50 #[.int .i64 c, .int .i64 a] w fun e w' => faulted c a w w' e ∧ Ext w w' := by
  refine (sFail0 c a w).mono ?_
  rintro e w' ⟨rfl, rfl⟩
  exact ⟨⟨_, rfl, hp_alloc_new rfl, Nat.le_refl _⟩, (FrM.refl _ _).alloc _⟩
set_option maxHeartbeats 1000000 in
theorem sLex (s : P.Bs) (w : World) (hl : s.length ≤ 100000) (hT : STabS w) : Calls Tryz.prog 77 #[.string (bs s)] w (SPostL w s) := by
  refine sh_s_lex_ok ?_
  refine ⟨fun _ w' => w' = w ∧ s.length ≤ 2000, ?_, ?_⟩
  · by_cases h2 : 2000 < s.length
    · simp (disch := first | assumption | omega | ((simp only [size_alloc, sz_drew, size_upd, List.size_toArray, List.length_cons, List.length_nil]) <;> omega) | decide) only [sh_s_lex, Pr, PX, PC, NX, ends, fillL, wrL, sOf, Nat.reduceAdd, Nat.reduceMul, Nat.reduceLeDiff, Nat.reduceEqDiff, Int.reduceToNat, Int.reduceAdd, Int.reduceLT, Int.reduceLE, ↓reduceIte, forall_const, eq_self, zG1, zG2, bd_139, br_140_1, ch_9, ld_206, ln_9, sl_9, slh_9, xa_206]
      refine (sFail0F _ _ _).mono ?_
      rintro e w1 ⟨hf, hE⟩
      obtain ⟨b, rfl, h1, h3⟩ := hf
      simp (disch := first | assumption | omega | ((simp only [size_alloc, sz_drew, size_upd, List.size_toArray, List.length_cons, List.length_nil]) <;> omega) | decide) only [sh_s_lex, Pr, PX, PC, NX, ends, fillL, wrL, sOf, Nat.reduceAdd, Nat.reduceMul, Nat.reduceLeDiff, Nat.reduceEqDiff, Int.reduceToNat, Int.reduceAdd, Int.reduceLT, Int.reduceLE, ↓reduceIte, forall_const, eq_self, zG1, zG2, bd_139, br_140_1, ch_9, ld_206, ln_9, sl_9, slh_9, xa_206]
      refine ⟨hE, ?_⟩
      rw [if_pos h2]
      exact ⟨b, rfl, h1, h3⟩
    · simp (disch := first | assumption | omega | ((simp only [size_alloc, sz_drew, size_upd, List.size_toArray, List.length_cons, List.length_nil]) <;> omega) | decide) only [sh_s_lex, Pr, PX, PC, NX, ends, fillL, wrL, sOf, Nat.reduceAdd, Nat.reduceMul, Nat.reduceLeDiff, Nat.reduceEqDiff, Int.reduceToNat, Int.reduceAdd, Int.reduceLT, Int.reduceLE, ↓reduceIte, forall_const, eq_self, zG1, zG2, bd_139, br_140_1, ch_9, ld_206, ln_9, sl_9, slh_9, xa_206]
      omega
  · rintro _ w1 ⟨rfl, hl2⟩ _
    refine ⟨fun n t w2 => Ext w1 w2 ∧ ∃ j acc f q, n = s.length - j ∧ j ≤ s.length ∧ acc.length ≤ j ∧ t 3 = .int .i64 j ∧ w2.ownsRow w1.heap.size 139 3 (t 2) acc.length (scells acc) ∧
      P.lexGo f (s.drop j) j = some q ∧ lexFin acc q = P.lex s, ⟨s.length, FrM.refl _ _, 0, [], _, _, rfl, Nat.zero_le _, Nat.le_refl _, rfl, World.ownsRow_nil _ _ _ _, P.lex_eq s, ?_⟩, ?_⟩
    · cases P.lex s <;> rfl
    intro n t dd w2 hI
    refine toPr ?_
    obtain ⟨hE, j, acc, f, q, rfl, hj, haj, h3, hown, hq, hfin⟩ := hI
    have hs1 := hE.size
    by_cases hlt : j < s.length
    · obtain ⟨c, r, hcr⟩ : ∃ c r, s.drop j = c :: r := ⟨s[j], s.drop (j + 1), List.drop_eq_getElem_cons hlt⟩
      have hcg : s.getD j 0 = c := by
        rw [List.drop_eq_getElem_cons hlt] at hcr
        injection hcr with h _
        rw [List.getD_eq_getElem?_getD, List.getElem?_eq_getElem hlt, ← h]; rfl
      have hr : s.drop (j + 1) = r := by
        rw [List.drop_eq_getElem_cons hlt] at hcr
        injection hcr
      have hc256 := c.toNat_lt
      cases f with
      | zero => rw [P.lexGo] at hq; cases hq
      | succ f =>
      rw [hcr, P.lexGo] at hq
      have hbl : (P.blank c = true) ↔ ((c.toNat : Int) = 32 ∨ (c.toNat : Int) = 10) := by
        have e1 : c = 32 ↔ c.toNat = 32 := by rw [← UInt8.toNat_inj]; rfl
        have e2 : c = 10 ↔ c.toNat = 10 := by rw [← UInt8.toNat_inj]; rfl
        simp only [P.blank, Bool.or_eq_true, beq_iff_eq, e1, e2]
        omega
      simp (disch := first | assumption | omega | ((simp only [size_alloc, sz_drew, size_upd, List.size_toArray, List.length_cons, List.length_nil]) <;> omega) | decide) only [sh_s_lex, Pr, PX, PC, NX, ends, fillL, wrL, sOf, Nat.reduceAdd, Nat.reduceMul, Nat.reduceLeDiff, Nat.reduceEqDiff, Int.reduceToNat, Int.reduceAdd, Int.reduceLT, Int.reduceLE, ↓reduceIte, forall_const, eq_self, jn_e, nc_ptr, nc_iface, nc_func, bs_true, bs_false, bs_pos, bs_neg, bo_add, bo_sub, bo_mul, bo_lss, bo_leq, bo_gtr, bo_geq, bo_eql, bo_neq, bo_eqs, bo_nes, un_not, un_neg, rd_extract0, rd_extract1, rd_extract2, rd_panic_iface, wr_func, wr_box, ldK_e, ldV_some, xaK_some, ldN_e, stK_e, blK_some, brK_some, hp_alloc_old, hp_alloc_new, hp_upd_same, hp_upd_other, hp_drew, sz_drew, size_upd, size_alloc, upd_upd, cells_agg, cells_aggA, cells_stringA, cells_intA, cells_sliceA, cells_pointerA, cells_int, cells_bool, cells_string, cells_slice, cells_pointer, cells_iface, cells_nilIface, cells_func, cells_map, one_int, one_bool, one_string, one_slice, one_pointer, one_iface, one_nilIface, one_func, one_map, i64w, u8w, df_func, lv_ret, lv_panic, Int.toNat_natCast, Option.isNone_none, Option.isNone_some, List.getElem?_toArray, List.getElem?_cons_zero, List.getElem?_cons_succ, List.setIfInBounds_toArray, List.set_cons_zero, List.set_cons_succ, List.size_toArray, List.length_cons, List.length_nil, List.drop_zero, List.drop_succ_cons, List.take_succ_cons, List.take_zero, List.take_nil, List.drop_nil, List.all_cons, List.all_nil, Bool.and_true, Bool.true_and, Nat.zero_add, Nat.add_zero, Nat.mul_one, and_self, and_true, true_and, decide_true, decide_false, Bool.not_true, Bool.not_false, not_true_eq_false, not_false_eq_true, bd_139, br_140_1, ch_9, ld_206, ln_9, sl_9, slh_9, xa_206, h3, hcg]
      refine ⟨fun t2 w3 => w3 = w2 ∧ t2 3 = .int .i64 j ∧ P.blank c = false, ?_, ?_⟩
      · refine ⟨fun t2 w3 => w3 = w2 ∧ t2 25 = .bool (P.blank c), ?_, ?_⟩
        · simp (disch := first | assumption | omega | ((simp only [size_alloc, sz_drew, size_upd, List.size_toArray, List.length_cons, List.length_nil]) <;> omega) | decide) only [sh_s_lex, Pr, PX, PC, NX, ends, fillL, wrL, sOf, Nat.reduceAdd, Nat.reduceMul, Nat.reduceLeDiff, Nat.reduceEqDiff, Int.reduceToNat, Int.reduceAdd, Int.reduceLT, Int.reduceLE, ↓reduceIte, forall_const, eq_self, zG1, zG2, bd_139, br_140_1, ch_9, ld_206, ln_9, sl_9, slh_9, xa_206, hcg, bs_dec]
          by_cases h32 : (c.toNat : Int) = 32
          · simp [h32, hbl.2 (.inl h32)]
          · by_cases h10 : (c.toNat : Int) = 10
            · simp [h10, hbl.2 (.inr h10)]
            · have : P.blank c = false := by
                cases hb : P.blank c with
                | false => rfl
                | true => rcases hbl.1 hb with h | h <;> contradiction
              simp [h32, h10, this]
        · rintro t2 w3 ⟨rfl, h26⟩ d2
          rw [h26]
          cases hb : P.blank c with
          | true =>
            rw [bs_true, h3]
            simp (disch := first | assumption | omega | ((simp only [size_alloc, sz_drew, size_upd, List.size_toArray, List.length_cons, List.length_nil]) <;> omega) | decide) only [sh_s_lex, Pr, PX, PC, NX, ends, fillL, wrL, sOf, Nat.reduceAdd, Nat.reduceMul, Nat.reduceLeDiff, Nat.reduceEqDiff, Int.reduceToNat, Int.reduceAdd, Int.reduceLT, Int.reduceLE, ↓reduceIte, forall_const, eq_self, zG1, zG2, bd_139, br_140_1, ch_9, ld_206, ln_9, sl_9, slh_9, xa_206]
            refine ⟨s.length - (j + 1), by omega, hE, j + 1, acc, f, q, rfl, by omega, by omega, ?_, ?_, ?_, hfin⟩
            · simp
            · simpa using hown
            · rw [if_pos hb] at hq
              rw [hr]; exact hq
          | false =>
            rw [bs_false]
            refine ⟨rfl, ?_, rfl⟩
            simp [sOf, h3]
      · rintro t2 w3 ⟨rfl, h26, hnb⟩ d2
        rw [if_neg (by simp [hnb])] at hq
        rw [hcg]
        refine (sClassX c _).mono ?_
        rintro e w4 ⟨rfl, rfl⟩
        by_cases hc0 : P.cls c ≠ 0
        · rw [if_pos hc0] at hq
          have hc0' : ¬ ((P.cls c : Nat) : Int) = 0 := by omega
          simp (disch := first | assumption | omega | ((simp only [size_alloc, sz_drew, size_upd, List.size_toArray, List.length_cons, List.length_nil]) <;> omega) | decide) only [sh_s_lex, Pr, PX, PC, NX, ends, fillL, wrL, sOf, Nat.reduceAdd, Nat.reduceMul, Nat.reduceLeDiff, Nat.reduceEqDiff, Int.reduceToNat, Int.reduceAdd, Int.reduceLT, Int.reduceLE, ↓reduceIte, forall_const, eq_self, zG1, zG2, bd_139, br_140_1, ch_9, ld_206, ln_9, sl_9, slh_9, xa_206]
          obtain ⟨W, hW⟩ : ∃ W, W = ((c :: r).takeWhile (fun x => P.cls x ≠ 0)).length := ⟨_, rfl⟩
          have htw := twhile (fun x => P.cls x ≠ 0) (c :: r)
          rw [← hW] at htw
          dsimp only at hq
          rw [← hW] at hq
          obtain ⟨ht1, ht2, ht3, ht4⟩ := htw
          have hlen : (c :: r).length = s.length - j := by rw [← hcr, List.length_drop]
          rw [hlen] at ht2 ht3
          rw [← hcr] at ht1 ht2
          simp only [getD_drop0, decide_eq_true_eq, decide_eq_false_iff_not, ne_eq, Decidable.not_not] at ht1 ht2
          have hWp : 0 < W := by
            rw [hW, List.takeWhile_cons, if_pos (by simpa using hc0)]
            simp
          refine ⟨fun t3 w5 => w5 = w4 ∧ t3 6 = .int .i64 ((j + W : Nat) : Int), ?_, ?_⟩
          · refine ⟨fun n t3 w5 => w5 = w4 ∧ ∃ m, n = W - m ∧ m ≤ W ∧ t3 6 = .int .i64 ((j + m : Nat) : Int), ⟨W, rfl, 0, rfl, Nat.zero_le _, ?_⟩, ?_⟩
            · simp [sOf, h26]
            · intro n t3 d3 w5 hI
              refine toPr ?_
              obtain ⟨rfl, m, rfl, hm, h8⟩ := hI
              by_cases hjm : j + m < s.length
              · simp (disch := first | assumption | omega | ((simp only [size_alloc, sz_drew, size_upd, List.size_toArray, List.length_cons, List.length_nil]) <;> omega) | decide) only [sh_s_lex, Pr, PX, PC, NX, ends, fillL, wrL, sOf, Nat.reduceAdd, Nat.reduceMul, Nat.reduceLeDiff, Nat.reduceEqDiff, Int.reduceToNat, Int.reduceAdd, Int.reduceLT, Int.reduceLE, ↓reduceIte, forall_const, eq_self, zG1, zG2, bd_139, br_140_1, ch_9, ld_206, ln_9, sl_9, slh_9, xa_206, h8]
                refine (sClassX _ _).mono ?_
                rintro e w6 ⟨rfl, rfl⟩
                by_cases hmW : m < W
                · have hcm : ¬ ((P.cls (s.getD (j + m) 0) : Nat) : Int) = 0 := by have := ht1 m hmW; omega
                  simp (disch := first | assumption | omega | ((simp only [size_alloc, sz_drew, size_upd, List.size_toArray, List.length_cons, List.length_nil]) <;> omega) | decide) only [sh_s_lex, Pr, PX, PC, NX, ends, fillL, wrL, sOf, Nat.reduceAdd, Nat.reduceMul, Nat.reduceLeDiff, Nat.reduceEqDiff, Int.reduceToNat, Int.reduceAdd, Int.reduceLT, Int.reduceLE, ↓reduceIte, forall_const, eq_self, zG1, zG2, bd_139, br_140_1, ch_9, ld_206, ln_9, sl_9, slh_9, xa_206, h8]
                  exact ⟨W - (m + 1), by omega, m + 1, rfl, by omega, by simp; omega⟩
                · have hmW' : m = W := by omega
                  subst hmW'
                  have hcm : ((P.cls (s.getD (j + m) 0) : Nat) : Int) = 0 := by have := ht2 (by omega); omega
                  simp (disch := first | assumption | omega | ((simp only [size_alloc, sz_drew, size_upd, List.size_toArray, List.length_cons, List.length_nil]) <;> omega) | decide) only [sh_s_lex, Pr, PX, PC, NX, ends, fillL, wrL, sOf, Nat.reduceAdd, Nat.reduceMul, Nat.reduceLeDiff, Nat.reduceEqDiff, Int.reduceToNat, Int.reduceAdd, Int.reduceLT, Int.reduceLE, ↓reduceIte, forall_const, eq_self, zG1, zG2, bd_139, br_140_1, ch_9, ld_206, ln_9, sl_9, slh_9, xa_206, h8]
              · have hmW : m = W := by
                  rcases Nat.lt_or_ge m W with h | h
                  · omega
                  · omega
                subst hmW
                simp (disch := first | assumption | omega | ((simp only [size_alloc, sz_drew, size_upd, List.size_toArray, List.length_cons, List.length_nil]) <;> omega) | decide) only [sh_s_lex, Pr, PX, PC, NX, ends, fillL, wrL, sOf, Nat.reduceAdd, Nat.reduceMul, Nat.reduceLeDiff, Nat.reduceEqDiff, Int.reduceToNat, Int.reduceAdd, Int.reduceLT, Int.reduceLE, ↓reduceIte, forall_const, eq_self, zG1, zG2, bd_139, br_140_1, ch_9, ld_206, ln_9, sl_9, slh_9, xa_206, h8]
          · rintro t3 w5 ⟨rfl, h8⟩ d3
            simp (disch := first | assumption | omega | ((simp only [size_alloc, sz_drew, size_upd, List.size_toArray, List.length_cons, List.length_nil]) <;> omega) | decide) only [sh_s_lex, Pr, PX, PC, NX, ends, fillL, wrL, sOf, Nat.reduceAdd, Nat.reduceMul, Nat.reduceLeDiff, Nat.reduceEqDiff, Int.reduceToNat, Int.reduceAdd, Int.reduceLT, Int.reduceLE, ↓reduceIte, forall_const, eq_self, zG1, zG2, bd_139, br_140_1, ch_9, ld_206, ln_9, sl_9, slh_9, xa_206, h8, h26]
            have hdt : List.drop j (List.take (j + W) s) = c :: r.takeWhile (fun x => P.cls x ≠ 0) := by
              rw [List.drop_take, hcr, show j + W - j = W by omega, ht4, List.takeWhile_cons, if_pos (by simpa using hc0)]
            have htk : (c :: r).takeWhile (fun x => P.cls x ≠ 0) = c :: r.takeWhile (fun x => P.cls x ≠ 0) := by rw [List.takeWhile_cons, if_pos (by simpa using hc0)]
            rw [hdt]
            rw [htk] at hq hW
            obtain ⟨wd, hwd⟩ : ∃ wd, wd = c :: r.takeWhile (fun x => P.cls x ≠ 0) := ⟨_, rfl⟩
            refine (sWord c _ (by rw [← hW]; omega) j w5 hc0).mono ?_
            rw [← hwd] at hq hW ⊢
            rintro e w6 ⟨hE4, (⟨hk0, rfl⟩ | ⟨hk0, hfl⟩)⟩
            · have s4 := hE4.size
              rw [if_neg hk0] at hq
              simp (disch := first | assumption | omega | ((simp only [size_alloc, sz_drew, size_upd, List.size_toArray, List.length_cons, List.length_nil]) <;> omega) | decide) only [sh_s_lex, Pr, PX, PC, NX, ends, fillL, wrL, sOf, Nat.reduceAdd, Nat.reduceMul, Nat.reduceLeDiff, Nat.reduceEqDiff, Int.reduceToNat, Int.reduceAdd, Int.reduceLT, Int.reduceLE, ↓reduceIte, forall_const, eq_self, zG1, zG2, bd_139, br_140_1, ch_9, ld_206, ln_9, sl_9, slh_9, xa_206, h26, h8]
              have hx5 : Ext w6 (w6.alloc (.cells #[.int .i64 (P.wordKind wd), .string (bs wd), .int .i64 j] 139)) := by (repeat (first | assumption | exact FrM.refl _ _ | (refine FrM.upd ?_ (.inr (by (try simp only [size_alloc, sz_drew, size_upd, List.size_toArray, List.length_cons, List.length_nil]) <;> omega))) | refine FrM.alloc ?_ _ | refine FrM.drew ?_))
              have own4 := own_ext (hE4.trans hx5).ext hown
              refine wr_appendST (acc := acc) (base := w1.heap.size) (kd := P.wordKind wd) (tx := wd) (ps := j) own4 (hp_alloc_new rfl) rfl rfl rfl (by omega) (by rw [size_alloc]; omega) ?_
              intro v' w7 hown6 hg6 hv6
              have hE6 : Ext w1 w7 := ((hE.trans hE4).trans hx5).grow hg6 (fun k hk => (own4.lt k hk).1)
              cases hq2 : P.lexGo f (List.drop wd.length (c :: r)) (j + wd.length) with
              | none => rw [hW, hq2] at hq; cases hq
              | some q2 =>
              rw [hW, hq2] at hq
              refine ⟨s.length - (j + W), by omega, hE6, j + W, acc ++ [⟨P.wordKind wd, wd, j⟩], f, q2, rfl, by omega, by simp; omega, by simp [sOf, h8], by simpa [sOf] using hown6, ?_, ?_⟩
              · rw [← List.drop_drop, hcr, hW]; exact hq2
              · rw [← hfin]
                cases q2 with
                | inl i => simp only [Option.some.injEq] at hq; rw [← hq]; rfl
                | inr l => simp only [Option.some.injEq] at hq; rw [← hq]; simp [lexFin]
            · rw [if_pos hk0] at hq
              have hq' := (Option.some.inj hq).symm
              subst hq'
              simp only [lexFin] at hfin
              have hfl2 := faulted_back hfl hs1
              obtain ⟨b, rfl, g1, g2⟩ := hfl
              simp (disch := first | assumption | omega | ((simp only [size_alloc, sz_drew, size_upd, List.size_toArray, List.length_cons, List.length_nil]) <;> omega) | decide) only [sh_s_lex, Pr, PX, PC, NX, ends, fillL, wrL, sOf, Nat.reduceAdd, Nat.reduceMul, Nat.reduceLeDiff, Nat.reduceEqDiff, Int.reduceToNat, Int.reduceAdd, Int.reduceLT, Int.reduceLE, ↓reduceIte, forall_const, eq_self, zG1, zG2, bd_139, br_140_1, ch_9, ld_206, ln_9, sl_9, slh_9, xa_206]
              refine ⟨hE.trans hE4, ?_⟩
              rw [if_neg (by omega), ← hfin]
              exact hfl2
        · rw [if_neg hc0] at hq
          have hc0' : ((P.cls c : Nat) : Int) = 0 := by omega
          simp (disch := first | assumption | omega | ((simp only [size_alloc, sz_drew, size_upd, List.size_toArray, List.length_cons, List.length_nil]) <;> omega) | decide) only [sh_s_lex, Pr, PX, PC, NX, ends, fillL, wrL, sOf, Nat.reduceAdd, Nat.reduceMul, Nat.reduceLeDiff, Nat.reduceEqDiff, Int.reduceToNat, Int.reduceAdd, Int.reduceLT, Int.reduceLE, ↓reduceIte, forall_const, eq_self, zG1, zG2, bd_139, br_140_1, ch_9, ld_206, ln_9, sl_9, slh_9, xa_206]
          have hcp : (c = 46 ∧ P.endsB r = true) ↔ ((c.toNat : Int) = 46 ∧ (j + 1 = s.length ∨ (j + 1 < s.length ∧ ((s.getD (j + 1) 0).toNat = 32 ∨ (s.getD (j + 1) 0).toNat = 10)))) := by
            have e1 : c = 46 ↔ c.toNat = 46 := by rw [← UInt8.toNat_inj]; rfl
            have hrl : r.length = s.length - (j + 1) := by rw [← hr, List.length_drop]
            rw [e1]
            cases r with
            | nil =>
              have hl1 : s.length = j + 1 := by simp at hrl; omega
              simp [P.endsB, hl1]
              omega
            | cons d r' =>
              have hd : s.getD (j + 1) 0 = d := by rw [show j + 1 = j + 1 + 0 from rfl, ← getD_drop0, hr]; rfl
              rw [hd]
              have e2 : d = 32 ↔ d.toNat = 32 := by rw [← UInt8.toNat_inj]; rfl
              have e3 : d = 10 ↔ d.toNat = 10 := by rw [← UInt8.toNat_inj]; rfl
              simp only [P.endsB, P.blank, Bool.or_eq_true, beq_iff_eq, e2, e3]
              simp at hrl
              omega
          refine ⟨fun t4 w5 => w5 = w4 ∧ t4 2 = t 2 ∧ t4 3 = .int .i64 j ∧ ¬ (c = 46 ∧ P.endsB r = true), ?_, ?_⟩
          · refine ⟨fun t4 w5 => w5 = w4 ∧ t4 79 = .bool (decide (c = 46 ∧ P.endsB r = true)), ?_, ?_⟩
            · by_cases h46 : (c.toNat : Int) = 46
              · by_cases hje : j + 1 = s.length
                · have hje' : ((j : Int) + 1) = (s.length : Int) := by omega
                  have hyes := hcp.2 ⟨h46, .inl hje⟩
                  simp (disch := first | assumption | omega | ((simp only [size_alloc, sz_drew, size_upd, List.size_toArray, List.length_cons, List.length_nil]) <;> omega) | decide) only [sh_s_lex, Pr, PX, PC, NX, ends, fillL, wrL, sOf, Nat.reduceAdd, Nat.reduceMul, Nat.reduceLeDiff, Nat.reduceEqDiff, Int.reduceToNat, Int.reduceAdd, Int.reduceLT, Int.reduceLE, ↓reduceIte, forall_const, eq_self, zG1, zG2, bd_139, br_140_1, ch_9, ld_206, ln_9, sl_9, slh_9, xa_206, h26, hcg]
                  simp [sOf, hyes]
                · have hje' : ¬ ((j : Int) + 1) = (s.length : Int) := by omega
                  have htn : ((j : Int) + 1).toNat = j + 1 := by omega
                  simp (disch := first | assumption | omega | ((simp only [size_alloc, sz_drew, size_upd, List.size_toArray, List.length_cons, List.length_nil]) <;> omega) | decide) only [sh_s_lex, Pr, PX, PC, NX, ends, fillL, wrL, sOf, Nat.reduceAdd, Nat.reduceMul, Nat.reduceLeDiff, Nat.reduceEqDiff, Int.reduceToNat, Int.reduceAdd, Int.reduceLT, Int.reduceLE, ↓reduceIte, forall_const, eq_self, zG1, zG2, bd_139, br_140_1, ch_9, ld_206, ln_9, sl_9, slh_9, xa_206, h26, hcg, htn, bs_dec]
                  generalize hd : (s.getD (j + 1) 0).toNat = d at *
                  by_cases g1 : d = 32
                  · have hyes := hcp.2 ⟨h46, .inr ⟨by omega, .inl g1⟩⟩
                    simp [sOf, hyes, g1]
                  · have g1' : ¬ (d : Int) = 32 := by omega
                    by_cases g2 : d = 10
                    · have hyes := hcp.2 ⟨h46, .inr ⟨by omega, .inr g2⟩⟩
                      simp [sOf, hyes, g2]
                    · have hno : ¬ (c = 46 ∧ P.endsB r = true) := fun h => by
                        rcases (hcp.1 h).2 with h | ⟨_, h | h⟩
                        · exact hje h
                        · exact g1 h
                        · exact g2 h
                      have g2' : ¬ (d : Int) = 10 := by omega
                      rw [decide_eq_false hno]
                      simp [sOf, g1', g2']
              · have hno : ¬ (c = 46 ∧ P.endsB r = true) := fun h => h46 (hcp.1 h).1
                rw [decide_eq_false hno]
                simp (disch := first | assumption | omega | ((simp only [size_alloc, sz_drew, size_upd, List.size_toArray, List.length_cons, List.length_nil]) <;> omega) | decide) only [sh_s_lex, Pr, PX, PC, NX, ends, fillL, wrL, sOf, Nat.reduceAdd, Nat.reduceMul, Nat.reduceLeDiff, Nat.reduceEqDiff, Int.reduceToNat, Int.reduceAdd, Int.reduceLT, Int.reduceLE, ↓reduceIte, forall_const, eq_self, zG1, zG2, bd_139, br_140_1, ch_9, ld_206, ln_9, sl_9, slh_9, xa_206, h26, hcg]
            · rintro t4 w5 ⟨rfl, h83⟩ d4
              rw [h83]
              by_cases hy : c = 46 ∧ P.endsB r = true
              · rw [bs_pos _ _ hy]
                rw [if_pos hy] at hq
                simp (disch := first | assumption | omega | ((simp only [size_alloc, sz_drew, size_upd, List.size_toArray, List.length_cons, List.length_nil]) <;> omega) | decide) only [sh_s_lex, Pr, PX, PC, NX, ends, fillL, wrL, sOf, Nat.reduceAdd, Nat.reduceMul, Nat.reduceLeDiff, Nat.reduceEqDiff, Int.reduceToNat, Int.reduceAdd, Int.reduceLT, Int.reduceLE, ↓reduceIte, forall_const, eq_self, zG1, zG2, bd_139, br_140_1, ch_9, ld_206, ln_9, sl_9, slh_9, xa_206, h26]
                have hx5 : Ext w5 (w5.alloc (.cells #[.int .i64 4, .string (bs [46]), .int .i64 j] 139)) := by (repeat (first | assumption | exact FrM.refl _ _ | (refine FrM.upd ?_ (.inr (by (try simp only [size_alloc, sz_drew, size_upd, List.size_toArray, List.length_cons, List.length_nil]) <;> omega))) | refine FrM.alloc ?_ _ | refine FrM.drew ?_))
                have own4 := own_ext hx5.ext hown
                refine wr_appendST (acc := acc) (base := w1.heap.size) (kd := 4) (tx := [46]) (ps := j) own4 (hp_alloc_new rfl) rfl rfl rfl (by omega) (by rw [size_alloc]; omega) ?_
                intro v' w7 hown6 hg6 hv6
                have hE6 : Ext w1 w7 := (hE.trans hx5).grow hg6 (fun k hk => (own4.lt k hk).1)
                cases hq2 : P.lexGo f r (j + 1) with
                | none => rw [hq2] at hq; cases hq
                | some q2 =>
                rw [hq2] at hq
                simp (disch := first | assumption | omega | ((simp only [size_alloc, sz_drew, size_upd, List.size_toArray, List.length_cons, List.length_nil]) <;> omega) | decide) only [sh_s_lex, Pr, PX, PC, NX, ends, fillL, wrL, sOf, Nat.reduceAdd, Nat.reduceMul, Nat.reduceLeDiff, Nat.reduceEqDiff, Int.reduceToNat, Int.reduceAdd, Int.reduceLT, Int.reduceLE, ↓reduceIte, forall_const, eq_self, zG1, zG2, bd_139, br_140_1, ch_9, ld_206, ln_9, sl_9, slh_9, xa_206, h26]
                refine ⟨s.length - (j + 1), by omega, hE6, j + 1, acc ++ [⟨4, [46], j⟩], f, q2, rfl, by omega, by simp; omega, by simp, by simpa using hown6, ?_, ?_⟩
                · rw [hr]; exact hq2
                · rw [← hfin]
                  cases q2 with
                  | inl i => simp only [Option.some.injEq] at hq; rw [← hq]; rfl
                  | inr l => simp only [Option.some.injEq] at hq; rw [← hq]; simp [lexFin]
              · rw [bs_neg _ _ hy]
                exact ⟨rfl, by simp [sOf], by simp [sOf, h26], hy⟩
          · rintro t4 w5 ⟨rfl, h2', h3', hy⟩ d4
            rw [if_neg hy] at hq
            obtain ⟨cs, TT, zz, hg1, hg2, hg3⟩ := hT.ext hE
            have hlen : (c :: r).length = s.length - j := by rw [← hcr, List.length_drop]
            simp (disch := first | assumption | omega | ((simp only [size_alloc, sz_drew, size_upd, List.size_toArray, List.length_cons, List.length_nil]) <;> omega) | decide) only [sh_s_lex, Pr, PX, PC, NX, ends, fillL, wrL, sOf, Nat.reduceAdd, Nat.reduceMul, Nat.reduceLeDiff, Nat.reduceEqDiff, Int.reduceToNat, Int.reduceAdd, Int.reduceLT, Int.reduceLE, ↓reduceIte, forall_const, eq_self, zG1, zG2, bd_139, br_140_1, ch_9, ld_206, ln_9, sl_9, slh_9, xa_206, hg1, hg3]
            obtain ⟨pr, hpr⟩ : ∃ pr : P.Bs → Bool, pr = fun x => x.isPrefixOf (c :: r) := ⟨_, rfl⟩
            refine ⟨fun n t5 w6 => w6 = w5 ∧ ∃ k, n = 23 - k ∧ k ≤ 23 ∧ t5 88 = .int .i64 ((k : Nat) : Int) ∧ t5 2 = t 2 ∧ t5 3 = .int .i64 j ∧ signK pr k = [], ⟨23, rfl, 0, rfl, Nat.zero_le _, rfl, ?_, ?_, rfl⟩, ?_⟩
            · simp [sOf, h2']
            · simp [sOf, h3']
            intro n t5 d5 w6 hI
            refine toPr ?_
            obtain ⟨rfl, k, rfl, hk, h88, h2'', h3'', hsk⟩ := hI
            by_cases hk23 : k < 23
            · obtain ⟨x, hx⟩ : ∃ x, x = P.signs.getD k [] := ⟨_, rfl⟩
              have hxm : x ∈ P.signs := by
                rw [hx, List.getD_eq_getElem?_getD, List.getElem?_eq_getElem (show k < P.signs.length from hk23)]
                exact List.getElem_mem _
              obtain ⟨hxn, hxl⟩ := signs_ne hxm
              have hld : (List.take 23 cs.toList).toArray[k]? = some (.string (bs x)) := by
                rw [hg3, List.getElem?_toArray, List.getElem?_map, hx, List.getD_eq_getElem?_getD, List.getElem?_eq_getElem (show k < P.signs.length from hk23)]
                rfl
              have hkn : ((k : Nat) : Int).toNat = k := by omega
              have hld' : (List.take 23 cs.toList).toArray[((k : Nat) : Int).toNat]? = some (.string (bs x)) := by rw [hkn]; exact hld
              have hjt2 : ((j : Nat) : Int).toNat = j := by omega
              simp (disch := first | assumption | omega | ((simp only [size_alloc, sz_drew, size_upd, List.size_toArray, List.length_cons, List.length_nil]) <;> omega) | decide) only [sh_s_lex, Pr, PX, PC, NX, ends, fillL, wrL, sOf, Nat.reduceAdd, Nat.reduceMul, Nat.reduceLeDiff, Nat.reduceEqDiff, Int.reduceToNat, Int.reduceAdd, Int.reduceLT, Int.reduceLE, ↓reduceIte, forall_const, eq_self, zG1, zG2, bd_139, br_140_1, ch_9, ld_206, ln_9, sl_9, slh_9, xa_206, h88, h3'', hjt2]
              rw [hcr]
              refine (Tryz.strings_HasPrefix (bs (c :: r)) (bs x) _).mono ?_
              rintro e w7 ⟨rfl, rfl⟩
              have hpf : Lib.hasPrefix (bs (c :: r)).data.toList (bs x).data.toList = pr x := by rw [hpr]; rfl
              rw [hpf]
              have hsucc := signK_succ hk23 hsk
              rw [← hx] at hsucc
              by_cases hp : pr x = true
              · rw [hp]
                rw [if_pos hp] at hsucc
                have hall : P.signs.find? pr = some x := by
                  have h1 := signK_ne (p := pr) (k := k + 1) (by rw [hsucc]; exact hxn)
                  rw [hsucc, signK_all] at h1
                  cases hf : P.signs.find? pr with
                  | none => rw [hf] at h1; exact absurd h1.symm hxn
                  | some y => rw [hf] at h1; exact congrArg some h1
                rw [hpr] at hall
                rw [hall] at hq
                dsimp only at hq
                have hle := (List.isPrefixOf_iff_prefix.1 (by rw [hpr] at hp; exact hp)).length_le
                rw [hlen] at hle
                have hx0 : 0 < x.length := List.length_pos_iff.2 hxn
                simp (disch := first | assumption | omega | ((simp only [size_alloc, sz_drew, size_upd, List.size_toArray, List.length_cons, List.length_nil]) <;> omega) | decide) only [sh_s_lex, Pr, PX, PC, NX, ends, fillL, wrL, sOf, Nat.reduceAdd, Nat.reduceMul, Nat.reduceLeDiff, Nat.reduceEqDiff, Int.reduceToNat, Int.reduceAdd, Int.reduceLT, Int.reduceLE, ↓reduceIte, forall_const, eq_self, zG1, zG2, bd_139, br_140_1, ch_9, ld_206, ln_9, sl_9, slh_9, xa_206, h2'', h3'']
                have hx5 : Ext w7 (w7.alloc (.cells #[.int .i64 4, .string (bs x), .int .i64 j] 139)) := by (repeat (first | assumption | exact FrM.refl _ _ | (refine FrM.upd ?_ (.inr (by (try simp only [size_alloc, sz_drew, size_upd, List.size_toArray, List.length_cons, List.length_nil]) <;> omega))) | refine FrM.alloc ?_ _ | refine FrM.drew ?_))
                have own4 := own_ext hx5.ext hown
                refine wr_appendST (acc := acc) (base := w1.heap.size) (kd := 4) (tx := x) (ps := j) own4 (hp_alloc_new rfl) rfl rfl rfl (by omega) (by rw [size_alloc]; omega) ?_
                intro v' w8 hown6 hg6 hv6
                have hE6 : Ext w1 w8 := (hE.trans hx5).grow hg6 (fun k hk => (own4.lt k hk).1)
                cases hq2 : P.lexGo f ((c :: r).drop x.length) (j + x.length) with
                | none => rw [hq2] at hq; cases hq
                | some q2 =>
                rw [hq2] at hq
                simp (disch := first | assumption | omega | ((simp only [size_alloc, sz_drew, size_upd, List.size_toArray, List.length_cons, List.length_nil]) <;> omega) | decide) only [sh_s_lex, Pr, PX, PC, NX, ends, fillL, wrL, sOf, Nat.reduceAdd, Nat.reduceMul, Nat.reduceLeDiff, Nat.reduceEqDiff, Int.reduceToNat, Int.reduceAdd, Int.reduceLT, Int.reduceLE, ↓reduceIte, forall_const, eq_self, zG1, zG2, bd_139, br_140_1, ch_9, ld_206, ln_9, sl_9, slh_9, xa_206, h2'', h3'']
                refine ⟨s.length - (j + x.length), by omega, hE6, j + x.length, acc ++ [⟨4, x, j⟩], f, q2, rfl, by omega, by simp; omega, by simp, by simpa using hown6, ?_, ?_⟩
                · rw [← List.drop_drop, hcr]; exact hq2
                · rw [← hfin]
                  cases q2 with
                  | inl i => simp only [Option.some.injEq] at hq; rw [← hq]; rfl
                  | inr l => simp only [Option.some.injEq] at hq; rw [← hq]; simp [lexFin]
              · have hp' : pr x = false := by simpa using hp
                rw [hp']
                rw [if_neg hp] at hsucc
                simp (disch := first | assumption | omega | ((simp only [size_alloc, sz_drew, size_upd, List.size_toArray, List.length_cons, List.length_nil]) <;> omega) | decide) only [sh_s_lex, Pr, PX, PC, NX, ends, fillL, wrL, sOf, Nat.reduceAdd, Nat.reduceMul, Nat.reduceLeDiff, Nat.reduceEqDiff, Int.reduceToNat, Int.reduceAdd, Int.reduceLT, Int.reduceLE, ↓reduceIte, forall_const, eq_self, zG1, zG2, bd_139, br_140_1, ch_9, ld_206, ln_9, sl_9, slh_9, xa_206, h88, h2'', h3'']
                refine ⟨23 - (k + 1), by omega, k + 1, rfl, by omega, ?_⟩
                simp [hsucc]
            · have hk' : k = 23 := by omega
              subst hk'
              have hnone : P.signs.find? (fun s => s.isPrefixOf (c :: r)) = none := by
                rw [signK_all, hpr] at hsk
                cases hf : P.signs.find? (fun s => s.isPrefixOf (c :: r)) with
                | none => rfl
                | some x =>
                  rw [hf] at hsk
                  exact absurd hsk (signs_ne (List.mem_of_find?_eq_some hf)).1
              rw [hnone] at hq
              have hq' := (Option.some.inj hq).symm
              subst hq'
              simp only [lexFin] at hfin
              simp (disch := first | assumption | omega | ((simp only [size_alloc, sz_drew, size_upd, List.size_toArray, List.length_cons, List.length_nil]) <;> omega) | decide) only [sh_s_lex, Pr, PX, PC, NX, ends, fillL, wrL, sOf, Nat.reduceAdd, Nat.reduceMul, Nat.reduceLeDiff, Nat.reduceEqDiff, Int.reduceToNat, Int.reduceAdd, Int.reduceLT, Int.reduceLE, ↓reduceIte, forall_const, eq_self, zG1, zG2, bd_139, br_140_1, ch_9, ld_206, ln_9, sl_9, slh_9, xa_206, h88, h3'']
              refine (sFail0F _ _ _).mono ?_
              rintro e w7 ⟨hf, hE7⟩
              have hf2 := faulted_back hf hs1
              obtain ⟨b, rfl, g1, g2⟩ := hf
              simp (disch := first | assumption | omega | ((simp only [size_alloc, sz_drew, size_upd, List.size_toArray, List.length_cons, List.length_nil]) <;> omega) | decide) only [sh_s_lex, Pr, PX, PC, NX, ends, fillL, wrL, sOf, Nat.reduceAdd, Nat.reduceMul, Nat.reduceLeDiff, Nat.reduceEqDiff, Int.reduceToNat, Int.reduceAdd, Int.reduceLT, Int.reduceLE, ↓reduceIte, forall_const, eq_self, zG1, zG2, bd_139, br_140_1, ch_9, ld_206, ln_9, sl_9, slh_9, xa_206]
              refine ⟨hE.trans hE7, ?_⟩
              rw [if_neg (by omega), ← hfin]
              exact hf2
    · have hj2 : j = s.length := by omega
      subst hj2
      have hdn : List.drop s.length s = [] := List.drop_length
      cases f with
      | zero => rw [P.lexGo] at hq; cases hq
      | succ f =>
      rw [hdn, P.lexGo] at hq
      have hq' := (Option.some.inj hq).symm
      subst hq'
      simp only [lexFin] at hfin
      simp (disch := first | assumption | omega | ((simp only [size_alloc, sz_drew, size_upd, List.size_toArray, List.length_cons, List.length_nil]) <;> omega) | decide) only [sh_s_lex, Pr, PX, PC, NX, ends, fillL, wrL, sOf, Nat.reduceAdd, Nat.reduceMul, Nat.reduceLeDiff, Nat.reduceEqDiff, Int.reduceToNat, Int.reduceAdd, Int.reduceLT, Int.reduceLE, ↓reduceIte, forall_const, eq_self, zG1, zG2, bd_139, br_140_1, ch_9, ld_206, ln_9, sl_9, slh_9, xa_206, h3]
      have hx5 : Ext w2 (w2.alloc (.cells #[.int .i64 0, .string (bs []), .int .i64 (s.length)] 139)) := by (repeat (first | assumption | exact FrM.refl _ _ | (refine FrM.upd ?_ (.inr (by (try simp only [size_alloc, sz_drew, size_upd, List.size_toArray, List.length_cons, List.length_nil]) <;> omega))) | refine FrM.alloc ?_ _ | refine FrM.drew ?_))
      have own4 := own_ext hx5.ext hown
      refine wr_appendST (acc := acc) (base := w1.heap.size) (kd := 0) (tx := []) (ps := s.length) own4 (hp_alloc_new rfl) rfl rfl rfl (by omega) (by rw [size_alloc]; omega) ?_
      intro v' w6 hown6 hg6 hv6
      refine ⟨(hE.trans hx5).grow hg6 (fun k hk => (own4.lt k hk).1), ?_⟩
      rw [if_neg (by omega), ← hfin]
      exact ⟨v', rfl, hown6⟩
end Go.Proofs.YtkmpelgfhjgddaaGreatDoor
namespace Go.Proofs.YtkmpelgfhjgddaaGreatDoor
open Go.RowKit
set_option linter.unusedVariables false
structure STabC (w : World) (B : Nat) : Prop where
  lt : 3 < B
  cell : ∀ j, j < 9 → w.cell? ⟨3, j, none⟩ = some (.string (bs (P.compares.getD j [])))
theorem STabC.ext {w w' : World} {B : Nat} (h : STabC w B) (hw : ∀ (b : Nat) (o : Obj), b < B → w.heap[b]? = some o → w'.heap[b]? = some o) : STabC w' B :=
  ⟨h.lt, fun j hj => cellKeep (h.cell j hj) fun x hx => hw _ x h.lt hx⟩
structure CLit (f : Nat) : Prop where
  go : ∀ {pb tb : Nat} {T : List P.Tok} {k : Nat} {vars : List P.Bs} {d : Nat} {w : World} {r : P.Res P.Bd}, SP w pb tb T k vars d → STabC w tb → d ≤ 8 →
    P.pLit T f k vars d = some r → Calls Tryz.prog 98 #[.pointer (some ⟨pb, 0, none⟩)] w (SPost IsBd pb tb T d w r)
structure CRow (f : Nat) : Prop where
  go : ∀ {pb tb : Nat} {T : List P.Tok} {k : Nat} {vars : List P.Bs} {d : Nat} {w : World} {r : P.Res P.Bd}, SP w pb tb T k vars d → STabC w tb → d ≤ 8 →
    P.pRow T f k vars d = some r → Calls Tryz.prog 97 #[.pointer (some ⟨pb, 0, none⟩), .int .u8 44, .string (bs [44]), .func (.func 98) #[.pointer (some ⟨pb, 0, none⟩)] #[]] w (SPost IsBd pb tb T d w r)
structure CBody (f : Nat) : Prop where
  go : ∀ {pb tb : Nat} {T : List P.Tok} {k : Nat} {vars : List P.Bs} {d : Nat} {w : World} {r : P.Res P.Bd}, SP w pb tb T k vars d → STabC w tb → d ≤ 8 →
    P.pBody T f k vars d = some r → Calls Tryz.prog 56 #[.pointer (some ⟨pb, 0, none⟩)] w (SPost IsBd pb tb T d w r)
end Go.Proofs.YtkmpelgfhjgddaaGreatDoor
namespace Go.Proofs.YtkmpelgfhjgddaaGreatDoor
open Go.RowKit
set_option linter.unusedVariables false
def P.isArrow (x : P.Bd) : Prop := x.kind = 63 ∧ x.parts.length = 2
instance (x : P.Bd) : Decidable (P.isArrow x) := by unfold P.isArrow; infer_instance
end Go.Proofs.YtkmpelgfhjgddaaGreatDoor
namespace Go.Proofs.YtkmpelgfhjgddaaGreatDoor.P
def named (x : Ex) : Prop := x.kind = 97 ∨ x.kind = 99 → x.name ≠ []
structure NamedT (T : List Tok) (f : Nat) : Prop where
  prim : ∀ k v d x k' v', pPrim T f k v d = some (.ok x k' v') → named x
  list : ∀ k v d x k' v', pList T f k v d = some (.ok x k' v') → named x
  oper : ∀ l k v d x k' v', pOper T f l k v d = some (.ok x k' v') → named x
  more : ∀ l y k v d x k' v', named y → pMore T f l y k v d = some (.ok x k' v') → named x
end Go.Proofs.YtkmpelgfhjgddaaGreatDoor.P
namespace Go.Proofs.YtkmpelgfhjgddaaGreatDoor
open Go.RowKit Sx
set_option maxRecDepth 100000
theorem SP.x {w : World} {pb tb : Nat} {T : List P.Tok} {k : Nat} {vars : List P.Bs} {d : Nat} (h : SP w pb tb T k vars d) : ∃ cap va vc cs,
    w.heap[pb]? = some (.cells #[.slice (some ⟨tb, k * 3, none⟩) (T.length - k) (cap - k), .slice va vars.length vc, .int .i64 d] 142 (0, 0)) ∧ T.length ≤ cap ∧ cap ≤ 9223372036854775807 ∧ T.length ≤ 2001 ∧ k < T.length ∧
    w.heap[tb]? = some (.cells cs 139 (0, 0)) ∧ k * 3 + 3 ≤ cs.size ∧ (cs.toList.drop (k * 3)).take 3 = [.int .i64 (P.tk T k).kind, .string (bs (P.tk T k).text), .int .i64 (P.tk T k).pos] ∧
    cs[k * 3]? = some (.int .i64 (P.tk T k).kind) ∧ cs[k * 3 + 1]? = some (.string (bs (P.tk T k).text)) ∧ cs[k * 3 + 2]? = some (.int .i64 (P.tk T k).pos) := by
  obtain ⟨tw, lt, kt, nv, ⟨-, cs, t1, t2⟩, cap, vv, h1, h2, h3, h4⟩ := h
  obtain ⟨a, b, c⟩ := t2 k kt
  obtain ⟨va, vc, rfl⟩ := own_slice h4
  have hc := (Array.getElem?_eq_some_iff.1 c).1
  refine ⟨cap, va, vc, cs, h3, h1, h2, tw.len, kt, t1, by omega, ?_, a, b, c⟩
  apply List.ext_getElem?
  intro i
  rw [List.getElem?_take]
  match i with
  | 0 => simpa using a
  | 1 => simpa using b
  | 2 => simpa using c
  | i + 3 => simp; omega
end Go.Proofs.YtkmpelgfhjgddaaGreatDoor
namespace Go.Proofs.YtkmpelgfhjgddaaGreatDoor
open Go.RowKit Sx
set_option maxRecDepth 100000
structure SClSt (pb tb : Nat) (T : List P.Tok) (B : Nat) (w : World) (q3 q : Nat) (nm : P.Bs) (r : P.Res P.Cl) (cont : List P.Ex → P.Bd → Nat → List P.Bs → Option (P.Res P.Cl)) (w' : World) : Prop where
  fr : SFr pb w w'
  t3 : ∃ kd ps, w'.heap[q3]? = some (.cells #[.int .i64 kd, .string (bs nm), .int .i64 ps] 139 (0, 0))
  st : ∃ av bv l bd k vs, w'.heap[q]? = some (.cells #[.string (bs nm), av, bv, .slice none 0 0] 104 (0, 0)) ∧
    IsSlEx (fun b => B ≤ b ∧ b < w'.heap.size ∧ b ≠ q) w' av l ∧ IsBd (fun b => B ≤ b ∧ b < w'.heap.size ∧ b ≠ q) w' bv bd ∧ SP w' pb tb T k vs 0 ∧ cont l bd k vs = some r
end Go.Proofs.YtkmpelgfhjgddaaGreatDoor
