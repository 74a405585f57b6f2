/- A part of one proof (RW4); no conditions beyond what each theorem names. -/
import Derived.Test.YtkmpelgfhjgddaaGreatDoorPkRAJ
set_option linter.all false
set_option linter.unusedVariables false
set_option linter.unusedSimpArgs false
namespace Go.Proofs.YtkmpelgfhjgddaaGreatDoor
open Go.RowKit Sx
set_option maxRecDepth 100000
theorem Tryz.infoS : (Tryz.prog.info? 9).map (fun i => (i.zero, i.size, i.bytes)) = some (some (.string (bs [])), 1, 16) := by kernel_rfl
theorem wr_appendS {w : World} {base n : Nat} {v : Value} {xs : List Value} (hown : w.ownsRow base 9 1 v n xs) {b m : Nat} {s : List UInt8}
    (hb : w.heap[b]? = some (.cells #[.string (bs s)] 9 (0, 0))) (hn : n ≤ 100000) (hbase : base ≤ w.heap.size) {K : Value → World → Prop} {X : Value → World → Prop}
    (h : ∀ v' w', w'.ownsRow base 9 1 v' (n + 1) (xs ++ [.string (bs s)]) → w.grownBy w' v.ownBlock → (v'.ownBlock = v.ownBlock ∨ ∀ k, v'.ownBlock = some k → w.heap.size ≤ k) → K v' w') :
    WR Tryz.prog (Builtin.append_ #[38, 38] 38 #[v, .slice (some ⟨b, 0, none⟩) 1 m]) w K X := by
  obtain ⟨i, hi, h0⟩ := Option.map_eq_some_iff.1 Tryz.infoS
  simp only [Prod.mk.injEq] at h0
  obtain ⟨hz, hs, hbt⟩ := h0
  refine wr_append (t := 38) (e := 9) (by kernel_rfl) hi hz hs hbt rfl (by decide) hown hb rfl (fun u hu => ?_) (by omega) (by decide) hbase h
  simp only [List.mem_cons, List.not_mem_nil, or_false] at hu
  subst hu; rfl
theorem isRx_var (F : Nat → Prop) (w : World) (j : Nat) : IsRx F w [.int .u8 118, .string (bs []), .int .i64 0, .int .i64 j, .slice none 0 0] (.mk 118 [] 0 j []) := by
  unfold IsRx
  exact ⟨_, [], rfl, .inl ⟨rfl, rfl, rfl⟩, by unfold IsRxs; rfl⟩
theorem own_str {w : World} {base : Nat} {vv : Value} {vars : List P.Bs} (h : w.ownsRow base 9 1 vv vars.length (vars.map fun s => .string (bs s))) {j : Nat} (hj : j < vars.length) :
    ∃ g cap cur, vv = .slice (some ⟨g, 0, none⟩) vars.length cap ∧ base ≤ g ∧ w.heap[g]? = some (.cells cur 9 (0, 0)) ∧ cur[j]? = some (.string (bs (vars.getD j []))) := by
  rcases h.2 with ⟨rfl, h0⟩ | ⟨g, cap, cur, rfl, h1, h2, h3, h4, h5, h6⟩
  · omega
  · refine ⟨g, cap, cur, rfl, h1, h2, ?_⟩
    have e : (cur.toList.take (vars.length * 1))[j]? = some (.string (bs (vars.getD j []))) := by
      rw [h6]
      simp [hj]
    rw [List.getElem?_take] at e
    rw [if_pos (by omega)] at e
    simpa using e
theorem own_ne {w : World} {base e size n : Nat} {v : Value} {xs : List Value} (h : w.ownsRow base e size v n xs) {b T : Nat} {cs : Array Value} {z : Nat × Nat} (hb : w.heap[b]? = some (.cells cs T z)) (hT : T ≠ e) : some b ≠ v.ownBlock := by
  intro e1
  rcases h.2 with ⟨rfl, _⟩ | ⟨g, cap, cur, rfl, h1, h2, _⟩
  · cases e1
  · simp only [Value.ownBlock, Option.some.injEq] at e1
    subst e1
    rw [h2] at hb
    injection hb with hb
    injection hb with _ hb
    exact hT hb.symm
theorem own_updT {w : World} {base e size n : Nat} {v : Value} {xs : List Value} (h : w.ownsRow base e size v n xs) {p T : Nat} {cs : Array Value} {z : Nat × Nat} {o : Obj} (hb : w.heap[p]? = some (.cells cs T z)) (hT : T ≠ e) : (upd w p o).ownsRow base e size v n xs := by
  have hne := own_ne h hb hT
  obtain ⟨g1, g2⟩ := h
  refine ⟨g1, ?_⟩
  rcases g2 with g | ⟨g, cp, cur, e1, e2, e3, e4⟩
  · exact .inl g
  · refine .inr ⟨g, cp, cur, e1, e2, ?_, e4⟩
    have : p ≠ g := fun e5 => hne (by rw [e1, e5]; rfl)
    rw [hp_upd_other (by omega)]; exact e3
theorem FrM.growS {pb : Nat} {a b c : World} (h : RFr pb a b) {n : Nat} {v : Value} {xs : List Value} (hu : b.ownsRow (pb + 1) 9 1 v n xs) (hg : b.grownBy c v.ownBlock) : RFr pb a c :=
  ⟨hg.os.trans h.os, hg.tape.trans h.tape, hg.output.trans h.output, Nat.le_trans h.size hg.size, fun i o hi hm => by
    have h1 := h.block i o hi hm
    rw [hg.block i (ltOf h1) (fun e1 => ?_)]
    · exact h1
    · rcases hu.2 with ⟨rfl, _⟩ | ⟨g, cap, cur, rfl, h2, h3, _⟩
      · cases e1
      · simp only [Value.ownBlock, Option.some.injEq] at e1
        subst e1
        rw [h3] at h1
        injection h1 with h1
        exact hm (.inr ⟨by omega, _, _, h1.symm⟩)⟩
def VT (p0 x3 x4 : Value) (w : World) (R : Ending → World → Prop) : Prop :=
  HD fun S => S w.drew ∧
  NC p0 fun x44 =>
  RDS Tryz.prog (Instr.fieldAt 58 x44 2) S (fun x45 =>
  RDS Tryz.prog (Instr.loadAt 38 x45) S (fun x46 =>
  RD Tryz.prog (Instr.fieldAt 60 x3 1) w.drew (fun x47 =>
  RD Tryz.prog (Instr.loadAt 9 x47) w.drew (fun x48 =>
  WR Tryz.prog (Instr.buildSlice 38 1 #[(0, x48)]) w.drew (fun x49 w1 =>
  S w1 ∧
  WR Tryz.prog (Builtin.append_ #[38, 38] 38 #[x46, x49]) w1 (fun x50 w2 =>
  S w2 ∧
  NC p0 fun x51 =>
  RD Tryz.prog (Instr.fieldAt 58 x51 2) w2 (fun x52 =>
  WU Tryz.prog (Instr.storeAt 38 x52 x50) w2 (fun w3 =>
  NC p0 fun x54 =>
  RD Tryz.prog (Instr.fieldAt 58 x54 2) w3 (fun x55 =>
  RD Tryz.prog (Instr.loadAt 38 x55) w3 (fun x56 =>
  RD Tryz.prog (Builtin.len_ #[38] 3 #[x56]) w3 (fun x57 =>
  RD Tryz.prog (bo .sub 3 (.tmp 57) (.const (.int .i64 1)) x57 (.int .i64 1)) w3 (fun x58 =>
  RD Tryz.prog (Instr.build 69 #[(0, (.int .u8 118)), (3, x58)]) w3 (fun x59 =>
  WU Tryz.prog (Instr.storeAt 69 x4 x59) w3 (fun w4 =>
  RD Tryz.prog (Instr.loadAt 69 x4) w4 (fun r => R (.returned r) w4) NX) (PX R)) (PX R)) (PX R)) (PX R)) (PX R)) (PX R)) NX) NX) NX) NX) NX) NX))
theorem rVarTail {pb tb : Nat} {T : List P.Tok} {k : Nat} {vars : List P.Bs} {d : Int} {er at_ lc : Nat} {vv : Value} {w : World} (hx : RPx w pb tb T k vars d er at_ lc vv) (hn : vars.length ≤ 11 ∨ (er ≠ 0 ∧ vars.length ≤ 12))
    {bx bx2 : Nat} {t : P.Tok} {kd : Nat} (hpb : pb < bx) (hbx : bx < bx2) (b1 : w.heap[bx]? = some (.cells #[.int .u8 kd, .string (bs t.text), .int .i64 t.pos] 60 (0, 0)))
    (b2 : w.heap[bx2]? = some (.cells #[.int .u8 0, .string (bs []), .int .i64 0, .int .i64 0, .slice none 0 0] 69 (0, 0))) {R : Ending → World → Prop}
    (hR : ∀ w', RP w' pb tb T k (vars ++ [t.text]) d er at_ → (∀ w0, RFr pb w0 w → w0.heap.size ≤ bx → RFr pb w0 w') → R (.returned (.agg #[.int .u8 118, .string (bs []), .int .i64 0, .int .i64 vars.length, .slice none 0 0])) w') :
    VT (.pointer (some ⟨pb, 0, none⟩)) (.pointer (some ⟨bx, 0, none⟩)) (.pointer (some ⟨bx2, 0, none⟩)) w R := by
  have l1 := ltOf hx.cell
  have l2 := ltOf b1
  have l3 := ltOf b2
  obtain ⟨va, vc, hvv⟩ := own_slice hx.own
  subst hvv
  have h3 := hx.cell
  refine ⟨fun w' => w'.heap[pb]? = some (.cells #[.slice (some ⟨tb, 0, none⟩) T.length lc, .int .i64 k, .slice va vars.length vc, .int .i64 d, .int .i64 er, .int .i64 at_] 58 (0, 0)), hx.cell, ?_⟩
  refine rds (.pointer (some ⟨pb, 2, none⟩)) (fun w' hS => ?_) (rds (.slice va vars.length vc) (fun w' hS => ?_) ?_)
  · simp (disch := first | assumption | omega | ((simp only [size_alloc, sz_drew, size_upd, List.size_toArray, List.length_cons, List.length_nil]) <;> omega) | decide) only [sh_Pr_parser_variable, Pr, PX, PC, NX, ends, fillL, wrL, sOf, Nat.reduceAdd, Nat.reduceMul, Nat.reduceLeDiff, Nat.reduceEqDiff, Int.reduceToNat, Int.reduceAdd, Int.reduceLT, Int.reduceLE, ↓reduceIte, forall_const, eq_self, zG1, zG2, al_69, bd_69, br_38_1, fa_58_2, fa_60_1, fa_60_2, ix_38, ld_3, ld_38, ld_69, ld_9, ln_38, st_38, st_69, hS]
  · have := ltOf hS
    simp (disch := first | assumption | omega | ((simp only [size_alloc, sz_drew, size_upd, List.size_toArray, List.length_cons, List.length_nil]) <;> omega) | decide) only [sh_Pr_parser_variable, Pr, PX, PC, NX, ends, fillL, wrL, sOf, Nat.reduceAdd, Nat.reduceMul, Nat.reduceLeDiff, Nat.reduceEqDiff, Int.reduceToNat, Int.reduceAdd, Int.reduceLT, Int.reduceLE, ↓reduceIte, forall_const, eq_self, zG1, zG2, al_69, bd_69, br_38_1, fa_58_2, fa_60_1, fa_60_2, ix_38, ld_3, ld_38, ld_69, ld_9, ln_38, st_38, st_69, hS]
  · simp (disch := first | assumption | omega | ((simp only [size_alloc, sz_drew, size_upd, List.size_toArray, List.length_cons, List.length_nil]) <;> omega) | decide) only [sh_Pr_parser_variable, Pr, PX, PC, NX, ends, fillL, wrL, sOf, Nat.reduceAdd, Nat.reduceMul, Nat.reduceLeDiff, Nat.reduceEqDiff, Int.reduceToNat, Int.reduceAdd, Int.reduceLT, Int.reduceLE, ↓reduceIte, forall_const, eq_self, zG1, zG2, al_69, bd_69, br_38_1, fa_58_2, fa_60_1, fa_60_2, ix_38, ld_3, ld_38, ld_69, ld_9, ln_38, st_38, st_69, h3, b1, b2]
    have hx3 : Ext w (w.drew.alloc (.cells #[.string (bs t.text)] 9)) := (FrM.refl _ _).drew.alloc _
    have hown := own_ext hx3.ext hx.own
    have hv12 := hx.nv
    refine wr_appendS (base := pb + 1) hown (hp_alloc_new (by rw [sz_drew])) (by omega) (by have := hx3.size; omega) ?_
    intro v' w4 hown4 hg4 hv4
    obtain ⟨va', vc', hvv'⟩ := own_slice hown4
    subst hvv'
    have hs4 := hg4.size
    have hs3 := hx3.size
    have kp : ∀ b o, w.heap[b]? = some o → some b ≠ (Value.slice va vars.length vc).ownBlock → w4.heap[b]? = some o := fun b o hb hne => by
      have h1 := hx3.ext _ _ hb
      rw [hg4.block b (ltOf h1) hne]; exact h1
    have p4 := kp _ _ h3 (fun e => by have := (hown.lt _ e.symm).1; omega)
    have b4 := kp _ _ b2 (own_ne hx.own b2 (by decide))
    simp (disch := first | assumption | omega | ((simp only [size_alloc, sz_drew, size_upd, List.size_toArray, List.length_cons, List.length_nil]) <;> omega) | decide) only [sh_Pr_parser_variable, Pr, PX, PC, NX, ends, fillL, wrL, sOf, Nat.reduceAdd, Nat.reduceMul, Nat.reduceLeDiff, Nat.reduceEqDiff, Int.reduceToNat, Int.reduceAdd, Int.reduceLT, Int.reduceLE, ↓reduceIte, forall_const, eq_self, zG1, zG2, al_69, bd_69, br_38_1, fa_58_2, fa_60_1, fa_60_2, ix_38, ld_3, ld_38, ld_69, ld_9, ln_38, st_38, st_69, p4, b4]
    have e1 : ((vars.length + 1 : Nat) : Int) - 1 = vars.length := by omega
    rw [e1]
    have hl : (vars ++ [t.text]).length = vars.length + 1 := by simp
    refine hR _ ⟨lc, .slice va' (vars.length + 1) vc', hx.tw, hx.lt, hx.kt, ?_, hx.dp, ?_, hx.lc1, hx.lc2, ?_, ?_⟩ (fun w0 hf0 hs0 => ?_)
    · rw [hl]
      refine ⟨by omega, fun e => ?_⟩
      omega
    · obtain ⟨cs, c1, c2⟩ := hx.toks
      have := hx.lt
      refine ⟨cs, ?_, c2⟩
      rw [hp_upd_other (by omega), hp_upd_other (by omega)]
      exact kp _ _ c1 (own_ne hx.own c1 (by decide))
    · rw [hp_upd_other (by omega)]
      exact hp_upd_same rfl (ltOf p4)
    · rw [hl, List.map_append]
      refine own_updT (T := 69) (own_upd hown4 (Nat.lt_succ_self _)) (by rw [hp_upd_other (by omega)]; exact b4) (by decide)
    · exact (((hf0.trans hx3.toM).growS hown hg4).upd (.inl fun _ => .inl rfl)).upd (.inr (by omega))
theorem rVariable {pb tb : Nat} {T : List P.Tok} {k : Nat} {vars : List P.Bs} {d : Nat} {w : World} (h : RP w pb tb T k vars d 0 0) (t : P.Tok) (kd : Nat) :
    Calls Tryz.prog 108 #[.pointer (some ⟨pb, 0, none⟩), .agg #[.int .u8 kd, .string (bs t.text), .int .i64 t.pos]] w (RPostX pb tb T d w (P.pVar t k vars)) := by
  obtain ⟨lc, vv, hx⟩ := id h
  have l1 := ltOf hx.cell
  have nv := hx.nv.2 rfl
  obtain ⟨va, vc, hvv⟩ := own_slice hx.own
  subst hvv
  have h3 := hx.cell
  refine sh_Pr_parser_variable_ok ?_
  simp (disch := first | assumption | omega | ((simp only [size_alloc, sz_drew, size_upd, List.size_toArray, List.length_cons, List.length_nil]) <;> omega) | decide) only [sh_Pr_parser_variable, Pr, PX, PC, NX, ends, fillL, wrL, sOf, Nat.reduceAdd, Nat.reduceMul, Nat.reduceLeDiff, Nat.reduceEqDiff, Int.reduceToNat, Int.reduceAdd, Int.reduceLT, Int.reduceLE, ↓reduceIte, forall_const, eq_self, zG1, zG2, al_69, bd_69, br_38_1, fa_58_2, fa_60_1, fa_60_2, ix_38, ld_3, ld_38, ld_69, ld_9, ln_38, st_38, st_69]
  refine ⟨fun n s w1 => ∃ j : Nat, j ≤ vars.length ∧ n = vars.length - j ∧ s 5 = .int .i64 j ∧ Ext ((w.alloc (.cells #[.int .u8 kd, .string (bs t.text), .int .i64 t.pos] 60)).alloc (.cells #[.int .u8 0, .string (bs []), .int .i64 0, .int .i64 0, .slice none 0 0] 69)) w1 ∧
      (t.text ≠ [95] → ∀ i, i < j → vars.getD i [] ≠ t.text) ∧ (t.text = [95] → j = 0),
    ⟨vars.length, 0, Nat.zero_le _, rfl, rfl, FrM.refl _ _, fun _ i hi => absurd hi (Nat.not_lt_zero _), fun _ => rfl⟩, ?_⟩
  intro n s dd w1 hI
  refine toPr ?_
  obtain ⟨j, hj, rfl, h5, hf, hno, hno2⟩ := hI
  have hz := hf.size
  rw [size_alloc, size_alloc] at hz
  have b1 : w1.heap[w.heap.size]? = some (.cells #[.int .u8 kd, .string (bs t.text), .int .i64 t.pos] 60 (0, 0)) := hf.ext _ _ (blk_alloc_old (blk_alloc_new w _))
  have b2 : w1.heap[w.heap.size + 1]? = some (.cells #[.int .u8 0, .string (bs []), .int .i64 0, .int .i64 0, .slice none 0 0] 69 (0, 0)) := hf.ext _ _ (hp_alloc_new (by rw [size_alloc]))
  have hf1 : Ext w w1 := (((FrM.refl _ _).alloc _).alloc _).trans hf
  have hx1 := hx.ext hf1
  have h3 := hx1.cell
  have hv12 : vars.length ≤ 12 := nv
  have hfound : ∀ {w2 : World}, Ext w w2 → t.text ≠ [95] → j < vars.length → vars.getD j [] = t.text →
      RPostX pb tb T d w (P.pVar t k vars) (.returned (.agg #[.int .u8 118, .string (bs []), .int .i64 0, .int .i64 j, .slice none 0 0])) w2 := fun hf2 ht hj hg => by
    have e : vars.idxOf? t.text = some j := by
      rw [List.idxOf?_eq_some_iff]
      refine ⟨hj, ?_, fun i hi => ?_⟩
      · simpa [List.getD, hj] using hg
      · have := hno ht i hi
        simpa [List.getD, show i < vars.length by omega] using this
    unfold P.pVar
    rw [if_neg ht, e]
    exact ⟨_, _, _, _, _, rfl, ⟨rfl, rfl, rfl, rfl, rfl, .of (by decide)⟩, hf2.toM, isRx_var _ _ _, h.ext hf2⟩
  have hend : t.text = [95] ∨ (∀ i, i < vars.length → vars.getD i [] ≠ t.text) → (if t.text = [95] then none else vars.idxOf? t.text) = none := fun h0 => by
    by_cases ht : t.text = [95]
    · rw [if_pos ht]
    · rw [if_neg ht]
      have h0 := h0.resolve_left ht
      rw [List.idxOf?_eq_none_iff]
      intro hm
      obtain ⟨i, hi, e⟩ := List.getElem_of_mem hm
      exact h0 i hi (by simp [List.getD, hi, e])
  have hnew : ∀ {bx2 : Nat}, bx2 = w.heap.size + 1 → (if t.text = [95] then none else vars.idxOf? t.text) = none → vars.length ≠ 12 →
      VT (.pointer (some ⟨pb, 0, none⟩)) (.pointer (some ⟨w.heap.size, 0, none⟩)) (.pointer (some ⟨bx2, 0, none⟩)) w1 (RPostX pb tb T d w (P.pVar t k vars)) := fun hb0 he hne => by
    subst hb0
    refine rVarTail hx1 (.inl (by omega)) l1 (Nat.lt_succ_self _) b1 b2 fun w' hP hF => ?_
    unfold P.pVar
    rw [he]
    dsimp only
    rw [if_neg (show ¬ vars.length = P.maxVars from hne)]
    exact ⟨_, _, _, _, _, rfl, ⟨rfl, rfl, rfl, rfl, rfl, .of (by decide)⟩, hF w hf1.toM (Nat.le_refl _), isRx_var _ _ _, hP⟩
  have hfull : ∀ {bx2 : Nat} {w2 : World}, bx2 = w.heap.size + 1 → (if t.text = [95] then none else vars.idxOf? t.text) = none → vars.length = 12 → RP w2 pb tb T k vars d 4 t.pos → RFr pb w1 w2 →
      VT (.pointer (some ⟨pb, 0, none⟩)) (.pointer (some ⟨w.heap.size, 0, none⟩)) (.pointer (some ⟨bx2, 0, none⟩)) w2 (RPostX pb tb T d w (P.pVar t k vars)) := fun hb0 he hne hP2 hF2 => by
    subst hb0
    obtain ⟨lc2, vv2, hx2⟩ := hP2
    refine rVarTail hx2 (.inr ⟨by decide, by omega⟩) l1 (Nat.lt_succ_self _) (SFr.keep hF2 b1 (by omega) (by decide)) (SFr.keep hF2 b2 (by omega) (by decide)) fun w' hP hF => ?_
    unfold P.pVar
    rw [he]
    dsimp only
    rw [if_pos (show vars.length = P.maxVars from hne)]
    exact ⟨_, _, _, _, _, rfl, ⟨rfl, rfl, rfl, rfl, rfl, .of (by decide)⟩, hF w (hf1.toM.trans hF2) (Nat.le_refl _), by decide, _, _, hP⟩
  by_cases hlt : j < vars.length
  · by_cases ht : t.text = [95]
    · have hj0 := hno2 ht
      subst hj0
      have he := hend (.inl ht)
      by_cases h12 : vars.length = 12
      · simp (disch := first | assumption | omega | ((simp only [size_alloc, sz_drew, size_upd, List.size_toArray, List.length_cons, List.length_nil]) <;> omega) | decide) only [sh_Pr_parser_variable, Pr, PX, PC, NX, ends, fillL, wrL, sOf, Nat.reduceAdd, Nat.reduceMul, Nat.reduceLeDiff, Nat.reduceEqDiff, Int.reduceToNat, Int.reduceAdd, Int.reduceLT, Int.reduceLE, ↓reduceIte, forall_const, eq_self, zG1, zG2, al_69, bd_69, br_38_1, fa_58_2, fa_60_1, fa_60_2, ix_38, ld_3, ld_38, ld_69, ld_9, ln_38, st_38, st_69, h3, b1, b2, h5, ht, h12]
        refine (rFault (RP.of hx1) 4 _).mono ?_
        rintro e w2 ⟨rfl, hP2, hF2⟩
        rw [if_pos rfl, if_pos rfl] at hP2
        exact fun _ => hfull (by rw [size_alloc]) he h12 hP2 hF2
      · simp (disch := first | assumption | omega | ((simp only [size_alloc, sz_drew, size_upd, List.size_toArray, List.length_cons, List.length_nil]) <;> omega) | decide) only [sh_Pr_parser_variable, Pr, PX, PC, NX, ends, fillL, wrL, sOf, Nat.reduceAdd, Nat.reduceMul, Nat.reduceLeDiff, Nat.reduceEqDiff, Int.reduceToNat, Int.reduceAdd, Int.reduceLT, Int.reduceLE, ↓reduceIte, forall_const, eq_self, zG1, zG2, al_69, bd_69, br_38_1, fa_58_2, fa_60_1, fa_60_2, ix_38, ld_3, ld_38, ld_69, ld_9, ln_38, st_38, st_69, h3, b1, b2, h5, ht]
        exact hnew (by rw [size_alloc]) he h12
    · obtain ⟨g, cap, cur, hvv, hg1, hg2, hg3⟩ := own_str hx1.own hlt
      injection hvv with hva _ hvc
      subst hva
      subst hvc
      have lg := ltOf hg2
      by_cases he : vars.getD j [] = t.text
      · rw [he] at hg3
        simp (disch := first | assumption | omega | ((simp only [size_alloc, sz_drew, size_upd, List.size_toArray, List.length_cons, List.length_nil]) <;> omega) | decide) only [sh_Pr_parser_variable, Pr, PX, PC, NX, ends, fillL, wrL, sOf, Nat.reduceAdd, Nat.reduceMul, Nat.reduceLeDiff, Nat.reduceEqDiff, Int.reduceToNat, Int.reduceAdd, Int.reduceLT, Int.reduceLE, ↓reduceIte, forall_const, eq_self, zG1, zG2, al_69, bd_69, br_38_1, fa_58_2, fa_60_1, fa_60_2, ix_38, ld_3, ld_38, ld_69, ld_9, ln_38, st_38, st_69, h3, b1, b2, h5, hg2, hg3]
        exact hfound (hf1.drew.upd (.inr (by omega))) ht hlt he
      · simp (disch := first | assumption | omega | ((simp only [size_alloc, sz_drew, size_upd, List.size_toArray, List.length_cons, List.length_nil]) <;> omega) | decide) only [sh_Pr_parser_variable, Pr, PX, PC, NX, ends, fillL, wrL, sOf, Nat.reduceAdd, Nat.reduceMul, Nat.reduceLeDiff, Nat.reduceEqDiff, Int.reduceToNat, Int.reduceAdd, Int.reduceLT, Int.reduceLE, ↓reduceIte, forall_const, eq_self, zG1, zG2, al_69, bd_69, br_38_1, fa_58_2, fa_60_1, fa_60_2, ix_38, ld_3, ld_38, ld_69, ld_9, ln_38, st_38, st_69, h3, b1, b2, h5, hg2, hg3]
        refine ⟨vars.length - (j + 1), by omega, j + 1, by omega, rfl, rfl, hf.drew, fun _ i hi => ?_, fun h => absurd h ht⟩
        rcases Nat.lt_or_ge i j with h1 | h1
        · exact hno ht i h1
        · obtain rfl : i = j := by omega
          exact he
  · have he := hend (by
      by_cases ht : t.text = [95]
      · exact .inl ht
      · exact .inr fun i hi => hno ht i (by omega))
    by_cases h12 : vars.length = 12
    · simp (disch := first | assumption | omega | ((simp only [size_alloc, sz_drew, size_upd, List.size_toArray, List.length_cons, List.length_nil]) <;> omega) | decide) only [sh_Pr_parser_variable, Pr, PX, PC, NX, ends, fillL, wrL, sOf, Nat.reduceAdd, Nat.reduceMul, Nat.reduceLeDiff, Nat.reduceEqDiff, Int.reduceToNat, Int.reduceAdd, Int.reduceLT, Int.reduceLE, ↓reduceIte, forall_const, eq_self, zG1, zG2, al_69, bd_69, br_38_1, fa_58_2, fa_60_1, fa_60_2, ix_38, ld_3, ld_38, ld_69, ld_9, ln_38, st_38, st_69, h3, b1, b2, h5, h12]
      refine (rFault (RP.of hx1) 4 _).mono ?_
      rintro e w2 ⟨rfl, hP2, hF2⟩
      rw [if_pos rfl, if_pos rfl] at hP2
      exact fun _ => hfull (by rw [size_alloc]) he h12 hP2 hF2
    · simp (disch := first | assumption | omega | ((simp only [size_alloc, sz_drew, size_upd, List.size_toArray, List.length_cons, List.length_nil]) <;> omega) | decide) only [sh_Pr_parser_variable, Pr, PX, PC, NX, ends, fillL, wrL, sOf, Nat.reduceAdd, Nat.reduceMul, Nat.reduceLeDiff, Nat.reduceEqDiff, Int.reduceToNat, Int.reduceAdd, Int.reduceLT, Int.reduceLE, ↓reduceIte, forall_const, eq_self, zG1, zG2, al_69, bd_69, br_38_1, fa_58_2, fa_60_1, fa_60_2, ix_38, ld_3, ld_38, ld_69, ld_9, ln_38, st_38, st_69, h3, b1, b2, h5]
      exact hnew (by rw [size_alloc]) he h12
end Go.Proofs.YtkmpelgfhjgddaaGreatDoor
