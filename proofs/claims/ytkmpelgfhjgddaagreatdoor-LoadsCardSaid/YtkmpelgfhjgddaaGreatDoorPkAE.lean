/- A part of one proof (RW23); no conditions beyond what each theorem names. -/
import Derived.Test.YtkmpelgfhjgddaaGreatDoorPkAD
import Derived.Test.YtkmpelgfhjgddaaGreatDoorPkG
set_option linter.all false
set_option linter.unusedVariables false
set_option linter.unusedSimpArgs false
namespace Go.Proofs.YtkmpelgfhjgddaaGreatDoor
open Go.RowKit Sx
set_option maxRecDepth 100000
theorem take_at {cs : Array Value} {vs : List Value} {m i j : Nat} (h : cs.toList.take m = vs) (hi : i + j < m) (l : List Value) (hl : (vs.drop i).take l.length = l) (hj : j < l.length) : cs[i + j]? = l[j]? := by
  have h1 : vs[i + j]? = l[j]? := by
    have := congrArg (fun x : List Value => x[j]?) hl
    simp only [List.getElem?_take_of_lt hj, List.getElem?_drop] at this
    exact this
  rw [← h1, ← h, List.getElem?_take_of_lt hi, Array.getElem?_toList]
theorem sizeOf_args {xs : List P.Ex} {x : P.Ex} (h : x ∈ xs) : SizeOf.sizeOf x.args < SizeOf.sizeOf xs := by
  have h1 := List.sizeOf_lt_of_mem h
  cases x with
  | mk kind name n k args =>
    simp only [P.Ex.args, P.Ex.mk.sizeOf_spec] at h1 ⊢
    omega
theorem rSize : ∀ (xs : List P.Ex) (F : Nat → Prop) (w : World) (v : Value) (vs : List Value), IsRw F w 69 5 v xs.length vs → IsRxs F w vs xs →
    Calls Tryz.prog 19 #[v] w fun e w' => w' = w ∧ ∃ z : Int, e = .returned (.int .i64 z)
  | xs, F, w, v, vs, h1, h2 => by
    refine sh_r_size_ok ?_
    obtain ⟨va, vc, hv⟩ := h1.shape
    refine ⟨fun n t w' => w' = w ∧ ∃ i z, n = xs.length - i ∧ i ≤ xs.length ∧ t 4 = .int .i64 ((i : Nat) : Int) ∧ t 3 = .int .i64 z, ⟨_, rfl, 0, 0, rfl, Nat.zero_le _, rfl, rfl⟩, ?_⟩
    intro n t dd w1 hI
    refine toPr ?_
    obtain ⟨rfl, i, z, rfl, hi, h4, h3⟩ := hI
    by_cases hlt : i < xs.length
    · rcases h1 with ⟨h0, _, _⟩ | ⟨b, cap, cs, rfl, hb, hc, hm, ht, hn63⟩
      · omega
      have hx := IsRxs.at i hlt h2
      obtain ⟨x, hxe⟩ : ∃ x, x = xs[i] := ⟨_, rfl⟩
      rw [← hxe] at hx
      have hmem : x ∈ xs := hxe ▸ List.getElem_mem hlt
      have hdec := sizeOf_args hmem
      obtain ⟨kind, name, nn, kk, args⟩ := x
      have hx2 := hx
      unfold IsRx at hx2
      obtain ⟨av, us, e5, g1, g2⟩ := hx2
      have hcell : cs[i * 5 + 4]? = some av := by
        have := take_at (j := 4) ht (i := 5 * i) (by omega) [.int .u8 kind, .string (bs name), .int .i64 nn, .int .i64 kk, av] (by simpa using e5) (by simp)
        rw [show i * 5 + 4 = 5 * i + 4 by omega, this]
        rfl
      simp (disch := first | assumption | omega | ((simp only [size_alloc, sz_drew, size_upd, List.size_toArray, List.length_cons, List.length_nil]) <;> omega) | decide) only [sh_r_size, Pr, PX, PC, NX, ends, fillL, wrL, sOf, Nat.reduceAdd, Nat.reduceMul, Nat.reduceLeDiff, Nat.reduceEqDiff, Int.reduceToNat, Int.reduceAdd, Int.reduceLT, Int.reduceLE, ↓reduceIte, forall_const, eq_self, zG1, zG2, fa_69_4, ix_34, ld_34, ln_34, h4, h3, hc, hcell]
      refine (rSize args F w1 av us g1 g2).mono ?_
      rintro e w2 ⟨rfl, z2, rfl⟩
      simp (disch := first | assumption | omega | ((simp only [size_alloc, sz_drew, size_upd, List.size_toArray, List.length_cons, List.length_nil]) <;> omega) | decide) only [sh_r_size, Pr, PX, PC, NX, ends, fillL, wrL, sOf, Nat.reduceAdd, Nat.reduceMul, Nat.reduceLeDiff, Nat.reduceEqDiff, Int.reduceToNat, Int.reduceAdd, Int.reduceLT, Int.reduceLE, ↓reduceIte, forall_const, eq_self, zG1, zG2, fa_69_4, ix_34, ld_34, ln_34, h4, h3]
      exact ⟨xs.length - (i + 1), by omega, i + 1, _, rfl, by omega, by simp, rfl⟩
    · rw [hv]
      simp (disch := first | assumption | omega | ((simp only [size_alloc, sz_drew, size_upd, List.size_toArray, List.length_cons, List.length_nil]) <;> omega) | decide) only [sh_r_size, Pr, PX, PC, NX, ends, fillL, wrL, sOf, Nat.reduceAdd, Nat.reduceMul, Nat.reduceLeDiff, Nat.reduceEqDiff, Int.reduceToNat, Int.reduceAdd, Int.reduceLT, Int.reduceLE, ↓reduceIte, forall_const, eq_self, zG1, zG2, fa_69_4, ix_34, ld_34, ln_34, h4, h3]
      exact ⟨_, rfl⟩
  termination_by xs => SizeOf.sizeOf xs
  decreasing_by exact hdec
theorem IsRbs.at {F : Nat → Prop} {w : World} : ∀ {xs : List P.Bd} {vs : List Value} (j : Nat) (hj : j < xs.length), IsRbs F w vs xs → IsRb F w ((vs.drop (4 * j)).take 4) xs[j]
  | x :: xs, vs, 0, _, h => by
    unfold IsRbs at h
    obtain ⟨l, r, rfl, h2, h3⟩ := h
    obtain ⟨a, b, c, d, rfl, -⟩ := h2.len
    exact h2
  | x :: xs, vs, j + 1, hj, h => by
    unfold IsRbs at h
    obtain ⟨l, r, rfl, h2, h3⟩ := h
    obtain ⟨a, b, c, d, rfl, -⟩ := h2.len
    have := IsRbs.at (w := w) (F := F) j (by simpa using hj) h3
    have e1 : 4 * (j + 1) = 4 + 4 * j := by omega
    rw [e1, ← List.drop_drop]
    exact this
theorem keepsExt {F : Nat → Prop} {et : Nat} {w w' : World} (h : Ext w w') : Keeps F et w w' := fun b _ _ hb => h.ext b _ hb
theorem sizeOf_parts {xs : List P.Bd} {x : P.Bd} (h : x ∈ xs) {kind : Nat} {name : P.Bs} {args : List P.Ex} : SizeOf.sizeOf x < SizeOf.sizeOf (P.Bd.mk kind name args xs) := by
  have h1 := List.sizeOf_lt_of_mem h
  simp only [P.Bd.mk.sizeOf_spec]
  omega
theorem rWeight : ∀ (x : P.Bd) (F : Nat → Prop) (w : World) (l : List Value), IsRb F w l x →
    Calls Tryz.prog 20 #[.agg l.toArray] w fun e w' => Ext w w' ∧ ∃ z : Int, e = .returned (.int .i64 z)
  | .mk kind name args parts, F, w, l, h => by
    have hh := h
    unfold IsRb at h
    obtain ⟨av, pv, vs, us, rfl, g1, g2, g3, g4⟩ := h
    obtain ⟨va, vc, hav⟩ := g1.shape
    obtain ⟨pa, pc, hpv⟩ := g3.shape
    refine sh_r_weight_ok ?_
    subst hav hpv
    simp (disch := first | assumption | omega | ((simp only [size_alloc, sz_drew, size_upd, List.size_toArray, List.length_cons, List.length_nil]) <;> omega) | decide) only [sh_r_weight, Pr, PX, PC, NX, ends, fillL, wrL, sOf, Nat.reduceAdd, Nat.reduceMul, Nat.reduceLeDiff, Nat.reduceEqDiff, Int.reduceToNat, Int.reduceAdd, Int.reduceLT, Int.reduceLE, ↓reduceIte, forall_const, eq_self, zG1, zG2, fa_37_0, fa_37_2, fa_37_3, ix_35, ld_34, ld_35, ld_37, ld_5, ln_35]
    obtain ⟨wA, hwA⟩ : ∃ x, x = w.alloc (.cells #[.int .u8 kind, .string (bs name), .slice va args.length vc, .slice pa parts.length pc] 37 (0, 0)) := ⟨_, rfl⟩
    have hE : Ext w wA := by rw [hwA]; exact FrM.alloc (FrM.refl _ _) _
    have hx : wA.heap[w.heap.size]? = some (.cells #[.int .u8 kind, .string (bs name), .slice va args.length vc, .slice pa parts.length pc] 37 (0, 0)) := by rw [hwA]; exact Array.getElem?_push_size
    rw [← hwA]
    refine (rSize args F _ _ vs (g1.mono (fun _ h => h) (keepsExt hE)) (IsRxs.mono (fun _ h => h) (keepsExt hE) _ _ g2)).mono ?_
    rintro e w2 ⟨rfl, z, rfl⟩
    simp (disch := first | assumption | omega | ((simp only [size_alloc, sz_drew, size_upd, List.size_toArray, List.length_cons, List.length_nil]) <;> omega) | decide) only [sh_r_weight, Pr, PX, PC, NX, ends, fillL, wrL, sOf, Nat.reduceAdd, Nat.reduceMul, Nat.reduceLeDiff, Nat.reduceEqDiff, Int.reduceToNat, Int.reduceAdd, Int.reduceLT, Int.reduceLE, ↓reduceIte, forall_const, eq_self, zG1, zG2, fa_37_0, fa_37_2, fa_37_3, ix_35, ld_34, ld_35, ld_37, ld_5, ln_35]
    refine ⟨fun s w' => w' = w2 ∧ ∃ z : Int, s 3 = .int .i64 z, ?_, ?_⟩
    · refine ⟨fun s w' => w' = w2 ∧ ∃ b : Bool, s 16 = .bool b, ?_, ?_⟩
      · by_cases hk : kind = 63
        · subst hk
          simp (disch := first | assumption | omega | ((simp only [size_alloc, sz_drew, size_upd, List.size_toArray, List.length_cons, List.length_nil]) <;> omega) | decide) only [sh_r_weight, Pr, PX, PC, NX, ends, fillL, wrL, sOf, Nat.reduceAdd, Nat.reduceMul, Nat.reduceLeDiff, Nat.reduceEqDiff, Int.reduceToNat, Int.reduceAdd, Int.reduceLT, Int.reduceLE, ↓reduceIte, forall_const, eq_self, zG1, zG2, fa_37_0, fa_37_2, fa_37_3, ix_35, ld_34, ld_35, ld_37, ld_5, ln_35, hx]
          exact ⟨_, rfl⟩
        · have e1 : ((kind : Int) == 63) = false := by simpa using (by omega : (kind : Int) ≠ 63)
          simp (disch := first | assumption | omega | ((simp only [size_alloc, sz_drew, size_upd, List.size_toArray, List.length_cons, List.length_nil]) <;> omega) | decide) only [sh_r_weight, Pr, PX, PC, NX, ends, fillL, wrL, sOf, Nat.reduceAdd, Nat.reduceMul, Nat.reduceLeDiff, Nat.reduceEqDiff, Int.reduceToNat, Int.reduceAdd, Int.reduceLT, Int.reduceLE, ↓reduceIte, forall_const, eq_self, zG1, zG2, fa_37_0, fa_37_2, fa_37_3, ix_35, ld_34, ld_35, ld_37, ld_5, ln_35, hx, e1]
          exact ⟨_, rfl⟩
      · rintro s w' ⟨rfl, b, hb⟩ d
        cases b <;> simp (disch := first | assumption | omega | ((simp only [size_alloc, sz_drew, size_upd, List.size_toArray, List.length_cons, List.length_nil]) <;> omega) | decide) only [sh_r_weight, Pr, PX, PC, NX, ends, fillL, wrL, sOf, Nat.reduceAdd, Nat.reduceMul, Nat.reduceLeDiff, Nat.reduceEqDiff, Int.reduceToNat, Int.reduceAdd, Int.reduceLT, Int.reduceLE, ↓reduceIte, forall_const, eq_self, zG1, zG2, fa_37_0, fa_37_2, fa_37_3, ix_35, ld_34, ld_35, ld_37, ld_5, ln_35, hb]
        · exact ⟨_, rfl⟩
        · exact ⟨_, rfl⟩
    · rintro s w' ⟨rfl, z2, hz⟩ d
      refine ⟨fun n t w'' => Ext w w'' ∧ w''.heap[w.heap.size]? = some (.cells #[.int .u8 kind, .string (bs name), .slice va args.length vc, .slice pa parts.length pc] 37 (0, 0)) ∧
        ∃ i z, n = parts.length - i ∧ i ≤ parts.length ∧ t 4 = .int .i64 ((i : Nat) : Int) ∧ t 3 = .int .i64 z, ⟨_, hE, hx, 0, z2, rfl, Nat.zero_le _, rfl, hz⟩, ?_⟩
      intro n t dd w3 hI
      refine toPr ?_
      obtain ⟨hE3, hx3, i, z3, rfl, hi, h4, h3⟩ := hI
      by_cases hlt : i < parts.length
      · have g3' := g3
        rcases g3 with ⟨h0, _, _⟩ | ⟨b, cap, cs, hvv, hb, hc, hm, ht, hn63⟩
        · omega
        have hy := (IsRbs.at i hlt g4).mono (F' := F) (fun _ h => h) (keepsExt hE3) (keepsExt hE3)
        obtain ⟨y, hye⟩ : ∃ y, y = parts[i] := ⟨_, rfl⟩
        rw [← hye] at hy
        have hmem : y ∈ parts := hye ▸ List.getElem_mem hlt
        have hdec : SizeOf.sizeOf y < SizeOf.sizeOf (P.Bd.mk kind name args parts) := sizeOf_parts hmem
        have hc3 := hE3.ext b _ hc
        have q : List.take 4 (List.drop (i * 4) cs.toList) = List.take 4 (List.drop (4 * i) us) := by
          rw [← ht, List.drop_take, List.take_take, Nat.min_eq_left (by omega), Nat.mul_comm i 4]
        obtain ⟨rfl, rfl⟩ : pa = some ⟨b, 0, none⟩ ∧ pc = cap := by simpa using hvv
        simp (disch := first | assumption | omega | ((simp only [size_alloc, sz_drew, size_upd, List.size_toArray, List.length_cons, List.length_nil]) <;> omega) | decide) only [sh_r_weight, Pr, PX, PC, NX, ends, fillL, wrL, sOf, Nat.reduceAdd, Nat.reduceMul, Nat.reduceLeDiff, Nat.reduceEqDiff, Int.reduceToNat, Int.reduceAdd, Int.reduceLT, Int.reduceLE, ↓reduceIte, forall_const, eq_self, zG1, zG2, fa_37_0, fa_37_2, fa_37_3, ix_35, ld_34, ld_35, ld_37, ld_5, ln_35, hx3, h4, h3, hc3]
        rw [q]
        refine (rWeight y F w3 _ hy).mono ?_
        rintro e w4 ⟨hE4, z4, rfl⟩
        simp (disch := first | assumption | omega | ((simp only [size_alloc, sz_drew, size_upd, List.size_toArray, List.length_cons, List.length_nil]) <;> omega) | decide) only [sh_r_weight, Pr, PX, PC, NX, ends, fillL, wrL, sOf, Nat.reduceAdd, Nat.reduceMul, Nat.reduceLeDiff, Nat.reduceEqDiff, Int.reduceToNat, Int.reduceAdd, Int.reduceLT, Int.reduceLE, ↓reduceIte, forall_const, eq_self, zG1, zG2, fa_37_0, fa_37_2, fa_37_3, ix_35, ld_34, ld_35, ld_37, ld_5, ln_35, h4, h3]
        exact ⟨_, by omega, hE3.trans hE4, hE4.ext _ _ hx3, i + 1, _, rfl, by omega, by simp, rfl⟩
      · simp (disch := first | assumption | omega | ((simp only [size_alloc, sz_drew, size_upd, List.size_toArray, List.length_cons, List.length_nil]) <;> omega) | decide) only [sh_r_weight, Pr, PX, PC, NX, ends, fillL, wrL, sOf, Nat.reduceAdd, Nat.reduceMul, Nat.reduceLeDiff, Nat.reduceEqDiff, Int.reduceToNat, Int.reduceAdd, Int.reduceLT, Int.reduceLE, ↓reduceIte, forall_const, eq_self, zG1, zG2, fa_37_0, fa_37_2, fa_37_3, ix_35, ld_34, ld_35, ld_37, ld_5, ln_35, hx3, h4, h3]
        exact ⟨hE3, _, rfl⟩
  termination_by x => SizeOf.sizeOf x
  decreasing_by exact hdec
theorem rClauseSize (c : P.Cl) (F : Nat → Prop) (w : World) (l : List Value) (h : IsRc F w l c) :
    Calls Tryz.prog 9 #[.agg l.toArray] w fun e w' => Ext w w' ∧ ∃ z : Int, e = .returned (.int .i64 z) := by
  obtain ⟨av, vs, b0, b1, b2, b3, va, vc, rfl, g1, g2, g3⟩ := h
  obtain ⟨a, b, c', d, hl, o0, o1, o2, o3⟩ := g3.len
  simp only [List.cons.injEq, and_true] at hl
  obtain ⟨rfl, rfl, rfl, rfl⟩ := hl
  obtain ⟨xa, xc, hav⟩ := g1.shape
  subst hav
  refine sh_r_Clause_Size_ok ?_
  simp (disch := first | assumption | omega | ((simp only [size_alloc, sz_drew, size_upd, List.size_toArray, List.length_cons, List.length_nil]) <;> omega) | decide) only [sh_r_Clause_Size, Pr, PX, PC, NX, ends, fillL, wrL, sOf, Nat.reduceAdd, Nat.reduceMul, Nat.reduceLeDiff, Nat.reduceEqDiff, Int.reduceToNat, Int.reduceAdd, Int.reduceLT, Int.reduceLE, ↓reduceIte, forall_const, eq_self, jn_e, nc_ptr, nc_iface, nc_func, bs_true, bs_false, bs_pos, bs_neg, bo_add, bo_sub, bo_mul, bo_lss, bo_leq, bo_gtr, bo_geq, bo_eql, bo_neq, bo_eqs, bo_nes, un_not, un_neg, rd_extract0, rd_extract1, rd_extract2, rd_panic_iface, wr_func, wr_box, ldK_e, ldV_some, xaK_some, ldN_e, stK_e, blK_some, brK_some, hp_alloc_old, hp_alloc_new, hp_upd_same, hp_upd_other, hp_drew, sz_drew, size_upd, size_alloc, upd_upd, cells_agg, cells_aggA, cells_stringA, cells_intA, cells_sliceA, cells_pointerA, cells_int, cells_bool, cells_string, cells_slice, cells_pointer, cells_iface, cells_nilIface, cells_func, cells_map, one_int, one_bool, one_string, one_slice, one_pointer, one_iface, one_nilIface, one_func, one_map, i64w, u8w, df_func, lv_ret, lv_panic, Int.toNat_natCast, Option.isNone_none, Option.isNone_some, List.getElem?_toArray, List.getElem?_cons_zero, List.getElem?_cons_succ, List.setIfInBounds_toArray, List.set_cons_zero, List.set_cons_succ, List.size_toArray, List.length_cons, List.length_nil, List.drop_zero, List.drop_succ_cons, List.take_succ_cons, List.take_zero, List.take_nil, List.drop_nil, List.all_cons, List.all_nil, Bool.and_true, Bool.true_and, Nat.zero_add, Nat.add_zero, Nat.mul_one, and_self, and_true, true_and, decide_true, decide_false, Bool.not_true, Bool.not_false, not_true_eq_false, not_false_eq_true, fa_40_1, fa_40_2, ld_34, ld_37]
  obtain ⟨wA, hwA⟩ : ∃ x, x = (w.alloc (.cells #[.string (bs c.name), .slice xa c.args.length xc, b0, b1, b2, b3, .slice va c.vars.length vc] 40 (0, 0))).drew := ⟨_, rfl⟩
  have hE : Ext w wA := by rw [hwA]; exact FrM.drew (FrM.alloc (FrM.refl _ _) _)
  have hx : wA.heap[w.heap.size]? = some (.cells #[.string (bs c.name), .slice xa c.args.length xc, b0, b1, b2, b3, .slice va c.vars.length vc] 40 (0, 0)) := by rw [hwA]; exact Array.getElem?_push_size
  rw [← hwA]
  refine ⟨fun w' => w'.heap[w.heap.size]? = some (.cells #[.string (bs c.name), .slice xa c.args.length xc, b0, b1, b2, b3, .slice va c.vars.length vc] 40 (0, 0)), hx, ?_⟩
  refine rds (.pointer (some ⟨w.heap.size, 1, none⟩)) (fun w' h => by simp (disch := first | assumption | omega | ((simp only [size_alloc, sz_drew, size_upd, List.size_toArray, List.length_cons, List.length_nil]) <;> omega) | decide) only [sh_r_Clause_Size, Pr, PX, PC, NX, ends, fillL, wrL, sOf, Nat.reduceAdd, Nat.reduceMul, Nat.reduceLeDiff, Nat.reduceEqDiff, Int.reduceToNat, Int.reduceAdd, Int.reduceLT, Int.reduceLE, ↓reduceIte, forall_const, eq_self, zG1, zG2, fa_40_1, fa_40_2, ld_34, ld_37, h]) ?_
  refine rds (.slice xa c.args.length xc) (fun w' h => by simp (disch := first | assumption | omega | ((simp only [size_alloc, sz_drew, size_upd, List.size_toArray, List.length_cons, List.length_nil]) <;> omega) | decide) only [sh_r_Clause_Size, Pr, PX, PC, NX, ends, fillL, wrL, sOf, Nat.reduceAdd, Nat.reduceMul, Nat.reduceLeDiff, Nat.reduceEqDiff, Int.reduceToNat, Int.reduceAdd, Int.reduceLT, Int.reduceLE, ↓reduceIte, forall_const, eq_self, zG1, zG2, fa_40_1, fa_40_2, ld_34, ld_37, h]) ?_
  refine rds (.pointer (some ⟨w.heap.size, 2, none⟩)) (fun w' h => by simp (disch := first | assumption | omega | ((simp only [size_alloc, sz_drew, size_upd, List.size_toArray, List.length_cons, List.length_nil]) <;> omega) | decide) only [sh_r_Clause_Size, Pr, PX, PC, NX, ends, fillL, wrL, sOf, Nat.reduceAdd, Nat.reduceMul, Nat.reduceLeDiff, Nat.reduceEqDiff, Int.reduceToNat, Int.reduceAdd, Int.reduceLT, Int.reduceLE, ↓reduceIte, forall_const, eq_self, zG1, zG2, fa_40_1, fa_40_2, ld_34, ld_37, h]) ?_
  refine rds (.agg #[b0, b1, b2, b3]) (fun w' h => by simp (disch := first | assumption | omega | ((simp only [size_alloc, sz_drew, size_upd, List.size_toArray, List.length_cons, List.length_nil]) <;> omega) | decide) only [sh_r_Clause_Size, Pr, PX, PC, NX, ends, fillL, wrL, sOf, Nat.reduceAdd, Nat.reduceMul, Nat.reduceLeDiff, Nat.reduceEqDiff, Int.reduceToNat, Int.reduceAdd, Int.reduceLT, Int.reduceLE, ↓reduceIte, forall_const, eq_self, zG1, zG2, fa_40_1, fa_40_2, ld_34, ld_37, h]) ?_
  refine (rSize c.args F _ _ vs (g1.mono (fun _ h => h) (keepsExt hE)) (IsRxs.mono (fun _ h => h) (keepsExt hE) _ _ g2)).mono ?_
  rintro e w2 ⟨rfl, z, rfl⟩
  refine ⟨hx, ?_⟩
  refine (rWeight c.body F w2 _ (g3.mono (F' := F) (fun _ h => h) (keepsExt hE) (keepsExt hE))).mono ?_
  rintro e w3 ⟨hE3, z3, rfl⟩
  simp (disch := first | assumption | omega | ((simp only [size_alloc, sz_drew, size_upd, List.size_toArray, List.length_cons, List.length_nil]) <;> omega) | decide) only [sh_r_Clause_Size, Pr, PX, PC, NX, ends, fillL, wrL, sOf, Nat.reduceAdd, Nat.reduceMul, Nat.reduceLeDiff, Nat.reduceEqDiff, Int.reduceToNat, Int.reduceAdd, Int.reduceLT, Int.reduceLE, ↓reduceIte, forall_const, eq_self, zG1, zG2, fa_40_1, fa_40_2, ld_34, ld_37]
  exact ⟨hE.trans hE3, _, rfl⟩
end Go.Proofs.YtkmpelgfhjgddaaGreatDoor
