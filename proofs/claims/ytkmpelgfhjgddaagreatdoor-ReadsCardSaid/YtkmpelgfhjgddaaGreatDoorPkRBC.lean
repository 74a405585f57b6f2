/- A part of one proof (SList, SPrim); no conditions beyond what each theorem names. -/
import Derived.Test.YtkmpelgfhjgddaaGreatDoorPkRBB
import Derived.Deep.Cut
set_option linter.all false
set_option linter.unusedVariables false
set_option linter.unusedSimpArgs false
namespace Go.Proofs.YtkmpelgfhjgddaaGreatDoor
open Go.RowKit
set_option linter.unusedVariables false
theorem calls_of_marks {P : Program} {f : FuncId} {fn : Func} {c : Code} {args : Array Value} {w : World} {R : Ending → World → Prop}
    (hf : P.funcs[f]? = some fn) (hb : fn.body = some c)
    (h : c.wp P (bodyPostM Fence.wide 3 P fn R) { tmps := args ++ Array.replicate (fn.ntmps - args.size) undef, defers := [] } w) : Calls P f args w R :=
  callsIn_wide.1 (callsIn_of_wp_marks (n := 3) hf hb trivial (wpIn_wide.2 h) rfl)
theorem marks_ret {P : Program} {fn : Func} {R : Ending → World → Prop} {tmps : Array Value} {w : World} {v : Value} (hr : (results fn tmps).run P w = .ok v w) (hR : R (.returned v) w) :
    bodyPostM Fence.wide 3 P fn R .ret { tmps := tmps, defers := [] } w := ⟨v, hr, hR⟩
set_option maxRecDepth 100000 in
set_option maxHeartbeats 1000000 in
theorem sList_nil {pb tb : Nat} {T : List P.Tok} {k : Nat} {vars : List P.Bs} {d : Nat} {w : World} (hp : SP w pb tb T k vars d) (hc : P.isT T k [93] = true) :
    Calls Tryz.prog 114 #[.pointer (some ⟨pb, 0, none⟩)] w (SPost IsEx pb tb T d w (.ok (.mk 97 [91, 93] 0 0 []) (k + 1) vars)) := by
  have hp1 := Lib.hid (hp.ext (w' := w.alloc (Obj.cells #[.int .u8 97, .string (bs [91, 93]), .int .i64 0, .int .i64 0, .slice none 0 0] 177)) fun b o h => blk_alloc_old h)
  have HC := Lib.hid hc
  have hpb := hp.d2.2.2
  clear hp hc
  refine calls_of_marks Tryz.func114 rfl ?_
  simp only [Tryz.ntmps114, List.size_toArray, List.length_cons, List.length_nil, Nat.reduceAdd, Nat.reduceSub, Array.replicate_succ, Array.replicate_zero, List.push_toArray, List.append_toArray, List.nil_append, List.cons_append]
  go_wp2_with fail
  refine (sIs_yes hp1.out [93] HC.out).mono ?_
  rintro e w3 ⟨rfl, hp3, hf3⟩
  have HP3 := Lib.hid hp3
  have HF3 := Lib.hid hf3
  clear hp3 hf3
  go_wp2_with fail
  refine marks_ret (results_tmp rfl _ _ _) ⟨_, rfl, ?_, HP3.out, ((FrM.refl _ _).alloc _).trans HF3.out⟩
  have hz := HF3.out.size
  rw [size_alloc] at hz
  exact isEx_leaf ⟨Nat.le_refl _, by omega⟩ (SFr.keep HF3.out (blk_alloc_new _ _) (by omega) (by decide))
abbrev nilObj : Obj := .cells #[.int .u8 97, .string (bs [91, 93]), .int .i64 0, .int .i64 0, .slice none 0 0] 177
def LJ (pb tb : Nat) (T : List P.Tok) (d : Nat) (w0 : World) (re : P.Res (List P.Ex)) (n : Nat) (a : Act) (w : World) : Prop :=
  ∃ (acc : List P.Ex) (k : Nat) (vs : List P.Bs) (xs : List Value) (sl u1 u2 u5 u6 u7 u8 u9 u10 u11 u12 u13 u14 u15 u16 u17 u18 u19 u20 u21 u22 u23 u24 u25 u26 u27 u28 u29 u30 u31 u32 u33 u34 u35 u36 u37 u38 u39 : Value), a = { tmps := #[.pointer (some ⟨pb, 0, none⟩), u1, u2, .pointer (some ⟨w0.heap.size, 0, none⟩), sl, u5, u6, u7, u8, u9, u10, u11, u12, u13, u14, u15, u16, u17, u18, u19, u20, u21, u22, u23, u24, u25, u26, u27, u28, u29, u30, u31, u32, u33, u34, u35, u36, u37, u38, u39], defers := [] } ∧
    w.ownsRow w0.heap.size 124 1 sl acc.length xs ∧ IsExs (fun b => Nu w0 w b ∧ sl.ownBlock ≠ some b) w xs acc ∧ SP w pb tb T k vs d ∧ SFr pb w0 w ∧ 0 < acc.length ∧ acc.length ≤ k ∧
    w.heap[w0.heap.size]? = some nilObj ∧ (if P.isT T k [44] then P.pElems T n (k + 1) vs d acc else some (.ok acc k vs)) = some re
noncomputable def listT : Code := match Tryz.f114.body with
  | some (.seq _ (.seq _ (.seq _ (.seq _ (.seq _ (.seq _ (.seq _ c))))))) => c
  | _ => .skip
noncomputable def listR : Code := match listT with | .seq c _ => c | _ => .skip
noncomputable def listS : Code := match listT with | .seq _ c => c | _ => .skip
theorem grown_cells {A B : World} {row : Option Nat} (hg : A.grownBy B row) (hr : ∀ r, row = some r → ∃ o : Obj, A.heap[r]? = some o ∧ o.isCells = false) (b : Nat) (cs : Array Value) (t : TypeId) (z : Nat × Nat)
    (h : A.heap[b]? = some (.cells cs t z)) : B.heap[b]? = some (.cells cs t z) := by
  rw [hg.block b (ltOf h) (fun e => by
    obtain ⟨o, ho, hc⟩ := hr b e.symm
    rw [h] at ho
    injection ho with ho
    subst ho
    cases hc)]
  exact h
theorem blk_new1' {w : World} {o o' : Obj} {n : Nat} (ho : o' = o) (h : n = w.heap.size) : (w.alloc o).heap[n]? = some o' := by subst h; subst ho; exact blk_alloc_new w _
def LI (pb tb : Nat) (T : List P.Tok) (k : Nat) (vs : List P.Bs) (d X : Nat) (w0 : World) (bl : List Nat) (acc : List P.Ex) (x : P.Ex) (pre : List (Nat × Nat)) (W : World) : Prop :=
  SP W pb tb T k vs d ∧ SFr pb w0 W ∧ IsExs (fun b => Nu w0 W b ∧ b ≠ X) W (bl.map (fun b => Value.pointer (some ⟨b, 0, none⟩))) acc ∧ X < W.heap.size ∧
  ∃ bv, W.heap[X]? = some (.cells #[.pointer (some ⟨bv, 0, none⟩)] 124 (0, 0)) ∧
    (pre = downto bl pre.length → pre.length ≤ acc.length → IsEx (fun b => Nu w0 W b ∧ b ≠ X) W (.pointer (some ⟨bv, 0, none⟩)) (P.mkList (acc.drop (acc.length - pre.length)) x))
theorem LI.own {pb tb : Nat} {T : List P.Tok} {k : Nat} {vs : List P.Bs} {d X : Nat} {w0 : World} {bl : List Nat} {acc : List P.Ex} {x : P.Ex} {B : Nat} (hB : w0.heap.size ≤ B) :
    OwnFrom B (LI pb tb T k vs d X w0 bl acc x) := by
  rintro pre W W' row ⟨h1, h2, h3, h4, bv, h5, h6⟩ hg hr
  have hc := grown_cells hg (fun r e => (hr r e).2)
  have hast : ∀ (b : Nat) (o : Obj), astObj o → W.heap[b]? = some o → W'.heap[b]? = some o := fun b o ha ho => by
    obtain ⟨cs, t, z, rfl⟩ := ast_cells ha
    exact hc _ _ _ _ ho
  have hs := hg.size
  refine ⟨h1.extC hc, h2.grownNew hg (fun r e => Nat.le_trans hB (hr r e).1), ?_, by omega, bv, hc _ _ _ _ h5, fun a b => ?_⟩
  · exact IsExs.mono (fun b hb => ⟨⟨hb.1.1, by have := hb.1.2; omega⟩, hb.2⟩) (fun b o _ ha ho => hast b o ha ho) _ _ h3
  · exact IsEx.mono (fun b hb => ⟨⟨hb.1.1, by have := hb.1.2; omega⟩, hb.2⟩) (fun b o _ ha ho => hast b o ha ho) _ _ (h6 a b)
theorem drop_mkList {acc : List P.Ex} {x : P.Ex} {n : Nat} (hn : n < acc.length) :
    P.mkList (acc.drop (acc.length - (n + 1))) x = .mk 99 [46] 0 0 [acc[acc.length - 1 - n], P.mkList (acc.drop (acc.length - n)) x] := by
  have e : acc.length - (n + 1) = acc.length - 1 - n := by omega
  have e2 : acc.length - n = acc.length - 1 - n + 1 := by omega
  rw [e, e2, List.drop_eq_getElem_cons (by omega)]
  rfl
theorem LI.step {pb tb : Nat} {T : List P.Tok} {k : Nat} {vs : List P.Bs} {d X : Nat} {w0 W : World} {bl : List Nat} {acc : List P.Ex} {x : P.Ex} {pre : List (Nat × Nat)} {y : Nat × Nat} (hbl : bl.length = acc.length)
    (h0 : w0.heap.size ≤ X) (hpb : pb < w0.heap.size) (h : LI pb tb T k vs d X w0 bl acc x pre W) (bv : Nat) (hbv : W.heap[X]? = some (.cells #[.pointer (some ⟨bv, 0, none⟩)] 124 (0, 0))) :
    LI pb tb T k vs d X w0 bl acc x (pre ++ [y])
      (((W.alloc (.cells #[.pointer (some ⟨y.2, 0, none⟩), .pointer (some ⟨bv, 0, none⟩)] 124)).alloc (.cells #[.int .u8 99, .string (bs [46]), .int .i64 0, .int .i64 0, .slice (some ⟨W.heap.size, 0, none⟩) 2 2] 177)).setCell ⟨X, 0, none⟩ (.pointer (some ⟨W.heap.size + 1, 0, none⟩))) := by
  obtain ⟨h1, h2, h3, h4, bv', h5, h6⟩ := h
  have : bv' = bv := by
    rw [h5] at hbv
    injection hbv with e
    injection e with e
    have := congrArg (fun a => a[0]?) e
    simpa using this
  subst this
  generalize hr : (Obj.cells #[.pointer (some ⟨y.2, 0, none⟩), .pointer (some ⟨bv', 0, none⟩)] 124) = row at *
  generalize hn : (Obj.cells #[.int .u8 99, .string (bs [46]), .int .i64 0, .int .i64 0, .slice (some ⟨W.heap.size, 0, none⟩) 2 2] 177) = node at *
  have hX : ((W.alloc row).alloc node).heap[X]? = _ := blk_alloc_old (blk_alloc_old h5)
  have hsz : (((W.alloc row).alloc node).setCell ⟨X, 0, none⟩ (.pointer (some ⟨W.heap.size + 1, 0, none⟩))).heap.size = W.heap.size + 2 := by rw [size_setCell, size_alloc, size_alloc]
  have hk : ∀ (b : Nat) (o : Obj), b ≠ X → ((W.alloc row).alloc node).heap[b]? = some o → (((W.alloc row).alloc node).setCell ⟨X, 0, none⟩ (.pointer (some ⟨W.heap.size + 1, 0, none⟩))).heap[b]? = some o := fun b o hb ho => by
    rw [blk_setCell_other (show b ≠ X from hb)]; exact ho
  have hko : ∀ (b : Nat) (o : Obj), b ≠ X → W.heap[b]? = some o → (((W.alloc row).alloc node).setCell ⟨X, 0, none⟩ (.pointer (some ⟨W.heap.size + 1, 0, none⟩))).heap[b]? = some o := fun b o hb ho => hk b o hb (blk_alloc_old (blk_alloc_old ho))
  have hlt := h1.lt
  refine ⟨(h1.ext fun b o ho => blk_alloc_old (blk_alloc_old ho)).setOther hX (by decide) (by omega) (by omega) _, ((h2.alloc _).alloc _).setNew h0 _, ?_, by rw [hsz]; omega, W.heap.size + 1, by rw [blk_setCell_same hX]; rfl, fun e1 e2 => ?_⟩
  · exact IsExs.mono (fun b hb => ⟨⟨hb.1.1, by rw [hsz]; have := hb.1.2; omega⟩, hb.2⟩) (fun b o hb _ ho => hko b o hb.2 ho) _ _ h3
  · simp only [List.length_append, List.length_cons, List.length_nil, Nat.zero_add] at e1 e2 ⊢
    rw [downto_succ] at e1
    obtain ⟨e3, e4⟩ := List.append_inj' e1 rfl
    have e5 : y = (bl.length - 1 - pre.length, bl.getD (bl.length - 1 - pre.length) 0) := by simpa using e4
    rw [drop_mkList (by omega)]
    have hx := h6 e3 (by omega)
    have hi : acc.length - 1 - pre.length < acc.length := by omega
    have hy := h3.get (acc.length - 1 - pre.length) hi
    have ey : y.2 = bl.getD (acc.length - 1 - pre.length) 0 := by rw [e5, hbl]
    rw [← ey] at hy
    have h0W : w0.heap.size ≤ W.heap.size := h2.size
    have hwX : W.heap.size ≠ X := by omega
    refine isEx_node ⟨⟨by omega, by rw [hsz]; omega⟩, by omega⟩ (hk _ _ (by omega) (blk_new1' hn (by rw [size_alloc]))) (isSlEx_two ⟨⟨h0W, by rw [hsz]; omega⟩, hwX⟩ (hk _ _ hwX (blk_alloc_old (blk_new1' hr rfl))) ?_ ?_)
    · exact IsEx.mono (fun b hb => ⟨⟨hb.1.1, by rw [hsz]; have := hb.1.2; omega⟩, hb.2⟩) (fun b o hb _ ho => hko b o hb.2 ho) _ _ hy
    · exact IsEx.mono (fun b hb => ⟨⟨hb.1.1, by rw [hsz]; have := hb.1.2; omega⟩, hb.2⟩) (fun b o hb _ ho => hko b o hb.2 ho) _ _ hx
set_option maxRecDepth 100000 in
set_option maxHeartbeats 4000000 in
theorem sListTail {pb tb : Nat} {T : List P.Tok} {k : Nat} {vs : List P.Bs} {d nb g cap X bx : Nat} {w0 w : World} {acc : List P.Ex} {x : P.Ex} {bl : List Nat} {cur : Array Value} {r : P.Res P.Ex} (u1 u2 u6 u7 u8 u9 u10 u11 u12 u13 u14 u15 u16 u17 u18 u19 u20 u21 u22 u23 u24 u25 u26 u27 u28 u29 u30 u31 u32 u33 u34 u35 u36 u37 u38 u39 : Value)
    (hp : SP w pb tb T k vs d) (hf : SFr pb w0 w) (hpb : pb < w0.heap.size) (hX0 : w0.heap.size ≤ X) (hgX : g ≠ X) (hL : acc.length ≤ 3000) (hbl : bl.length = acc.length) (hg0 : pb < g)
    (hXb : w.heap[X]? = some (.cells #[.pointer (some ⟨bx, 0, none⟩)] 124 (0, 0))) (hx : IsEx (fun b => Nu w0 w b ∧ b ≠ X) w (.pointer (some ⟨bx, 0, none⟩)) x)
    (hg : w.heap[g]? = some (.cells cur 124 (0, 0))) (hcur : ∀ j, j < bl.length → cur[j]? = some (.pointer (some ⟨bl.getD j 0, 0, none⟩)))
    (hxs : IsExs (fun b => Nu w0 w b ∧ b ≠ X) w (bl.map (fun b => Value.pointer (some ⟨b, 0, none⟩))) acc)
    (hr : P.musT T [93] (P.mkList acc x) k vs = some r)
    (K : Act → World → Prop) (hK : ∀ a w, listS.wp Tryz.prog (bodyPostM Fence.wide 3 Tryz.prog Tryz.f114 (SPost IsEx pb tb T d w0 r)) a w → K a w) :
    listR.wp Tryz.prog (Exit.then K (bodyPostM Fence.wide 3 Tryz.prog Tryz.f114 (SPost IsEx pb tb T d w0 r))) { tmps := #[.pointer (some ⟨pb, 0, none⟩), u1, u2, .pointer (some ⟨nb, 0, none⟩), .slice (some ⟨g, 0, none⟩) acc.length cap, .pointer (some ⟨X, 0, none⟩), u6, u7, u8, u9, u10, u11, u12, u13, u14, u15, u16, u17, u18, u19, u20, u21, u22, u23, u24, u25, u26, u27, u28, u29, u30, u31, u32, u33, u34, u35, u36, u37, u38, u39], defers := [] } w := by
  change ∀ a w, Code.wp _ (Code.seq _ _) _ a w → _ at hK
  have H := Lib.hid hp
  have HF := Lib.hid hf
  have HX := Lib.hid hXb
  have HE := Lib.hid hx
  have HG := Lib.hid hg
  have HC := Lib.hid hcur
  have HXS := Lib.hid hxs
  have HR := Lib.hid hr
  have HBL := Lib.hid hbl
  have hz0 := hf.size
  have hXl := ltOf hXb
  clear hp hf hXb hx hg hcur hxs hr hbl
  change Code.wp _ (Code.region _ _ _) _ _ _
  go_wp2_with fail
  have hq := HR.out
  rw [P.musT] at hq
  by_cases hc : P.isT T k [93] = true
  · rw [if_pos hc, Option.some.injEq] at hq
    subst hq
    refine (sMust_yes H.out [93] hc).mono ?_
    rintro e w1 ⟨rfl, hp1, hf1⟩
    have HP1 := Lib.hid hp1
    have HF1 := Lib.hid hf1
    clear hp1 hf1 hc HR
    go_wp2_with fail
    refine (backward _ _ _ _).mono ?_
    rintro e w2 ⟨rfl, rfl⟩
    have hz1 := HF1.out.size
    have hX1 : w1.heap[X]? = _ := SFr.keep HF1.out HX.out (by omega) (by decide)
    have hg1 : w1.heap[g]? = _ := SFr.keep HF1.out HG.out (by omega) (by decide)
    have hI0 : LI pb tb T (k + 1) vs d X w0 bl acc x [] (w1.alloc (.cells #[.slice (some ⟨g, 0, none⟩) acc.length cap] 101)) := by
      refine ⟨HP1.out.ext fun b o h => blk_alloc_old h, (HF.out.trans HF1.out).alloc _, ?_, by rw [size_alloc]; omega, bx, blk_alloc_old hX1, fun _ _ => ?_⟩
      · exact IsExs.mono (fun b hb => ⟨⟨hb.1.1, by rw [size_alloc]; have := hb.1.2; omega⟩, hb.2⟩) (fun b o hb ha ho => blk_alloc_old (SFr.ast HF1.out ha ho (by have := hb.1.1; omega))) _ _ HXS.out
      · simp only [List.length_nil, Nat.sub_zero, List.drop_length]
        exact IsEx.mono (fun b hb => ⟨⟨hb.1.1, by rw [size_alloc]; have := hb.1.2; omega⟩, hb.2⟩) (fun b o hb ha ho => blk_alloc_old (SFr.ast HF1.out ha ho (by have := hb.1.1; omega))) _ _ HE.out
    have hB : (w1.alloc (.cells #[.slice (some ⟨g, 0, none⟩) acc.length cap] 101)).heap[w1.heap.size]? = _ := blk_alloc_new _ _
    have hgB : (w1.alloc (.cells #[.slice (some ⟨g, 0, none⟩) acc.length cap] 101)).heap[g]? = _ := blk_alloc_old hg1
    have hsz2 : w0.heap.size ≤ (w1.alloc (.cells #[.slice (some ⟨g, 0, none⟩) acc.length cap] 101)).heap.size := by rw [size_alloc]; omega
    have HI := Lib.hid hI0
    have HB := Lib.hid hB
    have HGB := Lib.hid hgB
    have HS2 := Lib.hid hsz2
    clear hI0 hB hgB hsz2 hX1 hg1
    go_wp2_with fail
    have hX1 : X < w1.heap.size := by omega
    refine (wpIn_wide (n := 3)).1 (wpIn_rangeFunc_ownF (F := Fence.wide) (n := 3) rfl (by decide) (gf := 142) (lb := #[.pointer (some ⟨w1.heap.size, 0, none⟩)]) rfl trivial (enters_of Tryz.func142 (by kernel_rfl) rfl)
      (back_stops Fence.wide 2 trivial rfl (by decide) w1.heap.size g cap X bl (by omega) hgX (by rw [HBL.out]; omega) _ (by rw [HBL.out]; exact HB.out) cur HGB.out HC.out) (fun h k => h.trans k)
      (fun W l o o' _ hl ho _ b cs t z _ hb => grown_cells (grownBy_putObj' W l o') (fun r e => by cases e; exact ⟨o, hl, ho⟩) b cs t z hb) (Below.refl _ _) (fun _ => rfl)
      (LI pb tb T (k + 1) vs d X w0 bl acc x) (fun _ _ _ => False) (LI.own HS2.out) (fun c s W W' row h => h.elim) HI.out
      (fun y => { tmps := #[.pointer (some ⟨pb, 0, none⟩), u1, u2, .pointer (some ⟨nb, 0, none⟩), .slice (some ⟨g, 0, none⟩) acc.length cap, .pointer (some ⟨X, 0, none⟩), u6, .pointer (some ⟨y.2, 0, none⟩), u8, u9, u10, u11, u12, u13, u14, u15, u16, u17, u18, u19, u20, u21, u22, u23, u24, u25, u26, u27, .pointer (some ⟨pb, 0, none⟩), .tuple #[], .slice (some ⟨g, 0, none⟩) acc.length cap, .func (.func 142) #[] #[.pointer (some ⟨w1.heap.size, 0, none⟩)], .int .i64 (y.1 : Int), .pointer (some ⟨y.2, 0, none⟩), u34, u35, u36, u37, u38, u39], defers := [] }) ?assign ?body ?done ?stop)
    case assign =>
      intro l y W K hK
      gi_wp2_with (rw [Oper.semAt_eq _ _ _ (fun c h => by cases h)]; go_simp; try go_bits)
      exact hK
    case body =>
      intro l pre y W hI hlen
      obtain ⟨bv, hbv, -⟩ := hI.2.2.2.2
      have hc0 : W.cell? ⟨X, 0, none⟩ = some (.pointer (some ⟨bv, 0, none⟩)) := cellOf hbv rfl
      have hf0 := freeOf hbv 0
      have hXW := hI.2.2.2.1
      have hstep := LI.step (y := y) HBL.out hX0 hpb hI bv hbv
      rw [World.setCell_alloc_past _ _ _ _ (by rw [size_alloc]; omega), World.setCell_alloc_past _ _ _ _ hXW] at hstep
      have HST := Lib.hid hstep
      clear hI hstep hbv
      gi_wp2_with (rw [Oper.semAt_eq _ _ _ (fun c h => by cases h)]; go_simp; try go_bits)
      exact ⟨((KeepsOthers.setCell _ _ _).trans (KeepsOthers.alloc _ _)).trans (KeepsOthers.alloc _ _), fun b cs t z hb hc => blk_alloc_old (blk_alloc_old (by rw [blk_setCell_other (show b ≠ X from hb)]; exact hc)), HST.out⟩
    case done =>
      rintro D ys W hD rfl hI hK
      have hI2 := LI.own HS2.out _ W (W.putObj D (.deferred none)) (some D) hI (grownBy_putObj' W D _) (fun r e => by cases e; exact ⟨hD, _, hK, rfl⟩)
      obtain ⟨bv, hbv, -⟩ := hI.2.2.2.2
      have hc0 : W.cell? ⟨X, 0, none⟩ = some (.pointer (some ⟨bv, 0, none⟩)) := cellOf hbv rfl
      have hXW := hI.2.2.2.1
      have HBV := Lib.hid hbv
      have HII := Lib.hid hI2
      have HK := Lib.hid hK
      clear hI hI2 hbv hK
      go_wp2_with fail
      refine ⟨by simp, .inl ⟨_, _, rfl, run_takeDeferred HK.out, ?_⟩⟩
      refine ⟨_, results_tmp rfl _ _ _, ?_⟩
      obtain ⟨g1, g2, g3, g4, bv2, g5, g6⟩ := HII.out
      have e5 := grown_cells (grownBy_putObj' W D (.deferred none)) (fun r e => by cases e; exact ⟨_, HK.out, rfl⟩) _ _ _ _ HBV.out
      have : bv2 = bv := by
        rw [g5] at e5
        injection e5 with e
        injection e with e
        have := congrArg (fun a => a[0]?) e
        simpa using this
      subst this
      have e6 := g6 (by rw [downto_length]) (by rw [downto_length, HBL.out]; exact Nat.le_refl _)
      rw [downto_length, HBL.out, Nat.sub_self, List.drop_zero] at e6
      exact ⟨_, rfl, IsEx.mono (fun b hb => hb.1) (fun _ _ _ _ h => h) _ _ e6, g1, g2⟩
    case stop =>
      rintro D c pre W _ _ h _
      exact h.elim
  · rw [if_neg hc, Option.some.injEq] at hq
    subst hq
    refine (sMust_no H.out [93] (by simpa using hc) (by decide)).mono ?_
    rintro e w1 ⟨⟨b, rfl, hb3, hl3⟩, hf3, hs3⟩
    exact ⟨⟨b, rfl, hb3, by omega⟩, HF.out.trans hf3, hs3⟩
set_option maxRecDepth 100000 in
set_option maxHeartbeats 8000000 in
theorem sList {f : Nat} (hexp : ∀ m, m < f + 1 → CExpr m) {pb tb : Nat} {T : List P.Tok} {k : Nat} {vars : List P.Bs} {d : Nat} {w0 : World} {r : P.Res P.Ex} (hp0 : SP w0 pb tb T k vars d) (hd : d ≤ 8)
    (h : P.pList T (f + 1) k vars d = some r) : Calls Tryz.prog 114 #[.pointer (some ⟨pb, 0, none⟩)] w0 (SPost IsEx pb tb T d w0 r) := by
  rw [P.pList] at h
  by_cases hc0 : P.isT T k [93] = true
  · rw [if_pos hc0, Option.some.injEq] at h
    subst h
    exact sList_nil hp0 hc0
  rw [if_neg hc0] at h
  cases hre : P.pElems T f k vars d [] with
  | none => rw [hre] at h; simp [P.Res.bind] at h
  | some re =>
  rw [hre] at h
  cases f with
  | zero => simp [P.pElems] at hre
  | succ f =>
  rw [P.pElems] at hre
  have hp1 := Lib.hid (hp0.ext (w' := w0.alloc nilObj) fun b o h => blk_alloc_old h)
  have HR := Lib.hid h
  have HRE := Lib.hid hre
  have hpb0 := hp0.d2.2.2
  have hT := hp0.tw.len
  obtain ⟨i0, hi, iz0, iz1, iz2⟩ := info_parts sInfoEx
  have HF1 : Hid (SFr pb w0 (w0.alloc nilObj)) := Lib.hid ((FrM.refl _ _).alloc _)
  clear hp0 h hre
  refine calls_of_marks Tryz.func114 rfl ?_
  simp only [Tryz.ntmps114, List.size_toArray, List.length_cons, List.length_nil, Nat.reduceAdd, Nat.reduceSub, Array.replicate_succ, Array.replicate_zero, List.push_toArray, List.append_toArray, List.nil_append, List.cons_append]
  go_wp2_with fail
  refine (sIs_no hp1.out [93] (by simpa using hc0) (by decide)).mono ?_
  rintro e w3 ⟨rfl, rfl⟩
  clear hc0
  go_wp2_with fail
  cases hq : P.pOper T f 0 k vars d with
  | none => have e := HRE.out; rw [hq] at e; simp [P.Res.bind] at e
  | some q =>
  have e := HRE.out
  rw [hq] at e
  refine ((hexp f (by omega)).go hp1.out hd hq).mono ?_
  cases q with
  | err c0 a0 =>
    rintro e2 w4 ⟨⟨b, rfl, hb3, hl3⟩, hf3, hs3⟩
    simp only [P.Res.bind, Option.some.injEq] at e
    subst e
    have hr := HR.out
    simp only [P.Res.bind, Option.some.injEq] at hr
    subst hr
    exact ⟨⟨b, rfl, hb3, by rw [size_alloc] at hl3; omega⟩, HF1.out.trans hf3, hs3⟩
  | ok x k' vs' =>
  rintro e2 w1 ⟨v, rfl, hv, hp2, hf2⟩
  simp only [P.Res.bind] at e
  obtain ⟨bx, rfl, hbx⟩ := hv.shape
  have hkk := (P.mono T f).oper _ _ _ _ _ _ _ hq
  have hz1 := hf2.size
  rw [size_alloc] at hz1
  have hn1 := SFr.keep hf2 (blk_alloc_new w0 nilObj) (by omega) (by decide)
  have hrow : (w1.alloc (.cells #[.pointer (some ⟨bx, 0, none⟩)] 124)).ownsRow w0.heap.size 124 1 (.slice (some ⟨w1.heap.size, 0, none⟩) 1 1) 1 [.pointer (some ⟨bx, 0, none⟩)] :=
    ⟨rfl, .inr ⟨w1.heap.size, 1, _, rfl, by omega, blk_alloc_new _ _, Nat.le_refl _, by decide, rfl, rfl⟩⟩
  have hx1 : IsExs (fun b => Nu w0 (w1.alloc (.cells #[.pointer (some ⟨bx, 0, none⟩)] 124)) b ∧ (Value.slice (some ⟨w1.heap.size, 0, none⟩) 1 1).ownBlock ≠ some b) (w1.alloc (.cells #[.pointer (some ⟨bx, 0, none⟩)] 124)) [.pointer (some ⟨bx, 0, none⟩)] [x] := by
    have := IsExs.snoc (l := []) (vs := []) (F := fun b => Nu w0 (w1.alloc (.cells #[.pointer (some ⟨bx, 0, none⟩)] 124)) b ∧ (Value.slice (some ⟨w1.heap.size, 0, none⟩) 1 1).ownBlock ≠ some b) (w := w1.alloc (.cells #[.pointer (some ⟨bx, 0, none⟩)] 124)) (v := .pointer (some ⟨bx, 0, none⟩)) (x := x)
      (IsEx.mono (fun b hb => ⟨⟨by have := hb.1; rw [size_alloc] at this; omega, by have := hb.2; rw [size_alloc]; omega⟩, fun e => by injection e with e; have := hb.2; simp only at e; omega⟩) (fun b o _ _ ho => blk_alloc_old ho) _ _ hv) (by unfold IsExs; rfl)
    simpa using this
  have HROW := Lib.hid hrow
  have HX1 := Lib.hid hx1
  have HP2 := Lib.hid (hp2.ext (w' := w1.alloc (.cells #[.pointer (some ⟨bx, 0, none⟩)] 124)) fun b o h => blk_alloc_old h)
  have HF2 : Hid (SFr pb w0 (w1.alloc (.cells #[.pointer (some ⟨bx, 0, none⟩)] 124))) := Lib.hid ((HF1.out.trans hf2).alloc _)
  have HN1 : Hid ((w1.alloc (.cells #[.pointer (some ⟨bx, 0, none⟩)] 124)).heap[w0.heap.size]? = some nilObj) := Lib.hid (blk_alloc_old hn1)
  have HE := Lib.hid e
  have HK := Lib.hid hkk
  clear hv hp2 hf2 hrow hx1 e hq hbx hn1 HRE hkk HF1 hp1
  go_wp2_with fail
  refine wp_loop_ghost (fun n a w => n ≤ f ∧ LJ pb tb T d w0 re n a w) ⟨f, Nat.le_refl _, [x], k', vs', _, _, _, _, _, _, _, _, _, _, _, _, _, _, _, _, _, _, _, _, _, _, _, _, _, _, _, _, _, _, _, _, _, _, _, _, _, _, _, rfl, HROW.out, HX1.out, HP2.out, HF2.out, Nat.zero_lt_one, by have := HK.out; simp; omega, HN1.out, by simpa using HE.out⟩ ?_
  clear HROW HX1 HP2 HF2 HK HN1 HE hz1
  rintro n a w ⟨hnf, acc, k2, vs, xs, sl, u1, u2, u5, u6, u7, u8, u9, u10, u11, u12, u13, u14, u15, u16, u17, u18, u19, u20, u21, u22, u23, u24, u25, u26, u27, u28, u29, u30, u31, u32, u33, u34, u35, u36, u37, u38, u39, rfl, hown, hxs, hp, hf, h0a, hak, hn1, hr⟩
  have hkt := hp.kt
  have hz := hf.size
  have hpw := hp.d2.2.2
  obtain ⟨g', cap', rfl⟩ : ∃ g cap, sl = .slice (some ⟨g, 0, none⟩) acc.length cap := by
    obtain ⟨g1, g2 | ⟨g, cp, cur, e1, e2, e3, e4⟩⟩ := hown
    · omega
    · exact ⟨g, cp, e1⟩
  have HO := Lib.hid hown
  have HX := Lib.hid hxs
  have HP := Lib.hid hp
  have HF := Lib.hid hf
  have HN := Lib.hid hn1
  by_cases hc : P.isT T k2 [44] = true
  · rw [if_pos hc] at hr
    cases n with
    | zero => simp [P.pElems] at hr
    | succ n =>
    rw [P.pElems] at hr
    have HRR := Lib.hid hr
    clear hown hxs hp hf hn1 hr
    go_wp2_with fail
    refine (sIs_yes HP.out [44] hc).mono ?_
    rintro e w2 ⟨rfl, hp2, hf2⟩
    have HP2 := Lib.hid hp2
    have HF2 := Lib.hid hf2
    clear hp2 hf2 hc
    go_wp2_with fail
    cases hq : P.pOper T n 0 (k2 + 1) vs d with
    | none => have e := HRR.out; rw [hq] at e; simp [P.Res.bind] at e
    | some q =>
    have e := HRR.out
    rw [hq] at e
    refine ((hexp n (by omega)).go HP2.out hd hq).mono ?_
    cases q with
    | err c0 a0 =>
      rintro e2 w4 ⟨⟨b, rfl, hb3, hl3⟩, hf3, hs3⟩
      simp only [P.Res.bind, Option.some.injEq] at e
      subst e
      have hr := HR.out
      simp only [P.Res.bind, Option.some.injEq] at hr
      subst hr
      have := HF2.out.size
      exact ⟨⟨b, rfl, hb3, by omega⟩, (HF.out.trans HF2.out).trans hf3, hs3⟩
    | ok x k' vs' =>
    rintro e2 w3 ⟨v, rfl, hv, hp3, hf3⟩
    simp only [P.Res.bind] at e
    obtain ⟨bx, rfl, hbx⟩ := hv.shape
    have hkk := (P.mono T n).oper _ _ _ _ _ _ _ hq
    have hz2 := HF2.out.size
    have hz3 := hf3.size
    have hk1 := hp3.kt
    have hpw2 := HP2.out.d2.2.2
    have hw3 := hp3.d2.2.2
    have hown1 : w3.ownsRow w0.heap.size 124 1 (.slice (some ⟨g', 0, none⟩) acc.length cap') acc.length xs := by
      obtain ⟨g1, g2 | ⟨g, cp, cur, e1, e2, e3, e4⟩⟩ := HO.out
      · exact ⟨g1, .inl g2⟩
      · exact ⟨g1, .inr ⟨g, cp, cur, e1, e2, SFr.ast hf3 ⟨.inr (.inl rfl), rfl⟩ (SFr.ast HF2.out ⟨.inr (.inl rfl), rfl⟩ e3 (by omega)) (by omega), e4⟩⟩
    have hxs1 : IsExs (fun b => Nu w0 w3 b ∧ (Value.slice (some ⟨g', 0, none⟩) acc.length cap').ownBlock ≠ some b) w3 xs acc :=
      IsExs.mono (fun b hb => ⟨⟨hb.1.1, by have := hb.1.2; omega⟩, hb.2⟩) (fun b o hb ha ho => SFr.ast hf3 ha (SFr.ast HF2.out ha ho (by have := hb.1.1; omega)) (by have := hb.1.1; omega)) _ _ HX.out
    have hn3 : w3.heap[w0.heap.size]? = some nilObj := SFr.keep hf3 (SFr.keep HF2.out HN.out (by omega) (by decide)) (by omega) (by decide)
    have HO1 := Lib.hid hown1
    have HX1 := Lib.hid hxs1
    have HV := Lib.hid hv
    have HP1 := Lib.hid hp3
    have HF1 := Lib.hid ((HF.out.trans HF2.out).trans hf3)
    have HE := Lib.hid e
    have HBX := Lib.hid hbx
    have HK := Lib.hid hkk
    have HN3 := Lib.hid hn3
    have hgw : w0.heap.size ≤ g' := (HO.out.lt g' rfl).1
    have hgl : g' < w.heap.size := (HO.out.lt g' rfl).2
    have hng0 : g' ≠ w0.heap.size := fun e => by
      obtain ⟨g1, g2 | ⟨g, cp, cur, e1, e2, e3, e4⟩⟩ := HO.out
      · omega
      · injection e1 with e1 _ _
        injection e1 with e1
        injection e1 with e1 _ _
        rw [← e1, e] at e3
        rw [HN.out] at e3
        injection e3 with e3
        injection e3 with _ e3 _
        exact absurd e3 (by decide)
    clear hv hp3 hf3 hown1 hxs1 e hq hbx hn3 hkk
    go_wp2_with (at_builtin; go_must (refine wpList_append_own2 rfl _ _ 101 rfl w0.heap.size 124 i0 _ 1 8 Tryz.underlying101 hi iz0 iz1 iz2 rfl (by decide) _ _ _ rfl (HO1.out.alloc _) ⟨w3.heap.size, 0, none⟩ 1 1 [.pointer (some ⟨bx, 0, none⟩)] rfl rfl (one_new rfl) (by simp [Value.oneCell']) (by unfold maxLen; omega) (by omega) (by simp; omega) ?_; intro v' w4 hown2 hgrow2 hfr2; obtain ⟨g2, cap2, rfl⟩ := own_succ hown2; have HO2 := Lib.hid hown2; have HG2 := Lib.hid hgrow2; have HFR2 := Lib.hid hfr2; clear hown2 hgrow2 hfr2))
    have hp4 : SP w4 pb tb T k' vs' d := (HP1.out.ext fun b o h => blk_alloc_old (o := Obj.cells #[Value.pointer (some ⟨bx, 0, none⟩)] 124) h).grownRow (HO1.out.alloc _) (by decide) (by omega) HG2.out
    have hf4 : SFr pb w0 w4 := (HF1.out.alloc _).grownNew HG2.out fun k hk => (HO1.out.lt k hk).1
    have hg4 := HG2.out.size
    rw [size_alloc] at hg4
    have hkeep : ∀ (b : Nat) (o : Obj), w3.heap[b]? = some o → (Value.slice (some ⟨g', 0, none⟩) acc.length cap').ownBlock ≠ some b → w4.heap[b]? = some o := fun b o h hne => by
      have h' := blk_alloc_old (o := Obj.cells #[Value.pointer (some ⟨bx, 0, none⟩)] 124) h
      rw [HG2.out.block b (ltOf h') (fun e => hne e.symm)]; exact h'
    have hnb : ∀ b, b < w3.heap.size → (Value.slice (some ⟨g', 0, none⟩) acc.length cap').ownBlock ≠ some b → (Value.slice (some ⟨g2, 0, none⟩) (acc.length + 1) cap2).ownBlock ≠ some b := fun b hb hne => by
      rcases HFR2.out with h | h
      · rw [h]; exact hne
      · intro e
        have := h b e
        rw [size_alloc] at this
        omega
    have hbn : ∀ b, Nu w2 w3 b → (Value.slice (some ⟨g', 0, none⟩) acc.length cap').ownBlock ≠ some b := fun b hb e => by
      have := (HO.out.lt b e).2
      have := hb.1
      omega
    have hxs4 : IsExs (fun b => Nu w0 w4 b ∧ (Value.slice (some ⟨g2, 0, none⟩) (acc.length + 1) cap2).ownBlock ≠ some b) w4 (xs ++ [.pointer (some ⟨bx, 0, none⟩)]) (acc ++ [x]) :=
      IsExs.snoc (IsEx.mono (fun b hb => ⟨⟨by have := hb.1; omega, by have := hb.2; omega⟩, hnb b hb.2 (hbn b hb)⟩) (fun b o hb _ ho => hkeep b o ho (hbn b hb)) _ _ HV.out)
        (IsExs.mono (fun b hb => ⟨⟨hb.1.1, by have := hb.1.2; omega⟩, hnb b hb.1.2 hb.2⟩) (fun b o hb _ ho => hkeep b o ho hb.2) _ _ HX1.out)
    have hn4 : w4.heap[w0.heap.size]? = some nilObj := hkeep _ _ HN3.out (fun e => hng0 (by injection e))
    have hkk := HK.out
    exact ⟨n, Nat.lt_succ_self n, by omega, acc ++ [x], k', vs', _, _, _, _, _, _, _, _, _, _, _, _, _, _, _, _, _, _, _, _, _, _, _, _, _, _, _, _, _, _, _, _, _, _, _, _, _, _, _, rfl, by rw [List.length_append]; exact HO2.out, hxs4, hp4, hf4, by simp, by simp; omega, hn4, HE.out⟩
  · rw [if_neg hc, Option.some.injEq] at hr
    subst hr
    clear hown hxs hp hf hn1
    go_wp2_with fail
    refine (sIs_no HP.out [44] (by simpa using hc) (by decide)).mono ?_
    rintro e w2 ⟨rfl, rfl⟩
    clear hc
    have hX0 : w0.heap.size ≤ w.heap.size := hz
    have hNX := ltOf HN.out
    have hgl := (HO.out.lt g' rfl)
    obtain ⟨bl, hxb, hbl⟩ := HX.out.blocks
    subst hxb
    have hcur : ∃ cur : Array Value, w.heap[g']? = some (.cells cur 124 (0, 0)) ∧ ∀ j, j < bl.length → cur[j]? = some (.pointer (some ⟨bl.getD j 0, 0, none⟩)) := by
      obtain ⟨g1, g2 | ⟨g, cp, cur, e1, e2, e3, e4, e5, e6, e7⟩⟩ := HO.out
      · omega
      · injection e1 with e1 _ _
        injection e1 with e1
        injection e1 with e1 _ _
        subst e1
        refine ⟨cur, e3, fun j hj => ?_⟩
        have h1 : (cur.toList.take (acc.length * 1))[j]? = (bl.map (fun b => Value.pointer (some ⟨b, 0, none⟩)))[j]? := by rw [e7]
        rw [List.getElem?_take, if_pos (by omega), Array.getElem?_toList] at h1
        rw [h1, List.getElem?_map, List.getD_eq_getElem?_getD, List.getElem?_eq_getElem hj]
        rfl
    obtain ⟨cur, hcb, hcur⟩ := hcur
    have hbX : (w.alloc (.cells #[.pointer (some ⟨w0.heap.size, 0, none⟩)] 124)).heap[w.heap.size]? = some (.cells #[.pointer (some ⟨w0.heap.size, 0, none⟩)] 124 (0, 0)) := blk_alloc_new _ _
    have hxsX : IsExs (fun b => Nu w0 (w.alloc (.cells #[.pointer (some ⟨w0.heap.size, 0, none⟩)] 124)) b ∧ b ≠ w.heap.size) (w.alloc (.cells #[.pointer (some ⟨w0.heap.size, 0, none⟩)] 124)) (bl.map (fun b => Value.pointer (some ⟨b, 0, none⟩))) acc :=
      IsExs.mono (fun b hb => ⟨⟨hb.1.1, by rw [size_alloc]; have := hb.1.2; omega⟩, by have := hb.1.2; omega⟩) (fun b o _ _ ho => blk_alloc_old ho) _ _ HX.out
    have hgX : (w.alloc (.cells #[.pointer (some ⟨w0.heap.size, 0, none⟩)] 124)).heap[g']? = some (.cells cur 124 (0, 0)) := blk_alloc_old hcb
    have HPX := Lib.hid (HP.out.ext (w' := w.alloc (.cells #[.pointer (some ⟨w0.heap.size, 0, none⟩)] 124)) fun b o h => blk_alloc_old h)
    have hFX : SFr pb w0 (w.alloc (.cells #[.pointer (some ⟨w0.heap.size, 0, none⟩)] 124)) := HF.out.alloc _
    have hnX : (w.alloc (.cells #[.pointer (some ⟨w0.heap.size, 0, none⟩)] 124)).heap[w0.heap.size]? = some nilObj := blk_alloc_old HN.out
    have hsX : (w.alloc (.cells #[.pointer (some ⟨w0.heap.size, 0, none⟩)] 124)).heap.size = w.heap.size + 1 := size_alloc _ _
    have HFX := Lib.hid hFX
    have HNX := Lib.hid hnX
    have HBX := Lib.hid hbX
    have HGX := Lib.hid hgX
    have HCU := Lib.hid hcur
    have HXX := Lib.hid hxsX
    have HBL := Lib.hid hbl
    have HSX := Lib.hid hsX
    have hr := HR.out
    simp only [P.Res.bind] at hr
    have hg1 := hgl.1
    have hg2 := hgl.2
    clear hFX hnX hbX hgX hcur hxsX hbl hcb hgl HO HX HF HN HP hsX HR
    by_cases hb : P.isT T k2 [124] = true
    · rw [if_pos hb] at hr
      have HRR := Lib.hid hr
      clear hr
      go_wp2_with fail
      refine (sIs_yes HPX.out [124] hb).mono ?_
      rintro e w3 ⟨rfl, hp3, hf3⟩
      have HP3 := Lib.hid hp3
      have HF3 := Lib.hid hf3
      have hz3 := hf3.size
      rw [HSX.out] at hz3
      clear hp3 hf3 hb
      have hXw : w.heap.size < w3.heap.size := by omega
      go_wp2_with fail
      cases hq : P.pOper T (f + 1) 0 (k2 + 1) vs d with
      | none => have e := HRR.out; rw [hq] at e; simp [P.Res.bind] at e
      | some q =>
      have e := HRR.out
      rw [hq] at e
      refine ((hexp (f + 1) (by omega)).go HP3.out hd hq).mono ?_
      cases q with
      | err c0 a0 =>
        rintro e2 w4 ⟨⟨b, rfl, hb3, hl3⟩, hf4, hs4⟩
        simp only [P.Res.bind, Option.some.injEq] at e
        subst e
        exact ⟨⟨b, rfl, hb3, by omega⟩, (HFX.out.trans HF3.out).trans hf4, hs4⟩
      | ok x k' vs' =>
      rintro e2 w4 ⟨v, rfl, hv, hp4, hf4⟩
      simp only [P.Res.bind] at e
      obtain ⟨bx, rfl, hbx⟩ := hv.shape
      have hz4 := hf4.size
      have hlt4 := hp4.lt
      have hX3 := SFr.keep HF3.out HBX.out (by omega) (by decide)
      have hX4 : w4.heap[w.heap.size]? = _ := SFr.keep hf4 hX3 (by omega) (by decide)
      have hg4 := SFr.keep hf4 (SFr.keep HF3.out HGX.out (by omega) (by decide)) (by omega) (by decide)
      have hc4 : w4.cell? ⟨w.heap.size, 0, none⟩ = some (.pointer (some ⟨w0.heap.size, 0, none⟩)) := cellOf hX4 rfl
      have hf0 := freeOf hX4 0
      have hX4l : w.heap.size < w4.heap.size := by omega
      have hs5 : (w4.setCell ⟨w.heap.size, 0, none⟩ (.pointer (some ⟨bx, 0, none⟩))).heap.size = w4.heap.size := size_setCell _ _ _
      have hX5 : (w4.setCell ⟨w.heap.size, 0, none⟩ (.pointer (some ⟨bx, 0, none⟩))).heap[w.heap.size]? = some (.cells #[.pointer (some ⟨bx, 0, none⟩)] 124 (0, 0)) := by rw [blk_setCell_same hX4]; rfl
      have hk5 : ∀ (b : Nat) (o : Obj), b ≠ w.heap.size → w4.heap[b]? = some o → (w4.setCell ⟨w.heap.size, 0, none⟩ (.pointer (some ⟨bx, 0, none⟩))).heap[b]? = some o := fun b o hb ho => by
        rw [blk_setCell_other (show b ≠ w.heap.size from hb)]; exact ho
      have hp5 := hp4.setOther (o := 0) hX4 (by decide) (by omega) (by omega) (.pointer (some ⟨bx, 0, none⟩))
      have hf5 : SFr pb w0 (w4.setCell ⟨w.heap.size, 0, none⟩ (.pointer (some ⟨bx, 0, none⟩))) := ((HFX.out.trans HF3.out).trans hf4).setNew hX0 _
      have hx5 : IsEx (fun b => Nu w0 (w4.setCell ⟨w.heap.size, 0, none⟩ (.pointer (some ⟨bx, 0, none⟩))) b ∧ b ≠ w.heap.size) (w4.setCell ⟨w.heap.size, 0, none⟩ (.pointer (some ⟨bx, 0, none⟩))) (.pointer (some ⟨bx, 0, none⟩)) x :=
        IsEx.mono (fun b hb => ⟨⟨by have := hb.1; omega, by rw [hs5]; exact hb.2⟩, by have := hb.1; omega⟩) (fun b o hb _ ho => hk5 b o (by have := hb.1; omega) ho) _ _ hv
      have hxs5 : IsExs (fun b => Nu w0 (w4.setCell ⟨w.heap.size, 0, none⟩ (.pointer (some ⟨bx, 0, none⟩))) b ∧ b ≠ w.heap.size) (w4.setCell ⟨w.heap.size, 0, none⟩ (.pointer (some ⟨bx, 0, none⟩))) (bl.map (fun b => Value.pointer (some ⟨b, 0, none⟩))) acc :=
        IsExs.mono (fun b hb => ⟨⟨hb.1.1, by rw [hs5]; have := hb.1.2; rw [HSX.out] at this; omega⟩, hb.2⟩) (fun b o hb ha ho => hk5 b o hb.2 (SFr.ast hf4 ha (SFr.ast HF3.out ha ho (by have := hb.1.1; omega)) (by have := hb.1.1; omega))) _ _ HXX.out
      have hg5 := hk5 g' _ (by omega) hg4
      have HTAIL := Lib.hid (And.intro hp5 (And.intro hf5 (And.intro hX5 (And.intro hx5 (And.intro hg5 (And.intro hxs5 e))))))
      clear hp5 hf5 hX5 hx5 hg5 hxs5 e hv hp4 hf4 hX3 hX4 hg4 hk5 hs5 hq hbx
      go_upto_region 10 with (fail)
      obtain ⟨t1, t2, t3, t4, t5, t6, t7⟩ := HTAIL.out
      exact sListTail _ _ _ _ _ _ _ _ _ _ _ _ _ _ _ _ _ _ _ _ _ _ _ _ _ _ _ _ _ _ _ _ _ _ _ _ t1 t2 hpb0 hX0 (by omega) (by omega) HBL.out (by omega) t3 t4 t5 HCU.out t6 t7 _ (by assumption)
    · rw [if_neg hb] at hr
      have HRR := Lib.hid hr
      clear hr
      go_wp2_with fail
      refine (sIs_no HPX.out [124] (by simpa using hb) (by decide)).mono ?_
      rintro e w3 ⟨rfl, rfl⟩
      clear hb
      go_upto_region 10 with (fail)
      have hxn : IsEx (fun b => Nu w0 (w.alloc (.cells #[.pointer (some ⟨w0.heap.size, 0, none⟩)] 124)) b ∧ b ≠ w.heap.size) (w.alloc (.cells #[.pointer (some ⟨w0.heap.size, 0, none⟩)] 124)) (.pointer (some ⟨w0.heap.size, 0, none⟩)) (.mk 97 [91, 93] 0 0 []) :=
        isEx_leaf ⟨⟨Nat.le_refl _, by rw [HSX.out]; omega⟩, by omega⟩ HNX.out
      exact sListTail _ _ _ _ _ _ _ _ _ _ _ _ _ _ _ _ _ _ _ _ _ _ _ _ _ _ _ _ _ _ _ _ _ _ _ _ HPX.out HFX.out hpb0 hX0 (by omega) (by omega) HBL.out (by omega) HBX.out hxn HGX.out HCU.out HXX.out HRR.out _ (by assumption)
theorem cList0 : CList 0 := ⟨fun _ _ h => by simp [P.pList] at h⟩
theorem cList {f : Nat} (hexp : ∀ m, m < f → CExpr m) : CList f := by
  cases f with
  | zero => exact cList0
  | succ f => exact ⟨fun hp hd h => sList hexp hp hd h⟩
end Go.Proofs.YtkmpelgfhjgddaaGreatDoor
namespace Go.Proofs.YtkmpelgfhjgddaaGreatDoor
open Go.RowKit
set_option linter.unusedVariables false
set_option maxRecDepth 100000 in
set_option maxHeartbeats 1000000 in
theorem sPrim_deep {pb tb : Nat} {T : List P.Tok} {k : Nat} {vars : List P.Bs} {d : Nat} {w : World} (hp : SP w pb tb T k vars d) (hd : 8 < d + 1) (hd2 : d ≤ 8) :
    Calls Tryz.prog 101 #[.pointer (some ⟨pb, 0, none⟩)] w (SPost IsEx pb tb T d w (.err 4 (P.tk T k).pos)) := by
  have H := Lib.hid hp
  clear hp
  go_enter_defers Tryz.func101, Tryz.ntmps101
  go_wp2_with fail
  refine (sDeeper_no H.out hd (by omega)).mono ?_
  rintro e w1 ⟨⟨b, rfl, hb⟩, hf, hs⟩
  exact ⟨⟨b, rfl, hb⟩, hf, hs⟩
set_option maxRecDepth 100000 in
set_option maxHeartbeats 1000000 in
theorem sPrim_num (hint : CInt) {pb tb : Nat} {T : List P.Tok} {k : Nat} {vars : List P.Bs} {d : Nat} {w : World} (hp : SP w pb tb T k vars d) (hd : d + 1 ≤ 8)
    (hk : (P.tk T k).kind = 3) :
    Calls Tryz.prog 101 #[.pointer (some ⟨pb, 0, none⟩)] w (SPost IsEx pb tb T d w (.ok (.mk 110 [] (P.num (P.tk T k).text) 0 []) (k + 1) vars)) := by
  have H := Lib.hid hp
  have HK := Lib.hid hk
  clear hp hk
  go_enter_defers Tryz.func101, Tryz.ntmps101
  go_wp2_with fail
  refine (sDeeper_yes H.out hd).mono ?_
  rintro e w1 ⟨rfl, hs1, hx1, hp1, hf1⟩
  have HX1 := Lib.hid hx1
  have HF1 := Lib.hid hf1
  have HP1 := Lib.hid hp1
  have HS1 := Lib.hid hs1
  obtain ⟨n, c, h0, f0, hb, l1, l2, l3, l4, hp2, hf2⟩ := hp1.on (by have := HK.out; omega)
  obtain ⟨t0, t1, t2⟩ := hp1.toks.at hp1.kt
  have htb : tb < w1.heap.size := by have := hp1.lt; omega
  have hne : ¬ tb = pb := by have := hp1.lt; omega
  have hne' : ¬ pb = tb := by omega
  have HP2 := Lib.hid hp2
  have HF2 := Lib.hid hf2
  rw [HK.out] at t0
  clear hp1 hf1 hx1 hs1 hp2 hf2
  go_wp2_with fail
  have hdg := H.out.tw.digits _ (tk_mem H.out.kt) HK.out
  refine (hint.go _ hdg.1 hdg.2.1 hdg.2.2).mono ?_
  rintro e w3 ⟨rfl, he3⟩
  have HE3 := Lib.hid he3
  clear hdg he3
  go_wp2_with fail
  have hs1 := HS1.out
  have hpb : pb < w.heap.size := H.out.d2.2.2
  have hbx := HF2.out.keep HX1.out (by omega) (by decide)
  have hz := HE3.out.size
  rw [size_alloc, size_setCell] at hz
  refine doorRet (j := 2) stab_Ex rfl hpb (((HP2.out.ext fun b o h => blk_alloc_old h).ext HE3.out.ext).ext fun b o h => blk_alloc_old h) (by omega) (blk_alloc_old (HE3.out.ext _ _ (blk_alloc_old hbx))) ?_
    ((((HF1.out.trans HF2.out).alloc _).trans HE3.out.toM).alloc _)
  exact isEx_leaf ⟨by omega, by rw [size_alloc]; omega⟩ (blk_alloc_new _ _)
set_option maxRecDepth 100000 in
set_option maxHeartbeats 1000000 in
theorem sPrim_var (hvar : CVar) {pb tb : Nat} {T : List P.Tok} {k : Nat} {vars : List P.Bs} {d : Nat} {w : World} (hp : SP w pb tb T k vars d) (hd : d + 1 ≤ 8)
    (hk : (P.tk T k).kind = 2) :
    Calls Tryz.prog 101 #[.pointer (some ⟨pb, 0, none⟩)] w (SPost IsEx pb tb T d w (P.pVar (P.tk T k) (k + 1) vars)) := by
  have H := Lib.hid hp
  have HK := Lib.hid hk
  clear hp hk
  go_enter_defers Tryz.func101, Tryz.ntmps101
  go_wp2_with fail
  refine (sDeeper_yes H.out hd).mono ?_
  rintro e w1 ⟨rfl, hs1, hx1, hp1, hf1⟩
  have HX1 := Lib.hid hx1
  have HF1 := Lib.hid hf1
  have HP1 := Lib.hid hp1
  have HS1 := Lib.hid hs1
  obtain ⟨n, c, h0, f0, hb, l1, l2, l3, l4, hp2, hf2⟩ := hp1.on (by have := HK.out; omega)
  obtain ⟨t0, t1, t2⟩ := hp1.toks.at hp1.kt
  have htb : tb < w1.heap.size := by have := hp1.lt; omega
  have hne : ¬ tb = pb := by have := hp1.lt; omega
  have hne' : ¬ pb = tb := by omega
  have HP2 := Lib.hid hp2
  have HF2 := Lib.hid hf2
  rw [HK.out] at t0
  clear hp1 hf1 hx1 hs1 hp2 hf2
  go_wp2_with fail
  have hpv := hvar.go (P.tk T k) (HP2.out.ext fun b o (h : _ = some o) => blk_alloc_old (o := .cells #[.int .i64 2, .string (bs (P.tk T k).text), .int .i64 (P.tk T k).pos] 139) h)
    (H.out.tw.vars _ (tk_mem H.out.kt) HK.out)
  rw [HK.out] at hpv
  refine hpv.mono ?_
  have hs1 := HS1.out
  have hpb : pb < w.heap.size := H.out.d2.2.2
  have hbx := HF2.out.keep HX1.out (by omega) (by decide)
  have hbx' : ∀ o, ((onW w1 pb tb k n c).alloc o).heap[w.heap.size]? = _ := fun o => blk_alloc_old (o := o) hbx
  have hfr := fun o => (HF1.out.trans HF2.out).alloc o
  have hsz : ∀ o, ((onW w1 pb tb k n c).alloc o).heap.size = w.heap.size + 2 := fun o => by rw [size_alloc, size_setCell, hs1]
  have HB := Lib.hid hbx'
  have HR := Lib.hid hfr
  have HZ := Lib.hid hsz
  clear hpv hbx hbx' hfr hsz
  cases hr : P.pVar (P.tk T k) (k + 1) vars with
  | ok x k' vs =>
    rintro e w3 ⟨v, rfl, hv, hp3, hf3⟩
    have HV := Lib.hid hv
    have HP3 := Lib.hid hp3
    have HF3 := Lib.hid hf3
    have HRR := Lib.hid hr
    clear hv hp3 hf3 hr
    go_wp2_with fail
    have hz := HZ.out (.cells #[.int .i64 2, .string (bs (P.tk T k).text), .int .i64 (P.tk T k).pos] 139)
    have hz3 := HF3.out.size
    rw [HRR.out]
    refine doorRet (j := 2) stab_Ex rfl hpb HP3.out (by omega) (HF3.out.keep (HB.out _) (by omega) (by decide)) ?_ ((HR.out _).trans HF3.out)
    exact IsEx.mono (fun b hb => ⟨by have := hb.1; omega, hb.2⟩) (fun _ _ _ _ h => h) _ _ HV.out
  | err c0 a0 =>
    rintro e w3 ⟨⟨b, rfl, hb3, hl3⟩, hf3, hs3⟩
    have hz := HZ.out (.cells #[.int .i64 2, .string (bs (P.tk T k).text), .int .i64 (P.tk T k).pos] 139)
    exact doorPanic hpb hs3 (hf3.keep (HB.out _) (by omega) (by decide)) ⟨b, rfl, hb3, by omega⟩ ((HR.out _).trans hf3)
end Go.Proofs.YtkmpelgfhjgddaaGreatDoor
