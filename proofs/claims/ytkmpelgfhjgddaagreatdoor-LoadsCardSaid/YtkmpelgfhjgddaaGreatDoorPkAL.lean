/- A part of one proof (LL2, LL3); no conditions beyond what each theorem names. -/
import Derived.Test.YtkmpelgfhjgddaaGreatDoorPkAK
import Derived.ProofKit
import Derived.LaidMore
import Derived.OpenShut
import Derived.LaidHandle
import Derived.LaidSub
import Derived.MakeChecks
import Derived.Stop.Joined
import Derived.Test.YtkmpelgfhjgddaaGreatDoorRows
import Derived.Lay
set_option linter.all false
set_option linter.unusedVariables false
set_option linter.unusedSimpArgs false
namespace Go.Proofs.YtkmpelgfhjgddaaGreatDoor
open Go.ChangeShapes Go.WideShapes Go.ChangeAt Go.WideMaps Go.WideElems Go.RowKit
set_option maxRecDepth 100000
theorem strs_of {P : Program} {name : String} {W : World} {g t e n : Nat} {ss : List (List UInt8)} (hg : P.globalNamed name = some g) (ht : (P.globals[g]?).map (·.type) = some t)
    (hu : P.underlying t = some (.array n e)) (he : P.underlying e = some .string) (hc : P.cellsOf e = 1) (hct : P.cellsOf t = n)
    (h : laidMet P [(name, .agg (ss.map fun s => .lit (.string s)))] W) : ∃ cs T z, W.heap[g]? = some (.cells cs T z) ∧ cs.toList = ss.map fun s => .string ⟨s.toArray⟩ := by
  obtain ⟨ps, ⟨g', t', cs, f, p, q, hg', ht', hv, hd, -, -⟩, -, -⟩ := h
  obtain rfl := Option.some.inj (hg.symm.trans hg')
  obtain rfl := Option.some.inj (ht.symm.trans ht')
  have hcell : ∃ T z, W.heap[g]? = some (.cells cs T z) := by
    simp only [World.var?, hg, Option.bind_some] at hv
    split at hv
    · simp only [Option.some.injEq] at hv; subst hv; exact ⟨_, _, by assumption⟩
    · cases hv
  obtain ⟨T, z, hT⟩ := hcell
  obtain ⟨xs, m, rfl, hx, hl, hn, hel⟩ := DataW.trod_array hu hd
  simp only [Prod.mk.injEq, DataW.agg.injEq] at hx
  have hlen : ss.length = xs.length := by have := congrArg List.length hx.1; simpa using this
  refine ⟨cs, T, z, hT, ?_⟩
  refine List.ext_getElem (by simp [hl, hct, hlen, hn]) fun i h1 h2 => ?_
  have hi : i < n := by rw [← hct, ← hl]; exact h1
  have h3 := hel i hi
  have h4 : (cs.toList.drop (i * P.cellsOf e)).take (P.cellsOf e) = [cs.toList[i]] := by
    rw [hc, Nat.mul_one, List.drop_eq_getElem_cons h1]; rfl
  rw [h4, List.getElem?_eq_getElem (by omega)] at h3
  obtain ⟨s, e1, e2, -⟩ := DataW.trod_string he h3
  simp only [List.cons.injEq, and_true] at e1
  have h5 : (ss.map fun s => (DataW.lit (.string s) : DataW Unit))[i]'(by simpa [hlen, hn] using hi) = (xs.map (·.1))[i]'(by simpa [hn] using hi) := by
    simp only [hx.1]
  simp only [List.getElem_map, e2, DataW.lit.injEq, Lit.string.injEq] at h5
  rw [e1, List.getElem_map, h5]
theorem one_of {P : Program} {W : World} {l : List (String × DataW Unit)} {name : String} {d : DataW Unit} (h : laidMetH P l W) (hf : (l.filter fun x => x.1 == name) = [(name, d)]) (hd : d.handleName?.isNone = true) :
    laidMet P [(name, d)] W := by
  have h1 := h.filter fun x => x.1 == name
  rw [hf, MakeChecks.laidMetH_plain _ _ _ (by simp [hd])] at h1
  exact h1
theorem Tryz.gSigns : Tryz.prog.globalNamed "horn/syntax.signs" = some 1 := by kernel_rfl
theorem Tryz.gLevels : Tryz.prog.globalNamed "horn/syntax.levels" = some 2 := by kernel_rfl
theorem Tryz.gCompare : Tryz.prog.globalNamed "horn/syntax.compare" = some 3 := by kernel_rfl
theorem Tryz.gErr : Tryz.prog.globalNamed "errors.errorType" = some 0 := by kernel_rfl
theorem Tryz.rt : (Tryz.prog.cutTypes.find? (·.1 == "internal/reflectlite.rtype")).map (·.2) = some 185 := by kernel_rfl
theorem Tryz.oneRow : ((List.range (398 - 100)).filter fun t => Tryz.prog.rowNamed t [101, 114, 114, 111, 114]) = [48] := by kernel_rfl
theorem Tryz.size : Tryz.prog.types.size = 398 - 100 := by kernel_rfl
theorem errs_of {W : World} {l : List (String × DataW Unit)} (h : laidMetH Tryz.prog l W) (hf : (l.filter fun x => x.1 == "errors.errorType") = [("errors.errorType", Rows.laid_errors_errorType)]) : TabE W := by
  have h1 := h.filter fun x => x.1 == "errors.errorType"
  rw [hf] at h1
  have h' : laidMet Tryz.prog [] W ∧ handlesMet Tryz.prog [("errors.errorType", Rows.laid_errors_errorType)] W := h1
  obtain ⟨name, u, ty, e1, e2, e3, e4, e5⟩ := h'.2 _ (List.mem_singleton.2 rfl)
  have en : name = [101, 114, 114, 111, 114] := (Option.some.inj e1).symm
  subst en
  obtain rfl := Option.some.inj (Tryz.rt.symm.trans e2)
  have hm : ty ∈ (List.range (398 - 100)).filter fun t => Tryz.prog.rowNamed t [101, 114, 114, 111, 114] := List.mem_filter.2 ⟨List.mem_range.2 (by rw [← Tryz.size]; exact e3), e4⟩
  rw [Tryz.oneRow] at hm
  obtain rfl := List.mem_singleton.1 hm
  have hh : typeHandle Tryz.prog 48 = .pointer (some ⟨12, 48, none⟩) := by kernel_rfl
  rw [hh] at e5
  unfold TabE
  simpa using World.var?_cell Tryz.gErr e5 0
theorem signs_of {W : World} {l : List (String × DataW Unit)} (h : laidMetH Tryz.prog l W) (hf : (l.filter fun x => x.1 == "horn/syntax.signs") = [("horn/syntax.signs", Rows.laid_horn_syntax_signs)]) : STabS W := by
  have h1 := one_of h hf rfl
  obtain ⟨cs, T, z, h2, h3⟩ := strs_of (ss := P.signs) Tryz.gSigns (t := _) (e := 9) (n := 23) rfl rfl Tryz.underlying9 (by kernel_rfl) (by kernel_rfl) h1
  refine ⟨cs, T, z, h2, ?_, ?_⟩
  · rw [← Array.length_toList, h3]; decide
  · rw [h3]; rfl
theorem cmp_of {W : World} {l : List (String × DataW Unit)} (h : laidMetH Tryz.prog l W) (hf : (l.filter fun x => x.1 == "horn/syntax.compare") = [("horn/syntax.compare", Rows.laid_horn_syntax_compare)]) : STabC W W.heap.size := by
  have h1 := one_of h hf rfl
  obtain ⟨cs, T, z, h2, h3⟩ := strs_of (ss := P.compares) Tryz.gCompare (t := _) (e := 9) (n := 9) rfl rfl Tryz.underlying9 (by kernel_rfl) (by kernel_rfl) h1
  refine ⟨ltOf h2, fun j hj => ?_⟩
  have h4 : cs[j]? = cs.toList[j]? := (Array.getElem?_toList ..).symm
  simp only [World.cell?, h2]
  rw [if_neg (by simp), h4, h3, List.getElem?_map, List.getD_eq_getElem?_getD, List.getElem?_eq_getElem (show j < P.compares.length from hj)]
  rfl
theorem row_of {P : Program} {W : World} {t e f : Nat} {v : Value} {ss : List (List UInt8)} {x : List MemPlace} (hu : P.underlying t = some (.slice e)) (he : P.underlying e = some .string) (hc : P.cellsOf e = 1) (h0 : 0 < ss.length)
    (h : DataW.trod (fun _ => ()) P W 0 (fun _ => true) false f t [v] = some (.slice (ss.map fun s => .lit (.string s)) [], x)) :
    ∃ b o c, b < W.heap.size ∧ v = .slice (some ⟨b, o, none⟩) ss.length c ∧ ∀ j, j < ss.length → W.cell? ⟨b, o + j, none⟩ = some (.string ⟨(ss.getD j []).toArray⟩) := by
  obtain ⟨a, cap, e1, -, e3⟩ := open_row hu hc h
  simp only [List.cons.injEq, and_true, List.length_map] at e1
  have key : ∀ j, j < ss.length → W.cell? (a.add j) = some (.string ⟨(ss.getD j []).toArray⟩) := fun j hj => by
    obtain ⟨u, n, q, c1, c2⟩ := e3 j (.lit (.string ss[j])) (by rw [List.getElem?_map, List.getElem?_eq_getElem hj]; rfl)
    obtain ⟨s, d1, d2, -⟩ := DataW.trod_string he c2
    simp only [List.cons.injEq, and_true] at d1
    simp only [Prod.mk.injEq, DataW.lit.injEq, Lit.string.injEq] at d2
    rw [c1, d1, List.getD_eq_getElem?_getD, List.getElem?_eq_getElem hj, Option.getD_some, d2.1]
  have k0 := key 0 h0
  obtain ⟨b, o, sp⟩ := a
  have hsp : sp = none := by
    cases sp with
    | none => rfl
    | some y =>
      simp only [World.cell?, Addr.add] at k0
      split at k0
      · simp at k0
      · cases k0
  subst hsp
  have addE : ∀ j, (⟨b, o, none⟩ : Addr).add j = ⟨b, o + j, none⟩ := fun j => by
    unfold Addr.add
    by_cases hj : j = 0
    · subst hj; simp
    · simp [hj]
  have hb : b < W.heap.size := by
    rw [addE] at k0
    simp only [World.cell?] at k0
    cases hh : W.heap[b]? with
    | none => rw [hh] at k0; simp at k0
    | some o' => exact (Array.getElem?_eq_some_iff.1 hh).1
  exact ⟨b, o, cap, hb, e1, fun j hj => addE j ▸ key j hj⟩
theorem lev_of {W : World} {l : List (String × DataW Unit)} (h : laidMetH Tryz.prog l W) (hf : (l.filter fun x => x.1 == "horn/syntax.levels") = [("horn/syntax.levels", Rows.laid_horn_syntax_levels)]) : STab W W.heap.size := by
  obtain ⟨ps, ⟨g', t', cs, f, p, q, hg', ht', hv, hd, -, -⟩, -, -⟩ := one_of h hf rfl
  obtain rfl := Option.some.inj (Tryz.gLevels.symm.trans hg')
  obtain rfl := Option.some.inj ((show (Tryz.prog.globals[2]?).map (·.type) = some _ from rfl).symm.trans ht')
  obtain ⟨xs, m, rfl, hx, hl, hn, hel⟩ := DataW.trod_array (n := 2) (e := 38) rfl hd
  have hcell : ∃ T z, W.heap[2]? = some (.cells cs T z) := by
    simp only [World.var?, Tryz.gLevels, Option.bind_some] at hv
    split at hv
    · simp only [Option.some.injEq] at hv; subst hv; exact ⟨_, _, by assumption⟩
    · cases hv
  obtain ⟨T, z, hT⟩ := hcell
  have hc : Tryz.prog.cellsOf 38 = 1 := by kernel_rfl
  have hsz : cs.toList.length = 2 := by rw [hl]; kernel_rfl
  simp only [Prod.mk.injEq, Rows.laid_horn_syntax_levels, DataW.agg.injEq] at hx
  refine ⟨ltOf hT, fun i hi => ?_⟩
  have h3 := hel i hi
  have h4 : (cs.toList.drop (i * Tryz.prog.cellsOf 38)).take (Tryz.prog.cellsOf 38) = [cs.toList[i]] := by
    rw [hc, Nat.mul_one, List.drop_eq_getElem_cons (by omega)]; rfl
  rw [h4, List.getElem?_eq_getElem (by omega)] at h3
  have h5 : xs[i].1 = .slice ((P.ops i).map fun s => .lit (.string s)) [] := by
    have : (xs.map (·.1))[i]'(by simpa [hn] using hi) = xs[i].1 := by simp
    rw [← this]
    simp only [← hx.1]
    match i, hi with
    | 0, _ => rfl
    | 1, _ => rfl
  obtain ⟨b, o, c, k1, k2, k3⟩ := row_of (ss := P.ops i) (x := xs[i].2) (t := 38) (e := 9) Tryz.underlying38 Tryz.underlying9 (by kernel_rfl) (by unfold P.ops; split <;> simp) (by rw [h3, ← h5])
  refine ⟨b, o, c, k1, ?_, k3⟩
  simp only [World.cell?, hT]
  rw [if_neg (by simp), ← Array.getElem?_toList, List.getElem?_eq_getElem (by omega), k2]
theorem tabs_of {W : World} {l : List (String × DataW Unit)} (h : laidMetH Tryz.prog l W) (h1 : (l.filter fun x => x.1 == "horn/syntax.signs") = [("horn/syntax.signs", Rows.laid_horn_syntax_signs)])
    (h2 : (l.filter fun x => x.1 == "horn/syntax.levels") = [("horn/syntax.levels", Rows.laid_horn_syntax_levels)]) (h3 : (l.filter fun x => x.1 == "horn/syntax.compare") = [("horn/syntax.compare", Rows.laid_horn_syntax_compare)]) : STabs W :=
  ⟨lev_of h h2, cmp_of h h3, signs_of h h1⟩
end Go.Proofs.YtkmpelgfhjgddaaGreatDoor
namespace Go.Proofs.YtkmpelgfhjgddaaGreatDoor
open Go.ChangeShapes Go.WideShapes Go.RowKit
set_option maxRecDepth 100000
theorem Tryz.own : ownKnob Tryz.prog.godebug = none := by kernel_rfl
theorem keptExt {w w' : World} (h : Ext w w') (may : MemPlace → Prop) : w.keptBut w' may := by
  refine ⟨h.os, h.output, fun i hi => ?_⟩
  have e := h.ext i _ (Array.getElem?_eq_getElem hi)
  rw [e, Array.getElem?_eq_getElem hi]
  cases w.heap[i] with
  | cells c t fr => exact ⟨rfl, rfl, rfl, fun _ _ => rfl⟩
  | map es clock => exact .inr ⟨rfl, rfl⟩
  | _ => rfl
theorem laidMet_layAll {P : Program} {w0 w' : World} {laid : List (String × DataW Unit)} (hh : w'.heap = (w0.layVars P laid).heap) (hf : w0.layFits P laid [] = true) (hi : w0.layIfaces P laid w' = true) : laidMet P laid w' := by
  have e1 : (laid.filter fun x => (laid.map (·.1)).contains x.1) = laid := List.filter_eq_self.2 fun x hx => List.contains_iff_mem.2 (List.mem_map.2 ⟨x, hx, rfl⟩)
  have e2 : (laid.filter fun x => !(laid.map (·.1)).contains x.1) = [] := List.filter_eq_nil_iff.2 fun x hx => by rw [List.contains_iff_mem.2 (List.mem_map.2 ⟨x, hx, rfl⟩)]; simp
  exact laidMet_layVars (w0 := w0) (laid.map (·.1)) [] (by rw [e1]; exact hh) (by rw [e1]; exact hf) (by rw [e1]; exact hi) (by rw [e2]; exact LaidIn.none)
noncomputable def wH (os : Os) : World :=
  let w0 := World.holding Tryz.prog os ⟨#[], #[], []⟩
  { w0 with heap := w0.heap.modify 0 fun
      | .cells _ t frozen => .cells #[.iface 185 (.agg #[.pointer (some ⟨12, 48, none⟩)])] t frozen
      | o => o }
noncomputable def wLd (l : List (String × DataW Unit)) (os : Os) : World := (wH os).layVars Tryz.prog (l.filter fun x => x.2.handleName?.isNone)
theorem wLd_os (l : List (String × DataW Unit)) (os : Os) : (wLd l os).os = os := World.layVars_os _ _ _
theorem loads_door (os : Os) (args : Array Value) : laidMetH Tryz.prog Rows.loadsRow.laid ((wLd Rows.loadsRow.laid os).forCall (fun _ _ => 0) ⟨#[], args, []⟩).memory :=
  laidMetH_of_parts (laidMet_layAll (w0 := wH os) (by simp [World.memory, World.forCall, Input.heap, wLd]) (by kernel_rfl) (by kernel_rfl)) (by kernel_rfl)
end Go.Proofs.YtkmpelgfhjgddaaGreatDoor
