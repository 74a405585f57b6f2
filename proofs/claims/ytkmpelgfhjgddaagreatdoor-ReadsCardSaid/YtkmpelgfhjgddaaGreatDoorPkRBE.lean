/- A part of one proof (SVar, SInt, STie, SSmall, SX1); no conditions beyond what each theorem names. -/
import Derived.Test.YtkmpelgfhjgddaaGreatDoorPkRBD
import Derived.Deep.QuietTactic
import Derived.BigQuiet
import Derived.Shelf.Strings.SlTrimAscii
set_option linter.all false
set_option linter.unusedVariables false
set_option linter.unusedSimpArgs false
namespace Go.Proofs.YtkmpelgfhjgddaaGreatDoor
open Go.RowKit
set_option linter.unusedVariables false
theorem SP.row {w : World} {pb tb : Nat} {T : List P.Tok} {k : Nat} {vars : List P.Bs} {d : Nat} (h : SP w pb tb T k vars d) :
    ∃ a n c, w.cell? ⟨pb, 1, none⟩ = some (.slice a n c) ∧ n = vars.length ∧ w.ownsRow (pb + 1) 9 1 (.slice a n c) vars.length (vars.map fun s => .string (bs s)) ∧
      ((vars = [] ∧ (Value.slice a n c) = .slice none 0 0) ∨ ∃ g cp, (Value.slice a n c) = .slice (some ⟨g, 0, none⟩) vars.length cp ∧ ∀ j, j < vars.length → w.cell? ⟨g, j, none⟩ = some (.string (bs (vars.getD j [])))) := by
  obtain ⟨cap, vv, -, -, hpb, hrow⟩ := h.blk
  have hrow' := hrow
  rcases hrow with ⟨g1, ⟨rfl, g2⟩ | ⟨g, cp, cur, rfl, e2, e3, e4, e5, e6, e7⟩⟩
  · refine ⟨_, _, _, cellOf hpb rfl, g2.symm, hrow', .inl ⟨List.length_eq_zero_iff.1 g2, rfl⟩⟩
  · refine ⟨_, _, _, cellOf hpb rfl, rfl, hrow', .inr ⟨g, cp, rfl, fun i hi => cellOf e3 ?_⟩⟩
    have h1 : cur[i]? = (cur.toList.take (vars.length * 1))[i]? := by
      rw [List.getElem?_take, if_pos (by omega)]; simp
    rw [h1, e7]
    simp [List.getD_eq_getElem?_getD, List.getElem?_eq_getElem hi]
theorem rowExt {w w' : World} {l : List P.Bs} {v : Value} (h : (l = [] ∧ v = .slice none 0 0) ∨ ∃ g cp, v = .slice (some ⟨g, 0, none⟩) l.length cp ∧ ∀ j, j < l.length → w.cell? ⟨g, j, none⟩ = some (.string (bs (l.getD j []))))
    (hw : ∀ (b : Nat) (o : Obj), w.heap[b]? = some o → w'.heap[b]? = some o) :
    (l = [] ∧ v = .slice none 0 0) ∨ ∃ g cp, v = .slice (some ⟨g, 0, none⟩) l.length cp ∧ ∀ j, j < l.length → w'.cell? ⟨g, j, none⟩ = some (.string (bs (l.getD j []))) := by
  rcases h with h | ⟨g, cp, h1, h2⟩
  · exact .inl h
  · exact .inr ⟨g, cp, h1, fun j hj => cellExt (h2 j hj) hw⟩
set_option maxHeartbeats 800000 in
theorem sVar_old {pb tb : Nat} {T : List P.Tok} {k : Nat} {vars : List P.Bs} {d : Nat} {w : World} (t : P.Tok) (hp : SP w pb tb T k vars d) (ht : t.text ≠ [95]) {j : Nat} (hj : vars.idxOf? t.text = some j) (hj2 : j < 100) :
    Calls Tryz.prog 113 #[.pointer (some ⟨pb, 0, none⟩), .agg #[.int .i64 t.kind, .string (bs t.text), .int .i64 t.pos]] w
      (SPost IsEx pb tb T d w (.ok (.mk 118 [] 0 j []) k vars)) := by
  have H := Lib.hid hp
  obtain ⟨a, n, c, hv, hn, -, hrow⟩ := hp.row
  have hlt := hp.d2.2.2
  have hnv := hp.nv
  obtain ⟨s, hs⟩ : ∃ s, s = t.text := ⟨_, rfl⟩
  have hgi : goIdx (vars.idxOf? s) = (j : Int) := by rw [hs, hj]; rfl
  rw [← hs] at ht ⊢
  have HS := Lib.hid hs
  have HR := Lib.hid hrow
  have HG := Lib.hid hgi
  have hsx : (s == [95]) = false := by simpa using ht
  clear hp hj hs hrow hgi ht hn
  go_enter Tryz.func113, Tryz.ntmps113
  go_wp2_with fail
  go_quiet ((go_at_call 129; exact Calls.quiet_of_same (index_at vars s _ _ (by omega) _ HG.out (by exact rowExt HR.out (fun b o h => blk_alloc_old h)))))
  go_wp2_with fail
  go_ret
  exact ⟨_, rfl, isEx_leaf ⟨by omega, by rw [size_alloc, size_drewN, size_alloc]; omega⟩ (blk_new1 (by rw [size_drewN, size_alloc])), H.out.ext fun b o h => blk_alloc_old (blk_alloc_old h),
    (((FrM.refl _ _).alloc _).drewN _).alloc _⟩
theorem SFr.ofGrown {pb n : Nat} {a b : World} {v : Value} {xs : List Value} (hown : a.ownsRow (pb + 1) 9 1 v n xs) (h : a.grownBy b v.ownBlock) : SFr pb a b := by
  refine (FrM.grownBy h).mono fun i o hi hm => ?_
  rcases hown.2 with ⟨rfl, _⟩ | ⟨g, cap, cur, rfl, hb, hg, _⟩
  · cases hm
  · simp only [Value.ownBlock, Option.some.injEq] at hm
    subst hm
    rw [hg] at hi
    injection hi with hi
    exact .inr ⟨by omega, _, _, hi.symm⟩
theorem SP.appended {w w1 w2 : World} {pb tb : Nat} {T : List P.Tok} {k : Nat} {vars : List P.Bs} {d : Nat} {s : P.Bs} {v v' : Value} (h : SP w pb tb T k vars d) (hl : vars.length < 12)
    (hv : w.cell? ⟨pb, 1, none⟩ = some v) (hw : ∀ (b : Nat) (o : Obj), w.heap[b]? = some o → w1.heap[b]? = some o) (hown : w1.ownsRow (pb + 1) 9 1 v vars.length (vars.map fun s => .string (bs s)))
    (hown' : w2.ownsRow (pb + 1) 9 1 v' (vars.length + 1) ((vars.map fun s => .string (bs s)) ++ [.string (bs s)])) (hg : w1.grownBy w2 v.ownBlock) :
    SP (w2.setCell ⟨pb, 1, none⟩ v') pb tb T k (vars ++ [s]) d ∧ SFr pb w1 (w2.setCell ⟨pb, 1, none⟩ v') := by
  have hf : SFr pb w1 (w2.setCell ⟨pb, 1, none⟩ v') := SFr.setp (SFr.ofGrown hown hg) _
  refine ⟨?_, hf⟩
  have h1 := h.ext hw
  obtain ⟨tw, lt, kt, nv, toks, cap, vv, h1, h2, h3, -⟩ := h1
  have h4 : w2.heap[pb]? = some (.cells #[.slice (some ⟨tb, k * 3, none⟩) (T.length - k) (cap - k), vv, .int .i64 d] 142 (0, 0)) := by
    rw [hg.block pb (ltOf h3) (by
      intro e
      have := hown.lt pb e.symm
      omega)]
    exact h3
  refine ⟨tw, lt, kt, by simp; omega, hf.toks lt toks, cap, v', h1, h2, by rw [blk_setCell_same h4]; rfl, ?_⟩
  have := ownsRow_setCell_below hown' (a := ⟨pb, 1, none⟩) (by show pb < pb + 1; omega) v'
  simpa using this
theorem grown_cell {w w2 : World} {o : Obj} {pb tb : Nat} {T : List P.Tok} {k : Nat} {vars : List P.Bs} {d n : Nat} {v : Value} {xs : List Value} (hg : (w.alloc o).drew.grownBy w2 v.ownBlock)
    (hown : (w.alloc o).drew.ownsRow (pb + 1) 9 1 v n xs) (h : SP w pb tb T k vars d) : (∃ u, w2.cell? ⟨pb, 1, none⟩ = some u) ∧ w2.frozen? ⟨pb, 1, none⟩ = false ∧ pb < w2.heap.size := by
  obtain ⟨cap, vv, -, -, h3, -⟩ := h.blk
  have h3' : (w.alloc o).drew.heap[pb]? = _ := blk_alloc_old h3
  have h4 := hg.block pb (ltOf h3') (by
      intro e
      have := hown.lt pb e.symm
      omega)
  rw [h3'] at h4
  exact ⟨⟨_, cellOf h4 rfl⟩, freeOf h4 1, ltOf h4⟩
theorem sInfoStr : (Tryz.prog.info? 9).map (fun i => (i.zero, i.size, i.bytes)) = some (some (.string ⟨#[]⟩), 1, 16) := by kernel_rfl
set_option maxHeartbeats 2000000 in
theorem sVar_new {pb tb : Nat} {T : List P.Tok} {k : Nat} {vars : List P.Bs} {d : Nat} {w : World} (t : P.Tok) (hp : SP w pb tb T k vars d) (ht : vars.idxOf? t.text = none) (hl : vars.length < 12) :
    Calls Tryz.prog 113 #[.pointer (some ⟨pb, 0, none⟩), .agg #[.int .i64 t.kind, .string (bs t.text), .int .i64 t.pos]] w
      (SPost IsEx pb tb T d w (.ok (.mk 118 [] 0 vars.length []) k (vars ++ [t.text]))) := by
  have H := Lib.hid hp
  obtain ⟨a, n, c, hv, hn, hown, hrow⟩ := hp.row
  have hlt := hp.d2.2.2
  have hfz : w.frozen? ⟨pb, 1, none⟩ = false := by
    obtain ⟨_, _, _, _, q, _⟩ := hp.blk
    exact freeOf q 1
  have hnv := hp.nv
  obtain ⟨s, hs⟩ : ∃ s, s = t.text := ⟨_, rfl⟩
  have hgi : goIdx (vars.idxOf? s) = -1 := by rw [hs, ht]; rfl
  rw [← hs]
  have HS := Lib.hid hs
  have HR := Lib.hid hrow
  have HG := Lib.hid hgi
  have HO := Lib.hid hown
  have hn12 : n < 12 := by omega
  have hn12' : ((n : Int) == 12) = false := by simp; omega
  have HN := Lib.hid hn
  obtain ⟨i0, hi, hz0, hz1, hz2⟩ := info_parts sInfoStr
  clear hp hs hrow hgi ht hown hn
  go_enter Tryz.func113, Tryz.ntmps113
  go_wp2_with fail
  go_quiet ((go_at_call 129; exact Calls.quiet_of_same (index_at vars s _ _ (by omega) _ HG.out (by exact rowExt HR.out (fun b o h => blk_alloc_old h)))))
  go_wp2_with fail
  have xb : (w.alloc (Obj.cells #[Value.int IntKind.i64 t.kind, Value.string (bs s), Value.int IntKind.i64 t.pos] 139)).heap[w.heap.size]? = _ := blk_alloc_new _ _
  have hextW : ∀ (b : Nat) (o : Obj), w.heap[b]? = some o → ((w.alloc (Obj.cells #[Value.int IntKind.i64 t.kind, Value.string (bs s), Value.int IntKind.i64 t.pos] 139)).drewN nq).heap[b]? = some o := fun b o h => blk_alloc_old h
  have hszW : ((w.alloc (Obj.cells #[Value.int IntKind.i64 t.kind, Value.string (bs s), Value.int IntKind.i64 t.pos] 139)).drewN nq).heap.size = w.heap.size + 1 := by rw [size_drewN, size_alloc]
  have hfrW : SFr pb w ((w.alloc (Obj.cells #[Value.int IntKind.i64 t.kind, Value.string (bs s), Value.int IntKind.i64 t.pos] 139)).drewN nq) := ((FrM.refl _ _).alloc _).drewN _
  have xbW : ((w.alloc (Obj.cells #[Value.int IntKind.i64 t.kind, Value.string (bs s), Value.int IntKind.i64 t.pos] 139)).drewN nq).heap[w.heap.size]? = _ := xb
  generalize (w.alloc (Obj.cells #[Value.int IntKind.i64 t.kind, Value.string (bs s), Value.int IntKind.i64 t.pos] 139)).drewN nq = W at *
  have c1 : W.cell? ⟨w.heap.size, 1, none⟩ = some (.string (bs s)) := cellOf xbW rfl
  have hvW := cellExt hv hextW
  have hpW := H.out.ext hextW
  have hltW := hpW.d2.2.2
  have hfzW : W.frozen? ⟨pb, 1, none⟩ = false := by
    obtain ⟨_, _, _, _, q, _⟩ := hpW.blk
    exact freeOf q 1
  have hownW : W.ownsRow (pb + 1) 9 1 (.slice a n c) vars.length (vars.map fun s => .string (bs s)) := by
    obtain ⟨g1, g2 | ⟨g, cp, cur, e1, e2, e3, e4⟩⟩ := HO.out
    · exact ⟨g1, .inl g2⟩
    · exact ⟨g1, .inr ⟨g, cp, cur, e1, e2, hextW _ _ e3, e4⟩⟩
  have HOW := Lib.hid hownW
  have HPW := Lib.hid hpW
  have HFW := Lib.hid hfrW
  clear hownW hpW hfrW xb xbW hv hfz hextW
  go_region_law (refine step_append_own rfl _ _ _ rfl (pb + 1) 9 i0 _ 1 16 Tryz.underlying38 hi hz0 hz1 hz2 rfl (by decide) _ _ _ rfl (own_allocD HOW.out _) ⟨w.heap.size + 1, 0, none⟩ 1 1 [.string (bs s)] rfl rfl (one_newD hszW.symm) (by simp [Value.oneCell']) (by unfold maxLen; omega) (by omega) (by simp; omega) ?_; intro v' w1 hown1 hgrow1 hnn1; obtain ⟨g', cap', rfl⟩ := own_succ hown1; have HA := Lib.hid (SP.appended (w1 := (W.alloc (Obj.cells #[Value.string (bs s)] 9)).drew) HPW.out (by have := HN.out; omega) hvW (fun b o h => blk_alloc_old (o := Obj.cells #[Value.string (bs s)] 9) h) (own_allocD HOW.out _) hown1 hgrow1); obtain ⟨⟨u1', c1'⟩, f1', l1'⟩ := grown_cell hgrow1 (own_allocD HOW.out (Obj.cells #[Value.string (bs s)] 9)) HPW.out; clear hown1 hgrow1 hnn1)
  all_goals
    go_wp2_with fail
    go_ret
    have hn := HN.out
    subst hn
    have hs2 := HA.out.2.size
    rw [size_drew, size_alloc, size_setCell] at hs2
    exact ⟨_, rfl, isEx_leaf ⟨by omega, by rw [size_alloc, size_setCell]; omega⟩ (blk_new1 (by rw [size_setCell])), HA.out.1.ext fun b o h => blk_alloc_old h,
      ((HFW.out.trans (((FrM.refl _ _).alloc _).drew)).trans HA.out.2).alloc _⟩
set_option maxHeartbeats 2000000 in
theorem sVar_und {pb tb : Nat} {T : List P.Tok} {k : Nat} {vars : List P.Bs} {d : Nat} {w : World} (t : P.Tok) (hp : SP w pb tb T k vars d) (ht : t.text = [95]) {j : Nat} (hj : vars.idxOf? t.text = some j) (hj2 : j < 100) (hl : vars.length < 12) :
    Calls Tryz.prog 113 #[.pointer (some ⟨pb, 0, none⟩), .agg #[.int .i64 t.kind, .string (bs t.text), .int .i64 t.pos]] w
      (SPost IsEx pb tb T d w (.ok (.mk 118 [] 0 vars.length []) k (vars ++ [t.text]))) := by
  have H := Lib.hid hp
  obtain ⟨a, n, c, hv, hn, hown, hrow⟩ := hp.row
  have hlt := hp.d2.2.2
  have hfz : w.frozen? ⟨pb, 1, none⟩ = false := by
    obtain ⟨_, _, _, _, q, _⟩ := hp.blk
    exact freeOf q 1
  have hnv := hp.nv
  obtain ⟨s, hs⟩ : ∃ s, s = t.text := ⟨_, rfl⟩
  have hgi : goIdx (vars.idxOf? s) = (j : Int) := by rw [hs, hj]; rfl
  rw [← hs]
  have HS := Lib.hid hs
  have HR := Lib.hid hrow
  have HG := Lib.hid hgi
  have HO := Lib.hid hown
  have hn12 : n < 12 := by omega
  have hn12' : ((n : Int) == 12) = false := by simp; omega
  have HN := Lib.hid hn
  obtain ⟨i0, hi, hz0, hz1, hz2⟩ := info_parts sInfoStr
  have hse : (s == [95]) = true := by rw [hs, ht]; rfl
  clear hp hs hrow hgi ht hown hn hj
  go_enter Tryz.func113, Tryz.ntmps113
  go_wp2_with fail
  go_quiet ((go_at_call 129; exact Calls.quiet_of_same (index_at vars s _ _ (by omega) _ HG.out (by exact rowExt HR.out (fun b o h => blk_alloc_old h)))))
  go_wp2_with fail
  have xb : (w.alloc (Obj.cells #[Value.int IntKind.i64 t.kind, Value.string (bs s), Value.int IntKind.i64 t.pos] 139)).heap[w.heap.size]? = _ := blk_alloc_new _ _
  have hextW : ∀ (b : Nat) (o : Obj), w.heap[b]? = some o → ((w.alloc (Obj.cells #[Value.int IntKind.i64 t.kind, Value.string (bs s), Value.int IntKind.i64 t.pos] 139)).drewN nq).heap[b]? = some o := fun b o h => blk_alloc_old h
  have hszW : ((w.alloc (Obj.cells #[Value.int IntKind.i64 t.kind, Value.string (bs s), Value.int IntKind.i64 t.pos] 139)).drewN nq).heap.size = w.heap.size + 1 := by rw [size_drewN, size_alloc]
  have hfrW : SFr pb w ((w.alloc (Obj.cells #[Value.int IntKind.i64 t.kind, Value.string (bs s), Value.int IntKind.i64 t.pos] 139)).drewN nq) := ((FrM.refl _ _).alloc _).drewN _
  have xbW : ((w.alloc (Obj.cells #[Value.int IntKind.i64 t.kind, Value.string (bs s), Value.int IntKind.i64 t.pos] 139)).drewN nq).heap[w.heap.size]? = _ := xb
  generalize (w.alloc (Obj.cells #[Value.int IntKind.i64 t.kind, Value.string (bs s), Value.int IntKind.i64 t.pos] 139)).drewN nq = W at *
  have c1 : W.cell? ⟨w.heap.size, 1, none⟩ = some (.string (bs s)) := cellOf xbW rfl
  have hvW := cellExt hv hextW
  have hpW := H.out.ext hextW
  have hltW := hpW.d2.2.2
  have hfzW : W.frozen? ⟨pb, 1, none⟩ = false := by
    obtain ⟨_, _, _, _, q, _⟩ := hpW.blk
    exact freeOf q 1
  have hownW : W.ownsRow (pb + 1) 9 1 (.slice a n c) vars.length (vars.map fun s => .string (bs s)) := by
    obtain ⟨g1, g2 | ⟨g, cp, cur, e1, e2, e3, e4⟩⟩ := HO.out
    · exact ⟨g1, .inl g2⟩
    · exact ⟨g1, .inr ⟨g, cp, cur, e1, e2, hextW _ _ e3, e4⟩⟩
  have HOW := Lib.hid hownW
  have HPW := Lib.hid hpW
  have HFW := Lib.hid hfrW
  clear hownW hpW hfrW xb xbW hv hfz hextW
  go_region_law (refine step_append_own rfl _ _ _ rfl (pb + 1) 9 i0 _ 1 16 Tryz.underlying38 hi hz0 hz1 hz2 rfl (by decide) _ _ _ rfl (own_allocD HOW.out _) ⟨w.heap.size + 1, 0, none⟩ 1 1 [.string (bs s)] rfl rfl (one_newD hszW.symm) (by simp [Value.oneCell']) (by unfold maxLen; omega) (by omega) (by simp; omega) ?_; intro v' w1 hown1 hgrow1 hnn1; obtain ⟨g', cap', rfl⟩ := own_succ hown1; have HA := Lib.hid (SP.appended (w1 := (W.alloc (Obj.cells #[Value.string (bs s)] 9)).drew) HPW.out (by have := HN.out; omega) hvW (fun b o h => blk_alloc_old (o := Obj.cells #[Value.string (bs s)] 9) h) (own_allocD HOW.out _) hown1 hgrow1); obtain ⟨⟨u1', c1'⟩, f1', l1'⟩ := grown_cell hgrow1 (own_allocD HOW.out (Obj.cells #[Value.string (bs s)] 9)) HPW.out; clear hown1 hgrow1 hnn1)
  all_goals
    go_wp2_with fail
    go_ret
    have hn := HN.out
    subst hn
    have hs2 := HA.out.2.size
    rw [size_drew, size_alloc, size_setCell] at hs2
    exact ⟨_, rfl, isEx_leaf ⟨by omega, by rw [size_alloc, size_setCell]; omega⟩ (blk_new1 (by rw [size_setCell])), HA.out.1.ext fun b o h => blk_alloc_old h,
      ((HFW.out.trans (((FrM.refl _ _).alloc _).drew)).trans HA.out.2).alloc _⟩
set_option maxHeartbeats 2000000 in
theorem sVar_full {pb tb : Nat} {T : List P.Tok} {k : Nat} {vars : List P.Bs} {d : Nat} {w : World} (t : P.Tok) (hp : SP w pb tb T k vars d) (ht : vars.idxOf? t.text = none) (hl : vars.length = 12) :
    Calls Tryz.prog 113 #[.pointer (some ⟨pb, 0, none⟩), .agg #[.int .i64 t.kind, .string (bs t.text), .int .i64 t.pos]] w
      (SPost IsEx pb tb T d w (.err 4 t.pos)) := by
  have H := Lib.hid hp
  obtain ⟨a, n, c, hv, hn, hown, hrow⟩ := hp.row
  have hlt := hp.d2.2.2
  have hfz : w.frozen? ⟨pb, 1, none⟩ = false := by
    obtain ⟨_, _, _, _, q, _⟩ := hp.blk
    exact freeOf q 1
  have hnv := hp.nv
  obtain ⟨s, hs⟩ : ∃ s, s = t.text := ⟨_, rfl⟩
  have hgi : goIdx (vars.idxOf? s) = -1 := by rw [hs, ht]; rfl
  rw [← hs]
  have HS := Lib.hid hs
  have HR := Lib.hid hrow
  have HG := Lib.hid hgi
  have HO := Lib.hid hown
  have hn12' : ((n : Int) == 12) = true := by simp; omega
  have HN := Lib.hid hn
  obtain ⟨i0, hi, hz0, hz1, hz2⟩ := info_parts sInfoStr
  clear hp hs hrow hgi ht hown hn HN
  go_enter Tryz.func113, Tryz.ntmps113
  go_wp2_with fail
  go_quiet ((go_at_call 129; exact Calls.quiet_of_same (index_at vars s _ _ (by omega) _ HG.out (by exact rowExt HR.out (fun b o h => blk_alloc_old h)))))
  go_wp2_with fail
  refine (sFail _ _ _ pb (H.out.ext (w' := (w.alloc (Obj.cells #[Value.int IntKind.i64 t.kind, Value.string (bs s), Value.int IntKind.i64 t.pos] 139)).drewN nq) fun b o h => blk_alloc_old h).sb).mono ?_
  rintro e w3 ⟨⟨b, rfl, hb3, hl3⟩, hf3, hs3⟩
  rw [size_drewN, size_alloc] at hl3
  exact ⟨rfl, ⟨b, rfl, hb3, by omega⟩, (((FrM.refl _ _).alloc _).drewN _).trans hf3, hs3⟩
set_option maxHeartbeats 2000000 in
theorem sVar_fullu {pb tb : Nat} {T : List P.Tok} {k : Nat} {vars : List P.Bs} {d : Nat} {w : World} (t : P.Tok) (hp : SP w pb tb T k vars d) (ht : t.text = [95]) {j : Nat} (hj : vars.idxOf? t.text = some j) (hj2 : j < 100) (hl : vars.length = 12) :
    Calls Tryz.prog 113 #[.pointer (some ⟨pb, 0, none⟩), .agg #[.int .i64 t.kind, .string (bs t.text), .int .i64 t.pos]] w
      (SPost IsEx pb tb T d w (.err 4 t.pos)) := by
  have H := Lib.hid hp
  obtain ⟨a, n, c, hv, hn, hown, hrow⟩ := hp.row
  have hlt := hp.d2.2.2
  have hfz : w.frozen? ⟨pb, 1, none⟩ = false := by
    obtain ⟨_, _, _, _, q, _⟩ := hp.blk
    exact freeOf q 1
  have hnv := hp.nv
  obtain ⟨s, hs⟩ : ∃ s, s = t.text := ⟨_, rfl⟩
  have hgi : goIdx (vars.idxOf? s) = (j : Int) := by rw [hs, hj]; rfl
  rw [← hs]
  have HS := Lib.hid hs
  have HR := Lib.hid hrow
  have HG := Lib.hid hgi
  have HO := Lib.hid hown
  have hn12' : ((n : Int) == 12) = true := by simp; omega
  have HN := Lib.hid hn
  obtain ⟨i0, hi, hz0, hz1, hz2⟩ := info_parts sInfoStr
  have hse : (s == [95]) = true := by rw [hs, ht]; rfl
  clear hp hs hrow hgi ht hown hn HN hj
  go_enter Tryz.func113, Tryz.ntmps113
  go_wp2_with fail
  go_quiet ((go_at_call 129; exact Calls.quiet_of_same (index_at vars s _ _ (by omega) _ HG.out (by exact rowExt HR.out (fun b o h => blk_alloc_old h)))))
  go_wp2_with fail
  refine (sFail _ _ _ pb (H.out.ext (w' := (w.alloc (Obj.cells #[Value.int IntKind.i64 t.kind, Value.string (bs s), Value.int IntKind.i64 t.pos] 139)).drewN nq) fun b o h => blk_alloc_old h).sb).mono ?_
  rintro e w3 ⟨⟨b, rfl, hb3, hl3⟩, hf3, hs3⟩
  rw [size_drewN, size_alloc] at hl3
  exact ⟨rfl, ⟨b, rfl, hb3, by omega⟩, (((FrM.refl _ _).alloc _).drewN _).trans hf3, hs3⟩
theorem idx_lt {l : List P.Bs} {s : P.Bs} {j : Nat} (h : l.idxOf? s = some j) : j < l.length := by
  rw [List.idxOf?, List.findIdx?_eq_some_iff_getElem] at h
  exact h.1
theorem cVar : CVar := by
  refine ⟨fun {pb tb T k vars d w} t hp _ => ?_⟩
  unfold P.pVar
  have hnv := hp.nv
  by_cases hu : t.text = [95]
  · rw [if_pos hu]
    by_cases hl : vars.length = 12
    · dsimp only
      rw [if_pos (show vars.length = P.maxVars from hl)]
      cases hj : vars.idxOf? t.text with
      | none => exact sVar_full t hp hj hl
      | some j => exact sVar_fullu t hp hu hj (by have := idx_lt hj; omega) hl
    · dsimp only
      rw [if_neg (show ¬ vars.length = P.maxVars from hl)]
      cases hj : vars.idxOf? t.text with
      | none => exact sVar_new t hp hj (by omega)
      | some j => exact sVar_und t hp hu hj (by have := idx_lt hj; omega) (by omega)
  · rw [if_neg hu]
    cases hj : vars.idxOf? t.text with
    | some j => exact sVar_old t hp hu hj (by have := idx_lt hj; omega)
    | none =>
      by_cases hl : vars.length = 12
      · dsimp only
        rw [if_pos (show vars.length = P.maxVars from hl)]
        exact sVar_full t hp hj hl
      · dsimp only
        rw [if_neg (show ¬ vars.length = P.maxVars from hl)]
        exact sVar_new t hp hj (by omega)
end Go.Proofs.YtkmpelgfhjgddaaGreatDoor
namespace Go.Proofs.YtkmpelgfhjgddaaGreatDoor
open Go.RowKit
theorem parseUintM_num : ∀ (l : P.Bs) (acc : Nat), l.all P.digit = true → l.length ≤ 9 → acc < 10 ^ (9 - l.length) →
    Go.Lib.parseUintM (2 ^ 64 - 1) acc l = .ok (l.foldl (fun v c => 10 * v + (c.toNat - 48)) acc)
  | [], acc, _, _, _ => by simp [Go.Lib.parseUintM]
  | c :: r, acc, h, hl, ha => by
    simp only [List.all_cons, Bool.and_eq_true, P.digit, decide_eq_true_eq] at h
    simp only [List.length_cons] at hl ha
    have h9 : 10 ^ (9 - (r.length + 1)) ≤ 10 ^ 8 := Nat.pow_le_pow_right (by decide) (by omega)
    have e9 : (10 : Nat) ^ 8 = 100000000 := by decide
    have hp : 10 * 10 ^ (9 - (r.length + 1)) = 10 ^ (9 - r.length) := by
      rw [← Nat.pow_succ']
      congr 1
      omega
    rw [Go.Lib.parseUintM, if_pos h.1, if_neg (by omega), if_neg (by
      have e : (2 : Nat) ^ 64 = 18446744073709551616 := by decide
      omega)]
    rw [parseUintM_num r (acc * 10 + (c.toNat - 48)) h.2 (by omega) (by omega)]
    simp only [List.foldl_cons, Nat.mul_comm]
theorem num_nat : ∀ (l : P.Bs) (acc : Nat), l.all P.digit = true → l.foldl (fun (v : Int) c => 10 * v + ((c.toNat : Int) - 48)) (acc : Int) = ((l.foldl (fun v c => 10 * v + (c.toNat - 48)) acc : Nat) : Int)
  | [], acc, _ => rfl
  | c :: r, acc, h => by
    simp only [List.all_cons, Bool.and_eq_true, P.digit, decide_eq_true_eq] at h
    simp only [List.foldl_cons]
    rw [← num_nat r _ h.2]
    congr 1
    omega
theorem foldl_lt : ∀ (l : P.Bs) (acc n : Nat), l.all P.digit = true → l.length ≤ n → n ≤ 9 → acc < 10 ^ (9 - n) → l.foldl (fun v c => 10 * v + (c.toNat - 48)) acc < 10 ^ 9
  | [], acc, n, _, _, hn, ha => by
    have : 10 ^ (9 - n) ≤ 10 ^ 9 := Nat.pow_le_pow_right (by decide) (by omega)
    simp only [List.foldl_nil]
    omega
  | c :: r, acc, n, h, hl, hn, ha => by
    simp only [List.all_cons, Bool.and_eq_true, P.digit, decide_eq_true_eq] at h
    simp only [List.length_cons] at hl
    simp only [List.foldl_cons]
    have hp : 10 * 10 ^ (9 - n) = 10 ^ (9 - (n - 1)) := by
      rw [← Nat.pow_succ']
      congr 1
      omega
    exact foldl_lt r _ (n - 1) h.2 (by omega) (by omega) (by omega)
theorem parseInt_num {l : P.Bs} (h0 : l ≠ []) (h : l.all P.digit = true) (hl : l.length ≤ 9) : Go.Lib.parseIntB 64 l = .ok (P.num l) := by
  obtain ⟨c, r, rfl⟩ : ∃ c r, l = c :: r := by
    cases l with
    | nil => exact absurd rfl h0
    | cons c r => exact ⟨c, r, rfl⟩
  have hc : 48 ≤ c.toNat ∧ c.toNat ≤ 57 := by
    simp only [List.all_cons, Bool.and_eq_true, P.digit, decide_eq_true_eq] at h
    exact h.1
  have hu : Go.Lib.parseUintB 64 (c :: r) = .ok ((c :: r).foldl (fun v c => 10 * v + (c.toNat - 48)) 0) := by
    rw [Go.Lib.parseUintB, if_neg (by simp)]
    exact parseUintM_num (c :: r) 0 h hl (Nat.pow_pos (by decide))
  have hlt := foldl_lt (c :: r) 0 9 h hl (Nat.le_refl _) (by decide)
  have e9 : (10 : Nat) ^ 9 = 1000000000 := by decide
  have e63 : (2 : Nat) ^ 63 = 9223372036854775808 := by decide
  rw [Go.Lib.parseIntB]
  simp only [show ¬ (c.toNat = 43 ∨ c.toNat = 45) from by omega, if_false, hu]
  rw [if_neg (by simp only [show (64 : Nat) - 1 = 63 from rfl]; omega), if_neg (by omega)]
  rw [if_neg (by omega)]
  congr 1
  exact (num_nat (c :: r) 0 h).symm
theorem ext_freeze {w w' : World} (h : Ext w w') {a : Addr} (ha : w.heap.size ≤ a.block) (n : Nat) : Ext w (w'.freeze a n) := by
  unfold World.freeze
  split
  · exact h
  · refine ⟨h.os, h.tape, h.output, by simpa using h.size, fun b o hb hn => ?_⟩
    have := ltOf hb
    show (w'.heap.modify a.block _)[b]? = some o
    rw [Array.getElem?_modify, if_neg (by omega)]
    exact h.block b o hb hn
theorem ext_bytesWorld (w : World) (e : TypeId) (s : ByteArray) : Ext w (Go.Lib.bytesWorld w e s) := by
  unfold Go.Lib.bytesWorld
  exact ext_freeze (((FrM.refl _ _).drew).alloc _) (Nat.le_refl _) _
theorem cInt : CInt := by
  refine ⟨fun {w} s h0 h hl => ?_⟩
  refine (Tryz.strconv_ParseInt_10_at64_ok (bs s) ?_ (P.num s) (parseInt_num h0 h hl) w).mono ?_
  · show s.toArray.size ≤ _
    simp; omega
  · rintro e w' ⟨rfl, rfl | ⟨t, rfl⟩⟩
    · exact ⟨rfl, FrM.refl _ _⟩
    · exact ⟨rfl, ext_bytesWorld _ _ _⟩
end Go.Proofs.YtkmpelgfhjgddaaGreatDoor
namespace Go.Proofs.YtkmpelgfhjgddaaGreatDoor
open Go.RowKit
theorem termsBelow : ∀ f : Nat, ∀ m, m ≤ f → CPrim m ∧ CArgs m ∧ CList m ∧ COper m
  | 0, m, h => by
    obtain rfl : m = 0 := by omega
    exact ⟨cPrim0, cArgs0, cList0, cOper0⟩
  | f + 1, m, h => by
    have ih := termsBelow f
    rcases Nat.lt_or_ge m (f + 1) with hm | hm
    · exact ih m (by omega)
    · obtain rfl : m = f + 1 := by omega
      have hexp : ∀ j, j < f + 1 → CExpr j := fun j hj => cExpr (ih j (by omega)).2.2.2
      have hf := ih f (Nat.le_refl f)
      exact ⟨cPrim hf.2.1 (cExpr hf.2.2.2) hf.2.2.1 cVar cInt, cArgs hexp, cList hexp, cOper hf.1 fun j hj => (ih j hj).2.2.2⟩
theorem cExprs (f : Nat) : CExpr f := cExpr (termsBelow f f (Nat.le_refl f)).2.2.2
end Go.Proofs.YtkmpelgfhjgddaaGreatDoor
namespace Go.Proofs.YtkmpelgfhjgddaaGreatDoor
open Go.RowKit
set_option linter.unusedVariables false
set_option maxRecDepth 100000 in
set_option maxHeartbeats 2000000 in
theorem sClass (c : UInt8) {w : World} : Calls Tryz.prog 94 #[.int .u8 c.toNat] w fun e w' => e = .returned (.int .u8 (P.cls c)) ∧ w' = w := by
  have hc : c.toNat < 256 := c.toNat_lt
  unfold P.cls
  obtain ⟨n, hn⟩ : ∃ n, n = c.toNat := ⟨_, rfl⟩
  rw [← hn] at hc ⊢
  clear hn
  by_cases a1 : 97 ≤ n
  · by_cases a2 : n ≤ 122
    · have b1 : (97 : Int) ≤ n := by omega
      have b2 : (n : Int) ≤ 122 := by omega
      rw [if_pos ⟨a1, a2⟩]
      go_enter Tryz.func94, Tryz.ntmps94
      go_wp2_with fail
      go_ret
      exact ⟨rfl, rfl⟩
    · have b1 : (97 : Int) ≤ n := by omega
      have b2 : ¬ (n : Int) ≤ 122 := by omega
      have b3 : (65 : Int) ≤ n := by omega
      have b4 : ¬ (n : Int) ≤ 90 := by omega
      have b5 : ((n : Int) == 95) = false := by simp; omega
      have b6 : (48 : Int) ≤ n := by omega
      have b7 : ¬ (n : Int) ≤ 57 := by omega
      have b8 : ¬ (n : Int) = 95 := by omega
      rw [if_neg (by omega), if_neg (by omega), if_neg (by omega)]
      go_enter Tryz.func94, Tryz.ntmps94
      go_wp2_with fail
      go_ret
      exact ⟨rfl, rfl⟩
  · have b1 : ¬ (97 : Int) ≤ n := by omega
    rw [if_neg (by omega)]
    by_cases a3 : n = 95
    · subst a3
      go_enter Tryz.func94, Tryz.ntmps94
      go_wp2_with fail
      go_ret
      exact ⟨rfl, rfl⟩
    have b5 : ((n : Int) == 95) = false := by simp; omega
    have b8 : ¬ (n : Int) = 95 := by omega
    by_cases a4 : 65 ≤ n
    · have b3 : (65 : Int) ≤ n := by omega
      by_cases a5 : n ≤ 90
      · have b4 : (n : Int) ≤ 90 := by omega
        rw [if_pos (by omega)]
        go_enter Tryz.func94, Tryz.ntmps94
        go_wp2_with fail
        go_ret
        exact ⟨rfl, rfl⟩
      · have b4 : ¬ (n : Int) ≤ 90 := by omega
        have b6 : (48 : Int) ≤ n := by omega
        have b7 : ¬ (n : Int) ≤ 57 := by omega
        rw [if_neg (by omega), if_neg (by omega)]
        go_enter Tryz.func94, Tryz.ntmps94
        go_wp2_with fail
        go_ret
        exact ⟨rfl, rfl⟩
    · have b3 : ¬ (65 : Int) ≤ n := by omega
      rw [if_neg (by omega)]
      by_cases a6 : 48 ≤ n
      · have b6 : (48 : Int) ≤ n := by omega
        by_cases a7 : n ≤ 57
        · have b7 : (n : Int) ≤ 57 := by omega
          rw [if_pos (by omega)]
          go_enter Tryz.func94, Tryz.ntmps94
          go_wp2_with fail
          go_ret
          exact ⟨rfl, rfl⟩
        · have b7 : ¬ (n : Int) ≤ 57 := by omega
          rw [if_neg (by omega)]
          go_enter Tryz.func94, Tryz.ntmps94
          go_wp2_with fail
          go_ret
          exact ⟨rfl, rfl⟩
      · have b6 : ¬ (48 : Int) ≤ n := by omega
        rw [if_neg (by omega)]
        go_enter Tryz.func94, Tryz.ntmps94
        go_wp2_with fail
        go_ret
        exact ⟨rfl, rfl⟩
end Go.Proofs.YtkmpelgfhjgddaaGreatDoor
namespace Go.Proofs.YtkmpelgfhjgddaaGreatDoor
open Go.RowKit Sx
set_option maxRecDepth 100000
theorem sFail0 (c a : Int) (w : World) : Calls Tryz.prog 50 #[.int .i64 c, .int .i64 a] w fun e w' =>
    e = .panicked [{ v := .iface 85 (.pointer (some ⟨w.heap.size, 0, none⟩)), recovered := false }] ∧ w' = w.alloc (.cells #[.int .i64 c, .int .i64 a] 89) := by
  refine sh_s_fail_ok ?_
  simp (disch := first | assumption | omega | ((simp only [size_alloc, sz_drew, size_upd, List.size_toArray, List.length_cons, List.length_nil]) <;> omega) | decide) only [sh_s_fail, Pr, PX, PC, NX, ends, fillL, wrL, sOf, Nat.reduceAdd, Nat.reduceMul, Nat.reduceLeDiff, Nat.reduceEqDiff, Int.reduceToNat, Int.reduceAdd, Int.reduceLT, Int.reduceLE, ↓reduceIte, forall_const, eq_self, zG1, zG2, bd_89, mi_85]
theorem sClassX (c : UInt8) (w : World) : Calls Tryz.prog 94 #[.int .u8 c.toNat] w fun e w' => e = .returned (.int .u8 (P.cls c)) ∧ w' = w := by
  refine (sClass c).mono ?_
  rintro e w' ⟨rfl, rfl⟩
  exact ⟨rfl, rfl⟩
theorem sTrim (s : P.Bs) (w : World) (hs : s.length ≤ 100000) : Calls Tryz.prog 110 #[.string (bs s), .string (bs [48, 49, 50, 51, 52, 53, 54, 55, 56, 57])] w fun e w' =>
    e = .returned (.string (bs (Lib.trimS s [48, 49, 50, 51, 52, 53, 54, 55, 56, 57]))) ∧ Ext w w' := by
  refine (Any.strings_Trim_laid Tryz.lays160 (by kernel_rfl) (bs s) (bs [48, 49, 50, 51, 52, 53, 54, 55, 56, 57]) w (by simp [ByteArray.size]; omega) (by decide) (ascii_of_all (by decide))).mono ?_
  rintro e w' ⟨rfl, hB⟩
  exact ⟨rfl, ⟨hB.os, hB.tape, hB.output, hB.size, fun b o hb _ => by rw [hB.block b (ltOf hb)]; exact hb⟩⟩
theorem contains_digit (c : UInt8) : ([48, 49, 50, 51, 52, 53, 54, 55, 56, 57] : P.Bs).contains c = P.digit c := by
  have h : ∀ n : Fin 256, ([48, 49, 50, 51, 52, 53, 54, 55, 56, 57] : P.Bs).contains (UInt8.ofNat n.val) = P.digit (UInt8.ofNat n.val) := by decide
  have := h ⟨c.toNat, c.toNat_lt⟩
  simpa using this
theorem trimS_nil (s : P.Bs) : Lib.trimS s [48, 49, 50, 51, 52, 53, 54, 55, 56, 57] = [] ↔ s.all P.digit = true := by
  have hd : ∀ l : P.Bs, l.dropWhile (([48, 49, 50, 51, 52, 53, 54, 55, 56, 57] : P.Bs).contains ·) = [] ↔ l.all P.digit = true := fun l => by
    simp only [contains_digit]
    induction l with
    | nil => simp
    | cons c l ih =>
      rw [List.dropWhile_cons, List.all_cons, Bool.and_eq_true]
      split
      · rename_i h; rw [ih]; simp [h]
      · rename_i h; simp [h]
  unfold Lib.trimS Lib.trimLeftS Lib.trimRightS
  rw [hd]
  constructor
  · intro h
    have h2 : (s.reverse.dropWhile (([48, 49, 50, 51, 52, 53, 54, 55, 56, 57] : P.Bs).contains ·)) = [] := by
      cases hx : s.reverse.dropWhile (([48, 49, 50, 51, 52, 53, 54, 55, 56, 57] : P.Bs).contains ·) with
      | nil => rfl
      | cons c l =>
        rw [hx, List.all_reverse, List.all_cons, Bool.and_eq_true] at h
        have := List.head?_dropWhile_not (([48, 49, 50, 51, 52, 53, 54, 55, 56, 57] : P.Bs).contains ·) s.reverse
        rw [hx] at this
        simp only [List.head?_cons, contains_digit] at this
        rw [h.1] at this
        cases this
    have := (hd s.reverse).1 h2
    rwa [List.all_reverse] at this
  · intro h
    have h2 := (hd s.reverse).2 (by rw [List.all_reverse]; exact h)
    rw [h2]
    rfl
theorem sWord (c : UInt8) (r : P.Bs) (hl : (c :: r).length ≤ 100000) (at_ : Nat) (w : World) (hc0 : P.cls c ≠ 0) :
    Calls Tryz.prog 95 #[.string (bs (c :: r)), .int .i64 at_, .int .u8 (P.cls c)] w fun e w' => Ext w w' ∧
      ((P.wordKind (c :: r) ≠ 0 ∧ e = .returned (.agg #[.int .i64 (P.wordKind (c :: r)), .string (bs (c :: r)), .int .i64 at_])) ∨ (P.wordKind (c :: r) = 0 ∧ faulted 2 at_ w w' e)) := by
  have hwk : P.wordKind (c :: r) = if P.cls c = 115 then (if (c :: r).length ≤ 8 then 1 else 0) else if P.cls c = 99 then (if (c :: r).length ≤ 8 then 2 else 0)
    else if (c :: r).length ≤ 9 ∧ (c :: r).all P.digit = true ∧ (c ≠ 48 ∨ r = []) then 3 else 0 := rfl
  have hg0 : (c :: r).getD 0 0 = c := rfl
  have hn : 0 < (c :: r).length := by simp
  have hr0 : r = [] ↔ (c :: r).length = 1 := by cases r <;> simp
  have h48 : c = 48 ↔ c.toNat = 48 := by rw [← UInt8.toNat_inj]; rfl
  have hcls : P.cls c = 115 ∨ P.cls c = 99 ∨ P.cls c = 100 := by
    unfold P.cls at hc0 ⊢
    split at hc0
    · rename_i h; rw [if_pos h]; exact .inl rfl
    · rename_i h
      rw [if_neg h]
      split at hc0
      · rename_i h2; rw [if_pos h2]; exact .inr (.inl rfl)
      · rename_i h2
        rw [if_neg h2]
        split at hc0
        · rename_i h3; rw [if_pos h3]; exact .inr (.inr rfl)
        · exact absurd rfl hc0
  obtain ⟨s, hs⟩ : ∃ s, s = c :: r := ⟨_, rfl⟩
  rw [← hs] at hl hg0 hn hr0 hwk ⊢
  have hX : Ext w (w.alloc (.cells #[.int .i64 0, .string (bs []), .int .i64 0] 139)) := by (repeat (first | assumption | exact FrM.refl _ _ | (refine FrM.upd ?_ (.inr (by (try simp only [size_alloc, sz_drew, size_upd, List.size_toArray, List.length_cons, List.length_nil]) <;> omega))) | refine FrM.alloc ?_ _ | refine FrM.drew ?_))
  have hend : ∀ (kd : Nat), P.wordKind s = kd → kd ≠ 0 → Ext w (upd (w.alloc (.cells #[.int .i64 0, .string (bs []), .int .i64 0] 139)) w.heap.size (.cells #[.int .i64 kd, .string (bs s), .int .i64 at_] 139)) := fun kd _ _ => by (repeat (first | assumption | exact FrM.refl _ _ | (refine FrM.upd ?_ (.inr (by (try simp only [size_alloc, sz_drew, size_upd, List.size_toArray, List.length_cons, List.length_nil]) <;> omega))) | refine FrM.alloc ?_ _ | refine FrM.drew ?_))
  refine sh_s_word_ok ?_
  simp (disch := first | assumption | omega | ((simp only [size_alloc, sz_drew, size_upd, List.size_toArray, List.length_cons, List.length_nil]) <;> omega) | decide) only [sh_s_word, Pr, PX, PC, NX, ends, fillL, wrL, sOf, Nat.reduceAdd, Nat.reduceMul, Nat.reduceLeDiff, Nat.reduceEqDiff, Int.reduceToNat, Int.reduceAdd, Int.reduceLT, Int.reduceLE, ↓reduceIte, forall_const, eq_self, zG1, zG2, al_139, bd_139, ch_9, ld_139, ln_9, st_139]
  refine ⟨fun _ w' => Ext w w' ∧ P.wordKind s = 0, ?_, ?_⟩
  · rcases hcls with h | h | h
    · rw [h] at hwk ⊢
      rw [if_pos rfl] at hwk
      by_cases h8 : s.length ≤ 8
      · rw [if_pos h8] at hwk
        simp (disch := first | assumption | omega | ((simp only [size_alloc, sz_drew, size_upd, List.size_toArray, List.length_cons, List.length_nil]) <;> omega) | decide) only [sh_s_word, Pr, PX, PC, NX, ends, fillL, wrL, sOf, Nat.reduceAdd, Nat.reduceMul, Nat.reduceLeDiff, Nat.reduceEqDiff, Int.reduceToNat, Int.reduceAdd, Int.reduceLT, Int.reduceLE, ↓reduceIte, forall_const, eq_self, zG1, zG2, al_139, bd_139, ch_9, ld_139, ln_9, st_139]
        rw [hwk]
        exact ⟨hend 1 hwk (by decide), .inl ⟨by decide, rfl⟩⟩
      · rw [if_neg h8] at hwk
        simp (disch := first | assumption | omega | ((simp only [size_alloc, sz_drew, size_upd, List.size_toArray, List.length_cons, List.length_nil]) <;> omega) | decide) only [sh_s_word, Pr, PX, PC, NX, ends, fillL, wrL, sOf, Nat.reduceAdd, Nat.reduceMul, Nat.reduceLeDiff, Nat.reduceEqDiff, Int.reduceToNat, Int.reduceAdd, Int.reduceLT, Int.reduceLE, ↓reduceIte, forall_const, eq_self, zG1, zG2, al_139, bd_139, ch_9, ld_139, ln_9, st_139]
        exact ⟨hX, hwk⟩
    · rw [h] at hwk ⊢
      rw [if_neg (by decide), if_pos rfl] at hwk
      by_cases h8 : s.length ≤ 8
      · rw [if_pos h8] at hwk
        simp (disch := first | assumption | omega | ((simp only [size_alloc, sz_drew, size_upd, List.size_toArray, List.length_cons, List.length_nil]) <;> omega) | decide) only [sh_s_word, Pr, PX, PC, NX, ends, fillL, wrL, sOf, Nat.reduceAdd, Nat.reduceMul, Nat.reduceLeDiff, Nat.reduceEqDiff, Int.reduceToNat, Int.reduceAdd, Int.reduceLT, Int.reduceLE, ↓reduceIte, forall_const, eq_self, zG1, zG2, al_139, bd_139, ch_9, ld_139, ln_9, st_139]
        rw [hwk]
        exact ⟨hend 2 hwk (by decide), .inl ⟨by decide, rfl⟩⟩
      · rw [if_neg h8] at hwk
        simp (disch := first | assumption | omega | ((simp only [size_alloc, sz_drew, size_upd, List.size_toArray, List.length_cons, List.length_nil]) <;> omega) | decide) only [sh_s_word, Pr, PX, PC, NX, ends, fillL, wrL, sOf, Nat.reduceAdd, Nat.reduceMul, Nat.reduceLeDiff, Nat.reduceEqDiff, Int.reduceToNat, Int.reduceAdd, Int.reduceLT, Int.reduceLE, ↓reduceIte, forall_const, eq_self, zG1, zG2, al_139, bd_139, ch_9, ld_139, ln_9, st_139]
        exact ⟨hX, hwk⟩
    · rw [h] at hwk ⊢
      rw [if_neg (by decide), if_neg (by decide)] at hwk
      simp (disch := first | assumption | omega | ((simp only [size_alloc, sz_drew, size_upd, List.size_toArray, List.length_cons, List.length_nil]) <;> omega) | decide) only [sh_s_word, Pr, PX, PC, NX, ends, fillL, wrL, sOf, Nat.reduceAdd, Nat.reduceMul, Nat.reduceLeDiff, Nat.reduceEqDiff, Int.reduceToNat, Int.reduceAdd, Int.reduceLT, Int.reduceLE, ↓reduceIte, forall_const, eq_self, zG1, zG2, al_139, bd_139, ch_9, ld_139, ln_9, st_139]
      refine ⟨fun t w' => Ext w w' ∧ w'.heap[w.heap.size]? = some (.cells #[.int .i64 0, .string (bs []), .int .i64 0] 139 (0, 0)) ∧ t 25 = .bool (decide (P.wordKind s ≠ 0)), ?_, ?_⟩
      · have hb0 : (w.alloc (.cells #[.int .i64 0, .string (bs []), .int .i64 0] 139)).heap[w.heap.size]? = some (.cells #[.int .i64 0, .string (bs []), .int .i64 0] 139 (0, 0)) := blk_alloc_new w _
        by_cases h9 : s.length ≤ 9
        · simp (disch := first | assumption | omega | ((simp only [size_alloc, sz_drew, size_upd, List.size_toArray, List.length_cons, List.length_nil]) <;> omega) | decide) only [sh_s_word, Pr, PX, PC, NX, ends, fillL, wrL, sOf, Nat.reduceAdd, Nat.reduceMul, Nat.reduceLeDiff, Nat.reduceEqDiff, Int.reduceToNat, Int.reduceAdd, Int.reduceLT, Int.reduceLE, ↓reduceIte, forall_const, eq_self, zG1, zG2, al_139, bd_139, ch_9, ld_139, ln_9, st_139]
          refine (sTrim s _ hl).mono ?_
          rintro e w2 ⟨rfl, hE2⟩
          have hw2 := hX.trans hE2
          have hb2 := hE2.ext _ _ hb0
          by_cases hd : s.all P.digit = true
          · have htn := (trimS_nil s).2 hd
            rw [htn]
            have hee : ([] : P.Bs) = [] := rfl
            by_cases hz : c.toNat = 48
            · have hz' : (c.toNat : Int) = 48 := by omega
              simp (disch := first | assumption | omega | ((simp only [size_alloc, sz_drew, size_upd, List.size_toArray, List.length_cons, List.length_nil]) <;> omega) | decide) only [sh_s_word, Pr, PX, PC, NX, ends, fillL, wrL, sOf, Nat.reduceAdd, Nat.reduceMul, Nat.reduceLeDiff, Nat.reduceEqDiff, Int.reduceToNat, Int.reduceAdd, Int.reduceLT, Int.reduceLE, ↓reduceIte, forall_const, eq_self, zG1, zG2, al_139, bd_139, ch_9, ld_139, ln_9, st_139, hg0]
              refine ⟨hw2, hb2, ?_⟩
              rw [hwk]
              by_cases h1 : s.length = 1
              · have h1' : (s.length : Int) = 1 := by omega
                rw [if_pos ⟨h9, hd, .inr (hr0.2 h1)⟩]
                simp [sOf, h1']
              · have h1' : ¬ (s.length : Int) = 1 := by omega
                rw [if_neg (fun h => h.2.2.elim (fun e => e (h48.2 hz)) (fun e => h1 (hr0.1 e)))]
                simp [sOf, h1']
            · have hz' : ¬ (c.toNat : Int) = 48 := by omega
              simp (disch := first | assumption | omega | ((simp only [size_alloc, sz_drew, size_upd, List.size_toArray, List.length_cons, List.length_nil]) <;> omega) | decide) only [sh_s_word, Pr, PX, PC, NX, ends, fillL, wrL, sOf, Nat.reduceAdd, Nat.reduceMul, Nat.reduceLeDiff, Nat.reduceEqDiff, Int.reduceToNat, Int.reduceAdd, Int.reduceLT, Int.reduceLE, ↓reduceIte, forall_const, eq_self, zG1, zG2, al_139, bd_139, ch_9, ld_139, ln_9, st_139, hg0]
              refine ⟨hw2, hb2, ?_⟩
              rw [hwk, if_pos ⟨h9, hd, .inl (fun e => hz (h48.1 e))⟩]
              simp [sOf]
          · have htn : ¬ Lib.trimS s [48, 49, 50, 51, 52, 53, 54, 55, 56, 57] = [] := fun h => hd ((trimS_nil s).1 h)
            simp (disch := first | assumption | omega | ((simp only [size_alloc, sz_drew, size_upd, List.size_toArray, List.length_cons, List.length_nil]) <;> omega) | decide) only [sh_s_word, Pr, PX, PC, NX, ends, fillL, wrL, sOf, Nat.reduceAdd, Nat.reduceMul, Nat.reduceLeDiff, Nat.reduceEqDiff, Int.reduceToNat, Int.reduceAdd, Int.reduceLT, Int.reduceLE, ↓reduceIte, forall_const, eq_self, zG1, zG2, al_139, bd_139, ch_9, ld_139, ln_9, st_139]
            refine ⟨hw2, hb2, ?_⟩
            rw [hwk, if_neg (fun h => hd h.2.1)]
            simp [sOf]
        · simp (disch := first | assumption | omega | ((simp only [size_alloc, sz_drew, size_upd, List.size_toArray, List.length_cons, List.length_nil]) <;> omega) | decide) only [sh_s_word, Pr, PX, PC, NX, ends, fillL, wrL, sOf, Nat.reduceAdd, Nat.reduceMul, Nat.reduceLeDiff, Nat.reduceEqDiff, Int.reduceToNat, Int.reduceAdd, Int.reduceLT, Int.reduceLE, ↓reduceIte, forall_const, eq_self, zG1, zG2, al_139, bd_139, ch_9, ld_139, ln_9, st_139]
          refine ⟨hX, ?_⟩
          rw [hwk, if_neg (fun h => h9 h.1)]
          simp [sOf]
      · rintro t w2 ⟨hE2, hb2, h25⟩ d2
        have lb2 := ltOf hb2
        rw [h25]
        by_cases hk : P.wordKind s ≠ 0
        · rw [bs_pos _ _ hk]
          have hk3 : P.wordKind s = 3 := by
            rw [hwk] at hk ⊢
            split at hk
            · rename_i h'; rw [if_pos h']
            · exact absurd rfl hk
          simp (disch := first | assumption | omega | ((simp only [size_alloc, sz_drew, size_upd, List.size_toArray, List.length_cons, List.length_nil]) <;> omega) | decide) only [sh_s_word, Pr, PX, PC, NX, ends, fillL, wrL, sOf, Nat.reduceAdd, Nat.reduceMul, Nat.reduceLeDiff, Nat.reduceEqDiff, Int.reduceToNat, Int.reduceAdd, Int.reduceLT, Int.reduceLE, ↓reduceIte, forall_const, eq_self, zG1, zG2, al_139, bd_139, ch_9, ld_139, ln_9, st_139, hb2]
          rw [hk3]
          exact ⟨hE2.upd (.inr (Nat.le_refl _)), .inl ⟨by decide, rfl⟩⟩
        · rw [bs_neg _ _ hk]
          exact ⟨hE2, by simpa using hk⟩
  · rintro t w' ⟨hE, hk⟩ dd
    refine (sFail0 _ _ _).mono ?_
    rintro e w2 ⟨rfl, rfl⟩
    simp (disch := first | assumption | omega | ((simp only [size_alloc, sz_drew, size_upd, List.size_toArray, List.length_cons, List.length_nil]) <;> omega) | decide) only [sh_s_word, Pr, PX, PC, NX, ends, fillL, wrL, sOf, Nat.reduceAdd, Nat.reduceMul, Nat.reduceLeDiff, Nat.reduceEqDiff, Int.reduceToNat, Int.reduceAdd, Int.reduceLT, Int.reduceLE, ↓reduceIte, forall_const, eq_self, zG1, zG2, al_139, bd_139, ch_9, ld_139, ln_9, st_139]
    exact ⟨hE.alloc _, .inr ⟨hk, _, rfl, hp_alloc_new rfl, hE.size⟩⟩
end Go.Proofs.YtkmpelgfhjgddaaGreatDoor
