/- A part of one proof (SIdx, SVar); no conditions beyond what each theorem names. -/
import Derived.Test.YtkmpelgfhjgddaaGreatDoorPkI
import Derived.Test.YtkmpelgfhjgddaaGreatDoorPkJ
import Derived.Deep.QuietTactic
import Derived.BigQuiet
set_option linter.all false
set_option linter.unusedVariables false
set_option linter.unusedSimpArgs false
namespace Go.Proofs.YtkmpelgfhjgddaaGreatDoor
open Go.RowKit
set_option linter.unusedVariables false
theorem idx_none {l : List P.Bs} {s : P.Bs} (h : ∀ j, j < l.length → l.getD j [] ≠ s) : l.idxOf? s = none := by
  rw [List.idxOf?_eq_none_iff]
  intro hm
  obtain ⟨j, hj, e⟩ := List.getElem_of_mem hm
  exact h j hj (by rw [List.getD_eq_getElem?_getD, List.getElem?_eq_getElem hj]; exact e)
theorem idx_some {l : List P.Bs} {s : P.Bs} {k : Nat} (hk : k < l.length) (he : l.getD k [] = s) (h : ∀ j, j < k → l.getD j [] ≠ s) : l.idxOf? s = some k := by
  rw [List.getD_eq_getElem?_getD, List.getElem?_eq_getElem hk, Option.getD_some] at he
  rw [List.idxOf?, List.findIdx?_eq_some_iff_getElem]
  refine ⟨hk, by simpa using he, fun j hj => ?_⟩
  have := h j hj
  rw [List.getD_eq_getElem?_getD, List.getElem?_eq_getElem (by omega), Option.getD_some] at this
  simpa using this
def goIdx (o : Option Nat) : Int := match o with | some k => k | none => -1
theorem goIdx_none {l : List P.Bs} {s : P.Bs} (h : ∀ j, j < l.length → l.getD j [] ≠ s) : goIdx (l.idxOf? s) = -1 := by rw [idx_none h]; rfl
theorem goIdx_some {l : List P.Bs} {s : P.Bs} {k : Nat} (hk : k < l.length) (he : l.getD k [] = s) (h : ∀ j, j < k → l.getD j [] ≠ s) : goIdx (l.idxOf? s) = k := by rw [idx_some hk he h]; rfl
set_option maxHeartbeats 400000 in
theorem index_nil (s : P.Bs) (w : World) :
    Calls Tryz.prog 129 #[.slice none 0 0, .string (bs s)] w fun e w' => e = .returned (.int .i64 (-1)) ∧ w = w' := by
  go_enter Tryz.func129, Tryz.ntmps129
  go_wp2
  go_loop [8] (fun i => i = .int .i64 0) (fun _ => 0)
  case atStart => rfl
  case round =>
    obtain rfl := hrel
    go_wp2
    go_ret
    exact ⟨rfl, rfl⟩
set_option maxHeartbeats 800000 in
theorem index_row (l : List P.Bs) (s : P.Bs) (g c : Nat) (w : World) (hl : l.length ≤ 100) (hc : ∀ j, j < l.length → w.cell? ⟨g, j, none⟩ = some (.string (bs (l.getD j [])))) :
    Calls Tryz.prog 129 #[.slice (some ⟨g, 0, none⟩) l.length c, .string (bs s)] w fun e w' => e = .returned (.int .i64 (goIdx (l.idxOf? s))) ∧ w = w' := by
  have HC := Lib.hid hc
  clear hc
  obtain ⟨n, hn⟩ : ∃ n, n = l.length := ⟨_, rfl⟩
  rw [← hn] at hl ⊢
  have HN := Lib.hid hn
  clear hn
  obtain ⟨q, hq⟩ : ∃ q, q = goIdx (l.idxOf? s) := ⟨_, rfl⟩
  rw [← hq]
  have HQ := Lib.hid hq
  clear hq
  go_enter Tryz.func129, Tryz.ntmps129
  go_wp2
  go_loop [5, 8] (fun _ i => ∃ k : Nat, k ≤ n ∧ i = .int .i64 k ∧ ∀ j, j < k → l.getD j [] ≠ s) (fun _ i => n - (intOf i).toNat)
  case atStart => exact ⟨0, Nat.zero_le _, rfl, fun j hj => absurd hj (Nat.not_lt_zero _)⟩
  case round =>
    obtain ⟨k, hk, rfl, hno⟩ := hrel
    have HNO := Lib.hid hno
    clear hno
    by_cases hlt : k < n
    · have hcell := HC.out k (by rw [← HN.out]; exact hlt)
      obtain ⟨x, hx⟩ : ∃ x, x = l.getD k [] := ⟨_, rfl⟩
      rw [← hx] at hcell
      have HX := Lib.hid hx
      clear hx
      by_cases he : s = x
      · subst he
        go_wp2
        go_ret
        exact ⟨by rw [HQ.out, goIdx_some (by rw [← HN.out]; exact hlt) HX.out.symm HNO.out]; rfl, rfl⟩
      · have hbf : (s == x) = false := by simpa using he
        go_wp2
        refine ⟨⟨k + 1, by omega, by go_num, fun j hj => ?_⟩, by simp [intOf]; omega⟩
        rcases Nat.lt_or_ge j k with h | h
        · exact HNO.out j h
        · obtain rfl : j = k := by omega
          rw [← HX.out]; exact fun h => he h.symm
    · go_wp2
      go_ret
      refine ⟨?_, rfl⟩
      have e := HN.out
      rw [HQ.out, goIdx_none (fun j hj => HNO.out j (by omega))]
      rfl
theorem index_at (l : List P.Bs) (s : P.Bs) (vv : Value) (w : World) (hl : l.length ≤ 100) (q : Int) (hq : goIdx (l.idxOf? s) = q)
    (hr : (l = [] ∧ vv = .slice none 0 0) ∨ ∃ g c, vv = .slice (some ⟨g, 0, none⟩) l.length c ∧ ∀ j, j < l.length → w.cell? ⟨g, j, none⟩ = some (.string (bs (l.getD j [])))) :
    Calls Tryz.prog 129 #[vv, .string (bs s)] w fun e w' => e = .returned (.int .i64 q) ∧ w' = w := by
  rcases hr with ⟨rfl, rfl⟩ | ⟨g, c, rfl, h⟩
  · have : q = -1 := by rw [← hq]; rfl
    subst this
    exact (index_nil s w).mono fun e w' h => ⟨h.1, h.2.symm⟩
  · subst hq
    exact (index_row l s g c w hl h).mono fun e w' h => ⟨h.1, h.2.symm⟩
end Go.Proofs.YtkmpelgfhjgddaaGreatDoor
namespace Go.Proofs.YtkmpelgfhjgddaaGreatDoor
open Go.RowKit
set_option linter.unusedVariables false
theorem SP.row {w : World} {pb tb : Nat} {T : List P.Tok} {k : Nat} {vars : List P.Bs} {d : Nat} (h : SP w pb tb T k vars d) :
    ∃ a n c, w.cell? ⟨pb, 1, none⟩ = some (.slice a n c) ∧ n = vars.length ∧ w.ownsRow (pb + 1) 9 1 (.slice a n c) vars.length (vars.map fun s => .string (bs s)) ∧
      ((vars = [] ∧ (Value.slice a n c) = .slice none 0 0) ∨ ∃ g cp, (Value.slice a n c) = .slice (some ⟨g, 0, none⟩) vars.length cp ∧ ∀ j, j < vars.length → w.cell? ⟨g, j, none⟩ = some (.string (bs (vars.getD j [])))) := by
  obtain ⟨cap, vv, -, -, hpb, hrow⟩ := h.blk
  have hrow' := hrow
  rcases hrow with ⟨g1, ⟨rfl, g2⟩ | ⟨g, cp, cur, rfl, e2, e3, e4, e5, e6, e7⟩⟩
  · refine ⟨_, _, _, cellOf hpb rfl, g2.symm, hrow', .inl ⟨List.length_eq_zero_iff.1 g2, rfl⟩⟩
  · refine ⟨_, _, _, cellOf hpb rfl, rfl, hrow', .inr ⟨g, cp, rfl, fun i hi => cellOf e3 ?_⟩⟩
    have h1 : cur[i]? = (cur.toList.take (vars.length * 1))[i]? := by
      rw [List.getElem?_take, if_pos (by omega)]; simp
    rw [h1, e7]
    simp [List.getD_eq_getElem?_getD, List.getElem?_eq_getElem hi]
theorem rowExt {w w' : World} {l : List P.Bs} {v : Value} (h : (l = [] ∧ v = .slice none 0 0) ∨ ∃ g cp, v = .slice (some ⟨g, 0, none⟩) l.length cp ∧ ∀ j, j < l.length → w.cell? ⟨g, j, none⟩ = some (.string (bs (l.getD j []))))
    (hw : ∀ (b : Nat) (o : Obj), w.heap[b]? = some o → w'.heap[b]? = some o) :
    (l = [] ∧ v = .slice none 0 0) ∨ ∃ g cp, v = .slice (some ⟨g, 0, none⟩) l.length cp ∧ ∀ j, j < l.length → w'.cell? ⟨g, j, none⟩ = some (.string (bs (l.getD j []))) := by
  rcases h with h | ⟨g, cp, h1, h2⟩
  · exact .inl h
  · exact .inr ⟨g, cp, h1, fun j hj => cellExt (h2 j hj) hw⟩
set_option maxHeartbeats 800000 in
theorem sVar_old {pb tb : Nat} {T : List P.Tok} {k : Nat} {vars : List P.Bs} {d : Nat} {w : World} (t : P.Tok) (hp : SP w pb tb T k vars d) (ht : t.text ≠ [95]) {j : Nat} (hj : vars.idxOf? t.text = some j) (hj2 : j < 100) :
    Calls Tryz.prog 113 #[.pointer (some ⟨pb, 0, none⟩), .agg #[.int .i64 t.kind, .string (bs t.text), .int .i64 t.pos]] w
      (SPost IsEx pb tb T d w (.ok (.mk 118 [] 0 j []) k vars)) := by
  have H := Lib.hid hp
  obtain ⟨a, n, c, hv, hn, -, hrow⟩ := hp.row
  have hlt := hp.d2.2.2
  have hnv := hp.nv
  obtain ⟨s, hs⟩ : ∃ s, s = t.text := ⟨_, rfl⟩
  have hgi : goIdx (vars.idxOf? s) = (j : Int) := by rw [hs, hj]; rfl
  rw [← hs] at ht ⊢
  have HS := Lib.hid hs
  have HR := Lib.hid hrow
  have HG := Lib.hid hgi
  have hsx : (s == [95]) = false := by simpa using ht
  clear hp hj hs hrow hgi ht hn
  go_enter Tryz.func113, Tryz.ntmps113
  go_wp2_with fail
  go_quiet ((go_at_call 129; exact Calls.quiet_of_same (index_at vars s _ _ (by omega) _ HG.out (by exact rowExt HR.out (fun b o h => blk_alloc_old h)))))
  go_wp2_with fail
  go_ret
  exact ⟨_, rfl, isEx_leaf ⟨by omega, by rw [size_alloc, size_drewN, size_alloc]; omega⟩ (blk_new1 (by rw [size_drewN, size_alloc])), H.out.ext fun b o h => blk_alloc_old (blk_alloc_old h),
    (((FrM.refl _ _).alloc _).drewN _).alloc _⟩
theorem SFr.ofGrown {pb n : Nat} {a b : World} {v : Value} {xs : List Value} (hown : a.ownsRow (pb + 1) 9 1 v n xs) (h : a.grownBy b v.ownBlock) : SFr pb a b := by
  refine (FrM.grownBy h).mono fun i o hi hm => ?_
  rcases hown.2 with ⟨rfl, _⟩ | ⟨g, cap, cur, rfl, hb, hg, _⟩
  · cases hm
  · simp only [Value.ownBlock, Option.some.injEq] at hm
    subst hm
    rw [hg] at hi
    injection hi with hi
    exact .inr ⟨by omega, _, _, hi.symm⟩
theorem SP.appended {w w1 w2 : World} {pb tb : Nat} {T : List P.Tok} {k : Nat} {vars : List P.Bs} {d : Nat} {s : P.Bs} {v v' : Value} (h : SP w pb tb T k vars d) (hl : vars.length < 12)
    (hv : w.cell? ⟨pb, 1, none⟩ = some v) (hw : ∀ (b : Nat) (o : Obj), w.heap[b]? = some o → w1.heap[b]? = some o) (hown : w1.ownsRow (pb + 1) 9 1 v vars.length (vars.map fun s => .string (bs s)))
    (hown' : w2.ownsRow (pb + 1) 9 1 v' (vars.length + 1) ((vars.map fun s => .string (bs s)) ++ [.string (bs s)])) (hg : w1.grownBy w2 v.ownBlock) :
    SP (w2.setCell ⟨pb, 1, none⟩ v') pb tb T k (vars ++ [s]) d ∧ SFr pb w1 (w2.setCell ⟨pb, 1, none⟩ v') := by
  have hf : SFr pb w1 (w2.setCell ⟨pb, 1, none⟩ v') := SFr.setp (SFr.ofGrown hown hg) _
  refine ⟨?_, hf⟩
  have h1 := h.ext hw
  obtain ⟨tw, lt, kt, nv, toks, cap, vv, h1, h2, h3, -⟩ := h1
  have h4 : w2.heap[pb]? = some (.cells #[.slice (some ⟨tb, k * 3, none⟩) (T.length - k) (cap - k), vv, .int .i64 d] 142 (0, 0)) := by
    rw [hg.block pb (ltOf h3) (by
      intro e
      have := hown.lt pb e.symm
      omega)]
    exact h3
  refine ⟨tw, lt, kt, by simp; omega, hf.toks lt toks, cap, v', h1, h2, by rw [blk_setCell_same h4]; rfl, ?_⟩
  have := ownsRow_setCell_below hown' (a := ⟨pb, 1, none⟩) (by show pb < pb + 1; omega) v'
  simpa using this
theorem grown_cell {w w2 : World} {o : Obj} {pb tb : Nat} {T : List P.Tok} {k : Nat} {vars : List P.Bs} {d n : Nat} {v : Value} {xs : List Value} (hg : (w.alloc o).drew.grownBy w2 v.ownBlock)
    (hown : (w.alloc o).drew.ownsRow (pb + 1) 9 1 v n xs) (h : SP w pb tb T k vars d) : (∃ u, w2.cell? ⟨pb, 1, none⟩ = some u) ∧ w2.frozen? ⟨pb, 1, none⟩ = false ∧ pb < w2.heap.size := by
  obtain ⟨cap, vv, -, -, h3, -⟩ := h.blk
  have h3' : (w.alloc o).drew.heap[pb]? = _ := blk_alloc_old h3
  have h4 := hg.block pb (ltOf h3') (by
      intro e
      have := hown.lt pb e.symm
      omega)
  rw [h3'] at h4
  exact ⟨⟨_, cellOf h4 rfl⟩, freeOf h4 1, ltOf h4⟩
theorem sInfoStr : (Tryz.prog.info? 9).map (fun i => (i.zero, i.size, i.bytes)) = some (some (.string ⟨#[]⟩), 1, 16) := by kernel_rfl
set_option maxHeartbeats 2000000 in
theorem sVar_new {pb tb : Nat} {T : List P.Tok} {k : Nat} {vars : List P.Bs} {d : Nat} {w : World} (t : P.Tok) (hp : SP w pb tb T k vars d) (ht : vars.idxOf? t.text = none) (hl : vars.length < 12) :
    Calls Tryz.prog 113 #[.pointer (some ⟨pb, 0, none⟩), .agg #[.int .i64 t.kind, .string (bs t.text), .int .i64 t.pos]] w
      (SPost IsEx pb tb T d w (.ok (.mk 118 [] 0 vars.length []) k (vars ++ [t.text]))) := by
  have H := Lib.hid hp
  obtain ⟨a, n, c, hv, hn, hown, hrow⟩ := hp.row
  have hlt := hp.d2.2.2
  have hfz : w.frozen? ⟨pb, 1, none⟩ = false := by
    obtain ⟨_, _, _, _, q, _⟩ := hp.blk
    exact freeOf q 1
  have hnv := hp.nv
  obtain ⟨s, hs⟩ : ∃ s, s = t.text := ⟨_, rfl⟩
  have hgi : goIdx (vars.idxOf? s) = -1 := by rw [hs, ht]; rfl
  rw [← hs]
  have HS := Lib.hid hs
  have HR := Lib.hid hrow
  have HG := Lib.hid hgi
  have HO := Lib.hid hown
  have hn12 : n < 12 := by omega
  have hn12' : ((n : Int) == 12) = false := by simp; omega
  have HN := Lib.hid hn
  obtain ⟨i0, hi, hz0, hz1, hz2⟩ := info_parts sInfoStr
  clear hp hs hrow hgi ht hown hn
  go_enter Tryz.func113, Tryz.ntmps113
  go_wp2_with fail
  go_quiet ((go_at_call 129; exact Calls.quiet_of_same (index_at vars s _ _ (by omega) _ HG.out (by exact rowExt HR.out (fun b o h => blk_alloc_old h)))))
  go_wp2_with fail
  have xb : (w.alloc (Obj.cells #[Value.int IntKind.i64 t.kind, Value.string (bs s), Value.int IntKind.i64 t.pos] 139)).heap[w.heap.size]? = _ := blk_alloc_new _ _
  have hextW : ∀ (b : Nat) (o : Obj), w.heap[b]? = some o → ((w.alloc (Obj.cells #[Value.int IntKind.i64 t.kind, Value.string (bs s), Value.int IntKind.i64 t.pos] 139)).drewN nq).heap[b]? = some o := fun b o h => blk_alloc_old h
  have hszW : ((w.alloc (Obj.cells #[Value.int IntKind.i64 t.kind, Value.string (bs s), Value.int IntKind.i64 t.pos] 139)).drewN nq).heap.size = w.heap.size + 1 := by rw [size_drewN, size_alloc]
  have hfrW : SFr pb w ((w.alloc (Obj.cells #[Value.int IntKind.i64 t.kind, Value.string (bs s), Value.int IntKind.i64 t.pos] 139)).drewN nq) := ((FrM.refl _ _).alloc _).drewN _
  have xbW : ((w.alloc (Obj.cells #[Value.int IntKind.i64 t.kind, Value.string (bs s), Value.int IntKind.i64 t.pos] 139)).drewN nq).heap[w.heap.size]? = _ := xb
  generalize (w.alloc (Obj.cells #[Value.int IntKind.i64 t.kind, Value.string (bs s), Value.int IntKind.i64 t.pos] 139)).drewN nq = W at *
  have c1 : W.cell? ⟨w.heap.size, 1, none⟩ = some (.string (bs s)) := cellOf xbW rfl
  have hvW := cellExt hv hextW
  have hpW := H.out.ext hextW
  have hltW := hpW.d2.2.2
  have hfzW : W.frozen? ⟨pb, 1, none⟩ = false := by
    obtain ⟨_, _, _, _, q, _⟩ := hpW.blk
    exact freeOf q 1
  have hownW : W.ownsRow (pb + 1) 9 1 (.slice a n c) vars.length (vars.map fun s => .string (bs s)) := by
    obtain ⟨g1, g2 | ⟨g, cp, cur, e1, e2, e3, e4⟩⟩ := HO.out
    · exact ⟨g1, .inl g2⟩
    · exact ⟨g1, .inr ⟨g, cp, cur, e1, e2, hextW _ _ e3, e4⟩⟩
  have HOW := Lib.hid hownW
  have HPW := Lib.hid hpW
  have HFW := Lib.hid hfrW
  clear hownW hpW hfrW xb xbW hv hfz hextW
  go_region_law (refine step_append_own rfl _ _ _ rfl (pb + 1) 9 i0 _ 1 16 Tryz.underlying38 hi hz0 hz1 hz2 rfl (by decide) _ _ _ rfl (own_allocD HOW.out _) ⟨w.heap.size + 1, 0, none⟩ 1 1 [.string (bs s)] rfl rfl (one_newD hszW.symm) (by simp [Value.oneCell']) (by unfold maxLen; omega) (by omega) (by simp; omega) ?_; intro v' w1 hown1 hgrow1 hnn1; obtain ⟨g', cap', rfl⟩ := own_succ hown1; have HA := Lib.hid (SP.appended (w1 := (W.alloc (Obj.cells #[Value.string (bs s)] 9)).drew) HPW.out (by have := HN.out; omega) hvW (fun b o h => blk_alloc_old (o := Obj.cells #[Value.string (bs s)] 9) h) (own_allocD HOW.out _) hown1 hgrow1); obtain ⟨⟨u1', c1'⟩, f1', l1'⟩ := grown_cell hgrow1 (own_allocD HOW.out (Obj.cells #[Value.string (bs s)] 9)) HPW.out; clear hown1 hgrow1 hnn1)
  all_goals
    go_wp2_with fail
    go_ret
    have hn := HN.out
    subst hn
    have hs2 := HA.out.2.size
    rw [size_drew, size_alloc, size_setCell] at hs2
    exact ⟨_, rfl, isEx_leaf ⟨by omega, by rw [size_alloc, size_setCell]; omega⟩ (blk_new1 (by rw [size_setCell])), HA.out.1.ext fun b o h => blk_alloc_old h,
      ((HFW.out.trans (((FrM.refl _ _).alloc _).drew)).trans HA.out.2).alloc _⟩
set_option maxHeartbeats 2000000 in
theorem sVar_und {pb tb : Nat} {T : List P.Tok} {k : Nat} {vars : List P.Bs} {d : Nat} {w : World} (t : P.Tok) (hp : SP w pb tb T k vars d) (ht : t.text = [95]) {j : Nat} (hj : vars.idxOf? t.text = some j) (hj2 : j < 100) (hl : vars.length < 12) :
    Calls Tryz.prog 113 #[.pointer (some ⟨pb, 0, none⟩), .agg #[.int .i64 t.kind, .string (bs t.text), .int .i64 t.pos]] w
      (SPost IsEx pb tb T d w (.ok (.mk 118 [] 0 vars.length []) k (vars ++ [t.text]))) := by
  have H := Lib.hid hp
  obtain ⟨a, n, c, hv, hn, hown, hrow⟩ := hp.row
  have hlt := hp.d2.2.2
  have hfz : w.frozen? ⟨pb, 1, none⟩ = false := by
    obtain ⟨_, _, _, _, q, _⟩ := hp.blk
    exact freeOf q 1
  have hnv := hp.nv
  obtain ⟨s, hs⟩ : ∃ s, s = t.text := ⟨_, rfl⟩
  have hgi : goIdx (vars.idxOf? s) = (j : Int) := by rw [hs, hj]; rfl
  rw [← hs]
  have HS := Lib.hid hs
  have HR := Lib.hid hrow
  have HG := Lib.hid hgi
  have HO := Lib.hid hown
  have hn12 : n < 12 := by omega
  have hn12' : ((n : Int) == 12) = false := by simp; omega
  have HN := Lib.hid hn
  obtain ⟨i0, hi, hz0, hz1, hz2⟩ := info_parts sInfoStr
  have hse : (s == [95]) = true := by rw [hs, ht]; rfl
  clear hp hs hrow hgi ht hown hn hj
  go_enter Tryz.func113, Tryz.ntmps113
  go_wp2_with fail
  go_quiet ((go_at_call 129; exact Calls.quiet_of_same (index_at vars s _ _ (by omega) _ HG.out (by exact rowExt HR.out (fun b o h => blk_alloc_old h)))))
  go_wp2_with fail
  have xb : (w.alloc (Obj.cells #[Value.int IntKind.i64 t.kind, Value.string (bs s), Value.int IntKind.i64 t.pos] 139)).heap[w.heap.size]? = _ := blk_alloc_new _ _
  have hextW : ∀ (b : Nat) (o : Obj), w.heap[b]? = some o → ((w.alloc (Obj.cells #[Value.int IntKind.i64 t.kind, Value.string (bs s), Value.int IntKind.i64 t.pos] 139)).drewN nq).heap[b]? = some o := fun b o h => blk_alloc_old h
  have hszW : ((w.alloc (Obj.cells #[Value.int IntKind.i64 t.kind, Value.string (bs s), Value.int IntKind.i64 t.pos] 139)).drewN nq).heap.size = w.heap.size + 1 := by rw [size_drewN, size_alloc]
  have hfrW : SFr pb w ((w.alloc (Obj.cells #[Value.int IntKind.i64 t.kind, Value.string (bs s), Value.int IntKind.i64 t.pos] 139)).drewN nq) := ((FrM.refl _ _).alloc _).drewN _
  have xbW : ((w.alloc (Obj.cells #[Value.int IntKind.i64 t.kind, Value.string (bs s), Value.int IntKind.i64 t.pos] 139)).drewN nq).heap[w.heap.size]? = _ := xb
  generalize (w.alloc (Obj.cells #[Value.int IntKind.i64 t.kind, Value.string (bs s), Value.int IntKind.i64 t.pos] 139)).drewN nq = W at *
  have c1 : W.cell? ⟨w.heap.size, 1, none⟩ = some (.string (bs s)) := cellOf xbW rfl
  have hvW := cellExt hv hextW
  have hpW := H.out.ext hextW
  have hltW := hpW.d2.2.2
  have hfzW : W.frozen? ⟨pb, 1, none⟩ = false := by
    obtain ⟨_, _, _, _, q, _⟩ := hpW.blk
    exact freeOf q 1
  have hownW : W.ownsRow (pb + 1) 9 1 (.slice a n c) vars.length (vars.map fun s => .string (bs s)) := by
    obtain ⟨g1, g2 | ⟨g, cp, cur, e1, e2, e3, e4⟩⟩ := HO.out
    · exact ⟨g1, .inl g2⟩
    · exact ⟨g1, .inr ⟨g, cp, cur, e1, e2, hextW _ _ e3, e4⟩⟩
  have HOW := Lib.hid hownW
  have HPW := Lib.hid hpW
  have HFW := Lib.hid hfrW
  clear hownW hpW hfrW xb xbW hv hfz hextW
  go_region_law (refine step_append_own rfl _ _ _ rfl (pb + 1) 9 i0 _ 1 16 Tryz.underlying38 hi hz0 hz1 hz2 rfl (by decide) _ _ _ rfl (own_allocD HOW.out _) ⟨w.heap.size + 1, 0, none⟩ 1 1 [.string (bs s)] rfl rfl (one_newD hszW.symm) (by simp [Value.oneCell']) (by unfold maxLen; omega) (by omega) (by simp; omega) ?_; intro v' w1 hown1 hgrow1 hnn1; obtain ⟨g', cap', rfl⟩ := own_succ hown1; have HA := Lib.hid (SP.appended (w1 := (W.alloc (Obj.cells #[Value.string (bs s)] 9)).drew) HPW.out (by have := HN.out; omega) hvW (fun b o h => blk_alloc_old (o := Obj.cells #[Value.string (bs s)] 9) h) (own_allocD HOW.out _) hown1 hgrow1); obtain ⟨⟨u1', c1'⟩, f1', l1'⟩ := grown_cell hgrow1 (own_allocD HOW.out (Obj.cells #[Value.string (bs s)] 9)) HPW.out; clear hown1 hgrow1 hnn1)
  all_goals
    go_wp2_with fail
    go_ret
    have hn := HN.out
    subst hn
    have hs2 := HA.out.2.size
    rw [size_drew, size_alloc, size_setCell] at hs2
    exact ⟨_, rfl, isEx_leaf ⟨by omega, by rw [size_alloc, size_setCell]; omega⟩ (blk_new1 (by rw [size_setCell])), HA.out.1.ext fun b o h => blk_alloc_old h,
      ((HFW.out.trans (((FrM.refl _ _).alloc _).drew)).trans HA.out.2).alloc _⟩
set_option maxHeartbeats 2000000 in
theorem sVar_full {pb tb : Nat} {T : List P.Tok} {k : Nat} {vars : List P.Bs} {d : Nat} {w : World} (t : P.Tok) (hp : SP w pb tb T k vars d) (ht : vars.idxOf? t.text = none) (hl : vars.length = 12) :
    Calls Tryz.prog 113 #[.pointer (some ⟨pb, 0, none⟩), .agg #[.int .i64 t.kind, .string (bs t.text), .int .i64 t.pos]] w
      (SPost IsEx pb tb T d w (.err 4 t.pos)) := by
  have H := Lib.hid hp
  obtain ⟨a, n, c, hv, hn, hown, hrow⟩ := hp.row
  have hlt := hp.d2.2.2
  have hfz : w.frozen? ⟨pb, 1, none⟩ = false := by
    obtain ⟨_, _, _, _, q, _⟩ := hp.blk
    exact freeOf q 1
  have hnv := hp.nv
  obtain ⟨s, hs⟩ : ∃ s, s = t.text := ⟨_, rfl⟩
  have hgi : goIdx (vars.idxOf? s) = -1 := by rw [hs, ht]; rfl
  rw [← hs]
  have HS := Lib.hid hs
  have HR := Lib.hid hrow
  have HG := Lib.hid hgi
  have HO := Lib.hid hown
  have hn12' : ((n : Int) == 12) = true := by simp; omega
  have HN := Lib.hid hn
  obtain ⟨i0, hi, hz0, hz1, hz2⟩ := info_parts sInfoStr
  clear hp hs hrow hgi ht hown hn HN
  go_enter Tryz.func113, Tryz.ntmps113
  go_wp2_with fail
  go_quiet ((go_at_call 129; exact Calls.quiet_of_same (index_at vars s _ _ (by omega) _ HG.out (by exact rowExt HR.out (fun b o h => blk_alloc_old h)))))
  go_wp2_with fail
  refine (sFail _ _ _ pb (H.out.ext (w' := (w.alloc (Obj.cells #[Value.int IntKind.i64 t.kind, Value.string (bs s), Value.int IntKind.i64 t.pos] 139)).drewN nq) fun b o h => blk_alloc_old h).sb).mono ?_
  rintro e w3 ⟨⟨b, rfl, hb3, hl3⟩, hf3, hs3⟩
  rw [size_drewN, size_alloc] at hl3
  exact ⟨rfl, ⟨b, rfl, hb3, by omega⟩, (((FrM.refl _ _).alloc _).drewN _).trans hf3, hs3⟩
set_option maxHeartbeats 2000000 in
theorem sVar_fullu {pb tb : Nat} {T : List P.Tok} {k : Nat} {vars : List P.Bs} {d : Nat} {w : World} (t : P.Tok) (hp : SP w pb tb T k vars d) (ht : t.text = [95]) {j : Nat} (hj : vars.idxOf? t.text = some j) (hj2 : j < 100) (hl : vars.length = 12) :
    Calls Tryz.prog 113 #[.pointer (some ⟨pb, 0, none⟩), .agg #[.int .i64 t.kind, .string (bs t.text), .int .i64 t.pos]] w
      (SPost IsEx pb tb T d w (.err 4 t.pos)) := by
  have H := Lib.hid hp
  obtain ⟨a, n, c, hv, hn, hown, hrow⟩ := hp.row
  have hlt := hp.d2.2.2
  have hfz : w.frozen? ⟨pb, 1, none⟩ = false := by
    obtain ⟨_, _, _, _, q, _⟩ := hp.blk
    exact freeOf q 1
  have hnv := hp.nv
  obtain ⟨s, hs⟩ : ∃ s, s = t.text := ⟨_, rfl⟩
  have hgi : goIdx (vars.idxOf? s) = (j : Int) := by rw [hs, hj]; rfl
  rw [← hs]
  have HS := Lib.hid hs
  have HR := Lib.hid hrow
  have HG := Lib.hid hgi
  have HO := Lib.hid hown
  have hn12' : ((n : Int) == 12) = true := by simp; omega
  have HN := Lib.hid hn
  obtain ⟨i0, hi, hz0, hz1, hz2⟩ := info_parts sInfoStr
  have hse : (s == [95]) = true := by rw [hs, ht]; rfl
  clear hp hs hrow hgi ht hown hn HN hj
  go_enter Tryz.func113, Tryz.ntmps113
  go_wp2_with fail
  go_quiet ((go_at_call 129; exact Calls.quiet_of_same (index_at vars s _ _ (by omega) _ HG.out (by exact rowExt HR.out (fun b o h => blk_alloc_old h)))))
  go_wp2_with fail
  refine (sFail _ _ _ pb (H.out.ext (w' := (w.alloc (Obj.cells #[Value.int IntKind.i64 t.kind, Value.string (bs s), Value.int IntKind.i64 t.pos] 139)).drewN nq) fun b o h => blk_alloc_old h).sb).mono ?_
  rintro e w3 ⟨⟨b, rfl, hb3, hl3⟩, hf3, hs3⟩
  rw [size_drewN, size_alloc] at hl3
  exact ⟨rfl, ⟨b, rfl, hb3, by omega⟩, (((FrM.refl _ _).alloc _).drewN _).trans hf3, hs3⟩
theorem idx_lt {l : List P.Bs} {s : P.Bs} {j : Nat} (h : l.idxOf? s = some j) : j < l.length := by
  rw [List.idxOf?, List.findIdx?_eq_some_iff_getElem] at h
  exact h.1
theorem cVar : CVar := by
  refine ⟨fun {pb tb T k vars d w} t hp _ => ?_⟩
  unfold P.pVar
  have hnv := hp.nv
  by_cases hu : t.text = [95]
  · rw [if_pos hu]
    by_cases hl : vars.length = 12
    · dsimp only
      rw [if_pos (show vars.length = P.maxVars from hl)]
      cases hj : vars.idxOf? t.text with
      | none => exact sVar_full t hp hj hl
      | some j => exact sVar_fullu t hp hu hj (by have := idx_lt hj; omega) hl
    · dsimp only
      rw [if_neg (show ¬ vars.length = P.maxVars from hl)]
      cases hj : vars.idxOf? t.text with
      | none => exact sVar_new t hp hj (by omega)
      | some j => exact sVar_und t hp hu hj (by have := idx_lt hj; omega) (by omega)
  · rw [if_neg hu]
    cases hj : vars.idxOf? t.text with
    | some j => exact sVar_old t hp hu hj (by have := idx_lt hj; omega)
    | none =>
      by_cases hl : vars.length = 12
      · dsimp only
        rw [if_pos (show vars.length = P.maxVars from hl)]
        exact sVar_full t hp hj hl
      · dsimp only
        rw [if_neg (show ¬ vars.length = P.maxVars from hl)]
        exact sVar_new t hp hj (by omega)
end Go.Proofs.YtkmpelgfhjgddaaGreatDoor
