/- A part of one proof (SW1, SW2, SCon); no conditions beyond what each theorem names. -/
import Derived.Test.YtkmpelgfhjgddaaGreatDoorProg
import Derived.Test.YtkmpelgfhjgddaaGreatDoorPkH
import Derived.WalkSpells
import Derived.WalkLawsBesides
set_option linter.all false
set_option linter.unusedVariables false
set_option linter.unusedSimpArgs false
namespace Go.Proofs.YtkmpelgfhjgddaaGreatDoor
open Go.RowKit
theorem SToks.at {w : World} {tb : Nat} {T : List P.Tok} (h : SToks w tb T) {k : Nat} (hk : k < T.length) :
    w.cell? ⟨tb, k * 3, none⟩ = some (.int .i64 ((P.tk T k).kind)) ∧ w.cell? ⟨tb, k * 3 + 1, none⟩ = some (.string (bs (P.tk T k).text)) ∧
      w.cell? ⟨tb, k * 3 + 2, none⟩ = some (.int .i64 ((P.tk T k).pos)) := by
  obtain ⟨-, cs, h1, h2⟩ := h
  obtain ⟨a, b, c⟩ := h2 k hk
  exact ⟨cellOf h1 a, cellOf h1 b, cellOf h1 c⟩
theorem SP.set {w w' : World} {pb tb : Nat} {T : List P.Tok} {k k' : Nat} {vars : List P.Bs} {d d' : Nat} (h : SP w pb tb T k vars d) (hk : k' < T.length)
    (hf : SFr pb w w')
    (hb : ∀ cap vv, w.heap[pb]? = some (.cells #[.slice (some ⟨tb, k * 3, none⟩) (T.length - k) (cap - k), vv, .int .i64 d] 142 (0, 0)) →
      w'.heap[pb]? = some (.cells #[.slice (some ⟨tb, k' * 3, none⟩) (T.length - k') (cap - k'), vv, .int .i64 d'] 142 (0, 0)))
    (hs : ∀ b, b ≠ pb → w'.heap[b]? = w.heap[b]?) : SP w' pb tb T k' vars d' := by
  obtain ⟨tw, lt, kt, nv, toks, cap, vv, h1, h2, h3, h4⟩ := h
  refine ⟨tw, lt, hk, nv, hf.toks lt toks, cap, vv, h1, h2, hb cap vv h3, ?_⟩
  obtain ⟨g1, g2⟩ := h4
  refine ⟨g1, ?_⟩
  rcases g2 with g | ⟨g, cp, cur, e1, e2, e3, e4⟩
  · exact .inl g
  · exact .inr ⟨g, cp, cur, e1, e2, by rw [hs g (by omega)]; exact e3, e4⟩
theorem SFr.setp {pb o : Nat} {a b : World} (h : SFr pb a b) (v : Value) : SFr pb a (b.setCell ⟨pb, o, none⟩ v) := h.setM (fun _ => .inl rfl) v
set_option maxHeartbeats 400000 in
theorem sIs_yes {pb tb : Nat} {T : List P.Tok} {k : Nat} {vars : List P.Bs} {d : Nat} {w : World} (hp : SP w pb tb T k vars d) (s : P.Bs) (h : P.isT T k s = true) :
    Calls Tryz.prog 52 #[.pointer (some ⟨pb, 0, none⟩), .string (bs s)] w fun e w' =>
      e = .returned (.bool true) ∧ SP w' pb tb T (k + 1) vars d ∧ SFr pb w w' := by
  obtain ⟨cap, vv, hc1, hc2, hpb, -⟩ := hp.blk
  have h0 := cellOf hpb (o := 0) rfl
  have f0 := freeOf hpb 0
  have hb := ltOf hpb
  obtain ⟨t0, t1, -⟩ := hp.toks.at hp.kt
  simp only [P.isT, Bool.and_eq_true, Bool.or_eq_true, beq_iff_eq] at h
  have hkn : k + 1 < T.length := hp.tw.next hp.kt (by omega)
  have hfin : SP (w.setCell ⟨pb, 0, none⟩ (.slice (some ⟨tb, k * 3 + 3, none⟩) (T.length - k - 1) (cap - k - 1))) pb tb T (k + 1) vars d := by
    refine hp.set hkn (SFr.setp (FrM.refl _ _) _) (fun cp v2 hv => ?_) (fun b hne => blk_setCell_other hne _)
    rw [hpb] at hv
    injection hv with hv
    injection hv with hv
    have hx : (Value.slice (some ⟨tb, k * 3, none⟩) (T.length - k) (cap - k)) = Value.slice (some ⟨tb, k * 3, none⟩) (T.length - k) (cp - k) := by
      have := congrArg (fun a => a[0]?) hv; simpa using this
    have hy : vv = v2 := by have := congrArg (fun a => a[1]?) hv; simpa using this
    injection hx with _ _ hx
    subst hy
    rw [blk_setCell_same hpb]
    have e1 : (k + 1) * 3 = k * 3 + 3 := by omega
    have e2 : T.length - (k + 1) = T.length - k - 1 := by omega
    have e3 : cp - (k + 1) = cap - k - 1 := by omega
    rw [e1, e2, e3]
    rfl
  have hfr : SFr pb w (w.setCell ⟨pb, 0, none⟩ (.slice (some ⟨tb, k * 3 + 3, none⟩) (T.length - k - 1) (cap - k - 1))) := SFr.setp (FrM.refl _ _) _
  obtain ⟨kd, hkd⟩ : ∃ kd : Int, kd = ((P.tk T k).kind : Int) := ⟨_, rfl⟩
  rw [← hkd] at t0
  rw [h.2] at t1
  have k0 : (kd == 0) = false := by simp; omega
  have k2 : (kd == 2) = false := by simp; omega
  have l1 : 1 < T.length - k := by omega
  have l2 : T.length - k ≤ 100000 := by have := hp.tw.len; omega
  have l3 : T.length - k ≤ cap - k := by omega
  clear hkd h
  generalize hn : T.length - k = n at *
  generalize hm : cap - k = m at *
  have l4 : m ≤ 9223372036854775807 := by omega
  clear hn hm hc1 hc2 hkn hp hpb
  go_enter Tryz.func52, Tryz.ntmps52
  go_wp2
  go_ret
  exact ⟨rfl, hfin, hfr⟩
set_option maxHeartbeats 400000 in
theorem sIs_no {pb tb : Nat} {T : List P.Tok} {k : Nat} {vars : List P.Bs} {d : Nat} {w : World} (hp : SP w pb tb T k vars d) (s : P.Bs) (h : P.isT T k s = false)
    (hs : s.all P.digit = false) :
    Calls Tryz.prog 52 #[.pointer (some ⟨pb, 0, none⟩), .string (bs s)] w fun e w' => e = .returned (.bool false) ∧ w = w' := by
  obtain ⟨cap, vv, hc1, hc2, hpb, -⟩ := hp.blk
  have h0 := cellOf hpb (o := 0) rfl
  obtain ⟨t0, t1, -⟩ := hp.toks.at hp.kt
  have hk4 := hp.tw.kind _ (tk_mem hp.kt)
  have hdg := hp.tw.digits _ (tk_mem hp.kt)
  have l1 : 0 < T.length - k := by have := hp.kt; omega
  have l2 : T.length - k ≤ 100000 := by have := hp.tw.len; omega
  by_cases hx : (P.tk T k).text = s
  · have hkd : (P.tk T k).kind = 0 ∨ (P.tk T k).kind = 2 := by
      simp only [P.isT, hx, beq_self_eq_true, Bool.and_true, Bool.or_eq_false_iff, beq_eq_false_iff_ne] at h
      rcases Nat.lt_or_ge (P.tk T k).kind 3 with g | g
      · omega
      · have : (P.tk T k).kind = 3 := by omega
        obtain ⟨_, g2, _⟩ := hdg this
        rw [hx, hs] at g2
        cases g2
    rw [hx] at t1
    rcases hkd with hkd | hkd
    · rw [hkd] at t0
      clear h hdg hk4 hkd hx hp
      generalize hn : T.length - k = n at *
      generalize hm : cap - k = m at *
      clear hn hm hc1 hc2 hpb
      go_enter Tryz.func52, Tryz.ntmps52
      go_wp2
      go_ret
      exact ⟨rfl, rfl⟩
    · rw [hkd] at t0
      clear h hdg hk4 hkd hx hp
      generalize hn : T.length - k = n at *
      generalize hm : cap - k = m at *
      clear hn hm hc1 hc2 hpb
      go_enter Tryz.func52, Tryz.ntmps52
      go_wp2
      go_ret
      exact ⟨rfl, rfl⟩
  · obtain ⟨kd, hkd⟩ : ∃ kd : Int, kd = ((P.tk T k).kind : Int) := ⟨_, rfl⟩
    rw [← hkd] at t0
    obtain ⟨x, hxx⟩ : ∃ x, x = (P.tk T k).text := ⟨_, rfl⟩
    rw [← hxx] at t1 hx
    clear hkd h hdg hk4 hxx hp
    generalize hn : T.length - k = n at *
    generalize hm : cap - k = m at *
    clear hn hm hc1 hc2 hpb
    go_enter Tryz.func52, Tryz.ntmps52
    go_wp2
    go_ret
    exact ⟨rfl, rfl⟩
set_option maxHeartbeats 400000 in
theorem sFail (c a : Int) (w : World) (pb : Nat) (hsb : SB w pb) :
    Calls Tryz.prog 50 #[.int .i64 c, .int .i64 a] w fun e w' => faulted c a w w' e ∧ SFr pb w w' ∧ SB w' pb := by
  have hfin : faulted c a w (w.alloc (Obj.cells #[Value.int IntKind.i64 c, Value.int IntKind.i64 a] 89))
      (.panicked [{ v := .iface 85 (.pointer (some ⟨w.heap.size, 0, none⟩)), recovered := false }]) :=
    ⟨_, rfl, blk_alloc_new _ _, Nat.le_refl _⟩
  have hsb' : SB (w.alloc (Obj.cells #[Value.int IntKind.i64 c, Value.int IntKind.i64 a] 89)) pb := by
    obtain ⟨lv, vv, d, h⟩ := hsb
    exact ⟨lv, vv, d, blk_alloc_old h⟩
  clear hsb
  go_enter Tryz.func50, Tryz.ntmps50
  go_wp2
  exact ⟨rfl, hfin, (FrM.refl _ _).alloc _, hsb'⟩
end Go.Proofs.YtkmpelgfhjgddaaGreatDoor
namespace Go.Proofs.YtkmpelgfhjgddaaGreatDoor
open Go.RowKit
theorem SP.sb {w : World} {pb tb : Nat} {T : List P.Tok} {k : Nat} {vars : List P.Bs} {d : Nat} (h : SP w pb tb T k vars d) : SB w pb := by
  obtain ⟨cap, vv, _, _, h, _⟩ := h.blk
  exact ⟨_, _, _, h⟩
theorem SP.l0 {w : World} {pb tb : Nat} {T : List P.Tok} {k : Nat} {vars : List P.Bs} {d : Nat} (h : SP w pb tb T k vars d) :
    ∃ n c : Nat, w.cell? ⟨pb, 0, none⟩ = some (.slice (some ⟨tb, k * 3, none⟩) n c) ∧ 0 < n ∧ n ≤ 100000 ∧ ((P.tk T k).kind ≠ 0 → 1 < n) ∧ n ≤ c ∧ c ≤ 9223372036854775807 := by
  obtain ⟨cap, vv, h1, h2, h3, _⟩ := h.blk
  refine ⟨_, _, cellOf h3 rfl, ?_, ?_, ?_, ?_, ?_⟩
  · have := h.kt; omega
  · have := h.tw.len; omega
  · intro hk; have := h.tw.next h.kt hk; omega
  · omega
  · omega
set_option maxHeartbeats 400000 in
theorem sNone {pb tb : Nat} {T : List P.Tok} {k : Nat} {vars : List P.Bs} {d : Nat} {w : World} (hp : SP w pb tb T k vars d) :
    Calls Tryz.prog 51 #[.pointer (some ⟨pb, 0, none⟩)] w fun e w' => faulted 2 (P.tk T k).pos w w' e ∧ SFr pb w w' ∧ SB w' pb := by
  obtain ⟨n, c, h0, l0, l1, -, -, -⟩ := hp.l0
  obtain ⟨-, -, t2⟩ := hp.toks.at hp.kt
  have hsb := Lib.hid hp.sb
  clear hp
  go_enter Tryz.func51, Tryz.ntmps51
  go_wp2_with fail
  refine (sFail _ _ _ pb hsb.out).mono ?_
  rintro e w' ⟨⟨b, rfl, hb⟩, hf, hs⟩
  exact ⟨rfl, ⟨b, rfl, hb⟩, hf, hs⟩
set_option maxHeartbeats 400000 in
theorem sMust_yes {pb tb : Nat} {T : List P.Tok} {k : Nat} {vars : List P.Bs} {d : Nat} {w : World} (hp : SP w pb tb T k vars d) (s : P.Bs) (h : P.isT T k s = true) :
    Calls Tryz.prog 54 #[.pointer (some ⟨pb, 0, none⟩), .string (bs s)] w fun e w' =>
      e = .returned (.tuple #[]) ∧ SP w' pb tb T (k + 1) vars d ∧ SFr pb w w' := by
  have H := Lib.hid hp
  have H2 := Lib.hid h
  clear hp h
  go_enter Tryz.func54, Tryz.ntmps54
  go_wp2_with fail
  refine (sIs_yes H.out s H2.out).mono ?_
  rintro e w' ⟨rfl, h1, h2⟩
  have H1 := Lib.hid h1
  have H2 := Lib.hid h2
  clear h1 h2
  go_wp2_with fail
  go_end0
  exact ⟨rfl, H1.out, H2.out⟩
set_option maxHeartbeats 400000 in
theorem sMust_no {pb tb : Nat} {T : List P.Tok} {k : Nat} {vars : List P.Bs} {d : Nat} {w : World} (hp : SP w pb tb T k vars d) (s : P.Bs) (h : P.isT T k s = false)
    (hs : s.all P.digit = false) :
    Calls Tryz.prog 54 #[.pointer (some ⟨pb, 0, none⟩), .string (bs s)] w fun e w' =>
      faulted 2 (P.tk T k).pos w w' e ∧ SFr pb w w' ∧ SB w' pb := by
  have H := Lib.hid hp
  have H2 := Lib.hid h
  have H3 := Lib.hid hs
  clear hp h hs
  go_enter Tryz.func54, Tryz.ntmps54
  go_wp2_with fail
  refine (sIs_no H.out s H2.out H3.out).mono ?_
  rintro e w' ⟨rfl, rfl⟩
  go_wp2_with fail
  refine (sNone H.out).mono ?_
  rintro e w' ⟨⟨b, rfl, hb⟩, hf, hs⟩
  exact ⟨rfl, ⟨b, rfl, hb⟩, hf, hs⟩
theorem SP.d2 {w : World} {pb tb : Nat} {T : List P.Tok} {k : Nat} {vars : List P.Bs} {d : Nat} (h : SP w pb tb T k vars d) :
    w.cell? ⟨pb, 2, none⟩ = some (.int .i64 d) ∧ w.frozen? ⟨pb, 2, none⟩ = false ∧ pb < w.heap.size := by
  obtain ⟨cap, vv, h1, h2, h3, _⟩ := h.blk
  exact ⟨cellOf h3 rfl, freeOf h3 2, ltOf h3⟩
abbrev deepW (w : World) (pb : Nat) (d : Nat) : World :=
  (w.setCell ⟨pb, 2, none⟩ (.int .i64 ((d : Int) + 1))).alloc (.cells #[.pointer (some ⟨pb, 0, none⟩)] 136)
theorem SP.ext {w w' : World} {pb tb : Nat} {T : List P.Tok} {k : Nat} {vars : List P.Bs} {d : Nat} (h : SP w pb tb T k vars d)
    (hw : ∀ (b : Nat) (o : Obj), w.heap[b]? = some o → w'.heap[b]? = some o) : SP w' pb tb T k vars d := by
  obtain ⟨tw, lt, kt, nv, toks, cap, vv, h1, h2, h3, g1, g2⟩ := h
  obtain ⟨ts, cs, t1, t2⟩ := toks
  refine ⟨tw, lt, kt, nv, ⟨ts.ext fun b o _ ho => hw b o ho, cs, hw _ _ t1, t2⟩, cap, vv, h1, h2, hw _ _ h3, g1, ?_⟩
  rcases g2 with g | ⟨g, cp, cur, e1, e2, e3, e4⟩
  · exact .inl g
  · exact .inr ⟨g, cp, cur, e1, e2, hw _ _ e3, e4⟩
theorem SP.deepW {w : World} {pb tb : Nat} {T : List P.Tok} {k : Nat} {vars : List P.Bs} {d : Nat} (h : SP w pb tb T k vars d) : SP (deepW w pb d) pb tb T k vars (d + 1) := by
  have h1 : SP (w.setCell ⟨pb, 2, none⟩ (.int .i64 ((d : Int) + 1))) pb tb T k vars (d + 1) := by
    refine h.set h.kt (SFr.setp (FrM.refl _ _) _) (fun cp v2 hv => ?_) (fun b hne => blk_setCell_other hne _)
    rw [blk_setCell_same hv]
    rfl
  exact h1.ext fun b o hb => blk_alloc_old hb
theorem size_deepW (w : World) (pb d : Nat) : (deepW w pb d).heap.size = w.heap.size + 1 := by rw [size_alloc, size_setCell]
theorem blk_deepW (w : World) (pb d : Nat) : (deepW w pb d).heap[w.heap.size]? = some (.cells #[.pointer (some ⟨pb, 0, none⟩)] 136 (0, 0)) := by
  have := blk_alloc_new (w.setCell ⟨pb, 2, none⟩ (.int .i64 ((d : Int) + 1))) (.cells #[.pointer (some ⟨pb, 0, none⟩)] 136)
  rw [size_setCell] at this
  exact this
theorem SFr_deepW (w : World) (pb d : Nat) : SFr pb w (deepW w pb d) := (SFr.setp (FrM.refl _ _) _).alloc _
set_option maxHeartbeats 400000 in
theorem sDeeper_yes {pb tb : Nat} {T : List P.Tok} {k : Nat} {vars : List P.Bs} {d : Nat} {w : World} (hp : SP w pb tb T k vars d) (hd : d + 1 ≤ 8) :
    Calls Tryz.prog 79 #[.pointer (some ⟨pb, 0, none⟩)] w fun e w' =>
      e = .returned (.func (.func 99) #[] #[.pointer (some ⟨w.heap.size, 0, none⟩)]) ∧ w'.heap.size = w.heap.size + 1 ∧
      w'.heap[w.heap.size]? = some (.cells #[.pointer (some ⟨pb, 0, none⟩)] 136 (0, 0)) ∧ SP w' pb tb T k vars (d + 1) ∧ SFr pb w w' := by
  have hmf : ∀ (fn : Fn) (first cap : Array Value) (w : World), (Instr.makeFunc fn first cap).run Tryz.prog w = .ok (.func fn first cap) w := fun _ _ _ _ => rfl
  obtain ⟨h2, f2, hb⟩ := hp.d2
  have H := Lib.hid hp
  clear hp
  go_enter Tryz.func79, Tryz.ntmps79
  go_wp2_with fail
  go_ret
  exact ⟨rfl, size_deepW w pb d, blk_deepW w pb d, H.out.deepW, SFr_deepW w pb d⟩
set_option maxHeartbeats 400000 in
theorem sDeeper_no {pb tb : Nat} {T : List P.Tok} {k : Nat} {vars : List P.Bs} {d : Nat} {w : World} (hp : SP w pb tb T k vars d) (hd : 8 < d + 1) (hd2 : d ≤ 100) :
    Calls Tryz.prog 79 #[.pointer (some ⟨pb, 0, none⟩)] w fun e w' => faulted 4 (P.tk T k).pos w w' e ∧ SFr pb w w' ∧ SB w' pb := by
  obtain ⟨h2, f2, hb⟩ := hp.d2
  have hne : ¬ tb = pb := by have := hp.lt; omega
  have hne' : ¬ pb = tb := by omega
  have htl : tb < w.heap.size := by have := hp.lt; omega
  have hp2 := Lib.hid hp.deepW
  have hf2 := Lib.hid (SFr_deepW w pb d)
  obtain ⟨n, c, h0, l0, l1, -, -, -⟩ := hp.l0
  obtain ⟨-, -, t2⟩ := hp.toks.at hp.kt
  clear hp
  go_enter Tryz.func79, Tryz.ntmps79
  go_wp2_with fail
  refine (sFail _ _ _ pb hp2.out.sb).mono ?_
  rintro e w' ⟨⟨b, rfl, hb, hl⟩, hf, hs⟩
  exact ⟨rfl, ⟨b, rfl, hb, Nat.le_trans (Nat.le_trans (Nat.le_succ _) (Nat.le_of_eq (size_deepW w pb d).symm)) hl⟩, hf2.out.trans hf, hs⟩
abbrev shalW (w : World) (pb : Nat) (d : Int) : World := w.setCell ⟨pb, 2, none⟩ (.int .i64 d)
set_option maxHeartbeats 400000 in
theorem sShal {pb tb bx : Nat} {T : List P.Tok} {k : Nat} {vars : List P.Bs} {d : Nat} {w : World} (hp : SP w pb tb T k vars (d + 1))
    (hx : w.heap[bx]? = some (.cells #[.pointer (some ⟨pb, 0, none⟩)] 136 (0, 0))) (hd : d ≤ 100) (u : FrameMode) :
    CallsD Tryz.prog 99 #[.pointer (some ⟨bx, 0, none⟩)] u w fun e u' w' => u' = u ∧ (e = .returned (.tuple #[]) ∧ SP w' pb tb T k vars d ∧ SFr pb w w' ∧ w'.heap.size = w.heap.size) := by
  obtain ⟨h2, f2, hb⟩ := hp.d2
  have hx0 : w.cell? ⟨bx, 0, none⟩ = _ := cellOf hx rfl
  have e1 : ((d + 1 : Nat) : Int) = (d : Int) + 1 := rfl
  rw [e1] at h2
  have hfin : SP (shalW w pb d) pb tb T k vars d := by
    refine hp.set hp.kt (SFr.setp (FrM.refl _ _) _) (fun cp v2 hv => ?_) (fun b hne => blk_setCell_other hne _)
    rw [blk_setCell_same hv]
    rfl
  have hfr : SFr pb w (shalW w pb d) := SFr.setp (FrM.refl _ _) _
  have hsz : (shalW w pb d).heap.size = w.heap.size := size_setCell _ _ _
  have H1 := Lib.hid hfin
  have H2 := Lib.hid hfr
  have H3 := Lib.hid hsz
  clear hfin hfr hsz hp e1 hx
  have e2 : ((d : Int) + 1 - 1) = d := by omega
  go_enter_d Tryz.func99, Tryz.ntmps99
  go_wp2_with fail
  go_end0
  exact ⟨rfl, H1.out, H2.out, H3.out⟩
set_option maxHeartbeats 400000 in
theorem sShalP {pb bx : Nat} {w : World} (hp : SB w pb)
    (hx : w.heap[bx]? = some (.cells #[.pointer (some ⟨pb, 0, none⟩)] 136 (0, 0))) (u : FrameMode) :
    CallsD Tryz.prog 99 #[.pointer (some ⟨bx, 0, none⟩)] u w fun e u' w' => u' = u ∧ (e = .returned (.tuple #[]) ∧ SB w' pb ∧ SFr pb w w' ∧ w'.heap.size = w.heap.size ∧ ∀ b, b ≠ pb → w'.heap[b]? = w.heap[b]?) := by
  obtain ⟨lv, vv, d, h⟩ := hp
  have h2 : w.cell? ⟨pb, 2, none⟩ = _ := cellOf h rfl
  have f2 := freeOf h 2
  have hx0 : w.cell? ⟨bx, 0, none⟩ = _ := cellOf hx rfl
  have hfin : ∀ x, SB (w.setCell ⟨pb, 2, none⟩ (.int .i64 x)) pb := fun x => ⟨lv, vv, x, by rw [blk_setCell_same h]; rfl⟩
  have hfr : ∀ x, SFr pb w (w.setCell ⟨pb, 2, none⟩ (.int .i64 x)) := fun x => SFr.setp (FrM.refl _ _) _
  have H1 := Lib.hid hfin
  have H2 := Lib.hid hfr
  clear hfin hfr hx h
  go_enter_d Tryz.func99, Tryz.ntmps99
  go_wp2_with fail
  go_end0
  exact ⟨rfl, H1.out _, H2.out _, size_setCell _ _ _, fun b hb => blk_setCell_other hb _⟩
end Go.Proofs.YtkmpelgfhjgddaaGreatDoor
namespace Go.Proofs.YtkmpelgfhjgddaaGreatDoor
open Go.RowKit
def IsSlEx (F : Nat → Prop) (w : World) (v : Value) (l : List P.Ex) : Prop := ∃ vs, IsSl F w 124 v vs ∧ IsExs F w vs l
def IsSlBd (F : Nat → Prop) (w : World) (v : Value) (l : List P.Bd) : Prop := ∃ vs, IsSl F w 102 v vs ∧ IsBds F w vs l
structure CPrim (f : Nat) : Prop where
  go : ∀ {pb tb : Nat} {T : List P.Tok} {k : Nat} {vars : List P.Bs} {d : Nat} {w : World} {r : P.Res P.Ex}, SP w pb tb T k vars d → d ≤ 8 →
    P.pPrim T f k vars d = some r → Calls Tryz.prog 101 #[.pointer (some ⟨pb, 0, none⟩)] w (SPost IsEx pb tb T d w r)
structure CArgs (f : Nat) : Prop where
  go : ∀ {pb tb : Nat} {T : List P.Tok} {k : Nat} {vars : List P.Bs} {d : Nat} {w : World} {r : P.Res (List P.Ex)} (at_ : Nat), SP w pb tb T k vars d → d ≤ 8 →
    P.pArgs T f k vars d at_ [] = some r → Calls Tryz.prog 53 #[.pointer (some ⟨pb, 0, none⟩), .int .i64 at_] w (SPost IsSlEx pb tb T d w r)
structure CList (f : Nat) : Prop where
  go : ∀ {pb tb : Nat} {T : List P.Tok} {k : Nat} {vars : List P.Bs} {d : Nat} {w : World} {r : P.Res P.Ex}, SP w pb tb T k vars d → d ≤ 8 →
    P.pList T f k vars d = some r → Calls Tryz.prog 114 #[.pointer (some ⟨pb, 0, none⟩)] w (SPost IsEx pb tb T d w r)
structure COper (f : Nat) : Prop where
  go : ∀ {pb tb : Nat} {T : List P.Tok} {k : Nat} {vars : List P.Bs} {d : Nat} {w : World} {r : P.Res P.Ex} (lvl : Nat), lvl ≤ 2 → SP w pb tb T k vars d → d ≤ 8 →
    P.pOper T f lvl k vars d = some r → Calls Tryz.prog 86 #[.pointer (some ⟨pb, 0, none⟩), .int .i64 lvl] w (SPost IsEx pb tb T d w r)
structure CExpr (f : Nat) : Prop where
  go : ∀ {pb tb : Nat} {T : List P.Tok} {k : Nat} {vars : List P.Bs} {d : Nat} {w : World} {r : P.Res P.Ex}, SP w pb tb T k vars d → d ≤ 8 →
    P.pOper T f 0 k vars d = some r → Calls Tryz.prog 68 #[.pointer (some ⟨pb, 0, none⟩)] w (SPost IsEx pb tb T d w r)
structure CVar : Prop where
  go : ∀ {pb tb : Nat} {T : List P.Tok} {k : Nat} {vars : List P.Bs} {d : Nat} {w : World} (t : P.Tok), SP w pb tb T k vars d → t.text ≠ [] →
    Calls Tryz.prog 113 #[.pointer (some ⟨pb, 0, none⟩), .agg #[.int .i64 t.kind, .string (bs t.text), .int .i64 t.pos]] w (SPost IsEx pb tb T d w (P.pVar t k vars))
structure CInt : Prop where
  go : ∀ {w : World} (s : P.Bs), s ≠ [] → s.all P.digit = true → s.length ≤ 9 →
    Calls Tryz.prog 112 #[.string (bs s), .int .i64 10, .int .i64 64] w fun e w' => e = .returned (.tuple #[.int .i64 (P.num s), .nilIface]) ∧ Ext w w'
theorem SP.fr {w w' : World} {pb tb : Nat} {T : List P.Tok} {k : Nat} {vars : List P.Bs} {d : Nat} (h : SP w pb tb T k vars d)
    (hw : ∀ (b : Nat) (o : Obj), w.heap[b]? = some o → w'.heap[b]? = some o) : SP w' pb tb T k vars d := h.ext hw
abbrev onW (w : World) (pb tb k n c : Nat) : World := w.setCell ⟨pb, 0, none⟩ (.slice (some ⟨tb, k * 3 + 3, none⟩) (n - 1) (c - 1))
theorem SP.on {w : World} {pb tb : Nat} {T : List P.Tok} {k : Nat} {vars : List P.Bs} {d : Nat} (h : SP w pb tb T k vars d) (hk : (P.tk T k).kind ≠ 0) :
    ∃ n c : Nat, w.cell? ⟨pb, 0, none⟩ = some (.slice (some ⟨tb, k * 3, none⟩) n c) ∧ w.frozen? ⟨pb, 0, none⟩ = false ∧ pb < w.heap.size ∧ 1 < n ∧ n ≤ 100000 ∧ n ≤ c ∧ c ≤ 9223372036854775807 ∧
      SP (onW w pb tb k n c) pb tb T (k + 1) vars d ∧ SFr pb w (onW w pb tb k n c) := by
  obtain ⟨tw, lt, kt, nv, toks, cap, vv, h1, h2, h3, g1, g2⟩ := h
  have hk2 := tw.next kt hk
  have htl := tw.len
  have hf : SFr pb w (onW w pb tb k (T.length - k) (cap - k)) := SFr.setp (FrM.refl _ _) _
  refine ⟨T.length - k, cap - k, cellOf h3 rfl, freeOf h3 0, ltOf h3, by omega, by omega, by omega, by omega, ?_, hf⟩
  refine ⟨tw, lt, hk2, nv, hf.toks lt toks, cap, vv, h1, h2, ?_, g1, ?_⟩
  · rw [blk_setCell_same h3]
    have e1 : (k + 1) * 3 = k * 3 + 3 := by omega
    have e2 : T.length - (k + 1) = T.length - k - 1 := by omega
    have e3 : cap - (k + 1) = cap - k - 1 := by omega
    rw [e1, e2, e3]
    rfl
  · rcases g2 with g | ⟨g, cp, cur, e1, e2, e3, e4⟩
    · exact .inl g
    · refine .inr ⟨g, cp, cur, e1, e2, ?_, e4⟩
      rw [blk_setCell_other (by show g ≠ pb; omega)]; exact e3
end Go.Proofs.YtkmpelgfhjgddaaGreatDoor
