/- A part of one proof (SW1, SW2, SCon, SDoor); no conditions beyond what each theorem names. -/
import Derived.Test.YtkmpelgfhjgddaaGreatDoorPkRAW
import Derived.Test.YtkmpelgfhjgddaaGreatDoorProg
import Derived.WalkSpells
import Derived.WalkLawsBesides
set_option linter.all false
set_option linter.unusedVariables false
set_option linter.unusedSimpArgs false
namespace Go.Proofs.YtkmpelgfhjgddaaGreatDoor
open Go.RowKit
theorem SToks.at {w : World} {tb : Nat} {T : List P.Tok} (h : SToks w tb T) {k : Nat} (hk : k < T.length) :
    w.cell? ⟨tb, k * 3, none⟩ = some (.int .i64 ((P.tk T k).kind)) ∧ w.cell? ⟨tb, k * 3 + 1, none⟩ = some (.string (bs (P.tk T k).text)) ∧
      w.cell? ⟨tb, k * 3 + 2, none⟩ = some (.int .i64 ((P.tk T k).pos)) := by
  obtain ⟨-, cs, h1, h2⟩ := h
  obtain ⟨a, b, c⟩ := h2 k hk
  exact ⟨cellOf h1 a, cellOf h1 b, cellOf h1 c⟩
theorem SP.set {w w' : World} {pb tb : Nat} {T : List P.Tok} {k k' : Nat} {vars : List P.Bs} {d d' : Nat} (h : SP w pb tb T k vars d) (hk : k' < T.length)
    (hf : SFr pb w w')
    (hb : ∀ cap vv, w.heap[pb]? = some (.cells #[.slice (some ⟨tb, k * 3, none⟩) (T.length - k) (cap - k), vv, .int .i64 d] 142 (0, 0)) →
      w'.heap[pb]? = some (.cells #[.slice (some ⟨tb, k' * 3, none⟩) (T.length - k') (cap - k'), vv, .int .i64 d'] 142 (0, 0)))
    (hs : ∀ b, b ≠ pb → w'.heap[b]? = w.heap[b]?) : SP w' pb tb T k' vars d' := by
  obtain ⟨tw, lt, kt, nv, toks, cap, vv, h1, h2, h3, h4⟩ := h
  refine ⟨tw, lt, hk, nv, hf.toks lt toks, cap, vv, h1, h2, hb cap vv h3, ?_⟩
  obtain ⟨g1, g2⟩ := h4
  refine ⟨g1, ?_⟩
  rcases g2 with g | ⟨g, cp, cur, e1, e2, e3, e4⟩
  · exact .inl g
  · exact .inr ⟨g, cp, cur, e1, e2, by rw [hs g (by omega)]; exact e3, e4⟩
theorem SFr.setp {pb o : Nat} {a b : World} (h : SFr pb a b) (v : Value) : SFr pb a (b.setCell ⟨pb, o, none⟩ v) := h.setM (fun _ => .inl rfl) v
set_option maxHeartbeats 400000 in
theorem sIs_yes {pb tb : Nat} {T : List P.Tok} {k : Nat} {vars : List P.Bs} {d : Nat} {w : World} (hp : SP w pb tb T k vars d) (s : P.Bs) (h : P.isT T k s = true) :
    Calls Tryz.prog 52 #[.pointer (some ⟨pb, 0, none⟩), .string (bs s)] w fun e w' =>
      e = .returned (.bool true) ∧ SP w' pb tb T (k + 1) vars d ∧ SFr pb w w' := by
  obtain ⟨cap, vv, hc1, hc2, hpb, -⟩ := hp.blk
  have h0 := cellOf hpb (o := 0) rfl
  have f0 := freeOf hpb 0
  have hb := ltOf hpb
  obtain ⟨t0, t1, -⟩ := hp.toks.at hp.kt
  simp only [P.isT, Bool.and_eq_true, Bool.or_eq_true, beq_iff_eq] at h
  have hkn : k + 1 < T.length := hp.tw.next hp.kt (by omega)
  have hfin : SP (w.setCell ⟨pb, 0, none⟩ (.slice (some ⟨tb, k * 3 + 3, none⟩) (T.length - k - 1) (cap - k - 1))) pb tb T (k + 1) vars d := by
    refine hp.set hkn (SFr.setp (FrM.refl _ _) _) (fun cp v2 hv => ?_) (fun b hne => blk_setCell_other hne _)
    rw [hpb] at hv
    injection hv with hv
    injection hv with hv
    have hx : (Value.slice (some ⟨tb, k * 3, none⟩) (T.length - k) (cap - k)) = Value.slice (some ⟨tb, k * 3, none⟩) (T.length - k) (cp - k) := by
      have := congrArg (fun a => a[0]?) hv; simpa using this
    have hy : vv = v2 := by have := congrArg (fun a => a[1]?) hv; simpa using this
    injection hx with _ _ hx
    subst hy
    rw [blk_setCell_same hpb]
    have e1 : (k + 1) * 3 = k * 3 + 3 := by omega
    have e2 : T.length - (k + 1) = T.length - k - 1 := by omega
    have e3 : cp - (k + 1) = cap - k - 1 := by omega
    rw [e1, e2, e3]
    rfl
  have hfr : SFr pb w (w.setCell ⟨pb, 0, none⟩ (.slice (some ⟨tb, k * 3 + 3, none⟩) (T.length - k - 1) (cap - k - 1))) := SFr.setp (FrM.refl _ _) _
  obtain ⟨kd, hkd⟩ : ∃ kd : Int, kd = ((P.tk T k).kind : Int) := ⟨_, rfl⟩
  rw [← hkd] at t0
  rw [h.2] at t1
  have k0 : (kd == 0) = false := by simp; omega
  have k2 : (kd == 2) = false := by simp; omega
  have l1 : 1 < T.length - k := by omega
  have l2 : T.length - k ≤ 100000 := by have := hp.tw.len; omega
  have l3 : T.length - k ≤ cap - k := by omega
  clear hkd h
  generalize hn : T.length - k = n at *
  generalize hm : cap - k = m at *
  have l4 : m ≤ 9223372036854775807 := by omega
  clear hn hm hc1 hc2 hkn hp hpb
  go_enter Tryz.func52, Tryz.ntmps52
  go_wp2
  go_ret
  exact ⟨rfl, hfin, hfr⟩
set_option maxHeartbeats 400000 in
theorem sIs_no {pb tb : Nat} {T : List P.Tok} {k : Nat} {vars : List P.Bs} {d : Nat} {w : World} (hp : SP w pb tb T k vars d) (s : P.Bs) (h : P.isT T k s = false)
    (hs : s.all P.digit = false) :
    Calls Tryz.prog 52 #[.pointer (some ⟨pb, 0, none⟩), .string (bs s)] w fun e w' => e = .returned (.bool false) ∧ w = w' := by
  obtain ⟨cap, vv, hc1, hc2, hpb, -⟩ := hp.blk
  have h0 := cellOf hpb (o := 0) rfl
  obtain ⟨t0, t1, -⟩ := hp.toks.at hp.kt
  have hk4 := hp.tw.kind _ (tk_mem hp.kt)
  have hdg := hp.tw.digits _ (tk_mem hp.kt)
  have l1 : 0 < T.length - k := by have := hp.kt; omega
  have l2 : T.length - k ≤ 100000 := by have := hp.tw.len; omega
  by_cases hx : (P.tk T k).text = s
  · have hkd : (P.tk T k).kind = 0 ∨ (P.tk T k).kind = 2 := by
      simp only [P.isT, hx, beq_self_eq_true, Bool.and_true, Bool.or_eq_false_iff, beq_eq_false_iff_ne] at h
      rcases Nat.lt_or_ge (P.tk T k).kind 3 with g | g
      · omega
      · have : (P.tk T k).kind = 3 := by omega
        obtain ⟨_, g2, _⟩ := hdg this
        rw [hx, hs] at g2
        cases g2
    rw [hx] at t1
    rcases hkd with hkd | hkd
    · rw [hkd] at t0
      clear h hdg hk4 hkd hx hp
      generalize hn : T.length - k = n at *
      generalize hm : cap - k = m at *
      clear hn hm hc1 hc2 hpb
      go_enter Tryz.func52, Tryz.ntmps52
      go_wp2
      go_ret
      exact ⟨rfl, rfl⟩
    · rw [hkd] at t0
      clear h hdg hk4 hkd hx hp
      generalize hn : T.length - k = n at *
      generalize hm : cap - k = m at *
      clear hn hm hc1 hc2 hpb
      go_enter Tryz.func52, Tryz.ntmps52
      go_wp2
      go_ret
      exact ⟨rfl, rfl⟩
  · obtain ⟨kd, hkd⟩ : ∃ kd : Int, kd = ((P.tk T k).kind : Int) := ⟨_, rfl⟩
    rw [← hkd] at t0
    obtain ⟨x, hxx⟩ : ∃ x, x = (P.tk T k).text := ⟨_, rfl⟩
    rw [← hxx] at t1 hx
    clear hkd h hdg hk4 hxx hp
    generalize hn : T.length - k = n at *
    generalize hm : cap - k = m at *
    clear hn hm hc1 hc2 hpb
    go_enter Tryz.func52, Tryz.ntmps52
    go_wp2
    go_ret
    exact ⟨rfl, rfl⟩
set_option maxHeartbeats 400000 in
theorem sFail (c a : Int) (w : World) (pb : Nat) (hsb : SB w pb) :
    Calls Tryz.prog 50 #[.int .i64 c, .int .i64 a] w fun e w' => faulted c a w w' e ∧ SFr pb w w' ∧ SB w' pb := by
  have hfin : faulted c a w (w.alloc (Obj.cells #[Value.int IntKind.i64 c, Value.int IntKind.i64 a] 89))
      (.panicked [{ v := .iface 85 (.pointer (some ⟨w.heap.size, 0, none⟩)), recovered := false }]) :=
    ⟨_, rfl, blk_alloc_new _ _, Nat.le_refl _⟩
  have hsb' : SB (w.alloc (Obj.cells #[Value.int IntKind.i64 c, Value.int IntKind.i64 a] 89)) pb := by
    obtain ⟨lv, vv, d, h⟩ := hsb
    exact ⟨lv, vv, d, blk_alloc_old h⟩
  clear hsb
  go_enter Tryz.func50, Tryz.ntmps50
  go_wp2
  exact ⟨rfl, hfin, (FrM.refl _ _).alloc _, hsb'⟩
end Go.Proofs.YtkmpelgfhjgddaaGreatDoor
namespace Go.Proofs.YtkmpelgfhjgddaaGreatDoor
open Go.RowKit
theorem SP.sb {w : World} {pb tb : Nat} {T : List P.Tok} {k : Nat} {vars : List P.Bs} {d : Nat} (h : SP w pb tb T k vars d) : SB w pb := by
  obtain ⟨cap, vv, _, _, h, _⟩ := h.blk
  exact ⟨_, _, _, h⟩
theorem SP.l0 {w : World} {pb tb : Nat} {T : List P.Tok} {k : Nat} {vars : List P.Bs} {d : Nat} (h : SP w pb tb T k vars d) :
    ∃ n c : Nat, w.cell? ⟨pb, 0, none⟩ = some (.slice (some ⟨tb, k * 3, none⟩) n c) ∧ 0 < n ∧ n ≤ 100000 ∧ ((P.tk T k).kind ≠ 0 → 1 < n) ∧ n ≤ c ∧ c ≤ 9223372036854775807 := by
  obtain ⟨cap, vv, h1, h2, h3, _⟩ := h.blk
  refine ⟨_, _, cellOf h3 rfl, ?_, ?_, ?_, ?_, ?_⟩
  · have := h.kt; omega
  · have := h.tw.len; omega
  · intro hk; have := h.tw.next h.kt hk; omega
  · omega
  · omega
set_option maxHeartbeats 400000 in
theorem sNone {pb tb : Nat} {T : List P.Tok} {k : Nat} {vars : List P.Bs} {d : Nat} {w : World} (hp : SP w pb tb T k vars d) :
    Calls Tryz.prog 51 #[.pointer (some ⟨pb, 0, none⟩)] w fun e w' => faulted 2 (P.tk T k).pos w w' e ∧ SFr pb w w' ∧ SB w' pb := by
  obtain ⟨n, c, h0, l0, l1, -, -, -⟩ := hp.l0
  obtain ⟨-, -, t2⟩ := hp.toks.at hp.kt
  have hsb := Lib.hid hp.sb
  clear hp
  go_enter Tryz.func51, Tryz.ntmps51
  go_wp2_with fail
  refine (sFail _ _ _ pb hsb.out).mono ?_
  rintro e w' ⟨⟨b, rfl, hb⟩, hf, hs⟩
  exact ⟨rfl, ⟨b, rfl, hb⟩, hf, hs⟩
set_option maxHeartbeats 400000 in
theorem sMust_yes {pb tb : Nat} {T : List P.Tok} {k : Nat} {vars : List P.Bs} {d : Nat} {w : World} (hp : SP w pb tb T k vars d) (s : P.Bs) (h : P.isT T k s = true) :
    Calls Tryz.prog 54 #[.pointer (some ⟨pb, 0, none⟩), .string (bs s)] w fun e w' =>
      e = .returned (.tuple #[]) ∧ SP w' pb tb T (k + 1) vars d ∧ SFr pb w w' := by
  have H := Lib.hid hp
  have H2 := Lib.hid h
  clear hp h
  go_enter Tryz.func54, Tryz.ntmps54
  go_wp2_with fail
  refine (sIs_yes H.out s H2.out).mono ?_
  rintro e w' ⟨rfl, h1, h2⟩
  have H1 := Lib.hid h1
  have H2 := Lib.hid h2
  clear h1 h2
  go_wp2_with fail
  go_end0
  exact ⟨rfl, H1.out, H2.out⟩
set_option maxHeartbeats 400000 in
theorem sMust_no {pb tb : Nat} {T : List P.Tok} {k : Nat} {vars : List P.Bs} {d : Nat} {w : World} (hp : SP w pb tb T k vars d) (s : P.Bs) (h : P.isT T k s = false)
    (hs : s.all P.digit = false) :
    Calls Tryz.prog 54 #[.pointer (some ⟨pb, 0, none⟩), .string (bs s)] w fun e w' =>
      faulted 2 (P.tk T k).pos w w' e ∧ SFr pb w w' ∧ SB w' pb := by
  have H := Lib.hid hp
  have H2 := Lib.hid h
  have H3 := Lib.hid hs
  clear hp h hs
  go_enter Tryz.func54, Tryz.ntmps54
  go_wp2_with fail
  refine (sIs_no H.out s H2.out H3.out).mono ?_
  rintro e w' ⟨rfl, rfl⟩
  go_wp2_with fail
  refine (sNone H.out).mono ?_
  rintro e w' ⟨⟨b, rfl, hb⟩, hf, hs⟩
  exact ⟨rfl, ⟨b, rfl, hb⟩, hf, hs⟩
theorem SP.d2 {w : World} {pb tb : Nat} {T : List P.Tok} {k : Nat} {vars : List P.Bs} {d : Nat} (h : SP w pb tb T k vars d) :
    w.cell? ⟨pb, 2, none⟩ = some (.int .i64 d) ∧ w.frozen? ⟨pb, 2, none⟩ = false ∧ pb < w.heap.size := by
  obtain ⟨cap, vv, h1, h2, h3, _⟩ := h.blk
  exact ⟨cellOf h3 rfl, freeOf h3 2, ltOf h3⟩
abbrev deepW (w : World) (pb : Nat) (d : Nat) : World :=
  (w.setCell ⟨pb, 2, none⟩ (.int .i64 ((d : Int) + 1))).alloc (.cells #[.pointer (some ⟨pb, 0, none⟩)] 136)
theorem SP.ext {w w' : World} {pb tb : Nat} {T : List P.Tok} {k : Nat} {vars : List P.Bs} {d : Nat} (h : SP w pb tb T k vars d)
    (hw : ∀ (b : Nat) (o : Obj), w.heap[b]? = some o → w'.heap[b]? = some o) : SP w' pb tb T k vars d := by
  obtain ⟨tw, lt, kt, nv, toks, cap, vv, h1, h2, h3, g1, g2⟩ := h
  obtain ⟨ts, cs, t1, t2⟩ := toks
  refine ⟨tw, lt, kt, nv, ⟨ts.ext fun b o _ ho => hw b o ho, cs, hw _ _ t1, t2⟩, cap, vv, h1, h2, hw _ _ h3, g1, ?_⟩
  rcases g2 with g | ⟨g, cp, cur, e1, e2, e3, e4⟩
  · exact .inl g
  · exact .inr ⟨g, cp, cur, e1, e2, hw _ _ e3, e4⟩
theorem SP.deepW {w : World} {pb tb : Nat} {T : List P.Tok} {k : Nat} {vars : List P.Bs} {d : Nat} (h : SP w pb tb T k vars d) : SP (deepW w pb d) pb tb T k vars (d + 1) := by
  have h1 : SP (w.setCell ⟨pb, 2, none⟩ (.int .i64 ((d : Int) + 1))) pb tb T k vars (d + 1) := by
    refine h.set h.kt (SFr.setp (FrM.refl _ _) _) (fun cp v2 hv => ?_) (fun b hne => blk_setCell_other hne _)
    rw [blk_setCell_same hv]
    rfl
  exact h1.ext fun b o hb => blk_alloc_old hb
theorem size_deepW (w : World) (pb d : Nat) : (deepW w pb d).heap.size = w.heap.size + 1 := by rw [size_alloc, size_setCell]
theorem blk_deepW (w : World) (pb d : Nat) : (deepW w pb d).heap[w.heap.size]? = some (.cells #[.pointer (some ⟨pb, 0, none⟩)] 136 (0, 0)) := by
  have := blk_alloc_new (w.setCell ⟨pb, 2, none⟩ (.int .i64 ((d : Int) + 1))) (.cells #[.pointer (some ⟨pb, 0, none⟩)] 136)
  rw [size_setCell] at this
  exact this
theorem SFr_deepW (w : World) (pb d : Nat) : SFr pb w (deepW w pb d) := (SFr.setp (FrM.refl _ _) _).alloc _
set_option maxHeartbeats 400000 in
theorem sDeeper_yes {pb tb : Nat} {T : List P.Tok} {k : Nat} {vars : List P.Bs} {d : Nat} {w : World} (hp : SP w pb tb T k vars d) (hd : d + 1 ≤ 8) :
    Calls Tryz.prog 79 #[.pointer (some ⟨pb, 0, none⟩)] w fun e w' =>
      e = .returned (.func (.func 99) #[] #[.pointer (some ⟨w.heap.size, 0, none⟩)]) ∧ w'.heap.size = w.heap.size + 1 ∧
      w'.heap[w.heap.size]? = some (.cells #[.pointer (some ⟨pb, 0, none⟩)] 136 (0, 0)) ∧ SP w' pb tb T k vars (d + 1) ∧ SFr pb w w' := by
  have hmf : ∀ (fn : Fn) (first cap : Array Value) (w : World), (Instr.makeFunc fn first cap).run Tryz.prog w = .ok (.func fn first cap) w := fun _ _ _ _ => rfl
  obtain ⟨h2, f2, hb⟩ := hp.d2
  have H := Lib.hid hp
  clear hp
  go_enter Tryz.func79, Tryz.ntmps79
  go_wp2_with fail
  go_ret
  exact ⟨rfl, size_deepW w pb d, blk_deepW w pb d, H.out.deepW, SFr_deepW w pb d⟩
set_option maxHeartbeats 400000 in
theorem sDeeper_no {pb tb : Nat} {T : List P.Tok} {k : Nat} {vars : List P.Bs} {d : Nat} {w : World} (hp : SP w pb tb T k vars d) (hd : 8 < d + 1) (hd2 : d ≤ 100) :
    Calls Tryz.prog 79 #[.pointer (some ⟨pb, 0, none⟩)] w fun e w' => faulted 4 (P.tk T k).pos w w' e ∧ SFr pb w w' ∧ SB w' pb := by
  obtain ⟨h2, f2, hb⟩ := hp.d2
  have hne : ¬ tb = pb := by have := hp.lt; omega
  have hne' : ¬ pb = tb := by omega
  have htl : tb < w.heap.size := by have := hp.lt; omega
  have hp2 := Lib.hid hp.deepW
  have hf2 := Lib.hid (SFr_deepW w pb d)
  obtain ⟨n, c, h0, l0, l1, -, -, -⟩ := hp.l0
  obtain ⟨-, -, t2⟩ := hp.toks.at hp.kt
  clear hp
  go_enter Tryz.func79, Tryz.ntmps79
  go_wp2_with fail
  refine (sFail _ _ _ pb hp2.out.sb).mono ?_
  rintro e w' ⟨⟨b, rfl, hb, hl⟩, hf, hs⟩
  exact ⟨rfl, ⟨b, rfl, hb, Nat.le_trans (Nat.le_trans (Nat.le_succ _) (Nat.le_of_eq (size_deepW w pb d).symm)) hl⟩, hf2.out.trans hf, hs⟩
abbrev shalW (w : World) (pb : Nat) (d : Int) : World := w.setCell ⟨pb, 2, none⟩ (.int .i64 d)
set_option maxHeartbeats 400000 in
theorem sShal {pb tb bx : Nat} {T : List P.Tok} {k : Nat} {vars : List P.Bs} {d : Nat} {w : World} (hp : SP w pb tb T k vars (d + 1))
    (hx : w.heap[bx]? = some (.cells #[.pointer (some ⟨pb, 0, none⟩)] 136 (0, 0))) (hd : d ≤ 100) (u : FrameMode) :
    CallsD Tryz.prog 99 #[.pointer (some ⟨bx, 0, none⟩)] u w fun e u' w' => u' = u ∧ (e = .returned (.tuple #[]) ∧ SP w' pb tb T k vars d ∧ SFr pb w w' ∧ w'.heap.size = w.heap.size) := by
  obtain ⟨h2, f2, hb⟩ := hp.d2
  have hx0 : w.cell? ⟨bx, 0, none⟩ = _ := cellOf hx rfl
  have e1 : ((d + 1 : Nat) : Int) = (d : Int) + 1 := rfl
  rw [e1] at h2
  have hfin : SP (shalW w pb d) pb tb T k vars d := by
    refine hp.set hp.kt (SFr.setp (FrM.refl _ _) _) (fun cp v2 hv => ?_) (fun b hne => blk_setCell_other hne _)
    rw [blk_setCell_same hv]
    rfl
  have hfr : SFr pb w (shalW w pb d) := SFr.setp (FrM.refl _ _) _
  have hsz : (shalW w pb d).heap.size = w.heap.size := size_setCell _ _ _
  have H1 := Lib.hid hfin
  have H2 := Lib.hid hfr
  have H3 := Lib.hid hsz
  clear hfin hfr hsz hp e1 hx
  have e2 : ((d : Int) + 1 - 1) = d := by omega
  go_enter_d Tryz.func99, Tryz.ntmps99
  go_wp2_with fail
  go_end0
  exact ⟨rfl, H1.out, H2.out, H3.out⟩
set_option maxHeartbeats 400000 in
theorem sShalP {pb bx : Nat} {w : World} (hp : SB w pb)
    (hx : w.heap[bx]? = some (.cells #[.pointer (some ⟨pb, 0, none⟩)] 136 (0, 0))) (u : FrameMode) :
    CallsD Tryz.prog 99 #[.pointer (some ⟨bx, 0, none⟩)] u w fun e u' w' => u' = u ∧ (e = .returned (.tuple #[]) ∧ SB w' pb ∧ SFr pb w w' ∧ w'.heap.size = w.heap.size ∧ ∀ b, b ≠ pb → w'.heap[b]? = w.heap[b]?) := by
  obtain ⟨lv, vv, d, h⟩ := hp
  have h2 : w.cell? ⟨pb, 2, none⟩ = _ := cellOf h rfl
  have f2 := freeOf h 2
  have hx0 : w.cell? ⟨bx, 0, none⟩ = _ := cellOf hx rfl
  have hfin : ∀ x, SB (w.setCell ⟨pb, 2, none⟩ (.int .i64 x)) pb := fun x => ⟨lv, vv, x, by rw [blk_setCell_same h]; rfl⟩
  have hfr : ∀ x, SFr pb w (w.setCell ⟨pb, 2, none⟩ (.int .i64 x)) := fun x => SFr.setp (FrM.refl _ _) _
  have H1 := Lib.hid hfin
  have H2 := Lib.hid hfr
  clear hfin hfr hx h
  go_enter_d Tryz.func99, Tryz.ntmps99
  go_wp2_with fail
  go_end0
  exact ⟨rfl, H1.out _, H2.out _, size_setCell _ _ _, fun b hb => blk_setCell_other hb _⟩
end Go.Proofs.YtkmpelgfhjgddaaGreatDoor
namespace Go.Proofs.YtkmpelgfhjgddaaGreatDoor
open Go.RowKit
def IsSlEx (F : Nat → Prop) (w : World) (v : Value) (l : List P.Ex) : Prop := ∃ vs, IsSl F w 124 v vs ∧ IsExs F w vs l
structure CPrim (f : Nat) : Prop where
  go : ∀ {pb tb : Nat} {T : List P.Tok} {k : Nat} {vars : List P.Bs} {d : Nat} {w : World} {r : P.Res P.Ex}, SP w pb tb T k vars d → d ≤ 8 →
    P.pPrim T f k vars d = some r → Calls Tryz.prog 101 #[.pointer (some ⟨pb, 0, none⟩)] w (SPost IsEx pb tb T d w r)
structure CArgs (f : Nat) : Prop where
  go : ∀ {pb tb : Nat} {T : List P.Tok} {k : Nat} {vars : List P.Bs} {d : Nat} {w : World} {r : P.Res (List P.Ex)} (at_ : Nat), SP w pb tb T k vars d → d ≤ 8 →
    P.pArgs T f k vars d at_ [] = some r → Calls Tryz.prog 53 #[.pointer (some ⟨pb, 0, none⟩), .int .i64 at_] w (SPost IsSlEx pb tb T d w r)
structure CList (f : Nat) : Prop where
  go : ∀ {pb tb : Nat} {T : List P.Tok} {k : Nat} {vars : List P.Bs} {d : Nat} {w : World} {r : P.Res P.Ex}, SP w pb tb T k vars d → d ≤ 8 →
    P.pList T f k vars d = some r → Calls Tryz.prog 114 #[.pointer (some ⟨pb, 0, none⟩)] w (SPost IsEx pb tb T d w r)
structure COper (f : Nat) : Prop where
  go : ∀ {pb tb : Nat} {T : List P.Tok} {k : Nat} {vars : List P.Bs} {d : Nat} {w : World} {r : P.Res P.Ex} (lvl : Nat), lvl ≤ 2 → SP w pb tb T k vars d → d ≤ 8 →
    P.pOper T f lvl k vars d = some r → Calls Tryz.prog 86 #[.pointer (some ⟨pb, 0, none⟩), .int .i64 lvl] w (SPost IsEx pb tb T d w r)
structure CExpr (f : Nat) : Prop where
  go : ∀ {pb tb : Nat} {T : List P.Tok} {k : Nat} {vars : List P.Bs} {d : Nat} {w : World} {r : P.Res P.Ex}, SP w pb tb T k vars d → d ≤ 8 →
    P.pOper T f 0 k vars d = some r → Calls Tryz.prog 68 #[.pointer (some ⟨pb, 0, none⟩)] w (SPost IsEx pb tb T d w r)
structure CVar : Prop where
  go : ∀ {pb tb : Nat} {T : List P.Tok} {k : Nat} {vars : List P.Bs} {d : Nat} {w : World} (t : P.Tok), SP w pb tb T k vars d → t.text ≠ [] →
    Calls Tryz.prog 113 #[.pointer (some ⟨pb, 0, none⟩), .agg #[.int .i64 t.kind, .string (bs t.text), .int .i64 t.pos]] w (SPost IsEx pb tb T d w (P.pVar t k vars))
structure CInt : Prop where
  go : ∀ {w : World} (s : P.Bs), s ≠ [] → s.all P.digit = true → s.length ≤ 9 →
    Calls Tryz.prog 112 #[.string (bs s), .int .i64 10, .int .i64 64] w fun e w' => e = .returned (.tuple #[.int .i64 (P.num s), .nilIface]) ∧ Ext w w'
abbrev onW (w : World) (pb tb k n c : Nat) : World := w.setCell ⟨pb, 0, none⟩ (.slice (some ⟨tb, k * 3 + 3, none⟩) (n - 1) (c - 1))
theorem SP.on {w : World} {pb tb : Nat} {T : List P.Tok} {k : Nat} {vars : List P.Bs} {d : Nat} (h : SP w pb tb T k vars d) (hk : (P.tk T k).kind ≠ 0) :
    ∃ n c : Nat, w.cell? ⟨pb, 0, none⟩ = some (.slice (some ⟨tb, k * 3, none⟩) n c) ∧ w.frozen? ⟨pb, 0, none⟩ = false ∧ pb < w.heap.size ∧ 1 < n ∧ n ≤ 100000 ∧ n ≤ c ∧ c ≤ 9223372036854775807 ∧
      SP (onW w pb tb k n c) pb tb T (k + 1) vars d ∧ SFr pb w (onW w pb tb k n c) := by
  obtain ⟨tw, lt, kt, nv, toks, cap, vv, h1, h2, h3, g1, g2⟩ := h
  have hk2 := tw.next kt hk
  have htl := tw.len
  have hf : SFr pb w (onW w pb tb k (T.length - k) (cap - k)) := SFr.setp (FrM.refl _ _) _
  refine ⟨T.length - k, cap - k, cellOf h3 rfl, freeOf h3 0, ltOf h3, by omega, by omega, by omega, by omega, ?_, hf⟩
  refine ⟨tw, lt, hk2, nv, hf.toks lt toks, cap, vv, h1, h2, ?_, g1, ?_⟩
  · rw [blk_setCell_same h3]
    have e1 : (k + 1) * 3 = k * 3 + 3 := by omega
    have e2 : T.length - (k + 1) = T.length - k - 1 := by omega
    have e3 : cap - (k + 1) = cap - k - 1 := by omega
    rw [e1, e2, e3]
    rfl
  · rcases g2 with g | ⟨g, cp, cur, e1, e2, e3, e4⟩
    · exact .inl g
    · refine .inr ⟨g, cp, cur, e1, e2, ?_, e4⟩
      rw [blk_setCell_other (by show g ≠ pb; omega)]; exact e3
end Go.Proofs.YtkmpelgfhjgddaaGreatDoor
namespace Go.Proofs.YtkmpelgfhjgddaaGreatDoor
open Go.RowKit
set_option linter.unusedVariables false
def Stab {α : Type} (I : (Nat → Prop) → World → Value → α → Prop) : Prop :=
  ∀ (F F' : Nat → Prop) (pb : Nat) (w w' : World) (v : Value) (x : α), I F w v x → SFr pb w w' → (∀ b, F b → b ≠ pb ∧ F' b) → I F' w' v x
theorem stab_Ex : Stab IsEx := fun F F' pb w w' v x h hf hn => IsEx.mono (fun b hb => (hn b hb).2) (fun b _ hb ha ho => hf.ast ha ho (hn b hb).1) x v h
theorem stab_SlEx : Stab IsSlEx := fun F F' pb w w' v x h hf hn => by
  obtain ⟨vs, h1, h2⟩ := h
  exact ⟨vs, h1.mono (fun b hb => (hn b hb).2) fun b cs hb hc => hf.ast ⟨.inr (.inl rfl), rfl⟩ hc (hn b hb).1,
    IsExs.mono (fun b hb => (hn b hb).2) (fun b _ hb ha ho => hf.ast ha ho (hn b hb).1) x vs h2⟩
abbrev deferB (bx : Nat) : Deferred := { target := .fn (.func 99) #[.pointer (some ⟨bx, 0, none⟩)], args := #[] }
theorem invokeB (bx : Nat) (w : World) : (invoke (deferB bx).target (deferB bx).args).run Tryz.prog w = .ok (.enter 99 #[.pointer (some ⟨bx, 0, none⟩)]) w := by
  simp [go_sem]
theorem doorRet {α : Type} {I : (Nat → Prop) → World → Value → α → Prop} (hI : Stab I) {pb tb bx : Nat} {T : List P.Tok} {k : Nat} {vs : List P.Bs} {d : Nat} {w wE : World}
    {fn : Func} {tmps : Array Value} {x : α} {j : Nat} (hres : fn.results = #[.tmp j])
    (hpb : pb < w.heap.size) (hp : SP wE pb tb T k vs (d + 1)) (hd : d ≤ 8)
    (hx : wE.heap[bx]? = some (.cells #[.pointer (some ⟨pb, 0, none⟩)] 136 (0, 0))) (hv : I (Nu w wE) wE (tmps.getD j undef) x) (hf : SFr pb w wE) :
    bodyPostD Tryz.prog fn (SPost I pb tb T d w (.ok x k vs)) .ret { tmps := tmps, defers := [deferB bx] } wE := by
  refine leaves_cons (by simp) (invokeB bx wE) ((sShal hp hx (by omega) _).mono ?_)
  rintro e u w' ⟨rfl, rfl, hp', hf', hs'⟩
  refine ⟨_, results_tmp hres _ _ w', _, rfl, hI _ _ _ _ _ _ _ hv hf' ?_, hp', hf.trans hf'⟩
  intro b hb
  exact ⟨by have := hb.1; omega, by have := hb.1; have := hb.2; exact ⟨by omega, by omega⟩⟩
theorem doorPanic {α : Type} {I : (Nat → Prop) → World → Value → α → Prop} {pb tb bx : Nat} {T : List P.Tok} {d : Nat} {w wE : World} {c a : Nat}
    {fn : Func} {tmps : Array Value} {chain : List PanicEntry} (hpb : pb < w.heap.size) (hsb : SB wE pb)
    (hx : wE.heap[bx]? = some (.cells #[.pointer (some ⟨pb, 0, none⟩)] 136 (0, 0))) (hv : faulted c a w wE (.panicked chain)) (hf : SFr pb w wE) :
    bodyPostD Tryz.prog fn (SPost I pb tb T d w (.err c a)) (.panic chain) { tmps := tmps, defers := [deferB bx] } wE := by
  obtain ⟨b, e1, e2, e3⟩ := hv
  injection e1 with e1
  subst e1
  refine leaves_cons (by simp) (invokeB bx wE) ((sShalP hsb hx _).mono ?_)
  rintro e u w' ⟨rfl, rfl, hs', hf', hz', hk'⟩
  exact ⟨⟨b, rfl, by rw [hk' b (by omega)]; exact e2, e3⟩, hf.trans hf', hs'⟩
theorem isEx_leaf {F : Nat → Prop} {w : World} {b : Nat} {kind : Nat} {name : P.Bs} {n : Int} {k : Nat} (hF : F b)
    (h : w.heap[b]? = some (.cells #[.int .u8 kind, .string (bs name), .int .i64 n, .int .i64 k, .slice none 0 0] 177 (0, 0))) :
    IsEx F w (.pointer (some ⟨b, 0, none⟩)) (.mk kind name n k []) := by
  unfold IsEx
  exact ⟨b, _, [], rfl, hF, h, .inl ⟨rfl, rfl⟩, by unfold IsExs; rfl⟩
theorem blk_new1 {w : World} {o : Obj} {n : Nat} (h : n = w.heap.size) : (w.alloc o).heap[n]? = some o := by subst h; exact blk_alloc_new w o
theorem SP.setOther {w : World} {pb tb x o : Nat} {T : List P.Tok} {k : Nat} {vars : List P.Bs} {d : Nat} {cs : Array Value} {t : TypeId} {z : Nat × Nat} (h : SP w pb tb T k vars d)
    (hx : w.heap[x]? = some (.cells cs t z)) (ht : t ≠ 9) (hp : x ≠ pb) (htb : tb < x) (v : Value) : SP (w.setCell ⟨x, o, none⟩ v) pb tb T k vars d := by
  obtain ⟨tw, lt, kt, nv, ⟨tt, ts, t1, t2⟩, cap, vv, h1, h2, h3, g1, g2⟩ := h
  refine ⟨tw, lt, kt, nv, ⟨tt.ext fun b ob hb ho => by rw [blk_setCell_other (show b ≠ x by omega)]; exact ho, ts, by rw [blk_setCell_other (show tb ≠ x by omega)]; exact t1, t2⟩, cap, vv, h1, h2,
    by rw [blk_setCell_other (show pb ≠ x from fun e => hp e.symm)]; exact h3, g1, ?_⟩
  rcases g2 with g | ⟨g, cp, cur, e1, e2, e3, e4⟩
  · exact .inl g
  · refine .inr ⟨g, cp, cur, e1, e2, ?_, e4⟩
    rw [blk_setCell_other]
    · exact e3
    · show g ≠ x
      rintro rfl
      rw [e3] at hx
      injection hx with hx
      injection hx with _ hx
      exact ht hx.symm
theorem IsSlEx.mono {F F' : Nat → Prop} {w w' : World} {v : Value} {l : List P.Ex} (hf : ∀ b, F b → F' b) (hw : ∀ b o, F b → astObj o → w.heap[b]? = some o → w'.heap[b]? = some o)
    (h : IsSlEx F w v l) : IsSlEx F' w' v l := by
  obtain ⟨vs, h1, h2⟩ := h
  exact ⟨vs, h1.mono hf fun b cs hb hc => hw b _ hb ⟨.inr (.inl rfl), rfl⟩ hc, IsExs.mono hf hw l vs h2⟩
theorem IsSlEx.set {F : Nat → Prop} {w : World} {v : Value} {l : List P.Ex} {x o : Nat} (h : IsSlEx F w v l) (hx : ∀ b, F b → b ≠ x) (u : Value) : IsSlEx F (w.setCell ⟨x, o, none⟩ u) v l :=
  h.mono (fun _ hb => hb) fun b ob hb _ ho => by rw [blk_setCell_other (show b ≠ x from hx b hb)]; exact ho
theorem isEx_node {F : Nat → Prop} {w : World} {b : Nat} {kind : Nat} {name : P.Bs} {n : Int} {k : Nat} {av : Value} {l : List P.Ex} (hF : F b)
    (h : w.heap[b]? = some (.cells #[.int .u8 kind, .string (bs name), .int .i64 n, .int .i64 k, av] 177 (0, 0))) (hl : IsSlEx F w av l) :
    IsEx F w (.pointer (some ⟨b, 0, none⟩)) (.mk kind name n k l) := by
  obtain ⟨vs, h1, h2⟩ := hl
  unfold IsEx
  exact ⟨b, _, vs, rfl, hF, h, h1, h2⟩
theorem IsSl.shape {F : Nat → Prop} {w : World} {et : TypeId} {v : Value} {vs : List Value} (h : IsSl F w et v vs) : ∃ a n c, v = .slice a n c ∧ n = vs.length ∧ n ≤ c ∧ (a = none → n = 0) := by
  rcases h with ⟨rfl, rfl⟩ | ⟨b, cs, rfl, _, _, h, _⟩
  · exact ⟨_, _, _, rfl, rfl, Nat.le_refl _, fun _ => rfl⟩
  · exact ⟨_, _, _, rfl, rfl, h, fun e => by cases e⟩
theorem IsExs.length {F : Nat → Prop} {w : World} : ∀ {l : List P.Ex} {vs : List Value}, IsExs F w vs l → vs.length = l.length
  | [], vs, h => by unfold IsExs at h; rw [h]; rfl
  | x :: xs, vs, h => by
    unfold IsExs at h
    obtain ⟨v, r, rfl, _, h3⟩ := h
    simp [IsExs.length h3]
theorem IsSlEx.shape {F : Nat → Prop} {w : World} {v : Value} {l : List P.Ex} (h : IsSlEx F w v l) : ∃ a n c, v = .slice a n c ∧ n = l.length ∧ n ≤ c := by
  obtain ⟨vs, h1, h2⟩ := h
  obtain ⟨a, n, c, rfl, e, h3, _⟩ := h1.shape
  exact ⟨a, n, c, rfl, by rw [e, h2.length], h3⟩
theorem isSlEx_two {F : Nat → Prop} {w : World} {b : Nat} {u v : Value} {x y : P.Ex} (hF : F b) (h : w.heap[b]? = some (.cells #[u, v] 124 (0, 0))) (hx : IsEx F w u x) (hy : IsEx F w v y) :
    IsSlEx F w (.slice (some ⟨b, 0, none⟩) 2 2) [x, y] := by
  refine ⟨[u, v], .inr ⟨b, #[u, v], rfl, hF, h, Nat.le_refl _, rfl⟩, ?_⟩
  unfold IsExs
  refine ⟨u, [v], rfl, hx, ?_⟩
  unfold IsExs
  refine ⟨v, [], rfl, hy, ?_⟩
  unfold IsExs
  rfl
theorem SP.other {w w' : World} {pb tb x : Nat} {T : List P.Tok} {k : Nat} {vars : List P.Bs} {d : Nat} {cs : Array Value} {t : TypeId} {z : Nat × Nat} (h : SP w pb tb T k vars d)
    (hx : w.heap[x]? = some (.cells cs t z)) (ht : t ≠ 9) (hp : x ≠ pb) (htb : tb < x) (hw : ∀ (b : Nat) (o : Obj), b ≠ x → w.heap[b]? = some o → w'.heap[b]? = some o) : SP w' pb tb T k vars d := by
  obtain ⟨tw, lt, kt, nv, ⟨tt, ts, t1, t2⟩, cap, vv, h1, h2, h3, g1, g2⟩ := h
  refine ⟨tw, lt, kt, nv, ⟨tt.ext fun b ob hb ho => hw b ob (by omega) ho, ts, hw _ _ (by omega) t1, t2⟩, cap, vv, h1, h2, hw _ _ (fun e => hp e.symm) h3, g1, ?_⟩
  rcases g2 with g | ⟨g, cp, cur, e1, e2, e3, e4⟩
  · exact .inl g
  · refine .inr ⟨g, cp, cur, e1, e2, hw _ _ ?_ e3, e4⟩
    rintro rfl
    rw [e3] at hx
    injection hx with hx
    injection hx with _ hx
    exact ht hx.symm
theorem SP.grownRow {w w' : World} {pb tb base n : Nat} {T : List P.Tok} {k : Nat} {vars : List P.Bs} {d : Nat} {t : TypeId} {v : Value} {xs : List Value} (h : SP w pb tb T k vars d)
    (hown : w.ownsRow base t 1 v n xs) (ht : t ≠ 9) (hb : pb < base) (hg : w.grownBy w' v.ownBlock) : SP w' pb tb T k vars d := by
  have hlt := h.lt
  rcases hown.2 with ⟨rfl, _⟩ | ⟨g, cap, cur, rfl, hb', hg', _⟩
  · exact h.ext fun b o ho => by rw [hg.block b (ltOf ho) (by simp [Value.ownBlock])]; exact ho
  · exact h.other hg' ht (by omega) (by omega) fun b o hne ho => by rw [hg.block b (ltOf ho) (by simp only [Value.ownBlock]; intro e; injection e with e; exact hne e)]; exact ho
theorem FrM.grownNew {M : Nat → Obj → Prop} {a b c : World} {row : Option Nat} (h : FrM M a b) (hg : b.grownBy c row) (hr : ∀ k, row = some k → a.heap.size ≤ k) : FrM M a c :=
  ⟨hg.os.trans h.os, hg.tape.trans h.tape, hg.output.trans h.output, Nat.le_trans h.size hg.size, fun i o hi hm => by
    have h1 := h.block i o hi hm
    rw [hg.block i (ltOf h1) (fun e => by have := hr i e.symm; have := ltOf hi; omega)]; exact h1⟩
theorem own_IsSl {F : Nat → Prop} {w : World} {base n : Nat} {t : TypeId} {v : Value} {xs : List Value} (h : w.ownsRow base t 1 v n xs) (hF : ∀ b, v.ownBlock = some b → F b) : IsSl F w t v xs := by
  obtain ⟨h1, ⟨rfl, h2⟩ | ⟨g, cap, cur, rfl, h2, h3, h4, h5, h6, h7⟩⟩ := h
  · exact .inl ⟨List.length_eq_zero_iff.1 (by omega), rfl⟩
  · have e1 : xs.length = n := by omega
    have e2 : cur.size = cap := by omega
    subst e1
    subst e2
    exact .inr ⟨g, cur, rfl, hF g rfl, h3, h4, by simpa using h7⟩
theorem IsExs.snoc {F : Nat → Prop} {w : World} {v : Value} {x : P.Ex} (hv : IsEx F w v x) : ∀ {l : List P.Ex} {vs : List Value}, IsExs F w vs l → IsExs F w (vs ++ [v]) (l ++ [x])
  | [], vs, h => by
    unfold IsExs at h
    subst h
    simp only [List.nil_append]
    unfold IsExs
    exact ⟨v, [], rfl, hv, by unfold IsExs; rfl⟩
  | y :: l, vs, h => by
    unfold IsExs at h
    obtain ⟨u, r, rfl, h1, h2⟩ := h
    simp only [List.cons_append]
    unfold IsExs
    exact ⟨u, r ++ [v], rfl, h1, IsExs.snoc hv h2⟩
theorem sInfoEx : (Tryz.prog.info? 124).map (fun i => (i.zero, i.size, i.bytes)) = some (some (.pointer none), 1, 8) := by kernel_rfl
theorem cellKeepC {w w' : World} {a : Addr} {v : Value} (h : w.cell? a = some v) (hw : ∀ cs t z, w.heap[a.block]? = some (.cells cs t z) → w'.heap[a.block]? = some (.cells cs t z)) : w'.cell? a = some v := by
  cases hb : w.heap[a.block]? with
  | none => simp [World.cell?, hb] at h
  | some o =>
    cases o with
    | cells cs t z => rw [World.cell?_of_block (w := w) (w' := w') (by rw [hw _ _ _ hb, hb])]; exact h
    | _ => simp [World.cell?, hb] at h
theorem SP.extC {w w' : World} {pb tb : Nat} {T : List P.Tok} {k : Nat} {vars : List P.Bs} {d : Nat} (h : SP w pb tb T k vars d)
    (hw : ∀ (b : Nat) (cs : Array Value) (t : TypeId) (z : Nat × Nat), w.heap[b]? = some (.cells cs t z) → w'.heap[b]? = some (.cells cs t z)) : SP w' pb tb T k vars d := by
  obtain ⟨tw, lt, kt, nv, toks, cap, vv, h1, h2, h3, g1, g2⟩ := h
  obtain ⟨ts, cs, t1, t2⟩ := toks
  refine ⟨tw, lt, kt, nv, ⟨⟨ts.lt, fun l hl => ?_⟩, cs, hw _ _ _ _ t1, t2⟩, cap, vv, h1, h2, hw _ _ _ _ h3, g1, ?_⟩
  · obtain ⟨b, o, c, e1, e2, e3⟩ := ts.lev l hl
    exact ⟨b, o, c, e1, cellKeepC e2 (hw _), fun j hj => cellKeepC (e3 j hj) (hw _)⟩
  · rcases g2 with g | ⟨g, cp, cur, e1, e2, e3, e4⟩
    · exact .inl g
    · exact .inr ⟨g, cp, cur, e1, e2, hw _ _ _ _ e3, e4⟩
theorem ast_cells {o : Obj} (h : astObj o) : ∃ cs t z, o = .cells cs t z := by
  cases o with
  | cells cs t z => exact ⟨cs, t, z, rfl⟩
  | _ => exact h.elim
theorem IsExs.blocks {F : Nat → Prop} {w : World} : ∀ {l : List P.Ex} {vs : List Value}, IsExs F w vs l → ∃ bl : List Nat, vs = bl.map (fun b => Value.pointer (some ⟨b, 0, none⟩)) ∧ bl.length = l.length
  | [], vs, h => by unfold IsExs at h; exact ⟨[], by rw [h]; rfl, rfl⟩
  | x :: l, vs, h => by
    unfold IsExs at h
    obtain ⟨u, r, rfl, h1, h2⟩ := h
    obtain ⟨bl, rfl, e⟩ := IsExs.blocks h2
    cases x with
    | mk kind name n k args =>
      unfold IsEx at h1
      obtain ⟨b, _, _, rfl, _⟩ := h1
      exact ⟨b :: bl, rfl, by simp [e]⟩
theorem IsExs.get {F : Nat → Prop} {w : World} : ∀ {l : List P.Ex} {bl : List Nat}, IsExs F w (bl.map (fun b => Value.pointer (some ⟨b, 0, none⟩))) l → ∀ i (hi : i < l.length), IsEx F w (.pointer (some ⟨bl.getD i 0, 0, none⟩)) l[i]
  | [], bl, h, i, hi => absurd hi (Nat.not_lt_zero _)
  | x :: l, bl, h, i, hi => by
    unfold IsExs at h
    obtain ⟨u, r, e, h1, h2⟩ := h
    cases bl with
    | nil => cases e
    | cons b bl =>
      simp only [List.map_cons, List.cons.injEq] at e
      obtain ⟨rfl, rfl⟩ := e
      cases i with
      | zero => exact h1
      | succ i => simpa using IsExs.get h2 i (by simpa using hi)
end Go.Proofs.YtkmpelgfhjgddaaGreatDoor
