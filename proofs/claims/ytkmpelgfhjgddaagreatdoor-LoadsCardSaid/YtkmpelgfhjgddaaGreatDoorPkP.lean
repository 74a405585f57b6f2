/- A part of one proof (SCon2, SRow, SCond, SBody); no conditions beyond what each theorem names. -/
import Derived.Test.YtkmpelgfhjgddaaGreatDoorPkO
import Derived.Test.YtkmpelgfhjgddaaGreatDoorPkA
set_option linter.all false
set_option linter.unusedVariables false
set_option linter.unusedSimpArgs false
namespace Go.Proofs.YtkmpelgfhjgddaaGreatDoor
open Go.RowKit
set_option linter.unusedVariables false
structure STabC (w : World) (B : Nat) : Prop where
  lt : 3 < B
  cell : ∀ j, j < 9 → w.cell? ⟨3, j, none⟩ = some (.string (bs (P.compares.getD j [])))
theorem STabC.ext {w w' : World} {B : Nat} (h : STabC w B) (hw : ∀ (b : Nat) (o : Obj), b < B → w.heap[b]? = some o → w'.heap[b]? = some o) : STabC w' B :=
  ⟨h.lt, fun j hj => cellKeep (h.cell j hj) fun x hx => hw _ x h.lt hx⟩
theorem STabC.fr {pb tb : Nat} {w w' : World} (hs : STabC w tb) (h : SFr pb w w') (hl : tb < pb) : STabC w' tb :=
  hs.ext fun b o hb ho => h.block _ _ ho (by rintro (h | ⟨h, _⟩) <;> omega)
structure CLit (f : Nat) : Prop where
  go : ∀ {pb tb : Nat} {T : List P.Tok} {k : Nat} {vars : List P.Bs} {d : Nat} {w : World} {r : P.Res P.Bd}, SP w pb tb T k vars d → STabC w tb → d ≤ 8 →
    P.pLit T f k vars d = some r → Calls Tryz.prog 98 #[.pointer (some ⟨pb, 0, none⟩)] w (SPost IsBd pb tb T d w r)
structure CRow (f : Nat) : Prop where
  go : ∀ {pb tb : Nat} {T : List P.Tok} {k : Nat} {vars : List P.Bs} {d : Nat} {w : World} {r : P.Res P.Bd}, SP w pb tb T k vars d → STabC w tb → d ≤ 8 →
    P.pRow T f k vars d = some r → Calls Tryz.prog 97 #[.pointer (some ⟨pb, 0, none⟩), .int .u8 44, .string (bs [44]), .func (.func 98) #[.pointer (some ⟨pb, 0, none⟩)] #[]] w (SPost IsBd pb tb T d w r)
structure CBody (f : Nat) : Prop where
  go : ∀ {pb tb : Nat} {T : List P.Tok} {k : Nat} {vars : List P.Bs} {d : Nat} {w : World} {r : P.Res P.Bd}, SP w pb tb T k vars d → STabC w tb → d ≤ 8 →
    P.pBody T f k vars d = some r → Calls Tryz.prog 56 #[.pointer (some ⟨pb, 0, none⟩)] w (SPost IsBd pb tb T d w r)
theorem IsBd.shape {F : Nat → Prop} {w : World} {v : Value} {x : P.Bd} (h : IsBd F w v x) : ∃ b, v = .pointer (some ⟨b, 0, none⟩) ∧ F b := by
  cases x with
  | mk kind name args parts =>
    unfold IsBd at h
    obtain ⟨b, _, _, _, _, h1, h2, _⟩ := h
    exact ⟨b, h1, h2⟩
theorem IsBds.snoc {F : Nat → Prop} {w : World} {v : Value} {x : P.Bd} (hv : IsBd F w v x) : ∀ {l : List P.Bd} {vs : List Value}, IsBds F w vs l → IsBds F w (vs ++ [v]) (l ++ [x])
  | [], vs, h => by
    unfold IsBds at h
    subst h
    simp only [List.nil_append]
    unfold IsBds
    exact ⟨v, [], rfl, hv, by unfold IsBds; rfl⟩
  | y :: l, vs, h => by
    unfold IsBds at h
    obtain ⟨u, r, rfl, h1, h2⟩ := h
    simp only [List.cons_append]
    unfold IsBds
    exact ⟨u, r ++ [v], rfl, h1, IsBds.snoc hv h2⟩
theorem IsBds.length {F : Nat → Prop} {w : World} : ∀ {l : List P.Bd} {vs : List Value}, IsBds F w vs l → vs.length = l.length
  | [], vs, h => by unfold IsBds at h; rw [h]; rfl
  | x :: xs, vs, h => by
    unfold IsBds at h
    obtain ⟨v, r, rfl, _, h3⟩ := h
    simp [IsBds.length h3]
theorem IsSlBd.shape {F : Nat → Prop} {w : World} {v : Value} {l : List P.Bd} (h : IsSlBd F w v l) : ∃ a n c, v = .slice a n c ∧ n = l.length ∧ n ≤ c := by
  obtain ⟨vs, h1, h2⟩ := h
  obtain ⟨a, n, c, rfl, e, h3, _⟩ := h1.shape
  exact ⟨a, n, c, rfl, by rw [e, h2.length], h3⟩
theorem isSlEx_nil {F : Nat → Prop} {w : World} : IsSlEx F w (.slice none 0 0) [] := ⟨[], .inl ⟨rfl, rfl⟩, by unfold IsExs; rfl⟩
theorem isSlBd_nil {F : Nat → Prop} {w : World} : IsSlBd F w (.slice none 0 0) [] := ⟨[], .inl ⟨rfl, rfl⟩, by unfold IsBds; rfl⟩
theorem isSlBd_one {F : Nat → Prop} {w : World} {b : Nat} {u : Value} {x : P.Bd} (hF : F b) (h : w.heap[b]? = some (.cells #[u] 102 (0, 0))) (hx : IsBd F w u x) :
    IsSlBd F w (.slice (some ⟨b, 0, none⟩) 1 1) [x] := by
  refine ⟨[u], .inr ⟨b, #[u], rfl, hF, h, Nat.le_refl _, rfl⟩, ?_⟩
  unfold IsBds
  exact ⟨u, [], rfl, hx, by unfold IsBds; rfl⟩
theorem isSlBd_two {F : Nat → Prop} {w : World} {b : Nat} {u v : Value} {x y : P.Bd} (hF : F b) (h : w.heap[b]? = some (.cells #[u, v] 102 (0, 0))) (hx : IsBd F w u x) (hy : IsBd F w v y) :
    IsSlBd F w (.slice (some ⟨b, 0, none⟩) 2 2) [x, y] := by
  refine ⟨[u, v], .inr ⟨b, #[u, v], rfl, hF, h, Nat.le_refl _, rfl⟩, ?_⟩
  unfold IsBds
  refine ⟨u, [v], rfl, hx, ?_⟩
  unfold IsBds
  exact ⟨v, [], rfl, hy, by unfold IsBds; rfl⟩
theorem isBd_node {F : Nat → Prop} {w : World} {b : Nat} {kind : Nat} {name : P.Bs} {av pv : Value} {args : List P.Ex} {parts : List P.Bd} (hF : F b)
    (h : w.heap[b]? = some (.cells #[.int .u8 kind, .string (bs name), av, pv] 145 (0, 0))) (ha : IsSlEx F w av args) (hp : IsSlBd F w pv parts) :
    IsBd F w (.pointer (some ⟨b, 0, none⟩)) (.mk kind name args parts) := by
  obtain ⟨vs, h1, h2⟩ := ha
  obtain ⟨us, h3, h4⟩ := hp
  unfold IsBd
  exact ⟨b, _, _, vs, us, rfl, hF, h, h1, h2, h3, h4⟩
theorem IsSlBd.mono {F F' : Nat → Prop} {w w' : World} {v : Value} {l : List P.Bd} (hf : ∀ b, F b → F' b) (hw : ∀ b o, F b → astObj o → w.heap[b]? = some o → w'.heap[b]? = some o)
    (h : IsSlBd F w v l) : IsSlBd F' w' v l := by
  obtain ⟨vs, h1, h2⟩ := h
  exact ⟨vs, h1.mono hf fun b cs hb hc => hw b _ hb ⟨.inr (.inr (.inr rfl)), rfl⟩ hc, IsBds.mono hf hw l vs h2⟩
theorem sInfoBd : (Tryz.prog.info? 102).map (fun i => (i.zero, i.size, i.bytes)) = some (some (.pointer none), 1, 8) := by kernel_rfl
end Go.Proofs.YtkmpelgfhjgddaaGreatDoor
namespace Go.Proofs.YtkmpelgfhjgddaaGreatDoor
open Go.RowKit
set_option linter.unusedVariables false
abbrev litF (pb : Nat) : Value := .func (.func 98) #[.pointer (some ⟨pb, 0, none⟩)] #[]
def RJ (pb tb : Nat) (T : List P.Tok) (d : Nat) (w0 : World) (re : P.Res (List P.Bd)) (n : Nat) (a : Act) (w : World) : Prop :=
  ∃ (acc : List P.Bd) (k : Nat) (vs : List P.Bs) (xs : List Value) (sl u4 u5 u6 u7 u8 u10 u11 u12 u13 u14 u15 u16 u17 u18 u19 u20 u21 u22 u23 u24 u25 u26 u27 u28 u29 u30 : Value), a = { tmps := #[.pointer (some ⟨pb, 0, none⟩), .int .u8 44, .string (bs [44]), litF pb, u4, u5, u6, u7, u8, sl, u10, u11, u12, u13, u14, u15, u16, u17, u18, u19, u20, u21, u22, u23, u24, u25, u26, u27, u28, u29, u30], defers := [] } ∧
    w.ownsRow w0.heap.size 102 1 sl acc.length xs ∧ IsBds (fun b => Nu w0 w b ∧ sl.ownBlock ≠ some b) w xs acc ∧ SP w pb tb T k vs d ∧ SFr pb w0 w ∧ 0 < acc.length ∧ acc.length ≤ k ∧
    (if P.isT T k [44] then P.pLits T n (k + 1) vs d acc else some (.ok acc k vs)) = some re
set_option maxRecDepth 100000 in
set_option maxHeartbeats 8000000 in
theorem sRow {f : Nat} (hlit : ∀ m, m < f → CLit m) {pb tb : Nat} {T : List P.Tok} {k : Nat} {vars : List P.Bs} {d : Nat} {w0 : World} {r : P.Res P.Bd} (hp0 : SP w0 pb tb T k vars d) (hc0 : STabC w0 tb) (hd : d ≤ 8)
    (h : P.pRow T (f + 1) k vars d = some r) : Calls Tryz.prog 97 #[.pointer (some ⟨pb, 0, none⟩), .int .u8 44, .string (bs [44]), litF pb] w0 (SPost IsBd pb tb T d w0 r) := by
  rw [P.pRow] at h
  cases hre : P.pLits T f k vars d [] with
  | none => rw [hre] at h; simp [P.Res.bind] at h
  | some re =>
  rw [hre] at h
  cases f with
  | zero => simp [P.pLits] at hre
  | succ f =>
  rw [P.pLits] at hre
  have HP0 := Lib.hid hp0
  have HC0 := Lib.hid hc0
  have HR := Lib.hid h
  have HRE := Lib.hid hre
  have hpb0 := hp0.d2.2.2
  have htp := hp0.lt
  have hT := hp0.tw.len
  obtain ⟨i0, hi, iz0, iz1, iz2⟩ := info_parts sInfoBd
  clear hp0 h hre hc0
  go_enter Tryz.func97, Tryz.ntmps97
  go_wp2_with fail
  cases hq : P.pLit T f k vars d with
  | none => have e := HRE.out; rw [hq] at e; simp [P.Res.bind] at e
  | some q =>
  have e := HRE.out
  rw [hq] at e
  refine ((hlit f (by omega)).go HP0.out HC0.out hd hq).mono ?_
  cases q with
  | err c0 a0 =>
    rintro e2 w4 ⟨⟨b, rfl, hb3, hl3⟩, hf3, hs3⟩
    simp only [P.Res.bind, Option.some.injEq] at e
    subst e
    have hr := HR.out
    simp only [P.Res.bind, Option.some.injEq] at hr
    subst hr
    exact ⟨rfl, ⟨b, rfl, hb3, hl3⟩, hf3, hs3⟩
  | ok x k' vs' =>
  rintro e2 w1 ⟨v, rfl, hv, hp2, hf2⟩
  simp only [P.Res.bind] at e
  obtain ⟨bx, rfl, hbx⟩ := hv.shape
  have hkk := (P.monoB T f).lit _ _ _ _ _ _ hq
  have hz1 := hf2.size
  have hrow : (w1.alloc (.cells #[.pointer (some ⟨bx, 0, none⟩)] 102)).ownsRow w0.heap.size 102 1 (.slice (some ⟨w1.heap.size, 0, none⟩) 1 1) 1 [.pointer (some ⟨bx, 0, none⟩)] :=
    ⟨rfl, .inr ⟨w1.heap.size, 1, _, rfl, by omega, blk_alloc_new _ _, Nat.le_refl _, by decide, rfl, rfl⟩⟩
  have hx1 : IsBds (fun b => Nu w0 (w1.alloc (.cells #[.pointer (some ⟨bx, 0, none⟩)] 102)) b ∧ (Value.slice (some ⟨w1.heap.size, 0, none⟩) 1 1).ownBlock ≠ some b) (w1.alloc (.cells #[.pointer (some ⟨bx, 0, none⟩)] 102)) [.pointer (some ⟨bx, 0, none⟩)] [x] := by
    have := IsBds.snoc (l := []) (vs := []) (F := fun b => Nu w0 (w1.alloc (.cells #[.pointer (some ⟨bx, 0, none⟩)] 102)) b ∧ (Value.slice (some ⟨w1.heap.size, 0, none⟩) 1 1).ownBlock ≠ some b) (w := w1.alloc (.cells #[.pointer (some ⟨bx, 0, none⟩)] 102)) (v := .pointer (some ⟨bx, 0, none⟩)) (x := x)
      (IsBd.mono (fun b hb => ⟨⟨hb.1, by have := hb.2; rw [size_alloc]; omega⟩, fun e => by injection e with e; have := hb.2; simp only at e; omega⟩) (fun b o _ _ ho => blk_alloc_old ho) _ _ hv) (by unfold IsBds; rfl)
    simpa using this
  have HROW := Lib.hid hrow
  have HX1 := Lib.hid hx1
  have HP2 := Lib.hid (hp2.ext (w' := w1.alloc (.cells #[.pointer (some ⟨bx, 0, none⟩)] 102)) fun b o h => blk_alloc_old h)
  have HF2 : Hid (SFr pb w0 (w1.alloc (.cells #[.pointer (some ⟨bx, 0, none⟩)] 102))) := Lib.hid (hf2.alloc _)
  have HE := Lib.hid e
  have HK := Lib.hid hkk
  clear hv hp2 hf2 hrow hx1 e hq hbx HRE hkk
  go_wp2_with fail
  refine wp_loop_ghost (fun n a w => n ≤ f ∧ RJ pb tb T d w0 re n a w) ⟨f, Nat.le_refl _, [x], k', vs', _, _, _, _, _, _, _, _, _, _, _, _, _, _, _, _, _, _, _, _, _, _, _, _, _, _, _, _, rfl, HROW.out, HX1.out, HP2.out, HF2.out, Nat.zero_lt_one, by have := HK.out; simp; omega, by simpa using HE.out⟩ ?_
  clear HROW HX1 HP2 HF2 HK HE hz1
  rintro n a w ⟨hnf, acc, k2, vs, xs, sl, u4, u5, u6, u7, u8, u10, u11, u12, u13, u14, u15, u16, u17, u18, u19, u20, u21, u22, u23, u24, u25, u26, u27, u28, u29, u30, rfl, hown, hxs, hp, hf, h0a, hak, hr⟩
  have hkt := hp.kt
  have hz := hf.size
  have hpw := hp.d2.2.2
  obtain ⟨g', cap', rfl⟩ : ∃ g cap, sl = .slice (some ⟨g, 0, none⟩) acc.length cap := by
    obtain ⟨g1, g2 | ⟨g, cp, cur, e1, e2, e3, e4⟩⟩ := hown
    · omega
    · exact ⟨g, cp, e1⟩
  have HO := Lib.hid hown
  have HX := Lib.hid hxs
  have HP := Lib.hid hp
  have HF := Lib.hid hf
  by_cases hc : P.isT T k2 [44] = true
  · rw [if_pos hc] at hr
    cases n with
    | zero => simp [P.pLits] at hr
    | succ n =>
    rw [P.pLits] at hr
    have HRR := Lib.hid hr
    clear hown hxs hp hf hr
    go_wp2_with fail
    refine (sIs_yes HP.out [44] hc).mono ?_
    rintro e w2 ⟨rfl, hp2, hf2⟩
    have HP2 := Lib.hid hp2
    have HF2 := Lib.hid hf2
    clear hp2 hf2 hc
    go_wp2_with fail
    cases hq : P.pLit T n (k2 + 1) vs d with
    | none => have e := HRR.out; rw [hq] at e; simp [P.Res.bind] at e
    | some q =>
    have e := HRR.out
    rw [hq] at e
    refine ((hlit n (by omega)).go HP2.out (HC0.out.fr (HF.out.trans HF2.out) htp) hd hq).mono ?_
    cases q with
    | err c0 a0 =>
      rintro e2 w4 ⟨⟨b, rfl, hb3, hl3⟩, hf3, hs3⟩
      simp only [P.Res.bind, Option.some.injEq] at e
      subst e
      have hr := HR.out
      simp only [P.Res.bind, Option.some.injEq] at hr
      subst hr
      have := HF2.out.size
      exact ⟨rfl, ⟨b, rfl, hb3, by omega⟩, (HF.out.trans HF2.out).trans hf3, hs3⟩
    | ok x k' vs' =>
    rintro e2 w3 ⟨v, rfl, hv, hp3, hf3⟩
    simp only [P.Res.bind] at e
    obtain ⟨bx, rfl, hbx⟩ := hv.shape
    have hkk := (P.monoB T n).lit _ _ _ _ _ _ hq
    have hz2 := HF2.out.size
    have hz3 := hf3.size
    have hk1 := hp3.kt
    have hpw2 := HP2.out.d2.2.2
    have hw3 := hp3.d2.2.2
    have hown1 : w3.ownsRow w0.heap.size 102 1 (.slice (some ⟨g', 0, none⟩) acc.length cap') acc.length xs := by
      obtain ⟨g1, g2 | ⟨g, cp, cur, e1, e2, e3, e4⟩⟩ := HO.out
      · exact ⟨g1, .inl g2⟩
      · exact ⟨g1, .inr ⟨g, cp, cur, e1, e2, SFr.ast hf3 ⟨.inr (.inr (.inr rfl)), rfl⟩ (SFr.ast HF2.out ⟨.inr (.inr (.inr rfl)), rfl⟩ e3 (by omega)) (by omega), e4⟩⟩
    have hxs1 : IsBds (fun b => Nu w0 w3 b ∧ (Value.slice (some ⟨g', 0, none⟩) acc.length cap').ownBlock ≠ some b) w3 xs acc :=
      IsBds.mono (fun b hb => ⟨⟨hb.1.1, by have := hb.1.2; omega⟩, hb.2⟩) (fun b o hb ha ho => SFr.ast hf3 ha (SFr.ast HF2.out ha ho (by have := hb.1.1; omega)) (by have := hb.1.1; omega)) _ _ HX.out
    have HO1 := Lib.hid hown1
    have HX1 := Lib.hid hxs1
    have HV := Lib.hid hv
    have HP1 := Lib.hid hp3
    have HF1 := Lib.hid ((HF.out.trans HF2.out).trans hf3)
    have HE := Lib.hid e
    have HBX := Lib.hid hbx
    have HK := Lib.hid hkk
    clear hv hp3 hf3 hown1 hxs1 e hq hbx hkk
    go_wp2_with (at_builtin; go_must (refine wpList_append_own2 rfl _ _ 143 rfl w0.heap.size 102 i0 _ 1 8 Tryz.underlying143 hi iz0 iz1 iz2 rfl (by decide) _ _ _ rfl (HO1.out.alloc _) ⟨w3.heap.size, 0, none⟩ 1 1 [.pointer (some ⟨bx, 0, none⟩)] rfl rfl (one_new rfl) (by simp [Value.oneCell']) (by unfold maxLen; omega) (by omega) (by simp; omega) ?_; intro v' w4 hown2 hgrow2 hfr2; obtain ⟨g2, cap2, rfl⟩ := own_succ hown2; have HO2 := Lib.hid hown2; have HG2 := Lib.hid hgrow2; have HFR2 := Lib.hid hfr2; clear hown2 hgrow2 hfr2))
    have hp4 : SP w4 pb tb T k' vs' d := (HP1.out.ext fun b o h => blk_alloc_old (o := Obj.cells #[Value.pointer (some ⟨bx, 0, none⟩)] 102) h).grownRow (HO1.out.alloc _) (by decide) (by omega) HG2.out
    have hf4 : SFr pb w0 w4 := (HF1.out.alloc _).grownNew HG2.out fun k hk => (HO1.out.lt k hk).1
    have hg4 := HG2.out.size
    rw [size_alloc] at hg4
    have hkeep : ∀ (b : Nat) (o : Obj), w3.heap[b]? = some o → (Value.slice (some ⟨g', 0, none⟩) acc.length cap').ownBlock ≠ some b → w4.heap[b]? = some o := fun b o h hne => by
      have h' := blk_alloc_old (o := Obj.cells #[Value.pointer (some ⟨bx, 0, none⟩)] 102) h
      rw [HG2.out.block b (ltOf h') (fun e => hne e.symm)]; exact h'
    have hnb : ∀ b, b < w3.heap.size → (Value.slice (some ⟨g', 0, none⟩) acc.length cap').ownBlock ≠ some b → (Value.slice (some ⟨g2, 0, none⟩) (acc.length + 1) cap2).ownBlock ≠ some b := fun b hb hne => by
      rcases HFR2.out with h | h
      · rw [h]; exact hne
      · intro e
        have := h b e
        rw [size_alloc] at this
        omega
    have hbn : ∀ b, Nu w2 w3 b → (Value.slice (some ⟨g', 0, none⟩) acc.length cap').ownBlock ≠ some b := fun b hb e => by
      have := (HO.out.lt b e).2
      have := hb.1
      omega
    have hxs4 : IsBds (fun b => Nu w0 w4 b ∧ (Value.slice (some ⟨g2, 0, none⟩) (acc.length + 1) cap2).ownBlock ≠ some b) w4 (xs ++ [.pointer (some ⟨bx, 0, none⟩)]) (acc ++ [x]) :=
      IsBds.snoc (IsBd.mono (fun b hb => ⟨⟨by have := hb.1; omega, by have := hb.2; omega⟩, hnb b hb.2 (hbn b hb)⟩) (fun b o hb _ ho => hkeep b o ho (hbn b hb)) _ _ HV.out)
        (IsBds.mono (fun b hb => ⟨⟨hb.1.1, by have := hb.1.2; omega⟩, hnb b hb.1.2 hb.2⟩) (fun b o hb _ ho => hkeep b o ho hb.2) _ _ HX1.out)
    have hkk := HK.out
    exact ⟨n, Nat.lt_succ_self n, by omega, acc ++ [x], k', vs', _, _, _, _, _, _, _, _, _, _, _, _, _, _, _, _, _, _, _, _, _, _, _, _, _, _, _, _, rfl, by rw [List.length_append]; exact HO2.out, hxs4, hp4, hf4, by simp, by simp; omega, HE.out⟩
  · rw [if_neg hc, Option.some.injEq] at hr
    subst hr
    clear hown hxs hp hf
    have hr := HR.out
    simp only [P.Res.bind, Option.some.injEq] at hr
    subst hr
    clear HR
    have hgl := (HO.out.lt g' rfl)
    have hsl := own_IsSl HO.out (F := Nu w0 w) (fun b hb => ⟨(HO.out.lt b hb).1, (HO.out.lt b hb).2⟩)
    have hxn : IsBds (Nu w0 w) w xs acc := IsBds.mono (fun b hb => hb.1) (fun _ _ _ _ h => h) _ _ HX.out
    have HSL := Lib.hid hsl
    have HXN := Lib.hid hxn
    clear hsl hxn
    by_cases h1 : acc.length = 1
    · obtain ⟨b1, rfl⟩ : ∃ b1, acc = [b1] := List.length_eq_one_iff.1 h1
      have hxv := HXN.out
      unfold IsBds at hxv
      obtain ⟨v1, r1, e1, hv1, hr1⟩ := hxv
      unfold IsBds at hr1
      subst hr1
      subst e1
      have hcell : w.cell? ⟨g', 0, none⟩ = some v1 := by
        obtain ⟨g1, g2 | ⟨g, cp, cur, e1, e2, e3, e4, e5, e6, e7⟩⟩ := HO.out
        · cases g2.1
        · injection e1 with e1 _ _
          injection e1 with e1
          injection e1 with e1 _ _
          subst e1
          refine cellOf e3 ?_
          have h1 : (cur.toList.take 1)[0]? = some v1 := by rw [show cur.toList.take 1 = [v1] from e7]; rfl
          rw [List.getElem?_take, if_pos (by omega), Array.getElem?_toList] at h1
          exact h1
      have HV1 := Lib.hid hv1
      have hgw := hgl.2
      clear hv1 h1
      go_wp2_with fail
      refine (sIs_no HP.out [44] (by simpa using hc) (by decide)).mono ?_
      rintro e w2 ⟨rfl, rfl⟩
      clear hc
      go_wp2_with fail
      go_ret
      exact ⟨_, rfl, HV1.out, HP.out, HF.out⟩
    · have hl1 : ((acc.length : Int) == 1) = false := by simp; omega
      have hl2 : ¬ (acc.length : Int) = 1 := by omega
      go_wp2_with fail
      refine (sIs_no HP.out [44] (by simpa using hc) (by decide)).mono ?_
      rintro e w2 ⟨rfl, rfl⟩
      clear hc
      go_wp2_with fail
      go_ret
      refine ⟨_, rfl, ?_, HP.out.ext fun b o h => blk_alloc_old h, HF.out.alloc _⟩
      have key := (show IsBd (Nu w0 (w.alloc (.cells #[.int .u8 44, .string (bs []), .slice none 0 0, .slice (some ⟨g', 0, none⟩) acc.length cap'] 145))) (w.alloc (.cells #[.int .u8 44, .string (bs []), .slice none 0 0, .slice (some ⟨g', 0, none⟩) acc.length cap'] 145)) (.pointer (some ⟨w.heap.size, 0, none⟩)) (.mk 44 [] [] acc) from isBd_node ⟨hz, by rw [size_alloc]; omega⟩ (blk_alloc_new _ _) isSlEx_nil (IsSlBd.mono (fun b hb => ⟨hb.1, by rw [size_alloc]; have := hb.2; omega⟩) (fun b o _ _ ho => blk_alloc_old ho) ⟨xs, HSL.out, HXN.out⟩))
      rcases acc with _ | ⟨x1, _ | ⟨x2, l⟩⟩
      · exact key
      · exact absurd rfl h1
      · exact key
theorem cRow0 : CRow 0 := ⟨fun _ _ _ h => by simp [P.pRow] at h⟩
theorem cRow {f : Nat} (hlit : ∀ m, m < f → CLit m) : CRow f := by
  cases f with
  | zero => exact cRow0
  | succ f => exact ⟨fun hp hc hd h => sRow (fun m hm => hlit m (by omega)) hp hc hd h⟩
end Go.Proofs.YtkmpelgfhjgddaaGreatDoor
namespace Go.Proofs.YtkmpelgfhjgddaaGreatDoor
open Go.RowKit
set_option linter.unusedVariables false
def P.pCond (T : List P.Tok) (f k : Nat) (vars : List P.Bs) (d : Nat) : Option (P.Res P.Bd) :=
  P.Res.bind (P.pRow T f k vars d) fun a k1 v1 =>
    if P.isT T k1 [45, 62] then P.Res.bind (P.pRow T f (k1 + 1) v1 d) fun b k2 v2 => some (.ok (.mk 63 [] [] [a, b]) k2 v2) else some (.ok a k1 v1)
def IsCd (F : Nat → Prop) (w : World) (v : Value) (x : P.Bd) : Prop :=
  (P.whole x ∧ IsBd F w v x) ∨
  ∃ (a b : P.Bd) (n g : Nat) (va vb : Value), x = .mk 63 [] [] [a, b] ∧ v = .pointer (some ⟨n, 0, none⟩) ∧ F n ∧ F g ∧ n ≠ g ∧
    w.heap[n]? = some (.cells #[.int .u8 63, .string (bs []), .slice none 0 0, .slice (some ⟨g, 0, none⟩) 2 2] 145 (0, 0)) ∧ w.heap[g]? = some (.cells #[va, vb] 102 (0, 0)) ∧
    IsBd (fun m => F m ∧ m ≠ n ∧ m ≠ g) w va a ∧ IsBd (fun m => F m ∧ m ≠ n ∧ m ≠ g) w vb b
set_option maxRecDepth 100000 in
set_option maxHeartbeats 4000000 in
theorem sCond {f : Nat} (hrow : CRow f) {pb tb : Nat} {T : List P.Tok} {k : Nat} {vars : List P.Bs} {d : Nat} {w0 : World} {r : P.Res P.Bd} (hp0 : SP w0 pb tb T k vars d) (hc0 : STabC w0 tb) (hd : d ≤ 8)
    (h : P.pCond T f k vars d = some r) : Calls Tryz.prog 78 #[.pointer (some ⟨pb, 0, none⟩)] w0 (SPost IsCd pb tb T d w0 r) := by
  unfold P.pCond at h
  have HP0 := Lib.hid hp0
  have HC0 := Lib.hid hc0
  have HR := Lib.hid h
  have hpb0 := hp0.d2.2.2
  have htp := hp0.lt
  clear hp0 h hc0
  go_enter Tryz.func78, Tryz.ntmps78
  go_wp2_with fail
  cases hq : P.pRow T f k vars d with
  | none => have e := HR.out; rw [hq] at e; simp [P.Res.bind] at e
  | some q =>
  have e := HR.out
  rw [hq] at e
  refine (hrow.go HP0.out HC0.out hd hq).mono ?_
  cases q with
  | err c0 a0 =>
    rintro e2 w4 ⟨⟨b, rfl, hb3, hl3⟩, hf3, hs3⟩
    simp only [P.Res.bind, Option.some.injEq] at e
    subst e
    exact ⟨rfl, ⟨b, rfl, hb3, hl3⟩, hf3, hs3⟩
  | ok x k1 v1 =>
  rintro e2 w1 ⟨v, rfl, hv, hp1, hf1⟩
  simp only [P.Res.bind] at e
  obtain ⟨bx, rfl, hbx⟩ := hv.shape
  have hwh := (P.wholeB T f).row _ _ _ _ _ _ hq
  have hz1 := hf1.size
  have HV1 := Lib.hid hv
  have HP1 := Lib.hid hp1
  have HF1 := Lib.hid hf1
  have HBX := Lib.hid hbx
  have HWH := Lib.hid hwh
  have HE := Lib.hid e
  clear hv hp1 hf1 hbx hwh e hq HR
  by_cases hc : P.isT T k1 [45, 62] = true
  · go_wp2_with fail
    refine (sIs_yes HP1.out [45, 62] hc).mono ?_
    rintro e w2 ⟨rfl, hp2, hf2⟩
    have HP2 := Lib.hid hp2
    have HF2 := Lib.hid hf2
    have hz2 := hf2.size
    clear hp2 hf2
    go_wp2_with fail
    have e := HE.out
    rw [if_pos hc] at e
    cases hq : P.pRow T f (k1 + 1) v1 d with
    | none => rw [hq] at e; simp [P.Res.bind] at e
    | some q =>
    rw [hq] at e
    refine (hrow.go HP2.out (HC0.out.fr (HF1.out.trans HF2.out) htp) hd hq).mono ?_
    cases q with
    | err c0 a0 =>
      rintro e2 w4 ⟨⟨b, rfl, hb3, hl3⟩, hf3, hs3⟩
      simp only [P.Res.bind, Option.some.injEq] at e
      subst e
      exact ⟨rfl, ⟨b, rfl, hb3, by omega⟩, (HF1.out.trans HF2.out).trans hf3, hs3⟩
    | ok y k2 v2 =>
    rintro e2 w3 ⟨v, rfl, hv, hp3, hf3⟩
    simp only [P.Res.bind, Option.some.injEq] at e
    subst e
    obtain ⟨by', rfl, hby⟩ := hv.shape
    have hz3 := hf3.size
    have HV3 := Lib.hid hv
    have HP3 := Lib.hid hp3
    have HF3 := Lib.hid hf3
    have hw3 := hp3.d2.2.2
    have hpw1 := HP1.out.d2.2.2
    clear hv hp3 hf3 hby hq HE hc
    go_wp2_with fail
    go_ret
    have hst : ∀ o o', ((w3.alloc o).alloc o').heap.size = w3.heap.size + 2 := fun o o' => by rw [size_alloc, size_alloc]
    refine ⟨_, rfl, .inr ⟨x, y, w3.heap.size + 1, w3.heap.size, _, _, rfl, rfl, ⟨by omega, by rw [hst]; omega⟩, ⟨by omega, by rw [hst]; omega⟩, by omega, blk_new1 (by rw [size_alloc]), blk_alloc_old (blk_alloc_new _ _), ?_, ?_⟩,
      HP3.out.ext fun b o h => blk_alloc_old (blk_alloc_old h), (((HF1.out.trans HF2.out).trans HF3.out).alloc _).alloc _⟩
    · exact IsBd.mono (fun b hb => ⟨⟨hb.1, by rw [hst]; have := hb.2; omega⟩, by have := hb.2; omega, by have := hb.2; omega⟩)
        (fun b o hb ha ho => blk_alloc_old (blk_alloc_old (SFr.ast HF3.out ha (SFr.ast HF2.out ha ho (by have := hb.1; omega)) (by have := hb.1; omega)))) _ _ HV1.out
    · exact IsBd.mono (fun b hb => ⟨⟨by have := hb.1; omega, by rw [hst]; have := hb.2; omega⟩, by have := hb.2; omega, by have := hb.2; omega⟩)
        (fun b o hb ha ho => blk_alloc_old (blk_alloc_old ho)) _ _ HV3.out
  · go_wp2_with fail
    refine (sIs_no HP1.out [45, 62] (by simpa using hc) (by decide)).mono ?_
    rintro e w2 ⟨rfl, rfl⟩
    go_wp2_with fail
    go_ret
    have e := HE.out
    rw [if_neg hc, Option.some.injEq] at e
    subst e
    exact ⟨_, rfl, .inl ⟨HWH.out, HV1.out⟩, HP1.out, HF1.out⟩
end Go.Proofs.YtkmpelgfhjgddaaGreatDoor
namespace Go.Proofs.YtkmpelgfhjgddaaGreatDoor
open Go.RowKit
set_option linter.unusedVariables false
def P.isArrow (x : P.Bd) : Prop := x.kind = 63 ∧ x.parts.length = 2
instance (x : P.Bd) : Decidable (P.isArrow x) := by unfold P.isArrow; infer_instance
def P.bTail (T : List P.Tok) (f k1 : Nat) (v1 : List P.Bs) (d : Nat) (x : P.Bd) : Option (P.Res P.Bd) :=
  if P.isArrow x then
    if P.isT T k1 [59] then P.Res.bind (P.pRest T f (k1 + 1) v1 d) fun c k3 v3 => some (.ok (.mk 63 [] [] (x.parts ++ [c])) k3 v3)
    else some (.ok (.mk 63 [] [] (x.parts ++ [P.failB])) k1 v1)
  else if P.isT T k1 [59] then P.Res.bind (P.pRest T f (k1 + 1) v1 d) fun b k2 v2 => some (.ok (.mk 59 [] [] [x, b]) k2 v2) else some (.ok x k1 v1)
theorem P.whole_not {x : P.Bd} (h : P.whole x) : ¬ P.isArrow x := by
  cases x with
  | mk kind name args parts =>
    rintro ⟨h1, h2⟩
    have := h h1
    simp only [P.Bd.parts] at h2
    omega
theorem P.pBody_cond (T : List P.Tok) (f k : Nat) (vars : List P.Bs) (d : Nat) :
    P.pBody T (f + 1) k vars d = P.Res.bind (P.pCond T f k vars d) fun x k1 v1 => P.bTail T f k1 v1 d x := by
  rw [P.pBody, P.pCond]
  cases hq : P.pRow T f k vars d with
  | none => rfl
  | some q =>
    cases q with
    | err c a => rfl
    | ok x k1 v1 =>
      have hw := P.whole_not ((P.wholeB T f).row _ _ _ _ _ _ hq)
      by_cases hc : P.isT T k1 [45, 62] = true
      · simp only [P.Res.bind, if_pos hc]
        cases hq2 : P.pRow T f (k1 + 1) v1 d with
        | none => rfl
        | some q =>
          cases q with
          | err c a => rfl
          | ok y k2 v2 =>
            have : P.isArrow (P.Bd.mk 63 [] [] [x, y]) := ⟨rfl, rfl⟩
            simp only [P.bTail, if_pos this]
            rfl
      · simp only [P.Res.bind, if_neg hc, P.bTail, if_neg hw]
theorem closeIf {pb n g g2 cap2 : Nat} {w0 W W2 : World} {va vb vc : Value} {a b c : P.Bd} (hn : Nu w0 W n) (hg : Nu w0 W g) (hng : n ≠ g) (hsz : w0.heap.size ≤ W.heap.size) (hpb : pb < w0.heap.size)
    (hn1 : W.heap[n]? = some (.cells #[.int .u8 63, .string (bs []), .slice none 0 0, .slice (some ⟨g, 0, none⟩) 2 2] 145 (0, 0)))
    (ha : IsBd (fun m => Nu w0 W m ∧ m ≠ n ∧ m ≠ g) W va a) (hb : IsBd (fun m => Nu w0 W m ∧ m ≠ n ∧ m ≠ g) W vb b) (hc : IsBd (fun m => Nu w0 W m ∧ m ≠ n ∧ m ≠ g) W vc c)
    (hown : W2.ownsRow w0.heap.size 102 1 (.slice (some ⟨g2, 0, none⟩) (2 + 1) cap2) (2 + 1) ([va, vb] ++ [vc])) (hgr : (W.alloc (.cells #[vc] 102)).grownBy W2 (Value.slice (some ⟨g, 0, none⟩) 2 2).ownBlock)
    (hfr : (Value.slice (some ⟨g2, 0, none⟩) (2 + 1) cap2).ownBlock = (Value.slice (some ⟨g, 0, none⟩) 2 2).ownBlock ∨ ∀ k, (Value.slice (some ⟨g2, 0, none⟩) (2 + 1) cap2).ownBlock = some k → (W.alloc (.cells #[vc] 102)).heap.size ≤ k) :
    (∃ cs : Array Value, W2.heap[n]? = some (.cells cs 145 (0, 0)) ∧ cs.size = 4) ∧ W.heap.size < W2.heap.size ∧ (∀ (m : Nat) (o : Obj), m ≠ n → m ≠ g → W.heap[m]? = some o → (W2.setCell ⟨n, 3, none⟩ (.slice (some ⟨g2, 0, none⟩) (2 + 1) cap2)).heap[m]? = some o) ∧
      IsBd (Nu w0 W2) (W2.setCell ⟨n, 3, none⟩ (.slice (some ⟨g2, 0, none⟩) (2 + 1) cap2)) (.pointer (some ⟨n, 0, none⟩)) (.mk 63 [] [] [a, b, c]) := by
  have hz := hgr.size
  rw [size_alloc] at hz
  have hkeep : ∀ (m : Nat) (o : Obj), m ≠ g → W.heap[m]? = some o → W2.heap[m]? = some o := fun m o h1 h2 => by
    have h' := blk_alloc_old (o := Obj.cells #[vc] 102) h2
    rw [hgr.block m (ltOf h') (fun e => h1 (by simp only [Value.ownBlock] at e; injection e))]; exact h'
  have hn2 := hkeep n _ hng hn1
  have hk2 : ∀ (m : Nat) (o : Obj), m ≠ n → W2.heap[m]? = some o → (W2.setCell ⟨n, 3, none⟩ (.slice (some ⟨g2, 0, none⟩) (2 + 1) cap2)).heap[m]? = some o := fun m o h1 h2 => by
    rw [blk_setCell_other (show m ≠ n from h1)]; exact h2
  have hg2n : g2 ≠ n := by
    rcases hfr with h | h
    · simp only [Value.ownBlock] at h
      injection h with h
      omega
    · have := h g2 rfl
      rw [size_alloc] at this
      have := hn.2
      omega
  refine ⟨⟨_, hn2, rfl⟩, by omega, fun m o h1 h2 h3 => hk2 m o h1 (hkeep m o h2 h3), ?_⟩
  have hsl : IsSl (fun m => Nu w0 W2 m ∧ m ≠ n) W2 102 (.slice (some ⟨g2, 0, none⟩) (2 + 1) cap2) ([va, vb] ++ [vc]) := own_IsSl hown fun m hm => ⟨hown.lt m hm, by simp only [Value.ownBlock] at hm; injection hm with hm; omega⟩
  have hst : ∀ {v : Value} {x : P.Bd}, IsBd (fun m => Nu w0 W m ∧ m ≠ n ∧ m ≠ g) W v x → IsBd (Nu w0 W2) (W2.setCell ⟨n, 3, none⟩ (.slice (some ⟨g2, 0, none⟩) (2 + 1) cap2)) v x := fun h =>
    IsBd.mono (fun m hm => ⟨hm.1.1, by have := hm.1.2; omega⟩) (fun m o hm _ ho => hk2 m o hm.2.1 (hkeep m o hm.2.2 ho)) _ _ h
  refine isBd_node ⟨hn.1, by have := hn.2; omega⟩ (by rw [blk_setCell_same hn2]; rfl) isSlEx_nil ⟨_, hsl.mono (fun m hm => hm.1) (fun m cs hm h => hk2 m _ hm.2 h), ?_⟩
  unfold IsBds
  refine ⟨va, [vb, vc], rfl, hst ha, ?_⟩
  unfold IsBds
  refine ⟨vb, [vc], rfl, hst hb, ?_⟩
  unfold IsBds
  exact ⟨vc, [], rfl, hst hc, by unfold IsBds; rfl⟩
end Go.Proofs.YtkmpelgfhjgddaaGreatDoor
