/- A part of one proof (SOper, SArgs); no conditions beyond what each theorem names. -/
import Derived.Test.YtkmpelgfhjgddaaGreatDoorPkRBA
set_option linter.all false
set_option linter.unusedVariables false
set_option linter.unusedSimpArgs false
namespace Go.Proofs.YtkmpelgfhjgddaaGreatDoor
open Go.RowKit
set_option linter.unusedVariables false
set_option maxHeartbeats 1000000 in
theorem sOper_prim {f : Nat} (hprim : CPrim f) {pb tb : Nat} {T : List P.Tok} {k : Nat} {vars : List P.Bs} {d : Nat} {w : World} {r : P.Res P.Ex} (hp : SP w pb tb T k vars d) (hd : d ≤ 8)
    (h : P.pPrim T f k vars d = some r) : Calls Tryz.prog 86 #[.pointer (some ⟨pb, 0, none⟩), .int .i64 2] w (SPost IsEx pb tb T d w r) := by
  have H := Lib.hid hp
  have HR := Lib.hid h
  clear hp h
  go_enter Tryz.func86, Tryz.ntmps86
  go_wp2_with fail
  refine wp_scope_straight ?_
  go_wp2_with fail
  refine (hprim.go H.out hd HR.out).mono ?_
  cases r with
  | err c0 a0 =>
    rintro e w4 ⟨⟨b, rfl, hb3, hl3⟩, hf3, hs3⟩
    exact ⟨rfl, ⟨b, rfl, hb3, hl3⟩, hf3, hs3⟩
  | ok x k' vs =>
    rintro e w4 ⟨v, rfl, hv, hp4, hf4⟩
    have HV := Lib.hid hv
    have HP4 := Lib.hid hp4
    have HF4 := Lib.hid hf4
    clear hv hp4 hf4
    go_wp2_with fail
    rw [Exit.noGoto_ret]
    go_ret
    exact ⟨v, rfl, HV.out, HP4.out, HF4.out⟩
theorem IsEx.shape {F : Nat → Prop} {w : World} {v : Value} {x : P.Ex} (h : IsEx F w v x) : ∃ b, v = .pointer (some ⟨b, 0, none⟩) ∧ F b := by
  cases x with
  | mk kind name n k args =>
    unfold IsEx at h
    obtain ⟨b, _, _, h1, h2, _⟩ := h
    exact ⟨b, h1, h2⟩
noncomputable def operX : Code := match findLabel (match Tryz.f86.body with | some (.seq _ (.scope c)) => c | _ => .skip) 0 with | some (.seq _ x) => x | _ => .skip
def OJ (pb tb : Nat) (T : List P.Tok) (lvl d : Nat) (w0 : World) (r : P.Res P.Ex) (n : Nat) (a : Act) (w : World) : Prop :=
  ∃ (x : P.Ex) (k : Nat) (vs : List P.Bs) (v u2 u3 u4 u6 u7 u8 u9 u10 u11 u12 u13 u14 u15 u16 u17 u18 u19 u20 u21 u22 u23 u24 u25 u26 u27 u28 u29 u30 u31 u32 u33 u34 u35 u36 u37 : Value), a = { tmps := #[.pointer (some ⟨pb, 0, none⟩), .int .i64 lvl, u2, u3, u4, v, u6, u7, u8, u9, u10, u11, u12, u13, u14, u15, u16, u17, u18, u19, u20, u21, u22, u23, u24, u25, u26, u27, u28, u29, u30, u31, u32, u33, u34, u35, u36, u37], defers := [] } ∧
    IsEx (Nu w0 w) w v x ∧ SP w pb tb T k vs d ∧ SFr pb w0 w ∧ P.pMore T n lvl x k vs d = some r
set_option maxRecDepth 100000 in
set_option maxHeartbeats 4000000 in
theorem sOper_key {f lvl : Nat} (hl : lvl < 2) (hop : ∀ m, m ≤ f → COper m) {pb tb : Nat} {T : List P.Tok} {d : Nat} {w0 : World} {r : P.Res P.Ex} (hd : d ≤ 8) (hpb0 : pb < w0.heap.size) (n : Nat) (hn : n ≤ f) (a : Act) (w : World) (hj : OJ pb tb T lvl d w0 r n a w) :
    operX.wp Tryz.prog (Exit.jump 0 (fun a' w' => ∃ m, m < n ∧ OJ pb tb T lvl d w0 r m a' w') (bodyPost Tryz.prog Tryz.f86 (SPost IsEx pb tb T d w0 r))) a w := by
  obtain ⟨x, k, vs, v, u2, u3, u4, u6, u7, u8, u9, u10, u11, u12, u13, u14, u15, u16, u17, u18, u19, u20, u21, u22, u23, u24, u25, u26, u27, u28, u29, u30, u31, u32, u33, u34, u35, u36, u37, rfl, hx, hp, hf, hr⟩ := hj
  obtain ⟨bx, rfl, hbx⟩ := hx.shape
  cases n with
  | zero => simp [P.pMore] at hr
  | succ n =>
  have hr2 := hr
  rw [P.pMore] at hr2
  obtain ⟨lb, lo, lc, hlb, g1, g2⟩ := hp.toks.1.lev lvl hl
  obtain ⟨L, hL⟩ : ∃ L, L = (P.ops lvl).length := ⟨_, rfl⟩
  rw [← hL] at g1 g2
  have hL3 : L ≤ 3 := by
    rw [hL]; unfold P.ops; split <;> simp
  have gl := hp.toks.1.lt
  have glt := hp.lt
  have gpb := hp.d2.2.2
  have HP := Lib.hid hp
  have HX := Lib.hid hx
  have HF := Lib.hid hf
  have HR := Lib.hid hr2
  have HG := Lib.hid g2
  have HL := Lib.hid hL
  have HBX := Lib.hid hbx
  have gsz : lb < w.heap.size := by omega
  have gsz2 : 2 < w.heap.size := by omega
  clear hp hx hf hr hr2 g2 hL hbx
  change Code.wp _ (Code.seq _ _) _ _ _
  have gidx : (lvl : Int) < 2 := by omega
  go_wp2_with fail
  go_loop [5, 20] (fun q i => ∃ j : Nat, j ≤ L ∧ i = .int .i64 j ∧ q = .pointer (some ⟨bx, 0, none⟩) ∧ ∀ j', j' < j → P.isT T k ((P.ops lvl).getD j' []) = false) (fun _ i => L - (intOf i).toNat)
  case atStart => exact ⟨0, Nat.zero_le _, rfl, rfl, fun j hj => absurd hj (Nat.not_lt_zero _)⟩
  case round =>
    obtain ⟨j, hj, rfl, rfl, hno⟩ := hrel
    have HNO := Lib.hid hno
    clear hno
    by_cases hlt : j < L
    · have hcell := HG.out j hlt
      obtain ⟨s, hs⟩ : ∃ s, s = (P.ops lvl).getD j [] := ⟨_, rfl⟩
      rw [← hs] at hcell
      have hsd : s.all P.digit = false := by
        have hL := HL.out
        rw [hs]
        have h2 : lvl = 0 ∨ lvl = 1 := by omega
        rcases h2 with rfl | rfl
        · have : j = 0 ∨ j = 1 := by simp [P.ops] at hL; omega
          rcases this with rfl | rfl <;> decide
        · have : j = 0 ∨ j = 1 ∨ j = 2 := by simp [P.ops] at hL; omega
          rcases this with rfl | rfl | rfl <;> decide
      have HS := Lib.hid hs
      have HSD := Lib.hid hsd
      clear hs hsd
      by_cases hc : P.isT T k s = true
      · have HC := Lib.hid hc
        clear hc
        go_wp2_with fail
        refine (sIs_yes HP.out s HC.out).mono ?_
        rintro e w1 ⟨rfl, hp1, hf1⟩
        have HP1 := Lib.hid hp1
        have HF1 := Lib.hid hf1
        clear hp1 hf1
        go_wp2_with fail
        have e := HR.out
        have hl := HL.out
        rw [P.opAt, P.find_some_of (j := j) (by omega) (by rw [← HS.out]; exact HC.out) HNO.out, ← HS.out] at e
        dsimp only at e
        have hsz1 := HF1.out.size
        cases hq : P.pOper T n (lvl + 1) (k + 1) vs d with
        | none => rw [hq] at e; simp [P.Res.bind] at e
        | some q =>
          rw [hq] at e
          refine ((hop n (by omega)).go (lvl + 1) (by omega) HP1.out hd hq).mono ?_
          cases q with
          | err c0 a0 =>
            rintro e2 w4 ⟨⟨b, rfl, hb3, hl3⟩, hf3, hs3⟩
            simp only [P.Res.bind, Option.some.injEq] at e
            subst e
            have hsz0 := HF.out.size
            exact ⟨rfl, ⟨b, rfl, hb3, by omega⟩, (HF.out.trans HF1.out).trans hf3, hs3⟩
          | ok y k' vs' =>
            rintro e2 w4 ⟨v, rfl, hv, hp4, hf4⟩
            obtain ⟨bY, rfl, hbY⟩ := hv.shape
            have HV := Lib.hid hv
            have HP4 := Lib.hid hp4
            have HF4 := Lib.hid hf4
            have HE := Lib.hid e
            have HBY := Lib.hid hbY
            clear hv hp4 hf4 e hbY hl hq
            go_wp2_with fail
            refine wp_goto ?_
            have hz1 := HF1.out.size
            have hz4 := HF4.out.size
            have hbx := HBX.out
            have hf14 := HF1.out.trans HF4.out
            have hxx : IsEx (Nu w0 (((w4.alloc (Obj.cells #[.pointer (some ⟨bx, 0, none⟩), .pointer (some ⟨bY, 0, none⟩)] 124)).alloc (Obj.cells #[.int .u8 99, .string (bs s), .int .i64 0, .int .i64 0, .slice (some ⟨w4.heap.size, 0, none⟩) 2 2] 177)))) (((w4.alloc (Obj.cells #[.pointer (some ⟨bx, 0, none⟩), .pointer (some ⟨bY, 0, none⟩)] 124)).alloc (Obj.cells #[.int .u8 99, .string (bs s), .int .i64 0, .int .i64 0, .slice (some ⟨w4.heap.size, 0, none⟩) 2 2] 177))) (.pointer (some ⟨bx, 0, none⟩)) x :=
              IsEx.mono (fun b hb => ⟨hb.1, by rw [size_alloc, size_alloc]; have := hb.2; omega⟩) (fun b o hb ha ho => blk_alloc_old (blk_alloc_old (SFr.ast hf14 ha ho (by have := hb.1; omega)))) _ _ HX.out
            have hyy : IsEx (Nu w0 (((w4.alloc (Obj.cells #[.pointer (some ⟨bx, 0, none⟩), .pointer (some ⟨bY, 0, none⟩)] 124)).alloc (Obj.cells #[.int .u8 99, .string (bs s), .int .i64 0, .int .i64 0, .slice (some ⟨w4.heap.size, 0, none⟩) 2 2] 177)))) (((w4.alloc (Obj.cells #[.pointer (some ⟨bx, 0, none⟩), .pointer (some ⟨bY, 0, none⟩)] 124)).alloc (Obj.cells #[.int .u8 99, .string (bs s), .int .i64 0, .int .i64 0, .slice (some ⟨w4.heap.size, 0, none⟩) 2 2] 177))) (.pointer (some ⟨bY, 0, none⟩)) y :=
              IsEx.mono (fun b hb => ⟨by have := hb.1; have := HF.out.size; omega, by rw [size_alloc, size_alloc]; have := hb.2; omega⟩) (fun b o hb ha ho => blk_alloc_old (blk_alloc_old ho)) _ _ HV.out
            have hz0 := HF.out.size
            exact ⟨rfl, n, Nat.lt_succ_self n, .mk 99 s 0 0 [x, y], k', vs', .pointer (some ⟨w4.heap.size + 1, 0, none⟩), _, _, _, _, _, _, _, _, _, _, _, _, _, _, _, _, _, _, _, _, _, _, _, _, _, _, _, _, _, _, _, _, _, _, _, rfl,
              isEx_node ⟨by omega, by rw [size_alloc, size_alloc]; omega⟩ (blk_new1 (by rw [size_alloc])) (isSlEx_two ⟨by omega, by rw [size_alloc, size_alloc]; omega⟩ (blk_alloc_old (blk_alloc_new _ _)) hxx hyy),
              HP4.out.ext (fun b o h => blk_alloc_old (blk_alloc_old h)), ((HF.out.trans hf14).alloc _).alloc _, HE.out⟩
      · have hc' : P.isT T k s = false := by simpa using hc
        have HC := Lib.hid hc'
        clear hc hc'
        go_wp2_with fail
        refine (sIs_no HP.out s HC.out HSD.out).mono ?_
        rintro e w1 ⟨rfl, rfl⟩
        go_wp2_with fail
        go_round
        case rel => exact ⟨j + 1, by omega, by go_num, rfl, fun j' h' => by
          rcases Nat.lt_or_ge j' j with h | h
          · exact HNO.out j' h
          · obtain rfl : j' = j := by omega
            rw [← HS.out]; exact HC.out⟩
        case measure => simp [intOf]; omega
    · go_wp2_with fail
      rw [jump_ret]
      go_ret
      have e := HR.out
      have hl := HL.out
      rw [P.opAt, P.find_none_of (fun j' h' => HNO.out j' (by omega))] at e
      simp only [Option.some.injEq] at e
      subst e
      exact ⟨_, rfl, HX.out, HP.out, HF.out⟩
set_option maxHeartbeats 1000000 in
theorem sOper_lvl {f lvl : Nat} (hl : lvl < 2) (hop : ∀ m, m ≤ f → COper m) {pb tb : Nat} {T : List P.Tok} {k : Nat} {vars : List P.Bs} {d : Nat} {w : World} {r : P.Res P.Ex} (hp : SP w pb tb T k vars d) (hd : d ≤ 8)
    {q : P.Res P.Ex} (hq : P.pOper T f (lvl + 1) k vars d = some q) (hr : P.Res.bind (some q) (fun x k' vars' => P.pMore T f lvl x k' vars' d) = some r) :
    Calls Tryz.prog 86 #[.pointer (some ⟨pb, 0, none⟩), .int .i64 lvl] w (SPost IsEx pb tb T d w r) := by
  have H := Lib.hid hp
  have HR := Lib.hid hr
  have HQ := Lib.hid hq
  have hl2 : ((lvl : Int) == 2) = false := by simp; omega
  have hpb0 := hp.d2.2.2
  clear hp hr hq
  go_enter Tryz.func86, Tryz.ntmps86
  go_wp2_with fail
  have hkey := Lib.hid (sOper_key (T := T) (tb := tb) (r := r) hl hop hd hpb0)
  refine wp_scope_ghost2 0 (fun n a w' => n ≤ f ∧ OJ pb tb T lvl d w r n a w') rfl ?first ?pass
  case first =>
    intro _
    go_wp2_with fail
    refine ((hop f (Nat.le_refl _)).go (lvl + 1) (by omega) H.out hd HQ.out).mono ?_
    cases q with
    | err c0 a0 =>
      rintro e w4 ⟨⟨b, rfl, hb3, hl3⟩, hf3, hs3⟩
      have e := HR.out
      simp only [P.Res.bind, Option.some.injEq] at e
      subst e
      exact ⟨rfl, ⟨b, rfl, hb3, hl3⟩, hf3, hs3⟩
    | ok x k' vs =>
      rintro e w4 ⟨v, rfl, hv, hp4, hf4⟩
      have HV := Lib.hid hv
      have HP4 := Lib.hid hp4
      have HF4 := Lib.hid hf4
      clear hv hp4 hf4
      go_wp2_with fail
      refine wp_label ?_
      rename_i K hK
      refine hK _ _ ?_
      refine wp_mono (hkey.out f (Nat.le_refl _) _ _ ⟨x, k', vs, v, _, _, _, _, _, _, _, _, _, _, _, _, _, _, _, _, _, _, _, _, _, _, _, _, _, _, _, _, _, _, _, _, _, _, _, rfl, HV.out, HP4.out, HF4.out, HR.out⟩) fun e a' w' hq => ?_
      cases e with
      | goto l' => obtain ⟨e, m, hm, hi⟩ := hq; exact ⟨e, m, by omega, hi⟩
      | _ => exact hq
  case pass =>
    rintro n a w' ⟨hn, hj⟩
    refine wp_seq (wp_skip ?_)
    refine wp_mono (hkey.out n hn _ _ hj) fun e a' w' hq => ?_
    cases e with
    | goto l' => obtain ⟨e, m, hm, hi⟩ := hq; exact ⟨e, m, hm, by omega, hi⟩
    | _ => exact hq
theorem cOper0 : COper 0 := ⟨fun _ _ _ _ h => by simp [P.pOper] at h⟩
theorem cOper {f : Nat} (hprim : CPrim f) (hop : ∀ m, m ≤ f → COper m) : COper (f + 1) := by
  refine ⟨fun {pb tb T k vars d w r} lvl hl hp hd h => ?_⟩
  rw [P.pOper] at h
  by_cases h2 : lvl = 2
  · rw [if_pos h2] at h
    subst h2
    exact sOper_prim hprim hp hd h
  · rw [if_neg h2] at h
    cases hq : P.pOper T f (lvl + 1) k vars d with
    | none => rw [hq] at h; simp [P.Res.bind] at h
    | some q => rw [hq] at h; exact sOper_lvl (by omega) hop hp hd hq h
set_option maxHeartbeats 400000 in
theorem cExpr {f : Nat} (hop : COper f) : CExpr f := by
  refine ⟨fun {pb tb T k vars d w r} hp hd h => ?_⟩
  have H := Lib.hid hp
  have HR := Lib.hid h
  clear hp h
  go_enter Tryz.func68, Tryz.ntmps68
  go_wp2_with fail
  refine (hop.go 0 (by omega) H.out hd HR.out).mono ?_
  cases r with
  | err c0 a0 =>
    rintro e w4 ⟨⟨b, rfl, hb3, hl3⟩, hf3, hs3⟩
    exact ⟨rfl, ⟨b, rfl, hb3, hl3⟩, hf3, hs3⟩
  | ok x k' vs =>
    rintro e w4 ⟨v, rfl, hv, hp4, hf4⟩
    have HV := Lib.hid hv
    have HP4 := Lib.hid hp4
    have HF4 := Lib.hid hf4
    clear hv hp4 hf4
    go_wp2_with fail
    go_ret
    exact ⟨v, rfl, HV.out, HP4.out, HF4.out⟩
end Go.Proofs.YtkmpelgfhjgddaaGreatDoor
namespace Go.Proofs.YtkmpelgfhjgddaaGreatDoor
open Go.RowKit
set_option linter.unusedVariables false
def AJ (pb tb : Nat) (T : List P.Tok) (d at_ : Nat) (w0 : World) (r : P.Res (List P.Ex)) (n : Nat) (a : Act) (w : World) : Prop :=
  ∃ (acc : List P.Ex) (k : Nat) (vs : List P.Bs) (xs : List Value) (sl u2 u3 u5 u6 u7 u8 u9 u10 u11 u12 u13 u14 u15 u16 u17 u18 : Value), a = { tmps := #[.pointer (some ⟨pb, 0, none⟩), .int .i64 at_, u2, u3, sl, u5, u6, u7, u8, u9, u10, u11, u12, u13, u14, u15, u16, u17, u18], defers := [] } ∧
    w.ownsRow w0.heap.size 124 1 sl acc.length xs ∧ IsExs (fun b => Nu w0 w b ∧ sl.ownBlock ≠ some b) w xs acc ∧ SP w pb tb T k vs d ∧ SFr pb w0 w ∧ acc.length ≤ k ∧
    P.pArgs T n k vs d at_ acc = some r
set_option maxRecDepth 100000 in
set_option maxHeartbeats 4000000 in
theorem sArgs {f : Nat} (hexp : ∀ m, m < f → CExpr m) {pb tb : Nat} {T : List P.Tok} {k : Nat} {vars : List P.Bs} {d : Nat} {w0 : World} {r : P.Res (List P.Ex)} (at_ : Nat) (hp0 : SP w0 pb tb T k vars d) (hd : d ≤ 8)
    (h : P.pArgs T f k vars d at_ [] = some r) : Calls Tryz.prog 53 #[.pointer (some ⟨pb, 0, none⟩), .int .i64 at_] w0 (SPost IsSlEx pb tb T d w0 r) := by
  have H := Lib.hid hp0
  have HR := Lib.hid h
  have hpb0 := hp0.d2.2.2
  have hT := hp0.tw.len
  obtain ⟨i0, hi, iz0, iz1, iz2⟩ := info_parts sInfoEx
  clear hp0 h
  go_enter Tryz.func53, Tryz.ntmps53
  go_wp2_with fail
  refine wp_loop_ghost (fun n a w => n ≤ f ∧ AJ pb tb T d at_ w0 r n a w) ⟨f, Nat.le_refl _, [], k, vars, [], .slice none 0 0, _, _, _, _, _, _, _, _, _, _, _, _, _, _, _, _, rfl, World.ownsRow_nil _ _ _ _, by unfold IsExs; rfl, H.out, FrM.refl _ _, Nat.zero_le _, HR.out⟩ ?_
  rintro n a w ⟨hnf, acc, k, vs, xs, sl, u2, u3, u5, u6, u7, u8, u9, u10, u11, u12, u13, u14, u15, u16, u17, u18, rfl, hown, hxs, hp, hf, hak, hr⟩
  cases n with
  | zero => simp [P.pArgs] at hr
  | succ n =>
  rw [P.pArgs] at hr
  have hkt := hp.kt
  have hz := hf.size
  have HO := Lib.hid hown
  have HX := Lib.hid hxs
  have HP := Lib.hid hp
  have HF := Lib.hid hf
  have HRR := Lib.hid hr
  clear hown hxs hp hf hr H HR
  go_wp2_with fail
  cases hq : P.pOper T n 0 k vs d with
  | none => have e := HRR.out; rw [hq] at e; simp [P.Res.bind] at e
  | some q =>
  have e := HRR.out
  rw [hq] at e
  refine ((hexp n (by omega)).go HP.out hd hq).mono ?_
  cases q with
  | err c0 a0 =>
    rintro e2 w4 ⟨⟨b, rfl, hb3, hl3⟩, hf3, hs3⟩
    simp only [P.Res.bind, Option.some.injEq] at e
    subst e
    exact ⟨rfl, ⟨b, rfl, hb3, by omega⟩, HF.out.trans hf3, hs3⟩
  | ok x k' vs' =>
    rintro e2 w1 ⟨v, rfl, hv, hp1, hf1⟩
    obtain ⟨bx, rfl, hbx⟩ := hv.shape
    have hkk := (P.mono T n).oper _ _ _ _ _ _ _ hq
    have hk1 := hp1.kt
    have hz1 := hf1.size
    have hp1b := hp1.d2.2.2
    have hown1 : w1.ownsRow w0.heap.size 124 1 sl acc.length xs := by
      obtain ⟨g1, g2 | ⟨g, cp, cur, e1, e2, e3, e4⟩⟩ := HO.out
      · exact ⟨g1, .inl g2⟩
      · exact ⟨g1, .inr ⟨g, cp, cur, e1, e2, SFr.ast hf1 ⟨.inr (.inl rfl), rfl⟩ e3 (by omega), e4⟩⟩
    have hxs1 : IsExs (fun b => Nu w0 w1 b ∧ sl.ownBlock ≠ some b) w1 xs acc :=
      IsExs.mono (fun b hb => ⟨⟨hb.1.1, by have := hb.1.2; omega⟩, hb.2⟩) (fun b o hb ha ho => SFr.ast hf1 ha ho (by have := hb.1.1; omega)) _ _ HX.out
    have HO1 := Lib.hid hown1
    have HX1 := Lib.hid hxs1
    have HV := Lib.hid hv
    have HP1 := Lib.hid hp1
    have HF1 := Lib.hid (HF.out.trans hf1)
    have HE := Lib.hid e
    have HBX := Lib.hid hbx
    have HK := Lib.hid hkk
    clear hv hp1 hf1 hown1 hxs1 e hq hbx
    go_wp2_with (at_builtin; go_must (refine wpList_append_own2 rfl _ _ 101 rfl w0.heap.size 124 i0 _ 1 8 Tryz.underlying101 hi iz0 iz1 iz2 rfl (by decide) _ _ _ rfl (HO1.out.alloc _) ⟨w1.heap.size, 0, none⟩ 1 1 [.pointer (some ⟨bx, 0, none⟩)] rfl rfl (one_new rfl) (by simp [Value.oneCell']) (by unfold maxLen; omega) (by omega) (by simp; omega) ?_; intro v' w2 hown2 hgrow2 hfr2; obtain ⟨g', cap', rfl⟩ := own_succ hown2; have HO2 := Lib.hid hown2; have HG2 := Lib.hid hgrow2; have HFR2 := Lib.hid hfr2; clear hown2 hgrow2 hfr2))
    have hp2 : SP w2 pb tb T k' vs' d := (HP1.out.ext fun b o h => blk_alloc_old (o := Obj.cells #[Value.pointer (some ⟨bx, 0, none⟩)] 124) h).grownRow (HO1.out.alloc _) (by decide) (by omega) HG2.out
    have hf2 : SFr pb w0 w2 := (HF1.out.alloc _).grownNew HG2.out fun k hk => (HO1.out.lt k hk).1
    have hg2 := HG2.out.size
    rw [size_alloc] at hg2
    have hkeep : ∀ (b : Nat) (o : Obj), w1.heap[b]? = some o → sl.ownBlock ≠ some b → w2.heap[b]? = some o := fun b o h hne => by
      have h' := blk_alloc_old (o := Obj.cells #[Value.pointer (some ⟨bx, 0, none⟩)] 124) h
      rw [HG2.out.block b (ltOf h') (fun e => hne e.symm)]; exact h'
    have hnb : ∀ b, b < w1.heap.size → sl.ownBlock ≠ some b → (Value.slice (some ⟨g', 0, none⟩) (acc.length + 1) cap').ownBlock ≠ some b := fun b hb hne => by
      rcases HFR2.out with h | h
      · rw [h]; exact hne
      · intro e
        have := h b e
        rw [size_alloc] at this
        omega
    have hbn : ∀ b, Nu w w1 b → sl.ownBlock ≠ some b := fun b hb e => by
      have := (HO.out.lt b e).2
      have := hb.1
      omega
    have hxs2 : IsExs (fun b => Nu w0 w2 b ∧ (Value.slice (some ⟨g', 0, none⟩) (acc.length + 1) cap').ownBlock ≠ some b) w2 (xs ++ [.pointer (some ⟨bx, 0, none⟩)]) (acc ++ [x]) :=
      IsExs.snoc (IsEx.mono (fun b hb => ⟨⟨by have := hb.1; omega, by have := hb.2; omega⟩, hnb b hb.2 (hbn b hb)⟩) (fun b o hb _ ho => hkeep b o ho (hbn b hb)) _ _ HV.out)
        (IsExs.mono (fun b hb => ⟨⟨hb.1.1, by have := hb.1.2; omega⟩, hnb b hb.1.2 hb.2⟩) (fun b o hb _ ho => hkeep b o ho hb.2) _ _ HX1.out)
    have HP2 := Lib.hid hp2
    have HF2 := Lib.hid hf2
    have HX2 := Lib.hid hxs2
    clear hp2 hf2 hkeep hnb hbn hxs2
    have e := HE.out
    simp only [P.Res.bind] at e
    by_cases hc : P.isT T k' [44] = true
    · rw [if_pos hc] at e
      refine (sIs_yes HP2.out [44] hc).mono ?_
      rintro e2 w3 ⟨rfl, hp3, hf3⟩
      have HP3 := Lib.hid hp3
      have HF3 := Lib.hid hf3
      have HEE := Lib.hid e
      clear hp3 hf3 e hc
      go_wp2_with fail
      have hz3 := HF3.out.size
      have hw2 := HP2.out.d2.2.2
      have hown3 : w3.ownsRow w0.heap.size 124 1 (.slice (some ⟨g', 0, none⟩) (acc.length + 1) cap') (acc.length + 1) (xs ++ [.pointer (some ⟨bx, 0, none⟩)]) := by
        obtain ⟨g1, g2 | ⟨g, cp, cur, e1, e2, e3, e4⟩⟩ := HO2.out
        · exact ⟨g1, .inl g2⟩
        · exact ⟨g1, .inr ⟨g, cp, cur, e1, e2, SFr.ast HF3.out ⟨.inr (.inl rfl), rfl⟩ e3 (by omega), e4⟩⟩
      exact ⟨n, Nat.lt_succ_self n, by omega, acc ++ [x], k' + 1, vs', _, _, _, _, _, _, _, _, _, _, _, _, _, _, _, _, _, _, rfl, by rw [List.length_append]; exact hown3,
        IsExs.mono (fun b hb => ⟨⟨hb.1.1, by have := hb.1.2; omega⟩, hb.2⟩) (fun b o hb ha ho => SFr.ast HF3.out ha ho (by have := hb.1.1; omega)) _ _ HX2.out,
        HP3.out, HF2.out.trans HF3.out, by simp; omega, HEE.out⟩
    · rw [if_neg hc] at e
      refine (sIs_no HP2.out [44] (by simpa using hc) (by decide)).mono ?_
      rintro e2 w3 ⟨rfl, rfl⟩
      have HEE := Lib.hid e
      clear e hc
      have hl5 : (acc ++ [x]).length = acc.length + 1 := by simp
      have hw2 := HP2.out.d2.2.2
      by_cases h4 : acc.length + 1 ≤ 4
      · go_wp2_with fail
        go_ret
        have e := HEE.out
        rw [if_neg (by unfold P.maxArity; omega)] at e
        simp only [Option.some.injEq] at e
        subst e
        exact ⟨_, rfl, ⟨_, own_IsSl HO2.out fun b hb => ⟨(HO2.out.lt b hb).1, (HO2.out.lt b hb).2⟩, IsExs.mono (fun b hb => hb.1) (fun _ _ _ _ h => h) _ _ HX2.out⟩, HP2.out, HF2.out⟩
      · have h4' : 4 < acc.length + 1 := by omega
        go_wp2_with fail
        refine (sFail _ _ _ pb HP2.out.sb).mono ?_
        rintro e2 w4 ⟨⟨b, rfl, hb3, hl3⟩, hf3, hs3⟩
        have e := HEE.out
        rw [if_pos (by unfold P.maxArity; omega)] at e
        simp only [Option.some.injEq] at e
        subst e
        exact ⟨rfl, ⟨b, rfl, hb3, by omega⟩, HF2.out.trans hf3, hs3⟩
theorem cArgs0 : CArgs 0 := ⟨fun _ _ _ h => by simp [P.pArgs] at h⟩
theorem cArgs {f : Nat} (hexp : ∀ m, m < f → CExpr m) : CArgs f := ⟨fun at_ hp hd h => sArgs hexp at_ hp hd h⟩
end Go.Proofs.YtkmpelgfhjgddaaGreatDoor
