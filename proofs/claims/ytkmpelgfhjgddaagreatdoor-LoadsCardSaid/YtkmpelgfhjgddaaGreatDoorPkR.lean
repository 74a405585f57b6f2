/- A part of one proof (SLitEnd, SLit3, SJoin); no conditions beyond what each theorem names. -/
import Derived.Test.YtkmpelgfhjgddaaGreatDoorPkQ
import Derived.Test.YtkmpelgfhjgddaaGreatDoorPkA
import Derived.StillTailTactics
import Derived.Deep.Cut
import Derived.Test.YtkmpelgfhjgddaaGreatDoorPkP
set_option linter.all false
set_option linter.unusedVariables false
set_option linter.unusedSimpArgs false
namespace Go.Proofs.YtkmpelgfhjgddaaGreatDoor
open Go.RowKit
set_option linter.unusedVariables false
noncomputable def litT : Code := match Tryz.f98.body with
  | some (.seq _ (.seq _ (.seq _ (.seq _ (.seq _ (.seq _ c)))))) => c
  | _ => .skip
noncomputable def litR : Code := match litT with | .seq (.seq c _) _ => c | _ => .skip
noncomputable def litC : Code := match litT with | .seq (.seq _ c) _ => c | _ => .skip
noncomputable def litS : Code := match litT with | .seq _ c => c | _ => .skip
def P.litEnd (at_ : Nat) (x : P.Ex) (k' : Nat) (vars' : List P.Bs) : Option (P.Res P.Bd) :=
  if P.noGoal x then some (.err 2 at_)
  else if 0 ≤ P.tests x.name ∧ P.tests x.name ≠ x.args.length then some (.err 3 at_)
  else some (.ok (.mk 103 x.name x.args []) k' vars')
theorem P.litEnd_of {at_ k' : Nat} {kind : Nat} {name : P.Bs} {nn : Int} {kk : Nat} {args : List P.Ex} {vars' : List P.Bs} {t : Int} (hn : P.noGoal (.mk kind name nn kk args) = false) (ht : t = P.tests name) :
    P.litEnd at_ (.mk kind name nn kk args) k' vars' = if 0 ≤ t ∧ t ≠ args.length then some (.err 3 at_) else some (.ok (.mk 103 name args []) k' vars') := by
  subst ht
  unfold P.litEnd
  rw [if_neg (by simp [hn])]
  rfl
set_option maxRecDepth 100000 in
set_option maxHeartbeats 16000000 in
theorem sLitEnd {pb tb bx bxx at_ : Nat} {T : List P.Tok} {k2 : Nat} {v2 : List P.Bs} {d : Nat} {w w3 : World} {x : P.Ex} {q : P.Res P.Bd} (u1 u2 u3 u6 u7 u8 u9 u10 u11 u12 u13 u14 u15 u16 u17 u18 u19 u20 u21 u22 u23 u24 u25 u26 u27 u28 u29 u30 u31 u32 u33 u34 u35 u36 u37 u38 u39 u40 u41 u42 u43 u44 u45 u46 u47 u48 u49 u50 u51 u52 u53 u54 u55 u56 u57 u58 u59 u60 u61 u62 u63 u64 u65 u66 u67 u68 u69 u70 u71 u72 u73 u74 u75 u76 u77 u78 u79 u80 u81 u82 u83 u84 u85 u86 u87 u88 u89 u90 u91 u92 u93 u94 u95 u96 u97 u98 u99 u100 u101 u102 u103 u104 u105 u106 u107 u108 u109 u110 u111 u112 u113 u114 u115 u116 u117 u118 u119 u120 u121 u122 u123 u124 u125 u126 u127 u128 u129 u130 u131 u132 u133 u134 u135 u136 u137 u138 u139 u140 u141 u142 u143 u144 u145 u146 u147 u148 u149 u150 u151 u152 u153 u154 u155 u156 u157 u158 u159 : Value)
    (hp : SP w3 pb tb T k2 v2 (d + 1)) (hd : d + 1 ≤ 8) (hf : SFr pb w w3) (hpb : pb < w.heap.size) (hb0 : w.heap.size ≤ bxx) (hbx : w3.heap[bxx]? = some (.cells #[.pointer (some ⟨pb, 0, none⟩)] 136 (0, 0)))
    (hx : IsEx (Nu w w3) w3 (.pointer (some ⟨bx, 0, none⟩)) x) (hnm : P.named x) (hq : P.litEnd at_ x k2 v2 = some q) (K1 K : Act → World → Prop) (hK : ∀ a w', litS.wp Tryz.prog (bodyPostD Tryz.prog Tryz.f98 (SPost IsBd pb tb T d w q)) a w' → K a w') (hK1 : ∀ a w', litC.wp Tryz.prog (Exit.then K (bodyPostD Tryz.prog Tryz.f98 (SPost IsBd pb tb T d w q))) a w' → K1 a w') :
    litR.wp Tryz.prog (Exit.then K1 (Exit.then K (bodyPostD Tryz.prog Tryz.f98 (SPost IsBd pb tb T d w q)))) { tmps := #[.pointer (some ⟨pb, 0, none⟩), u1, u2, u3, .int .i64 at_, .pointer (some ⟨bx, 0, none⟩), u6, u7, u8, u9, u10, u11, u12, u13, u14, u15, u16, u17, u18, u19, u20, u21, u22, u23, u24, u25, u26, u27, u28, u29, u30, u31, u32, u33, u34, u35, u36, u37, u38, u39, u40, u41, u42, u43, u44, u45, u46, u47, u48, u49, u50, u51, u52, u53, u54, u55, u56, u57, u58, u59, u60, u61, u62, u63, u64, u65, u66, u67, u68, u69, u70, u71, u72, u73, u74, u75, u76, u77, u78, u79, u80, u81, u82, u83, u84, u85, u86, u87, u88, u89, u90, u91, u92, u93, u94, u95, u96, u97, u98, u99, u100, u101, u102, u103, u104, u105, u106, u107, u108, u109, u110, u111, u112, u113, u114, u115, u116, u117, u118, u119, u120, u121, u122, u123, u124, u125, u126, u127, u128, u129, u130, u131, u132, u133, u134, u135, u136, u137, u138, u139, u140, u141, u142, u143, u144, u145, u146, u147, u148, u149, u150, u151, u152, u153, u154, u155, u156, u157, u158, u159], defers := [deferB bxx] } w3 := by
  change ∀ a w', Code.wp _ (Code.seq _ _) _ a w' → _ at hK
  change ∀ a w', Code.wp _ (Code.cond _ _ _) _ a w' → _ at hK1
  have HP := Lib.hid hp
  have HF := Lib.hid hf
  have HBX := Lib.hid hbx
  have HX := Lib.hid hx
  have HQ := Lib.hid hq
  cases x with
  | mk kind name nn kk args =>
  unfold IsEx at hx
  obtain ⟨bx', av, vs, e1, hF, hcell, h4, h5⟩ := hx
  injection e1 with e1
  injection e1 with e1
  injection e1 with e1 _ _
  subst e1
  obtain ⟨pa, pn, pc, rfl, hpn, -, -⟩ := h4.shape
  have hlen := h5.length
  have c0 : w3.cell? ⟨bx, 0, none⟩ = some (.int .u8 kind) := cellOf hcell rfl
  have c1 : w3.cell? ⟨bx, 1, none⟩ = some (.string (bs name)) := cellOf hcell rfl
  have c4 : w3.cell? ⟨bx, 4, none⟩ = some (.slice pa pn pc) := cellOf hcell rfl
  have hbl := hF.2
  have HA : Hid (IsSlEx (Nu w w3) w3 (.slice pa pn pc) args) := Lib.hid ⟨vs, h4, h5⟩
  have hpl : pn = args.length := by omega
  have hl := ltOf hbx
  clear hF hcell h4 h5 hp hf hbx hq hpn hlen
  change Code.wp _ (Code.region _ _ _) _ _ _
  by_cases hA : kind ≠ 97 ∧ kind ≠ 99
  · have k1 : ((kind : Int) == 97) = false := by simp; omega
    have k2' : ((kind : Int) == 99) = false := by simp; omega
    go_wp2_with fail
    refine (sFail _ _ _ pb HP.out.sb).mono ?_
    rintro e2 w5 ⟨⟨b, rfl, hb3, hl3⟩, hf5, hs5⟩
    have e := HQ.out
    rw [P.litEnd, if_pos (by simp [P.noGoal, P.Ex.kind, hA])] at e
    simp only [Option.some.injEq] at e
    subst e
    have := HF.out.size
    exact doorPanic hpb hs5 (hf5.keep HBX.out (by omega) (by decide)) ⟨b, rfl, hb3, by omega⟩ (HF.out.trans hf5)
  · obtain ⟨cc, rr, rfl⟩ : ∃ cc rr, name = cc :: rr := by
      cases name with
      | nil => exact absurd rfl (hnm (by simp only [P.Ex.kind]; omega))
      | cons a l => exact ⟨a, l, rfl⟩
    have hkk : kind = 97 ∨ kind = 99 := by omega
    clear hA hnm HX
    by_cases hB : cc :: rr = [46]
    · rw [hB] at c1 HQ
      rcases hkk with rfl | rfl
      all_goals (
        go_wp2_with fail
        refine (sFail _ _ _ pb HP.out.sb).mono ?_
        rintro e2 w5 ⟨⟨b, rfl, hb3, hl3⟩, hf5, hs5⟩
        have e := HQ.out
        rw [P.litEnd, if_pos (by simp [P.noGoal, P.Ex.name])] at e
        simp only [Option.some.injEq] at e
        subst e
        have := HF.out.size
        exact doorPanic hpb hs5 (hf5.keep HBX.out (by omega) (by decide)) ⟨b, rfl, hb3, by omega⟩ (HF.out.trans hf5))
    by_cases hC : cc :: rr = [91, 93]
    · rw [hC] at c1 HQ
      rcases hkk with rfl | rfl
      all_goals (
        go_wp2_with fail
        refine (sFail _ _ _ pb HP.out.sb).mono ?_
        rintro e2 w5 ⟨⟨b, rfl, hb3, hl3⟩, hf5, hs5⟩
        have e := HQ.out
        rw [P.litEnd, if_pos (by simp [P.noGoal, P.Ex.name])] at e
        simp only [Option.some.injEq] at e
        subst e
        have := HF.out.size
        exact doorPanic hpb hs5 (hf5.keep HBX.out (by omega) (by decide)) ⟨b, rfl, hb3, by omega⟩ (HF.out.trans hf5))
    have d1 : (cc :: rr == ([46] : P.Bs)) = false := by simpa using hB
    have d2 : (cc :: rr == ([91, 93] : P.Bs)) = false := by simpa using hC
    rcases hkk with rfl | rfl
    all_goals (
      go_wp2_with fail
      refine (sClass cc).mono ?_
      rintro e2 w5 ⟨rfl, rfl⟩
      by_cases hD : P.cls cc = 115
      ·
        rw [hD]
        have d4 : ((cc :: rr == ([109, 111, 100] : P.Bs)) = false) ∨ cc :: rr = [109, 111, 100] := by
          by_cases h : cc :: rr = [109, 111, 100]
          · exact .inr h
          · exact .inl (by simpa using h)
        rcases d4 with d4 | d4
        · go_wp2_with fail
          have hM : ¬ (cc :: rr = [109, 111, 100]) := by simpa using d4
          refine (sTests _).mono ?_
          rintro e2 w6 ⟨rfl, rfl⟩
          obtain ⟨tt, htt⟩ : ∃ tt, tt = P.tests (cc :: rr) := ⟨_, rfl⟩
          rw [← htt]
          have e := HQ.out
          rw [P.litEnd_of (by simp [P.noGoal, P.Ex.name, P.Ex.kind, P.Ex.args]; simp [hD, hB, hC, hM] at *; simp_all) htt] at e
          have HE := Lib.hid e
          clear e htt
          by_cases h0 : 0 ≤ tt
          · by_cases h1 : tt = pn
            · have h1' : (tt == (pn : Int)) = true := by simpa using h1
              subst h1
              go_wp2_with fail
              have e := HE.out
              rw [if_neg (by rintro ⟨_, h⟩; exact h (by rw [hpl]))] at e
              simp only [Option.some.injEq] at e
              subst e
              have HP2 : Hid (SP w6.drew pb tb T k2 v2 (d + 1)) := Lib.hid (HP.out.ext fun b o h => h)
              have HF2 : Hid (SFr pb w w6.drew) := Lib.hid HF.out.drew
              have HBX2 : Hid (w6.drew.heap[bxx]? = some (.cells #[.pointer (some ⟨pb, 0, none⟩)] 136 (0, 0))) := Lib.hid HBX.out
              have HA2 : Hid (IsSlEx (Nu w w6.drew) w6.drew (.slice pa pn pc) args) := Lib.hid (IsSlEx.mono (F := Nu w w6) (F' := Nu w w6.drew) (w := w6) (w' := w6.drew) (fun b hb => hb) (fun b o _ _ ho => ho) HA.out)
              have hl2 : bxx < w6.drew.heap.size := hl
              have hz := HF2.out.size
              go_still_tail 9, (by kernel_rfl)
              change wpList _ _ _ _ _ w6.drew
              generalize w6.drew = w7 at HP2 HF2 HBX2 HA2 hl2 hz ⊢
              clear HP HF HBX HA hl hbl c0 c1 c4
              go_wp2_with fail
              have HA3 := HA2.out
              rw [hpl] at HA3
              refine doorRet (j := 2) stab_Bd rfl hpb (HP2.out.ext fun b o h => blk_alloc_old h) (by omega) (blk_alloc_old HBX2.out) ?_ (HF2.out.alloc _)
              exact isBd_node ⟨by omega, by rw [size_alloc]; omega⟩ (blk_alloc_new _ _) (IsSlEx.mono (F := Nu w w7) (F' := Nu w _) (w := w7) (fun b hb => ⟨hb.1, by rw [size_alloc]; have := hb.2; omega⟩) (fun b o _ _ ho => blk_alloc_old ho) HA3) isSlBd_nil
            · have h1' : (tt == (pn : Int)) = false := by simpa using h1
              have h1n := h1
              have h0n := h0
              go_wp2_with fail
              have e := HE.out
              rw [if_pos ⟨h0n, by rw [← hpl]; exact h1n⟩] at e
              simp only [Option.some.injEq] at e
              subst e
              refine (sFail _ _ _ pb HP.out.sb).mono ?_
              rintro e2 w7 ⟨⟨b, rfl, hb3, hl3⟩, hf5, hs5⟩
              have := HF.out.size
              exact doorPanic hpb hs5 (hf5.keep HBX.out (by omega) (by decide)) ⟨b, rfl, hb3, by omega⟩ (HF.out.trans hf5)
          · go_wp2_with fail
            have e := HE.out
            rw [if_neg (by rintro ⟨h, _⟩; omega)] at e
            simp only [Option.some.injEq] at e
            subst e
            have HP2 : Hid (SP w6.drew pb tb T k2 v2 (d + 1)) := Lib.hid (HP.out.ext fun b o h => h)
            have HF2 : Hid (SFr pb w w6.drew) := Lib.hid HF.out.drew
            have HBX2 : Hid (w6.drew.heap[bxx]? = some (.cells #[.pointer (some ⟨pb, 0, none⟩)] 136 (0, 0))) := Lib.hid HBX.out
            have HA2 : Hid (IsSlEx (Nu w w6.drew) w6.drew (.slice pa pn pc) args) := Lib.hid (IsSlEx.mono (F := Nu w w6) (F' := Nu w w6.drew) (w := w6) (w' := w6.drew) (fun b hb => hb) (fun b o _ _ ho => ho) HA.out)
            have hl2 : bxx < w6.drew.heap.size := hl
            have hz := HF2.out.size
            go_still_tail 9, (by kernel_rfl)
            change wpList _ _ _ _ _ w6.drew
            generalize w6.drew = w7 at HP2 HF2 HBX2 HA2 hl2 hz ⊢
            clear HP HF HBX HA hl hbl c0 c1 c4
            go_wp2_with fail
            have HA3 := HA2.out
            rw [hpl] at HA3
            refine doorRet (j := 2) stab_Bd rfl hpb (HP2.out.ext fun b o h => blk_alloc_old h) (by omega) (blk_alloc_old HBX2.out) ?_ (HF2.out.alloc _)
            exact isBd_node ⟨by omega, by rw [size_alloc]; omega⟩ (blk_alloc_new _ _) (IsSlEx.mono (F := Nu w w7) (F' := Nu w _) (w := w7) (fun b hb => ⟨hb.1, by rw [size_alloc]; have := hb.2; omega⟩) (fun b o _ _ ho => blk_alloc_old ho) HA3) isSlBd_nil
        · rw [d4] at c1 HQ
          have d5 : (([109, 111, 100] : P.Bs) == [109, 111, 100]) = true := by decide
          by_cases hp2 : pn = 2
          · have h2' : ((pn : Int) == 2) = true := by simp; omega
            go_wp2_with fail
            have e := HQ.out
            rw [P.litEnd, if_pos (by simp [P.noGoal, P.Ex.name, P.Ex.args]; omega)] at e
            simp only [Option.some.injEq] at e
            subst e
            refine (sFail _ _ _ pb HP.out.sb).mono ?_
            rintro e2 w7 ⟨⟨b, rfl, hb3, hl3⟩, hf5, hs5⟩
            have := HF.out.size
            exact doorPanic hpb hs5 (hf5.keep HBX.out (by omega) (by decide)) ⟨b, rfl, hb3, by omega⟩ (HF.out.trans hf5)
          · have h2' : ((pn : Int) == 2) = false := by simp; omega
            go_wp2_with fail
            refine (sTests _).mono ?_
            rintro e2 w6 ⟨rfl, rfl⟩
            have htt : P.tests [109, 111, 100] = -1 := by decide
            rw [htt]
            have e := HQ.out
            rw [P.litEnd_of (t := -1) (by simp [P.noGoal, P.Ex.name, P.Ex.kind, P.Ex.args]; first | omega | (simp [P.cls]; omega) | decide) (by decide)] at e
            rw [if_neg (by rintro ⟨h, _⟩; omega)] at e
            simp only [Option.some.injEq] at e
            subst e
            go_wp2_with fail
            have HP2 : Hid (SP w6.drew pb tb T k2 v2 (d + 1)) := Lib.hid (HP.out.ext fun b o h => h)
            have HF2 : Hid (SFr pb w w6.drew) := Lib.hid HF.out.drew
            have HBX2 : Hid (w6.drew.heap[bxx]? = some (.cells #[.pointer (some ⟨pb, 0, none⟩)] 136 (0, 0))) := Lib.hid HBX.out
            have HA2 : Hid (IsSlEx (Nu w w6.drew) w6.drew (.slice pa pn pc) args) := Lib.hid (IsSlEx.mono (F := Nu w w6) (F' := Nu w w6.drew) (w := w6) (w' := w6.drew) (fun b hb => hb) (fun b o _ _ ho => ho) HA.out)
            have hl2 : bxx < w6.drew.heap.size := hl
            have hz := HF2.out.size
            go_still_tail 9, (by kernel_rfl)
            change wpList _ _ _ _ _ w6.drew
            generalize w6.drew = w7 at HP2 HF2 HBX2 HA2 hl2 hz ⊢
            clear HP HF HBX HA hl hbl c0 c1 c4
            go_wp2_with fail
            have HA3 := HA2.out
            rw [hpl] at HA3
            refine doorRet (j := 2) stab_Bd rfl hpb (HP2.out.ext fun b o h => blk_alloc_old h) (by omega) (blk_alloc_old HBX2.out) ?_ (HF2.out.alloc _)
            exact isBd_node ⟨by omega, by rw [size_alloc]; omega⟩ (blk_alloc_new _ _) (IsSlEx.mono (F := Nu w w7) (F' := Nu w _) (w := w7) (fun b hb => ⟨hb.1, by rw [size_alloc]; have := hb.2; omega⟩) (fun b o _ _ ho => blk_alloc_old ho) HA3) isSlBd_nil
      · have d3 : ((P.cls cc : Int) == 115) = false := by simp; omega
        go_wp2_with fail
        refine (sFail _ _ _ pb HP.out.sb).mono ?_
        rintro e2 w5 ⟨⟨b, rfl, hb3, hl3⟩, hf5, hs5⟩
        have e := HQ.out
        rw [P.litEnd, if_pos (by simp [P.noGoal, P.Ex.name, hD])] at e
        simp only [Option.some.injEq] at e
        subst e
        have := HF.out.size
        exact doorPanic hpb hs5 (hf5.keep HBX.out (by omega) (by decide)) ⟨b, rfl, hb3, by omega⟩ (HF.out.trans hf5))
end Go.Proofs.YtkmpelgfhjgddaaGreatDoor
namespace Go.Proofs.YtkmpelgfhjgddaaGreatDoor
open Go.RowKit
set_option linter.unusedVariables false
def P.litTail (T : List P.Tok) (f at_ d : Nat) (x : P.Ex) (k' : Nat) (vars' : List P.Bs) : Option (P.Res P.Bd) :=
  match P.cmpAt T k' with
  | some c => P.Res.bind (P.pOper T f 0 (k' + 1) vars' (d + 1)) fun y k'' vars'' => some (.ok (.mk 103 c [x, y] []) k'' vars'')
  | none =>
    if P.noGoal x then some (.err 2 at_)
    else if 0 ≤ P.tests x.name ∧ P.tests x.name ≠ x.args.length then some (.err 3 at_)
    else some (.ok (.mk 103 x.name x.args []) k' vars')
set_option maxRecDepth 100000 in
set_option maxHeartbeats 16000000 in
theorem sLit_term {f : Nat} {pb tb : Nat} {T : List P.Tok} {k : Nat} {vars : List P.Bs} {d : Nat} {w : World} (hp : SP w pb tb T k vars d) (hc : STabC w tb) (hd : d + 1 ≤ 8) (h1 : P.isT T k [33] = false) (h2 : P.isT T k [92, 43] = false)
    (h3 : P.isT T k [40] = false) {r : P.Res P.Ex} (hr : P.pOper T f 0 k vars (d + 1) = some r) {q : P.Res P.Bd} (hq : P.Res.bind (some r) (fun x k' vars' => P.litTail T f (P.tk T k).pos d x k' vars') = some q) :
    Calls Tryz.prog 98 #[.pointer (some ⟨pb, 0, none⟩)] w (SPost IsBd pb tb T d w q) := by
  have H := Lib.hid hp
  have HC := Lib.hid hc
  have HR := Lib.hid hr
  have HQ := Lib.hid hq
  have H1 := Lib.hid h1
  have H2 := Lib.hid h2
  have H3 := Lib.hid h3
  have HK := not_paren h3
  have hpb := hp.d2.2.2
  have htp := hp.lt
  clear hp hc hr hq h1 h2 h3
  go_enter_defers Tryz.func98, Tryz.ntmps98
  go_wp2_with fail
  refine (sDeeper_yes H.out hd).mono ?_
  rintro e w1 ⟨rfl, hs1, hx1, hp1, hf1⟩
  have HX1 := Lib.hid hx1
  have HF1 := Lib.hid hf1
  have HP1 := Lib.hid hp1
  have HS1 := Lib.hid hs1
  clear hx1 hf1 hp1 hs1
  go_wp2_with fail
  refine (sIs_no HP1.out [33] H1.out (by decide)).mono ?_
  rintro e w2 ⟨rfl, rfl⟩
  go_wp2_with fail
  refine (sIs_no HP1.out [92, 43] H2.out (by decide)).mono ?_
  rintro e w2 ⟨rfl, rfl⟩
  have hp1 := HP1.out
  obtain ⟨n, c, h0, l1, l2, -, l3, l4⟩ := hp1.l0
  obtain ⟨t0, t1, t2⟩ := hp1.toks.at hp1.kt
  have htb : tb < w1.heap.size := Nat.lt_trans hp1.lt hp1.d2.2.2
  have hpw := hp1.d2.2.2
  obtain ⟨kd, hkd⟩ : ∃ kd : Int, kd = ((P.tk T k).kind : Int) := ⟨_, rfl⟩
  obtain ⟨tx, htx⟩ : ∃ tx, tx = (P.tk T k).text := ⟨_, rfl⟩
  rw [← hkd] at t0
  rw [← htx] at t1
  have hkt : (tx == [40]) = false ∨ tx = [40] ∧ (kd == 4) = false := by
    rw [htx]
    by_cases h : (P.tk T k).text = [40]
    · right
      refine ⟨h, ?_⟩
      rcases HK with h' | h'
      · rw [hkd]; simp; omega
      · exact absurd h h'
    · left; simpa using h
  clear hp1 hkd htx HK
  rcases hkt with hkt | ⟨rfl, hkt⟩
  all_goals (
    go_wp2_with fail
    refine ((cExprs f).go HP1.out (by omega) HR.out).mono ?_
    have hs1 := HS1.out
    cases r with
    | err c0 a0 =>
      rintro e2 w4 ⟨⟨b, rfl, hb3, hl3⟩, hf4, hs4⟩
      have e := HQ.out
      simp only [P.Res.bind, Option.some.injEq] at e
      subst e
      exact doorPanic hpb hs4 (hf4.keep HX1.out (by omega) (by decide)) ⟨b, rfl, hb3, by omega⟩ (HF1.out.trans hf4)
    | ok x k2 v2 =>
    rintro e2 w3 ⟨v, rfl, hv, hp3, hf3⟩
    obtain ⟨bx, rfl, hbx⟩ := hv.shape
    have HV3 := Lib.hid hv
    have HP3 := Lib.hid hp3
    have HF3 := Lib.hid hf3
    have HC3 := Lib.hid (HC.out.fr (HF1.out.trans hf3) htp)
    obtain ⟨cf, hcf⟩ : ∃ cf : Nat → P.Bs, ∀ j, cf j = P.compares.getD j [] := ⟨_, fun _ => rfl⟩
    have hct : ∀ j, j < 9 → w3.cell? ⟨3, j, none⟩ = some (.string (bs (cf j))) := fun j hj => by rw [hcf]; exact HC3.out.cell j hj
    have HCF := Lib.hid hcf
    have hgl := HC3.out.lt
    have hpw3 := hp3.d2.2.2
    have a0 := hct 0 (by decide)
    have a1 := hct 1 (by decide)
    have a2 := hct 2 (by decide)
    have a3 := hct 3 (by decide)
    have a4 := hct 4 (by decide)
    have a5 := hct 5 (by decide)
    have a6 := hct 6 (by decide)
    have a7 := hct 7 (by decide)
    have a8 := hct 8 (by decide)
    have hgw : 3 < w3.heap.size := by omega
    have e := HQ.out
    simp only [P.Res.bind] at e
    unfold P.litTail at e
    have HE := Lib.hid e
    have HX3 := Lib.hid (hf3.keep HX1.out (by omega) (by decide))
    have hz3 := hf3.size
    clear hv hp3 hf3 hct t0 t1 t2 h0 e hcf
    go_wp2_with fail
    go_loop [7, 66] (fun s i => ∃ j : Nat, j ≤ 9 ∧ i = .int .i64 j ∧ ∀ j', j' < j → P.isT T k2 (cf j') = false) (fun _ i => 9 - (intOf i).toNat)
    case atStart => exact ⟨0, Nat.zero_le _, rfl, fun j hj => absurd hj (Nat.not_lt_zero _)⟩
    case round =>
      obtain ⟨j, hj, rfl, hno⟩ := hrel
      have HNO := Lib.hid hno
      clear hno
      by_cases hlt : j < 9
      · have hj9 : j = 0 ∨ j = 1 ∨ j = 2 ∨ j = 3 ∨ j = 4 ∨ j = 5 ∨ j = 6 ∨ j = 7 ∨ j = 8 := by omega
        have hsd : (cf j).all P.digit = false := by rw [HCF.out]; rcases hj9 with rfl | rfl | rfl | rfl | rfl | rfl | rfl | rfl | rfl <;> decide
        have hfind : P.isT T k2 (cf j) = true → P.cmpAt T k2 = some (cf j) := fun h => by
          rw [P.cmpAt, P.find_some_of (j := j) (by simp [P.compares]; omega) (by rw [← HCF.out]; exact h) (fun j' hj' => by rw [← HCF.out]; exact HNO.out j' hj'), ← HCF.out]
        have HFI := Lib.hid hfind
        have HSD := Lib.hid hsd
        clear hfind hsd hj
        have hix : ∀ w, (Instr.index 220 (.agg #[.string (bs (cf 0)), .string (bs (cf 1)), .string (bs (cf 2)), .string (bs (cf 3)), .string (bs (cf 4)), .string (bs (cf 5)), .string (bs (cf 6)), .string (bs (cf 7)), .string (bs (cf 8))]) (.int .i64 j)).run Tryz.prog w = .ok (.string (bs (cf j))) w :=
          fun w => idxArr _ _ _ _ _ _ _ _ _ j hlt _ (by rcases hj9 with rfl | rfl | rfl | rfl | rfl | rfl | rfl | rfl | rfl <;> rfl) w
        clear hj9
        by_cases hcc : P.isT T k2 (cf j) = true
        · (
            go_wp2_with fail
            refine (sIs_yes HP3.out _ hcc).mono ?_
            rintro e w4 ⟨rfl, hp4, hf4⟩
            have HP4 := Lib.hid hp4
            have HF4 := Lib.hid hf4
            have hz4 := hf4.size
            clear hp4 hf4 a0 a1 a2 a3 a4 a5 a6 a7 a8
            go_wp2_with fail
            have e := HE.out
            rw [HFI.out hcc] at e
            dsimp only at e
            cases hq : P.pOper T f 0 (k2 + 1) v2 (d + 1) with
            | none => rw [hq] at e; simp [P.Res.bind] at e
            | some q2 =>
            rw [hq] at e
            refine ((cExprs f).go HP4.out (by omega) hq).mono ?_
            cases q2 with
            | err c0 a0 =>
              rintro e2 w5 ⟨⟨b, rfl, hb3, hl3⟩, hf5, hs5⟩
              simp only [P.Res.bind, Option.some.injEq] at e
              subst e
              exact doorPanic hpb hs5 (hf5.keep (HF4.out.keep HX3.out (by omega) (by decide)) (by omega) (by decide)) ⟨b, rfl, hb3, by omega⟩ (((HF1.out.trans HF3.out).trans HF4.out).trans hf5)
            | ok y k5 v5 =>
            rintro e2 w5 ⟨v, rfl, hv, hp5, hf5⟩
            simp only [P.Res.bind, Option.some.injEq] at e
            subst e
            obtain ⟨by', rfl, hby⟩ := hv.shape
            have hz5 := hf5.size
            have HV5 := Lib.hid hv
            have HP5 := Lib.hid hp5
            have HF5 := Lib.hid hf5
            clear hv hp5 hf5 hby hq HE
            go_wp2_with fail
            have hst : ∀ o o', ((w5.alloc o).alloc o').heap.size = w5.heap.size + 2 := fun o o' => by rw [size_alloc, size_alloc]
            refine doorRet (j := 2) stab_Bd rfl hpb (HP5.out.ext fun b o h => blk_alloc_old (blk_alloc_old h)) (by omega) (blk_alloc_old (blk_alloc_old (HF5.out.keep (HF4.out.keep HX3.out (by omega) (by decide)) (by omega) (by decide)))) ?_
              (((((HF1.out.trans HF3.out).trans HF4.out).trans HF5.out).alloc _).alloc _)
            refine isBd_node ⟨by omega, by rw [hst]; omega⟩ (blk_new1 (by rw [size_alloc])) (isSlEx_two ⟨by omega, by rw [hst]; omega⟩ (blk_alloc_old (blk_alloc_new _ _)) ?_ ?_) isSlBd_nil
            · exact IsEx.mono (fun b hb => ⟨by have := hb.1; omega, by rw [hst]; have := hb.2; omega⟩)
                (fun b o hb ha ho => blk_alloc_old (blk_alloc_old (SFr.ast HF5.out ha (SFr.ast HF4.out ha ho (by have := hb.1; omega)) (by have := hb.1; omega)))) _ _ HV3.out
            · exact IsEx.mono (fun b hb => ⟨by have := hb.1; omega, by rw [hst]; have := hb.2; omega⟩)
                (fun b o hb ha ho => blk_alloc_old (blk_alloc_old ho)) _ _ HV5.out)
        · (
            go_wp2_with fail
            refine (sIs_no HP3.out _ (by simpa using hcc) HSD.out).mono ?_
            rintro e w4 ⟨rfl, rfl⟩
            have hcc' := Lib.hid hcc
            clear hcc
            go_wp2_with fail
            refine ⟨⟨j + 1, by omega, by simp, fun j' hj' => ?_⟩, ?_⟩
            · rcases Nat.lt_or_ge j' j with h | h
              · exact HNO.out j' h
              · obtain rfl : j' = j := by omega
                simpa using hcc'.out
            · simp only [intOf]; omega)
      · have : j = 9 := by omega
        subst this
        have hnone : P.cmpAt T k2 = none := P.find_none_of fun j' hj' => by rw [← HCF.out]; exact HNO.out j' hj'
        have e := HE.out
        rw [hnone] at e
        dsimp only at e
        have hnm := (P.namedT T (fun k hk => by
          rcases Nat.lt_or_ge k T.length with h | h
          · obtain ⟨c, r, e1, _⟩ := H.out.tw.words _ (tk_mem h) hk
            rw [e1]; simp
          · rw [show P.tk T k = P.tk T T.length by simp [P.tk, List.getD_eq_getElem?_getD, List.getElem?_eq_none h]] at hk
            simp [P.tk] at hk) f).oper _ _ _ _ _ _ _ HR.out
        have hvv : IsEx (Nu w w3) w3 (.pointer (some ⟨bx, 0, none⟩)) x := IsEx.mono (F := Nu w1 w3) (fun b hb => ⟨by have := hb.1; omega, hb.2⟩) (fun b o _ _ ho => ho) _ _ HV3.out
        have hle : P.litEnd (P.tk T k).pos x k2 v2 = some q := e
        have HVV := Lib.hid hvv
        have HLE := Lib.hid hle
        have HNM := Lib.hid hnm
        clear hvv hle hnm e HE hnone a0 a1 a2 a3 a4 a5 a6 a7 a8
        go_upto_region 19 with (fail)
        exact sLitEnd _ _ _ _ _ _ _ _ _ _ _ _ _ _ _ _ _ _ _ _ _ _ _ _ _ _ _ _ _ _ _ _ _ _ _ _ _ _ _ _ _ _ _ _ _ _ _ _ _ _ _ _ _ _ _ _ _ _ _ _ _ _ _ _ _ _ _ _ _ _ _ _ _ _ _ _ _ _ _ _ _ _ _ _ _ _ _ _ _ _ _ _ _ _ _ _ _ _ _ _ _ _ _ _ _ _ _ _ _ _ _ _ _ _ _ _ _ _ _ _ _ _ _ _ _ _ _ _ _ _ _ _ _ _ _ _ _ _ _ _ _ _ _ _ _ _ _ _ _ _ _ _ _ _ _ _ _ HP3.out hd (HF1.out.trans HF3.out) hpb (Nat.le_refl _) HX3.out HVV.out HNM.out HLE.out _ _ (by assumption) (by assumption))
end Go.Proofs.YtkmpelgfhjgddaaGreatDoor
namespace Go.Proofs.YtkmpelgfhjgddaaGreatDoor
open Go.RowKit
theorem cLit {f : Nat} (hlit : CLit f) (hbody : CBody f) : CLit (f + 1) := ⟨by
  intro pb tb T k vars d w q hp hc hd hq
  by_cases h8 : d + 1 ≤ 8
  · rw [P.pLit, if_neg (by unfold P.maxDepth; omega)] at hq
    by_cases h1 : P.isT T k [33] = true
    · rw [if_pos h1] at hq
      simp only [Option.some.injEq] at hq
      subst hq
      exact sLit_cut hp h8 h1
    rw [if_neg h1] at hq
    have h1' : P.isT T k [33] = false := by simpa using h1
    by_cases h2 : P.isT T k [92, 43] = true
    · rw [if_pos h2] at hq
      cases hr : P.pLit T f (k + 1) vars (d + 1) with
      | none => rw [hr] at hq; simp [P.Res.bind] at hq
      | some r => rw [hr] at hq; exact sLit_not hlit hp hc h8 h1' h2 hr hq
    rw [if_neg h2] at hq
    have h2' : P.isT T k [92, 43] = false := by simpa using h2
    by_cases h3 : P.isT T k [40] = true
    · rw [if_pos h3] at hq
      cases hr : P.pBody T f (k + 1) vars (d + 1) with
      | none => rw [hr] at hq; simp [P.Res.bind] at hq
      | some r => rw [hr] at hq; exact sLit_paren hbody hp hc h8 h1' h2' h3 hr hq
    rw [if_neg h3] at hq
    have h3' : P.isT T k [40] = false := by simpa using h3
    cases hr : P.pOper T f 0 k vars (d + 1) with
    | none => rw [hr] at hq; simp [P.Res.bind] at hq
    | some r => rw [hr] at hq; exact sLit_term hp hc h8 h1' h2' h3' hr hq
  · rw [P.pLit, if_pos (by unfold P.maxDepth; omega)] at hq
    simp only [Option.some.injEq] at hq
    subst hq
    exact sLit_deep hp (by omega) hd⟩
theorem bodiesAll (f : Nat) : CLit f ∧ CRow f ∧ CBody f := by
  induction f using Nat.strongRecOn with
  | ind f ih =>
    cases f with
    | zero => exact ⟨⟨fun _ _ _ h => by simp [P.pLit] at h⟩, cRow0, cBody0⟩
    | succ f =>
      have hf := ih f (Nat.lt_succ_self _)
      have hrow : CRow (f + 1) := cRow fun m hm => (ih m hm).1
      exact ⟨cLit hf.1 hf.2.2, hrow, cBody hf.2.1 fun m hm => (ih m (by omega)).2.2⟩
theorem cBodies (f : Nat) : CBody f := (bodiesAll f).2.2
end Go.Proofs.YtkmpelgfhjgddaaGreatDoor
