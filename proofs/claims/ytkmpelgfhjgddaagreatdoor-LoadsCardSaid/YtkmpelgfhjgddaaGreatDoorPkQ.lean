/- A part of one proof (SBody2, SLit, SLit2, SIdxArr); no conditions beyond what each theorem names. -/
import Derived.Test.YtkmpelgfhjgddaaGreatDoorPkP
set_option linter.all false
set_option linter.unusedVariables false
set_option linter.unusedSimpArgs false
namespace Go.Proofs.YtkmpelgfhjgddaaGreatDoor
open Go.RowKit
set_option linter.unusedVariables false
set_option maxRecDepth 100000 in
set_option maxHeartbeats 8000000 in
theorem sBody {f : Nat} (hrow : CRow f) (hbody : ∀ m, m < f → CBody m) {pb tb : Nat} {T : List P.Tok} {k : Nat} {vars : List P.Bs} {d : Nat} {w0 : World} {r : P.Res P.Bd} (hp0 : SP w0 pb tb T k vars d) (hc0 : STabC w0 tb) (hd : d ≤ 8)
    (h : P.pBody T (f + 1) k vars d = some r) : Calls Tryz.prog 56 #[.pointer (some ⟨pb, 0, none⟩)] w0 (SPost IsBd pb tb T d w0 r) := by
  rw [P.pBody_cond] at h
  have HP0 := Lib.hid hp0
  have HC0 := Lib.hid hc0
  have HR := Lib.hid h
  have hpb0 := hp0.d2.2.2
  have htp := hp0.lt
  obtain ⟨i0, hi, iz0, iz1, iz2⟩ := info_parts sInfoBd
  clear hp0 h hc0
  go_enter_defers Tryz.func56, Tryz.ntmps56
  go_wp2_with fail
  cases hq : P.pCond T f k vars d with
  | none => have e := HR.out; rw [hq] at e; simp [P.Res.bind] at e
  | some q =>
  have e := HR.out
  rw [hq] at e
  refine (sCond hrow HP0.out HC0.out hd hq).mono ?_
  cases q with
  | err c0 a0 =>
    rintro e2 w4 ⟨⟨b, rfl, hb3, hl3⟩, hf3, hs3⟩
    simp only [P.Res.bind, Option.some.injEq] at e
    subst e
    exact ⟨⟨b, rfl, hb3, hl3⟩, hf3, hs3⟩
  | ok x k1 v1 =>
  rintro e2 w1 ⟨v, rfl, hv, hp1, hf1⟩
  simp only [P.Res.bind] at e
  have hz1 := hf1.size
  have HP1 := Lib.hid hp1
  have HF1 := Lib.hid hf1
  have hw1 := hp1.d2.2.2
  clear hp1 hf1 hq HR
  rcases hv with ⟨hw, hbd⟩ | ⟨a, b, n, g, va, vb, rfl, rfl, hn, hg, hng, hcn, hcg, ha, hb⟩
  · rw [P.bTail, if_neg (P.whole_not hw)] at e
    have HE := Lib.hid e
    have HV := Lib.hid hbd
    cases x with
    | mk kind name args parts =>
    unfold IsBd at hbd
    obtain ⟨n, av, pv, vs, us, rfl, hn, hcn, h4, h5, h6, h7⟩ := hbd
    obtain ⟨pa, pn, pc, rfl, hpn, -, -⟩ := h6.shape
    have hlen := h7.length
    have c0 : w1.cell? ⟨n, 0, none⟩ = some (.int .u8 kind) := cellOf hcn rfl
    have c3 : w1.cell? ⟨n, 3, none⟩ = some (.slice pa pn pc) := cellOf hcn rfl
    have hnl : n < w1.heap.size := hn.2
    have hkk : kind = 63 ∧ pn = 3 ∨ ((kind : Int) == 63) = false := by
      by_cases hk : kind = 63
      · exact .inl ⟨hk, by have := hw hk; omega⟩
      · exact .inr (by simp; omega)
    clear h4 h5 h6 h7 hw hcn hn e hlen hpn
    rcases hkk with ⟨rfl, rfl⟩ | hk'
    all_goals (
      by_cases hs : P.isT T k1 [59] = true
      · go_wp2_with fail
        refine (sIs_yes HP1.out [59] hs).mono ?_
        rintro e w2 ⟨rfl, hp2, hf2⟩
        have HP2 := Lib.hid hp2
        have HF2 := Lib.hid hf2
        have hz2 := hf2.size
        clear hp2 hf2 c0 c3
        go_wp2_with fail
        have e := HE.out
        rw [if_pos hs] at e
        cases f with
        | zero => simp [P.pRest, P.Res.bind] at e
        | succ f =>
        rw [P.pRest] at e
        by_cases hdd : P.maxDepth < d + 1
        · rw [if_pos hdd] at e
          simp only [P.Res.bind, Option.some.injEq] at e
          subst e
          refine (sDeeper_no HP2.out hdd (by omega)).mono ?_
          rintro e w3 ⟨⟨b, rfl, hb3, hl3⟩, hf3, hs3⟩
          exact ⟨⟨b, rfl, hb3, by omega⟩, (HF1.out.trans HF2.out).trans hf3, hs3⟩
        rw [if_neg hdd] at e
        have hd' : d + 1 ≤ 8 := by unfold P.maxDepth at hdd; omega
        refine (sDeeper_yes HP2.out hd').mono ?_
        rintro e2 w3 ⟨rfl, hs3, hx3, hp3, hf3⟩
        have HX3 := Lib.hid hx3
        have HF3 := Lib.hid hf3
        have HP3 := Lib.hid hp3
        have HEE := Lib.hid e
        have HS3 := Lib.hid hs3
        clear hx3 hf3 hp3 e hs hs3 hdd
        go_wp2_with fail
        have e := HEE.out
        cases hq : P.pBody T f (k1 + 1) v1 (d + 1) with
        | none => rw [hq] at e; simp [P.Res.bind] at e
        | some q =>
        rw [hq] at e
        refine ((hbody f (by omega)).go HP3.out (HC0.out.fr ((HF1.out.trans HF2.out).trans HF3.out) htp) (by omega) hq).mono ?_
        have hs3 := HS3.out
        cases q with
        | err c0 a0 =>
          rintro e2 w4 ⟨⟨b, rfl, hb3, hl3⟩, hf4, hs4⟩
          simp only [P.Res.bind, Option.some.injEq] at e
          subst e
          exact doorPanic hpb0 hs4 (hf4.keep HX3.out (by omega) (by decide)) ⟨b, rfl, hb3, by omega⟩ (((HF1.out.trans HF2.out).trans HF3.out).trans hf4)
        | ok y k2 v2 =>
        rintro e2 w4 ⟨v, rfl, hv, hp4, hf4⟩
        simp only [P.Res.bind, Option.some.injEq] at e
        subst e
        obtain ⟨by', rfl, hby⟩ := hv.shape
        have hz4 := hf4.size
        have HV4 := Lib.hid hv
        have HP4 := Lib.hid hp4
        have HF4 := Lib.hid hf4
        clear hv hp4 hf4 hby hq HE HEE hs3
        go_wp2_with fail
        have hs3 := HS3.out
        have hst : ∀ o o', ((w4.alloc o).alloc o').heap.size = w4.heap.size + 2 := fun o o' => by rw [size_alloc, size_alloc]
        refine doorRet (j := 2) stab_Bd rfl hpb0 (HP4.out.ext fun b o h => blk_alloc_old (blk_alloc_old h)) (by omega) (blk_alloc_old (blk_alloc_old (HF4.out.keep HX3.out (by omega) (by decide)))) ?_
          (((((HF1.out.trans HF2.out).trans HF3.out).trans HF4.out).alloc _).alloc _)
        refine isBd_node ⟨by omega, by rw [hst]; omega⟩ (blk_new1 (by rw [size_alloc])) isSlEx_nil (isSlBd_two ⟨by omega, by rw [hst]; omega⟩ (blk_alloc_old (blk_alloc_new _ _)) ?_ ?_)
        · exact IsBd.mono (fun b hb => ⟨hb.1, by rw [hst]; have := hb.2; omega⟩)
            (fun b o hb ha ho => blk_alloc_old (blk_alloc_old (SFr.ast HF4.out ha (SFr.ast HF3.out ha (SFr.ast HF2.out ha ho (by have := hb.1; omega)) (by have := hb.1; omega)) (by have := hb.1; omega)))) _ _ HV.out
        · exact IsBd.mono (fun b hb => ⟨by have := hb.1; omega, by rw [hst]; have := hb.2; omega⟩)
            (fun b o hb ha ho => blk_alloc_old (blk_alloc_old ho)) _ _ HV4.out
      · go_wp2_with fail
        refine (sIs_no HP1.out [59] (by simpa using hs) (by decide)).mono ?_
        rintro e w2 ⟨rfl, rfl⟩
        go_wp2_with fail
        have e := HE.out
        rw [if_neg hs, Option.some.injEq] at e
        subst e
        exact ⟨_, results_tmp rfl _ _ _, .pointer (some ⟨_, 0, none⟩), rfl, HV.out, HP1.out, HF1.out⟩)
  · have HE := Lib.hid e
    have c0 : w1.cell? ⟨n, 0, none⟩ = some (.int .u8 63) := cellOf hcn rfl
    have c3 : w1.cell? ⟨n, 3, none⟩ = some (.slice (some ⟨g, 0, none⟩) 2 2) := cellOf hcn rfl
    have hnl : n < w1.heap.size := hn.2
    have hn0 : w0.heap.size ≤ n := hn.1
    have hgl : g < w1.heap.size := hg.2
    have hg0 : w0.heap.size ≤ g := hg.1
    have hF := (P.bTail T f k1 v1 d (.mk 63 [] [] [a, b]))
    have har : P.isArrow (P.Bd.mk 63 [] [] [a, b]) := ⟨rfl, rfl⟩
    rw [P.bTail, if_pos har] at e
    have HEB := Lib.hid e
    have HCN1 := Lib.hid hcn
    have HCG1 := Lib.hid hcg
    have HA1 := Lib.hid ha
    have HB1 := Lib.hid hb
    clear hcn hcg ha hb hn hg e HE har hF
    generalize hfo : (Obj.cells #[.int .u8 103, .string (bs [102, 97, 105, 108]), .slice none 0 0, .slice none 0 0] 145) = fo
    have HPF := Lib.hid (HP1.out.ext (w' := w1.alloc fo) fun b o h => blk_alloc_old h)
    have HFF : Hid (SFr pb w0 (w1.alloc fo)) := Lib.hid (HF1.out.alloc _)
    have HNF : Hid ((w1.alloc fo).heap[n]? = _) := Lib.hid (blk_alloc_old HCN1.out)
    have HGF : Hid ((w1.alloc fo).heap[g]? = _) := Lib.hid (blk_alloc_old HCG1.out)
    have HSZW : Hid (w0.heap.size ≤ (w1.alloc fo).heap.size) := Lib.hid (by rw [size_alloc]; omega)
    subst hfo
    by_cases hs : P.isT T k1 [59] = true
    · go_wp2_with fail
      refine (sIs_yes HPF.out [59] hs).mono ?_
      rintro e w2 ⟨rfl, hp2, hf2⟩
      have HP2 := Lib.hid hp2
      have HF2 := Lib.hid hf2
      have hz2 := hf2.size
      rw [size_alloc] at hz2
      clear hp2 hf2 c0 c3
      go_wp2_with fail
      have e := HEB.out
      rw [if_pos hs] at e
      cases f with
      | zero => simp [P.pRest, P.Res.bind] at e
      | succ f =>
      rw [P.pRest] at e
      by_cases hdd : P.maxDepth < d + 1
      · rw [if_pos hdd] at e
        simp only [P.Res.bind, Option.some.injEq] at e
        subst e
        refine (sDeeper_no HP2.out hdd (by omega)).mono ?_
        rintro e w3 ⟨⟨b, rfl, hb3, hl3⟩, hf3, hs3⟩
        exact ⟨⟨b, rfl, hb3, by omega⟩, (HFF.out.trans HF2.out).trans hf3, hs3⟩
      rw [if_neg hdd] at e
      have hd' : d + 1 ≤ 8 := by unfold P.maxDepth at hdd; omega
      refine (sDeeper_yes HP2.out hd').mono ?_
      rintro e2 w3 ⟨rfl, hs3, hx3, hp3, hf3⟩
      have HX3 := Lib.hid hx3
      have HF3 := Lib.hid hf3
      have HP3 := Lib.hid hp3
      have HEE := Lib.hid e
      have HS3 := Lib.hid hs3
      clear hx3 hf3 hp3 e hs hs3 hdd
      go_wp2_with fail
      have e := HEE.out
      cases hq : P.pBody T f (k1 + 1) v1 (d + 1) with
      | none => rw [hq] at e; simp [P.Res.bind] at e
      | some q =>
      rw [hq] at e
      refine ((hbody f (by omega)).go HP3.out (HC0.out.fr ((HFF.out.trans HF2.out).trans HF3.out) htp) (by omega) hq).mono ?_
      have hs3 := HS3.out
      cases q with
      | err c0 a0 =>
        rintro e2 w4 ⟨⟨b, rfl, hb3, hl3⟩, hf4, hs4⟩
        simp only [P.Res.bind, Option.some.injEq] at e
        subst e
        exact doorPanic hpb0 hs4 (hf4.keep HX3.out (by omega) (by decide)) ⟨b, rfl, hb3, by omega⟩ (((HFF.out.trans HF2.out).trans HF3.out).trans hf4)
      | ok y k2 v2 =>
      rintro e2 w5 ⟨v, rfl, hv, hp5, hf5⟩
      simp only [P.Res.bind, Option.some.injEq] at e
      subst e
      obtain ⟨by', rfl, hby⟩ := hv.shape
      have hz5 := hf5.size
      have HV5 := Lib.hid hv
      have HP5 := Lib.hid hp5
      have HF5 := Lib.hid hf5
      have HK5 : Hid (∀ (m : Nat) (cs : Array Value) (t : TypeId) (z : Nat × Nat), m < w1.heap.size → m ≠ pb → t ≠ 9 → w1.heap[m]? = some (.cells cs t z) → w5.heap[m]? = some (.cells cs t z)) :=
        Lib.hid fun m cs t z _ h1 h2 h3 => SFr.keep hf5 (SFr.keep HF3.out (SFr.keep HF2.out (blk_alloc_old h3) h1 h2) h1 h2) h1 h2
      have HXS : Hid (w5.heap[w2.heap.size]? = _) := Lib.hid (SFr.keep hf5 HX3.out (by omega) (by decide))
      have HSZW5 : Hid (w0.heap.size ≤ w5.heap.size) := Lib.hid (by omega)
      have HN : Hid (Nu w0 w5 n) := Lib.hid ⟨hn0, by omega⟩
      have HG : Hid (Nu w0 w5 g) := Lib.hid ⟨hg0, by omega⟩
      have HN5 : Hid (w5.heap[n]? = _) := Lib.hid (HK5.out _ _ _ _ hnl (by omega) (by decide) HCN1.out)
      have HG5 : Hid (w5.heap[g]? = _) := Lib.hid (HK5.out _ _ _ _ hgl (by omega) (by decide) HCG1.out)
      have hst : ∀ {v : Value} {x : P.Bd}, IsBd (fun m => Nu w0 w1 m ∧ m ≠ n ∧ m ≠ g) w1 v x → IsBd (fun m => Nu w0 w5 m ∧ m ≠ n ∧ m ≠ g) w5 v x := fun h =>
        IsBd.mono (fun m hm => ⟨⟨hm.1.1, by have := hm.1.2; omega⟩, hm.2⟩) (fun m o hm ha ho => SFr.ast HF5.out ha (SFr.ast HF3.out ha (SFr.ast HF2.out ha (blk_alloc_old ho) (by have := hm.1.1; omega)) (by have := hm.1.1; omega)) (by have := hm.1.1; omega)) _ _ h
      have HA := Lib.hid (hst HA1.out)
      have HB := Lib.hid (hst HB1.out)
      have HCC : Hid (IsBd (fun m => Nu w0 w5 m ∧ m ≠ n ∧ m ≠ g) w5 (.pointer (some ⟨by', 0, none⟩)) y) :=
        Lib.hid (IsBd.mono (fun m hm => ⟨⟨by have := hm.1; omega, hm.2⟩, by have := hm.1; omega, by have := hm.1; omega⟩) (fun _ _ _ _ h => h) _ _ hv)
      have HO1 : Hid ((w5.alloc (.cells #[.pointer (some ⟨by', 0, none⟩)] 102)).ownsRow w0.heap.size 102 1 (.slice (some ⟨g, 0, none⟩) 2 2) 2 [va, vb]) :=
        Lib.hid ⟨rfl, .inr ⟨g, 2, _, rfl, hg0, blk_alloc_old HG5.out, Nat.le_refl _, by decide, rfl, rfl⟩⟩
      have HSZ : Hid (w0.heap.size ≤ (w5.alloc (.cells #[.pointer (some ⟨by', 0, none⟩)] 102)).heap.size) := Lib.hid (by rw [size_alloc]; omega)
      have c0 : w5.cell? ⟨n, 0, none⟩ = some (.int .u8 63) := cellOf HN5.out rfl
      have c3 : w5.cell? ⟨n, 3, none⟩ = some (.slice (some ⟨g, 0, none⟩) 2 2) := cellOf HN5.out rfl
      have hnl5 : n < w5.heap.size := by omega
      clear hv hp5 hf5 hby hq HEB HEE hs3 hst
      go_wp2_with (at_builtin; go_must (refine wpList_append_own2 rfl _ _ 143 rfl w0.heap.size 102 i0 _ 1 8 Tryz.underlying143 hi iz0 iz1 iz2 rfl (by decide) _ _ _ rfl HO1.out ⟨w5.heap.size, 0, none⟩ 1 1 [.pointer (some ⟨by', 0, none⟩)] rfl rfl (one_new rfl) (by simp [Value.oneCell']) (by unfold maxLen; omega) (by omega) (by have := HSZ.out; omega) ?_; intro v' w9 hown2 hgrow2 hfr2; obtain ⟨g2, cap2, rfl⟩ := own_succ hown2; obtain ⟨⟨cs9, hcs9, hcz9⟩, hsz9, hkp9, hbd9⟩ := closeIf HN.out HG.out hng HSZW5.out hpb0 HN5.out HA.out HB.out HCC.out hown2 hgrow2 hfr2; have c9 : w9.cell? ⟨n, 3, none⟩ = some (cs9[3]'(by omega)) := cellOf hcs9 (by simp [Array.getElem?_eq_getElem, hcz9]); have f9 := freeOf hcs9 3; have l9 := ltOf hcs9; have HG2 := Lib.hid hgrow2; have HO2 := Lib.hid hown2; have HK9 := Lib.hid hkp9; have HBD9 := Lib.hid hbd9; have HCS9 := Lib.hid hcs9; clear hown2 hgrow2 hfr2 hkp9 hbd9 hcs9))
      have hs3 := HS3.out
      have hp9 : SP w9 pb tb T k2 v2 (d + 1) := (HP5.out.ext fun b o h => blk_alloc_old (o := Obj.cells #[Value.pointer (some ⟨by', 0, none⟩)] 102) h).grownRow HO1.out (by decide) hpb0 HG2.out
      have hf9 : SFr pb w0 w9 := (((((HFF.out.trans HF2.out).trans HF3.out).trans HF5.out)).alloc _).grownNew HG2.out fun k hk => (HO1.out.lt k hk).1
      refine doorRet (j := 2) stab_Bd rfl hpb0 (hp9.setOther (o := 3) HCS9.out (by decide) (by omega) (by omega) _) (by omega) (HK9.out _ _ (by omega) (by omega) HXS.out) ?_ (hf9.setNew (p := ⟨n, 3, none⟩) hn0 _)
      exact IsBd.mono (fun b hb => ⟨hb.1, by rw [size_setCell]; exact hb.2⟩) (fun _ _ _ _ h => h) _ _ HBD9.out
    · have HN : Hid (Nu w0 (w1.alloc (.cells #[.int .u8 103, .string (bs [102, 97, 105, 108]), .slice none 0 0, .slice none 0 0] 145)) n) := Lib.hid ⟨hn0, by rw [size_alloc]; omega⟩
      have HG : Hid (Nu w0 (w1.alloc (.cells #[.int .u8 103, .string (bs [102, 97, 105, 108]), .slice none 0 0, .slice none 0 0] 145)) g) := Lib.hid ⟨hg0, by rw [size_alloc]; omega⟩
      have HA : Hid (IsBd (fun m => Nu w0 (w1.alloc (.cells #[.int .u8 103, .string (bs [102, 97, 105, 108]), .slice none 0 0, .slice none 0 0] 145)) m ∧ m ≠ n ∧ m ≠ g) (w1.alloc (.cells #[.int .u8 103, .string (bs [102, 97, 105, 108]), .slice none 0 0, .slice none 0 0] 145)) va a) :=
        Lib.hid (IsBd.mono (fun m hm => ⟨⟨hm.1.1, by rw [size_alloc]; have := hm.1.2; omega⟩, hm.2⟩) (fun m o _ _ ho => blk_alloc_old ho) _ _ HA1.out)
      have HB : Hid (IsBd (fun m => Nu w0 (w1.alloc (.cells #[.int .u8 103, .string (bs [102, 97, 105, 108]), .slice none 0 0, .slice none 0 0] 145)) m ∧ m ≠ n ∧ m ≠ g) (w1.alloc (.cells #[.int .u8 103, .string (bs [102, 97, 105, 108]), .slice none 0 0, .slice none 0 0] 145)) vb b) :=
        Lib.hid (IsBd.mono (fun m hm => ⟨⟨hm.1.1, by rw [size_alloc]; have := hm.1.2; omega⟩, hm.2⟩) (fun m o _ _ ho => blk_alloc_old ho) _ _ HB1.out)
      have HCC : Hid (IsBd (fun m => Nu w0 (w1.alloc (.cells #[.int .u8 103, .string (bs [102, 97, 105, 108]), .slice none 0 0, .slice none 0 0] 145)) m ∧ m ≠ n ∧ m ≠ g) (w1.alloc (.cells #[.int .u8 103, .string (bs [102, 97, 105, 108]), .slice none 0 0, .slice none 0 0] 145)) (.pointer (some ⟨w1.heap.size, 0, none⟩)) P.failB) :=
        Lib.hid (isBd_node ⟨⟨hz1, by rw [size_alloc]; omega⟩, by omega, by omega⟩ (blk_alloc_new _ _) isSlEx_nil isSlBd_nil)
      have HCN := HNF
      have HO1 : Hid (((w1.alloc (.cells #[.int .u8 103, .string (bs [102, 97, 105, 108]), .slice none 0 0, .slice none 0 0] 145)).alloc (.cells #[.pointer (some ⟨w1.heap.size, 0, none⟩)] 102)).ownsRow w0.heap.size 102 1 (.slice (some ⟨g, 0, none⟩) 2 2) 2 [va, vb]) :=
        Lib.hid ⟨rfl, .inr ⟨g, 2, _, rfl, hg0, blk_alloc_old HGF.out, Nat.le_refl _, by decide, rfl, rfl⟩⟩
      have HSZ : Hid (w0.heap.size ≤ ((w1.alloc (.cells #[.int .u8 103, .string (bs [102, 97, 105, 108]), .slice none 0 0, .slice none 0 0] 145)).alloc (.cells #[.pointer (some ⟨w1.heap.size, 0, none⟩)] 102)).heap.size) := Lib.hid (by rw [size_alloc, size_alloc]; omega)
      go_wp2_with fail
      refine (sIs_no HPF.out [59] (by simpa using hs) (by decide)).mono ?_
      rintro e w2 ⟨rfl, rfl⟩
      go_wp2_with (at_builtin; go_must (refine wpList_append_own2 rfl _ _ 143 rfl w0.heap.size 102 i0 _ 1 8 Tryz.underlying143 hi iz0 iz1 iz2 rfl (by decide) _ _ _ rfl HO1.out ⟨w1.heap.size + 1, 0, none⟩ 1 1 [.pointer (some ⟨w1.heap.size, 0, none⟩)] rfl rfl (one_new (by rw [size_alloc])) (by simp [Value.oneCell']) (by unfold maxLen; omega) (by omega) (by have := HSZ.out; omega) ?_; intro v' w9 hown2 hgrow2 hfr2; obtain ⟨g2, cap2, rfl⟩ := own_succ hown2; obtain ⟨⟨cs9, hcs9, hcz9⟩, hsz9, hkp9, hbd9⟩ := closeIf HN.out HG.out hng HSZW.out hpb0 HCN.out HA.out HB.out HCC.out hown2 hgrow2 hfr2; have c9 : w9.cell? ⟨n, 3, none⟩ = some (cs9[3]'(by omega)) := cellOf hcs9 (by simp [Array.getElem?_eq_getElem, hcz9]); have f9 := freeOf hcs9 3; have l9 := ltOf hcs9; have HG2 := Lib.hid hgrow2; have HO2 := Lib.hid hown2; have HK9 := Lib.hid hkp9; have HBD9 := Lib.hid hbd9; have HCS9 := Lib.hid hcs9; clear hown2 hgrow2 hfr2 hkp9 hbd9 hcs9))
      have e := HEB.out
      rw [if_neg hs, Option.some.injEq] at e
      subst e
      have hp9 : SP w9 pb tb T k1 v1 d := (HPF.out.ext fun b o h => blk_alloc_old (o := Obj.cells #[Value.pointer (some ⟨w1.heap.size, 0, none⟩)] 102) h).grownRow HO1.out (by decide) hpb0 HG2.out
      have hf9 : SFr pb w0 w9 := (HFF.out.alloc _).grownNew HG2.out fun k hk => (HO1.out.lt k hk).1
      refine ⟨_, results_tmp rfl _ _ _, .pointer (some ⟨n, 0, none⟩), rfl, ?_, hp9.setOther (o := 3) HCS9.out (by decide) (by omega) (by omega) _, hf9.setNew (p := ⟨n, 3, none⟩) hn0 _⟩
      exact IsBd.mono (fun b hb => ⟨hb.1, by rw [size_setCell]; exact hb.2⟩) (fun _ _ _ _ h => h) _ _ HBD9.out
theorem cBody0 : CBody 0 := ⟨fun _ _ _ h => by simp [P.pBody] at h⟩
theorem cBody {f : Nat} (hrow : CRow f) (hbody : ∀ m, m < f → CBody m) : CBody (f + 1) := ⟨fun hp hc hd h => sBody hrow hbody hp hc hd h⟩
end Go.Proofs.YtkmpelgfhjgddaaGreatDoor
namespace Go.Proofs.YtkmpelgfhjgddaaGreatDoor
open Go.RowKit
set_option linter.unusedVariables false
set_option maxRecDepth 100000 in
set_option maxHeartbeats 2000000 in
theorem sLit_deep {pb tb : Nat} {T : List P.Tok} {k : Nat} {vars : List P.Bs} {d : Nat} {w : World} (hp : SP w pb tb T k vars d) (hd : 8 < d + 1) (hd2 : d ≤ 8) :
    Calls Tryz.prog 98 #[.pointer (some ⟨pb, 0, none⟩)] w (SPost IsBd pb tb T d w (.err 4 (P.tk T k).pos)) := by
  have H := Lib.hid hp
  clear hp
  go_enter_defers Tryz.func98, Tryz.ntmps98
  go_wp2_with fail
  refine (sDeeper_no H.out hd (by omega)).mono ?_
  rintro e w1 ⟨⟨b, rfl, hb⟩, hf, hs⟩
  exact ⟨⟨b, rfl, hb⟩, hf, hs⟩
set_option maxRecDepth 100000 in
set_option maxHeartbeats 2000000 in
theorem sLit_cut {pb tb : Nat} {T : List P.Tok} {k : Nat} {vars : List P.Bs} {d : Nat} {w : World} (hp : SP w pb tb T k vars d) (hd : d + 1 ≤ 8) (h1 : P.isT T k [33] = true) :
    Calls Tryz.prog 98 #[.pointer (some ⟨pb, 0, none⟩)] w (SPost IsBd pb tb T d w (.ok (.mk 33 [] [] []) (k + 1) vars)) := by
  have H := Lib.hid hp
  have hpb := hp.d2.2.2
  clear hp
  go_enter_defers Tryz.func98, Tryz.ntmps98
  go_wp2_with fail
  refine (sDeeper_yes H.out hd).mono ?_
  rintro e w1 ⟨rfl, hs1, hx1, hp1, hf1⟩
  have HX1 := Lib.hid hx1
  have HF1 := Lib.hid hf1
  have HP1 := Lib.hid hp1
  have HS1 := Lib.hid hs1
  clear hx1 hf1 hp1 hs1
  go_wp2_with fail
  refine (sIs_yes HP1.out [33] h1).mono ?_
  rintro e w2 ⟨rfl, hp2, hf2⟩
  have HP2 := Lib.hid hp2
  have HF2 := Lib.hid hf2
  clear hp2 hf2 h1
  go_wp2_with fail
  have hs1 := HS1.out
  have hz2 := HF2.out.size
  refine doorRet (j := 2) stab_Bd rfl hpb (HP2.out.ext fun b o h => blk_alloc_old h) (by omega) (blk_alloc_old (HF2.out.keep HX1.out (by omega) (by decide))) ?_ ((HF1.out.trans HF2.out).alloc _)
  exact isBd_node ⟨by omega, by rw [size_alloc]; omega⟩ (blk_alloc_new _ _) isSlEx_nil isSlBd_nil
set_option maxRecDepth 100000 in
set_option maxHeartbeats 2000000 in
theorem sLit_not {f : Nat} (hlit : CLit f) {pb tb : Nat} {T : List P.Tok} {k : Nat} {vars : List P.Bs} {d : Nat} {w : World} (hp : SP w pb tb T k vars d) (hc : STabC w tb) (hd : d + 1 ≤ 8) (h1 : P.isT T k [33] = false) (h2 : P.isT T k [92, 43] = true)
    {r : P.Res P.Bd} (hr : P.pLit T f (k + 1) vars (d + 1) = some r) {q : P.Res P.Bd} (hq : P.Res.bind (some r) (fun b k' vars' => some (.ok (P.Bd.mk 126 [] [] [b]) k' vars')) = some q) :
    Calls Tryz.prog 98 #[.pointer (some ⟨pb, 0, none⟩)] w (SPost IsBd pb tb T d w q) := by
  have H := Lib.hid hp
  have HC := Lib.hid hc
  have HR := Lib.hid hr
  have HQ := Lib.hid hq
  have H1 := Lib.hid h1
  have H2 := Lib.hid h2
  have hpb := hp.d2.2.2
  have htp := hp.lt
  clear hp hc hr hq h1 h2
  go_enter_defers Tryz.func98, Tryz.ntmps98
  go_wp2_with fail
  refine (sDeeper_yes H.out hd).mono ?_
  rintro e w1 ⟨rfl, hs1, hx1, hp1, hf1⟩
  have HX1 := Lib.hid hx1
  have HF1 := Lib.hid hf1
  have HP1 := Lib.hid hp1
  have HS1 := Lib.hid hs1
  clear hx1 hf1 hp1 hs1
  go_wp2_with fail
  refine (sIs_no HP1.out [33] H1.out (by decide)).mono ?_
  rintro e w2 ⟨rfl, rfl⟩
  go_wp2_with fail
  refine (sIs_yes HP1.out [92, 43] H2.out).mono ?_
  rintro e w3 ⟨rfl, hp3, hf3⟩
  have HP3 := Lib.hid hp3
  have HF3 := Lib.hid hf3
  clear hp3 hf3
  go_wp2_with fail
  refine (hlit.go HP3.out (HC.out.fr (HF1.out.trans HF3.out) htp) (by omega) HR.out).mono ?_
  have hs1 := HS1.out
  have hz3 := HF3.out.size
  have e := HQ.out
  cases r with
  | err c0 a0 =>
    rintro e2 w4 ⟨⟨b, rfl, hb3, hl3⟩, hf4, hs4⟩
    simp only [P.Res.bind, Option.some.injEq] at e
    subst e
    exact doorPanic hpb hs4 (hf4.keep (HF3.out.keep HX1.out (by omega) (by decide)) (by omega) (by decide)) ⟨b, rfl, hb3, by omega⟩ ((HF1.out.trans HF3.out).trans hf4)
  | ok y k2 v2 =>
  rintro e2 w4 ⟨v, rfl, hv, hp4, hf4⟩
  simp only [P.Res.bind, Option.some.injEq] at e
  subst e
  obtain ⟨by', rfl, hby⟩ := hv.shape
  have hz4 := hf4.size
  have HV4 := Lib.hid hv
  have HP4 := Lib.hid hp4
  have HF4 := Lib.hid hf4
  clear hv hp4 hf4 hby hs1 HQ
  go_wp2_with fail
  have hs1 := HS1.out
  have hst : ∀ o o', ((w4.alloc o).alloc o').heap.size = w4.heap.size + 2 := fun o o' => by rw [size_alloc, size_alloc]
  refine doorRet (j := 2) stab_Bd rfl hpb (HP4.out.ext fun b o h => blk_alloc_old (blk_alloc_old h)) (by omega) (blk_alloc_old (blk_alloc_old (HF4.out.keep (HF3.out.keep HX1.out (by omega) (by decide)) (by omega) (by decide)))) ?_
    ((((HF1.out.trans HF3.out).trans HF4.out).alloc _).alloc _)
  refine isBd_node ⟨by omega, by rw [hst]; omega⟩ (blk_new1 (by rw [size_alloc])) isSlEx_nil (isSlBd_one ⟨by omega, by rw [hst]; omega⟩ (blk_alloc_old (blk_alloc_new _ _)) ?_)
  exact IsBd.mono (fun b hb => ⟨by have := hb.1; omega, by rw [hst]; have := hb.2; omega⟩) (fun b o hb ha ho => blk_alloc_old (blk_alloc_old ho)) _ _ HV4.out
end Go.Proofs.YtkmpelgfhjgddaaGreatDoor
namespace Go.Proofs.YtkmpelgfhjgddaaGreatDoor
open Go.RowKit
set_option linter.unusedVariables false
theorem TW.paren {T : List P.Tok} (h : TW T) {k : Nat} (hk : k < T.length) (hi : P.isT T k [40] = true) : (P.tk T k).kind = 4 ∧ (P.tk T k).text = [40] := by
  unfold P.isT at hi
  simp only [Bool.and_eq_true, Bool.or_eq_true, beq_iff_eq] at hi
  obtain ⟨h1, h2⟩ := hi
  refine ⟨?_, h2⟩
  rcases h1 with h1 | h1
  · exact h1
  · obtain ⟨c, r, e1, e2⟩ := h.words _ (tk_mem hk) h1
    rw [h2] at e1
    injection e1 with e1 _
    subst e1
    exact absurd e2 (by decide)
theorem not_paren {T : List P.Tok} {k : Nat} (hi : P.isT T k [40] = false) : (P.tk T k).kind ≠ 4 ∨ (P.tk T k).text ≠ [40] := by
  unfold P.isT at hi
  by_cases h1 : (P.tk T k).kind = 4
  · right
    rw [h1] at hi
    simpa using hi
  · exact .inl h1
set_option maxRecDepth 100000 in
set_option maxHeartbeats 2000000 in
theorem sLit_paren {f : Nat} (hbody : CBody f) {pb tb : Nat} {T : List P.Tok} {k : Nat} {vars : List P.Bs} {d : Nat} {w : World} (hp : SP w pb tb T k vars d) (hc : STabC w tb) (hd : d + 1 ≤ 8) (h1 : P.isT T k [33] = false) (h2 : P.isT T k [92, 43] = false)
    (h3 : P.isT T k [40] = true)
    {r : P.Res P.Bd} (hr : P.pBody T f (k + 1) vars (d + 1) = some r) {q : P.Res P.Bd} (hq : P.Res.bind (some r) (fun b k' vars' => P.musT T [41] b k' vars') = some q) :
    Calls Tryz.prog 98 #[.pointer (some ⟨pb, 0, none⟩)] w (SPost IsBd pb tb T d w q) := by
  have H := Lib.hid hp
  have HC := Lib.hid hc
  have HR := Lib.hid hr
  have HQ := Lib.hid hq
  have H1 := Lib.hid h1
  have H2 := Lib.hid h2
  have H3 := Lib.hid h3
  have HK := Lib.hid (hp.tw.paren hp.kt h3)
  have hpb := hp.d2.2.2
  have htp := hp.lt
  clear hp hc hr hq h1 h2 h3
  go_enter_defers Tryz.func98, Tryz.ntmps98
  go_wp2_with fail
  refine (sDeeper_yes H.out hd).mono ?_
  rintro e w1 ⟨rfl, hs1, hx1, hp1, hf1⟩
  have HX1 := Lib.hid hx1
  have HF1 := Lib.hid hf1
  have HP1 := Lib.hid hp1
  have HS1 := Lib.hid hs1
  clear hx1 hf1 hp1 hs1
  go_wp2_with fail
  refine (sIs_no HP1.out [33] H1.out (by decide)).mono ?_
  rintro e w2 ⟨rfl, rfl⟩
  go_wp2_with fail
  refine (sIs_no HP1.out [92, 43] H2.out (by decide)).mono ?_
  rintro e w2 ⟨rfl, rfl⟩
  have hp1 := HP1.out
  obtain ⟨n, c, h0, f0, hb, l1, l2, l3, l4, hp2, hf2⟩ := hp1.on (by have := HK.out; omega)
  obtain ⟨t0, t1, t2⟩ := hp1.toks.at hp1.kt
  have htb : tb < w1.heap.size := by have := hp1.lt; omega
  have hne : ¬ tb = pb := by have := hp1.lt; omega
  have hne' : ¬ pb = tb := by omega
  have HP2 := Lib.hid hp2
  have HF2 := Lib.hid hf2
  rw [HK.out.1] at t0
  rw [HK.out.2] at t1
  clear hp1 hp2 hf2 t2
  go_wp2_with fail
  refine (hbody.go HP2.out (HC.out.fr (HF1.out.trans HF2.out) htp) (by omega) HR.out).mono ?_
  have hs1 := HS1.out
  have hz2 := HF2.out.size
  have e := HQ.out
  have hx2 : ((onW w1 pb tb k n c)).heap[w.heap.size]? = _ := HF2.out.keep HX1.out (by omega) (by decide)
  cases r with
  | err c0 a0 =>
    rintro e2 w4 ⟨⟨b, rfl, hb3, hl3⟩, hf4, hs4⟩
    simp only [P.Res.bind, Option.some.injEq] at e
    subst e
    exact doorPanic hpb hs4 (hf4.keep hx2 (by omega) (by decide)) ⟨b, rfl, hb3, by omega⟩ ((HF1.out.trans HF2.out).trans hf4)
  | ok y k2 v2 =>
  rintro e2 w4 ⟨v, rfl, hv, hp4, hf4⟩
  simp only [P.Res.bind] at e
  obtain ⟨by', rfl, hby⟩ := hv.shape
  have hz4 := hf4.size
  have HV4 := Lib.hid hv
  have HP4 := Lib.hid hp4
  have HF4 := Lib.hid ((HF1.out.trans HF2.out).trans hf4)
  have HX4 := Lib.hid (hf4.keep hx2 (by omega) (by decide))
  have HE := Lib.hid e
  have HBY := Lib.hid hby
  clear hv hp4 hf4 hby HQ hx2 h0 f0 t0 t1 e
  have hz2' : w.heap.size + 1 ≤ w4.heap.size := by omega
  have hz24 : w.heap.size + 1 ≤ (onW w1 pb tb k n c).heap.size := by omega
  have HZ24 := Lib.hid hz24
  clear hs1 hz2 hz4 hz24
  go_wp2_with fail
  have e := HE.out
  unfold P.musT at e
  by_cases hm : P.isT T k2 [41] = true
  · rw [if_pos hm, Option.some.injEq] at e
    subst e
    refine (sMust_yes HP4.out [41] hm).mono ?_
    rintro e w5 ⟨rfl, hp5, hf5⟩
    have HP5 := Lib.hid hp5
    have HF5 := Lib.hid hf5
    clear hp5 hf5 hm HE
    go_wp2_with fail
    have hz5 := HF5.out.size
    have hz24 := HZ24.out
    refine doorRet (j := 2) stab_Bd rfl hpb HP5.out (by omega) (HF5.out.keep HX4.out (by omega) (by decide)) ?_ (HF4.out.trans HF5.out)
    exact stab_Bd _ _ _ _ _ _ _ HV4.out HF5.out fun b hb => ⟨by have := hb.1; omega, by have := hb.1; have := hb.2; exact ⟨by omega, by omega⟩⟩
  · rw [if_neg hm, Option.some.injEq] at e
    subst e
    refine (sMust_no HP4.out [41] (by simpa using hm) (by decide)).mono ?_
    rintro e w5 ⟨⟨b, rfl, hb3, hl3⟩, hf5, hs5⟩
    exact doorPanic hpb hs5 (hf5.keep HX4.out (by omega) (by decide)) ⟨b, rfl, hb3, by omega⟩ (HF4.out.trans hf5)
end Go.Proofs.YtkmpelgfhjgddaaGreatDoor
namespace Go.Proofs.YtkmpelgfhjgddaaGreatDoor
open Go.RowKit
theorem idxArr (a b c d e f g h i : P.Bs) (j : Nat) (hj : j < 9) (v : Value) (hv : (#[Value.string (bs a), .string (bs b), .string (bs c), .string (bs d), .string (bs e), .string (bs f), .string (bs g), .string (bs h), .string (bs i)] : Array Value)[j]? = some v) (w : World) :
    (Instr.index 220 (.agg #[Value.string (bs a), .string (bs b), .string (bs c), .string (bs d), .string (bs e), .string (bs f), .string (bs g), .string (bs h), .string (bs i)]) (.int .i64 j)).run Tryz.prog w = .ok v w := by
  have e1 : (sizeOf 9).run Tryz.prog w = .ok 1 w := by simp [go_sem, Tryz.sizeOf9, Tryz.isAgg9]
  have e2 : (isAgg 9).run Tryz.prog w = .ok false w := by simp [go_sem, Tryz.sizeOf9, Tryz.isAgg9]
  simp [Instr.index, run_underlying Tryz.underlying220, asIntOf, hj, go_sem, e1, e2]
  have : j = 0 ∨ j = 1 ∨ j = 2 ∨ j = 3 ∨ j = 4 ∨ j = 5 ∨ j = 6 ∨ j = 7 ∨ j = 8 := by omega
  rcases this with rfl | rfl | rfl | rfl | rfl | rfl | rfl | rfl | rfl <;> (simp at hv; subst hv; simp [go_sem])
end Go.Proofs.YtkmpelgfhjgddaaGreatDoor
