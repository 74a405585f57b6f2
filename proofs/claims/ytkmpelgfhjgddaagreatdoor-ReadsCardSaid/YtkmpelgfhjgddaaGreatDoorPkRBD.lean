/- A part of one proof (SPrim2, SPrim3, SPrim4, SPrim5, SIdx); no conditions beyond what each theorem names. -/
import Derived.Test.YtkmpelgfhjgddaaGreatDoorPkRBC
set_option linter.all false
set_option linter.unusedVariables false
set_option linter.unusedSimpArgs false
namespace Go.Proofs.YtkmpelgfhjgddaaGreatDoor
open Go.RowKit
set_option linter.unusedVariables false
set_option maxRecDepth 100000 in
set_option maxHeartbeats 1000000 in
theorem sPrim_atom {pb tb : Nat} {T : List P.Tok} {k : Nat} {vars : List P.Bs} {d : Nat} {w : World} (hp : SP w pb tb T k vars d) (hd : d + 1 ≤ 8)
    (hk : (P.tk T k).kind = 1) (ho : P.isT T (k + 1) [40] = false) :
    Calls Tryz.prog 101 #[.pointer (some ⟨pb, 0, none⟩)] w (SPost IsEx pb tb T d w (.ok (.mk 97 (P.tk T k).text 0 0 []) (k + 1) vars)) := by
  have HO := Lib.hid ho
  clear ho
  have H := Lib.hid hp
  have HK := Lib.hid hk
  clear hp hk
  go_enter_defers Tryz.func101, Tryz.ntmps101
  go_wp2_with fail
  refine (sDeeper_yes H.out hd).mono ?_
  rintro e w1 ⟨rfl, hs1, hx1, hp1, hf1⟩
  have HX1 := Lib.hid hx1
  have HF1 := Lib.hid hf1
  have HP1 := Lib.hid hp1
  have HS1 := Lib.hid hs1
  obtain ⟨n, c, h0, f0, hb, l1, l2, l3, l4, hp2, hf2⟩ := hp1.on (by have := HK.out; omega)
  obtain ⟨t0, t1, t2⟩ := hp1.toks.at hp1.kt
  have htb : tb < w1.heap.size := by have := hp1.lt; omega
  have hne : ¬ tb = pb := by have := hp1.lt; omega
  have hne' : ¬ pb = tb := by omega
  have HP2 := Lib.hid hp2
  have HF2 := Lib.hid hf2
  rw [HK.out] at t0
  clear hp1 hf1 hx1 hs1 hp2 hf2
  go_wp2_with fail
  refine (sIs_no (HP2.out.ext fun b o h => blk_alloc_old (blk_alloc_old h)) [40] HO.out (by decide)).mono ?_
  rintro e w3 ⟨rfl, rfl⟩
  go_wp2_with fail
  have hs1 := HS1.out
  have hpb : pb < w.heap.size := H.out.d2.2.2
  have hbx := HF2.out.keep HX1.out (by omega) (by decide)
  refine doorRet (j := 2) stab_Ex rfl hpb (HP2.out.ext fun b o h => blk_alloc_old (blk_alloc_old h)) (by omega) (blk_alloc_old (blk_alloc_old hbx)) ?_
    (((HF1.out.trans HF2.out).alloc _).alloc _)
  exact isEx_leaf ⟨by omega, by rw [size_alloc, size_alloc, size_setCell]; omega⟩ (blk_new1 (by rw [size_alloc, size_setCell]))
set_option maxRecDepth 100000 in
set_option maxHeartbeats 1000000 in
theorem sPrim_comp {f : Nat} (hargs : CArgs f) {pb tb : Nat} {T : List P.Tok} {k : Nat} {vars : List P.Bs} {d : Nat} {w : World} (hp : SP w pb tb T k vars d) (hd : d + 1 ≤ 8)
    (hk : (P.tk T k).kind = 1) (ho : P.isT T (k + 1) [40] = true) {r : P.Res (List P.Ex)} (hr : P.pArgs T f (k + 2) vars (d + 1) (P.tk T k).pos [] = some r)
    {q : P.Res P.Ex} (hq : P.Res.bind (some r) (fun l k' vars' => P.musT T [41] (P.Ex.mk 99 (P.tk T k).text 0 0 l) k' vars') = some q) :
    Calls Tryz.prog 101 #[.pointer (some ⟨pb, 0, none⟩)] w (SPost IsEx pb tb T d w (q)) := by
  have HO := Lib.hid ho
  have HR := Lib.hid hr
  have HQ := Lib.hid hq
  clear ho hr hq
  have H := Lib.hid hp
  have HK := Lib.hid hk
  clear hp hk
  go_enter_defers Tryz.func101, Tryz.ntmps101
  go_wp2_with fail
  refine (sDeeper_yes H.out hd).mono ?_
  rintro e w1 ⟨rfl, hs1, hx1, hp1, hf1⟩
  have HX1 := Lib.hid hx1
  have HF1 := Lib.hid hf1
  have HP1 := Lib.hid hp1
  have HS1 := Lib.hid hs1
  obtain ⟨n, c, h0, f0, hb, l1, l2, l3, l4, hp2, hf2⟩ := hp1.on (by have := HK.out; omega)
  obtain ⟨t0, t1, t2⟩ := hp1.toks.at hp1.kt
  have htb : tb < w1.heap.size := by have := hp1.lt; omega
  have hne : ¬ tb = pb := by have := hp1.lt; omega
  have hne' : ¬ pb = tb := by omega
  have HP2 := Lib.hid hp2
  have HF2 := Lib.hid hf2
  rw [HK.out] at t0
  clear hp1 hf1 hx1 hs1 hp2 hf2
  go_wp2_with fail
  refine (sIs_yes (HP2.out.ext fun b o h => blk_alloc_old (blk_alloc_old h)) [40] HO.out).mono ?_
  have hs1 := HS1.out
  have hpb : pb < w.heap.size := H.out.d2.2.2
  have htp := H.out.lt
  have hbx := HF2.out.keep HX1.out (by omega) (by decide)
  have hbx2 : ∀ o o', (((onW w1 pb tb k n c).alloc o).alloc o').heap[w.heap.size]? = _ := fun o o' => blk_alloc_old (o := o') (blk_alloc_old (o := o) hbx)
  have hex : ∀ o o', (((onW w1 pb tb k n c).alloc o).alloc o').heap[w1.heap.size + 1]? = some o' := fun o o' => blk_new1 (by rw [size_alloc, size_setCell])
  have hsz : ∀ o o', (((onW w1 pb tb k n c).alloc o).alloc o').heap.size = w1.heap.size + 2 := fun o o' => by rw [size_alloc, size_alloc, size_setCell]
  have hfr := fun o o' => ((HF1.out.trans HF2.out).alloc o).alloc o'
  rintro e w3 ⟨rfl, hp3, hf3⟩
  have hbx3 := hf3.keep (hbx2 _ _) (by omega) (by decide)
  have hex3 := hf3.keep (hex _ _) (by omega) (by decide)
  have hfr3 := (hfr _ _).trans hf3
  have hz3 : w1.heap.size + 2 ≤ w3.heap.size := by rw [← hsz]; exact hf3.size
  have HB3 := Lib.hid hbx3
  have HE3 := Lib.hid hex3
  have HF3 := Lib.hid hfr3
  have HP3 := Lib.hid hp3
  have HS := Lib.hid hs1
  have c2 : w3.cell? ⟨w1.heap.size, 2, none⟩ = some (.int .i64 (P.tk T k).pos) :=
    cellOf (hf3.keep (b := w1.heap.size) (blk_alloc_old (blk_new1 (by rw [size_setCell]))) (by omega) (by decide)) rfl
  clear hbx hbx2 hex hsz hfr hp3 hf3 hbx3 hex3 hfr3 hs1 t0 t1 t2 h0 f0
  go_wp2_with fail
  refine (hargs.go _ HP3.out (by omega) HR.out).mono ?_
  cases r with
  | err c0 a0 =>
    rintro e w4 ⟨⟨b, rfl, hb3, hl3⟩, hf3, hs3⟩
    have e := HQ.out
    simp only [P.Res.bind, Option.some.injEq] at e
    subst e
    have hs1 := HS1.out
    exact doorPanic hpb hs3 (hf3.keep HB3.out (by omega) (by decide)) ⟨b, rfl, hb3, by omega⟩ (HF3.out.trans hf3)
  | ok l k' vs =>
    rintro e w4 ⟨v, rfl, hv, hp4, hf4⟩
    obtain ⟨sa, sn, sc, rfl, -, -⟩ := hv.shape
    have hs1 := HS1.out
    have hex4 := hf4.keep HE3.out (by omega) (by decide)
    have hbx4 := hf4.keep HB3.out (by omega) (by decide)
    have x0 : w4.cell? ⟨w1.heap.size + 1, 0, none⟩ = some (.int .u8 97) := cellOf hex4 rfl
    have x4 : w4.cell? ⟨w1.heap.size + 1, 4, none⟩ = some (.slice none 0 0) := cellOf hex4 rfl
    have y0 := freeOf hex4 0
    have y4 := freeOf hex4 4
    have z4 := ltOf hex4
    have hz4 := hf4.size
    have HP4 := Lib.hid hp4
    have HV4 := Lib.hid hv
    have HF4 := Lib.hid (HF3.out.trans hf4)
    have HE4 := Lib.hid hex4
    have HB4 := Lib.hid hbx4
    clear hv hp4 hf4 hex4 hbx4 hs1 c2
    go_wp2_with fail
    have hs1 := HS1.out
    have n1 : w1.heap.size + 1 ≠ pb := by omega
    have n2 : tb < w1.heap.size + 1 := by omega
    have n3 : w.heap.size ≠ w1.heap.size + 1 := by omega
    have hex5 := blk_setCell_same (o := 0) HE4.out (.int .u8 99)
    have hp6 := (HP4.out.setOther (o := 0) HE4.out (by decide) n1 n2 (.int .u8 99)).setOther (o := 4) hex5 (by decide) n1 n2 (.slice sa sn sc)
    have hex6 := blk_setCell_same (o := 4) hex5 (.slice sa sn sc)
    have hbx6 := (blk_setCell_other (a := ⟨w1.heap.size + 1, 4, none⟩) n3 (.slice sa sn sc)).trans ((blk_setCell_other (a := ⟨w1.heap.size + 1, 0, none⟩) n3 (.int .u8 99)).trans HB4.out)
    have hfr6 := (HF4.out.setNew (p := ⟨w1.heap.size + 1, 0, none⟩) (by show w.heap.size ≤ w1.heap.size + 1; omega) (.int .u8 99)).setNew (p := ⟨w1.heap.size + 1, 4, none⟩) (by show w.heap.size ≤ w1.heap.size + 1; omega) (.slice sa sn sc)
    have hv6 := (HV4.out.set (x := w1.heap.size + 1) (o := 0) (fun b hb => by have := hb.1; omega) (.int .u8 99)).set (x := w1.heap.size + 1) (o := 4) (fun b hb => by have := hb.1; omega) (.slice sa sn sc)
    have hz6 : ∀ u v, ((w4.setCell ⟨w1.heap.size + 1, 0, none⟩ u).setCell ⟨w1.heap.size + 1, 4, none⟩ v).heap.size = w4.heap.size := fun u v => by rw [size_setCell, size_setCell]
    have HE6 := Lib.hid hex6
    have HB6 := Lib.hid hbx6
    have HF6 := Lib.hid hfr6
    have HV6 := Lib.hid hv6
    have HZ6 := Lib.hid hz6
    have HP6 := Lib.hid hp6
    clear hex5 hp6 hex6 hbx6 hfr6 hv6 hz6 x0 x4 y0 y4
    have hq := HQ.out
    simp only [P.Res.bind, P.musT] at hq
    by_cases hc : P.isT T k' [41] = true
    · rw [if_pos hc, Option.some.injEq] at hq
      subst hq
      refine (sMust_yes HP6.out [41] hc).mono ?_
      rintro e w7 ⟨rfl, hp7, hf7⟩
      have HP7 := Lib.hid hp7
      have HF7 := Lib.hid hf7
      clear hp7 hf7 hc n1 n2 n3 hs1
      go_wp2_with fail
      have hs1 := HS1.out
      have hz7 := HF7.out.size
      rw [HZ6.out] at hz7
      refine doorRet (j := 2) stab_Ex rfl hpb HP7.out (by omega) (HF7.out.keep HB6.out (by omega) (by decide)) ?_ (HF6.out.trans HF7.out)
      refine isEx_node ⟨by omega, by omega⟩ (HF7.out.keep HE6.out (by omega) (by decide)) ?_
      exact stab_SlEx _ _ _ _ _ _ _ HV6.out HF7.out fun b hb => ⟨by have := hb.1; omega, by have := hb.1; have := hb.2; exact ⟨by omega, by omega⟩⟩
    · rw [if_neg hc, Option.some.injEq] at hq
      subst hq
      refine (sMust_no HP6.out [41] (by simpa using hc) (by decide)).mono ?_
      rintro e w7 ⟨⟨b, rfl, hb3, hl3⟩, hf3, hs3⟩
      rw [HZ6.out] at hl3
      exact doorPanic hpb hs3 (hf3.keep HB6.out (by omega) (by decide)) ⟨b, rfl, hb3, by omega⟩ (HF6.out.trans hf3)
end Go.Proofs.YtkmpelgfhjgddaaGreatDoor
namespace Go.Proofs.YtkmpelgfhjgddaaGreatDoor
open Go.RowKit
set_option linter.unusedVariables false
set_option maxRecDepth 100000 in
set_option maxHeartbeats 1000000 in
theorem sPrim_none {pb tb : Nat} {T : List P.Tok} {k : Nat} {vars : List P.Bs} {d : Nat} {w : World} (hp : SP w pb tb T k vars d) (hd : d + 1 ≤ 8)
    (hk : (P.tk T k).kind = 0 ∨ (P.tk T k).kind = 4) (hm : P.isT T k [45] = false) (hn : P.isT T k [40] = false) (hl : P.isT T k [91] = false) :
    Calls Tryz.prog 101 #[.pointer (some ⟨pb, 0, none⟩)] w (SPost IsEx pb tb T d w (.err 2 (P.tk T k).pos)) := by
  have HM := Lib.hid hm
  have HN := Lib.hid hn
  have HL := Lib.hid hl
  clear hm hn hl
  have H := Lib.hid hp
  go_enter_defers Tryz.func101, Tryz.ntmps101
  go_wp2_with fail
  refine (sDeeper_yes H.out hd).mono ?_
  rintro e w1 ⟨rfl, hs1, hx1, hp1, hf1⟩
  have HX1 := Lib.hid hx1
  have HF1 := Lib.hid hf1
  have HP1 := Lib.hid hp1
  have HS1 := Lib.hid hs1
  obtain ⟨n, c, h0, l1, l2, -, l3, l4⟩ := hp1.l0
  obtain ⟨t0, t1, t2⟩ := hp1.toks.at hp1.kt
  obtain ⟨kd, hkd⟩ : ∃ kd : Int, kd = ((P.tk T k).kind : Int) := ⟨_, rfl⟩
  rw [← hkd] at t0
  have k1 : (kd == 1) = false := by simp; omega
  have k2 : (kd == 2) = false := by simp; omega
  have k3 : (kd == 3) = false := by simp; omega
  have hpw : pb < w1.heap.size := hp1.d2.2.2
  have htb : tb < w1.heap.size := Nat.lt_trans hp1.lt hpw
  have hpb : pb < w.heap.size := hp.d2.2.2
  have htp := hp.lt
  clear hp1 hf1 hx1 hs1 hk hkd hp
  go_wp2_with fail
  have hpa : ∀ o, SP (w1.alloc o) pb tb T k vars (d + 1) := fun o => HP1.out.ext fun b x h => blk_alloc_old h
  have hbxa : ∀ o, (w1.alloc o).heap[w.heap.size]? = _ := fun o => blk_alloc_old (o := o) HX1.out
  have hfra := fun o => HF1.out.alloc o
  have hsza : ∀ o, (w1.alloc o).heap.size = w.heap.size + 2 := fun o => by rw [size_alloc, HS1.out]
  have HPA := Lib.hid hpa
  have HBA := Lib.hid hbxa
  have HFA := Lib.hid hfra
  have HZA := Lib.hid hsza
  clear hpa hbxa hfra hsza
  refine (sIs_no (HPA.out _) [45] HM.out (by decide)).mono ?_
  rintro e w2 ⟨rfl, rfl⟩
  go_wp2_with fail
  refine (sIs_no (HPA.out _) [40] HN.out (by decide)).mono ?_
  rintro e w2 ⟨rfl, rfl⟩
  go_wp2_with fail
  refine (sIs_no (HPA.out _) [91] HL.out (by decide)).mono ?_
  rintro e w2 ⟨rfl, rfl⟩
  go_wp2_with fail
  refine (sNone (HPA.out _)).mono ?_
  rintro e w2 ⟨⟨b, rfl, hb3, hl3⟩, hf3, hs3⟩
  rw [HZA.out] at hl3
  have hs1 := HS1.out
  exact doorPanic hpb hs3 (hf3.keep (HBA.out _) (by omega) (by decide)) ⟨b, rfl, hb3, by omega⟩ ((HFA.out _).trans hf3)
set_option maxRecDepth 100000 in
set_option maxHeartbeats 1000000 in
theorem sPrim_list {f : Nat} (hlist : CList f) {pb tb : Nat} {T : List P.Tok} {k : Nat} {vars : List P.Bs} {d : Nat} {w : World} (hp : SP w pb tb T k vars d) (hd : d + 1 ≤ 8)
    (hk : (P.tk T k).kind = 0 ∨ (P.tk T k).kind = 4) (hm : P.isT T k [45] = false) (hn : P.isT T k [40] = false) (hl : P.isT T k [91] = true)
    {r : P.Res P.Ex} (hr : P.pList T f (k + 1) vars (d + 1) = some r) :
    Calls Tryz.prog 101 #[.pointer (some ⟨pb, 0, none⟩)] w (SPost IsEx pb tb T d w (r)) := by
  have HM := Lib.hid hm
  have HN := Lib.hid hn
  have HL := Lib.hid hl
  have HR := Lib.hid hr
  clear hm hn hl hr
  have H := Lib.hid hp
  go_enter_defers Tryz.func101, Tryz.ntmps101
  go_wp2_with fail
  refine (sDeeper_yes H.out hd).mono ?_
  rintro e w1 ⟨rfl, hs1, hx1, hp1, hf1⟩
  have HX1 := Lib.hid hx1
  have HF1 := Lib.hid hf1
  have HP1 := Lib.hid hp1
  have HS1 := Lib.hid hs1
  obtain ⟨n, c, h0, l1, l2, -, l3, l4⟩ := hp1.l0
  obtain ⟨t0, t1, t2⟩ := hp1.toks.at hp1.kt
  obtain ⟨kd, hkd⟩ : ∃ kd : Int, kd = ((P.tk T k).kind : Int) := ⟨_, rfl⟩
  rw [← hkd] at t0
  have k1 : (kd == 1) = false := by simp; omega
  have k2 : (kd == 2) = false := by simp; omega
  have k3 : (kd == 3) = false := by simp; omega
  have hpw : pb < w1.heap.size := hp1.d2.2.2
  have htb : tb < w1.heap.size := Nat.lt_trans hp1.lt hpw
  have hpb : pb < w.heap.size := hp.d2.2.2
  have htp := hp.lt
  clear hp1 hf1 hx1 hs1 hk hkd hp
  go_wp2_with fail
  have hpa : ∀ o, SP (w1.alloc o) pb tb T k vars (d + 1) := fun o => HP1.out.ext fun b x h => blk_alloc_old h
  have hbxa : ∀ o, (w1.alloc o).heap[w.heap.size]? = _ := fun o => blk_alloc_old (o := o) HX1.out
  have hfra := fun o => HF1.out.alloc o
  have hsza : ∀ o, (w1.alloc o).heap.size = w.heap.size + 2 := fun o => by rw [size_alloc, HS1.out]
  have HPA := Lib.hid hpa
  have HBA := Lib.hid hbxa
  have HFA := Lib.hid hfra
  have HZA := Lib.hid hsza
  clear hpa hbxa hfra hsza
  refine (sIs_no (HPA.out _) [45] HM.out (by decide)).mono ?_
  rintro e w2 ⟨rfl, rfl⟩
  go_wp2_with fail
  refine (sIs_no (HPA.out _) [40] HN.out (by decide)).mono ?_
  rintro e w2 ⟨rfl, rfl⟩
  go_wp2_with fail
  refine (sIs_yes (HPA.out _) [91] HL.out).mono ?_
  rintro e w2 ⟨rfl, hp2, hf2⟩
  have HP2 := Lib.hid hp2
  have hz2 := hf2.size
  rw [HZA.out] at hz2
  have HB2 := Lib.hid (hf2.keep (HBA.out _) (by omega) (by decide))
  have HF2 := Lib.hid ((HFA.out _).trans hf2)
  clear hp2 hf2
  go_wp2_with fail
  refine (hlist.go HP2.out (by omega) HR.out).mono ?_
  cases r with
  | err c0 a0 =>
    rintro e w4 ⟨⟨b, rfl, hb3, hl3⟩, hf3, hs3⟩
    exact doorPanic hpb hs3 (hf3.keep HB2.out (by omega) (by decide)) ⟨b, rfl, hb3, by omega⟩ (HF2.out.trans hf3)
  | ok x k' vs =>
    rintro e w4 ⟨v, rfl, hv, hp4, hf4⟩
    have HV := Lib.hid hv
    have HP4 := Lib.hid hp4
    have HF4 := Lib.hid hf4
    clear hv hp4 hf4
    go_wp2_with fail
    refine doorRet (j := 2) stab_Ex rfl hpb HP4.out (by omega) (HF4.out.keep HB2.out (by omega) (by decide)) ?_ (HF2.out.trans HF4.out)
    exact IsEx.mono (fun b hb => ⟨by have := hb.1; omega, hb.2⟩) (fun _ _ _ _ h => h) _ _ HV.out
set_option maxRecDepth 100000 in
set_option maxHeartbeats 1000000 in
theorem sPrim_paren {f : Nat} (hexpr : CExpr f) {pb tb : Nat} {T : List P.Tok} {k : Nat} {vars : List P.Bs} {d : Nat} {w : World} (hp : SP w pb tb T k vars d) (hd : d + 1 ≤ 8)
    (hk : (P.tk T k).kind = 0 ∨ (P.tk T k).kind = 4) (hm : P.isT T k [45] = false) (hn : P.isT T k [40] = true)
    {r : P.Res P.Ex} (hr : P.pOper T f 0 (k + 1) vars (d + 1) = some r) {q : P.Res P.Ex} (hq : P.Res.bind (some r) (fun x k' vars' => P.musT T [41] x k' vars') = some q) :
    Calls Tryz.prog 101 #[.pointer (some ⟨pb, 0, none⟩)] w (SPost IsEx pb tb T d w (q)) := by
  have HM := Lib.hid hm
  have HN := Lib.hid hn
  have HR := Lib.hid hr
  have HQ := Lib.hid hq
  clear hm hn hr hq
  have H := Lib.hid hp
  go_enter_defers Tryz.func101, Tryz.ntmps101
  go_wp2_with fail
  refine (sDeeper_yes H.out hd).mono ?_
  rintro e w1 ⟨rfl, hs1, hx1, hp1, hf1⟩
  have HX1 := Lib.hid hx1
  have HF1 := Lib.hid hf1
  have HP1 := Lib.hid hp1
  have HS1 := Lib.hid hs1
  obtain ⟨n, c, h0, l1, l2, -, l3, l4⟩ := hp1.l0
  obtain ⟨t0, t1, t2⟩ := hp1.toks.at hp1.kt
  obtain ⟨kd, hkd⟩ : ∃ kd : Int, kd = ((P.tk T k).kind : Int) := ⟨_, rfl⟩
  rw [← hkd] at t0
  have k1 : (kd == 1) = false := by simp; omega
  have k2 : (kd == 2) = false := by simp; omega
  have k3 : (kd == 3) = false := by simp; omega
  have hpw : pb < w1.heap.size := hp1.d2.2.2
  have htb : tb < w1.heap.size := Nat.lt_trans hp1.lt hpw
  have hpb : pb < w.heap.size := hp.d2.2.2
  have htp := hp.lt
  clear hp1 hf1 hx1 hs1 hk hkd hp
  go_wp2_with fail
  have hpa : ∀ o, SP (w1.alloc o) pb tb T k vars (d + 1) := fun o => HP1.out.ext fun b x h => blk_alloc_old h
  have hbxa : ∀ o, (w1.alloc o).heap[w.heap.size]? = _ := fun o => blk_alloc_old (o := o) HX1.out
  have hfra := fun o => HF1.out.alloc o
  have hsza : ∀ o, (w1.alloc o).heap.size = w.heap.size + 2 := fun o => by rw [size_alloc, HS1.out]
  have HPA := Lib.hid hpa
  have HBA := Lib.hid hbxa
  have HFA := Lib.hid hfra
  have HZA := Lib.hid hsza
  clear hpa hbxa hfra hsza
  refine (sIs_no (HPA.out _) [45] HM.out (by decide)).mono ?_
  rintro e w2 ⟨rfl, rfl⟩
  go_wp2_with fail
  refine (sIs_yes (HPA.out _) [40] HN.out).mono ?_
  rintro e w2 ⟨rfl, hp2, hf2⟩
  have HP2 := Lib.hid hp2
  have hz2 := hf2.size
  rw [HZA.out] at hz2
  have HB2 := Lib.hid (hf2.keep (HBA.out _) (by omega) (by decide))
  have HF2 := Lib.hid ((HFA.out _).trans hf2)
  clear hp2 hf2
  go_wp2_with fail
  refine (hexpr.go HP2.out (by omega) HR.out).mono ?_
  cases r with
  | err c0 a0 =>
    rintro e w4 ⟨⟨b, rfl, hb3, hl3⟩, hf3, hs3⟩
    have e := HQ.out
    simp only [P.Res.bind, Option.some.injEq] at e
    subst e
    exact doorPanic hpb hs3 (hf3.keep HB2.out (by omega) (by decide)) ⟨b, rfl, hb3, by omega⟩ (HF2.out.trans hf3)
  | ok x k' vs =>
    rintro e w4 ⟨v, rfl, hv, hp4, hf4⟩
    have HV := Lib.hid hv
    have HP4 := Lib.hid hp4
    have HF4 := Lib.hid hf4
    have HB4 := Lib.hid (hf4.keep HB2.out (by omega) (by decide))
    have hz4 := hf4.size
    clear hv hp4 hf4
    go_wp2_with fail
    have hq := HQ.out
    simp only [P.Res.bind, P.musT] at hq
    by_cases hc : P.isT T k' [41] = true
    · rw [if_pos hc, Option.some.injEq] at hq
      subst hq
      refine (sMust_yes HP4.out [41] hc).mono ?_
      rintro e w7 ⟨rfl, hp7, hf7⟩
      have HP7 := Lib.hid hp7
      have HF7 := Lib.hid hf7
      clear hp7 hf7 hc
      go_wp2_with fail
      have hz7 := HF7.out.size
      refine doorRet (j := 2) stab_Ex rfl hpb HP7.out (by omega) (HF7.out.keep HB4.out (by omega) (by decide)) ?_ ((HF2.out.trans HF4.out).trans HF7.out)
      exact stab_Ex _ _ _ _ _ _ _ HV.out HF7.out fun b hb => ⟨by have := hb.1; omega, by have := hb.1; have := hb.2; exact ⟨by omega, by omega⟩⟩
    · rw [if_neg hc, Option.some.injEq] at hq
      subst hq
      refine (sMust_no HP4.out [41] (by simpa using hc) (by decide)).mono ?_
      rintro e w7 ⟨⟨b, rfl, hb3, hl3⟩, hf3, hs3⟩
      exact doorPanic hpb hs3 (hf3.keep HB4.out (by omega) (by decide)) ⟨b, rfl, hb3, by omega⟩ ((HF2.out.trans HF4.out).trans hf3)
end Go.Proofs.YtkmpelgfhjgddaaGreatDoor
namespace Go.Proofs.YtkmpelgfhjgddaaGreatDoor
open Go.RowKit
set_option linter.unusedVariables false
abbrev box3 (w : World) (x : Nat) (a b c : Value) : World := ((w.setCell ⟨x, 0, none⟩ a).setCell ⟨x, 1, none⟩ b).setCell ⟨x, 2, none⟩ c
theorem box3_size (w : World) (x : Nat) (a b c : Value) : (box3 w x a b c).heap.size = w.heap.size := by rw [size_setCell, size_setCell, size_setCell]
theorem box3_other {w : World} {x y : Nat} (h : y ≠ x) (a b c : Value) : (box3 w x a b c).heap[y]? = w.heap[y]? := by
  rw [blk_setCell_other (show y ≠ x from h), blk_setCell_other (show y ≠ x from h), blk_setCell_other (show y ≠ x from h)]
theorem SP.box3 {w : World} {pb tb x : Nat} {T : List P.Tok} {k : Nat} {vars : List P.Bs} {d : Nat} {cs : Array Value} {t : TypeId} {z : Nat × Nat} (h : SP w pb tb T k vars d)
    (hx : w.heap[x]? = some (.cells cs t z)) (ht : t ≠ 9) (hp : x ≠ pb) (htb : tb < x) (a b c : Value) : SP (box3 w x a b c) pb tb T k vars d :=
  ((h.setOther hx ht hp htb a).setOther (blk_setCell_same hx a) ht hp htb b).setOther (blk_setCell_same (blk_setCell_same hx a) b) ht hp htb c
theorem FrM.box3 {M : Nat → Obj → Prop} {a b : World} (h : FrM M a b) {x : Nat} (hx : a.heap.size ≤ x) (u v s : Value) : FrM M a (box3 b x u v s) :=
  ((h.setNew (p := ⟨x, 0, none⟩) hx u).setNew (p := ⟨x, 1, none⟩) hx v).setNew (p := ⟨x, 2, none⟩) hx s
set_option maxRecDepth 100000 in
set_option maxHeartbeats 1000000 in
theorem sPrim_minus_no {pb tb : Nat} {T : List P.Tok} {k : Nat} {vars : List P.Bs} {d : Nat} {w : World} (hp : SP w pb tb T k vars d) (hd : d + 1 ≤ 8)
    (hk : (P.tk T k).kind = 0 ∨ (P.tk T k).kind = 4) (hm : P.isT T k [45] = true) (hn : (P.tk T (k + 1)).kind ≠ 3) :
    Calls Tryz.prog 101 #[.pointer (some ⟨pb, 0, none⟩)] w (SPost IsEx pb tb T d w (.err 2 (P.tk T (k + 1)).pos)) := by
  have HM := Lib.hid hm
  have HN := Lib.hid hn
  clear hm hn
  have H := Lib.hid hp
  go_enter_defers Tryz.func101, Tryz.ntmps101
  go_wp2_with fail
  refine (sDeeper_yes H.out hd).mono ?_
  rintro e w1 ⟨rfl, hs1, hx1, hp1, hf1⟩
  have HX1 := Lib.hid hx1
  have HF1 := Lib.hid hf1
  have HP1 := Lib.hid hp1
  have HS1 := Lib.hid hs1
  obtain ⟨n, c, h0, l1, l2, -, l3, l4⟩ := hp1.l0
  obtain ⟨t0, t1, t2⟩ := hp1.toks.at hp1.kt
  obtain ⟨kd, hkd⟩ : ∃ kd : Int, kd = ((P.tk T k).kind : Int) := ⟨_, rfl⟩
  rw [← hkd] at t0
  have k1 : (kd == 1) = false := by simp; omega
  have k2 : (kd == 2) = false := by simp; omega
  have k3 : (kd == 3) = false := by simp; omega
  have hpw : pb < w1.heap.size := hp1.d2.2.2
  have htb : tb < w1.heap.size := Nat.lt_trans hp1.lt hpw
  have hpb : pb < w.heap.size := hp.d2.2.2
  have htp := hp.lt
  clear hp1 hf1 hx1 hs1 hk hkd hp
  go_wp2_with fail
  have hpa : ∀ o, SP (w1.alloc o) pb tb T k vars (d + 1) := fun o => HP1.out.ext fun b x h => blk_alloc_old h
  have hbxa : ∀ o, (w1.alloc o).heap[w.heap.size]? = _ := fun o => blk_alloc_old (o := o) HX1.out
  have hfra := fun o => HF1.out.alloc o
  have hsza : ∀ o, (w1.alloc o).heap.size = w.heap.size + 2 := fun o => by rw [size_alloc, HS1.out]
  have HPA := Lib.hid hpa
  have HBA := Lib.hid hbxa
  have HFA := Lib.hid hfra
  have HZA := Lib.hid hsza
  clear hpa hbxa hfra hsza
  have hxb : ∀ o, (w1.alloc o).heap[w1.heap.size]? = some o := fun o => blk_alloc_new w1 o
  refine (sIs_yes (HPA.out _) [45] HM.out).mono ?_
  rintro e w2 ⟨rfl, hp2, hf2⟩
  have hs1 := HS1.out
  have hz2 := hf2.size
  rw [HZA.out] at hz2
  have hb2 := hf2.keep (hxb _) (by omega) (by decide)
  have y0 := freeOf hb2 0
  have y1 := freeOf hb2 1
  have y2 := freeOf hb2 2
  have c0 : w2.cell? ⟨w1.heap.size, 0, none⟩ = some (.int .i64 kd) := cellOf hb2 rfl
  have c1 : w2.cell? ⟨w1.heap.size, 1, none⟩ = some (.string (bs (P.tk T k).text)) := cellOf hb2 rfl
  have c2 : w2.cell? ⟨w1.heap.size, 2, none⟩ = some (.int .i64 (P.tk T k).pos) := cellOf hb2 rfl
  have HP2 := Lib.hid hp2
  have HX2 := Lib.hid hb2
  have HB2 := Lib.hid (hf2.keep (HBA.out _) (by omega) (by decide))
  have HF2 := Lib.hid ((HFA.out _).trans hf2)
  have hpw2 : pb < w2.heap.size := by omega
  have htw2 : tb < w2.heap.size := by omega
  have hww2 : w1.heap.size < w2.heap.size := by omega
  have q1 : ¬ w1.heap.size = pb := by omega
  have q2 : ¬ w1.heap.size = tb := by omega
  have q3 : ¬ pb = w1.heap.size := by omega
  have q4 : ¬ tb = w1.heap.size := by omega
  obtain ⟨n2, cc2, g0, g1, g2, -, g3, g4⟩ := hp2.l0
  obtain ⟨u0, u1, u2⟩ := hp2.toks.at hp2.kt
  obtain ⟨kd2, hkd2⟩ : ∃ kd : Int, kd = ((P.tk T (k + 1)).kind : Int) := ⟨_, rfl⟩
  rw [← hkd2] at u0
  have k32 : (kd2 != 3) = true := by simp; have := HN.out; omega
  clear hp2 hf2 hb2 hs1 hxb hkd2 h0 t0 t1 t2
  go_wp2_with fail
  refine (sNone (HP2.out.box3 HX2.out (by decide) q1 (by omega) _ _ _)).mono ?_
  rintro e w3 ⟨⟨b, rfl, hb3, hl3⟩, hf3, hs3⟩
  rw [box3_size] at hl3
  have hs1 := HS1.out
  exact doorPanic hpb hs3 (hf3.keep ((box3_other (by omega) _ _ _).trans HB2.out) (by omega) (by decide)) ⟨b, rfl, hb3, by omega⟩ ((HF2.out.box3 (by omega) _ _ _).trans hf3)
set_option maxRecDepth 100000 in
set_option maxHeartbeats 1000000 in
theorem sPrim_minus (hint : CInt) {pb tb : Nat} {T : List P.Tok} {k : Nat} {vars : List P.Bs} {d : Nat} {w : World} (hp : SP w pb tb T k vars d) (hd : d + 1 ≤ 8)
    (hk : (P.tk T k).kind = 0 ∨ (P.tk T k).kind = 4) (hm : P.isT T k [45] = true) (hn : (P.tk T (k + 1)).kind = 3) :
    Calls Tryz.prog 101 #[.pointer (some ⟨pb, 0, none⟩)] w (SPost IsEx pb tb T d w (.ok (.mk 110 [] (- P.num (P.tk T (k + 1)).text) 0 []) (k + 2) vars)) := by
  have HM := Lib.hid hm
  have HN := Lib.hid hn
  clear hm hn
  have H := Lib.hid hp
  go_enter_defers Tryz.func101, Tryz.ntmps101
  go_wp2_with fail
  refine (sDeeper_yes H.out hd).mono ?_
  rintro e w1 ⟨rfl, hs1, hx1, hp1, hf1⟩
  have HX1 := Lib.hid hx1
  have HF1 := Lib.hid hf1
  have HP1 := Lib.hid hp1
  have HS1 := Lib.hid hs1
  obtain ⟨n, c, h0, l1, l2, -, l3, l4⟩ := hp1.l0
  obtain ⟨t0, t1, t2⟩ := hp1.toks.at hp1.kt
  obtain ⟨kd, hkd⟩ : ∃ kd : Int, kd = ((P.tk T k).kind : Int) := ⟨_, rfl⟩
  rw [← hkd] at t0
  have k1 : (kd == 1) = false := by simp; omega
  have k2 : (kd == 2) = false := by simp; omega
  have k3 : (kd == 3) = false := by simp; omega
  have hpw : pb < w1.heap.size := hp1.d2.2.2
  have htb : tb < w1.heap.size := Nat.lt_trans hp1.lt hpw
  have hpb : pb < w.heap.size := hp.d2.2.2
  have htp := hp.lt
  clear hp1 hf1 hx1 hs1 hk hkd hp
  go_wp2_with fail
  have hpa : ∀ o, SP (w1.alloc o) pb tb T k vars (d + 1) := fun o => HP1.out.ext fun b x h => blk_alloc_old h
  have hbxa : ∀ o, (w1.alloc o).heap[w.heap.size]? = _ := fun o => blk_alloc_old (o := o) HX1.out
  have hfra := fun o => HF1.out.alloc o
  have hsza : ∀ o, (w1.alloc o).heap.size = w.heap.size + 2 := fun o => by rw [size_alloc, HS1.out]
  have HPA := Lib.hid hpa
  have HBA := Lib.hid hbxa
  have HFA := Lib.hid hfra
  have HZA := Lib.hid hsza
  clear hpa hbxa hfra hsza
  have hxb : ∀ o, (w1.alloc o).heap[w1.heap.size]? = some o := fun o => blk_alloc_new w1 o
  refine (sIs_yes (HPA.out _) [45] HM.out).mono ?_
  rintro e w2 ⟨rfl, hp2, hf2⟩
  have hs1 := HS1.out
  have hz2 := hf2.size
  rw [HZA.out] at hz2
  have hb2 := hf2.keep (hxb _) (by omega) (by decide)
  have y0 := freeOf hb2 0
  have y1 := freeOf hb2 1
  have y2 := freeOf hb2 2
  have c0 : w2.cell? ⟨w1.heap.size, 0, none⟩ = some (.int .i64 kd) := cellOf hb2 rfl
  have c1 : w2.cell? ⟨w1.heap.size, 1, none⟩ = some (.string (bs (P.tk T k).text)) := cellOf hb2 rfl
  have c2 : w2.cell? ⟨w1.heap.size, 2, none⟩ = some (.int .i64 (P.tk T k).pos) := cellOf hb2 rfl
  have HP2 := Lib.hid hp2
  have HX2 := Lib.hid hb2
  have HB2 := Lib.hid (hf2.keep (HBA.out _) (by omega) (by decide))
  have HF2 := Lib.hid ((HFA.out _).trans hf2)
  have hpw2 : pb < w2.heap.size := by omega
  have htw2 : tb < w2.heap.size := by omega
  have hww2 : w1.heap.size < w2.heap.size := by omega
  have q1 : ¬ w1.heap.size = pb := by omega
  have q2 : ¬ w1.heap.size = tb := by omega
  have q3 : ¬ pb = w1.heap.size := by omega
  have q4 : ¬ tb = w1.heap.size := by omega
  have hp3 := hp2.box3 hb2 (by decide) q1 (by omega) (.int .i64 3) (.string (bs (P.tk T (k + 1)).text)) (.int .i64 (P.tk T (k + 1)).pos)
  obtain ⟨n2, cc2, g0, f0, g5, g1, g2, g3, g4, hp4, hf4⟩ := hp3.on (by rw [HN.out]; decide)
  have e0 : w2.cell? ⟨pb, 0, none⟩ = some (.slice (some ⟨tb, (k + 1) * 3, none⟩) n2 cc2) := by
    rw [← g0]; exact (World.cell?_of_block (a := ⟨pb, 0, none⟩) (box3_other q3 _ _ _)).symm
  have e1 : w2.frozen? ⟨pb, 0, none⟩ = false := by
    obtain ⟨_, _, _, _, q, _⟩ := hp2.blk
    exact freeOf q 0
  obtain ⟨u0, u1, u2⟩ := hp2.toks.at hp2.kt
  have hdg := hp2.tw.digits _ (tk_mem hp2.kt) HN.out
  rw [HN.out] at u0
  have e2 : (k + 1) * 3 = k * 3 + 3 := by omega
  rw [e2] at e0 u0 u1 u2
  have hp5 : SP ((box3 w2 w1.heap.size (.int .i64 3) (.string (bs (P.tk T (k + 1)).text)) (.int .i64 (P.tk T (k + 1)).pos)).setCell ⟨pb, 0, none⟩ (.slice (some ⟨tb, k * 3 + 3 + 3, none⟩) (n2 - 1) (cc2 - 1)))
      pb tb T (k + 1 + 1) vars (d + 1) := by rw [← e2]; exact hp4
  have HP4 := Lib.hid hp5
  have HDG := Lib.hid hdg
  have HE2 := Lib.hid e2
  have nb := P.num_bound hdg.2.1 hdg.2.2
  obtain ⟨nb1, nb2⟩ := nb
  clear hp2 hf2 hb2 hs1 hxb h0 t0 t1 t2 hp3 hp4 hf4 hdg g0 f0 g5 e2 hp5
  go_wp2_with fail
  refine (hint.go _ HDG.out.1 HDG.out.2.1 HDG.out.2.2).mono ?_
  rintro e w3 ⟨rfl, he3⟩
  have HE3 := Lib.hid he3
  clear he3
  go_wp2_with fail
  have hs1 := HS1.out
  have hz := HE3.out.size
  rw [size_setCell, box3_size] at hz
  refine doorRet (j := 2) stab_Ex rfl hpb ((HP4.out.ext HE3.out.ext).ext fun b o h => blk_alloc_old h) (by omega)
    (blk_alloc_old (HE3.out.ext _ _ ((blk_setCell_other (show w.heap.size ≠ pb by omega) _).trans ((box3_other (by omega) _ _ _).trans HB2.out)))) ?_
    ((((HF2.out.box3 (by omega) _ _ _).trans (SFr.setp (FrM.refl _ _) _)).trans HE3.out.toM).alloc _)
  exact isEx_leaf ⟨by omega, by rw [size_alloc]; omega⟩ (blk_alloc_new _ _)
end Go.Proofs.YtkmpelgfhjgddaaGreatDoor
namespace Go.Proofs.YtkmpelgfhjgddaaGreatDoor
open Go.RowKit
theorem cPrim0 : CPrim 0 := ⟨fun _ _ h => by simp [P.pPrim] at h⟩
theorem cPrim {f : Nat} (hargs : CArgs f) (hexpr : CExpr f) (hlist : CList f) (hvar : CVar) (hint : CInt) : CPrim (f + 1) := by
  refine ⟨fun {pb tb T k vars d w r} hp hd h => ?_⟩
  rw [P.pPrim] at h
  by_cases hdd : P.maxDepth < d + 1
  · rw [if_pos hdd, Option.some.injEq] at h
    subst h
    exact sPrim_deep hp hdd hd
  rw [if_neg hdd] at h
  have hd' : d + 1 ≤ 8 := by unfold P.maxDepth at hdd; omega
  by_cases h3 : (P.tk T k).kind = 3
  · rw [if_pos h3, Option.some.injEq] at h
    subst h
    exact sPrim_num hint hp hd' h3
  rw [if_neg h3] at h
  by_cases h2 : (P.tk T k).kind = 2
  · rw [if_pos h2, Option.some.injEq] at h
    subst h
    exact sPrim_var hvar hp hd' h2
  rw [if_neg h2] at h
  by_cases h1 : (P.tk T k).kind = 1
  · rw [if_pos h1] at h
    by_cases ho : P.isT T (k + 1) [40] = true
    · rw [if_pos ho] at h
      cases hr : P.pArgs T f (k + 2) vars (d + 1) (P.tk T k).pos [] with
      | none => rw [hr] at h; simp [P.Res.bind] at h
      | some q => rw [hr] at h; exact sPrim_comp hargs hp hd' h1 ho hr h
    · rw [if_neg ho, Option.some.injEq] at h
      subst h
      exact sPrim_atom hp hd' h1 (by simpa using ho)
  rw [if_neg h1] at h
  have hk : (P.tk T k).kind = 0 ∨ (P.tk T k).kind = 4 := by have := hp.tw.kind _ (tk_mem hp.kt); omega
  by_cases hm : P.isT T k [45] = true
  · rw [if_pos hm] at h
    by_cases hn : (P.tk T (k + 1)).kind = 3
    · rw [if_pos hn, Option.some.injEq] at h
      subst h
      exact sPrim_minus hint hp hd' hk hm hn
    · rw [if_neg hn, Option.some.injEq] at h
      subst h
      exact sPrim_minus_no hp hd' hk hm hn
  rw [if_neg hm] at h
  have hm' : P.isT T k [45] = false := by simpa using hm
  by_cases hn : P.isT T k [40] = true
  · rw [if_pos hn] at h
    cases hr : P.pOper T f 0 (k + 1) vars (d + 1) with
    | none => rw [hr] at h; simp [P.Res.bind] at h
    | some q => rw [hr] at h; exact sPrim_paren hexpr hp hd' hk hm' hn hr h
  rw [if_neg hn] at h
  have hn' : P.isT T k [40] = false := by simpa using hn
  by_cases hl : P.isT T k [91] = true
  · rw [if_pos hl] at h
    exact sPrim_list hlist hp hd' hk hm' hn' hl h
  rw [if_neg hl, Option.some.injEq] at h
  subst h
  exact sPrim_none hp hd' hk hm' hn' (by simpa using hl)
end Go.Proofs.YtkmpelgfhjgddaaGreatDoor
namespace Go.Proofs.YtkmpelgfhjgddaaGreatDoor
open Go.RowKit
set_option linter.unusedVariables false
theorem idx_none {l : List P.Bs} {s : P.Bs} (h : ∀ j, j < l.length → l.getD j [] ≠ s) : l.idxOf? s = none := by
  rw [List.idxOf?_eq_none_iff]
  intro hm
  obtain ⟨j, hj, e⟩ := List.getElem_of_mem hm
  exact h j hj (by rw [List.getD_eq_getElem?_getD, List.getElem?_eq_getElem hj]; exact e)
theorem idx_some {l : List P.Bs} {s : P.Bs} {k : Nat} (hk : k < l.length) (he : l.getD k [] = s) (h : ∀ j, j < k → l.getD j [] ≠ s) : l.idxOf? s = some k := by
  rw [List.getD_eq_getElem?_getD, List.getElem?_eq_getElem hk, Option.getD_some] at he
  rw [List.idxOf?, List.findIdx?_eq_some_iff_getElem]
  refine ⟨hk, by simpa using he, fun j hj => ?_⟩
  have := h j hj
  rw [List.getD_eq_getElem?_getD, List.getElem?_eq_getElem (by omega), Option.getD_some] at this
  simpa using this
def goIdx (o : Option Nat) : Int := match o with | some k => k | none => -1
theorem goIdx_none {l : List P.Bs} {s : P.Bs} (h : ∀ j, j < l.length → l.getD j [] ≠ s) : goIdx (l.idxOf? s) = -1 := by rw [idx_none h]; rfl
theorem goIdx_some {l : List P.Bs} {s : P.Bs} {k : Nat} (hk : k < l.length) (he : l.getD k [] = s) (h : ∀ j, j < k → l.getD j [] ≠ s) : goIdx (l.idxOf? s) = k := by rw [idx_some hk he h]; rfl
set_option maxHeartbeats 400000 in
theorem index_nil (s : P.Bs) (w : World) :
    Calls Tryz.prog 129 #[.slice none 0 0, .string (bs s)] w fun e w' => e = .returned (.int .i64 (-1)) ∧ w = w' := by
  go_enter Tryz.func129, Tryz.ntmps129
  go_wp2
  go_loop [8] (fun i => i = .int .i64 0) (fun _ => 0)
  case atStart => rfl
  case round =>
    obtain rfl := hrel
    go_wp2
    go_ret
    exact ⟨rfl, rfl⟩
set_option maxHeartbeats 800000 in
theorem index_row (l : List P.Bs) (s : P.Bs) (g c : Nat) (w : World) (hl : l.length ≤ 100) (hc : ∀ j, j < l.length → w.cell? ⟨g, j, none⟩ = some (.string (bs (l.getD j [])))) :
    Calls Tryz.prog 129 #[.slice (some ⟨g, 0, none⟩) l.length c, .string (bs s)] w fun e w' => e = .returned (.int .i64 (goIdx (l.idxOf? s))) ∧ w = w' := by
  have HC := Lib.hid hc
  clear hc
  obtain ⟨n, hn⟩ : ∃ n, n = l.length := ⟨_, rfl⟩
  rw [← hn] at hl ⊢
  have HN := Lib.hid hn
  clear hn
  obtain ⟨q, hq⟩ : ∃ q, q = goIdx (l.idxOf? s) := ⟨_, rfl⟩
  rw [← hq]
  have HQ := Lib.hid hq
  clear hq
  go_enter Tryz.func129, Tryz.ntmps129
  go_wp2
  go_loop [5, 8] (fun _ i => ∃ k : Nat, k ≤ n ∧ i = .int .i64 k ∧ ∀ j, j < k → l.getD j [] ≠ s) (fun _ i => n - (intOf i).toNat)
  case atStart => exact ⟨0, Nat.zero_le _, rfl, fun j hj => absurd hj (Nat.not_lt_zero _)⟩
  case round =>
    obtain ⟨k, hk, rfl, hno⟩ := hrel
    have HNO := Lib.hid hno
    clear hno
    by_cases hlt : k < n
    · have hcell := HC.out k (by rw [← HN.out]; exact hlt)
      obtain ⟨x, hx⟩ : ∃ x, x = l.getD k [] := ⟨_, rfl⟩
      rw [← hx] at hcell
      have HX := Lib.hid hx
      clear hx
      by_cases he : s = x
      · subst he
        go_wp2
        go_ret
        exact ⟨by rw [HQ.out, goIdx_some (by rw [← HN.out]; exact hlt) HX.out.symm HNO.out]; rfl, rfl⟩
      · have hbf : (s == x) = false := by simpa using he
        go_wp2
        refine ⟨⟨k + 1, by omega, by go_num, fun j hj => ?_⟩, by simp [intOf]; omega⟩
        rcases Nat.lt_or_ge j k with h | h
        · exact HNO.out j h
        · obtain rfl : j = k := by omega
          rw [← HX.out]; exact fun h => he h.symm
    · go_wp2
      go_ret
      refine ⟨?_, rfl⟩
      have e := HN.out
      rw [HQ.out, goIdx_none (fun j hj => HNO.out j (by omega))]
      rfl
theorem index_at (l : List P.Bs) (s : P.Bs) (vv : Value) (w : World) (hl : l.length ≤ 100) (q : Int) (hq : goIdx (l.idxOf? s) = q)
    (hr : (l = [] ∧ vv = .slice none 0 0) ∨ ∃ g c, vv = .slice (some ⟨g, 0, none⟩) l.length c ∧ ∀ j, j < l.length → w.cell? ⟨g, j, none⟩ = some (.string (bs (l.getD j [])))) :
    Calls Tryz.prog 129 #[vv, .string (bs s)] w fun e w' => e = .returned (.int .i64 q) ∧ w' = w := by
  rcases hr with ⟨rfl, rfl⟩ | ⟨g, c, rfl, h⟩
  · have : q = -1 := by rw [← hq]; rfl
    subst this
    exact (index_nil s w).mono fun e w' h => ⟨h.1, h.2.symm⟩
  · subst hq
    exact (index_row l s g c w hl h).mono fun e w' h => ⟨h.1, h.2.symm⟩
end Go.Proofs.YtkmpelgfhjgddaaGreatDoor
