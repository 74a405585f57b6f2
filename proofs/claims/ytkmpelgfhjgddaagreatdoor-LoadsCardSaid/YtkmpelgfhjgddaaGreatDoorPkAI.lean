/- A part of one proof (SX5, SX6, SX7); no conditions beyond what each theorem names. -/
import Derived.Test.YtkmpelgfhjgddaaGreatDoorPkAH
import Derived.Test.YtkmpelgfhjgddaaGreatDoorPkG
import Derived.Recover
import Derived.Tactics
import Derived.Tactics2
import Derived.Test.YtkmpelgfhjgddaaGreatDoorPkAE
set_option linter.all false
set_option linter.unusedVariables false
set_option linter.unusedSimpArgs false
namespace Go.Proofs.YtkmpelgfhjgddaaGreatDoor
open Go.RowKit Sx
set_option maxRecDepth 100000
theorem Tryz.taNil (w : World) : (Instr.typeAssert .nilIface 20 85 true).run Tryz.prog w = .ok (.tuple #[.pointer none, .bool false]) w := by kernel_rfl
theorem Tryz.taAt (v : Value) (w : World) : (Instr.typeAssert (.iface 85 v) 20 85 true).run Tryz.prog w = .ok (.tuple #[v, .bool true]) w := by kernel_rfl
set_option maxHeartbeats 1000000 in
theorem sCatchIdle (v4 v5 : Value) (w : World) : CallsD Tryz.prog 76 #[v4, v5] .returning w fun e u' w' => e = .returned (.tuple #[]) ∧ u' = .returning ∧ w' = w := by
  refine callsD_of_wpS Tryz.func76 rfl fun c₀ cs hu => ?_
  apply wpS_seq
  apply wpS_region
  simp [wpOpsS, go_sem, recoverD, hu, Tryz.ntmps76, Exit.thenS, Tryz.taNil]
  apply wpS_seq
  apply wpS_region
  simp [wpOpsS, go_sem, recoverD, hu, Tryz.ntmps76, Exit.thenS]
  refine wpS_cond (t := false) (by simp [Act.eval]) ?_
  simp only [Bool.false_eq_true, if_false]
  refine wpS_of_wp (wp_skip ?_)
  cases c₀
  simp_all [bodyPostS, results, Tryz.results76]
set_option maxHeartbeats 1000000 in
theorem sCatchAt (b4 b5 : Nat) (o4 o5 : Value) (v : Value) (older : List PanicEntry) (w : World) (h4 : w.cell? ⟨b4, 0, none⟩ = some o4) (z4 : w.frozen? ⟨b4, 0, none⟩ = false)
    (h5 : (w.setCell ⟨b4, 0, none⟩ (.slice none 0 0)).cell? ⟨b5, 0, none⟩ = some o5) (z5 : (w.setCell ⟨b4, 0, none⟩ (.slice none 0 0)).frozen? ⟨b5, 0, none⟩ = false) :
    CallsD Tryz.prog 76 #[.pointer (some ⟨b4, 0, none⟩), .pointer (some ⟨b5, 0, none⟩)] (.panicking ({ v := .iface 85 v, recovered := false } :: older)) w fun e u' w' =>
      e = .returned (.tuple #[]) ∧ u' = .panicking ({ v := .iface 85 v, recovered := true } :: older) ∧ w' = (w.setCell ⟨b4, 0, none⟩ (.slice none 0 0)).setCell ⟨b5, 0, none⟩ (.iface 85 v) := by
  refine callsD_of_wpS Tryz.func76 rfl fun c₀ cs hu => ?_
  apply wpS_seq
  apply wpS_region
  simp [wpOpsS, go_sem, recoverD, hu, Tryz.ntmps76, Exit.thenS, Tryz.taAt]
  apply wpS_seq
  apply wpS_region
  simp [wpOpsS, go_sem, recoverD, hu, Tryz.ntmps76, Exit.thenS]
  refine wpS_cond (t := true) (by simp [Act.eval]) ?_
  simp only [if_true]
  apply wpS_seq
  apply wpS_region
  simp [wpOpsS, go_sem, recoverD, hu, Tryz.ntmps76, Exit.thenS]
  apply wpS_region
  simp [wpOpsS, go_sem, recoverD, hu, Tryz.ntmps76, Exit.thenS, h4, z4, h5, z5]
  simp [bodyPostS, results, Tryz.results76]
end Go.Proofs.YtkmpelgfhjgddaaGreatDoor
namespace Go.Proofs.YtkmpelgfhjgddaaGreatDoor
open Go.RowKit Sx
set_option maxRecDepth 100000
theorem STab.up {w : World} {B B' : Nat} (h : STab w B) (hb : B ≤ B') : STab w B' :=
  ⟨Nat.lt_of_lt_of_le h.lt hb, fun l hl => let ⟨b, o, c, h1, h2⟩ := h.lev l hl; ⟨b, o, c, Nat.lt_of_lt_of_le h1 hb, h2⟩⟩
theorem STabC.up {w : World} {B B' : Nat} (h : STabC w B) (hb : B ≤ B') : STabC w B' := ⟨Nat.lt_of_lt_of_le h.lt hb, h.cell⟩
structure STabs (w : World) : Prop where
  lev : STab w w.heap.size
  cmp : STabC w w.heap.size
  sig : STabS w
theorem STabs.ext {w w' : World} (h : STabs w) (hE : Ext w w') : STabs w' :=
  ⟨(h.lev.ext fun b o _ => hE.ext b o).up hE.size, (h.cmp.ext fun b o _ => hE.ext b o).up hE.size, h.sig.ext hE⟩
theorem lvIdle {res : World → Prop} {R : Ending → World → Prop} {v4 v5 : Value} {w : World} (h : res w) :
    LV Tryz.prog res R [{ target := .fn (.func 76) #[v4, v5], args := #[] ++ #[] }] .returning w := by
  refine lv_call (by kernel_rfl) (by simp) ((sCatchIdle v4 v5 w).mono ?_)
  rintro e u' w' ⟨rfl, rfl, rfl⟩
  exact h
theorem lvCatch {res : World → Prop} {R : Ending → World → Prop} {b4 b5 : Nat} {o4 o5 v : Value} {w : World} (h4 : w.heap[b4]? = some (.cells #[o4] 80 (0, 0)))
    (h5 : w.heap[b5]? = some (.cells #[o5] 48 (0, 0))) (hne : b4 ≠ b5)
    (h : res (upd (upd w b4 (.cells #[.slice none 0 0] 80 (0, 0))) b5 (.cells #[.iface 85 v] 48 (0, 0)))) :
    LV Tryz.prog res R [{ target := .fn (.func 76) #[.pointer (some ⟨b4, 0, none⟩), .pointer (some ⟨b5, 0, none⟩)], args := #[] ++ #[] }]
      (.panicking [{ v := .iface 85 v, recovered := false }]) w := by
  have e1 : w.setCell ⟨b4, 0, none⟩ (.slice none 0 0) = upd w b4 (.cells #[.slice none 0 0] 80 (0, 0)) := upd_setCell h4 _
  have h5' : (upd w b4 (.cells #[.slice none 0 0] 80 (0, 0))).heap[b5]? = some (.cells #[o5] 48 (0, 0)) := by
    rw [hp_upd_other (by omega)]; exact h5
  refine lv_call (by kernel_rfl) (by simp) ((sCatchAt b4 b5 o4 o5 v [] w (by simp [World.cell?, h4]) (freeOf h4 0) (by rw [e1]; simp [World.cell?, h5']) (by rw [e1]; exact freeOf h5' 0)).mono ?_)
  rintro e u' w' ⟨rfl, rfl, rfl⟩
  rw [e1, upd_setCell h5']
  exact h
theorem SP.fresh {w : World} {pb : Nat} {T : List P.Tok} {n : Nat} {tb cap : Nat} {cur : Array Value} (hT : P.LexOk n T) (hn : n ≤ 2000) (ht : w.heap[tb]? = some (.cells cur 139 (0, 0)))
    (hc : cur.toList.take (T.length * 3) = scells T) (hs : STab w tb) (hlt : tb < pb) (h1 : T.length ≤ cap) (h2 : cap ≤ 9223372036854775807)
    (hp : w.heap[pb]? = some (.cells #[.slice (some ⟨tb, 0, none⟩) T.length cap, .slice none 0 0, .int .i64 0] 142 (0, 0))) : SP w pb tb T 0 [] 0 := by
  have htw := TWs.of hT hn
  have hcl : ∀ i, i < T.length * 3 → cur[i]? = (scells T)[i]? := fun i hi => by
    rw [← hc, List.getElem?_take_of_lt hi, Array.getElem?_toList]
  refine ⟨htw.toTW, hlt, htw.toTW.pos, by simp, ⟨hs, cur, ht, fun j hj => ?_⟩, cap, .slice none 0 0, h1, h2, by simpa using hp, World.ownsRow_nil _ _ _ _⟩
  obtain ⟨c1, c2, c3⟩ := scells_at T j hj
  rw [hcl _ (by omega), hcl _ (by omega), hcl _ (by omega)]
  exact ⟨c1, c2, c3⟩
def SPostQ (w : World) (s : P.Bs) (e : Ending) (w' : World) : Prop :=
  Ext w w' ∧ match P.program s with
  | .err c a => ∃ b, e = .returned (.tuple #[.slice none 0 0, .iface 85 (.pointer (some ⟨b, 0, none⟩))]) ∧ w'.heap[b]? = some (.cells #[.int .i64 c, .int .i64 a] 89 (0, 0))
  | .ok cs _ _ => ∃ v vs, e = .returned (.tuple #[v, .nilIface]) ∧ IsSl (Nu w w') w' 97 v vs ∧ IsCls (Nu w w') w' vs cs
theorem caughtErr {s : P.Bs} {w wz : World} {c a b : Nat} {o4 o5 : Value} (hpr : P.program s = .err c a) (hE : Ext w wz) (q4 : wz.heap[w.heap.size]? = some (.cells #[o4] 80 (0, 0)))
    (q5 : wz.heap[w.heap.size + 1]? = some (.cells #[o5] 48 (0, 0))) (h1 : wz.heap[b]? = some (.cells #[.int .i64 c, .int .i64 a] 89 (0, 0))) (hb : w.heap.size + 2 ≤ b) :
    LV Tryz.prog (fun wz => RD Tryz.prog (Instr.loadAt 80 (.pointer (some ⟨w.heap.size, 0, none⟩))) wz (fun r => RD Tryz.prog (Instr.loadAt 48 (.pointer (some ⟨w.heap.size + 1, 0, none⟩))) wz
        (fun r1 => SPostQ w s (.returned (.tuple #[r, r1])) wz) NX) NX) (SPostQ w s)
      [{ target := .fn (.func 76) #[.pointer (some ⟨w.heap.size, 0, none⟩), .pointer (some ⟨w.heap.size + 1, 0, none⟩)], args := #[] ++ #[] }]
      (.panicking [{ v := .iface 85 (.pointer (some ⟨b, 0, none⟩)), recovered := false }]) wz := by
  refine lvCatch q4 q5 (by omega) ?_
  have l4 := ltOf q4
  have l5 := ltOf q5
  have k4 : (upd (upd wz w.heap.size (.cells #[.slice none 0 0] 80 (0, 0))) (w.heap.size + 1) (.cells #[.iface 85 (.pointer (some ⟨b, 0, none⟩))] 48 (0, 0))).heap[w.heap.size]? = some (.cells #[.slice none 0 0] 80 (0, 0)) := by
    simp (disch := first | assumption | omega | ((simp only [size_alloc, sz_drew, size_upd, List.size_toArray, List.length_cons, List.length_nil]) <;> omega) | decide) only [hp_alloc_old, hp_alloc_new, hp_upd_same, hp_upd_other, hp_drew, sz_drew, size_upd, size_alloc]
  have k5 : (upd (upd wz w.heap.size (.cells #[.slice none 0 0] 80 (0, 0))) (w.heap.size + 1) (.cells #[.iface 85 (.pointer (some ⟨b, 0, none⟩))] 48 (0, 0))).heap[w.heap.size + 1]? = some (.cells #[.iface 85 (.pointer (some ⟨b, 0, none⟩))] 48 (0, 0)) := by
    simp (disch := first | assumption | omega | ((simp only [size_alloc, sz_drew, size_upd, List.size_toArray, List.length_cons, List.length_nil]) <;> omega) | decide) only [hp_alloc_old, hp_alloc_new, hp_upd_same, hp_upd_other, hp_drew, sz_drew, size_upd, size_alloc]
  simp (disch := first | assumption | omega | ((simp only [size_alloc, sz_drew, size_upd, List.size_toArray, List.length_cons, List.length_nil]) <;> omega) | decide) only [sh_s_caught_LPs_Clause, Pr, PX, PC, NX, ends, fillL, wrL, sOf, Nat.reduceAdd, Nat.reduceMul, Nat.reduceLeDiff, Nat.reduceEqDiff, Int.reduceToNat, Int.reduceAdd, Int.reduceLT, Int.reduceLE, ↓reduceIte, forall_const, eq_self, zG1, zG2, al_48, al_80, bd_142, ld_48, ld_80, st_48, st_80, k4, k5]
  refine ⟨by (repeat (first | assumption | exact FrM.refl _ _ | (refine FrM.upd ?_ (.inr (by (try simp only [size_alloc, sz_drew, size_upd, List.size_toArray, List.length_cons, List.length_nil]) <;> omega))) | refine FrM.alloc ?_ _ | refine FrM.drew ?_)), ?_⟩
  rw [hpr]
  refine ⟨b, rfl, ?_⟩
  rw [hp_upd_other (by omega), hp_upd_other (by omega)]
  exact h1
theorem sCaughtL (s : P.Bs) (w : World) (hl : s.length ≤ 100000) (hT : STabs w) :
    Calls Tryz.prog 48 #[.string (bs s), .func (.func 49) #[] #[]] w (SPostQ w s) := by
  refine sh_s_caught_LPs_Clause_ok ?_
  simp (disch := first | assumption | omega | ((simp only [size_alloc, sz_drew, size_upd, List.size_toArray, List.length_cons, List.length_nil]) <;> omega) | decide) only [sh_s_caught_LPs_Clause, Pr, PX, PC, NX, ends, fillL, wrL, sOf, Nat.reduceAdd, Nat.reduceMul, Nat.reduceLeDiff, Nat.reduceEqDiff, Int.reduceToNat, Int.reduceAdd, Int.reduceLT, Int.reduceLE, ↓reduceIte, forall_const, eq_self, zG1, zG2, al_48, al_80, bd_142, ld_48, ld_80, st_48, st_80]
  obtain ⟨wA, hwA⟩ : ∃ x, x = (w.alloc (.cells #[.slice none 0 0] 80 (0, 0))).alloc (.cells #[.nilIface] 48 (0, 0)) := ⟨_, rfl⟩
  have sA : wA.heap.size = w.heap.size + 2 := by rw [hwA]; simp
  have hEA : Ext w wA := by rw [hwA]; (repeat (first | assumption | exact FrM.refl _ _ | (refine FrM.upd ?_ (.inr (by (try simp only [size_alloc, sz_drew, size_upd, List.size_toArray, List.length_cons, List.length_nil]) <;> omega))) | refine FrM.alloc ?_ _ | refine FrM.drew ?_))
  have b4 : wA.heap[w.heap.size]? = some (.cells #[.slice none 0 0] 80 (0, 0)) := by rw [hwA]; simp (disch := first | assumption | omega | ((simp only [size_alloc, sz_drew, size_upd, List.size_toArray, List.length_cons, List.length_nil]) <;> omega) | decide) only [hp_alloc_old, hp_alloc_new, hp_upd_same, hp_upd_other, hp_drew, sz_drew, size_upd, size_alloc]
  have b5 : wA.heap[w.heap.size + 1]? = some (.cells #[.nilIface] 48 (0, 0)) := by rw [hwA]; simp (disch := first | assumption | omega | ((simp only [size_alloc, sz_drew, size_upd, List.size_toArray, List.length_cons, List.length_nil]) <;> omega) | decide) only [hp_alloc_old, hp_alloc_new, hp_upd_same, hp_upd_other, hp_drew, sz_drew, size_upd, size_alloc]
  rw [size_alloc, ← hwA]
  refine (sLex s wA hl (hT.sig.ext hEA)).mono ?_
  rintro e w1 ⟨hE1, hp⟩
  have s1 := hE1.size
  by_cases h2 : 2000 < s.length
  · rw [if_pos h2] at hp
    obtain ⟨b, rfl, h1, h3⟩ := hp
    exact caughtErr (by rw [P.program, if_pos h2]) (hEA.trans hE1) (hE1.ext _ _ b4) (hE1.ext _ _ b5) h1 (by omega)
  rw [if_neg h2] at hp
  cases hx : P.lex s with
  | inl i =>
    rw [hx] at hp
    obtain ⟨b, rfl, h1, h3⟩ := hp
    exact caughtErr (by rw [P.program, if_neg h2, hx]) (hEA.trans hE1) (hE1.ext _ _ b4) (hE1.ext _ _ b5) h1 (by omega)
  | inr T =>
    rw [hx] at hp
    obtain ⟨v, rfl, hown⟩ := hp
    have hlo := lex_ok hx
    have hTn : 0 < T.length := (TWs.of hlo (by omega)).toTW.pos
    obtain ⟨htl, hown⟩ := hown
    rcases hown with ⟨-, h0⟩ | ⟨tb, cap, cur, rfl, ht1, ht2, ht3, ht4, ht5, ht6⟩
    · omega
    simp (disch := first | assumption | omega | ((simp only [size_alloc, sz_drew, size_upd, List.size_toArray, List.length_cons, List.length_nil]) <;> omega) | decide) only [sh_s_caught_LPs_Clause, Pr, PX, PC, NX, ends, fillL, wrL, sOf, Nat.reduceAdd, Nat.reduceMul, Nat.reduceLeDiff, Nat.reduceEqDiff, Int.reduceToNat, Int.reduceAdd, Int.reduceLT, Int.reduceLE, ↓reduceIte, forall_const, eq_self, zG1, zG2, al_48, al_80, bd_142, ld_48, ld_80, st_48, st_80]
    have lt1 := ltOf ht2
    have hEB : Ext w wA := hEA
    obtain ⟨wP, hwP⟩ : ∃ x, x = w1.alloc (.cells #[.slice (some ⟨tb, 0, none⟩) T.length cap, .slice none 0 0, .int .i64 0] 142 (0, 0)) := ⟨_, rfl⟩
    have hEP : Ext w1 wP := by rw [hwP]; (repeat (first | assumption | exact FrM.refl _ _ | (refine FrM.upd ?_ (.inr (by (try simp only [size_alloc, sz_drew, size_upd, List.size_toArray, List.length_cons, List.length_nil]) <;> omega))) | refine FrM.alloc ?_ _ | refine FrM.drew ?_))
    have sP : wP.heap.size = w1.heap.size + 1 := by rw [hwP]; simp
    have bP : wP.heap[w1.heap.size]? = some (.cells #[.slice (some ⟨tb, 0, none⟩) T.length cap, .slice none 0 0, .int .i64 0] 142 (0, 0)) := by rw [hwP]; simp (disch := first | assumption | omega | ((simp only [size_alloc, sz_drew, size_upd, List.size_toArray, List.length_cons, List.length_nil]) <;> omega) | decide) only [hp_alloc_old, hp_alloc_new, hp_upd_same, hp_upd_other, hp_drew, sz_drew, size_upd, size_alloc]
    rw [← hwP]
    have hEw : Ext w wP := (hEA.trans hE1).trans hEP
    have hsp : SP wP w1.heap.size tb T 0 [] 0 := SP.fresh hlo (by omega) (hEP.ext _ _ ht2) ht6 ((hT.lev.ext fun b o _ => hEw.ext b o).up (by omega)) lt1 ht3 (by unfold maxLen at ht4; omega) bP
    refine ⟨by kernel_rfl, (sProg1 hsp ((hT.cmp.ext fun b o _ => hEw.ext b o).up (by omega))).mono ?_⟩
    have hpr : P.program s = P.progT T := by rw [P.program, if_neg h2, hx]
    rintro e w3 ⟨hF, hq⟩
    have s3 := hF.size
    have hE3 : Ext w1 w3 := ⟨hF.os.trans hEP.os, hF.tape.trans hEP.tape, hF.output.trans hEP.output, by omega, fun b o hb _ => hF.block b o (hEP.ext _ _ hb) (by
      have := ltOf hb
      rintro (h | ⟨h, _⟩) <;> omega)⟩
    have hEw3 : Ext w w3 := (hEA.trans hE1).trans hE3
    have q4 := hE3.ext _ _ (hE1.ext _ _ b4)
    have q5 := hE3.ext _ _ (hE1.ext _ _ b5)
    cases hr : P.progT T with
    | err c a =>
      rw [hr] at hq
      obtain ⟨b, rfl, h1, h3⟩ := hq
      exact caughtErr (hpr.trans hr) hEw3 q4 q5 h1 (by omega)
    | ok cs k vs' =>
      rw [hr] at hq
      obtain ⟨v, vs, rfl, g1, g2⟩ := hq
      obtain ⟨sa, sn, sc, rfl⟩ : ∃ a n c, v = .slice a n c := by rcases g1 with ⟨-, rfl⟩ | ⟨b, cs', rfl, -⟩ <;> exact ⟨_, _, _, rfl⟩
      have l4 := ltOf q4
      have l5 := ltOf q5
      simp (disch := first | assumption | omega | ((simp only [size_alloc, sz_drew, size_upd, List.size_toArray, List.length_cons, List.length_nil]) <;> omega) | decide) only [sh_s_caught_LPs_Clause, Pr, PX, PC, NX, ends, fillL, wrL, sOf, Nat.reduceAdd, Nat.reduceMul, Nat.reduceLeDiff, Nat.reduceEqDiff, Int.reduceToNat, Int.reduceAdd, Int.reduceLT, Int.reduceLE, ↓reduceIte, forall_const, eq_self, zG1, zG2, al_48, al_80, bd_142, ld_48, ld_80, st_48, st_80, q4, q5]
      refine lvIdle ?_
      obtain ⟨wz, hwz⟩ : ∃ x, x = upd (upd w3 w.heap.size (.cells #[.slice sa sn sc] 80 (0, 0))) (w.heap.size + 1) (.cells #[.nilIface] 48 (0, 0)) := ⟨_, rfl⟩
      have k4 : wz.heap[w.heap.size]? = some (.cells #[.slice sa sn sc] 80 (0, 0)) := by rw [hwz]; simp (disch := first | assumption | omega | ((simp only [size_alloc, sz_drew, size_upd, List.size_toArray, List.length_cons, List.length_nil]) <;> omega) | decide) only [hp_alloc_old, hp_alloc_new, hp_upd_same, hp_upd_other, hp_drew, sz_drew, size_upd, size_alloc]
      have k5 : wz.heap[w.heap.size + 1]? = some (.cells #[.nilIface] 48 (0, 0)) := by rw [hwz]; simp (disch := first | assumption | omega | ((simp only [size_alloc, sz_drew, size_upd, List.size_toArray, List.length_cons, List.length_nil]) <;> omega) | decide) only [hp_alloc_old, hp_alloc_new, hp_upd_same, hp_upd_other, hp_drew, sz_drew, size_upd, size_alloc]
      have hz : ∀ b o, b ≠ w.heap.size → b ≠ w.heap.size + 1 → w3.heap[b]? = some o → wz.heap[b]? = some o := fun b o n1 n2 ho => by
        rw [hwz, hp_upd_other (by omega), hp_upd_other (by omega)]; exact ho
      have hEz : Ext w wz := by rw [hwz]; (repeat (first | assumption | exact FrM.refl _ _ | (refine FrM.upd ?_ (.inr (by (try simp only [size_alloc, sz_drew, size_upd, List.size_toArray, List.length_cons, List.length_nil]) <;> omega))) | refine FrM.alloc ?_ _ | refine FrM.drew ?_))
      have sz : wz.heap.size = w3.heap.size := by rw [hwz, size_upd, size_upd]
      rw [← hwz]
      simp (disch := first | assumption | omega | ((simp only [size_alloc, sz_drew, size_upd, List.size_toArray, List.length_cons, List.length_nil]) <;> omega) | decide) only [sh_s_caught_LPs_Clause, Pr, PX, PC, NX, ends, fillL, wrL, sOf, Nat.reduceAdd, Nat.reduceMul, Nat.reduceLeDiff, Nat.reduceEqDiff, Int.reduceToNat, Int.reduceAdd, Int.reduceLT, Int.reduceLE, ↓reduceIte, forall_const, eq_self, zG1, zG2, al_48, al_80, bd_142, ld_48, ld_80, st_48, st_80, k4, k5]
      refine ⟨hEz, ?_⟩
      rw [hpr, hr]
      have hf : ∀ b, Nu wP w3 b → Nu w wz b := fun b hb => ⟨by have := hb.1; omega, by have := hb.2; omega⟩
      exact ⟨_, vs, rfl, g1.mono hf fun b cs hb ho => hz b _ (by have := hb.1; omega) (by have := hb.1; omega) ho, g2.mono hf (fun b cs t hb _ ho => hz b _ (by have := hb.1; omega) (by have := hb.1; omega) ho)⟩
end Go.Proofs.YtkmpelgfhjgddaaGreatDoor
namespace Go.Proofs.YtkmpelgfhjgddaaGreatDoor
open Go.RowKit Sx
set_option maxRecDepth 100000
theorem sProgram (s : P.Bs) (w : World) (hl : s.length ≤ 100000) (hT : STabs w) : Calls Tryz.prog 28 #[.string (bs s)] w (SPostQ w s) := by
  refine sh_s_Program_ok ?_
  refine (sCaughtL s w hl hT).mono ?_
  rintro e w1 ⟨hE, hp⟩
  cases hr : P.program s with
  | err c a =>
    rw [hr] at hp
    obtain ⟨b, rfl, h1⟩ := hp
    simp (disch := first | assumption | omega | ((simp only [size_alloc, sz_drew, size_upd, List.size_toArray, List.length_cons, List.length_nil]) <;> omega) | decide) only [sh_s_Program, Pr, PX, PC, NX, ends, fillL, wrL, sOf, Nat.reduceAdd, Nat.reduceMul, Nat.reduceLeDiff, Nat.reduceEqDiff, Int.reduceToNat, Int.reduceAdd, Int.reduceLT, Int.reduceLE, ↓reduceIte, forall_const, eq_self, zG1, zG2]
    refine ⟨hE, ?_⟩
    rw [hr]
    exact ⟨b, rfl, h1⟩
  | ok cs k vs =>
    rw [hr] at hp
    obtain ⟨v, vs, rfl, h1, h2⟩ := hp
    simp (disch := first | assumption | omega | ((simp only [size_alloc, sz_drew, size_upd, List.size_toArray, List.length_cons, List.length_nil]) <;> omega) | decide) only [sh_s_Program, Pr, PX, PC, NX, ends, fillL, wrL, sOf, Nat.reduceAdd, Nat.reduceMul, Nat.reduceLeDiff, Nat.reduceEqDiff, Int.reduceToNat, Int.reduceAdd, Int.reduceLT, Int.reduceLE, ↓reduceIte, forall_const, eq_self, zG1, zG2]
    refine ⟨hE, ?_⟩
    rw [hr]
    exact ⟨v, vs, rfl, h1, h2⟩
def SPostB (w : World) (s : P.Bs) (e : Ending) (w' : World) : Prop :=
  Ext w w' ∧ match P.program s with
  | .err c a => ∃ b, e = .returned (.tuple #[.pointer none, .iface 85 (.pointer (some ⟨b, 0, none⟩))]) ∧ w'.heap[b]? = some (.cells #[.int .i64 c, .int .i64 a] 89 (0, 0))
  | .ok cs _ _ => ∃ b v vs, e = .returned (.tuple #[.pointer (some ⟨b, 0, none⟩), .nilIface]) ∧ w'.heap[b]? = some (.cells #[v] 84 (0, 0)) ∧ Nu w w' b ∧
      IsSl (Nu w w') w' 97 v vs ∧ IsCls (Nu w w') w' vs cs
theorem hLoad (s : P.Bs) (w : World) (hl : s.length ≤ 100000) (hT : STabs w) : Calls Tryz.prog 13 #[.string (bs s)] w (SPostB w s) := by
  refine sh_h_Load_ok ?_
  refine (sProgram s w hl hT).mono ?_
  rintro e w1 ⟨hE, hp⟩
  have s1 := hE.size
  cases hr : P.program s with
  | err c a =>
    rw [hr] at hp
    obtain ⟨b, rfl, h1⟩ := hp
    simp (disch := first | assumption | omega | ((simp only [size_alloc, sz_drew, size_upd, List.size_toArray, List.length_cons, List.length_nil]) <;> omega) | decide) only [sh_h_Load, Pr, PX, PC, NX, ends, fillL, wrL, sOf, Nat.reduceAdd, Nat.reduceMul, Nat.reduceLeDiff, Nat.reduceEqDiff, Int.reduceToNat, Int.reduceAdd, Int.reduceLT, Int.reduceLE, ↓reduceIte, forall_const, eq_self, zG1, zG2, bd_84, nei0_48, nei1_48]
    refine ⟨hE, ?_⟩
    rw [hr]
    exact ⟨b, rfl, h1⟩
  | ok cs k vs =>
    rw [hr] at hp
    obtain ⟨v, vs, rfl, h1, h2⟩ := hp
    obtain ⟨sa, sn, sc, rfl⟩ : ∃ a n c, v = .slice a n c := by rcases h1 with ⟨-, rfl⟩ | ⟨b, cs', rfl, -⟩ <;> exact ⟨_, _, _, rfl⟩
    simp (disch := first | assumption | omega | ((simp only [size_alloc, sz_drew, size_upd, List.size_toArray, List.length_cons, List.length_nil]) <;> omega) | decide) only [sh_h_Load, Pr, PX, PC, NX, ends, fillL, wrL, sOf, Nat.reduceAdd, Nat.reduceMul, Nat.reduceLeDiff, Nat.reduceEqDiff, Int.reduceToNat, Int.reduceAdd, Int.reduceLT, Int.reduceLE, ↓reduceIte, forall_const, eq_self, zG1, zG2, bd_84, nei0_48, nei1_48]
    refine ⟨by (repeat (first | assumption | exact FrM.refl _ _ | (refine FrM.upd ?_ (.inr (by (try simp only [size_alloc, sz_drew, size_upd, List.size_toArray, List.length_cons, List.length_nil]) <;> omega))) | refine FrM.alloc ?_ _ | refine FrM.drew ?_)), ?_⟩
    rw [hr]
    have hX : Ext w1 (w1.alloc (.cells #[.slice sa sn sc] 84 (0, 0))) := by (repeat (first | assumption | exact FrM.refl _ _ | (refine FrM.upd ?_ (.inr (by (try simp only [size_alloc, sz_drew, size_upd, List.size_toArray, List.length_cons, List.length_nil]) <;> omega))) | refine FrM.alloc ?_ _ | refine FrM.drew ?_))
    refine ⟨_, _, vs, rfl, blk_alloc_new _ _, ⟨s1, by simp⟩, h1.mono (fun b hb => ⟨hb.1, by have := hb.2; simp; omega⟩) fun b cs _ ho => hX.ext _ _ ho, h2.mono (fun b hb => ⟨hb.1, by have := hb.2; simp; omega⟩) fun b cs t _ _ ho => hX.ext _ _ ho⟩
end Go.Proofs.YtkmpelgfhjgddaaGreatDoor
