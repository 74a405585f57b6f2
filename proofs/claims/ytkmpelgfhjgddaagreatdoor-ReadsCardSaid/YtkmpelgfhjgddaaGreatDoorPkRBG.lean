/- A part of one proof (ShS2, SX5, PX1, SX6, PX2, PW4); no conditions beyond what each theorem names. -/
import Derived.Test.YtkmpelgfhjgddaaGreatDoorPkRBF
import Derived.Recover
import Derived.Tactics
import Derived.Tactics2
set_option linter.all false
set_option linter.unusedVariables false
set_option linter.unusedSimpArgs false
namespace Go.Proofs.YtkmpelgfhjgddaaGreatDoor
open Go.Proofs.YtkmpelgfhjgddaaGreatDoor.Sx
set_option maxRecDepth 100000
set_option linter.unusedVariables false
def sh_s_caught_Ps_Clause (p0 p1 : Value) (w : World) (R : Ending → World → Prop) : Prop :=
  WR Tryz.prog (Instr.alloc 97 true (.tuple #[])) w (fun x4 w1 =>
  WR Tryz.prog (Instr.alloc 48 true (.tuple #[])) w1 (fun x5 w1_1 =>
  WR Tryz.prog (Instr.makeFunc (.func 85) #[] #[x4, x5]) w1_1 (fun x7 w1_2 =>
  DF x7 (fun ff fx fy =>
  CA Tryz.prog 77 #[p0] w1_2 (fun x9 w1_3 =>
  RD Tryz.prog (Instr.build 142 #[(0, x9)]) w1_3 (fun x10 =>
  WR Tryz.prog (Instr.box 142 x10) w1_3 (fun x11 w1_4 =>
  CV Tryz.prog p1 #[x11] w1_4 (fun x14 w1_5 =>
  WU Tryz.prog (Instr.storeAt 97 x4 x14) w1_5 (fun w1_6 =>
  WU Tryz.prog (Instr.storeAt 48 x5 .nilIface) w1_6 (fun w1_7 =>
  LV Tryz.prog (fun wz => RD Tryz.prog (Instr.loadAt 97 x4) wz (fun r_40 => RD Tryz.prog (Instr.loadAt 48 x5) wz (fun r_41 => R (.returned (.tuple #[r_40, r_41])) wz) NX) NX) R [{ target := .fn ff fy, args := fx ++ #[] }] .returning w1_7) (fun v wz => LV Tryz.prog (fun wz => RD Tryz.prog (Instr.loadAt 97 x4) wz (fun r_36 => RD Tryz.prog (Instr.loadAt 48 x5) wz (fun r_37 => R (.returned (.tuple #[r_36, r_37])) wz) NX) NX) R [{ target := .fn ff fy, args := fx ++ #[] }] (.panicking [{ v, recovered := false }]) wz)) (fun v wz => LV Tryz.prog (fun wz => RD Tryz.prog (Instr.loadAt 97 x4) wz (fun r_32 => RD Tryz.prog (Instr.loadAt 48 x5) wz (fun r_33 => R (.returned (.tuple #[r_32, r_33])) wz) NX) NX) R [{ target := .fn ff fy, args := fx ++ #[] }] (.panicking [{ v, recovered := false }]) wz)) (fun ch wz => LV Tryz.prog (fun wz => RD Tryz.prog (Instr.loadAt 97 x4) wz (fun r_30 => RD Tryz.prog (Instr.loadAt 48 x5) wz (fun r_31 => R (.returned (.tuple #[r_30, r_31])) wz) NX) NX) R [{ target := .fn ff fy, args := fx ++ #[] }] (.panicking ch) wz)) (fun v wz => LV Tryz.prog (fun wz => RD Tryz.prog (Instr.loadAt 97 x4) wz (fun r_24 => RD Tryz.prog (Instr.loadAt 48 x5) wz (fun r_25 => R (.returned (.tuple #[r_24, r_25])) wz) NX) NX) R [{ target := .fn ff fy, args := fx ++ #[] }] (.panicking [{ v, recovered := false }]) wz)) (fun v wz => LV Tryz.prog (fun wz => RD Tryz.prog (Instr.loadAt 97 x4) wz (fun r_20 => RD Tryz.prog (Instr.loadAt 48 x5) wz (fun r_21 => R (.returned (.tuple #[r_20, r_21])) wz) NX) NX) R [{ target := .fn ff fy, args := fx ++ #[] }] (.panicking [{ v, recovered := false }]) wz)) (fun ch wz => LV Tryz.prog (fun wz => RD Tryz.prog (Instr.loadAt 97 x4) wz (fun r_18 => RD Tryz.prog (Instr.loadAt 48 x5) wz (fun r_19 => R (.returned (.tuple #[r_18, r_19])) wz) NX) NX) R [{ target := .fn ff fy, args := fx ++ #[] }] (.panicking ch) wz))) (fun v wz => LV Tryz.prog (fun wz => RD Tryz.prog (Instr.loadAt 97 x4) wz (fun r_8 => RD Tryz.prog (Instr.loadAt 48 x5) wz (fun r_9 => R (.returned (.tuple #[r_8, r_9])) wz) NX) NX) R [] (.panicking [{ v, recovered := false }]) wz)) (fun v wz => LV Tryz.prog (fun wz => RD Tryz.prog (Instr.loadAt 97 x4) wz (fun r_4 => RD Tryz.prog (Instr.loadAt 48 undef) wz (fun r_5 => R (.returned (.tuple #[r_4, r_5])) wz) NX) NX) R [] (.panicking [{ v, recovered := false }]) wz)) (fun v wz => LV Tryz.prog (fun wz => RD Tryz.prog (Instr.loadAt 97 undef) wz (fun r => RD Tryz.prog (Instr.loadAt 48 undef) wz (fun r_1 => R (.returned (.tuple #[r, r_1])) wz) NX) NX) R [] (.panicking [{ v, recovered := false }]) wz)
theorem sh_s_caught_Ps_Clause_ok {p0 p1 : Value} {w : World} {R : Ending → World → Prop} (h : sh_s_caught_Ps_Clause p0 p1 w R) : Calls Tryz.prog 66 #[p0, p1] w R :=
  callsEqD (args := [p0, p1]) (good (fun _ => []) (fun _ => none) (fun _ => 0) (fun _ => none) (fun _ => []) (fun _ => []) (fun _ => false) (fun _ => false)) Tryz.func66 rfl (by kernel_rfl) (Nat.le_of_ble_eq_true (by kernel_rfl)) [] (by kernel_rfl) h
end Go.Proofs.YtkmpelgfhjgddaaGreatDoor
namespace Go.Proofs.YtkmpelgfhjgddaaGreatDoor
open Go.RowKit Sx
set_option maxRecDepth 100000
theorem Tryz.taNil (w : World) : (Instr.typeAssert .nilIface 20 85 true).run Tryz.prog w = .ok (.tuple #[.pointer none, .bool false]) w := by kernel_rfl
theorem Tryz.taAt (v : Value) (w : World) : (Instr.typeAssert (.iface 85 v) 20 85 true).run Tryz.prog w = .ok (.tuple #[v, .bool true]) w := by kernel_rfl
end Go.Proofs.YtkmpelgfhjgddaaGreatDoor
namespace Go.Proofs.YtkmpelgfhjgddaaGreatDoor
open Go.RowKit Sx
set_option maxRecDepth 100000
set_option maxHeartbeats 1000000 in
theorem sCatchIdleC (v4 v5 : Value) (w : World) : CallsD Tryz.prog 85 #[v4, v5] .returning w fun e u' w' => e = .returned (.tuple #[]) ∧ u' = .returning ∧ w' = w := by
  refine callsD_of_wpS Tryz.func85 rfl fun c₀ cs hu => ?_
  apply wpS_seq
  apply wpS_region
  simp [wpOpsS, go_sem, recoverD, hu, Tryz.ntmps85, Exit.thenS, Tryz.taNil]
  apply wpS_seq
  apply wpS_region
  simp [wpOpsS, go_sem, recoverD, hu, Tryz.ntmps85, Exit.thenS]
  refine wpS_cond (t := false) (by simp [Act.eval]) ?_
  simp only [Bool.false_eq_true, if_false]
  refine wpS_of_wp (wp_skip ?_)
  cases c₀
  simp_all [bodyPostS, results, Tryz.results85]
set_option maxHeartbeats 1000000 in
theorem sCatchAtC (b4 b5 : Nat) (o4 o5 : Value) (v : Value) (older : List PanicEntry) (w : World) (h4 : w.cell? ⟨b4, 0, none⟩ = some o4) (z4 : w.frozen? ⟨b4, 0, none⟩ = false)
    (h5 : (w.setCell ⟨b4, 0, none⟩ (.pointer none)).cell? ⟨b5, 0, none⟩ = some o5) (z5 : (w.setCell ⟨b4, 0, none⟩ (.pointer none)).frozen? ⟨b5, 0, none⟩ = false) :
    CallsD Tryz.prog 85 #[.pointer (some ⟨b4, 0, none⟩), .pointer (some ⟨b5, 0, none⟩)] (.panicking ({ v := .iface 85 v, recovered := false } :: older)) w fun e u' w' =>
      e = .returned (.tuple #[]) ∧ u' = .panicking ({ v := .iface 85 v, recovered := true } :: older) ∧ w' = (w.setCell ⟨b4, 0, none⟩ (.pointer none)).setCell ⟨b5, 0, none⟩ (.iface 85 v) := by
  refine callsD_of_wpS Tryz.func85 rfl fun c₀ cs hu => ?_
  apply wpS_seq
  apply wpS_region
  simp [wpOpsS, go_sem, recoverD, hu, Tryz.ntmps85, Exit.thenS, Tryz.taAt]
  apply wpS_seq
  apply wpS_region
  simp [wpOpsS, go_sem, recoverD, hu, Tryz.ntmps85, Exit.thenS]
  refine wpS_cond (t := true) (by simp [Act.eval]) ?_
  simp only [if_true]
  apply wpS_seq
  apply wpS_region
  simp [wpOpsS, go_sem, recoverD, hu, Tryz.ntmps85, Exit.thenS]
  apply wpS_region
  simp [wpOpsS, go_sem, recoverD, hu, Tryz.ntmps85, Exit.thenS, h4, z4, h5, z5]
  simp [bodyPostS, results, Tryz.results85]
end Go.Proofs.YtkmpelgfhjgddaaGreatDoor
namespace Go.Proofs.YtkmpelgfhjgddaaGreatDoor
open Go.RowKit Sx
set_option maxRecDepth 100000
theorem STab.up {w : World} {B B' : Nat} (h : STab w B) (hb : B ≤ B') : STab w B' :=
  ⟨Nat.lt_of_lt_of_le h.lt hb, fun l hl => let ⟨b, o, c, h1, h2⟩ := h.lev l hl; ⟨b, o, c, Nat.lt_of_lt_of_le h1 hb, h2⟩⟩
theorem STabC.up {w : World} {B B' : Nat} (h : STabC w B) (hb : B ≤ B') : STabC w B' := ⟨Nat.lt_of_lt_of_le h.lt hb, h.cell⟩
structure STabs (w : World) : Prop where
  lev : STab w w.heap.size
  cmp : STabC w w.heap.size
  sig : STabS w
theorem SP.fresh {w : World} {pb : Nat} {T : List P.Tok} {n : Nat} {tb cap : Nat} {cur : Array Value} (hT : P.LexOk n T) (hn : n ≤ 2000) (ht : w.heap[tb]? = some (.cells cur 139 (0, 0)))
    (hc : cur.toList.take (T.length * 3) = scells T) (hs : STab w tb) (hlt : tb < pb) (h1 : T.length ≤ cap) (h2 : cap ≤ 9223372036854775807)
    (hp : w.heap[pb]? = some (.cells #[.slice (some ⟨tb, 0, none⟩) T.length cap, .slice none 0 0, .int .i64 0] 142 (0, 0))) : SP w pb tb T 0 [] 0 := by
  have htw := TWs.of hT hn
  have hcl : ∀ i, i < T.length * 3 → cur[i]? = (scells T)[i]? := fun i hi => by
    rw [← hc, List.getElem?_take_of_lt hi, Array.getElem?_toList]
  refine ⟨htw.toTW, hlt, htw.toTW.pos, by simp, ⟨hs, cur, ht, fun j hj => ?_⟩, cap, .slice none 0 0, h1, h2, by simpa using hp, World.ownsRow_nil _ _ _ _⟩
  obtain ⟨c1, c2, c3⟩ := scells_at T j hj
  rw [hcl _ (by omega), hcl _ (by omega), hcl _ (by omega)]
  exact ⟨c1, c2, c3⟩
end Go.Proofs.YtkmpelgfhjgddaaGreatDoor
namespace Go.Proofs.YtkmpelgfhjgddaaGreatDoor
open Go.RowKit Sx
set_option maxRecDepth 100000
theorem lvIdleC {res : World → Prop} {R : Ending → World → Prop} {v4 v5 : Value} {w : World} (h : res w) :
    LV Tryz.prog res R [{ target := .fn (.func 85) #[v4, v5], args := #[] ++ #[] }] .returning w := by
  refine lv_call (by kernel_rfl) (by simp) ((sCatchIdleC v4 v5 w).mono ?_)
  rintro e u' w' ⟨rfl, rfl, rfl⟩
  exact h
theorem lvCatchC {res : World → Prop} {R : Ending → World → Prop} {b4 b5 : Nat} {o4 o5 v : Value} {w : World} (h4 : w.heap[b4]? = some (.cells #[o4] 97 (0, 0)))
    (h5 : w.heap[b5]? = some (.cells #[o5] 48 (0, 0))) (hne : b4 ≠ b5)
    (h : res (upd (upd w b4 (.cells #[.pointer none] 97 (0, 0))) b5 (.cells #[.iface 85 v] 48 (0, 0)))) :
    LV Tryz.prog res R [{ target := .fn (.func 85) #[.pointer (some ⟨b4, 0, none⟩), .pointer (some ⟨b5, 0, none⟩)], args := #[] ++ #[] }]
      (.panicking [{ v := .iface 85 v, recovered := false }]) w := by
  have e1 : w.setCell ⟨b4, 0, none⟩ (.pointer none) = upd w b4 (.cells #[.pointer none] 97 (0, 0)) := upd_setCell h4 _
  have h5' : (upd w b4 (.cells #[.pointer none] 97 (0, 0))).heap[b5]? = some (.cells #[o5] 48 (0, 0)) := by
    rw [hp_upd_other (by omega)]; exact h5
  refine lv_call (by kernel_rfl) (by simp) ((sCatchAtC b4 b5 o4 o5 v [] w (by simp [World.cell?, h4]) (freeOf h4 0) (by rw [e1]; simp [World.cell?, h5']) (by rw [e1]; exact freeOf h5' 0)).mono ?_)
  rintro e u' w' ⟨rfl, rfl, rfl⟩
  rw [e1, upd_setCell h5']
  exact h
def P.ofText {α : Type} (g : List P.Tok → P.Res α) (s : P.Bs) : P.Res α := if 2000 < s.length then .err 1 0 else match P.lex s with
  | .inl i => .err 2 i
  | .inr T => g T
def SPostC {α : Type} (I : (Nat → Prop) → World → Nat → α → List P.Bs → Prop) (pb : Nat) (w : World) (r : P.Res α) (e : Ending) (w' : World) : Prop :=
  SFr pb w w' ∧ match r with
  | .err c a => faulted c a w w' e
  | .ok x _ vs => ∃ b, e = .returned (.pointer (some ⟨b, 0, none⟩)) ∧ I (Nu w w') w' b x vs
def SPostK {α : Type} (I : (Nat → Prop) → World → Nat → α → List P.Bs → Prop) (w : World) (r : P.Res α) (e : Ending) (w' : World) : Prop :=
  Ext w w' ∧ match r with
  | .err c a => ∃ b, e = .returned (.tuple #[.pointer none, .iface 85 (.pointer (some ⟨b, 0, none⟩))]) ∧ w'.heap[b]? = some (.cells #[.int .i64 c, .int .i64 a] 89 (0, 0))
  | .ok x _ vs => ∃ b, e = .returned (.tuple #[.pointer (some ⟨b, 0, none⟩), .nilIface]) ∧ I (Nu w w') w' b x vs
theorem caughtErrC {α : Type} {I : (Nat → Prop) → World → Nat → α → List P.Bs → Prop} {r : P.Res α} {w wz : World} {c a b : Nat} {o4 o5 : Value} (hpr : r = .err c a) (hE : Ext w wz) (q4 : wz.heap[w.heap.size]? = some (.cells #[o4] 97 (0, 0)))
    (q5 : wz.heap[w.heap.size + 1]? = some (.cells #[o5] 48 (0, 0))) (h1 : wz.heap[b]? = some (.cells #[.int .i64 c, .int .i64 a] 89 (0, 0))) (hb : w.heap.size + 2 ≤ b) :
    LV Tryz.prog (fun wz => RD Tryz.prog (Instr.loadAt 97 (.pointer (some ⟨w.heap.size, 0, none⟩))) wz (fun r1 => RD Tryz.prog (Instr.loadAt 48 (.pointer (some ⟨w.heap.size + 1, 0, none⟩))) wz
        (fun r2 => SPostK I w r (.returned (.tuple #[r1, r2])) wz) NX) NX) (SPostK I w r)
      [{ target := .fn (.func 85) #[.pointer (some ⟨w.heap.size, 0, none⟩), .pointer (some ⟨w.heap.size + 1, 0, none⟩)], args := #[] ++ #[] }]
      (.panicking [{ v := .iface 85 (.pointer (some ⟨b, 0, none⟩)), recovered := false }]) wz := by
  subst hpr
  refine lvCatchC q4 q5 (by omega) ?_
  have l4 := ltOf q4
  have l5 := ltOf q5
  have k4 : (upd (upd wz w.heap.size (.cells #[.pointer none] 97 (0, 0))) (w.heap.size + 1) (.cells #[.iface 85 (.pointer (some ⟨b, 0, none⟩))] 48 (0, 0))).heap[w.heap.size]? = some (.cells #[.pointer none] 97 (0, 0)) := by
    simp (disch := first | assumption | omega | ((simp only [size_alloc, sz_drew, size_upd, List.size_toArray, List.length_cons, List.length_nil]) <;> omega) | decide) only [hp_alloc_old, hp_alloc_new, hp_upd_same, hp_upd_other, hp_drew, sz_drew, size_upd, size_alloc]
  have k5 : (upd (upd wz w.heap.size (.cells #[.pointer none] 97 (0, 0))) (w.heap.size + 1) (.cells #[.iface 85 (.pointer (some ⟨b, 0, none⟩))] 48 (0, 0))).heap[w.heap.size + 1]? = some (.cells #[.iface 85 (.pointer (some ⟨b, 0, none⟩))] 48 (0, 0)) := by
    simp (disch := first | assumption | omega | ((simp only [size_alloc, sz_drew, size_upd, List.size_toArray, List.length_cons, List.length_nil]) <;> omega) | decide) only [hp_alloc_old, hp_alloc_new, hp_upd_same, hp_upd_other, hp_drew, sz_drew, size_upd, size_alloc]
  simp (disch := first | assumption | omega | ((simp only [size_alloc, sz_drew, size_upd, List.size_toArray, List.length_cons, List.length_nil]) <;> omega) | decide) only [sh_s_caught_Ps_Clause, Pr, PX, PC, NX, ends, fillL, wrL, sOf, Nat.reduceAdd, Nat.reduceMul, Nat.reduceLeDiff, Nat.reduceEqDiff, Int.reduceToNat, Int.reduceAdd, Int.reduceLT, Int.reduceLE, ↓reduceIte, forall_const, eq_self, zG1, zG2, al_48, al_97, bd_142, ld_48, ld_97, st_48, st_97, k4, k5]
  refine ⟨by (repeat (first | assumption | exact FrM.refl _ _ | (refine FrM.upd ?_ (.inr (by (try simp only [size_alloc, sz_drew, size_upd, List.size_toArray, List.length_cons, List.length_nil]) <;> omega))) | refine FrM.alloc ?_ _ | refine FrM.drew ?_)), b, rfl, ?_⟩
  rw [hp_upd_other (by omega), hp_upd_other (by omega)]
  exact h1
structure STabs2 (w : World) : Prop where
  lev : STab w w.heap.size
  sig : STabS w
theorem sCaughtC {α : Type} {I : (Nat → Prop) → World → Nat → α → List P.Bs → Prop}
    (hI : ∀ (F F' : Nat → Prop) (w w' : World) (b : Nat) (x : α) (vs : List P.Bs), (∀ b, F b → F' b) → (∀ b o, F b → w.heap[b]? = some o → w'.heap[b]? = some o) → I F w b x vs → I F' w' b x vs)
    {g : List P.Tok → P.Res α} {cf : Nat} (hcf : callable Tryz.prog cf = true)
    (s : P.Bs) (w : World) (hl : s.length ≤ 100000) (hT : STabs2 w)
    (hgo : let w0 := w; ∀ {pb tb : Nat} {T : List P.Tok} {w : World}, P.lex s = .inr T → SP w pb tb T 0 [] 0 → (STabC w0 w0.heap.size → STabC w tb) → Calls Tryz.prog cf #[.pointer (some ⟨pb, 0, none⟩)] w (SPostC I pb w (g T))) :
    Calls Tryz.prog 66 #[.string (bs s), .func (.func cf) #[] #[]] w (SPostK I w (P.ofText g s)) := by
  refine sh_s_caught_Ps_Clause_ok ?_
  simp (disch := first | assumption | omega | ((simp only [size_alloc, sz_drew, size_upd, List.size_toArray, List.length_cons, List.length_nil]) <;> omega) | decide) only [sh_s_caught_Ps_Clause, Pr, PX, PC, NX, ends, fillL, wrL, sOf, Nat.reduceAdd, Nat.reduceMul, Nat.reduceLeDiff, Nat.reduceEqDiff, Int.reduceToNat, Int.reduceAdd, Int.reduceLT, Int.reduceLE, ↓reduceIte, forall_const, eq_self, zG1, zG2, al_48, al_97, bd_142, ld_48, ld_97, st_48, st_97]
  obtain ⟨wA, hwA⟩ : ∃ x, x = (w.alloc (.cells #[.pointer none] 97 (0, 0))).alloc (.cells #[.nilIface] 48 (0, 0)) := ⟨_, rfl⟩
  have sA : wA.heap.size = w.heap.size + 2 := by rw [hwA]; simp
  have hEA : Ext w wA := by rw [hwA]; (repeat (first | assumption | exact FrM.refl _ _ | (refine FrM.upd ?_ (.inr (by (try simp only [size_alloc, sz_drew, size_upd, List.size_toArray, List.length_cons, List.length_nil]) <;> omega))) | refine FrM.alloc ?_ _ | refine FrM.drew ?_))
  have b4 : wA.heap[w.heap.size]? = some (.cells #[.pointer none] 97 (0, 0)) := by rw [hwA]; simp (disch := first | assumption | omega | ((simp only [size_alloc, sz_drew, size_upd, List.size_toArray, List.length_cons, List.length_nil]) <;> omega) | decide) only [hp_alloc_old, hp_alloc_new, hp_upd_same, hp_upd_other, hp_drew, sz_drew, size_upd, size_alloc]
  have b5 : wA.heap[w.heap.size + 1]? = some (.cells #[.nilIface] 48 (0, 0)) := by rw [hwA]; simp (disch := first | assumption | omega | ((simp only [size_alloc, sz_drew, size_upd, List.size_toArray, List.length_cons, List.length_nil]) <;> omega) | decide) only [hp_alloc_old, hp_alloc_new, hp_upd_same, hp_upd_other, hp_drew, sz_drew, size_upd, size_alloc]
  rw [size_alloc, ← hwA]
  refine (sLex s wA hl (hT.sig.ext hEA)).mono ?_
  rintro e w1 ⟨hE1, hp⟩
  have s1 := hE1.size
  by_cases h2 : 2000 < s.length
  · rw [if_pos h2] at hp
    obtain ⟨b, rfl, h1, h3⟩ := hp
    exact caughtErrC (by rw [P.ofText, if_pos h2]) (hEA.trans hE1) (hE1.ext _ _ b4) (hE1.ext _ _ b5) h1 (by omega)
  rw [if_neg h2] at hp
  cases hx : P.lex s with
  | inl i =>
    rw [hx] at hp
    obtain ⟨b, rfl, h1, h3⟩ := hp
    exact caughtErrC (by rw [P.ofText, if_neg h2, hx]) (hEA.trans hE1) (hE1.ext _ _ b4) (hE1.ext _ _ b5) h1 (by omega)
  | inr T =>
    rw [hx] at hp
    obtain ⟨v, rfl, hown⟩ := hp
    have hlo := lex_ok hx
    have hTn : 0 < T.length := (TWs.of hlo (by omega)).toTW.pos
    obtain ⟨htl, hown⟩ := hown
    rcases hown with ⟨-, h0⟩ | ⟨tb, cap, cur, rfl, ht1, ht2, ht3, ht4, ht5, ht6⟩
    · omega
    simp (disch := first | assumption | omega | ((simp only [size_alloc, sz_drew, size_upd, List.size_toArray, List.length_cons, List.length_nil]) <;> omega) | decide) only [sh_s_caught_Ps_Clause, Pr, PX, PC, NX, ends, fillL, wrL, sOf, Nat.reduceAdd, Nat.reduceMul, Nat.reduceLeDiff, Nat.reduceEqDiff, Int.reduceToNat, Int.reduceAdd, Int.reduceLT, Int.reduceLE, ↓reduceIte, forall_const, eq_self, zG1, zG2, al_48, al_97, bd_142, ld_48, ld_97, st_48, st_97]
    have lt1 := ltOf ht2
    obtain ⟨wP, hwP⟩ : ∃ x, x = w1.alloc (.cells #[.slice (some ⟨tb, 0, none⟩) T.length cap, .slice none 0 0, .int .i64 0] 142 (0, 0)) := ⟨_, rfl⟩
    have hEP : Ext w1 wP := by rw [hwP]; (repeat (first | assumption | exact FrM.refl _ _ | (refine FrM.upd ?_ (.inr (by (try simp only [size_alloc, sz_drew, size_upd, List.size_toArray, List.length_cons, List.length_nil]) <;> omega))) | refine FrM.alloc ?_ _ | refine FrM.drew ?_))
    have sP : wP.heap.size = w1.heap.size + 1 := by rw [hwP]; simp
    have bP : wP.heap[w1.heap.size]? = some (.cells #[.slice (some ⟨tb, 0, none⟩) T.length cap, .slice none 0 0, .int .i64 0] 142 (0, 0)) := by rw [hwP]; simp (disch := first | assumption | omega | ((simp only [size_alloc, sz_drew, size_upd, List.size_toArray, List.length_cons, List.length_nil]) <;> omega) | decide) only [hp_alloc_old, hp_alloc_new, hp_upd_same, hp_upd_other, hp_drew, sz_drew, size_upd, size_alloc]
    rw [← hwP]
    have hEw : Ext w wP := (hEA.trans hE1).trans hEP
    have hsp : SP wP w1.heap.size tb T 0 [] 0 := SP.fresh hlo (by omega) (hEP.ext _ _ ht2) ht6 ((hT.lev.ext fun b o _ => hEw.ext b o).up (by omega)) lt1 ht3 (by unfold maxLen at ht4; omega) bP
    refine ⟨hcf, (hgo hx hsp (fun hC => (hC.ext fun b o _ => hEw.ext b o).up (by omega))).mono ?_⟩
    have hpr : P.ofText g s = g T := by rw [P.ofText, if_neg h2, hx]
    rintro e w3 ⟨hF, hq⟩
    have s3 := hF.size
    have hE3 : Ext w1 w3 := ⟨hF.os.trans hEP.os, hF.tape.trans hEP.tape, hF.output.trans hEP.output, by omega, fun b o hb _ => hF.block b o (hEP.ext _ _ hb) (by
      have := ltOf hb
      rintro (h | ⟨h, _⟩) <;> omega)⟩
    have hEw3 : Ext w w3 := (hEA.trans hE1).trans hE3
    have q4 := hE3.ext _ _ (hE1.ext _ _ b4)
    have q5 := hE3.ext _ _ (hE1.ext _ _ b5)
    cases hr : g T with
    | err c a =>
      rw [hr] at hq
      obtain ⟨b, rfl, h1, h3⟩ := hq
      exact caughtErrC (hpr.trans hr) hEw3 q4 q5 h1 (by omega)
    | ok x k vs =>
      rw [hr] at hq
      obtain ⟨b, rfl, g1⟩ := hq
      have l4 := ltOf q4
      have l5 := ltOf q5
      simp (disch := first | assumption | omega | ((simp only [size_alloc, sz_drew, size_upd, List.size_toArray, List.length_cons, List.length_nil]) <;> omega) | decide) only [sh_s_caught_Ps_Clause, Pr, PX, PC, NX, ends, fillL, wrL, sOf, Nat.reduceAdd, Nat.reduceMul, Nat.reduceLeDiff, Nat.reduceEqDiff, Int.reduceToNat, Int.reduceAdd, Int.reduceLT, Int.reduceLE, ↓reduceIte, forall_const, eq_self, zG1, zG2, al_48, al_97, bd_142, ld_48, ld_97, st_48, st_97, q4, q5]
      refine lvIdleC ?_
      obtain ⟨wz, hwz⟩ : ∃ x, x = upd (upd w3 w.heap.size (.cells #[.pointer (some ⟨b, 0, none⟩)] 97 (0, 0))) (w.heap.size + 1) (.cells #[.nilIface] 48 (0, 0)) := ⟨_, rfl⟩
      have k4 : wz.heap[w.heap.size]? = some (.cells #[.pointer (some ⟨b, 0, none⟩)] 97 (0, 0)) := by rw [hwz]; simp (disch := first | assumption | omega | ((simp only [size_alloc, sz_drew, size_upd, List.size_toArray, List.length_cons, List.length_nil]) <;> omega) | decide) only [hp_alloc_old, hp_alloc_new, hp_upd_same, hp_upd_other, hp_drew, sz_drew, size_upd, size_alloc]
      have k5 : wz.heap[w.heap.size + 1]? = some (.cells #[.nilIface] 48 (0, 0)) := by rw [hwz]; simp (disch := first | assumption | omega | ((simp only [size_alloc, sz_drew, size_upd, List.size_toArray, List.length_cons, List.length_nil]) <;> omega) | decide) only [hp_alloc_old, hp_alloc_new, hp_upd_same, hp_upd_other, hp_drew, sz_drew, size_upd, size_alloc]
      have hz : ∀ b o, b ≠ w.heap.size → b ≠ w.heap.size + 1 → w3.heap[b]? = some o → wz.heap[b]? = some o := fun b o n1 n2 ho => by
        rw [hwz, hp_upd_other (by omega), hp_upd_other (by omega)]; exact ho
      have hEz : Ext w wz := by rw [hwz]; (repeat (first | assumption | exact FrM.refl _ _ | (refine FrM.upd ?_ (.inr (by (try simp only [size_alloc, sz_drew, size_upd, List.size_toArray, List.length_cons, List.length_nil]) <;> omega))) | refine FrM.alloc ?_ _ | refine FrM.drew ?_))
      have sz : wz.heap.size = w3.heap.size := by rw [hwz, size_upd, size_upd]
      rw [← hwz]
      simp (disch := first | assumption | omega | ((simp only [size_alloc, sz_drew, size_upd, List.size_toArray, List.length_cons, List.length_nil]) <;> omega) | decide) only [sh_s_caught_Ps_Clause, Pr, PX, PC, NX, ends, fillL, wrL, sOf, Nat.reduceAdd, Nat.reduceMul, Nat.reduceLeDiff, Nat.reduceEqDiff, Int.reduceToNat, Int.reduceAdd, Int.reduceLT, Int.reduceLE, ↓reduceIte, forall_const, eq_self, zG1, zG2, al_48, al_97, bd_142, ld_48, ld_97, st_48, st_97, k4, k5]
      refine ⟨hEz, ?_⟩
      rw [hpr, hr]
      exact ⟨b, rfl, hI _ _ _ _ _ _ _ (fun b hb => ⟨by have := hb.1; omega, by have := hb.2; omega⟩) (fun b o hb ho => hz b _ (by have := hb.1; omega) (by have := hb.1; omega) ho) g1⟩
end Go.Proofs.YtkmpelgfhjgddaaGreatDoor
namespace Go.Proofs.YtkmpelgfhjgddaaGreatDoor
open Go.RowKit Sx
set_option maxRecDepth 100000
def namesL (ρ : Nat → Nat) (seen : List Nat) (k : Nat) : List (Nat × Value) := match seen with
  | [] => []
  | i :: r => (ρ i, .int .i64 ((k + 1 : Nat))) :: namesL ρ r (k + 1)
def NmA (ρ : Nat → Nat) (w : World) (wb : Nat) (nm : Value) (seen : List Nat) : Prop :=
  (seen = [] ∧ nm = .map none) ∨ ∃ r c es, nm = .map (some r) ∧ wb < r ∧ w.heap[r]? = some (.map es c) ∧ entsP (namesL ρ seen 0) es.toList
structure WSx (ρ : Nat → Nat) (n : Nat) (tr : P.Tr) (wb sb so T : Nat) (cs : Array Value) (nm : Value) (w : World) (s : P.Ws) : Prop where
  st : StV ρ n tr w
  bu : BuA w wb (.pointer (some ⟨sb, so, none⟩)) nm s.out
  na : NmA ρ w wb nm s.seen
  fu : w.heap[sb]? = some (.cells (setFu cs so s.fuel) T (0, 0))
  tab : TabP w
  sn : ∀ i ∈ s.seen, i < n
def WSt (ρ : Nat → Nat) (n : Nat) (tr : P.Tr) (wb sb so T : Nat) (cs : Array Value) (w : World) (s : P.Ws) : Prop := ∃ nm, WSx ρ n tr wb sb so T cs nm w s
structure WFix (tr : P.Tr) (wb sb so T : Nat) (cs : Array Value) : Prop where
  tok : P.TrOk tr
  sz : so + 2 ≤ cs.size
  ne : sb ≠ wb
  g1 : 4 < wb
  g2 : sb ≠ 4
  T1 : T ≠ 5
  T2 : T ≠ 179 ∧ T ≠ 107 ∧ T ≠ 109
def MW (wb sb b : Nat) (o : Obj) : Prop := b = wb ∨ b = sb ∨ (wb < b ∧ ((∃ cs z, o = .cells cs 5 z) ∨ ∃ es c, o = .map es c))
abbrev WFr (wb sb : Nat) (w w' : World) : Prop := FrM (MW wb sb) w w'
theorem BFr.toW {wb : Nat} {w w' : World} (h : BFr wb w w') (sb : Nat) : WFr wb sb w w' := h.mono fun b o _ hm => by
  rcases hm with h | ⟨h, h2⟩
  · exact .inl h
  · exact .inr (.inr ⟨h, .inl h2⟩)
section
variable {ρ : Nat → Nat} {n : Nat} {tr : P.Tr} {wb sb so T : Nat} {cs : Array Value} {nm : Value} {w w' : World} {s : P.Ws}
theorem WSx.kv (h : WSx ρ n tr wb sb so T cs nm w s) (hx : WFix tr wb sb so T cs) (hf : WFr wb sb w w') : KeepV w w' := fun b c t ht hb => by
  refine hf.block b _ hb ?_
  obtain ⟨ad, buf, -, hw, -⟩ := h.bu
  rintro (rfl | rfl | ⟨_, ⟨_, _, h⟩ | ⟨_, _, h⟩⟩)
  · rw [hw] at hb
    injection hb with hb
    injection hb with _ hb _
    subst hb
    rcases ht with ht | ht | ht <;> cases ht
  · rw [h.fu] at hb
    injection hb with hb
    injection hb with _ hb _
    subst hb
    rcases ht with ht | ht | ht
    · exact hx.T2.1 ht
    · exact hx.T2.2.1 ht
    · exact hx.T2.2.2 ht
  · injection h with _ h _
    subst h
    rcases ht with ht | ht | ht <;> cases ht
  · cases h
theorem WSx.tabK (h : WSx ρ n tr wb sb so T cs nm w s) (hx : WFix tr wb sb so T cs) (hf : WFr wb sb w w') : TabP w' := h.tab.keep fun o ho => by
  refine hf.block _ _ ho ?_
  have := hx.g1
  rintro (h | h | ⟨h, _⟩)
  · omega
  · exact hx.g2 h.symm
  · omega
theorem WSx.wr (h : WSx ρ n tr wb sb so T cs nm w s) (hx : WFix tr wb sb so T cs) {x : P.Bs} (hb : BuA w' wb (.pointer (some ⟨sb, so, none⟩)) nm (s.out ++ x)) (hf : BFr wb w w') : WSx ρ n tr wb sb so T cs nm w' (s.add x) := by
  refine ⟨h.st.keep (h.kv hx (hf.toW sb)), hb, ?_, ?_, h.tabK hx (hf.toW sb), h.sn⟩
  · rcases h.na with h | ⟨r, c, es, h1, h2, h3, h4⟩
    · exact .inl h
    · exact .inr ⟨r, c, es, h1, h2, hf.block _ _ h3 (by
        rintro (h | ⟨_, _, _, h⟩)
        · omega
        · cases h), h4⟩
  · refine hf.block _ _ h.fu ?_
    rintro (h | ⟨_, _, _, h⟩)
    · exact hx.ne h
    · injection h with _ h _
      exact hx.T1 h
theorem wWrite (h : WSx ρ n tr wb sb so T cs nm w s) (hx : WFix tr wb sb so T cs) (x : P.Bs) (hl : s.out.length + x.length ≤ 1000000000) :
    Calls Tryz.prog 71 #[.pointer (some ⟨wb, 0, none⟩), .string (bs x)] w fun e w' => (∃ v, e = .returned v) ∧ WSx ρ n tr wb sb so T cs nm w' (s.add x) ∧ WFr wb sb w w' := by
  refine (bWriteString h.bu x hl).mono ?_
  rintro e w' ⟨he, hb, hf⟩
  exact ⟨he, h.wr hx hb hf, hf.toW sb⟩
theorem wByte (h : WSx ρ n tr wb sb so T cs nm w s) (hx : WFix tr wb sb so T cs) (c : UInt8) (hl : s.out.length + 1 ≤ 1000000000) {z : Int} (hz : z = c.toNat) :
    Calls Tryz.prog 91 #[.pointer (some ⟨wb, 0, none⟩), .int .u8 z] w fun e w' => (∃ v, e = .returned v) ∧ WSx ρ n tr wb sb so T cs nm w' (s.add [c]) ∧ WFr wb sb w w' := by
  subst hz
  refine (bWriteByte h.bu c hl).mono ?_
  rintro e w' ⟨he, hb, hf⟩
  exact ⟨he, h.wr hx hb hf, hf.toW sb⟩
theorem WSx.ext (h : WSx ρ n tr wb sb so T cs nm w s) (hE : Ext w w') : WSx ρ n tr wb sb so T cs nm w' s := by
  refine ⟨h.st.keep (KeepV.ofExt hE), ?_, ?_, hE.ext _ _ h.fu, h.tab.ext hE, h.sn⟩
  · obtain ⟨ad, buf, h1, h2, h3⟩ := h.bu
    exact ⟨ad, buf, h1, hE.ext _ _ h2, own_ext hE.ext h3⟩
  · rcases h.na with h | ⟨r, c, es, h1, h2, h3, h4⟩
    · exact .inl h
    · exact .inr ⟨r, c, es, h1, h2, hE.ext _ _ h3, h4⟩
theorem BuA.other {S : Value} {out : P.Bs} {c : Array Value} (h : BuA w wb S nm out) (hne : sb ≠ wb) (hf : w.heap[sb]? = some (.cells c T (0, 0))) (hT : T ≠ 5) (o : Obj) : BuA (upd w sb o) wb S nm out := by
  obtain ⟨ad, buf, h1, h2, h3⟩ := h
  refine ⟨ad, buf, h1, by rw [hp_upd_other (fun e => hne e.symm)]; exact h2, h3.1, ?_⟩
  rcases h3.2 with h3 | ⟨g, cap, cur, e1, e2, e3, e4⟩
  · exact .inl h3
  · refine .inr ⟨g, cap, cur, e1, e2, ?_, e4⟩
    rw [hp_upd_other]
    · exact e3
    · rintro rfl
      rw [hf] at e3
      injection e3 with e3
      injection e3 with _ e3 _
      exact hT e3
theorem WSx.fuel (h : WSx ρ n tr wb sb so T cs nm w s) (hx : WFix tr wb sb so T cs) (f : Nat) : WSx ρ n tr wb sb so T cs nm (upd w sb (.cells (setFu cs so f) T (0, 0))) { s with fuel := f } := by
  have hf : WFr wb sb w (upd w sb (.cells (setFu cs so f) T (0, 0))) := (FrM.refl _ _).upd (.inl fun _ => .inr (.inl rfl))
  refine ⟨h.st.keep (h.kv hx hf), ?_, ?_, hp_upd_same rfl (ltOf h.fu), h.tabK hx hf, h.sn⟩
  · exact h.bu.other hx.ne h.fu hx.T1 _
  · rcases h.na with h1 | ⟨r, c, es, h1, h2, h3, h4⟩
    · exact .inl h1
    · refine .inr ⟨r, c, es, h1, h2, ?_, h4⟩
      rw [hp_upd_other]
      · exact h3
      · rintro rfl
        rw [h.fu] at h3
        cases h3
def WPost (ρ : Nat → Nat) (n : Nat) (tr : P.Tr) (wb sb so T : Nat) (cs : Array Value) (w : World) (B : Nat) (r : Option P.Ws) (e : Ending) (w' : World) : Prop :=
  WFr wb sb w w' ∧ match r with
  | some s' => e = .returned (.tuple #[]) ∧ WSt ρ n tr wb sb so T cs w' s'
  | none => e = spentE ∧ w'.heap[sb]? = some (.cells (setFu cs so (-1)) T (0, 0)) ∧ ∃ nm out, BuA w' wb (.pointer (some ⟨sb, so, none⟩)) nm out ∧ out.length ≤ B
theorem namesL_len (ρ : Nat → Nat) : ∀ (l : List Nat) (k : Nat), (namesL ρ l k).length = l.length
  | [], _ => rfl
  | i :: r, k => by simp [namesL, namesL_len ρ r]
theorem entsP_len : ∀ {es : List MapEntry} {l : List (Nat × Value)}, entsP l es → es.length = l.length
  | [], l, h => by have h : l = [] := h; subst h; rfl
  | e :: r, l, h => by
    obtain ⟨b, v, l', rfl, h1, h2, h3⟩ := h
    simp [entsP_len h3]
theorem entsP_push : ∀ {es : List MapEntry} {l : List (Nat × Value)} {e : MapEntry} {b : Nat} {v : Value}, entsP l es → e.key = .pointer (some ⟨b, 0, none⟩) → e.val = v → entsP (l ++ [(b, v)]) (es ++ [e])
  | [], l, e, b, v, h, hk, hv => by
    have h : l = [] := h
    subst h
    exact ⟨b, v, [], rfl, hk, hv, rfl⟩
  | e' :: r, l, e, b, v, h, hk, hv => by
    obtain ⟨b', v', l', rfl, h1, h2, h3⟩ := h
    exact ⟨b', v', l' ++ [(b, v)], rfl, h1, h2, entsP_push h3 hk hv⟩
theorem namesL_snoc (ρ : Nat → Nat) (i : Nat) : ∀ (l : List Nat) (k : Nat), namesL ρ (l ++ [i]) k = namesL ρ l k ++ [(ρ i, .int .i64 ((k + l.length + 1 : Nat)))]
  | [], k => rfl
  | j :: r, k => by
    show (_, _) :: namesL ρ (r ++ [i]) (k + 1) = _
    rw [namesL_snoc ρ i r (k + 1)]
    simp only [namesL, List.cons_append, List.length_cons]
    congr 6
    omega
theorem namesL_mem {ρ : Nat → Nat} : ∀ {l : List Nat} {k : Nat} {b : Nat} {v : Value}, (b, v) ∈ namesL ρ l k → ∃ i ∈ l, b = ρ i
  | [], _, _, _, h => by cases h
  | j :: r, k, b, v, h => by
    simp only [namesL, List.mem_cons, Prod.mk.injEq] at h
    rcases h with ⟨rfl, -⟩ | h
    · exact ⟨j, List.mem_cons_self .., rfl⟩
    · obtain ⟨i, h1, h2⟩ := namesL_mem h
      exact ⟨i, List.mem_cons_of_mem _ h1, h2⟩
theorem idxP_names {ρ : Nat → Nat} {n i : Nat} (inj : ∀ a b, a < n → b < n → ρ a = ρ b → a = b) (hi : i < n) : ∀ (l : List Nat) (k j : Nat), (∀ a ∈ l, a < n) →
    idxP (ρ i) (namesL ρ l k) j = (l.idxOf? i).map fun m => (j + m, .int .i64 ((k + m + 1 : Nat)))
  | [], _, _, _ => rfl
  | a :: r, k, j, h => by
    have ha := h a (List.mem_cons_self ..)
    unfold namesL idxP
    rw [List.idxOf?_cons]
    by_cases e : a = i
    · subst e
      simp
    · have e2 : ¬ ρ i = ρ a := fun h' => e (inj _ _ ha hi h'.symm)
      rw [if_neg e2, idxP_names inj hi r (k + 1) (j + 1) fun a h' => h a (List.mem_cons_of_mem _ h')]
      have e3 : (a == i) = false := by simpa using e
      rw [e3]
      cases r.idxOf? i with
      | none => rfl
      | some m =>
        simp only [Option.map_some, Bool.false_eq_true, if_false, Option.some.injEq, Prod.mk.injEq, Value.int.injEq, true_and]
        constructor
        · omega
        · omega
end
theorem rd_len_map {P : Program} {t T : TypeId} {k e : TypeId} (ht : mapT P t = some (k, e)) {w : World} {r c : Nat} {es : Array MapEntry} (hb : w.heap[r]? = some (.map es c)) {K : Value → Prop} {X : Value → World → Prop} :
    RD P (Builtin.len_ #[t] T #[.map (some r)]) w K X = K (.int .i64 es.size) := by
  refine rd_ok ?_
  simp [Builtin.len_, run_underlying (mapT_u ht), getMap_run hb, goInt]
end Go.Proofs.YtkmpelgfhjgddaaGreatDoor
