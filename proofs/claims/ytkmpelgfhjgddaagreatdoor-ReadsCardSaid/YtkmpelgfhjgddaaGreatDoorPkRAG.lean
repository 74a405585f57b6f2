/- A part of one proof (SBase, RBase, ShR1, RW1); no conditions beyond what each theorem names. -/
import Derived.Test.YtkmpelgfhjgddaaGreatDoorPkRAF
set_option linter.all false
set_option linter.unusedVariables false
set_option linter.unusedSimpArgs false
namespace Go.Proofs.YtkmpelgfhjgddaaGreatDoor
open Go.RowKit
def IsSl (F : Nat → Prop) (w : World) (et : TypeId) (v : Value) (vs : List Value) : Prop :=
  (vs = [] ∧ v = .slice none 0 0) ∨
  ∃ b cs, v = .slice (some ⟨b, 0, none⟩) vs.length cs.size ∧ F b ∧ w.heap[b]? = some (.cells cs et (0, 0)) ∧ vs.length ≤ cs.size ∧ cs.toList.take vs.length = vs
theorem IsSl.mono {F F' : Nat → Prop} {w w' : World} {et : TypeId} {v : Value} {vs : List Value} (h : IsSl F w et v vs)
    (hf : ∀ b, F b → F' b) (hw : ∀ b cs, F b → w.heap[b]? = some (.cells cs et (0, 0)) → w'.heap[b]? = some (.cells cs et (0, 0))) : IsSl F' w' et v vs := by
  rcases h with h | ⟨b, cs, h1, h2, h3, h4⟩
  · exact .inl h
  · exact .inr ⟨b, cs, h1, hf b h2, hw b cs h2 h3, h4⟩
mutual
def IsEx (F : Nat → Prop) (w : World) (v : Value) : P.Ex → Prop
  | .mk kind name n k args => ∃ b av vs, v = .pointer (some ⟨b, 0, none⟩) ∧ F b ∧
      w.heap[b]? = some (.cells #[.int .u8 kind, .string (bs name), .int .i64 n, .int .i64 k, av] 177 (0, 0)) ∧
      IsSl F w 124 av vs ∧ IsExs F w vs args
  termination_by structural x => x
def IsExs (F : Nat → Prop) (w : World) (vs : List Value) : List P.Ex → Prop
  | [] => vs = []
  | x :: xs => ∃ v r, vs = v :: r ∧ IsEx F w v x ∧ IsExs F w r xs
  termination_by structural x => x
end
def astObj : Obj → Prop
  | .cells _ t z => (t = 177 ∨ t = 124 ∨ t = 145 ∨ t = 102) ∧ z = (0, 0)
  | _ => False
mutual
theorem IsEx.mono {F F' : Nat → Prop} {w w' : World} (hf : ∀ b, F b → F' b) (hw : ∀ b o, F b → astObj o → w.heap[b]? = some o → w'.heap[b]? = some o) :
    ∀ (x : P.Ex) (v : Value), IsEx F w v x → IsEx F' w' v x
  | .mk kind name n k args, v, h => by
    unfold IsEx at h ⊢
    obtain ⟨b, av, vs, h1, h2, h3, h4, h5⟩ := h
    exact ⟨b, av, vs, h1, hf b h2, hw b _ h2 ⟨.inl rfl, rfl⟩ h3, h4.mono hf fun b cs hb hc => hw b _ hb ⟨.inr (.inl rfl), rfl⟩ hc, IsExs.mono hf hw args vs h5⟩
  termination_by structural x => x
theorem IsExs.mono {F F' : Nat → Prop} {w w' : World} (hf : ∀ b, F b → F' b) (hw : ∀ b o, F b → astObj o → w.heap[b]? = some o → w'.heap[b]? = some o) :
    ∀ (l : List P.Ex) (vs : List Value), IsExs F w vs l → IsExs F' w' vs l
  | [], vs, h => by unfold IsExs at h ⊢; exact h
  | x :: xs, vs, h => by
    unfold IsExs at h ⊢
    obtain ⟨v, r, h1, h2, h3⟩ := h
    exact ⟨v, r, h1, IsEx.mono hf hw x v h2, IsExs.mono hf hw xs r h3⟩
  termination_by structural x => x
end
mutual
def IsBd (F : Nat → Prop) (w : World) (v : Value) : P.Bd → Prop
  | .mk kind name args parts => ∃ b av pv vs us, v = .pointer (some ⟨b, 0, none⟩) ∧ F b ∧
      w.heap[b]? = some (.cells #[.int .u8 kind, .string (bs name), av, pv] 145 (0, 0)) ∧
      IsSl F w 124 av vs ∧ IsExs F w vs args ∧ IsSl F w 102 pv us ∧ IsBds F w us parts
  termination_by structural x => x
def IsBds (F : Nat → Prop) (w : World) (vs : List Value) : List P.Bd → Prop
  | [] => vs = []
  | x :: xs => ∃ v r, vs = v :: r ∧ IsBd F w v x ∧ IsBds F w r xs
  termination_by structural x => x
end
structure TW (T : List P.Tok) : Prop where
  len : T.length ≤ 2001
  last : ∃ l t, T = l ++ [t] ∧ t.kind = 0 ∧ ∀ u ∈ l, u.kind ≠ 0
  kind : ∀ u ∈ T, u.kind ≤ 4
  digits : ∀ u ∈ T, u.kind = 3 → u.text ≠ [] ∧ u.text.all P.digit = true ∧ u.text.length ≤ 9
  words : ∀ u ∈ T, u.kind = 1 → ∃ c r, u.text = c :: r ∧ P.cls c = 115
  vars : ∀ u ∈ T, u.kind = 2 → u.text ≠ []
theorem TW.pos {T : List P.Tok} (h : TW T) : 0 < T.length := by
  obtain ⟨l, t, rfl, _⟩ := h.last
  simp
theorem TW.next {T : List P.Tok} (h : TW T) {k : Nat} (hk : k < T.length) (hn : (P.tk T k).kind ≠ 0) : k + 1 < T.length := by
  obtain ⟨l, t, rfl, h0, _⟩ := h.last
  simp only [List.length_append, List.length_cons, List.length_nil] at hk ⊢
  rcases Nat.lt_or_ge k l.length with h1 | h1
  · omega
  · have : k = l.length := by omega
    subst this
    exact absurd (by simp [P.tk, h0]) hn
theorem tk_mem {T : List P.Tok} {k : Nat} (hk : k < T.length) : P.tk T k ∈ T := by
  have : P.tk T k = T[k] := by simp [P.tk, List.getD_eq_getElem?_getD, List.getElem?_eq_getElem hk]
  rw [this]; exact List.getElem_mem hk
structure STab (w : World) (B : Nat) : Prop where
  lt : 2 < B
  lev : ∀ l, l < 2 → ∃ b o c, b < B ∧ w.cell? ⟨2, l, none⟩ = some (.slice (some ⟨b, o, none⟩) (P.ops l).length c) ∧
    ∀ j, j < (P.ops l).length → w.cell? ⟨b, o + j, none⟩ = some (.string (bs ((P.ops l).getD j [])))
theorem cellKeep {w w' : World} {a : Addr} {v : Value} (h : w.cell? a = some v) (hw : ∀ o, w.heap[a.block]? = some o → w'.heap[a.block]? = some o) : w'.cell? a = some v := by
  cases hb : w.heap[a.block]? with
  | none => simp [World.cell?, hb] at h
  | some o => rw [World.cell?_of_block (w := w) (w' := w') (by rw [hw _ hb, hb])]; exact h
theorem STab.ext {w w' : World} {B : Nat} (h : STab w B) (hw : ∀ (b : Nat) (o : Obj), b < B → w.heap[b]? = some o → w'.heap[b]? = some o) : STab w' B := by
  refine ⟨h.lt, fun l hl => ?_⟩
  obtain ⟨b, o, c, h1, h2, h3⟩ := h.lev l hl
  exact ⟨b, o, c, h1, cellKeep h2 fun x hx => hw _ x h.lt hx, fun j hj => cellKeep (h3 j hj) fun x hx => hw _ x h1 hx⟩
def SToks (w : World) (tb : Nat) (T : List P.Tok) : Prop :=
  STab w tb ∧ ∃ cs, w.heap[tb]? = some (.cells cs 139 (0, 0)) ∧ ∀ j, j < T.length →
    cs[j * 3]? = some (.int .i64 ((P.tk T j).kind)) ∧ cs[j * 3 + 1]? = some (.string (bs (P.tk T j).text)) ∧ cs[j * 3 + 2]? = some (.int .i64 ((P.tk T j).pos))
structure SP (w : World) (pb tb : Nat) (T : List P.Tok) (k : Nat) (vars : List P.Bs) (d : Nat) : Prop where
  tw : TW T
  lt : tb < pb
  kt : k < T.length
  nv : vars.length ≤ 12
  toks : SToks w tb T
  blk : ∃ cap vv, T.length ≤ cap ∧ cap ≤ 9223372036854775807 ∧ w.heap[pb]? = some (.cells #[.slice (some ⟨tb, k * 3, none⟩) (T.length - k) (cap - k), vv, .int .i64 d] 142 (0, 0)) ∧
    w.ownsRow (pb + 1) 9 1 vv vars.length (vars.map fun s => .string (bs s))
def SB (w : World) (pb : Nat) : Prop := ∃ lv vv d, w.heap[pb]? = some (.cells #[lv, vv, .int .i64 d] 142 (0, 0))
def MS (pb b : Nat) (o : Obj) : Prop := b = pb ∨ (pb < b ∧ ∃ cs z, o = .cells cs 9 z)
abbrev SFr (pb : Nat) (w w' : World) : Prop := FrM (MS pb) w w'
theorem SFr.toks {pb tb : Nat} {w w' : World} (h : SFr pb w w') (hl : tb < pb) {T : List P.Tok} (ht : SToks w tb T) : SToks w' tb T := by
  obtain ⟨hs, cs, h1, h2⟩ := ht
  exact ⟨hs.ext fun b o hb ho => h.block _ _ ho (by rintro (h | ⟨h, _⟩) <;> omega), cs, h.block _ _ h1 (by rintro (h | ⟨h, _⟩) <;> omega), h2⟩
theorem SFr.keep {pb b : Nat} {w w' : World} (h : SFr pb w w') {cs : Array Value} {t : TypeId} {z : Nat × Nat} (hb : w.heap[b]? = some (.cells cs t z))
    (hne : b ≠ pb) (ht : t ≠ 9) : w'.heap[b]? = some (.cells cs t z) :=
  h.block _ _ hb (by
    rintro (h | ⟨_, cs', z', h⟩)
    · exact hne h
    · cases h; exact ht rfl)
theorem SFr.ast {pb b : Nat} {o : Obj} {w w' : World} (h : SFr pb w w') (ha : astObj o) (hb : w.heap[b]? = some o) (hne : b ≠ pb) : w'.heap[b]? = some o := by
  cases o with
  | cells cs t z =>
    refine h.keep hb hne ?_
    rintro rfl
    rcases ha.1 with h | h | h | h <;> cases h
  | _ => exact ha.elim
abbrev Nu (w w' : World) : Nat → Prop := fun b => w.heap.size ≤ b ∧ b < w'.heap.size
def faulted (c a : Int) (w w' : World) (e : Ending) : Prop :=
  ∃ b, e = .panicked [{ v := .iface 85 (.pointer (some ⟨b, 0, none⟩)), recovered := false }] ∧
    w'.heap[b]? = some (.cells #[.int .i64 c, .int .i64 a] 89 (0, 0)) ∧ w.heap.size ≤ b
def SPost {α : Type} (I : (Nat → Prop) → World → Value → α → Prop) (pb tb : Nat) (T : List P.Tok) (d : Nat) (w : World) : P.Res α → Ending → World → Prop
  | .ok x k vs, e, w' => ∃ v, e = .returned v ∧ I (Nu w w') w' v x ∧ SP w' pb tb T k vs d ∧ SFr pb w w'
  | .err c a, e, w' => faulted c a w w' e ∧ SFr pb w w' ∧ SB w' pb
end Go.Proofs.YtkmpelgfhjgddaaGreatDoor
namespace Go.Proofs.YtkmpelgfhjgddaaGreatDoor
open Go.RowKit Sx
def rk (k : Nat) : Nat := if k = 0 then 101 else if k = 1 then 97 else if k = 2 then 118 else if k = 3 then 110 else 115
def RToks (w : World) (tb : Nat) (T : List P.Tok) : Prop :=
  ∃ cs, w.heap[tb]? = some (.cells cs 60 (0, 0)) ∧ ∀ j, j < T.length →
    cs[j * 3]? = some (.int .u8 (rk (P.tk T j).kind)) ∧ cs[j * 3 + 1]? = some (.string (bs (P.tk T j).text)) ∧ cs[j * 3 + 2]? = some (.int .i64 ((P.tk T j).pos))
structure TWs (T : List P.Tok) : Prop extends TW T where
  sg : ∀ u ∈ T, u.kind = 4 → u.text = [46] ∨ u.text ∈ P.signs
structure RPx (w : World) (pb tb : Nat) (T : List P.Tok) (k : Nat) (vars : List P.Bs) (d : Int) (er at_ lc : Nat) (vv : Value) : Prop where
  tw : TWs T
  lt : tb < pb
  kt : k < T.length
  nv : vars.length ≤ 13 ∧ (er = 0 → vars.length ≤ 12)
  dp : -1 ≤ d ∧ d ≤ 1000
  toks : RToks w tb T
  lc1 : T.length ≤ lc
  lc2 : lc ≤ 9223372036854775807
  cell : w.heap[pb]? = some (.cells #[.slice (some ⟨tb, 0, none⟩) T.length lc, .int .i64 k, vv, .int .i64 d, .int .i64 er, .int .i64 at_] 58 (0, 0))
  own : w.ownsRow (pb + 1) 9 1 vv vars.length (vars.map fun s => .string (bs s))
def RP (w : World) (pb tb : Nat) (T : List P.Tok) (k : Nat) (vars : List P.Bs) (d : Int) (er at_ : Nat) : Prop := ∃ lc vv, RPx w pb tb T k vars d er at_ lc vv
abbrev RFr (pb : Nat) (w w' : World) : Prop := FrM (MS pb) w w'
theorem FrM.upd {M : Nat → Obj → Prop} {a b : World} (h : FrM M a b) {p : Nat} {o : Obj} (hp : (∀ x, M p x) ∨ a.heap.size ≤ p) : FrM M a (upd b p o) :=
  ⟨h.os, h.tape, h.output, by rw [size_upd]; exact h.size, fun i x hi hm => by
    rcases hp with hp | hp
    · by_cases e : i = p
      · subst e; exact absurd (hp x) hm
      · rw [hp_upd_other e]; exact h.block i x hi hm
    · have := ltOf hi
      rw [hp_upd_other (by omega)]; exact h.block i x hi hm⟩
theorem RToks.at {w : World} {tb : Nat} {T : List P.Tok} (h : RToks w tb T) : ∃ cs, w.heap[tb]? = some (.cells cs 60 (0, 0)) ∧ ∀ j, j < T.length → j * 3 + 3 ≤ cs.size ∧
    (cs.toList.drop (j * 3)).take 3 = [.int .u8 (rk (P.tk T j).kind), .string (bs (P.tk T j).text), .int .i64 ((P.tk T j).pos)] := by
  obtain ⟨cs, h1, h2⟩ := h
  refine ⟨cs, h1, fun j hj => ?_⟩
  obtain ⟨a, b, c⟩ := h2 j hj
  have hc := (Array.getElem?_eq_some_iff.1 c).1
  refine ⟨by omega, ?_⟩
  apply List.ext_getElem?
  intro i
  rw [List.getElem?_take]
  match i with
  | 0 => simpa using a
  | 1 => simpa using b
  | 2 => simpa using c
  | i + 3 => simp; omega
theorem own_ext {w w' : World} (hw : ∀ (b : Nat) (o : Obj), w.heap[b]? = some o → w'.heap[b]? = some o) {base e size n : Nat} {v : Value} {xs : List Value} (h : w.ownsRow base e size v n xs) : w'.ownsRow base e size v n xs := by
  obtain ⟨g1, g2⟩ := h
  refine ⟨g1, ?_⟩
  rcases g2 with g | ⟨g, cp, cur, e1, e2, e3, e4⟩
  · exact .inl g
  · exact .inr ⟨g, cp, cur, e1, e2, hw _ _ e3, e4⟩
theorem own_upd {w : World} {p : Nat} {o : Obj} {base e size n : Nat} {v : Value} {xs : List Value} (h : w.ownsRow base e size v n xs) (hp : p < base) : (upd w p o).ownsRow base e size v n xs := by
  obtain ⟨g1, g2⟩ := h
  refine ⟨g1, ?_⟩
  rcases g2 with g | ⟨g, cp, cur, e1, e2, e3, e4⟩
  · exact .inl g
  · exact .inr ⟨g, cp, cur, e1, e2, by rw [hp_upd_other (by omega)]; exact e3, e4⟩
theorem RPx.ext {w w' : World} {pb tb : Nat} {T : List P.Tok} {k : Nat} {vars : List P.Bs} {d : Int} {er at_ lc : Nat} {vv : Value} (h : RPx w pb tb T k vars d er at_ lc vv) (hf : Ext w w') :
    RPx w' pb tb T k vars d er at_ lc vv := by
  obtain ⟨tw, lt, kt, nv, dp, ⟨cs, c1, c2⟩, h1, h2, h3, g⟩ := h
  exact ⟨tw, lt, kt, nv, dp, ⟨cs, hf.ext _ _ c1, c2⟩, h1, h2, hf.ext _ _ h3, own_ext hf.ext g⟩
theorem RP.ext {w w' : World} {pb tb : Nat} {T : List P.Tok} {k : Nat} {vars : List P.Bs} {d : Int} {er at_ : Nat} (h : RP w pb tb T k vars d er at_) (hf : Ext w w') : RP w' pb tb T k vars d er at_ := by
  obtain ⟨lc, vv, h⟩ := h
  exact ⟨lc, vv, h.ext hf⟩
theorem RPx.set {w : World} {pb tb : Nat} {T : List P.Tok} {k : Nat} {vars : List P.Bs} {d : Int} {er at_ lc : Nat} {vv : Value} (h : RPx w pb tb T k vars d er at_ lc vv)
    {k' : Nat} {kz : Int} {d' : Int} {er' at' : Nat} (hk : k' < T.length) (hd : -1 ≤ d' ∧ d' ≤ 1000) (hkz : kz = k') (he : er' = 0 → er = 0) :
    RPx (upd w pb (.cells #[.slice (some ⟨tb, 0, none⟩) T.length lc, .int .i64 kz, vv, .int .i64 d', .int .i64 er', .int .i64 at'] 58 (0, 0))) pb tb T k' vars d' er' at' lc vv := by
  subst hkz
  obtain ⟨tw, lt, kt, nv, dp, ⟨cs, c1, c2⟩, h1, h2, h3, g⟩ := h
  refine ⟨tw, lt, hk, ⟨nv.1, fun e => nv.2 (he e)⟩, hd, ⟨cs, ?_, c2⟩, h1, h2, hp_upd_same rfl (ltOf h3), own_upd g (by omega)⟩
  rw [hp_upd_other (by omega)]; exact c1
theorem RPx.cs {w : World} {pb tb : Nat} {T : List P.Tok} {k : Nat} {vars : List P.Bs} {d : Int} {er at_ lc : Nat} {vv : Value} (h : RPx w pb tb T k vars d er at_ lc vv) :
    ∃ cs, w.heap[tb]? = some (.cells cs 60 (0, 0)) ∧ k * 3 + 3 ≤ cs.size ∧ (cs.toList.drop (k * 3)).take 3 = [.int .u8 (rk (P.tk T k).kind), .string (bs (P.tk T k).text), .int .i64 ((P.tk T k).pos)] := by
  obtain ⟨cs, c1, c2⟩ := h.toks.at
  exact ⟨cs, c1, c2 k h.kt⟩
theorem RP.of {w : World} {pb tb : Nat} {T : List P.Tok} {k : Nat} {vars : List P.Bs} {d : Int} {er at_ lc : Nat} {vv : Value} (h : RPx w pb tb T k vars d er at_ lc vv) : RP w pb tb T k vars d er at_ := ⟨lc, vv, h⟩
theorem rk_sign {a : Nat} (ha : a ≤ 4) : rk a = 115 ↔ a = 4 := by
  unfold rk
  repeat' split
  all_goals omega
theorem rk_atom {a : Nat} (ha : a ≤ 4) : rk a = 97 ↔ a = 1 := by
  unfold rk
  repeat' split
  all_goals omega
theorem rk_var {a : Nat} (ha : a ≤ 4) : rk a = 118 ↔ a = 2 := by
  unfold rk
  repeat' split
  all_goals omega
theorem rk_num {a : Nat} (ha : a ≤ 4) : rk a = 110 ↔ a = 3 := by
  unfold rk
  repeat' split
  all_goals omega
theorem rk_end {a : Nat} (ha : a ≤ 4) : rk a = 101 ↔ a = 0 := by
  unfold rk
  repeat' split
  all_goals omega
theorem rk_small (a : Nat) : rk a ≤ 255 := by
  unfold rk
  repeat' split
  all_goals omega
theorem RPx.kind4 {w : World} {pb tb : Nat} {T : List P.Tok} {k : Nat} {vars : List P.Bs} {d : Int} {er at_ lc : Nat} {vv : Value} (h : RPx w pb tb T k vars d er at_ lc vv) : (P.tk T k).kind ≤ 4 := h.tw.kind _ (tk_mem h.kt)
end Go.Proofs.YtkmpelgfhjgddaaGreatDoor
namespace Go.Proofs.YtkmpelgfhjgddaaGreatDoor
open Go.Proofs.YtkmpelgfhjgddaaGreatDoor.Sx
set_option maxRecDepth 100000
set_option linter.unusedVariables false
def sh_Pr_parser_next (p0 : Value) (w : World) (R : Ending → World → Prop) : Prop :=
  WR Tryz.prog (Instr.alloc 60 true (.tuple #[])) w (fun x2 w1 =>
  NC p0 fun x4 =>
  RD Tryz.prog (Instr.fieldAt 58 x4 0) w1.drew (fun x5 =>
  RD Tryz.prog (Instr.loadAt 56 x5) w1.drew (fun x6 =>
  NC p0 fun x8 =>
  RD Tryz.prog (Instr.fieldAt 58 x8 1) w1.drew (fun x9 =>
  RD Tryz.prog (Instr.loadAt 3 x9) w1.drew (fun x10 =>
  RD Tryz.prog (Instr.indexAt 56 x6 x10) w1.drew (fun x11 =>
  RD Tryz.prog (Instr.loadAt 60 x11) w1.drew (fun x12 =>
  WU Tryz.prog (Instr.storeAt 60 x2 x12) w1.drew (fun w1_1 =>
  RD Tryz.prog (Instr.loadAt 60 x2) w1_1 (fun r => R (.returned r) w1_1) NX) (PX R)) NX) NX) NX) NX) NX) NX) (PX R)
theorem sh_Pr_parser_next_ok {p0 : Value} {w : World} {R : Ending → World → Prop} (h : sh_Pr_parser_next p0 w R) : Calls Tryz.prog 16 #[p0] w R :=
  callsEq (args := [p0]) (good (fun _ => []) (fun _ => none) (fun n => match n with | 1 => 10 | _ => 0) (fun _ => none) (fun _ => []) (fun _ => []) (fun _ => false) (fun _ => false)) Tryz.func16 rfl (by kernel_rfl) (by kernel_rfl) (Nat.le_of_ble_eq_true (by kernel_rfl)) [] (by kernel_rfl) h
def sh_Pr_parser_fault (p0 p1 p2 : Value) (w : World) (R : Ending → World → Prop) : Prop :=
  NC p0 fun x7 =>
  RD Tryz.prog (Instr.fieldAt 58 x7 4) w (fun x8 =>
  RD Tryz.prog (Instr.loadAt 29 x8) w (fun x9 =>
  RD Tryz.prog (bo .eql 29 (.tmp 9) (.const (.int .i64 0)) x9 (.int .i64 0)) w (fun x10 =>
  BS x10 (NC p0 fun x13 =>
  RD Tryz.prog (Instr.fieldAt 58 x13 4) w (fun x14 =>
  WU Tryz.prog (Instr.storeAt 29 x14 p1) w (fun w1 =>
  NC p0 fun x17 =>
  RD Tryz.prog (Instr.fieldAt 58 x17 5) w1 (fun x18 =>
  WU Tryz.prog (Instr.storeAt 3 x18 p2) w1 (fun w1_1 =>
  R (.returned (.tuple #[])) w1_1) (PX R)) (PX R)) (PX R)) (PX R)) (R (.returned (.tuple #[])) w)) (PX R)) (PX R)) (PX R)
theorem sh_Pr_parser_fault_ok {p0 p1 p2 : Value} {w : World} {R : Ending → World → Prop} (h : sh_Pr_parser_fault p0 p1 p2 w R) : Calls Tryz.prog 17 #[p0, p1, p2] w R :=
  callsEq (args := [p0, p1, p2]) (good (fun _ => []) (fun _ => none) (fun _ => 0) (fun _ => none) (fun _ => []) (fun _ => []) (fun _ => false) (fun n => match n with | 10 => true | _ => false)) Tryz.func17 rfl (by kernel_rfl) (by kernel_rfl) (Nat.le_of_ble_eq_true (by kernel_rfl)) [] (by kernel_rfl) h
def sh_Pr_parser_is (p0 p1 : Value) (w : World) (R : Ending → World → Prop) : Prop :=
  CA Tryz.prog 16 #[p0] w (fun x7 w1 =>
  WR Tryz.prog (Instr.alloc 60 true (.tuple #[])) w1 (fun x5 w1_1 =>
  WU Tryz.prog (Instr.storeAt 60 x5 x7) w1_1 (fun w1_2 =>
  JN (fun j =>
    NC p0 fun x9 =>
    RD Tryz.prog (Instr.fieldAt 58 x9 4) w1_2 (fun x10 =>
    RD Tryz.prog (Instr.loadAt 29 x10) w1_2 (fun x11 =>
    RD Tryz.prog (bo .neq 29 (.tmp 11) (.const (.int .i64 0)) x11 (.int .i64 0)) w1_2 (fun x12 => BS x12 (
    j (sOf [(28, (.bool true))]) w1_2) (
    RD Tryz.prog (Instr.fieldAt 60 x5 0) w1_2 (fun x14 =>
    RD Tryz.prog (Instr.loadAt 5 x14) w1_2 (fun x15 =>
    RD Tryz.prog (bo .neq 5 (.tmp 15) (.const (.int .u8 115)) x15 (.int .u8 115)) w1_2 (fun x16 => BS x16 (
    RD Tryz.prog (Instr.fieldAt 60 x5 0) w1_2 (fun x18 =>
    RD Tryz.prog (Instr.loadAt 5 x18) w1_2 (fun x19 =>
    RD Tryz.prog (bo .neq 5 (.tmp 19) (.const (.int .u8 97)) x19 (.int .u8 97)) w1_2 (fun x20 => BS x20 (
    j (sOf [(28, (.bool true))]) w1_2) (
    RD Tryz.prog (Instr.fieldAt 60 x5 1) w1_2 (fun x24 =>
    RD Tryz.prog (Instr.loadAt 9 x24) w1_2 (fun x25 =>
    RD Tryz.prog (bo .neq 9 (.tmp 25) (.tmp 26) x25 p1) w1_2 (fun x27 =>
    j (sOf [(28, x27)]) w1_2) (PX R)) (PX R)) (PX R))) (PX R)) (PX R)) (PX R)) (
    RD Tryz.prog (Instr.fieldAt 60 x5 1) w1_2 (fun x24_1 =>
    RD Tryz.prog (Instr.loadAt 9 x24_1) w1_2 (fun x25_1 =>
    RD Tryz.prog (bo .neq 9 (.tmp 25) (.tmp 26) x25_1 p1) w1_2 (fun x27_1 =>
    j (sOf [(28, x27_1)]) w1_2) (PX R)) (PX R)) (PX R))) (PX R)) (PX R)) (PX R))) (PX R)) (PX R)) (PX R))
    (fun s d w1_3 =>
    BS (s 28) (R (.returned (.bool false)) w1_3) (NC p0 fun x30 =>
  RD Tryz.prog (Instr.fieldAt 58 x30 1) w1_3 (fun x31 =>
  RD Tryz.prog (Instr.loadAt 3 x31) w1_3 (fun x32 =>
  RD Tryz.prog (bo .add 3 (.tmp 32) (.const (.int .i64 1)) x32 (.int .i64 1)) w1_3 (fun x33 =>
  NC p0 fun x34 =>
  RD Tryz.prog (Instr.fieldAt 58 x34 1) w1_3 (fun x35 =>
  WU Tryz.prog (Instr.storeAt 3 x35 x33) w1_3 (fun w1_4 =>
  R (.returned (.bool true)) w1_4) (PX R)) (PX R)) (PX R)) (PX R)) (PX R)))) (PX R)) (PX R)) (PC R)
theorem sh_Pr_parser_is_ok {p0 p1 : Value} {w : World} {R : Ending → World → Prop} (h : sh_Pr_parser_is p0 p1 w R) : Calls Tryz.prog 32 #[p0, p1] w R :=
  callsEq (args := [p0, p1]) (good (fun _ => []) (fun n => match n with | 2000 => some [28] | _ => none) (fun _ => 0) (fun _ => none) (fun _ => []) (fun n => match n with | 2000 => [] | _ => []) (fun _ => false) (fun n => match n with | 4 => true | 27 => true | 28 => true | _ => false)) Tryz.func32 rfl (by kernel_rfl) (by kernel_rfl) (Nat.le_of_ble_eq_true (by kernel_rfl)) [] (by kernel_rfl) h
def sh_Pr_parser_must (p0 p1 : Value) (w : World) (R : Ending → World → Prop) : Prop :=
  CA Tryz.prog 32 #[p0, p1] w (fun x7 w1 =>
  RD Tryz.prog (Op.unary .not x7) w1 (fun x9 =>
  BS x9 (CA Tryz.prog 31 #[p0] w1 (fun x11 w1_1 =>
  R (.returned (.tuple #[])) w1_1) (PC R)) (R (.returned (.tuple #[])) w1)) (PX R)) (PC R)
theorem sh_Pr_parser_must_ok {p0 p1 : Value} {w : World} {R : Ending → World → Prop} (h : sh_Pr_parser_must p0 p1 w R) : Calls Tryz.prog 34 #[p0, p1] w R :=
  callsEq (args := [p0, p1]) (good (fun _ => []) (fun _ => none) (fun _ => 0) (fun _ => none) (fun _ => []) (fun _ => []) (fun _ => false) (fun n => match n with | 4 => true | 7 => true | 8 => true | 9 => true | _ => false)) Tryz.func34 rfl (by kernel_rfl) (by kernel_rfl) (Nat.le_of_ble_eq_true (by kernel_rfl)) [] (by kernel_rfl) h
def sh_Pr_parser_enter (p0 : Value) (w : World) (R : Ending → World → Prop) : Prop :=
  NC p0 fun x5 =>
  RD Tryz.prog (Instr.fieldAt 58 x5 3) w (fun x6 =>
  RD Tryz.prog (Instr.loadAt 3 x6) w (fun x7 =>
  RD Tryz.prog (bo .add 3 (.tmp 7) (.const (.int .i64 1)) x7 (.int .i64 1)) w (fun x8 =>
  NC p0 fun x9 =>
  RD Tryz.prog (Instr.fieldAt 58 x9 3) w (fun x10 =>
  WU Tryz.prog (Instr.storeAt 3 x10 x8) w (fun w1 =>
  CA Tryz.prog 16 #[p0] w1 (fun x12 w1_1 =>
  WR Tryz.prog (Instr.alloc 60 true (.tuple #[])) w1_1 (fun x3 w1_2 =>
  WU Tryz.prog (Instr.storeAt 60 x3 x12) w1_2 (fun w1_3 =>
  JN (fun j =>
    NC p0 fun x14 =>
    RD Tryz.prog (Instr.fieldAt 58 x14 3) w1_3 (fun x15 =>
    RD Tryz.prog (Instr.loadAt 3 x15) w1_3 (fun x16 =>
    RD Tryz.prog (bo .gtr 3 (.tmp 16) (.const (.int .i64 8)) x16 (.int .i64 8)) w1_3 (fun x17 =>
    BS x17 (RD Tryz.prog (Instr.fieldAt 60 x3 2) w1_3 (fun x19 =>
    RD Tryz.prog (Instr.loadAt 3 x19) w1_3 (fun x20 =>
    CA Tryz.prog 17 #[p0, (.int .i64 4), x20] w1_3 (fun x21 w1_5 =>
    j (sOf []) w1_5) (PC R)) (PX R)) (PX R)) (j (sOf []) w1_3)) (PX R)) (PX R)) (PX R))
    (fun s d w1_4 =>
    NC p0 fun x23 =>
    RD Tryz.prog (Instr.fieldAt 58 x23 4) w1_4 (fun x24 =>
    RD Tryz.prog (Instr.loadAt 29 x24) w1_4 (fun x25 =>
    RD Tryz.prog (bo .eql 29 (.tmp 25) (.const (.int .i64 0)) x25 (.int .i64 0)) w1_4 (fun x26 =>
    R (.returned x26) w1_4) (PX R)) (PX R)) (PX R))) (PX R)) (PX R)) (PC R)) (PX R)) (PX R)) (PX R)) (PX R)) (PX R)
theorem sh_Pr_parser_enter_ok {p0 : Value} {w : World} {R : Ending → World → Prop} (h : sh_Pr_parser_enter p0 w R) : Calls Tryz.prog 84 #[p0] w R :=
  callsEq (args := [p0]) (good (fun _ => []) (fun n => match n with | 4001 => some [] | _ => none) (fun _ => 0) (fun _ => none) (fun _ => []) (fun n => match n with | 4001 => [] | _ => []) (fun _ => false) (fun n => match n with | 2 => true | 17 => true | 26 => true | _ => false)) Tryz.func84 rfl (by kernel_rfl) (by kernel_rfl) (Nat.le_of_ble_eq_true (by kernel_rfl)) [] (by kernel_rfl) h
def sh_Pr_parser_none (p0 : Value) (w : World) (R : Ending → World → Prop) : Prop :=
  CA Tryz.prog 16 #[p0] w (fun x4 w1 =>
  WR Tryz.prog (Instr.alloc 60 true (.tuple #[])) w1 (fun x2 w1_1 =>
  WU Tryz.prog (Instr.storeAt 60 x2 x4) w1_1 (fun w1_2 =>
  RD Tryz.prog (Instr.fieldAt 60 x2 2) w1_2 (fun x6 =>
  RD Tryz.prog (Instr.loadAt 3 x6) w1_2 (fun x7 =>
  CA Tryz.prog 17 #[p0, (.int .i64 2), x7] w1_2 (fun x8 w1_3 =>
  R (.returned (.tuple #[])) w1_3) (PC R)) (PX R)) (PX R)) (PX R)) (PX R)) (PC R)
theorem sh_Pr_parser_none_ok {p0 : Value} {w : World} {R : Ending → World → Prop} (h : sh_Pr_parser_none p0 w R) : Calls Tryz.prog 31 #[p0] w R :=
  callsEq (args := [p0]) (good (fun _ => []) (fun _ => none) (fun _ => 0) (fun _ => none) (fun _ => []) (fun _ => []) (fun _ => false) (fun _ => false)) Tryz.func31 rfl (by kernel_rfl) (by kernel_rfl) (Nat.le_of_ble_eq_true (by kernel_rfl)) [] (by kernel_rfl) h
def sh_Pr_parser_prim (p0 : Value) (w : World) (R : Ending → World → Prop) : Prop :=
  WR Tryz.prog (Instr.alloc 69 true (.tuple #[])) w (fun x2 w1 =>
  RD Tryz.prog (Instr.build 69 #[]) w1 (fun x5 =>
  WR Tryz.prog (Instr.alloc 69 true (.tuple #[])) w1 (fun x3 w1_1 =>
  WU Tryz.prog (Instr.storeAt 69 x3 x5) w1_1 (fun w1_2 =>
  CA Tryz.prog 84 #[p0] w1_2 (fun x7 w1_3 =>
  JN (fun j =>
    BS x7 (CA Tryz.prog 93 #[p0] w1_3 (fun x10 w1_5 =>
    WU Tryz.prog (Instr.storeAt 69 x3 x10) w1_5 (fun w1_6 =>
    j (sOf []) w1_6) (PX R)) (PC R)) (j (sOf []) w1_3))
    (fun s d w1_4 =>
    NC p0 fun x12 =>
    RD Tryz.prog (Instr.fieldAt 58 x12 3) w1_4 (fun x13 =>
    RD Tryz.prog (Instr.loadAt 3 x13) w1_4 (fun x14 =>
    RD Tryz.prog (bo .sub 3 (.tmp 14) (.const (.int .i64 1)) x14 (.int .i64 1)) w1_4 (fun x15 =>
    NC p0 fun x16 =>
    RD Tryz.prog (Instr.fieldAt 58 x16 3) w1_4 (fun x17 =>
    WU Tryz.prog (Instr.storeAt 3 x17 x15) w1_4 (fun w1_7 =>
    RD Tryz.prog (Instr.loadAt 69 x3) w1_7 (fun x18 =>
    WU Tryz.prog (Instr.storeAt 69 x2 x18) w1_7 (fun w1_8 =>
    RD Tryz.prog (Instr.loadAt 69 x2) w1_8 (fun r => R (.returned r) w1_8) NX) (PX R)) (PX R)) (PX R)) (PX R)) (PX R)) (PX R)) (PX R))) (PC R)) (PX R)) (PX R)) (PX R)) (PX R)
theorem sh_Pr_parser_prim_ok {p0 : Value} {w : World} {R : Ending → World → Prop} (h : sh_Pr_parser_prim p0 w R) : Calls Tryz.prog 75 #[p0] w R :=
  callsEq (args := [p0]) (good (fun _ => []) (fun n => match n with | 4001 => some [] | _ => none) (fun _ => 0) (fun _ => none) (fun _ => []) (fun n => match n with | 4001 => [] | _ => []) (fun _ => false) (fun n => match n with | 4 => true | 7 => true | 8 => true | _ => false)) Tryz.func75 rfl (by kernel_rfl) (by kernel_rfl) (Nat.le_of_ble_eq_true (by kernel_rfl)) [] (by kernel_rfl) h
def sh_Pr_parser_list (p0 : Value) (w : World) (R : Ending → World → Prop) : Prop :=
  WR Tryz.prog (Instr.alloc 69 true (.tuple #[])) w (fun x2 w1 =>
  RD Tryz.prog (Instr.build 69 #[(0, (.int .u8 97)), (1, (.string (bs [91, 93])))]) w1 (fun x10 =>
  WR Tryz.prog (Instr.alloc 69 true (.tuple #[])) w1 (fun x3 w1_1 =>
  WU Tryz.prog (Instr.storeAt 69 x3 x10) w1_1 (fun w1_2 =>
  CA Tryz.prog 32 #[p0, (.string (bs [93]))] w1_2 (fun x12 w1_3 =>
  BS x12 (RD Tryz.prog (Instr.loadAt 69 x3) w1_3 (fun x14 =>
  WU Tryz.prog (Instr.storeAt 69 x2 x14) w1_3 (fun w1_4 =>
  RD Tryz.prog (Instr.loadAt 69 x2) w1_4 (fun r => R (.returned r) w1_4) NX) (PX R)) (PX R)) (LoopW (fun rec s d w1_5 =>
    BS (s 6) (CA Tryz.prog 22 #[p0] w1_5 (fun x17 w1_6 =>
    WR Tryz.prog (Instr.alloc 69 true (.tuple #[])) w1_6 (fun x7 w1_7 =>
    WU Tryz.prog (Instr.storeAt 69 x7 x17) w1_7 (fun w1_8 =>
    RD Tryz.prog (Instr.loadAt 69 x7) w1_8 (fun x19 =>
    WR Tryz.prog (Instr.buildSlice 34 1 #[(0, x19)]) w1_8 (fun x20 w1_9 =>
    WR Tryz.prog (Builtin.append_ #[34, 34] 34 #[(s 5), x20]) w1_9 (fun x21 w1_10 =>
    CA Tryz.prog 32 #[p0, (.string (bs [44]))] w1_10 (fun x23 w1_11 =>
    rec (sOf [(5, x21), (6, x23)]) w1_11) (PC R)) (PX R)) (PX R)) (PX R)) (PX R)) (PX R)) (PC R)) (CA Tryz.prog 32 #[p0, (.string (bs [124]))] w1_5 (fun x25 w1_12 =>
  JN (fun j =>
    BS x25 (CA Tryz.prog 22 #[p0] w1_12 (fun x28 w1_14 =>
    WU Tryz.prog (Instr.storeAt 69 x3 x28) w1_14 (fun w1_15 =>
    j (sOf []) w1_15) (PX R)) (PC R)) (j (sOf []) w1_12))
    (fun s_1 d_1 w1_13 =>
    CA Tryz.prog 34 #[p0, (.string (bs [93]))] w1_13 (fun x30 w1_16 =>
    RD Tryz.prog (Builtin.len_ #[34] 3 #[(s 5)]) w1_16 (fun x32 =>
    RD Tryz.prog (bo .sub 3 (.tmp 32) (.const (.int .i64 1)) x32 (.int .i64 1)) w1_16 (fun x33 =>
    LoopW (fun rec_1 s_2 d_2 w1_17 =>
      RD Tryz.prog (bo .geq 3 (.tmp 34) (.const (.int .i64 0)) (s_2 9) (.int .i64 0)) w1_17 (fun x35 =>
      BS x35 (RD Tryz.prog (Instr.indexAt 34 (s 5) (s_2 9)) w1_17.drew (fun x40 =>
      RD Tryz.prog (Instr.loadAt 69 x40) w1_17.drew (fun x41 =>
      RD Tryz.prog (Instr.loadAt 69 x3) w1_17.drew (fun x42 =>
      WR Tryz.prog (Instr.buildSlice 34 2 #[(0, x41), (1, x42)]) w1_17.drew (fun x43 w1_18 =>
      RD Tryz.prog (Instr.build 69 #[(0, (.int .u8 99)), (1, (.string (bs [46]))), (4, x43)]) w1_18 (fun x44 =>
      WU Tryz.prog (Instr.storeAt 69 x3 x44) w1_18 (fun w1_19 =>
      RD Tryz.prog (bo .sub 3 (.tmp 36) (.const (.int .i64 1)) (s_2 9) (.int .i64 1)) w1_19 (fun x37 =>
      rec_1 (sOf [(9, x37)]) w1_19) (PX R)) (PX R)) (PX R)) (PX R)) NX) NX) NX) (RD Tryz.prog (Instr.loadAt 69 x3) w1_17 (fun x45 =>
    WU Tryz.prog (Instr.storeAt 69 x2 x45) w1_17 (fun w1_20 =>
    RD Tryz.prog (Instr.loadAt 69 x2) w1_20 (fun r_1 => R (.returned r_1) w1_20) NX) (PX R)) (PX R))) (PX R))
      (sOf [(9, x33)]) w1_16) (PX R)) (PX R)) (PC R))) (PC R)))
    (sOf [(5, (.slice none 0 0)), (6, (.bool true))]) w1_3)) (PC R)) (PX R)) (PX R)) (PX R)) (PX R)
theorem sh_Pr_parser_list_ok {p0 : Value} {w : World} {R : Ending → World → Prop} (h : sh_Pr_parser_list p0 w R) : Calls Tryz.prog 109 #[p0] w R :=
  callsEq (args := [p0]) (good (fun n => match n with | 7 => [5, 6] | 16 => [9] | _ => []) (fun n => match n with | 13001 => some [] | _ => none) (fun n => match n with | 18 => 5 | _ => 0) (fun _ => none) (fun n => match n with | 7 => [] | 16 => [] | _ => []) (fun n => match n with | 13001 => [] | _ => []) (fun _ => false) (fun n => match n with | 4 => true | 6 => true | 8 => true | 12 => true | 13 => true | 15 => true | 23 => true | 25 => true | 26 => true | 35 => true | _ => false)) Tryz.func109 rfl (by kernel_rfl) (by kernel_rfl) (Nat.le_of_ble_eq_true (by kernel_rfl)) [] (by kernel_rfl) h
end Go.Proofs.YtkmpelgfhjgddaaGreatDoor
namespace Go.Proofs.YtkmpelgfhjgddaaGreatDoor
open Go.RowKit Sx
set_option maxRecDepth 100000
section
variable {pb tb : Nat} {T : List P.Tok} {k : Nat} {vars : List P.Bs} {d : Int} {er at_ : Nat} {w : World}
theorem rNext (h : RP w pb tb T k vars d er at_) :
    Calls Tryz.prog 16 #[.pointer (some ⟨pb, 0, none⟩)] w fun e w' =>
      e = .returned (.agg #[.int .u8 (rk (P.tk T k).kind), .string (bs (P.tk T k).text), .int .i64 ((P.tk T k).pos)]) ∧ Ext w w' := by
  obtain ⟨lc, vv, h⟩ := h
  obtain ⟨cs, c1, c3, c4⟩ := h.cs
  have h3 := h.cell
  have l1 := ltOf h3
  have l2 := ltOf c1
  have l3 := h.kt
  refine sh_Pr_parser_next_ok ?_
  simp (disch := first | assumption | omega | ((simp only [size_alloc, sz_drew, size_upd, List.size_toArray, List.length_cons, List.length_nil]) <;> omega) | decide) only [sh_Pr_parser_next, Pr, PX, PC, NX, ends, fillL, wrL, sOf, Nat.reduceAdd, Nat.reduceMul, Nat.reduceLeDiff, Nat.reduceEqDiff, Int.reduceToNat, Int.reduceAdd, Int.reduceLT, Int.reduceLE, ↓reduceIte, forall_const, eq_self, zG1, zG2, al_60, fa_58_0, fa_58_1, ix_56, ld_3, ld_56, ld_60, st_60, h3, c1, c4]
  exact (((FrM.refl _ _).alloc _).drew).upd (.inr (Nat.le_refl _))
theorem rFault (h : RP w pb tb T k vars d er at_) (c a : Nat) :
    Calls Tryz.prog 17 #[.pointer (some ⟨pb, 0, none⟩), .int .i64 c, .int .i64 a] w fun e w' =>
      e = .returned (.tuple #[]) ∧ RP w' pb tb T k vars d (if er = 0 then c else er) (if er = 0 then a else at_) ∧ RFr pb w w' := by
  obtain ⟨lc, vv, h⟩ := h
  have h3 := h.cell
  have l1 := ltOf h3
  by_cases he : er = 0
  · subst he
    refine sh_Pr_parser_fault_ok ?_
    simp (disch := first | assumption | omega | ((simp only [size_alloc, sz_drew, size_upd, List.size_toArray, List.length_cons, List.length_nil]) <;> omega) | decide) only [sh_Pr_parser_fault, Pr, PX, PC, NX, ends, fillL, wrL, sOf, Nat.reduceAdd, Nat.reduceMul, Nat.reduceLeDiff, Nat.reduceEqDiff, Int.reduceToNat, Int.reduceAdd, Int.reduceLT, Int.reduceLE, ↓reduceIte, forall_const, eq_self, zG1, zG2, fa_58_4, fa_58_5, ld_29, st_29, st_3, h3]
    exact ⟨RP.of (h.set h.kt h.dp rfl fun _ => rfl), (FrM.refl _ _).upd (.inl fun _ => .inl rfl)⟩
  · refine sh_Pr_parser_fault_ok ?_
    simp (disch := first | assumption | omega | ((simp only [size_alloc, sz_drew, size_upd, List.size_toArray, List.length_cons, List.length_nil]) <;> omega) | decide) only [sh_Pr_parser_fault, Pr, PX, PC, NX, ends, fillL, wrL, sOf, Nat.reduceAdd, Nat.reduceMul, Nat.reduceLeDiff, Nat.reduceEqDiff, Int.reduceToNat, Int.reduceAdd, Int.reduceLT, Int.reduceLE, ↓reduceIte, forall_const, eq_self, zG1, zG2, fa_58_4, fa_58_5, ld_29, st_29, st_3, h3, if_neg he]
    exact ⟨RP.of h, FrM.refl _ _⟩
theorem rNone (h : RP w pb tb T k vars d er at_) :
    Calls Tryz.prog 31 #[.pointer (some ⟨pb, 0, none⟩)] w fun e w' =>
      e = .returned (.tuple #[]) ∧ RP w' pb tb T k vars d (if er = 0 then 2 else er) (if er = 0 then (P.tk T k).pos else at_) ∧ RFr pb w w' := by
  refine sh_Pr_parser_none_ok ?_
  refine (rNext h).mono ?_
  rintro e w1 ⟨rfl, hf⟩
  have hz := hf.size
  simp (disch := first | assumption | omega | ((simp only [size_alloc, sz_drew, size_upd, List.size_toArray, List.length_cons, List.length_nil]) <;> omega) | decide) only [sh_Pr_parser_none, Pr, PX, PC, NX, ends, fillL, wrL, sOf, Nat.reduceAdd, Nat.reduceMul, Nat.reduceLeDiff, Nat.reduceEqDiff, Int.reduceToNat, Int.reduceAdd, Int.reduceLT, Int.reduceLE, ↓reduceIte, forall_const, eq_self, zG1, zG2, al_60, fa_60_2, ld_3, st_60]
  refine (rFault (h.ext ((hf.alloc _).upd (.inr hz))) 2 _).mono ?_
  rintro e w2 ⟨rfl, h2, hf3⟩
  simp only [ends]
  exact ⟨trivial, h2, ((hf.alloc _).upd (.inr hz)).toM.trans hf3⟩
theorem rIs_yes (h : RP w pb tb T k vars d 0 at_) (s : P.Bs) (hs : P.isT T k s = true) :
    Calls Tryz.prog 32 #[.pointer (some ⟨pb, 0, none⟩), .string (bs s)] w fun e w' =>
      e = .returned (.bool true) ∧ RP w' pb tb T (k + 1) vars d 0 at_ ∧ RFr pb w w' := by
  obtain ⟨lc, vv, hx⟩ := id h
  have h4 := hx.kind4
  simp only [P.isT, Bool.and_eq_true, Bool.or_eq_true, beq_iff_eq] at hs
  obtain ⟨hk, ht⟩ := hs
  have hkn : k + 1 < T.length := hx.tw.next hx.kt (by omega)
  have hl : T.length ≤ 2001 := hx.tw.len
  have l1 := ltOf hx.cell
  refine sh_Pr_parser_is_ok ?_
  refine (rNext h).mono ?_
  rintro e w1 ⟨rfl, hf⟩
  have hz := hf.size
  have h3 := (hx.ext hf).cell
  have hfin : ∀ {w2 : World} {kz : Int}, Ext w w2 → kz = (k + 1 : Nat) → RP (upd w2 pb (.cells #[.slice (some ⟨tb, 0, none⟩) T.length lc, .int .i64 kz, vv, .int .i64 d, .int .i64 (0 : Nat), .int .i64 at_] 58 (0, 0))) pb tb T (k + 1) vars d 0 at_ ∧
      RFr pb w (upd w2 pb (.cells #[.slice (some ⟨tb, 0, none⟩) T.length lc, .int .i64 kz, vv, .int .i64 d, .int .i64 (0 : Nat), .int .i64 at_] 58 (0, 0))) :=
    fun hf hk => ⟨RP.of ((hx.ext hf).set hkn hx.dp hk fun _ => rfl), hf.toM.upd (.inl fun _ => .inl rfl)⟩
  rcases hk with hk | hk
  · rw [hk, ht, show rk 4 = 115 from rfl]
    simp (disch := first | assumption | omega | ((simp only [size_alloc, sz_drew, size_upd, List.size_toArray, List.length_cons, List.length_nil]) <;> omega) | decide) only [sh_Pr_parser_is, Pr, PX, PC, NX, ends, fillL, wrL, sOf, Nat.reduceAdd, Nat.reduceMul, Nat.reduceLeDiff, Nat.reduceEqDiff, Int.reduceToNat, Int.reduceAdd, Int.reduceLT, Int.reduceLE, ↓reduceIte, forall_const, eq_self, zG1, zG2, al_60, fa_58_1, fa_58_4, fa_60_0, fa_60_1, ld_29, ld_3, ld_5, ld_9, st_3, st_60, h3]
    exact hfin ((hf.alloc _).upd (.inr hz)) rfl
  · rw [hk, ht, show rk 1 = 97 from rfl]
    simp (disch := first | assumption | omega | ((simp only [size_alloc, sz_drew, size_upd, List.size_toArray, List.length_cons, List.length_nil]) <;> omega) | decide) only [sh_Pr_parser_is, Pr, PX, PC, NX, ends, fillL, wrL, sOf, Nat.reduceAdd, Nat.reduceMul, Nat.reduceLeDiff, Nat.reduceEqDiff, Int.reduceToNat, Int.reduceAdd, Int.reduceLT, Int.reduceLE, ↓reduceIte, forall_const, eq_self, zG1, zG2, al_60, fa_58_1, fa_58_4, fa_60_0, fa_60_1, ld_29, ld_3, ld_5, ld_9, st_3, st_60, h3]
    exact hfin ((hf.alloc _).upd (.inr hz)) rfl
theorem rIs_no (h : RP w pb tb T k vars d er at_) (s : P.Bs) (hs : er ≠ 0 ∨ P.isT T k s = false) :
    Calls Tryz.prog 32 #[.pointer (some ⟨pb, 0, none⟩), .string (bs s)] w fun e w' => e = .returned (.bool false) ∧ RP w' pb tb T k vars d er at_ ∧ RFr pb w w' := by
  obtain ⟨lc, vv, hx⟩ := id h
  have h4 := hx.kind4
  have l1 := ltOf hx.cell
  have hfin : ∀ {w2 : World}, Ext w w2 → RP w2 pb tb T k vars d er at_ ∧ RFr pb w w2 := fun hf => ⟨h.ext hf, hf.toM⟩
  refine sh_Pr_parser_is_ok ?_
  refine (rNext h).mono ?_
  rintro e w1 ⟨rfl, hf⟩
  have hz := hf.size
  have h3 := (hx.ext hf).cell
  have s1 := rk_sign h4
  have s2 := rk_atom h4
  by_cases he : er = 0
  · subst he
    have hs := hs.resolve_left (by simp)
    by_cases hk : (P.tk T k).kind = 4 ∨ (P.tk T k).kind = 1
    · have ht : ¬ (P.tk T k).text = s := by
        intro ht
        simp only [P.isT, ht, beq_self_eq_true, Bool.and_true, Bool.or_eq_false_iff, beq_eq_false_iff_ne] at hs
        omega
      rcases hk with hk | hk
      · rw [hk, show rk 4 = 115 from rfl]
        simp (disch := first | assumption | omega | ((simp only [size_alloc, sz_drew, size_upd, List.size_toArray, List.length_cons, List.length_nil]) <;> omega) | decide) only [sh_Pr_parser_is, Pr, PX, PC, NX, ends, fillL, wrL, sOf, Nat.reduceAdd, Nat.reduceMul, Nat.reduceLeDiff, Nat.reduceEqDiff, Int.reduceToNat, Int.reduceAdd, Int.reduceLT, Int.reduceLE, ↓reduceIte, forall_const, eq_self, zG1, zG2, al_60, fa_58_1, fa_58_4, fa_60_0, fa_60_1, ld_29, ld_3, ld_5, ld_9, st_3, st_60, h3]
        exact hfin ((hf.alloc _).upd (.inr hz))
      · rw [hk, show rk 1 = 97 from rfl]
        simp (disch := first | assumption | omega | ((simp only [size_alloc, sz_drew, size_upd, List.size_toArray, List.length_cons, List.length_nil]) <;> omega) | decide) only [sh_Pr_parser_is, Pr, PX, PC, NX, ends, fillL, wrL, sOf, Nat.reduceAdd, Nat.reduceMul, Nat.reduceLeDiff, Nat.reduceEqDiff, Int.reduceToNat, Int.reduceAdd, Int.reduceLT, Int.reduceLE, ↓reduceIte, forall_const, eq_self, zG1, zG2, al_60, fa_58_1, fa_58_4, fa_60_0, fa_60_1, ld_29, ld_3, ld_5, ld_9, st_3, st_60, h3]
        exact hfin ((hf.alloc _).upd (.inr hz))
    · generalize rk (P.tk T k).kind = q at *
      have q1 : ¬ (q : Int) = 115 := by omega
      have q2 : ¬ (q : Int) = 97 := by omega
      simp (disch := first | assumption | omega | ((simp only [size_alloc, sz_drew, size_upd, List.size_toArray, List.length_cons, List.length_nil]) <;> omega) | decide) only [sh_Pr_parser_is, Pr, PX, PC, NX, ends, fillL, wrL, sOf, Nat.reduceAdd, Nat.reduceMul, Nat.reduceLeDiff, Nat.reduceEqDiff, Int.reduceToNat, Int.reduceAdd, Int.reduceLT, Int.reduceLE, ↓reduceIte, forall_const, eq_self, zG1, zG2, al_60, fa_58_1, fa_58_4, fa_60_0, fa_60_1, ld_29, ld_3, ld_5, ld_9, st_3, st_60, h3]
      exact hfin ((hf.alloc _).upd (.inr hz))
  · simp (disch := first | assumption | omega | ((simp only [size_alloc, sz_drew, size_upd, List.size_toArray, List.length_cons, List.length_nil]) <;> omega) | decide) only [sh_Pr_parser_is, Pr, PX, PC, NX, ends, fillL, wrL, sOf, Nat.reduceAdd, Nat.reduceMul, Nat.reduceLeDiff, Nat.reduceEqDiff, Int.reduceToNat, Int.reduceAdd, Int.reduceLT, Int.reduceLE, ↓reduceIte, forall_const, eq_self, zG1, zG2, al_60, fa_58_1, fa_58_4, fa_60_0, fa_60_1, ld_29, ld_3, ld_5, ld_9, st_3, st_60, h3]
    exact hfin ((hf.alloc _).upd (.inr hz))
theorem rMust_yes (h : RP w pb tb T k vars d 0 at_) (s : P.Bs) (hs : P.isT T k s = true) :
    Calls Tryz.prog 34 #[.pointer (some ⟨pb, 0, none⟩), .string (bs s)] w fun e w' =>
      e = .returned (.tuple #[]) ∧ RP w' pb tb T (k + 1) vars d 0 at_ ∧ RFr pb w w' := by
  refine sh_Pr_parser_must_ok ?_
  refine (rIs_yes h s hs).mono ?_
  rintro e w1 ⟨rfl, h1⟩
  simp (disch := first | assumption | omega | ((simp only [size_alloc, sz_drew, size_upd, List.size_toArray, List.length_cons, List.length_nil]) <;> omega) | decide) only [sh_Pr_parser_must, Pr, PX, PC, NX, ends, fillL, wrL, sOf, Nat.reduceAdd, Nat.reduceMul, Nat.reduceLeDiff, Nat.reduceEqDiff, Int.reduceToNat, Int.reduceAdd, Int.reduceLT, Int.reduceLE, ↓reduceIte, forall_const, eq_self, zG1, zG2]
  exact h1
theorem rMust_no (h : RP w pb tb T k vars d er at_) (s : P.Bs) (hs : er ≠ 0 ∨ P.isT T k s = false) :
    Calls Tryz.prog 34 #[.pointer (some ⟨pb, 0, none⟩), .string (bs s)] w fun e w' =>
      e = .returned (.tuple #[]) ∧ RP w' pb tb T k vars d (if er = 0 then 2 else er) (if er = 0 then (P.tk T k).pos else at_) ∧ RFr pb w w' := by
  refine sh_Pr_parser_must_ok ?_
  refine (rIs_no h s hs).mono ?_
  rintro e w1 ⟨rfl, h1, hf1⟩
  simp (disch := first | assumption | omega | ((simp only [size_alloc, sz_drew, size_upd, List.size_toArray, List.length_cons, List.length_nil]) <;> omega) | decide) only [sh_Pr_parser_must, Pr, PX, PC, NX, ends, fillL, wrL, sOf, Nat.reduceAdd, Nat.reduceMul, Nat.reduceLeDiff, Nat.reduceEqDiff, Int.reduceToNat, Int.reduceAdd, Int.reduceLT, Int.reduceLE, ↓reduceIte, forall_const, eq_self, zG1, zG2]
  refine (rNone h1).mono ?_
  rintro e w2 ⟨rfl, h2, hf2⟩
  simp only [ends]
  exact ⟨trivial, h2, hf1.trans hf2⟩
theorem rEnter_ok (h : RP w pb tb T k vars d 0 0) (hd : 0 ≤ d) (hd8 : d + 1 ≤ 8) :
    Calls Tryz.prog 84 #[.pointer (some ⟨pb, 0, none⟩)] w fun e w' =>
      e = .returned (.bool true) ∧ RP w' pb tb T k vars (d + 1) 0 0 ∧ RFr pb w w' := by
  obtain ⟨lc, vv, hx⟩ := id h
  have l1 := ltOf hx.cell
  have h3 := hx.cell
  refine sh_Pr_parser_enter_ok ?_
  simp (disch := first | assumption | omega | ((simp only [size_alloc, sz_drew, size_upd, List.size_toArray, List.length_cons, List.length_nil]) <;> omega) | decide) only [sh_Pr_parser_enter, Pr, PX, PC, NX, ends, fillL, wrL, sOf, Nat.reduceAdd, Nat.reduceMul, Nat.reduceLeDiff, Nat.reduceEqDiff, Int.reduceToNat, Int.reduceAdd, Int.reduceLT, Int.reduceLE, ↓reduceIte, forall_const, eq_self, zG1, zG2, al_60, fa_58_3, fa_58_4, fa_60_2, ld_29, ld_3, st_3, st_60, h3]
  have hx1 := hx.set (k' := k) (kz := k) (d' := d + 1) (er' := 0) (at' := 0) hx.kt (by omega) rfl fun _ => rfl
  have hf1 : RFr pb w (upd w pb (.cells #[.slice (some ⟨tb, 0, none⟩) T.length lc, .int .i64 k, vv, .int .i64 (d + 1), .int .i64 (0 : Nat), .int .i64 (0 : Nat)] 58 (0, 0))) := (FrM.refl _ _).upd (.inl fun _ => .inl rfl)
  refine (rNext (RP.of hx1)).mono ?_
  rintro e w1 ⟨rfl, hf⟩
  have hz := hf.size
  rw [size_upd] at hz
  have h4 := (hx1.ext hf).cell
  simp (disch := first | assumption | omega | ((simp only [size_alloc, sz_drew, size_upd, List.size_toArray, List.length_cons, List.length_nil]) <;> omega) | decide) only [sh_Pr_parser_enter, Pr, PX, PC, NX, ends, fillL, wrL, sOf, Nat.reduceAdd, Nat.reduceMul, Nat.reduceLeDiff, Nat.reduceEqDiff, Int.reduceToNat, Int.reduceAdd, Int.reduceLT, Int.reduceLE, ↓reduceIte, forall_const, eq_self, zG1, zG2, al_60, fa_58_3, fa_58_4, fa_60_2, ld_29, ld_3, st_3, st_60, h4]
  exact ⟨rfl, (RP.of hx1).ext ((hf.alloc _).upd (.inr (by rw [size_upd]; exact hz))), hf1.trans ((hf.alloc _).upd (.inr (by rw [size_upd]; exact hz))).toM⟩
theorem rEnter_deep (h : RP w pb tb T k vars d 0 0) (hd : 0 ≤ d ∧ d ≤ 100) (hd8 : ¬ d + 1 ≤ 8) :
    Calls Tryz.prog 84 #[.pointer (some ⟨pb, 0, none⟩)] w fun e w' =>
      e = .returned (.bool false) ∧ RP w' pb tb T k vars (d + 1) 4 (P.tk T k).pos ∧ RFr pb w w' := by
  obtain ⟨lc, vv, hx⟩ := id h
  have l1 := ltOf hx.cell
  have h3 := hx.cell
  refine sh_Pr_parser_enter_ok ?_
  simp (disch := first | assumption | omega | ((simp only [size_alloc, sz_drew, size_upd, List.size_toArray, List.length_cons, List.length_nil]) <;> omega) | decide) only [sh_Pr_parser_enter, Pr, PX, PC, NX, ends, fillL, wrL, sOf, Nat.reduceAdd, Nat.reduceMul, Nat.reduceLeDiff, Nat.reduceEqDiff, Int.reduceToNat, Int.reduceAdd, Int.reduceLT, Int.reduceLE, ↓reduceIte, forall_const, eq_self, zG1, zG2, al_60, fa_58_3, fa_58_4, fa_60_2, ld_29, ld_3, st_3, st_60, h3]
  have hx1 := hx.set (k' := k) (kz := k) (d' := d + 1) (er' := 0) (at' := 0) hx.kt (by omega) rfl fun _ => rfl
  have hf1 : RFr pb w (upd w pb (.cells #[.slice (some ⟨tb, 0, none⟩) T.length lc, .int .i64 k, vv, .int .i64 (d + 1), .int .i64 (0 : Nat), .int .i64 (0 : Nat)] 58 (0, 0))) := (FrM.refl _ _).upd (.inl fun _ => .inl rfl)
  refine (rNext (RP.of hx1)).mono ?_
  rintro e w1 ⟨rfl, hf⟩
  have hz := hf.size
  rw [size_upd] at hz
  have h4 := (hx1.ext hf).cell
  simp (disch := first | assumption | omega | ((simp only [size_alloc, sz_drew, size_upd, List.size_toArray, List.length_cons, List.length_nil]) <;> omega) | decide) only [sh_Pr_parser_enter, Pr, PX, PC, NX, ends, fillL, wrL, sOf, Nat.reduceAdd, Nat.reduceMul, Nat.reduceLeDiff, Nat.reduceEqDiff, Int.reduceToNat, Int.reduceAdd, Int.reduceLT, Int.reduceLE, ↓reduceIte, forall_const, eq_self, zG1, zG2, al_60, fa_58_3, fa_58_4, fa_60_2, ld_29, ld_3, st_3, st_60, h4]
  refine (rFault ((RP.of hx1).ext ((hf.alloc _).upd (.inr (by rw [size_upd]; exact hz)))) 4 _).mono ?_
  rintro e w2 ⟨rfl, h2, hf2⟩
  rw [if_pos rfl, if_pos rfl] at h2
  obtain ⟨lc', vv', hx2⟩ := id h2
  have h5 := hx2.cell
  simp (disch := first | assumption | omega | ((simp only [size_alloc, sz_drew, size_upd, List.size_toArray, List.length_cons, List.length_nil]) <;> omega) | decide) only [sh_Pr_parser_enter, Pr, PX, PC, NX, ends, fillL, wrL, sOf, Nat.reduceAdd, Nat.reduceMul, Nat.reduceLeDiff, Nat.reduceEqDiff, Int.reduceToNat, Int.reduceAdd, Int.reduceLT, Int.reduceLE, ↓reduceIte, forall_const, eq_self, zG1, zG2, al_60, fa_58_3, fa_58_4, fa_60_2, ld_29, ld_3, st_3, st_60, h5]
  exact ⟨rfl, h2, (hf1.trans ((hf.alloc _).upd (.inr (by rw [size_upd]; exact hz))).toM).trans hf2⟩
end
end Go.Proofs.YtkmpelgfhjgddaaGreatDoor
