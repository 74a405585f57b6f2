/- A part of one proof (SBase); no conditions beyond what each theorem names. -/
import Derived.Test.YtkmpelgfhjgddaaGreatDoorPkB
set_option linter.all false
set_option linter.unusedVariables false
set_option linter.unusedSimpArgs false
namespace Go.Proofs.YtkmpelgfhjgddaaGreatDoor
open Go.RowKit
def IsSl (F : Nat → Prop) (w : World) (et : TypeId) (v : Value) (vs : List Value) : Prop :=
  (vs = [] ∧ v = .slice none 0 0) ∨
  ∃ b cs, v = .slice (some ⟨b, 0, none⟩) vs.length cs.size ∧ F b ∧ w.heap[b]? = some (.cells cs et (0, 0)) ∧ vs.length ≤ cs.size ∧ cs.toList.take vs.length = vs
theorem IsSl.mono {F F' : Nat → Prop} {w w' : World} {et : TypeId} {v : Value} {vs : List Value} (h : IsSl F w et v vs)
    (hf : ∀ b, F b → F' b) (hw : ∀ b cs, F b → w.heap[b]? = some (.cells cs et (0, 0)) → w'.heap[b]? = some (.cells cs et (0, 0))) : IsSl F' w' et v vs := by
  rcases h with h | ⟨b, cs, h1, h2, h3, h4⟩
  · exact .inl h
  · exact .inr ⟨b, cs, h1, hf b h2, hw b cs h2 h3, h4⟩
mutual
def IsEx (F : Nat → Prop) (w : World) (v : Value) : P.Ex → Prop
  | .mk kind name n k args => ∃ b av vs, v = .pointer (some ⟨b, 0, none⟩) ∧ F b ∧
      w.heap[b]? = some (.cells #[.int .u8 kind, .string (bs name), .int .i64 n, .int .i64 k, av] 177 (0, 0)) ∧
      IsSl F w 124 av vs ∧ IsExs F w vs args
  termination_by structural x => x
def IsExs (F : Nat → Prop) (w : World) (vs : List Value) : List P.Ex → Prop
  | [] => vs = []
  | x :: xs => ∃ v r, vs = v :: r ∧ IsEx F w v x ∧ IsExs F w r xs
  termination_by structural x => x
end
def astObj : Obj → Prop
  | .cells _ t z => (t = 177 ∨ t = 124 ∨ t = 145 ∨ t = 102) ∧ z = (0, 0)
  | _ => False
mutual
theorem IsEx.mono {F F' : Nat → Prop} {w w' : World} (hf : ∀ b, F b → F' b) (hw : ∀ b o, F b → astObj o → w.heap[b]? = some o → w'.heap[b]? = some o) :
    ∀ (x : P.Ex) (v : Value), IsEx F w v x → IsEx F' w' v x
  | .mk kind name n k args, v, h => by
    unfold IsEx at h ⊢
    obtain ⟨b, av, vs, h1, h2, h3, h4, h5⟩ := h
    exact ⟨b, av, vs, h1, hf b h2, hw b _ h2 ⟨.inl rfl, rfl⟩ h3, h4.mono hf fun b cs hb hc => hw b _ hb ⟨.inr (.inl rfl), rfl⟩ hc, IsExs.mono hf hw args vs h5⟩
  termination_by structural x => x
theorem IsExs.mono {F F' : Nat → Prop} {w w' : World} (hf : ∀ b, F b → F' b) (hw : ∀ b o, F b → astObj o → w.heap[b]? = some o → w'.heap[b]? = some o) :
    ∀ (l : List P.Ex) (vs : List Value), IsExs F w vs l → IsExs F' w' vs l
  | [], vs, h => by unfold IsExs at h ⊢; exact h
  | x :: xs, vs, h => by
    unfold IsExs at h ⊢
    obtain ⟨v, r, h1, h2, h3⟩ := h
    exact ⟨v, r, h1, IsEx.mono hf hw x v h2, IsExs.mono hf hw xs r h3⟩
  termination_by structural x => x
end
mutual
def IsBd (F : Nat → Prop) (w : World) (v : Value) : P.Bd → Prop
  | .mk kind name args parts => ∃ b av pv vs us, v = .pointer (some ⟨b, 0, none⟩) ∧ F b ∧
      w.heap[b]? = some (.cells #[.int .u8 kind, .string (bs name), av, pv] 145 (0, 0)) ∧
      IsSl F w 124 av vs ∧ IsExs F w vs args ∧ IsSl F w 102 pv us ∧ IsBds F w us parts
  termination_by structural x => x
def IsBds (F : Nat → Prop) (w : World) (vs : List Value) : List P.Bd → Prop
  | [] => vs = []
  | x :: xs => ∃ v r, vs = v :: r ∧ IsBd F w v x ∧ IsBds F w r xs
  termination_by structural x => x
end
mutual
theorem IsBd.mono {F F' : Nat → Prop} {w w' : World} (hf : ∀ b, F b → F' b) (hw : ∀ b o, F b → astObj o → w.heap[b]? = some o → w'.heap[b]? = some o) :
    ∀ (x : P.Bd) (v : Value), IsBd F w v x → IsBd F' w' v x
  | .mk kind name args parts, v, h => by
    unfold IsBd at h ⊢
    obtain ⟨b, av, pv, vs, us, h1, h2, h3, h4, h5, h6, h7⟩ := h
    exact ⟨b, av, pv, vs, us, h1, hf b h2, hw b _ h2 ⟨.inr (.inr (.inl rfl)), rfl⟩ h3, h4.mono hf fun b cs hb hc => hw b _ hb ⟨.inr (.inl rfl), rfl⟩ hc,
      IsExs.mono hf hw args vs h5, h6.mono hf fun b cs hb hc => hw b _ hb ⟨.inr (.inr (.inr rfl)), rfl⟩ hc, IsBds.mono hf hw parts us h7⟩
  termination_by structural x => x
theorem IsBds.mono {F F' : Nat → Prop} {w w' : World} (hf : ∀ b, F b → F' b) (hw : ∀ b o, F b → astObj o → w.heap[b]? = some o → w'.heap[b]? = some o) :
    ∀ (l : List P.Bd) (vs : List Value), IsBds F w vs l → IsBds F' w' vs l
  | [], vs, h => by unfold IsBds at h ⊢; exact h
  | x :: xs, vs, h => by
    unfold IsBds at h ⊢
    obtain ⟨v, r, h1, h2, h3⟩ := h
    exact ⟨v, r, h1, IsBd.mono hf hw x v h2, IsBds.mono hf hw xs r h3⟩
  termination_by structural x => x
end
structure TW (T : List P.Tok) : Prop where
  len : T.length ≤ 2001
  last : ∃ l t, T = l ++ [t] ∧ t.kind = 0 ∧ ∀ u ∈ l, u.kind ≠ 0
  kind : ∀ u ∈ T, u.kind ≤ 4
  digits : ∀ u ∈ T, u.kind = 3 → u.text ≠ [] ∧ u.text.all P.digit = true ∧ u.text.length ≤ 9
  words : ∀ u ∈ T, u.kind = 1 → ∃ c r, u.text = c :: r ∧ P.cls c = 115
  vars : ∀ u ∈ T, u.kind = 2 → u.text ≠ []
theorem TW.pos {T : List P.Tok} (h : TW T) : 0 < T.length := by
  obtain ⟨l, t, rfl, _⟩ := h.last
  simp
theorem TW.next {T : List P.Tok} (h : TW T) {k : Nat} (hk : k < T.length) (hn : (P.tk T k).kind ≠ 0) : k + 1 < T.length := by
  obtain ⟨l, t, rfl, h0, _⟩ := h.last
  simp only [List.length_append, List.length_cons, List.length_nil] at hk ⊢
  rcases Nat.lt_or_ge k l.length with h1 | h1
  · omega
  · have : k = l.length := by omega
    subst this
    exact absurd (by simp [P.tk, h0]) hn
theorem tk_mem {T : List P.Tok} {k : Nat} (hk : k < T.length) : P.tk T k ∈ T := by
  have : P.tk T k = T[k] := by simp [P.tk, List.getD_eq_getElem?_getD, List.getElem?_eq_getElem hk]
  rw [this]; exact List.getElem_mem hk
structure STab (w : World) (B : Nat) : Prop where
  lt : 2 < B
  lev : ∀ l, l < 2 → ∃ b o c, b < B ∧ w.cell? ⟨2, l, none⟩ = some (.slice (some ⟨b, o, none⟩) (P.ops l).length c) ∧
    ∀ j, j < (P.ops l).length → w.cell? ⟨b, o + j, none⟩ = some (.string (bs ((P.ops l).getD j [])))
theorem cellKeep {w w' : World} {a : Addr} {v : Value} (h : w.cell? a = some v) (hw : ∀ o, w.heap[a.block]? = some o → w'.heap[a.block]? = some o) : w'.cell? a = some v := by
  cases hb : w.heap[a.block]? with
  | none => simp [World.cell?, hb] at h
  | some o => rw [World.cell?_of_block (w := w) (w' := w') (by rw [hw _ hb, hb])]; exact h
theorem STab.ext {w w' : World} {B : Nat} (h : STab w B) (hw : ∀ (b : Nat) (o : Obj), b < B → w.heap[b]? = some o → w'.heap[b]? = some o) : STab w' B := by
  refine ⟨h.lt, fun l hl => ?_⟩
  obtain ⟨b, o, c, h1, h2, h3⟩ := h.lev l hl
  exact ⟨b, o, c, h1, cellKeep h2 fun x hx => hw _ x h.lt hx, fun j hj => cellKeep (h3 j hj) fun x hx => hw _ x h1 hx⟩
def SToks (w : World) (tb : Nat) (T : List P.Tok) : Prop :=
  STab w tb ∧ ∃ cs, w.heap[tb]? = some (.cells cs 139 (0, 0)) ∧ ∀ j, j < T.length →
    cs[j * 3]? = some (.int .i64 ((P.tk T j).kind)) ∧ cs[j * 3 + 1]? = some (.string (bs (P.tk T j).text)) ∧ cs[j * 3 + 2]? = some (.int .i64 ((P.tk T j).pos))
structure SP (w : World) (pb tb : Nat) (T : List P.Tok) (k : Nat) (vars : List P.Bs) (d : Nat) : Prop where
  tw : TW T
  lt : tb < pb
  kt : k < T.length
  nv : vars.length ≤ 12
  toks : SToks w tb T
  blk : ∃ cap vv, T.length ≤ cap ∧ cap ≤ 9223372036854775807 ∧ w.heap[pb]? = some (.cells #[.slice (some ⟨tb, k * 3, none⟩) (T.length - k) (cap - k), vv, .int .i64 d] 142 (0, 0)) ∧
    w.ownsRow (pb + 1) 9 1 vv vars.length (vars.map fun s => .string (bs s))
def SB (w : World) (pb : Nat) : Prop := ∃ lv vv d, w.heap[pb]? = some (.cells #[lv, vv, .int .i64 d] 142 (0, 0))
def MS (pb b : Nat) (o : Obj) : Prop := b = pb ∨ (pb < b ∧ ∃ cs z, o = .cells cs 9 z)
abbrev SFr (pb : Nat) (w w' : World) : Prop := FrM (MS pb) w w'
theorem SFr.toks {pb tb : Nat} {w w' : World} (h : SFr pb w w') (hl : tb < pb) {T : List P.Tok} (ht : SToks w tb T) : SToks w' tb T := by
  obtain ⟨hs, cs, h1, h2⟩ := ht
  exact ⟨hs.ext fun b o hb ho => h.block _ _ ho (by rintro (h | ⟨h, _⟩) <;> omega), cs, h.block _ _ h1 (by rintro (h | ⟨h, _⟩) <;> omega), h2⟩
theorem SFr.keep {pb b : Nat} {w w' : World} (h : SFr pb w w') {cs : Array Value} {t : TypeId} {z : Nat × Nat} (hb : w.heap[b]? = some (.cells cs t z))
    (hne : b ≠ pb) (ht : t ≠ 9) : w'.heap[b]? = some (.cells cs t z) :=
  h.block _ _ hb (by
    rintro (h | ⟨_, cs', z', h⟩)
    · exact hne h
    · cases h; exact ht rfl)
theorem SFr.ast {pb b : Nat} {o : Obj} {w w' : World} (h : SFr pb w w') (ha : astObj o) (hb : w.heap[b]? = some o) (hne : b ≠ pb) : w'.heap[b]? = some o := by
  cases o with
  | cells cs t z =>
    refine h.keep hb hne ?_
    rintro rfl
    rcases ha.1 with h | h | h | h <;> cases h
  | _ => exact ha.elim
theorem IsEx.fr {F : Nat → Prop} {pb : Nat} {w w' : World} {v : Value} {x : P.Ex} (h : IsEx F w v x) (hf : SFr pb w w') (hn : ∀ b, F b → b ≠ pb) : IsEx F w' v x :=
  IsEx.mono (fun _ h => h) (fun b _ hb ha ho => hf.ast ha ho (hn b hb)) x v h
theorem IsExs.fr {F : Nat → Prop} {pb : Nat} {w w' : World} {vs : List Value} {x : List P.Ex} (h : IsExs F w vs x) (hf : SFr pb w w') (hn : ∀ b, F b → b ≠ pb) : IsExs F w' vs x :=
  IsExs.mono (fun _ h => h) (fun b _ hb ha ho => hf.ast ha ho (hn b hb)) x vs h
theorem IsBd.fr {F : Nat → Prop} {pb : Nat} {w w' : World} {v : Value} {x : P.Bd} (h : IsBd F w v x) (hf : SFr pb w w') (hn : ∀ b, F b → b ≠ pb) : IsBd F w' v x :=
  IsBd.mono (fun _ h => h) (fun b _ hb ha ho => hf.ast ha ho (hn b hb)) x v h
abbrev Nu (w w' : World) : Nat → Prop := fun b => w.heap.size ≤ b ∧ b < w'.heap.size
def faulted (c a : Int) (w w' : World) (e : Ending) : Prop :=
  ∃ b, e = .panicked [{ v := .iface 85 (.pointer (some ⟨b, 0, none⟩)), recovered := false }] ∧
    w'.heap[b]? = some (.cells #[.int .i64 c, .int .i64 a] 89 (0, 0)) ∧ w.heap.size ≤ b
def SPost {α : Type} (I : (Nat → Prop) → World → Value → α → Prop) (pb tb : Nat) (T : List P.Tok) (d : Nat) (w : World) : P.Res α → Ending → World → Prop
  | .ok x k vs, e, w' => ∃ v, e = .returned v ∧ I (Nu w w') w' v x ∧ SP w' pb tb T k vs d ∧ SFr pb w w'
  | .err c a, e, w' => faulted c a w w' e ∧ SFr pb w w' ∧ SB w' pb
end Go.Proofs.YtkmpelgfhjgddaaGreatDoor
