/- A part of one proof (RBase2); no conditions beyond what each theorem names. -/
import Derived.Test.YtkmpelgfhjgddaaGreatDoorPkRAG
set_option linter.all false
set_option linter.unusedVariables false
set_option linter.unusedSimpArgs false
namespace Go.Proofs.YtkmpelgfhjgddaaGreatDoor
open Go.RowKit Sx
def IsRw (F : Nat → Prop) (w : World) (et m : Nat) (v : Value) (n : Nat) (vs : List Value) : Prop :=
  (n = 0 ∧ vs = [] ∧ v = .slice none 0 0) ∨
  ∃ b cap cs, v = .slice (some ⟨b, 0, none⟩) n cap ∧ F b ∧ w.heap[b]? = some (.cells cs et (0, 0)) ∧ m * n ≤ cs.size ∧ cs.toList.take (m * n) = vs ∧ n ≤ 9223372036854775807
theorem IsRw.mono {F F' : Nat → Prop} {w w' : World} {et m : Nat} {v : Value} {n : Nat} {vs : List Value} (h : IsRw F w et m v n vs) (hf : ∀ b, F b → F' b)
    (hw : ∀ b cs, F b → w.heap[b]? = some (.cells cs et (0, 0)) → w'.heap[b]? = some (.cells cs et (0, 0))) : IsRw F' w' et m v n vs := by
  rcases h with h | ⟨b, cap, cs, h1, h2, h3, h4, h5⟩
  · exact .inl h
  · exact .inr ⟨b, cap, cs, h1, hf b h2, hw b cs h2 h3, h4, h5⟩
theorem IsRw.shape {F : Nat → Prop} {w : World} {et m : Nat} {v : Value} {n : Nat} {vs : List Value} (h : IsRw F w et m v n vs) : ∃ a c, v = .slice a n c := by
  rcases h with ⟨rfl, _, h⟩ | ⟨b, cap, cs, h, _⟩
  · exact ⟨_, _, h⟩
  · exact ⟨_, _, h⟩
mutual
def IsRx (F : Nat → Prop) (w : World) (l : List Value) : P.Ex → Prop
  | .mk kind name n k args => ∃ av vs, l = [.int .u8 kind, .string (bs name), .int .i64 n, .int .i64 k, av] ∧ IsRw F w 69 5 av args.length vs ∧ IsRxs F w vs args
  termination_by structural x => x
def IsRxs (F : Nat → Prop) (w : World) (vs : List Value) : List P.Ex → Prop
  | [] => vs = []
  | x :: xs => ∃ l r, vs = l ++ r ∧ IsRx F w l x ∧ IsRxs F w r xs
  termination_by structural x => x
end
abbrev Keeps (F : Nat → Prop) (et : Nat) (w w' : World) : Prop := ∀ b cs, F b → w.heap[b]? = some (.cells cs et (0, 0)) → w'.heap[b]? = some (.cells cs et (0, 0))
mutual
theorem IsRx.mono {F F' : Nat → Prop} {w w' : World} (hf : ∀ b, F b → F' b) (hw : Keeps F 69 w w') : ∀ (x : P.Ex) (l : List Value), IsRx F w l x → IsRx F' w' l x
  | .mk kind name n k args, l, h => by
    unfold IsRx at h ⊢
    obtain ⟨av, vs, h1, h2, h3⟩ := h
    exact ⟨av, vs, h1, h2.mono hf hw, IsRxs.mono hf hw args vs h3⟩
  termination_by structural x => x
theorem IsRxs.mono {F F' : Nat → Prop} {w w' : World} (hf : ∀ b, F b → F' b) (hw : Keeps F 69 w w') : ∀ (xs : List P.Ex) (vs : List Value), IsRxs F w vs xs → IsRxs F' w' vs xs
  | [], vs, h => by unfold IsRxs at h ⊢; exact h
  | x :: xs, vs, h => by
    unfold IsRxs at h ⊢
    obtain ⟨l, r, h1, h2, h3⟩ := h
    exact ⟨l, r, h1, IsRx.mono hf hw x l h2, IsRxs.mono hf hw xs r h3⟩
  termination_by structural x => x
end
theorem IsRx.len {F : Nat → Prop} {w : World} {l : List Value} {x : P.Ex} (h : IsRx F w l x) : ∃ a b c d e, l = [a, b, c, d, e] ∧ a.oneCell' = true ∧ b.oneCell' = true ∧ c.oneCell' = true ∧ d.oneCell' = true ∧ e.oneCell' = true := by
  cases x
  unfold IsRx at h
  obtain ⟨av, vs, rfl, h2, -⟩ := h
  obtain ⟨a, c, rfl⟩ := h2.shape
  exact ⟨_, _, _, _, _, rfl, rfl, rfl, rfl, rfl, rfl⟩
theorem IsRxs.snoc {F : Nat → Prop} {w : World} {l : List Value} {x : P.Ex} : ∀ {xs : List P.Ex} {vs : List Value}, IsRxs F w vs xs → IsRx F w l x → IsRxs F w (vs ++ l) (xs ++ [x])
  | [], vs, h, hx => by
    unfold IsRxs at h
    subst h
    show IsRxs F w ([] ++ l) (x :: [])
    unfold IsRxs
    exact ⟨l, [], by simp, hx, by unfold IsRxs; rfl⟩
  | y :: ys, vs, h, hx => by
    unfold IsRxs at h
    obtain ⟨m, r, rfl, h2, h3⟩ := h
    show IsRxs F w (m ++ r ++ l) (y :: (ys ++ [x]))
    unfold IsRxs
    exact ⟨m, r ++ l, by simp, h2, IsRxs.snoc h3 hx⟩
theorem IsRxs.length {F : Nat → Prop} {w : World} : ∀ {xs : List P.Ex} {vs : List Value}, IsRxs F w vs xs → vs.length = 5 * xs.length
  | [], vs, h => by unfold IsRxs at h; subst h; rfl
  | x :: xs, vs, h => by
    unfold IsRxs at h
    obtain ⟨l, r, rfl, h2, h3⟩ := h
    obtain ⟨a, b, c, d, e, rfl, -⟩ := h2.len
    have := IsRxs.length h3
    simp
    omega
theorem IsRxs.at {F : Nat → Prop} {w : World} : ∀ {xs : List P.Ex} {vs : List Value} (j : Nat) (hj : j < xs.length), IsRxs F w vs xs → IsRx F w ((vs.drop (5 * j)).take 5) xs[j]
  | x :: xs, vs, 0, _, h => by
    unfold IsRxs at h
    obtain ⟨l, r, rfl, h2, h3⟩ := h
    obtain ⟨a, b, c, d, e, rfl, -⟩ := h2.len
    exact h2
  | x :: xs, vs, j + 1, hj, h => by
    unfold IsRxs at h
    obtain ⟨l, r, rfl, h2, h3⟩ := h
    obtain ⟨a, b, c, d, e, rfl, -⟩ := h2.len
    have := IsRxs.at (w := w) (F := F) j (by simpa using hj) h3
    have e1 : 5 * (j + 1) = 5 + 5 * j := by omega
    rw [e1, ← List.drop_drop]
    exact this
mutual
def IsRb (F : Nat → Prop) (w : World) (l : List Value) : P.Bd → Prop
  | .mk kind name args parts => ∃ av pv vs us, l = [.int .u8 kind, .string (bs name), av, pv] ∧ IsRw F w 69 5 av args.length vs ∧ IsRxs F w vs args ∧
      IsRw F w 37 4 pv parts.length us ∧ IsRbs F w us parts
  termination_by structural x => x
def IsRbs (F : Nat → Prop) (w : World) (vs : List Value) : List P.Bd → Prop
  | [] => vs = []
  | x :: xs => ∃ l r, vs = l ++ r ∧ IsRb F w l x ∧ IsRbs F w r xs
  termination_by structural x => x
end
theorem wr_append {P : Program} {t ty e : TypeId} {i : TypeInfo} {z : Value} {size bytes : Nat} (ht : P.underlying t = some (.slice e)) (hi : P.info? e = some i) (hz : i.zero = some z)
    (hsize : i.size = size) (hby : i.bytes = bytes) (hzs : z.cells.size = size) (hsz : 0 < size) {w : World} {base : Nat}
    {v : Value} {n : Nat} {xs : List Value} (hown : w.ownsRow base e size v n xs) {b m c : Nat} {cs : Array Value} {T : TypeId} {zz : Nat × Nat} (hb : w.heap[b]? = some (.cells cs T zz)) (hl : cs.toList.length = m * size) (h1 : ∀ u ∈ cs.toList, u.oneCell' = true)
    (hn : n + m ≤ 1000000) (hby2 : bytes ≤ 1000) (hbase : base ≤ w.heap.size) {K : Value → World → Prop} {X : Value → World → Prop}
    (h : ∀ v' w', w'.ownsRow base e size v' (n + m) (xs ++ cs.toList) → w.grownBy w' v.ownBlock → (v'.ownBlock = v.ownBlock ∨ ∀ k, v'.ownBlock = some k → w.heap.size ≤ k) → K v' w') :
    WR P (Builtin.append_ #[t, t] ty #[v, .slice (some ⟨b, 0, none⟩) m c]) w K X := by
  have hb2 : (n + m) * bytes ≤ 1000000 * 1000 := Nat.mul_le_mul hn hby2
  obtain ⟨v', w', r1, r2, r3, r4⟩ := run_append_own2 (P := P) w base t ty e i z size bytes ht hi hz hsize hby hzs hsz v n xs hown ⟨b, 0, none⟩ m c cs.toList hl (fun j u hu => by
    rw [addr_add, Nat.zero_add]; exact cellOf hb (by simpa using hu)) h1 (by unfold maxLen; omega) (by omega) hbase
  rw [wr_ok r1]
  exact h v' w' r2 r3 r4
theorem FrM.grow {M : Nat → Obj → Prop} {a b c : World} (h : FrM M a b) {r : Option Nat} (hg : b.grownBy c r) (hr : ∀ k, r = some k → a.heap.size ≤ k) : FrM M a c :=
  ⟨hg.os.trans h.os, hg.tape.trans h.tape, hg.output.trans h.output, Nat.le_trans h.size hg.size, fun i o hi hm => by
    have := ltOf hi
    have h1 := h.block i o hi hm
    rw [hg.block i (ltOf h1) (fun e => by have := hr i e.symm; omega)]; exact h1⟩
theorem own_slice {w : World} {base e size n : Nat} {v : Value} {xs : List Value} (h : w.ownsRow base e size v n xs) : ∃ a c, v = .slice a n c := by
  rcases h.2 with ⟨rfl, rfl⟩ | ⟨g, cap, cur, rfl, _⟩
  · exact ⟨_, _, rfl⟩
  · exact ⟨_, _, rfl⟩
theorem own_rw {w : World} {base e size n : Nat} {v : Value} {xs : List Value} {F : Nat → Prop} (h : w.ownsRow base e size v n xs) (hF : ∀ k, base ≤ k → k < w.heap.size → F k) : IsRw F w e size v n xs := by
  obtain ⟨h0, h⟩ := h
  rcases h with ⟨rfl, rfl⟩ | ⟨g, cap, cur, rfl, h1, h2, h3, h4, h5, h6⟩
  · exact .inl ⟨rfl, List.eq_nil_of_length_eq_zero (by simpa using h0), rfl⟩
  · refine .inr ⟨g, cap, cur, rfl, hF g h1 (ltOf h2), h2, ?_, by rw [Nat.mul_comm]; exact h6, by unfold maxLen at h4; omega⟩
    rw [h5, Nat.mul_comm]
    exact Nat.mul_le_mul_right _ h3
theorem own_grow {w w' : World} {base base' e e' size size' n n' : Nat} {v u : Value} {xs xs' : List Value} (h : w.ownsRow base e size v n xs) (hu : w.ownsRow base' e' size' u n' xs') (hne : e ≠ e')
    (hg : w.grownBy w' u.ownBlock) : w'.ownsRow base e size v n xs := by
  obtain ⟨h0, h⟩ := h
  refine ⟨h0, ?_⟩
  rcases h with h | ⟨g, cap, cur, rfl, h1, h2, h3⟩
  · exact .inl h
  · refine .inr ⟨g, cap, cur, rfl, h1, ?_, h3⟩
    rw [hg.block g (ltOf h2) (fun e1 => ?_)]
    · exact h2
    · rcases hu.2 with ⟨rfl, _⟩ | ⟨g', cap', cur', rfl, _, h4, _⟩
      · cases e1
      · simp only [Value.ownBlock, Option.some.injEq] at e1
        subst e1
        rw [h2] at h4
        injection h4 with h4
        injection h4 with _ h4
        exact hne h4
theorem RP.grow {w w' : World} {pb tb : Nat} {T : List P.Tok} {k : Nat} {vars : List P.Bs} {d : Int} {er at_ : Nat} (h : RP w pb tb T k vars d er at_) {base' e' size' n' : Nat} {u : Value} {xs' : List Value}
    (hu : w.ownsRow base' e' size' u n' xs') (hne : 9 ≠ e') (hb : pb < base') (hg : w.grownBy w' u.ownBlock) : RP w' pb tb T k vars d er at_ := by
  obtain ⟨lc, vv, tw, lt, kt, nv, dp, ⟨cs, c1, c2⟩, h1, h2, h3, g⟩ := h
  have hk : ∀ b, b ≤ pb → b < w.heap.size → w'.heap[b]? = w.heap[b]? := fun b hb1 hb2 => hg.block b hb2 (fun e1 => by
    have := (hu.lt b e1.symm).1
    omega)
  exact ⟨lc, vv, tw, lt, kt, nv, dp, ⟨cs, by rw [hk tb (by omega) (ltOf c1)]; exact c1, c2⟩, h1, h2, by rw [hk pb (Nat.le_refl _) (ltOf h3)]; exact h3, own_grow g hu hne hg⟩
end Go.Proofs.YtkmpelgfhjgddaaGreatDoor
