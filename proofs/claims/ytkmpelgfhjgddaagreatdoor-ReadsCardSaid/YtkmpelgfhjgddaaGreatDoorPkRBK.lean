/- A part of one proof (PureA, PureG, PX4); no conditions beyond what each theorem names. -/
import Derived.Test.YtkmpelgfhjgddaaGreatDoorPkRBJ
set_option linter.all false
set_option linter.unusedVariables false
set_option linter.unusedSimpArgs false
namespace Go.Proofs.YtkmpelgfhjgddaaGreatDoor.P
mutual
def tmSz : Tm → Nat
  | .atom _ => 1
  | .int _ => 1
  | .var _ => 1
  | .comp _ args => tmsSz args + 1
  termination_by structural t => t
def tmsSz : List Tm → Nat
  | [] => 0
  | t :: ts => tmSz t + tmsSz ts
  termination_by structural t => t
end
mutual
theorem made_sz {nv : Nat} (vs : List Nat) : ∀ (x : Ex), ExOk nv x → tmSz (made vs x) = exSz x
  | .mk kind name n k args, h => by
    unfold ExOk at h
    obtain ⟨h1, h2, h3, h4, h5, h6, h7, h8⟩ := h
    unfold made
    have h0 : kind ≠ 99 → exSzs args = 0 := fun h => by rw [h7 h]; simp [exSzs]
    split
    · rename_i e; simp [tmSz, exSz, h0 (by omega)]
    · split
      · rename_i e; simp [tmSz, exSz, h0 (by omega)]
      · split
        · rename_i e; simp [tmSz, exSz, h0 (by omega)]
        · simp [tmSz, exSz, mades_sz vs args h8]
  termination_by structural x => x
theorem mades_sz {nv : Nat} (vs : List Nat) : ∀ (l : List Ex), ExsOk nv l → tmsSz (mades vs l) = exSzs l
  | [], _ => by simp [mades, tmsSz, exSzs]
  | x :: xs, h => by
    unfold ExsOk at h
    simp [mades, tmsSz, exSzs, made_sz vs x h.1, mades_sz vs xs h.2]
  termination_by structural x => x
end
theorem walk_nil : ∀ (f : Nat) (t : Tm), walkN [] f t = some t
  | 0, t => by cases t <;> simp [walkN, look]
  | f + 1, t => by cases t <;> simp [walkN, look]
theorem tmSz_pos : ∀ (t : Tm), 0 < tmSz t
  | .atom _ => by simp [tmSz]
  | .int _ => by simp [tmSz]
  | .var _ => by simp [tmSz]
  | .comp _ _ => by simp [tmSz]
theorem Wb_ok {x : Option (Option Ws)} {k : Ws → Option (Option Ws)} {s : Ws} (h : x = some (some s)) : Wb x k = k s := by rw [h]; rfl
theorem varText_fuel (s : Ws) (i : Nat) : (varText s i).fuel = s.fuel := by
  unfold varText
  split <;> rfl
structure TotW (f : Nat) : Prop where
  tm : ∀ t least s, 4 * tmSz t ≤ f → tmSz t ≤ s.fuel → ∃ r, wTm [] f t least s = some (some r) ∧ s.fuel ≤ r.fuel + tmSz t ∧ r.fuel ≤ s.fuel
  comp : ∀ name args least s, 4 * tmsSz args + 3 ≤ f → tmsSz args ≤ s.fuel → ∃ r, wComp [] f name args least s = some (some r) ∧ s.fuel ≤ r.fuel + tmsSz args ∧ r.fuel ≤ s.fuel
  args : ∀ c l s, 4 * tmsSz l + 1 ≤ f → tmsSz l ≤ s.fuel → ∃ r, wArgs [] f c l s = some (some r) ∧ s.fuel ≤ r.fuel + tmsSz l ∧ r.fuel ≤ s.fuel
  list : ∀ c a b s, 4 * (tmSz a + tmSz b) + 1 ≤ f → tmSz a + tmSz b ≤ s.fuel → ∃ r, wList [] f c a b s = some (some r) ∧ s.fuel ≤ r.fuel + (tmSz a + tmSz b) ∧ r.fuel ≤ s.fuel
theorem totW : ∀ f, TotW f
  | 0 => ⟨fun t _ _ h _ => by have := tmSz_pos t; omega, fun _ _ _ _ h _ => by omega, fun _ _ _ h _ => by omega, fun _ a _ _ h _ => by omega⟩
  | f + 1 => by
    have ih := totW f
    refine ⟨?_, ?_, ?_, ?_⟩
    · intro t least s hf hs
      have hp := tmSz_pos t
      rw [wTm, if_neg (by omega), walk_nil]
      cases t with
      | atom a => exact ⟨_, rfl, by simp [Ws.add, tmSz]; omega, by simp [Ws.add]⟩
      | int a => exact ⟨_, rfl, by simp [Ws.add, tmSz]; omega, by simp [Ws.add]⟩
      | var a => exact ⟨_, rfl, by rw [varText_fuel]; simp [tmSz]; omega, by rw [varText_fuel]; simp⟩
      | comp name args =>
        simp only [tmSz] at hf hs ⊢
        obtain ⟨r, h1, h2, h3⟩ := ih.comp name args least { s with fuel := s.fuel - 1 } (by omega) (by simp only; omega)
        simp only at h2 h3
        exact ⟨r, h1, by omega, by omega⟩
    · intro name args least s hf hs
      have hd : ∀ l, tmsSz l ≤ s.fuel → 4 * tmsSz l + 1 ≤ f → ∃ r, Wb (wArgs [] f 40 l (s.add name)) (fun s => some (some (s.add [41]))) = some (some r) ∧ s.fuel ≤ r.fuel + tmsSz l ∧ r.fuel ≤ s.fuel := by
        intro l h1 h2
        obtain ⟨r, h3, h4, h5⟩ := ih.args 40 l (s.add name) h2 h1
        rw [Wb_ok h3]
        exact ⟨_, rfl, h4, h5⟩
      rw [wComp.eq_def]
      dsimp only
      split
      · rename_i a b
        have e : tmsSz [a, b] = tmSz a + tmSz b := by simp [tmsSz]
        rw [e] at hf hs ⊢
        split
        · split
          · obtain ⟨r1, h1, h2, h3⟩ := ih.tm a (power name 2) (s.add [40]) (by omega) (by show _ ≤ s.fuel; omega)
            have h2' : s.fuel ≤ r1.fuel + tmSz a := h2
            have h3' : r1.fuel ≤ s.fuel := h3
            rw [Wb_ok h1]
            obtain ⟨r2, h4, h5, h6⟩ := ih.tm b (power name 2 + 1) (r1.add (if name = [109, 111, 100] then [32, 109, 111, 100, 32] else name)) (by omega) (by show _ ≤ r1.fuel; omega)
            have h5' : r1.fuel ≤ r2.fuel + tmSz b := h5
            have h6' : r2.fuel ≤ r1.fuel := h6
            rw [Wb_ok h4]
            exact ⟨_, rfl, by show _ ≤ r2.fuel + _; omega, by show r2.fuel ≤ _; omega⟩
          · obtain ⟨r1, h1, h2, h3⟩ := ih.tm a (power name 2) s (by omega) (by omega)
            rw [Wb_ok h1]
            obtain ⟨r2, h4, h5, h6⟩ := ih.tm b (power name 2 + 1) (r1.add (if name = [109, 111, 100] then [32, 109, 111, 100, 32] else name)) (by omega) (by show _ ≤ r1.fuel; omega)
            have h5' : r1.fuel ≤ r2.fuel + tmSz b := h5
            have h6' : r2.fuel ≤ r1.fuel := h6
            exact ⟨r2, h4, by omega, by omega⟩
        · split
          · exact ih.list 91 a b s (by omega) hs
          · obtain ⟨r, h1, h2, h3⟩ := hd [a, b] (by rw [e]; exact hs) (by rw [e]; omega)
            rw [e] at h2
            exact ⟨r, h1, h2, h3⟩
      · exact hd args hs (by omega)
    · intro c l s hf hs
      cases l with
      | nil => exact ⟨s, by rw [wArgs], by simp [tmsSz], Nat.le_refl _⟩
      | cons a l =>
        simp only [tmsSz] at hf hs ⊢
        have hp := tmSz_pos a
        rw [wArgs]
        obtain ⟨r1, h1, h2, h3⟩ := ih.tm a 0 (s.add [c]) (by omega) (by show _ ≤ s.fuel; omega)
        have h2' : s.fuel ≤ r1.fuel + tmSz a := h2
        have h3' : r1.fuel ≤ s.fuel := h3
        rw [Wb_ok h1]
        obtain ⟨r2, h4, h5, h6⟩ := ih.args 44 l r1 (by omega) (by omega)
        exact ⟨r2, h4, by omega, by omega⟩
    · intro c a b s hf hs
      have hp := tmSz_pos b
      rw [wList]
      obtain ⟨r1, h1, h2, h3⟩ := ih.tm a 0 (s.add [c]) (by omega) (by show _ ≤ s.fuel; omega)
      have h2' : s.fuel ≤ r1.fuel + tmSz a := h2
      have h3' : r1.fuel ≤ s.fuel := h3
      rw [Wb_ok h1, walk_nil]
      have hbar : ∃ r, Wb (wTm [] f b 0 (r1.add [124])) (fun s => some (some (s.add [93]))) = some (some r) ∧ s.fuel ≤ r.fuel + (tmSz a + tmSz b) ∧ r.fuel ≤ s.fuel := by
        obtain ⟨r2, h4, h5, h6⟩ := ih.tm b 0 (r1.add [124]) (by omega) (by show _ ≤ r1.fuel; omega)
        have h5' : r1.fuel ≤ r2.fuel + tmSz b := h5
        have h6' : r2.fuel ≤ r1.fuel := h6
        rw [Wb_ok h4]
        exact ⟨_, rfl, by show _ ≤ r2.fuel + _; omega, by show r2.fuel ≤ _; omega⟩
      split
      · rename_i he; cases he
      · rename_i name args he
        simp only [Option.some.injEq] at he
        subst he
        split
        · rename_i x y
          split
          · simp only [tmSz, tmsSz] at hf hs ⊢
            obtain ⟨r2, h4, h5, h6⟩ := ih.list 44 x y r1 (by omega) (by omega)
            exact ⟨r2, h4, by omega, by omega⟩
          · exact hbar
        · exact hbar
      · rename_i x he
        split
        · exact ⟨_, rfl, by show _ ≤ r1.fuel + _; omega, by show r1.fuel ≤ _; omega⟩
        · exact hbar
      · exact hbar
structure NeW (tr : Tr) (f : Nat) : Prop where
  tm : ∀ t least s r, TmOk t → wTm tr f t least s = some (some r) → s.out.length < r.out.length
  comp : ∀ name args least s r, TmsOk args → wComp tr f name args least s = some (some r) → s.out.length < r.out.length
  args : ∀ c l s r, TmsOk l → wArgs tr f c l s = some (some r) → s.out.length ≤ r.out.length
  list : ∀ c a b s r, TmOk a → TmOk b → wList tr f c a b s = some (some r) → s.out.length < r.out.length
theorem add_len (s : Ws) (x : Bs) : (s.add x).out.length = s.out.length + x.length := by simp [Ws.add]
theorem decN_ne (n : Nat) : 0 < (decN n).length := by
  unfold decN
  rw [digs]
  split <;> simp
theorem decI_ne (n : Int) : 0 < (decI n).length := by
  unfold decI
  split
  · simp
  · exact decN_ne _
theorem neW {tr : Tr} (ht : TrOk tr) : ∀ f, NeW tr f
  | 0 => ⟨fun _ _ _ _ _ h => by simp [wTm] at h, fun _ _ _ _ _ _ h => by simp [wComp] at h, fun _ _ _ _ _ h => by simp [wArgs] at h, fun _ _ _ _ _ _ _ h => by simp [wList] at h⟩
  | f + 1 => by
    have ih := neW ht f
    refine ⟨?_, ?_, ?_, ?_⟩
    · intro t least s r hok h
      rw [wTm] at h
      split at h
      · simp at h
      split at h
      · cases h
      · rename_i a hw
        have := walkN_ok ht hok hw
        simp only [Option.some.injEq] at h
        subst h
        unfold TmOk at this
        rw [add_len]
        have := List.length_pos_iff.2 this.2
        simp only
        omega
      · simp only [Option.some.injEq] at h
        subst h
        rw [add_len]
        rename_i a hw
        have := decI_ne a
        simp only
        omega
      · simp only [Option.some.injEq] at h
        subst h
        unfold varText
        split
        · rw [add_len]; simp
        · simp
      · rename_i name args hw
        have h1 := walkN_ok ht hok hw
        unfold TmOk at h1
        exact ih.comp name args least { s with fuel := s.fuel - 1 } r h1.2.2 h
    · intro name args least s r ha h
      have hd : ∀ l, TmsOk l → Wb (wArgs tr f 40 l (s.add name)) (fun s => some (some (s.add [41]))) = some (some r) → s.out.length < r.out.length := by
        intro l hl h
        obtain ⟨s1, h1, h2⟩ := Wb_some h
        have h3 := ih.args 40 l _ s1 hl h1
        simp only [Option.some.injEq] at h2
        subst h2
        rw [add_len] at h3 ⊢
        simp
        omega
      rw [wComp.eq_def] at h
      dsimp only at h
      split at h
      · rename_i a b
        obtain ⟨ha1, ha2⟩ := tmsOk2 ha
        split at h
        · split at h
          · obtain ⟨s1, h1, h2⟩ := Wb_some h
            obtain ⟨s2, h3, h4⟩ := Wb_some h2
            have g1 := ih.tm a _ _ s1 ha1 h1
            have g2 := ih.tm b _ _ s2 ha2 h3
            simp only [Option.some.injEq] at h4
            subst h4
            rw [add_len] at g1 g2 ⊢
            omega
          · obtain ⟨s1, h1, h2⟩ := Wb_some h
            have g1 := ih.tm a _ _ s1 ha1 h1
            have g2 := ih.tm b _ _ r ha2 h2
            rw [add_len] at g2
            omega
        · split at h
          · exact ih.list 91 a b s r ha1 ha2 h
          · exact hd _ ha h
      · exact hd _ ha h
    · intro c l s r hok h
      cases l with
      | nil =>
        simp only [wArgs, Option.some.injEq] at h
        subst h
        exact Nat.le_refl _
      | cons a l =>
        rw [wArgs] at h
        unfold TmsOk at hok
        obtain ⟨s1, h1, h2⟩ := Wb_some h
        have g1 := ih.tm a _ _ s1 hok.1 h1
        have g3 := ih.args 44 l s1 r hok.2 h2
        rw [add_len] at g1
        omega
    · intro c a b s r ha hb h
      rw [wList] at h
      obtain ⟨s1, h1, h2⟩ := Wb_some h
      have g1 := ih.tm a _ _ s1 ha h1
      rw [add_len] at g1
      have hbar : Wb (wTm tr f b 0 (s1.add [124])) (fun s => some (some (s.add [93]))) = some (some r) → s.out.length < r.out.length := by
        intro h
        obtain ⟨s2, h3, h4⟩ := Wb_some h
        have g3 := ih.tm b _ _ s2 hb h3
        rw [add_len] at g3
        simp only [Option.some.injEq] at h4
        subst h4
        rw [add_len]
        omega
      split at h2
      · cases h2
      · rename_i name args hw
        have h5 := walkN_ok ht hb hw
        unfold TmOk at h5
        split at h2
        · rename_i x y
          obtain ⟨k1, k2⟩ := tmsOk2 h5.2.2
          split at h2
          · have := ih.list 44 x y s1 r k1 k2 h2
            omega
          · exact hbar h2
        · exact hbar h2
      · split at h2
        · simp only [Option.some.injEq] at h2
          subst h2
          rw [add_len]
          omega
        · exact hbar h2
      · exact hbar h2
def canonS (nv : Nat) (x : Ex) : Ws := match wTm [] (4 * exSz x) (made (List.range nv) x) 0 ⟨1000000, [], []⟩ with
  | some (some s) => s
  | _ => ⟨0, [], []⟩
theorem canonS_eq {nv : Nat} {x : Ex} (h : ExOk nv x) (hs : exSz x ≤ 1000000) : wTm [] (4 * exSz x) (made (List.range nv) x) 0 ⟨1000000, [], []⟩ = some (some (canonS nv x)) ∧ (canonS nv x).out ≠ [] := by
  have hz := made_sz (List.range nv) x h
  obtain ⟨r, h1, -⟩ := (totW (4 * exSz x)).tm (made (List.range nv) x) 0 ⟨1000000, [], []⟩ (by omega) (by simp only; omega)
  have h2 := (neW (tr := []) trivial _).tm _ _ _ _ (made_ok _ x h) h1
  have h3 : canonS nv x = r := by unfold canonS; rw [h1]
  rw [h3]
  refine ⟨h1, fun e => ?_⟩
  rw [e] at h2
  simp at h2
end Go.Proofs.YtkmpelgfhjgddaaGreatDoor.P
namespace Go.Proofs.YtkmpelgfhjgddaaGreatDoor.P
structure LeT (T : List Tok) (f : Nat) : Prop where
  prim : ∀ k v d x k' v', pPrim T f k v d = some (.ok x k' v') → k' ≤ T.length
  args : ∀ k v d a acc x k' v', pArgs T f k v d a acc = some (.ok x k' v') → k' ≤ T.length
  list : ∀ k v d x k' v', pList T f k v d = some (.ok x k' v') → k' ≤ T.length
  elems : ∀ k v d acc x k' v', pElems T f k v d acc = some (.ok x k' v') → k' ≤ T.length
  oper : ∀ l k v d x k' v', pOper T f l k v d = some (.ok x k' v') → k' ≤ T.length
  more : ∀ l y k v d x k' v', k ≤ T.length → pMore T f l y k v d = some (.ok x k' v') → k' ≤ T.length
theorem musT_le {α : Type} {T : List Tok} {s : Bs} {x y : α} {k k' : Nat} {v v' : List Bs} (h : musT T s x k v = some (.ok y k' v')) : k' ≤ T.length := by
  unfold musT at h
  split at h
  · rename_i hi
    have := isT_lt hi
    simp only [Option.some.injEq, Res.ok.injEq] at h
    omega
  · simp at h
theorem leT (T : List Tok) : ∀ f, LeT T f
  | 0 => ⟨by intros; simp [pPrim] at *, by intros; simp [pArgs] at *, by intros; simp [pList] at *, by intros; simp [pElems] at *, by intros; simp [pOper] at *, by intros; simp [pMore] at *⟩
  | f + 1 => by
    have ih := leT T f
    refine ⟨?_, ?_, ?_, ?_, ?_, ?_⟩
    · intro k v d x k' v' h
      rw [pPrim] at h
      split at h
      · simp at h
      split at h
      · rename_i hk
        have := tk_lt (T := T) (k := k) (by omega)
        simp only [Option.some.injEq, Res.ok.injEq] at h
        omega
      split at h
      · rename_i hk
        have := tk_lt (T := T) (k := k) (by omega)
        simp only [Option.some.injEq] at h
        have := pVar_k h
        omega
      split at h
      · rename_i hk
        have := tk_lt (T := T) (k := k) (by omega)
        split at h
        · obtain ⟨a, k1, v1, h1, h2⟩ := bind_ok h
          exact musT_le h2
        · simp only [Option.some.injEq, Res.ok.injEq] at h
          omega
      split at h
      · split at h
        · rename_i hk
          have := tk_lt (T := T) (k := k + 1) (by omega)
          simp only [Option.some.injEq, Res.ok.injEq] at h
          omega
        · simp at h
      split at h
      · obtain ⟨a, k1, v1, h1, h2⟩ := bind_ok h
        exact musT_le h2
      split at h
      · exact ih.list _ _ _ _ _ _ h
      · simp at h
    · intro k v d a acc x k' v' h
      rw [pArgs] at h
      obtain ⟨y, k1, v1, h1, h2⟩ := bind_ok h
      split at h2
      · exact ih.args _ _ _ _ _ _ _ _ h2
      · split at h2
        · simp at h2
        · simp only [Option.some.injEq, Res.ok.injEq] at h2
          have := ih.oper _ _ _ _ _ _ _ h1
          omega
    · intro k v d x k' v' h
      rw [pList] at h
      split at h
      · rename_i hi
        have := isT_lt hi
        simp only [Option.some.injEq, Res.ok.injEq] at h
        omega
      · obtain ⟨all, k1, v1, h1, h2⟩ := bind_ok h
        split at h2
        · obtain ⟨y, k2, v2, h3, h4⟩ := bind_ok h2
          exact musT_le h4
        · exact musT_le h2
    · intro k v d acc x k' v' h
      rw [pElems] at h
      obtain ⟨y, k1, v1, h1, h2⟩ := bind_ok h
      split at h2
      · exact ih.elems _ _ _ _ _ _ _ h2
      · simp only [Option.some.injEq, Res.ok.injEq] at h2
        have := ih.oper _ _ _ _ _ _ _ h1
        omega
    · intro l k v d x k' v' h
      rw [pOper] at h
      split at h
      · exact ih.prim _ _ _ _ _ _ h
      · obtain ⟨y, k1, v1, h1, h2⟩ := bind_ok h
        exact ih.more _ _ _ _ _ _ _ _ (ih.oper _ _ _ _ _ _ _ h1) h2
    · intro l y k v d x k' v' hk h
      rw [pMore] at h
      split at h
      · simp only [Option.some.injEq, Res.ok.injEq] at h
        omega
      · obtain ⟨z, k1, v1, h1, h2⟩ := bind_ok h
        exact ih.more _ _ _ _ _ _ _ _ (ih.oper _ _ _ _ _ _ _ h1) h2
end Go.Proofs.YtkmpelgfhjgddaaGreatDoor.P
namespace Go.Proofs.YtkmpelgfhjgddaaGreatDoor
open Go.RowKit Sx
set_option maxRecDepth 100000
def SPostR (w : World) (s : P.Bs) (e : Ending) (w' : World) : Prop :=
  Ext w w' ∧ match P.term s with
  | .err c a => ∃ b, e = .returned (.tuple #[.string (bs []), .iface 85 (.pointer (some ⟨b, 0, none⟩))]) ∧ w'.heap[b]? = some (.cells #[.int .i64 c, .int .i64 a] 89 (0, 0))
  | .ok x _ vs => e = .returned (.tuple #[.string (bs (P.canonS vs.length x).out), .nilIface])
theorem varsRow {w : World} {rb nv : Nat} {row : Array Value} {F : Nat → Prop} (hF : F rb) (h1 : w.heap[rb]? = some (.cells row 107 (0, 0))) (h2 : row.size = nv) (h3 : ∀ i, i < nv → row[i]? = some (.iface 105 (.pointer (some ⟨rb + 1 + i, 0, none⟩)))) :
    IsSl F w 107 (.slice (some ⟨rb, 0, none⟩) nv nv) (varsV (fun i => rb + 1 + i) (List.range nv)) := by
  refine .inr ⟨rb, row, by simp [h2], hF, h1, by simp [h2], ?_⟩
  apply List.ext_getElem?
  intro i
  have hl : (varsV (fun i => rb + 1 + i) (List.range nv)).length = nv := by simp
  rw [hl, List.getElem?_take]
  by_cases hi : i < nv
  · rw [if_pos hi, Array.getElem?_toList, h3 i hi]
    simp [varsV, hi]
  · have hno : (varsV (fun i => rb + 1 + i) (List.range nv))[i]? = none := List.getElem?_eq_none (by rw [hl]; omega)
    rw [if_neg hi, hno]
theorem P.term_ok {s : P.Bs} {x : P.Ex} {k : Nat} {vs : List P.Bs} (h : P.term s = .ok x k vs) : P.ExOk vs.length x ∧ P.exSz x ≤ 2001 := by
  unfold P.term P.ofText at h
  split at h
  · cases h
  · rename_i hl
    split at h
    · cases h
    · rename_i T hT
      have hlo := lex_ok hT
      have htk : P.TkOk T := ⟨P.lexGo_len _ _ _ _ (by rw [P.lex_eq, hT]), fun u hu hk => by
        obtain ⟨c, r, e, -⟩ := (hlo.tok u hu).2.2.1 hk
        rw [e]; simp, fun u hu hk => ((hlo.tok u hu).2.1 hk).2.1⟩
      have htw := TWs.of hlo (by omega)
      unfold P.termT at h
      split at h
      · rename_i y k' vs' hq
        split at h
        · rename_i hk0
          injection h with h1 h2 h3
          subst h1 h2 h3
          obtain ⟨g1, -, g3⟩ := (P.eOk htk _).oper _ _ _ _ _ _ _ hq
          have hkl : k' ≤ T.length := (P.leT T _).oper _ _ _ _ _ _ _ hq
          have := hlo.len
          exact ⟨g1, by omega⟩
        · cases h
      · cases h
      · cases h
set_option maxHeartbeats 1000000 in
theorem hRead (s : P.Bs) (w : World) (hl : s.length ≤ 100000) (hT : STabs2 w) (hP : TabP w) : Calls Tryz.prog 21 #[.string (bs s)] w (SPostR w s) := by
  refine sh_h_Read_ok ?_
  refine (sTerm s w hl hT).mono ?_
  rintro e w1 ⟨hE1, hp⟩
  have s1 := hE1.size
  cases hr : P.term s with
  | err c a =>
    rw [hr] at hp
    obtain ⟨b, rfl, h1⟩ := hp
    simp (disch := first | assumption | omega | ((simp only [size_alloc, sz_drew, size_upd, List.size_toArray, List.length_cons, List.length_nil]) <;> omega) | decide) only [sh_h_Read, Pr, PX, PC, NX, ends, fillL, wrL, sOf, Nat.reduceAdd, Nat.reduceMul, Nat.reduceLeDiff, Nat.reduceEqDiff, Int.reduceToNat, Int.reduceAdd, Int.reduceLT, Int.reduceLE, ↓reduceIte, forall_const, eq_self, zG1, zG2, al_109, bd_114, bd_121, fa_104_1, fa_104_3, fa_121_0, ix_100, ix_101, ld_101, ld_124, ld_38, ln_100, ln_38, mi_105, ms_100, nei0_48, nei1_48, st_107]
    refine ⟨hE1, ?_⟩
    rw [hr]
    exact ⟨b, rfl, h1⟩
  | ok x k vs =>
    rw [hr] at hp
    obtain ⟨cb, rfl, hcN, hvl, av, va, vc, hcb, us, hus, hxs⟩ := hp
    obtain ⟨hok, hsz⟩ := P.term_ok hr
    unfold IsExs at hxs
    obtain ⟨xv, r0, rfl, hx, hr0⟩ := hxs
    unfold IsExs at hr0
    subst hr0
    obtain ⟨ab, acs, rfl, ha1, ha2, ha3⟩ := hus.at' (j := 0) (by simp)
    have lc := ltOf hcb
    simp (disch := first | assumption | omega | ((simp only [size_alloc, sz_drew, size_upd, List.size_toArray, List.length_cons, List.length_nil]) <;> omega) | decide) only [sh_h_Read, Pr, PX, PC, NX, ends, fillL, wrL, sOf, Nat.reduceAdd, Nat.reduceMul, Nat.reduceLeDiff, Nat.reduceEqDiff, Int.reduceToNat, Int.reduceAdd, Int.reduceLT, Int.reduceLE, ↓reduceIte, forall_const, eq_self, zG1, zG2, al_109, bd_114, bd_121, fa_104_1, fa_104_3, fa_121_0, ix_100, ix_101, ld_101, ld_124, ld_38, ln_100, ln_38, mi_105, ms_100, nei0_48, nei1_48, st_107, hcb]
    obtain ⟨nv, hnv⟩ : ∃ nv, nv = vs.length := ⟨_, rfl⟩
    rw [← hnv] at hcb hok hvl ⊢
    refine ⟨fun m z w' => ∃ j row, z 25 = .int .i64 (j : Nat) ∧ j ≤ nv ∧ m = nv - j ∧ Ext w1 w' ∧ w'.heap.size = w1.heap.size + 1 + j ∧ w'.heap[w1.heap.size]? = some (.cells row 107 (0, 0)) ∧ row.size = nv ∧
      (∀ i, i < j → row[i]? = some (.iface 105 (.pointer (some ⟨w1.heap.size + 1 + i, 0, none⟩)))) ∧ (∀ i, i < j → w'.heap[w1.heap.size + 1 + i]? = some (.cells #[.nilIface] 109 (0, 0))),
      ⟨_, 0, _, rfl, Nat.zero_le _, rfl, by (repeat (first | assumption | exact FrM.refl _ _ | (refine FrM.upd ?_ (.inr (by (try simp only [size_alloc, sz_drew, size_upd, List.size_toArray, List.length_cons, List.length_nil]) <;> omega))) | refine FrM.alloc ?_ _ | refine FrM.drew ?_)), by rw [size_alloc], hp_alloc_new rfl, by rw [size_madeCells], fun i hi => by omega, fun i hi => by omega⟩, ?_⟩
    intro m z d w2 hI
    refine toPr ?_
    obtain ⟨j, row, h25, hj, rfl, hE2, s2, q2, hrs, hrow, hvs⟩ := hI
    have l2 := ltOf q2
    by_cases hlt : j < nv
    · have ejn : ((j : Nat) : Int).toNat = j := by omega
      have hjr : j < row.size := by omega
      simp (disch := first | assumption | omega | ((simp only [size_alloc, sz_drew, size_upd, List.size_toArray, List.length_cons, List.length_nil]) <;> omega) | decide) only [sh_h_Read, Pr, PX, PC, NX, ends, fillL, wrL, sOf, Nat.reduceAdd, Nat.reduceMul, Nat.reduceLeDiff, Nat.reduceEqDiff, Int.reduceToNat, Int.reduceAdd, Int.reduceLT, Int.reduceLE, ↓reduceIte, forall_const, eq_self, zG1, zG2, al_109, bd_114, bd_121, fa_104_1, fa_104_3, fa_121_0, ix_100, ix_101, ld_101, ld_124, ld_38, ln_100, ln_38, mi_105, ms_100, nei0_48, nei1_48, st_107, h25, q2, ejn]
      refine ⟨_, by omega, j + 1, row.setIfInBounds j (.iface 105 (.pointer (some ⟨w2.heap.size, 0, none⟩))), by simp, by omega, rfl, ?_, by omega, rfl, by simp [hrs], ?_, ?_⟩
      · exact (hE2.alloc _).upd (.inr (Nat.le_refl _))
      · intro i hi
        by_cases hij : i = j
        · subst hij
          rw [gsi hjr, s2]
        · rw [gsj (fun e => hij e.symm)]
          exact hrow i (by omega)
      · intro i hi
        by_cases hij : i = j
        · subst hij
          rw [hp_alloc_new (by omega)]
        · rw [hp_alloc_old (by omega)]
          exact hvs i (by omega)
    · have hjn : j = nv := by omega
      subst hjn
      have hcb2 := hE2.ext _ _ hcb
      have ha2' := hE2.ext _ _ ha2
      have l3 := ltOf hcb2
      have l4 := ltOf ha2'
      have e0 : ((0 : Int)).toNat = 0 := rfl
      have hav : acs[0]? = some xv := ha3
      simp (disch := first | assumption | omega | ((simp only [size_alloc, sz_drew, size_upd, List.size_toArray, List.length_cons, List.length_nil]) <;> omega) | decide) only [sh_h_Read, Pr, PX, PC, NX, ends, fillL, wrL, sOf, Nat.reduceAdd, Nat.reduceMul, Nat.reduceLeDiff, Nat.reduceEqDiff, Int.reduceToNat, Int.reduceAdd, Int.reduceLT, Int.reduceLE, ↓reduceIte, forall_const, eq_self, zG1, zG2, al_109, bd_114, bd_121, fa_104_1, fa_104_3, fa_121_0, ix_100, ix_101, ld_101, ld_124, ld_38, ln_100, ln_38, mi_105, ms_100, nei0_48, nei1_48, st_107, h25, hcb2, ha2', e0, hav]
      obtain ⟨wB, hwB⟩ : ∃ y, y = (w2.alloc (.cells #[.slice none 0 0, .int .i64 1000000] 114 (0, 0))).alloc (.cells #[.pointer none, .slice none 0 0, .pointer (some ⟨w2.heap.size, 0, none⟩), .map none] 121 (0, 0)) := ⟨_, rfl⟩
      have sB : wB.heap.size = w2.heap.size + 2 := by rw [hwB]; simp
      have hEB : Ext w2 wB := by rw [hwB]; (repeat (first | assumption | exact FrM.refl _ _ | (refine FrM.upd ?_ (.inr (by (try simp only [size_alloc, sz_drew, size_upd, List.size_toArray, List.length_cons, List.length_nil]) <;> omega))) | refine FrM.alloc ?_ _ | refine FrM.drew ?_))
      have qS : wB.heap[w2.heap.size]? = some (.cells #[.slice none 0 0, .int .i64 1000000] 114 (0, 0)) := by rw [hwB]; simp (disch := first | assumption | omega | ((simp only [size_alloc, sz_drew, size_upd, List.size_toArray, List.length_cons, List.length_nil]) <;> omega) | decide) only [hp_alloc_old, hp_alloc_new, hp_upd_same, hp_upd_other, hp_drew, sz_drew, size_upd, size_alloc]
      have qW : wB.heap[w2.heap.size + 1]? = some (.cells #[.pointer none, .slice none 0 0, .pointer (some ⟨w2.heap.size, 0, none⟩), .map none] 121 (0, 0)) := by rw [hwB]; simp (disch := first | assumption | omega | ((simp only [size_alloc, sz_drew, size_upd, List.size_toArray, List.length_cons, List.length_nil]) <;> omega) | decide) only [hp_alloc_old, hp_alloc_new, hp_upd_same, hp_upd_other, hp_drew, sz_drew, size_upd, size_alloc]
      rw [size_alloc, ← hwB]
      have hE1B : Ext w1 wB := hE2.trans hEB
      have hst : ∀ w', Ext w2 w' → StV (fun i => w1.heap.size + 1 + i) j [] w' := fun w' hE' => ⟨fun a b _ _ h => by simpa using h, fun i hi => ⟨.nilIface, hE'.ext _ _ (hvs i hi), rfl⟩⟩
      have hids : ∀ i ∈ List.range j, i < j := fun i hi => List.mem_range.1 hi
      refine Calls.mono (wMadeN (ρ := fun i => w1.heap.size + 1 + i) (n := j) (ids := List.range j) hids 2001 x hsz (by simpa using hok)
        (IsEx.mono (F' := fun _ => True) (fun _ _ => trivial) (fun b o _ _ ho => hE1B.ext b o ho) _ _ hx) (varsRow (F := fun _ => True) trivial (hEB.ext _ _ q2) hrs hrow)) ?_
      rintro e w5 ⟨hE5, u, rfl, hu⟩
      have s5 := hE5.size
      have qS5 := hE5.ext _ _ qS
      have qW5 := hE5.ext _ _ qW
      have hPw : TabP w5 := (((hP.ext hE1).ext hE2).ext hEB).ext hE5
      have hgp : 4 < w.heap.size := by
        have := hP
        unfold TabP Lib.TabIs World.var? at this
        rw [Tryz.gPow] at this
        simp only [Option.bind_some] at this
        rcases Nat.lt_or_ge 4 w.heap.size with h | h
        · exact h
        · rw [Array.getElem?_eq_none h] at this
          cases this
      have hfix : WFix [] (w2.heap.size + 1) w2.heap.size 0 114 #[.slice none 0 0, .int .i64 1000000] :=
        ⟨trivial, by simp, by omega, by omega, by omega, by decide, by decide⟩
      have hws : WSx (fun i => w1.heap.size + 1 + i) j [] (w2.heap.size + 1) w2.heap.size 0 114 #[.slice none 0 0, .int .i64 1000000] (.map none) w5 ⟨1000000, [], []⟩ :=
        ⟨hst w5 (hEB.trans hE5), ⟨.pointer none, .slice none 0 0, .inl rfl, qW5, World.ownsRow_nil _ _ _ _⟩, .inl ⟨rfl, rfl⟩, qS5, hPw, fun i hi => by cases hi⟩
      obtain ⟨hcw, hne⟩ := P.canonS_eq hok (by omega)
      simp (disch := first | assumption | omega | ((simp only [size_alloc, sz_drew, size_upd, List.size_toArray, List.length_cons, List.length_nil]) <;> omega) | decide) only [sh_h_Read, Pr, PX, PC, NX, ends, fillL, wrL, sOf, Nat.reduceAdd, Nat.reduceMul, Nat.reduceLeDiff, Nat.reduceEqDiff, Int.reduceToNat, Int.reduceAdd, Int.reduceLT, Int.reduceLE, ↓reduceIte, forall_const, eq_self, zG1, zG2, al_109, bd_114, bd_121, fa_104_1, fa_104_3, fa_121_0, ix_100, ix_101, ld_101, ld_124, ld_38, ln_100, ln_38, mi_105, ms_100, nei0_48, nei1_48, st_107]
      refine Calls.mono ((cw (4 * P.exSz x)).tm (least := 0) hfix ⟨_, hws⟩ hu.toT (P.made_ok _ _ hok) (by simp [P.Ws.phi]) (Nat.le_refl _) hcw) ?_
      rintro e w6 ⟨hf6, rfl, nm6, h6⟩
      simp (disch := first | assumption | omega | ((simp only [size_alloc, sz_drew, size_upd, List.size_toArray, List.length_cons, List.length_nil]) <;> omega) | decide) only [sh_h_Read, Pr, PX, PC, NX, ends, fillL, wrL, sOf, Nat.reduceAdd, Nat.reduceMul, Nat.reduceLeDiff, Nat.reduceEqDiff, Int.reduceToNat, Int.reduceAdd, Int.reduceLT, Int.reduceLE, ↓reduceIte, forall_const, eq_self, zG1, zG2, al_109, bd_114, bd_121, fa_104_1, fa_104_3, fa_121_0, ix_100, ix_101, ld_101, ld_124, ld_38, ln_100, ln_38, mi_105, ms_100, nei0_48, nei1_48, st_107]
      refine (bString h6.bu hne).mono ?_
      rintro e w7 ⟨rfl, hf7⟩
      simp (disch := first | assumption | omega | ((simp only [size_alloc, sz_drew, size_upd, List.size_toArray, List.length_cons, List.length_nil]) <;> omega) | decide) only [sh_h_Read, Pr, PX, PC, NX, ends, fillL, wrL, sOf, Nat.reduceAdd, Nat.reduceMul, Nat.reduceLeDiff, Nat.reduceEqDiff, Int.reduceToNat, Int.reduceAdd, Int.reduceLT, Int.reduceLE, ↓reduceIte, forall_const, eq_self, zG1, zG2, al_109, bd_114, bd_121, fa_104_1, fa_104_3, fa_121_0, ix_100, ix_101, ld_101, ld_124, ld_38, ln_100, ln_38, mi_105, ms_100, nei0_48, nei1_48, st_107]
      have hE15 : Ext w w5 := ((hE1.trans hE2).trans hEB).trans hE5
      refine ⟨?_, ?_⟩
      · have hf67 : WFr (w2.heap.size + 1) w2.heap.size w5 w7 := hf6.trans (hf7.toW _)
        have s12 := hE2.size
        refine ⟨hf67.os.trans hE15.os, hf67.tape.trans hE15.tape, hf67.output.trans hE15.output, Nat.le_trans hE15.size hf67.size, fun b o hb _ => hf67.block b o (hE15.ext _ _ hb) ?_⟩
        have := ltOf hb
        rintro (h | h | ⟨h, _⟩) <;> omega
      · rw [hr]
        simp only [← hnv]
def SPostRP (w : World) (s : P.Bs) (e : Ending) (w' : World) : Prop :=
  Ext w w' ∧ match P.term s with
  | .err c a => e = .returned (.tuple #[.string (bs []), .int .i64 c, .int .i64 a])
  | .ok x _ vs => e = .returned (.tuple #[.string (bs (P.canonS vs.length x).out), .int .i64 0, .int .i64 (-1)])
theorem pRead (s : P.Bs) (w : World) (hl : s.length ≤ 100000) (hT : STabs2 w) (hP : TabP w) (hE0 : TabE w) : Calls Tryz.prog 10 #[.string (bs s)] w (SPostRP w s) := by
  refine sh_p_Read_ok ?_
  refine (hRead s w hl hT hP).mono ?_
  rintro e w1 ⟨hE, hp⟩
  cases hr : P.term s with
  | err c a =>
    rw [hr] at hp
    obtain ⟨b, rfl, h1⟩ := hp
    simp (disch := first | assumption | omega | ((simp only [size_alloc, sz_drew, size_upd, List.size_toArray, List.length_cons, List.length_nil]) <;> omega) | decide) only [sh_p_Read, Pr, PX, PC, NX, ends, fillL, wrL, sOf, Nat.reduceAdd, Nat.reduceMul, Nat.reduceLeDiff, Nat.reduceEqDiff, Int.reduceToNat, Int.reduceAdd, Int.reduceLT, Int.reduceLE, ↓reduceIte, forall_const, eq_self, zG1, zG2]
    refine (aTellAt b c a w1 h1 (hE0.ext hE)).mono ?_
    rintro e w2 ⟨hE2, rfl⟩
    simp (disch := first | assumption | omega | ((simp only [size_alloc, sz_drew, size_upd, List.size_toArray, List.length_cons, List.length_nil]) <;> omega) | decide) only [sh_p_Read, Pr, PX, PC, NX, ends, fillL, wrL, sOf, Nat.reduceAdd, Nat.reduceMul, Nat.reduceLeDiff, Nat.reduceEqDiff, Int.reduceToNat, Int.reduceAdd, Int.reduceLT, Int.reduceLE, ↓reduceIte, forall_const, eq_self, zG1, zG2]
    refine ⟨hE.trans hE2, ?_⟩
    rw [hr]
  | ok x k vs =>
    rw [hr] at hp
    subst hp
    simp (disch := first | assumption | omega | ((simp only [size_alloc, sz_drew, size_upd, List.size_toArray, List.length_cons, List.length_nil]) <;> omega) | decide) only [sh_p_Read, Pr, PX, PC, NX, ends, fillL, wrL, sOf, Nat.reduceAdd, Nat.reduceMul, Nat.reduceLeDiff, Nat.reduceEqDiff, Int.reduceToNat, Int.reduceAdd, Int.reduceLT, Int.reduceLE, ↓reduceIte, forall_const, eq_self, zG1, zG2]
    refine (aTellNil w1).mono ?_
    rintro e w2 ⟨hE2, rfl⟩
    simp (disch := first | assumption | omega | ((simp only [size_alloc, sz_drew, size_upd, List.size_toArray, List.length_cons, List.length_nil]) <;> omega) | decide) only [sh_p_Read, Pr, PX, PC, NX, ends, fillL, wrL, sOf, Nat.reduceAdd, Nat.reduceMul, Nat.reduceLeDiff, Nat.reduceEqDiff, Int.reduceToNat, Int.reduceAdd, Int.reduceLT, Int.reduceLE, ↓reduceIte, forall_const, eq_self, zG1, zG2]
    refine ⟨hE.trans hE2, ?_⟩
    rw [hr]
end Go.Proofs.YtkmpelgfhjgddaaGreatDoor
