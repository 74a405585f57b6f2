/- A part of one proof (Pure, Base); no conditions beyond what each theorem names. -/
import Derived.Test.YtkmpelgfhjgddaaGreatDoorPkRAA
import Derived.WalkKit
import Derived.Lib.Hide
import Derived.Deep.QuietTactic
import Derived.BigQuiet
import Derived.Deep.RegionLaw
set_option linter.all false
set_option linter.unusedVariables false
set_option linter.unusedSimpArgs false
namespace Go.Proofs.YtkmpelgfhjgddaaGreatDoor.P
abbrev Bs := List UInt8
structure Tok where
  kind : Nat
  text : Bs
  pos : Nat
deriving Repr, DecidableEq, Inhabited
inductive Ex where
  | mk (kind : Nat) (name : Bs) (n : Int) (k : Nat) (args : List Ex)
deriving Inhabited
inductive Bd where
  | mk (kind : Nat) (name : Bs) (args : List Ex) (parts : List Bd)
deriving Inhabited
structure Cl where
  name : Bs
  args : List Ex
  body : Bd
  vars : List Bs
deriving Inhabited
def Ex.kind : Ex → Nat | .mk k _ _ _ _ => k
def Ex.name : Ex → Bs | .mk _ s _ _ _ => s
def Ex.args : Ex → List Ex | .mk _ _ _ _ l => l
def Bd.kind : Bd → Nat | .mk k _ _ _ => k
def Bd.parts : Bd → List Bd | .mk _ _ _ l => l
def cls (c : UInt8) : Nat :=
  if 97 ≤ c.toNat ∧ c.toNat ≤ 122 then 115
  else if (65 ≤ c.toNat ∧ c.toNat ≤ 90) ∨ c.toNat = 95 then 99
  else if 48 ≤ c.toNat ∧ c.toNat ≤ 57 then 100 else 0
def digit (c : UInt8) : Bool := decide (48 ≤ c.toNat ∧ c.toNat ≤ 57)
def num (s : Bs) : Int := s.foldl (fun v c => 10 * v + ((c.toNat : Int) - 48)) 0
def wordKind (w : Bs) : Nat :=
  match w with
  | [] => 0
  | c :: r =>
    if cls c = 115 then (if w.length ≤ 8 then 1 else 0)
    else if cls c = 99 then (if w.length ≤ 8 then 2 else 0)
    else if w.length ≤ 9 ∧ w.all digit = true ∧ (c ≠ 48 ∨ r = []) then 3 else 0
def signs : List Bs := [[61,58,61],[58,45],[45,62],[92,43],[92,61],[61,61],[61,60],[62,61],[47,47],[40],[41],[91],[93],[44],[124],[59],[33],[61],[60],[62],[43],[45],[42]]
def blank (c : UInt8) : Bool := c == 32 || c == 10
def endsB : Bs → Bool
  | [] => true
  | d :: _ => blank d
def lexGo : Nat → Bs → Nat → Option (Sum Nat (List Tok))
  | 0, _, _ => none
  | _ + 1, [], i => some (.inr [⟨0, [], i⟩])
  | f + 1, c :: r, i =>
    if blank c then lexGo f r (i + 1)
    else if cls c ≠ 0 then
      let w := (c :: r).takeWhile (fun x => cls x ≠ 0)
      if wordKind w = 0 then some (.inl i)
      else match lexGo f ((c :: r).drop w.length) (i + w.length) with
        | some (.inr l) => some (.inr (⟨wordKind w, w, i⟩ :: l))
        | x => x
    else if c = 46 ∧ endsB r = true then
      match lexGo f r (i + 1) with
      | some (.inr l) => some (.inr (⟨4, [46], i⟩ :: l))
      | x => x
    else match signs.find? (fun s => s.isPrefixOf (c :: r)) with
      | none => some (.inl i)
      | some s => match lexGo f ((c :: r).drop s.length) (i + s.length) with
        | some (.inr l) => some (.inr (⟨4, s, i⟩ :: l))
        | x => x
inductive Res (α : Type) where
  | ok (a : α) (k : Nat) (vars : List Bs)
  | err (e at_ : Nat)
deriving Inhabited
def tk (T : List Tok) (k : Nat) : Tok := T.getD k ⟨0, [], 0⟩
def isT (T : List Tok) (k : Nat) (s : Bs) : Bool := ((tk T k).kind == 4 || (tk T k).kind == 1) && (tk T k).text == s
def Res.bind {α β : Type} (r : Option (Res α)) (g : α → Nat → List Bs → Option (Res β)) : Option (Res β) :=
  match r with
  | none => none
  | some (.err e a) => some (.err e a)
  | some (.ok a k v) => g a k v
def musT {α : Type} (T : List Tok) (s : Bs) (x : α) (k : Nat) (vars : List Bs) : Option (Res α) :=
  if isT T k s then some (.ok x (k + 1) vars) else some (.err 2 (tk T k).pos)
def maxVars : Nat := 12
def maxDepth : Nat := 8
def maxArity : Nat := 4
def pVar (t : Tok) (k : Nat) (vars : List Bs) : Res Ex :=
  match (if t.text = [95] then none else vars.idxOf? t.text) with
  | some j => .ok (.mk 118 [] 0 j []) k vars
  | none => if vars.length = maxVars then .err 4 t.pos else .ok (.mk 118 [] 0 vars.length []) k (vars ++ [t.text])
def ops (lvl : Nat) : List Bs := if lvl = 0 then [[43], [45]] else [[42], [47, 47], [109, 111, 100]]
def opAt (T : List Tok) (lvl k : Nat) : Option Bs := (ops lvl).find? (isT T k)
def mkList (all : List Ex) (x : Ex) : Ex := all.foldr (fun a x => .mk 99 [46] 0 0 [a, x]) x
def tests (name : Bs) : Int :=
  if name ∈ [[116,114,117,101], [102,97,105,108]] then 0
  else if name ∈ [[118,97,114], [110,111,110,118,97,114], [97,116,111,109], [105,110,116,101,103,101,114]] then 1
  else if name ∈ [[61], [92,61], [61,61], [105,115], [60], [62], [61,60], [62,61], [61,58,61]] then 2 else -1
def compares : List Bs := [[61], [92,61], [61,61], [105,115], [60], [62], [61,60], [62,61], [61,58,61]]
def cmpAt (T : List Tok) (k : Nat) : Option Bs := compares.find? (isT T k)
def noGoal (x : Ex) : Bool :=
  (x.kind != 97 && x.kind != 99) || (x.name == [46] || x.name == [91, 93] || (match x.name with | [] => true | c :: _ => cls c != 115)) || (x.name == [109, 111, 100] && x.args.length == 2)
def failB : Bd := .mk 103 [102,97,105,108] [] []
def trueB : Bd := .mk 103 [116,114,117,101] [] []
mutual
def pPrim (T : List Tok) : Nat → Nat → List Bs → Nat → Option (Res Ex)
  | 0, _, _, _ => none
  | f + 1, k, vars, d =>
    if maxDepth < d + 1 then some (.err 4 (tk T k).pos)
    else if (tk T k).kind = 3 then some (.ok (.mk 110 [] (num (tk T k).text) 0 []) (k + 1) vars)
    else if (tk T k).kind = 2 then some (pVar (tk T k) (k + 1) vars)
    else if (tk T k).kind = 1 then
      if isT T (k + 1) [40] then
        Res.bind (pArgs T f (k + 2) vars (d + 1) (tk T k).pos []) fun l k' vars' => musT T [41] (.mk 99 (tk T k).text 0 0 l) k' vars'
      else some (.ok (.mk 97 (tk T k).text 0 0 []) (k + 1) vars)
    else if isT T k [45] then
      if (tk T (k + 1)).kind = 3 then some (.ok (.mk 110 [] (- num (tk T (k + 1)).text) 0 []) (k + 2) vars)
      else some (.err 2 (tk T (k + 1)).pos)
    else if isT T k [40] then Res.bind (pOper T f 0 (k + 1) vars (d + 1)) fun x k' vars' => musT T [41] x k' vars'
    else if isT T k [91] then pList T f (k + 1) vars (d + 1)
    else some (.err 2 (tk T k).pos)
  termination_by structural f => f
def pArgs (T : List Tok) : Nat → Nat → List Bs → Nat → Nat → List Ex → Option (Res (List Ex))
  | 0, _, _, _, _, _ => none
  | f + 1, k, vars, d, at_, acc =>
    Res.bind (pOper T f 0 k vars d) fun x k' vars' =>
      if isT T k' [44] then pArgs T f (k' + 1) vars' d at_ (acc ++ [x])
      else if maxArity < (acc ++ [x]).length then some (.err 4 at_) else some (.ok (acc ++ [x]) k' vars')
  termination_by structural f => f
def pList (T : List Tok) : Nat → Nat → List Bs → Nat → Option (Res Ex)
  | 0, _, _, _ => none
  | f + 1, k, vars, d =>
    if isT T k [93] then some (.ok (.mk 97 [91, 93] 0 0 []) (k + 1) vars)
    else Res.bind (pElems T f k vars d []) fun all k' vars' =>
      if isT T k' [124] then Res.bind (pOper T f 0 (k' + 1) vars' d) fun x k'' vars'' => musT T [93] (mkList all x) k'' vars''
      else musT T [93] (mkList all (.mk 97 [91, 93] 0 0 [])) k' vars'
  termination_by structural f => f
def pElems (T : List Tok) : Nat → Nat → List Bs → Nat → List Ex → Option (Res (List Ex))
  | 0, _, _, _, _ => none
  | f + 1, k, vars, d, acc =>
    Res.bind (pOper T f 0 k vars d) fun x k' vars' =>
      if isT T k' [44] then pElems T f (k' + 1) vars' d (acc ++ [x]) else some (.ok (acc ++ [x]) k' vars')
  termination_by structural f => f
def pOper (T : List Tok) : Nat → Nat → Nat → List Bs → Nat → Option (Res Ex)
  | 0, _, _, _, _ => none
  | f + 1, lvl, k, vars, d =>
    if lvl = 2 then pPrim T f k vars d
    else Res.bind (pOper T f (lvl + 1) k vars d) fun x k' vars' => pMore T f lvl x k' vars' d
  termination_by structural f => f
def pMore (T : List Tok) : Nat → Nat → Ex → Nat → List Bs → Nat → Option (Res Ex)
  | 0, _, _, _, _, _ => none
  | f + 1, lvl, x, k, vars, d =>
    match opAt T lvl k with
    | none => some (.ok x k vars)
    | some o => Res.bind (pOper T f (lvl + 1) (k + 1) vars d) fun y k' vars' => pMore T f lvl (.mk 99 o 0 0 [x, y]) k' vars' d
  termination_by structural f => f
end
mutual
def pLit (T : List Tok) : Nat → Nat → List Bs → Nat → Option (Res Bd)
  | 0, _, _, _ => none
  | f + 1, k, vars, d =>
    if maxDepth < d + 1 then some (.err 4 (tk T k).pos)
    else if isT T k [33] then some (.ok (.mk 33 [] [] []) (k + 1) vars)
    else if isT T k [92, 43] then Res.bind (pLit T f (k + 1) vars (d + 1)) fun b k' vars' => some (.ok (.mk 126 [] [] [b]) k' vars')
    else if isT T k [40] then Res.bind (pBody T f (k + 1) vars (d + 1)) fun b k' vars' => musT T [41] b k' vars'
    else Res.bind (pOper T f 0 k vars (d + 1)) fun x k' vars' =>
      match cmpAt T k' with
      | some c => Res.bind (pOper T f 0 (k' + 1) vars' (d + 1)) fun y k'' vars'' => some (.ok (.mk 103 c [x, y] []) k'' vars'')
      | none =>
        if noGoal x then some (.err 2 (tk T k).pos)
        else if 0 ≤ tests x.name ∧ tests x.name ≠ x.args.length then some (.err 3 (tk T k).pos)
        else some (.ok (.mk 103 x.name x.args []) k' vars')
  termination_by structural f => f
def pLits (T : List Tok) : Nat → Nat → List Bs → Nat → List Bd → Option (Res (List Bd))
  | 0, _, _, _, _ => none
  | f + 1, k, vars, d, acc =>
    Res.bind (pLit T f k vars d) fun b k' vars' =>
      if isT T k' [44] then pLits T f (k' + 1) vars' d (acc ++ [b]) else some (.ok (acc ++ [b]) k' vars')
  termination_by structural f => f
def pRow (T : List Tok) : Nat → Nat → List Bs → Nat → Option (Res Bd)
  | 0, _, _, _ => none
  | f + 1, k, vars, d =>
    Res.bind (pLits T f k vars d []) fun l k' vars' => some (.ok (match l with | [b] => b | _ => .mk 44 [] [] l) k' vars')
  termination_by structural f => f
def pRest (T : List Tok) : Nat → Nat → List Bs → Nat → Option (Res Bd)
  | 0, _, _, _ => none
  | f + 1, k, vars, d => if maxDepth < d + 1 then some (.err 4 (tk T k).pos) else pBody T f k vars (d + 1)
  termination_by structural f => f
def pBody (T : List Tok) : Nat → Nat → List Bs → Nat → Option (Res Bd)
  | 0, _, _, _ => none
  | f + 1, k, vars, d =>
    Res.bind (pRow T f k vars d) fun a k1 v1 =>
      if isT T k1 [45, 62] then
        Res.bind (pRow T f (k1 + 1) v1 d) fun b k2 v2 =>
          if isT T k2 [59] then Res.bind (pRest T f (k2 + 1) v2 d) fun c k3 v3 => some (.ok (.mk 63 [] [] [a, b, c]) k3 v3)
          else some (.ok (.mk 63 [] [] [a, b, failB]) k2 v2)
      else if isT T k1 [59] then Res.bind (pRest T f (k1 + 1) v1 d) fun b k2 v2 => some (.ok (.mk 59 [] [] [a, b]) k2 v2)
      else some (.ok a k1 v1)
  termination_by structural f => f
end
def pTail (T : List Tok) (f : Nat) (name : Bs) (args : List Ex) (at_ k : Nat) (vars : List Bs) : Option (Res Cl) :=
  if 0 ≤ tests name ∨ name = [109, 111, 100] then some (.err 3 at_)
  else if isT T k [58, 45] then
    Res.bind (pBody T f (k + 1) vars 0) fun b k' vars' => musT T [46] ⟨name, args, b, vars'⟩ k' vars'
  else musT T [46] ⟨name, args, trueB, vars⟩ k vars
def pClause (T : List Tok) (f k : Nat) : Option (Res Cl) :=
  if (tk T k).kind = 1 then
    if isT T (k + 1) [40] then
      Res.bind (pArgs T f (k + 2) [] 0 (tk T k).pos []) fun l k' vars' =>
        Res.bind (musT T [41] l k' vars') fun l k'' vars'' => pTail T f (tk T k).text l (tk T k).pos k'' vars''
    else pTail T f (tk T k).text [] (tk T k).pos (k + 1) []
  else some (.err 2 (tk T k).pos)
theorem find_none_of {l : List Bs} {q : Bs → Bool} (h : ∀ j, j < l.length → q (l.getD j []) = false) : l.find? q = none := by
  rw [List.find?_eq_none]
  intro x hx
  obtain ⟨j, hj, e⟩ := List.getElem_of_mem hx
  have := h j hj
  rw [List.getD_eq_getElem?_getD, List.getElem?_eq_getElem hj, Option.getD_some, e] at this
  rw [this]; decide
theorem find_some_of : ∀ {l : List Bs} {q : Bs → Bool} {j : Nat}, j < l.length → q (l.getD j []) = true → (∀ j', j' < j → q (l.getD j' []) = false) → l.find? q = some (l.getD j [])
  | [], _, _, h, _, _ => absurd h (Nat.not_lt_zero _)
  | x :: l, q, 0, _, h, _ => by
    simp only [List.getD_cons_zero] at h ⊢
    rw [List.find?_cons_of_pos h]
  | x :: l, q, j + 1, hj, h, hno => by
    have h0 := hno 0 (by omega)
    simp only [List.getD_cons_zero] at h0
    simp only [List.getD_cons_succ] at h ⊢
    rw [List.find?_cons_of_neg (by rw [h0]; decide)]
    exact find_some_of (by simpa using hj) h fun j' h' => by
      have := hno (j' + 1) (by omega)
      simpa only [List.getD_cons_succ] using this
theorem num_snoc (s : Bs) (c : UInt8) : num (s ++ [c]) = 10 * num s + ((c.toNat : Int) - 48) := by
  simp [num, List.foldl_append]
theorem num_bound_pow : ∀ (n : Nat) (s : Bs), s.length = n → s.all digit = true → 0 ≤ num s ∧ num s + 1 ≤ (10 : Int) ^ n
  | 0, s, h, _ => by
    have : s = [] := List.length_eq_zero_iff.1 h
    subst this
    simp [num]
  | n + 1, s, h, hd => by
    obtain ⟨l, c, rfl⟩ : ∃ l c, s = l ++ [c] := ⟨s.dropLast, s.getLast (by intro e; subst e; cases h), (List.dropLast_concat_getLast _).symm⟩
    simp only [List.all_append, List.all_cons, List.all_nil, Bool.and_true, Bool.and_eq_true, digit, decide_eq_true_eq] at hd
    have hl : l.length = n := by simpa using h
    obtain ⟨a, b⟩ := num_bound_pow n l hl hd.1
    rw [num_snoc, Int.pow_succ]
    omega
theorem num_bound {s : Bs} (hd : s.all digit = true) (hl : s.length ≤ 9) : 0 ≤ num s ∧ num s ≤ 999999999 := by
  obtain ⟨a, b⟩ := num_bound_pow s.length s rfl hd
  refine ⟨a, ?_⟩
  have : (10 : Int) ^ s.length ≤ 10 ^ 9 := by
    obtain h | h | h | h | h | h | h | h | h | h : s.length = 0 ∨ s.length = 1 ∨ s.length = 2 ∨ s.length = 3 ∨ s.length = 4 ∨ s.length = 5 ∨ s.length = 6 ∨ s.length = 7 ∨ s.length = 8 ∨ s.length = 9 := by omega
    all_goals rw [h]; decide
  have e : (10 : Int) ^ 9 = 1000000000 := by decide
  omega
end Go.Proofs.YtkmpelgfhjgddaaGreatDoor.P
namespace Go.Proofs.YtkmpelgfhjgddaaGreatDoor
open Go.RowKit
theorem cellOf {w : World} {b : Nat} {cs : Array Value} {T : TypeId} {z : Nat × Nat} (h : w.heap[b]? = some (.cells cs T z)) {o : Nat} {v : Value}
    (hv : cs[o]? = some v) : w.cell? ⟨b, o, none⟩ = some v := by
  simp [World.cell?, h, hv]
theorem freeOf {w : World} {b : Nat} {cs : Array Value} {T : TypeId} (h : w.heap[b]? = some (.cells cs T (0, 0))) (o : Nat) : w.frozen? ⟨b, o, none⟩ = false := by
  simp [World.frozen?, h]
theorem ltOf {w : World} {b : Nat} {o : Obj} (h : w.heap[b]? = some o) : b < w.heap.size := by
  rcases Nat.lt_or_ge b w.heap.size with h' | h'
  · exact h'
  · rw [Array.getElem?_eq_none h'] at h; cases h
theorem blk_alloc_new (w : World) (o : Obj) : (w.alloc o).heap[w.heap.size]? = some o := by
  show (w.heap.push o)[w.heap.size]? = _
  simp
theorem blk_alloc_old {w : World} {o x : Obj} {b : Nat} (h : w.heap[b]? = some x) : (w.alloc o).heap[b]? = some x := by
  have := ltOf h
  show (w.heap.push o)[b]? = _
  rw [Array.getElem?_push_lt this, ← h, Array.getElem?_eq_getElem this]
theorem size_alloc (w : World) (o : Obj) : (w.alloc o).heap.size = w.heap.size + 1 := by
  show (w.heap.push o).size = _
  simp
theorem size_setCell (w : World) (a : Addr) (v : Value) : (w.setCell a v).heap.size = w.heap.size := by simp [World.setCell]
theorem size_drew (w : World) : w.drew.heap.size = w.heap.size := rfl
theorem size_drewN (w : World) (n : Nat) : (w.drewN n).heap.size = w.heap.size := rfl
theorem blk_setCell_same {w : World} {b o : Nat} {cs : Array Value} {T : TypeId} {z : Nat × Nat} (h : w.heap[b]? = some (.cells cs T z)) (v : Value) :
    (w.setCell ⟨b, o, none⟩ v).heap[b]? = some (.cells (cs.setIfInBounds o v) T z) := by
  simp [World.setCell, Array.getElem?_modify, h]
theorem blk_setCell_other {w : World} {a : Addr} {b : Nat} (h : b ≠ a.block) (v : Value) : (w.setCell a v).heap[b]? = w.heap[b]? := by
  simp [World.setCell, Array.getElem?_modify, Ne.symm h]
theorem cellExt {w w' : World} {a : Addr} {v : Value} (h : w.cell? a = some v) (hw : ∀ (b : Nat) (o : Obj), w.heap[b]? = some o → w'.heap[b]? = some o) : w'.cell? a = some v := by
  cases hb : w.heap[a.block]? with
  | none => simp [World.cell?, hb] at h
  | some o => rw [World.cell?_of_block (w := w) (w' := w') (by rw [hw _ _ hb, hb])]; exact h
structure FrM (M : Nat → Obj → Prop) (w w' : World) : Prop where
  os : w'.os = w.os
  tape : w'.tape = w.tape
  output : w'.output = w.output
  size : w.heap.size ≤ w'.heap.size
  block : ∀ b o, w.heap[b]? = some o → ¬ M b o → w'.heap[b]? = some o
theorem FrM.refl (M : Nat → Obj → Prop) (w : World) : FrM M w w := ⟨rfl, rfl, rfl, Nat.le_refl _, fun _ _ h _ => h⟩
theorem FrM.trans {M : Nat → Obj → Prop} {a b c : World} (h : FrM M a b) (k : FrM M b c) : FrM M a c :=
  ⟨k.os.trans h.os, k.tape.trans h.tape, k.output.trans h.output, Nat.le_trans h.size k.size, fun i o hi hm => k.block i o (h.block i o hi hm) hm⟩
theorem FrM.mono {M M' : Nat → Obj → Prop} {a b : World} (h : FrM M a b) (hm : ∀ i o, a.heap[i]? = some o → M i o → M' i o) : FrM M' a b :=
  ⟨h.os, h.tape, h.output, h.size, fun i o hi hn => h.block i o hi fun hx => hn (hm i o hi hx)⟩
theorem FrM.alloc {M : Nat → Obj → Prop} {a b : World} (h : FrM M a b) (o : Obj) : FrM M a (b.alloc o) :=
  ⟨h.os, h.tape, h.output, by rw [size_alloc]; have := h.size; omega, fun i x hi hm => blk_alloc_old (h.block i x hi hm)⟩
theorem FrM.drew {M : Nat → Obj → Prop} {a b : World} (h : FrM M a b) : FrM M a b.drew := ⟨h.os, h.tape, h.output, h.size, h.block⟩
theorem FrM.drewN {M : Nat → Obj → Prop} {a b : World} (h : FrM M a b) (n : Nat) : FrM M a (b.drewN n) := ⟨h.os, h.tape, h.output, h.size, h.block⟩
theorem FrM.setNew {M : Nat → Obj → Prop} {a b : World} (h : FrM M a b) {p : Addr} (hp : a.heap.size ≤ p.block) (v : Value) : FrM M a (b.setCell p v) :=
  ⟨h.os, h.tape, h.output, by rw [size_setCell]; exact h.size, fun i x hi hm => by
    rw [blk_setCell_other (by have := ltOf hi; omega)]; exact h.block i x hi hm⟩
theorem FrM.setM {M : Nat → Obj → Prop} {a b : World} (h : FrM M a b) {p : Addr} (hp : ∀ o, M p.block o) (v : Value) : FrM M a (b.setCell p v) :=
  ⟨h.os, h.tape, h.output, by rw [size_setCell]; exact h.size, fun i x hi hm => by
    rw [blk_setCell_other (by intro e; subst e; exact hm (hp x))]; exact h.block i x hi hm⟩
theorem FrM.grownBy {a b : World} {r : Option Nat} (h : a.grownBy b r) : FrM (fun i _ => some i = r) a b :=
  ⟨h.os, h.tape, h.output, h.size, fun i o hi hm => by rw [h.block i (ltOf hi) hm]; exact hi⟩
theorem one_new {w : World} {x : Value} {t : TypeId} {b : Nat} (hb : b = w.heap.size) : ∀ (j : Nat) (u : Value), [x][j]? = some u → (w.alloc (.cells #[x] t)).cell? ((⟨b, 0, none⟩ : Addr).add j) = some u := by
  subst hb
  intro j u hj
  cases j with
  | zero =>
    simp at hj; subst hj
    exact cellOf (o := 0) (blk_alloc_new w _) rfl
  | succ j => simp at hj
theorem one_newD {w : World} {x : Value} {t : TypeId} {b : Nat} (hb : b = w.heap.size) : ∀ (j : Nat) (u : Value), [x][j]? = some u → (w.alloc (.cells #[x] t)).drew.cell? ((⟨b, 0, none⟩ : Addr).add j) = some u := one_new hb
theorem own_allocD {w : World} {base : Nat} {e : TypeId} {size : Nat} {v : Value} {n : Nat} {xs : List Value} (h : w.ownsRow base e size v n xs) (o : Obj) : (w.alloc o).drew.ownsRow base e size v n xs := h.alloc o
abbrev Ext (w w' : World) : Prop := FrM (fun _ _ => False) w w'
theorem FrM.ext {w w' : World} (h : Ext w w') (b : Nat) (o : Obj) (hb : w.heap[b]? = some o) : w'.heap[b]? = some o := h.block b o hb id
theorem FrM.toM {M : Nat → Obj → Prop} {w w' : World} (h : Ext w w') : FrM M w w' := h.mono fun _ _ _ h => h.elim
theorem own_succ {W : World} {base : Nat} {e : TypeId} {size : Nat} {v : Value} {k : Nat} {xs : List Value} (h : W.ownsRow base e size v (k + 1) xs) : ∃ g cap, v = .slice (some ⟨g, 0, none⟩) (k + 1) cap := by
  rcases h.2 with ⟨_, h0⟩ | ⟨g, cap, _, rfl, _⟩
  · omega
  · exact ⟨g, cap, rfl⟩
theorem own_base {w : World} {base base' : Nat} {e : TypeId} {size : Nat} {v : Value} {n : Nat} {xs : List Value} (h : w.ownsRow base e size v n xs) (hb : base' ≤ base) : w.ownsRow base' e size v n xs := by
  obtain ⟨h1, h2 | ⟨g, cap, cur, e1, e2, r⟩⟩ := h
  · exact ⟨h1, .inl h2⟩
  · exact ⟨h1, .inr ⟨g, cap, cur, e1, Nat.le_trans hb e2, r⟩⟩
theorem run_append_own2 {P : Program} (w : World) (base : Nat) (t ty e : TypeId) (i : TypeInfo) (z : Value) (size bytes : Nat) (ht : P.underlying t = some (.slice e)) (hi : P.info? e = some i) (hz : i.zero = some z)
    (hsize : i.size = size) (hby : i.bytes = bytes) (hzs : z.cells.size = size) (hsz : 0 < size)
    (v : Value) (n : Nat) (xs : List Value) (hown : w.ownsRow base e size v n xs)
    (a : Addr) (m c : Nat) (news : List Value) (hl : news.length = m * size) (hnews : ∀ j u, news[j]? = some u → w.cell? (a.add j) = some u) (h1 : ∀ u ∈ news, u.oneCell' = true)
    (h63 : n + m ≤ maxLen) (hbytes : (n + m) * bytes ≤ 140737488355328) (hbase : base ≤ w.heap.size) :
    ∃ v' w', (Builtin.append_ #[t, t] ty #[v, .slice (some a) m c]).run P w = .ok v' w' ∧ w'.ownsRow base e size v' (n + m) (xs ++ news) ∧ w.grownBy w' v.ownBlock ∧
      (v'.ownBlock = v.ownBlock ∨ ∀ k, v'.ownBlock = some k → w.heap.size ≤ k) := by
  have hown' := hown
  rcases hown.2 with ⟨rfl, rfl⟩ | ⟨g, cap, cur, rfl, hbg, hg, hnc, hcm, hcs, htake⟩
  · have hx : xs = [] := List.eq_nil_of_length_eq_zero (by simpa using hown.1)
    subst hx
    obtain ⟨v', w', r1, r2, r3, _⟩ := run_append_own (P := P) w w.heap.size t ty e i z size bytes ht hi hz hsize hby hzs hsz _ 0 [] (World.ownsRow_nil _ _ _ _) a m c news hl hnews h1 h63 hbytes (Nat.le_refl _)
    exact ⟨v', w', r1, own_base r2 hbase, r3, .inr fun k hk => (r2.lt k hk).1⟩
  · by_cases hf : n + m ≤ cap
    · obtain ⟨w', r1, r2, r3⟩ := run_append_fits (P := P) w base t ty e i size ht hi hsize g n cap xs hown' a m c news hl hnews h1 hf
      exact ⟨_, w', r1, r2, r3, .inl rfl⟩
    · obtain ⟨v', w', r1, r2, r3⟩ := run_append_arg_grows (P := P) w t ty e i z size bytes ht hi hz hsize hby hzs hsz ⟨g, 0, none⟩ n cap xs hown.1 (hown'.cells rfl) a m c news hl hnews (by omega) h63 hbytes
      exact ⟨v', w', r1, own_base r2 hbase, ⟨r3.os, r3.tape, r3.output, r3.size, fun k hk _ => r3.block k hk (by simp)⟩, .inr fun k hk => (r2.lt k hk).1⟩
theorem step_append_own {P : Program} {ops : Array Oper} {o : Oper} {a : Act} {w : World} {K : Act → World → Prop} {Q : Exit → Act → World → Prop} {E : Prop}
    (hg : o.guard = none) (s x : Operand) (t : TypeId)
    (ho : o.op = .call { callee := .builtin .append, args := #[s, x], argTypes := #[t, t] })
    (base : Nat) (e : TypeId) (i : TypeInfo) (z : Value) (size bytes : Nat) (ht : P.underlying t = some (.slice e)) (hi : P.info? e = some i) (hz : i.zero = some z)
    (hsize : i.size = size) (hby : i.bytes = bytes) (hzs : z.cells.size = size) (hsz : 0 < size)
    (v : Value) (n : Nat) (xs : List Value) (hs : a.eval s = v) (hown : w.ownsRow base e size v n xs)
    (ad : Addr) (m c : Nat) (news : List Value) (hx : a.eval x = .slice (some ad) m c) (hl : news.length = m * size) (hnews : ∀ j u, news[j]? = some u → w.cell? (ad.add j) = some u) (h1 : ∀ u ∈ news, u.oneCell' = true)
    (h63 : n + m ≤ maxLen) (hbytes : (n + m) * bytes ≤ 140737488355328) (hbase : base ≤ w.heap.size)
    (h : ∀ v' w', w'.ownsRow base e size v' (n + m) (xs ++ news) → w.grownBy w' v.ownBlock → (v'.ownBlock = v.ownBlock ∨ ∀ k, v'.ownBlock = some k → w.heap.size ≤ k) → K (a.put o.dst v') w') :
    if Region.wanted o (yielded ops a.tmps) = true then Oper.wp P o a w K Q else E := by
  rw [if_pos (by simp [Region.wanted, hg])]
  obtain ⟨v', w', hr, h2, h3, h4⟩ := run_append_own2 (P := P) w base t o.type e i z size bytes ht hi hz hsize hby hzs hsz v n xs hown ad m c news hl hnews h1 h63 hbytes hbase
  unfold Oper.wp execOp
  simp only [ho, resolve, invoke, builtin, Sem.run_bind, Sem.run_pure, Result.andThen_ok, List.map_toArray, List.map_cons, List.map_nil, hs, hx, hr]
  exact h v' w' h2 h3 h4
theorem wpList_append_own2 {P : Program} {w : World} {ops : Array Oper} {rest : List Oper} {o : Oper} {a : Act} {Q : Exit → Act → World → Prop} (hgd : o.guard = none) (s x : Operand) (t : TypeId)
    (ho : o.op = .call { callee := .builtin .append, args := #[s, x], argTypes := #[t, t] })
    (base : Nat) (e : TypeId) (i : TypeInfo) (z : Value) (size bytes : Nat) (ht : P.underlying t = some (.slice e)) (hi : P.info? e = some i) (hz : i.zero = some z)
    (hsize : i.size = size) (hby : i.bytes = bytes) (hzs : z.cells.size = size) (hsz : 0 < size)
    (v : Value) (n : Nat) (xs : List Value) (hs : a.eval s = v) (hown : w.ownsRow base e size v n xs)
    (ad : Addr) (m c : Nat) (news : List Value) (hx : a.eval x = .slice (some ad) m c) (hl : news.length = m * size) (hnews : ∀ j u, news[j]? = some u → w.cell? (ad.add j) = some u) (h1 : ∀ u ∈ news, u.oneCell' = true)
    (h63 : n + m ≤ maxLen) (hbytes : (n + m) * bytes ≤ 140737488355328) (hbase : base ≤ w.heap.size)
    (h : ∀ v' w', w'.ownsRow base e size v' (n + m) (xs ++ news) → w.grownBy w' v.ownBlock → (v'.ownBlock = v.ownBlock ∨ ∀ k, v'.ownBlock = some k → w.heap.size ≤ k) → wpList P ops Q rest (a.put o.dst v') w') : wpList P ops Q (o :: rest) a w :=
  wpList_plain hgd fun K hK => by
    obtain ⟨v', w', hr, h2, h3, h4⟩ := run_append_own2 (P := P) w base t o.type e i z size bytes ht hi hz hsize hby hzs hsz v n xs hown ad m c news hl hnews h1 h63 hbytes hbase
    unfold Oper.wp execOp
    simp only [ho, resolve, invoke, builtin, Sem.run_bind, Sem.run_pure, Result.andThen_ok, List.map_toArray, List.map_cons, List.map_nil, hs, hx, hr]
    exact hK _ _ (h v' w' h2 h3 h4)
theorem exists_least {p : Nat → Prop} : ∀ n, p n → ∃ m, p m ∧ ∀ k, p k → m ≤ k := by
  intro n
  induction n using Nat.strongRecOn with
  | _ n ih =>
    intro hn
    by_cases h : ∃ k, k < n ∧ p k
    · obtain ⟨k, hk, hp⟩ := h
      exact ih k hk hp
    · exact ⟨n, hn, fun k hk => Nat.le_of_not_lt fun hlt => h ⟨k, hlt, hk⟩⟩
open Classical in
noncomputable def least (I : Nat → Act → World → Prop) (a : Act) (w : World) : Nat :=
  if h : ∃ n, I n a w then Classical.choose (exists_least (p := fun n => I n a w) _ (Classical.choose_spec h)) else 0
theorem least_spec {I : Nat → Act → World → Prop} {a : Act} {w : World} (h : ∃ n, I n a w) : I (least I a w) a w := by
  unfold least; rw [dif_pos h]; exact (Classical.choose_spec (exists_least (p := fun n => I n a w) _ (Classical.choose_spec h))).1
theorem least_le {I : Nat → Act → World → Prop} {a : Act} {w : World} {n : Nat} (h : I n a w) : least I a w ≤ n := by
  unfold least; rw [dif_pos ⟨n, h⟩]; exact (Classical.choose_spec (exists_least (p := fun n => I n a w) _ (Classical.choose_spec (⟨n, h⟩ : ∃ n, I n a w)))).2 n h
theorem wp_loop_ghost {P : Program} {Q : Exit → Act → World → Prop} {a : Act} {w : World} {c : Code} (I : Nat → Act → World → Prop) (h₀ : ∃ n, I n a w)
    (round : ∀ n a w, I n a w → c.wp P (Exit.then (fun a' w' => ∃ m, m < n ∧ I m a' w') Q) a w) : (Code.loop c).wp P Q a w :=
  wp_loop (fun a w => ∃ n, I n a w) (least I) h₀ fun a w h =>
    wp_mono (round _ a w (least_spec h)) fun e a' w' hq => by
      cases e with
      | normal => obtain ⟨m, hm, hi⟩ := hq; exact ⟨⟨m, hi⟩, Nat.lt_of_le_of_lt (least_le hi) hm⟩
      | _ => exact hq
theorem wp_scope_ghost {P : Program} {Q : Exit → Act → World → Prop} {a : Act} {w : World} {c rest : Code} (l : Nat) (J : Nat → Act → World → Prop) (hf : findLabel c l = some rest)
    (first : c.wp P (Exit.jump l (fun a w => ∃ n, J n a w) Q) a w)
    (pass : ∀ n a w, J n a w → rest.wp P (Exit.jump l (fun a' w' => ∃ m, m < n ∧ J m a' w') Q) a w) : (Code.scope c).wp P Q a w :=
  wp_scope_jumps l (fun a w => ∃ n, J n a w) (least J) hf first fun a w h =>
    wp_mono (pass _ a w (least_spec h)) fun e a' w' hq => by
      cases e with
      | goto l' => obtain ⟨e, m, hm, hi⟩ := hq; exact ⟨e, ⟨m, hi⟩, Nat.lt_of_le_of_lt (least_le hi) hm⟩
      | _ => exact hq
theorem wp_scope_ghost2 {P : Program} {Q : Exit → Act → World → Prop} {a : Act} {w : World} {c rest : Code} (l : Nat) (J : Nat → Act → World → Prop) (hf : findLabel c l = some rest)
    (first : (∀ n a w, J n a w → rest.wp P (Exit.jump l (fun a w => ∃ n, J n a w) Q) a w) → c.wp P (Exit.jump l (fun a w => ∃ n, J n a w) Q) a w)
    (pass : ∀ n a w, J n a w → rest.wp P (Exit.jump l (fun a' w' => ∃ m, m < n ∧ J m a' w') Q) a w) : (Code.scope c).wp P Q a w :=
  wp_scope_ghost l J hf (first fun n a w h => wp_mono (pass n a w h) fun e a' w' hq => by
    cases e with
    | goto l' => obtain ⟨e, m, _, hi⟩ := hq; exact ⟨e, m, hi⟩
    | _ => exact hq) pass
theorem jump_ret {l : Nat} {J : Act → World → Prop} {Q : Exit → Act → World → Prop} {a : Act} {w : World} : Exit.jump l J Q .ret a w = Q .ret a w := rfl
abbrev bs (l : P.Bs) : ByteArray := ⟨l.toArray⟩
end Go.Proofs.YtkmpelgfhjgddaaGreatDoor
