/- A part of one proof (Pure, PureM, PureB, PureH, PureN, PureL, PureL2, PureF); no conditions beyond what each theorem names. -/
set_option linter.all false
set_option linter.unusedVariables false
set_option linter.unusedSimpArgs false
namespace Go.Proofs.YtkmpelgfhjgddaaGreatDoor.P
abbrev Bs := List UInt8
structure Tok where
  kind : Nat
  text : Bs
  pos : Nat
deriving Repr, DecidableEq, Inhabited
inductive Ex where
  | mk (kind : Nat) (name : Bs) (n : Int) (k : Nat) (args : List Ex)
deriving Inhabited
inductive Bd where
  | mk (kind : Nat) (name : Bs) (args : List Ex) (parts : List Bd)
deriving Inhabited
structure Cl where
  name : Bs
  args : List Ex
  body : Bd
  vars : List Bs
deriving Inhabited
def Ex.kind : Ex → Nat | .mk k _ _ _ _ => k
def Ex.name : Ex → Bs | .mk _ s _ _ _ => s
def Ex.args : Ex → List Ex | .mk _ _ _ _ l => l
def Bd.kind : Bd → Nat | .mk k _ _ _ => k
def Bd.parts : Bd → List Bd | .mk _ _ _ l => l
def cls (c : UInt8) : Nat :=
  if 97 ≤ c.toNat ∧ c.toNat ≤ 122 then 115
  else if (65 ≤ c.toNat ∧ c.toNat ≤ 90) ∨ c.toNat = 95 then 99
  else if 48 ≤ c.toNat ∧ c.toNat ≤ 57 then 100 else 0
def digit (c : UInt8) : Bool := decide (48 ≤ c.toNat ∧ c.toNat ≤ 57)
def num (s : Bs) : Int := s.foldl (fun v c => 10 * v + ((c.toNat : Int) - 48)) 0
def wordKind (w : Bs) : Nat :=
  match w with
  | [] => 0
  | c :: r =>
    if cls c = 115 then (if w.length ≤ 8 then 1 else 0)
    else if cls c = 99 then (if w.length ≤ 8 then 2 else 0)
    else if w.length ≤ 9 ∧ w.all digit = true ∧ (c ≠ 48 ∨ r = []) then 3 else 0
def signs : List Bs := [[61,58,61],[58,45],[45,62],[92,43],[92,61],[61,61],[61,60],[62,61],[47,47],[40],[41],[91],[93],[44],[124],[59],[33],[61],[60],[62],[43],[45],[42]]
def blank (c : UInt8) : Bool := c == 32 || c == 10
def endsB : Bs → Bool
  | [] => true
  | d :: _ => blank d
def lexGo : Nat → Bs → Nat → Option (Sum Nat (List Tok))
  | 0, _, _ => none
  | _ + 1, [], i => some (.inr [⟨0, [], i⟩])
  | f + 1, c :: r, i =>
    if blank c then lexGo f r (i + 1)
    else if cls c ≠ 0 then
      let w := (c :: r).takeWhile (fun x => cls x ≠ 0)
      if wordKind w = 0 then some (.inl i)
      else match lexGo f ((c :: r).drop w.length) (i + w.length) with
        | some (.inr l) => some (.inr (⟨wordKind w, w, i⟩ :: l))
        | x => x
    else if c = 46 ∧ endsB r = true then
      match lexGo f r (i + 1) with
      | some (.inr l) => some (.inr (⟨4, [46], i⟩ :: l))
      | x => x
    else match signs.find? (fun s => s.isPrefixOf (c :: r)) with
      | none => some (.inl i)
      | some s => match lexGo f ((c :: r).drop s.length) (i + s.length) with
        | some (.inr l) => some (.inr (⟨4, s, i⟩ :: l))
        | x => x
inductive Res (α : Type) where
  | ok (a : α) (k : Nat) (vars : List Bs)
  | err (e at_ : Nat)
deriving Inhabited
def tk (T : List Tok) (k : Nat) : Tok := T.getD k ⟨0, [], 0⟩
def isT (T : List Tok) (k : Nat) (s : Bs) : Bool := ((tk T k).kind == 4 || (tk T k).kind == 1) && (tk T k).text == s
def Res.bind {α β : Type} (r : Option (Res α)) (g : α → Nat → List Bs → Option (Res β)) : Option (Res β) :=
  match r with
  | none => none
  | some (.err e a) => some (.err e a)
  | some (.ok a k v) => g a k v
def musT {α : Type} (T : List Tok) (s : Bs) (x : α) (k : Nat) (vars : List Bs) : Option (Res α) :=
  if isT T k s then some (.ok x (k + 1) vars) else some (.err 2 (tk T k).pos)
def maxVars : Nat := 12
def maxDepth : Nat := 8
def maxArity : Nat := 4
def pVar (t : Tok) (k : Nat) (vars : List Bs) : Res Ex :=
  match (if t.text = [95] then none else vars.idxOf? t.text) with
  | some j => .ok (.mk 118 [] 0 j []) k vars
  | none => if vars.length = maxVars then .err 4 t.pos else .ok (.mk 118 [] 0 vars.length []) k (vars ++ [t.text])
def ops (lvl : Nat) : List Bs := if lvl = 0 then [[43], [45]] else [[42], [47, 47], [109, 111, 100]]
def opAt (T : List Tok) (lvl k : Nat) : Option Bs := (ops lvl).find? (isT T k)
def mkList (all : List Ex) (x : Ex) : Ex := all.foldr (fun a x => .mk 99 [46] 0 0 [a, x]) x
def tests (name : Bs) : Int :=
  if name ∈ [[116,114,117,101], [102,97,105,108]] then 0
  else if name ∈ [[118,97,114], [110,111,110,118,97,114], [97,116,111,109], [105,110,116,101,103,101,114]] then 1
  else if name ∈ [[61], [92,61], [61,61], [105,115], [60], [62], [61,60], [62,61], [61,58,61]] then 2 else -1
def compares : List Bs := [[61], [92,61], [61,61], [105,115], [60], [62], [61,60], [62,61], [61,58,61]]
def cmpAt (T : List Tok) (k : Nat) : Option Bs := compares.find? (isT T k)
def noGoal (x : Ex) : Bool :=
  (x.kind != 97 && x.kind != 99) || (x.name == [46] || x.name == [91, 93] || (match x.name with | [] => true | c :: _ => cls c != 115)) || (x.name == [109, 111, 100] && x.args.length == 2)
def failB : Bd := .mk 103 [102,97,105,108] [] []
def trueB : Bd := .mk 103 [116,114,117,101] [] []
mutual
def pPrim (T : List Tok) : Nat → Nat → List Bs → Nat → Option (Res Ex)
  | 0, _, _, _ => none
  | f + 1, k, vars, d =>
    if maxDepth < d + 1 then some (.err 4 (tk T k).pos)
    else if (tk T k).kind = 3 then some (.ok (.mk 110 [] (num (tk T k).text) 0 []) (k + 1) vars)
    else if (tk T k).kind = 2 then some (pVar (tk T k) (k + 1) vars)
    else if (tk T k).kind = 1 then
      if isT T (k + 1) [40] then
        Res.bind (pArgs T f (k + 2) vars (d + 1) (tk T k).pos []) fun l k' vars' => musT T [41] (.mk 99 (tk T k).text 0 0 l) k' vars'
      else some (.ok (.mk 97 (tk T k).text 0 0 []) (k + 1) vars)
    else if isT T k [45] then
      if (tk T (k + 1)).kind = 3 then some (.ok (.mk 110 [] (- num (tk T (k + 1)).text) 0 []) (k + 2) vars)
      else some (.err 2 (tk T (k + 1)).pos)
    else if isT T k [40] then Res.bind (pOper T f 0 (k + 1) vars (d + 1)) fun x k' vars' => musT T [41] x k' vars'
    else if isT T k [91] then pList T f (k + 1) vars (d + 1)
    else some (.err 2 (tk T k).pos)
  termination_by structural f => f
def pArgs (T : List Tok) : Nat → Nat → List Bs → Nat → Nat → List Ex → Option (Res (List Ex))
  | 0, _, _, _, _, _ => none
  | f + 1, k, vars, d, at_, acc =>
    Res.bind (pOper T f 0 k vars d) fun x k' vars' =>
      if isT T k' [44] then pArgs T f (k' + 1) vars' d at_ (acc ++ [x])
      else if maxArity < (acc ++ [x]).length then some (.err 4 at_) else some (.ok (acc ++ [x]) k' vars')
  termination_by structural f => f
def pList (T : List Tok) : Nat → Nat → List Bs → Nat → Option (Res Ex)
  | 0, _, _, _ => none
  | f + 1, k, vars, d =>
    if isT T k [93] then some (.ok (.mk 97 [91, 93] 0 0 []) (k + 1) vars)
    else Res.bind (pElems T f k vars d []) fun all k' vars' =>
      if isT T k' [124] then Res.bind (pOper T f 0 (k' + 1) vars' d) fun x k'' vars'' => musT T [93] (mkList all x) k'' vars''
      else musT T [93] (mkList all (.mk 97 [91, 93] 0 0 [])) k' vars'
  termination_by structural f => f
def pElems (T : List Tok) : Nat → Nat → List Bs → Nat → List Ex → Option (Res (List Ex))
  | 0, _, _, _, _ => none
  | f + 1, k, vars, d, acc =>
    Res.bind (pOper T f 0 k vars d) fun x k' vars' =>
      if isT T k' [44] then pElems T f (k' + 1) vars' d (acc ++ [x]) else some (.ok (acc ++ [x]) k' vars')
  termination_by structural f => f
def pOper (T : List Tok) : Nat → Nat → Nat → List Bs → Nat → Option (Res Ex)
  | 0, _, _, _, _ => none
  | f + 1, lvl, k, vars, d =>
    if lvl = 2 then pPrim T f k vars d
    else Res.bind (pOper T f (lvl + 1) k vars d) fun x k' vars' => pMore T f lvl x k' vars' d
  termination_by structural f => f
def pMore (T : List Tok) : Nat → Nat → Ex → Nat → List Bs → Nat → Option (Res Ex)
  | 0, _, _, _, _, _ => none
  | f + 1, lvl, x, k, vars, d =>
    match opAt T lvl k with
    | none => some (.ok x k vars)
    | some o => Res.bind (pOper T f (lvl + 1) (k + 1) vars d) fun y k' vars' => pMore T f lvl (.mk 99 o 0 0 [x, y]) k' vars' d
  termination_by structural f => f
end
mutual
def pLit (T : List Tok) : Nat → Nat → List Bs → Nat → Option (Res Bd)
  | 0, _, _, _ => none
  | f + 1, k, vars, d =>
    if maxDepth < d + 1 then some (.err 4 (tk T k).pos)
    else if isT T k [33] then some (.ok (.mk 33 [] [] []) (k + 1) vars)
    else if isT T k [92, 43] then Res.bind (pLit T f (k + 1) vars (d + 1)) fun b k' vars' => some (.ok (.mk 126 [] [] [b]) k' vars')
    else if isT T k [40] then Res.bind (pBody T f (k + 1) vars (d + 1)) fun b k' vars' => musT T [41] b k' vars'
    else Res.bind (pOper T f 0 k vars (d + 1)) fun x k' vars' =>
      match cmpAt T k' with
      | some c => Res.bind (pOper T f 0 (k' + 1) vars' (d + 1)) fun y k'' vars'' => some (.ok (.mk 103 c [x, y] []) k'' vars'')
      | none =>
        if noGoal x then some (.err 2 (tk T k).pos)
        else if 0 ≤ tests x.name ∧ tests x.name ≠ x.args.length then some (.err 3 (tk T k).pos)
        else some (.ok (.mk 103 x.name x.args []) k' vars')
  termination_by structural f => f
def pLits (T : List Tok) : Nat → Nat → List Bs → Nat → List Bd → Option (Res (List Bd))
  | 0, _, _, _, _ => none
  | f + 1, k, vars, d, acc =>
    Res.bind (pLit T f k vars d) fun b k' vars' =>
      if isT T k' [44] then pLits T f (k' + 1) vars' d (acc ++ [b]) else some (.ok (acc ++ [b]) k' vars')
  termination_by structural f => f
def pRow (T : List Tok) : Nat → Nat → List Bs → Nat → Option (Res Bd)
  | 0, _, _, _ => none
  | f + 1, k, vars, d =>
    Res.bind (pLits T f k vars d []) fun l k' vars' => some (.ok (match l with | [b] => b | _ => .mk 44 [] [] l) k' vars')
  termination_by structural f => f
def pRest (T : List Tok) : Nat → Nat → List Bs → Nat → Option (Res Bd)
  | 0, _, _, _ => none
  | f + 1, k, vars, d => if maxDepth < d + 1 then some (.err 4 (tk T k).pos) else pBody T f k vars (d + 1)
  termination_by structural f => f
def pBody (T : List Tok) : Nat → Nat → List Bs → Nat → Option (Res Bd)
  | 0, _, _, _ => none
  | f + 1, k, vars, d =>
    Res.bind (pRow T f k vars d) fun a k1 v1 =>
      if isT T k1 [45, 62] then
        Res.bind (pRow T f (k1 + 1) v1 d) fun b k2 v2 =>
          if isT T k2 [59] then Res.bind (pRest T f (k2 + 1) v2 d) fun c k3 v3 => some (.ok (.mk 63 [] [] [a, b, c]) k3 v3)
          else some (.ok (.mk 63 [] [] [a, b, failB]) k2 v2)
      else if isT T k1 [59] then Res.bind (pRest T f (k1 + 1) v1 d) fun b k2 v2 => some (.ok (.mk 59 [] [] [a, b]) k2 v2)
      else some (.ok a k1 v1)
  termination_by structural f => f
end
def pTail (T : List Tok) (f : Nat) (name : Bs) (args : List Ex) (at_ k : Nat) (vars : List Bs) : Option (Res Cl) :=
  if 0 ≤ tests name ∨ name = [109, 111, 100] then some (.err 3 at_)
  else if isT T k [58, 45] then
    Res.bind (pBody T f (k + 1) vars 0) fun b k' vars' => musT T [46] ⟨name, args, b, vars'⟩ k' vars'
  else musT T [46] ⟨name, args, trueB, vars⟩ k vars
def pClause (T : List Tok) (f k : Nat) : Option (Res Cl) :=
  if (tk T k).kind = 1 then
    if isT T (k + 1) [40] then
      Res.bind (pArgs T f (k + 2) [] 0 (tk T k).pos []) fun l k' vars' =>
        Res.bind (musT T [41] l k' vars') fun l k'' vars'' => pTail T f (tk T k).text l (tk T k).pos k'' vars''
    else pTail T f (tk T k).text [] (tk T k).pos (k + 1) []
  else some (.err 2 (tk T k).pos)
def pProg (T : List Tok) : Nat → Nat → List Cl → Option (Res (List Cl))
  | 0, _, _ => none
  | f + 1, k, acc =>
    if (tk T k).kind = 0 then some (.ok acc k [])
    else if acc.length = 40 then some (.err 4 (tk T k).pos)
    else Res.bind (pClause T f k) fun c k' _ => pProg T f k' (acc ++ [c])
def pTerm (T : List Tok) (f : Nat) : Option (Res (Ex × List Bs)) :=
  Res.bind (pOper T f 0 0 [] 0) fun x k vars => if (tk T k).kind = 0 then some (.ok (x, vars) k vars) else some (.err 2 (tk T k).pos)
def pQuestion (T : List Tok) (f : Nat) : Option (Res Cl) :=
  Res.bind (pBody T f 0 [] 0) fun b k vars =>
    Res.bind (musT T [46] b k vars) fun b k vars => if (tk T k).kind = 0 then some (.ok ⟨[], [], b, vars⟩ k vars) else some (.err 2 (tk T k).pos)
theorem find_none_of {l : List Bs} {q : Bs → Bool} (h : ∀ j, j < l.length → q (l.getD j []) = false) : l.find? q = none := by
  rw [List.find?_eq_none]
  intro x hx
  obtain ⟨j, hj, e⟩ := List.getElem_of_mem hx
  have := h j hj
  rw [List.getD_eq_getElem?_getD, List.getElem?_eq_getElem hj, Option.getD_some, e] at this
  rw [this]; decide
theorem find_some_of : ∀ {l : List Bs} {q : Bs → Bool} {j : Nat}, j < l.length → q (l.getD j []) = true → (∀ j', j' < j → q (l.getD j' []) = false) → l.find? q = some (l.getD j [])
  | [], _, _, h, _, _ => absurd h (Nat.not_lt_zero _)
  | x :: l, q, 0, _, h, _ => by
    simp only [List.getD_cons_zero] at h ⊢
    rw [List.find?_cons_of_pos h]
  | x :: l, q, j + 1, hj, h, hno => by
    have h0 := hno 0 (by omega)
    simp only [List.getD_cons_zero] at h0
    simp only [List.getD_cons_succ] at h ⊢
    rw [List.find?_cons_of_neg (by rw [h0]; decide)]
    exact find_some_of (by simpa using hj) h fun j' h' => by
      have := hno (j' + 1) (by omega)
      simpa only [List.getD_cons_succ] using this
theorem num_snoc (s : Bs) (c : UInt8) : num (s ++ [c]) = 10 * num s + ((c.toNat : Int) - 48) := by
  simp [num, List.foldl_append]
theorem num_bound_pow : ∀ (n : Nat) (s : Bs), s.length = n → s.all digit = true → 0 ≤ num s ∧ num s + 1 ≤ (10 : Int) ^ n
  | 0, s, h, _ => by
    have : s = [] := List.length_eq_zero_iff.1 h
    subst this
    simp [num]
  | n + 1, s, h, hd => by
    obtain ⟨l, c, rfl⟩ : ∃ l c, s = l ++ [c] := ⟨s.dropLast, s.getLast (by intro e; subst e; cases h), (List.dropLast_concat_getLast _).symm⟩
    simp only [List.all_append, List.all_cons, List.all_nil, Bool.and_true, Bool.and_eq_true, digit, decide_eq_true_eq] at hd
    have hl : l.length = n := by simpa using h
    obtain ⟨a, b⟩ := num_bound_pow n l hl hd.1
    rw [num_snoc, Int.pow_succ]
    omega
theorem num_bound {s : Bs} (hd : s.all digit = true) (hl : s.length ≤ 9) : 0 ≤ num s ∧ num s ≤ 999999999 := by
  obtain ⟨a, b⟩ := num_bound_pow s.length s rfl hd
  refine ⟨a, ?_⟩
  have : (10 : Int) ^ s.length ≤ 10 ^ 9 := by
    obtain h | h | h | h | h | h | h | h | h | h : s.length = 0 ∨ s.length = 1 ∨ s.length = 2 ∨ s.length = 3 ∨ s.length = 4 ∨ s.length = 5 ∨ s.length = 6 ∨ s.length = 7 ∨ s.length = 8 ∨ s.length = 9 := by omega
    all_goals rw [h]; decide
  have e : (10 : Int) ^ 9 = 1000000000 := by decide
  omega
end Go.Proofs.YtkmpelgfhjgddaaGreatDoor.P
namespace Go.Proofs.YtkmpelgfhjgddaaGreatDoor.P
theorem bind_ok {α β : Type} {r : Option (Res α)} {g : α → Nat → List Bs → Option (Res β)} {b : β} {k : Nat} {v : List Bs}
    (h : Res.bind r g = some (.ok b k v)) : ∃ a k1 v1, r = some (.ok a k1 v1) ∧ g a k1 v1 = some (.ok b k v) := by
  unfold Res.bind at h
  split at h
  · cases h
  · cases h
  · rename_i a k1 v1
    exact ⟨a, k1, v1, rfl, h⟩
theorem musT_ok {α : Type} {T : List Tok} {s : Bs} {x y : α} {k k' : Nat} {v v' : List Bs} (h : musT T s x k v = some (.ok y k' v')) : k' = k + 1 ∧ y = x ∧ v' = v := by
  unfold musT at h
  split at h
  · simp only [Option.some.injEq, Res.ok.injEq] at h
    exact ⟨h.2.1.symm, h.1.symm, h.2.2.symm⟩
  · simp at h
theorem pVar_k {t : Tok} {k k' : Nat} {v v' : List Bs} {x : Ex} (h : pVar t k v = .ok x k' v') : k' = k := by
  unfold pVar at h
  split at h
  · injection h with _ h _; exact h.symm
  · split at h
    · cases h
    · injection h with _ h _; exact h.symm
structure Mono (T : List Tok) (f : Nat) : Prop where
  prim : ∀ k v d x k' v', pPrim T f k v d = some (.ok x k' v') → k < k'
  args : ∀ k v d a acc x k' v', pArgs T f k v d a acc = some (.ok x k' v') → k < k'
  list : ∀ k v d x k' v', pList T f k v d = some (.ok x k' v') → k < k'
  elems : ∀ k v d acc x k' v', pElems T f k v d acc = some (.ok x k' v') → k < k'
  oper : ∀ l k v d x k' v', pOper T f l k v d = some (.ok x k' v') → k < k'
  more : ∀ l y k v d x k' v', pMore T f l y k v d = some (.ok x k' v') → k ≤ k'
theorem mono (T : List Tok) : ∀ f, Mono T f
  | 0 => ⟨by intros; simp [pPrim] at *, by intros; simp [pArgs] at *, by intros; simp [pList] at *, by intros; simp [pElems] at *, by intros; simp [pOper] at *, by intros; simp [pMore] at *⟩
  | f + 1 => by
    have ih := mono T f
    refine ⟨?_, ?_, ?_, ?_, ?_, ?_⟩
    · intro k v d x k' v' h
      rw [pPrim] at h
      split at h
      · simp at h
      split at h
      · simp only [Option.some.injEq, Res.ok.injEq] at h; omega
      split at h
      · simp only [Option.some.injEq] at h; have := pVar_k h; omega
      split at h
      · split at h
        · obtain ⟨a, k1, v1, h1, h2⟩ := bind_ok h
          have := ih.args _ _ _ _ _ _ _ _ h1
          have := (musT_ok h2).1
          omega
        · simp only [Option.some.injEq, Res.ok.injEq] at h; omega
      split at h
      · split at h
        · simp only [Option.some.injEq, Res.ok.injEq] at h; omega
        · simp at h
      split at h
      · obtain ⟨a, k1, v1, h1, h2⟩ := bind_ok h
        have := ih.oper _ _ _ _ _ _ _ h1
        have := (musT_ok h2).1
        omega
      split at h
      · have := ih.list _ _ _ _ _ _ h; omega
      · simp at h
    · intro k v d a acc x k' v' h
      rw [pArgs] at h
      obtain ⟨y, k1, v1, h1, h2⟩ := bind_ok h
      have := ih.oper _ _ _ _ _ _ _ h1
      split at h2
      · have := ih.args _ _ _ _ _ _ _ _ h2; omega
      · split at h2
        · simp at h2
        · simp only [Option.some.injEq, Res.ok.injEq] at h2; omega
    · intro k v d x k' v' h
      rw [pList] at h
      split at h
      · simp only [Option.some.injEq, Res.ok.injEq] at h; omega
      · obtain ⟨y, k1, v1, h1, h2⟩ := bind_ok h
        have := ih.elems _ _ _ _ _ _ _ h1
        split at h2
        · obtain ⟨z, k2, v2, h3, h4⟩ := bind_ok h2
          have := ih.oper _ _ _ _ _ _ _ h3
          have := (musT_ok h4).1
          omega
        · have := (musT_ok h2).1; omega
    · intro k v d acc x k' v' h
      rw [pElems] at h
      obtain ⟨y, k1, v1, h1, h2⟩ := bind_ok h
      have := ih.oper _ _ _ _ _ _ _ h1
      split at h2
      · have := ih.elems _ _ _ _ _ _ _ h2; omega
      · simp only [Option.some.injEq, Res.ok.injEq] at h2; omega
    · intro l k v d x k' v' h
      rw [pOper] at h
      split at h
      · exact ih.prim _ _ _ _ _ _ h
      · obtain ⟨y, k1, v1, h1, h2⟩ := bind_ok h
        have := ih.oper _ _ _ _ _ _ _ h1
        have := ih.more _ _ _ _ _ _ _ _ h2
        omega
    · intro l y k v d x k' v' h
      rw [pMore] at h
      split at h
      · simp only [Option.some.injEq, Res.ok.injEq] at h; omega
      · obtain ⟨z, k1, v1, h1, h2⟩ := bind_ok h
        have := ih.oper _ _ _ _ _ _ _ h1
        have := ih.more _ _ _ _ _ _ _ _ h2
        omega
end Go.Proofs.YtkmpelgfhjgddaaGreatDoor.P
namespace Go.Proofs.YtkmpelgfhjgddaaGreatDoor.P
structure MonoB (T : List Tok) (f : Nat) : Prop where
  lit : ∀ k v d x k' v', pLit T f k v d = some (.ok x k' v') → k < k'
  lits : ∀ k v d acc x k' v', pLits T f k v d acc = some (.ok x k' v') → k < k'
  row : ∀ k v d x k' v', pRow T f k v d = some (.ok x k' v') → k < k'
  rest : ∀ k v d x k' v', pRest T f k v d = some (.ok x k' v') → k < k'
  body : ∀ k v d x k' v', pBody T f k v d = some (.ok x k' v') → k < k'
theorem monoB (T : List Tok) : ∀ f, MonoB T f
  | 0 => ⟨by intros; simp [pLit] at *, by intros; simp [pLits] at *, by intros; simp [pRow] at *, by intros; simp [pRest] at *, by intros; simp [pBody] at *⟩
  | f + 1 => by
    have ih := monoB T f
    have hm := mono T f
    refine ⟨?_, ?_, ?_, ?_, ?_⟩
    · intro k v d x k' v' h
      rw [pLit] at h
      split at h
      · simp at h
      split at h
      · simp only [Option.some.injEq, Res.ok.injEq] at h; omega
      split at h
      · obtain ⟨a, k1, v1, h1, h2⟩ := bind_ok h
        have := ih.lit _ _ _ _ _ _ h1
        simp only [Option.some.injEq, Res.ok.injEq] at h2; omega
      split at h
      · obtain ⟨a, k1, v1, h1, h2⟩ := bind_ok h
        have := ih.body _ _ _ _ _ _ h1
        have := (musT_ok h2).1
        omega
      obtain ⟨a, k1, v1, h1, h2⟩ := bind_ok h
      have := hm.oper _ _ _ _ _ _ _ h1
      split at h2
      · obtain ⟨b, k2, v2, h3, h4⟩ := bind_ok h2
        have := hm.oper _ _ _ _ _ _ _ h3
        simp only [Option.some.injEq, Res.ok.injEq] at h4; omega
      · split at h2
        · simp at h2
        · split at h2
          · simp at h2
          · simp only [Option.some.injEq, Res.ok.injEq] at h2; omega
    · intro k v d acc x k' v' h
      rw [pLits] at h
      obtain ⟨y, k1, v1, h1, h2⟩ := bind_ok h
      have := ih.lit _ _ _ _ _ _ h1
      split at h2
      · have := ih.lits _ _ _ _ _ _ _ h2; omega
      · simp only [Option.some.injEq, Res.ok.injEq] at h2; omega
    · intro k v d x k' v' h
      rw [pRow] at h
      obtain ⟨y, k1, v1, h1, h2⟩ := bind_ok h
      have := ih.lits _ _ _ _ _ _ _ h1
      simp only [Option.some.injEq, Res.ok.injEq] at h2; omega
    · intro k v d x k' v' h
      rw [pRest] at h
      split at h
      · simp at h
      · exact ih.body _ _ _ _ _ _ h
    · intro k v d x k' v' h
      rw [pBody] at h
      obtain ⟨a, k1, v1, h1, h2⟩ := bind_ok h
      have := ih.row _ _ _ _ _ _ h1
      split at h2
      · obtain ⟨b, k2, v2, h3, h4⟩ := bind_ok h2
        have := ih.row _ _ _ _ _ _ h3
        split at h4
        · obtain ⟨c, k3, v3, h5, h6⟩ := bind_ok h4
          have := ih.rest _ _ _ _ _ _ h5
          simp only [Option.some.injEq, Res.ok.injEq] at h6; omega
        · simp only [Option.some.injEq, Res.ok.injEq] at h4; omega
      · split at h2
        · obtain ⟨c, k3, v3, h5, h6⟩ := bind_ok h2
          have := ih.rest _ _ _ _ _ _ h5
          simp only [Option.some.injEq, Res.ok.injEq] at h6; omega
        · simp only [Option.some.injEq, Res.ok.injEq] at h2; omega
def whole : Bd → Prop
  | .mk kind _ _ parts => kind = 63 → parts.length = 3
structure WholeB (T : List Tok) (f : Nat) : Prop where
  lit : ∀ k v d x k' v', pLit T f k v d = some (.ok x k' v') → whole x
  lits : ∀ k v d acc x k' v', (∀ b ∈ acc, whole b) → pLits T f k v d acc = some (.ok x k' v') → (∀ b ∈ x, whole b) ∧ acc.length < x.length
  row : ∀ k v d x k' v', pRow T f k v d = some (.ok x k' v') → whole x
  rest : ∀ k v d x k' v', pRest T f k v d = some (.ok x k' v') → whole x
  body : ∀ k v d x k' v', pBody T f k v d = some (.ok x k' v') → whole x
theorem wholeB (T : List Tok) : ∀ f, WholeB T f
  | 0 => ⟨by intros; simp [pLit] at *, by intros; simp [pLits] at *, by intros; simp [pRow] at *, by intros; simp [pRest] at *, by intros; simp [pBody] at *⟩
  | f + 1 => by
    have ih := wholeB T f
    refine ⟨?_, ?_, ?_, ?_, ?_⟩
    · intro k v d x k' v' h
      rw [pLit] at h
      split at h
      · simp at h
      split at h
      · simp only [Option.some.injEq, Res.ok.injEq] at h; rw [← h.1]; simp [whole]
      split at h
      · obtain ⟨a, k1, v1, h1, h2⟩ := bind_ok h
        simp only [Option.some.injEq, Res.ok.injEq] at h2; rw [← h2.1]; simp [whole]
      split at h
      · obtain ⟨a, k1, v1, h1, h2⟩ := bind_ok h
        rw [(musT_ok h2).2.1]
        exact ih.body _ _ _ _ _ _ h1
      obtain ⟨a, k1, v1, h1, h2⟩ := bind_ok h
      split at h2
      · obtain ⟨b, k2, v2, h3, h4⟩ := bind_ok h2
        simp only [Option.some.injEq, Res.ok.injEq] at h4; rw [← h4.1]; simp [whole]
      · split at h2
        · simp at h2
        · split at h2
          · simp at h2
          · simp only [Option.some.injEq, Res.ok.injEq] at h2; rw [← h2.1]; simp [whole]
    · intro k v d acc x k' v' ha h
      rw [pLits] at h
      obtain ⟨y, k1, v1, h1, h2⟩ := bind_ok h
      have hy := ih.lit _ _ _ _ _ _ h1
      have ha' : ∀ b ∈ acc ++ [y], whole b := by
        intro b hb
        rcases List.mem_append.1 hb with hb | hb
        · exact ha b hb
        · simp at hb; subst hb; exact hy
      split at h2
      · have h3 := ih.lits _ _ _ _ _ _ _ ha' h2
        refine ⟨h3.1, ?_⟩
        have := h3.2
        simp at this
        omega
      · simp only [Option.some.injEq, Res.ok.injEq] at h2
        rw [← h2.1]
        exact ⟨ha', by simp⟩
    · intro k v d x k' v' h
      rw [pRow] at h
      obtain ⟨y, k1, v1, h1, h2⟩ := bind_ok h
      have h3 := (ih.lits _ _ _ _ _ _ _ (by simp) h1).1
      simp only [Option.some.injEq, Res.ok.injEq] at h2
      rw [← h2.1]
      split
      · exact h3 _ (by simp)
      · simp [whole]
    · intro k v d x k' v' h
      rw [pRest] at h
      split at h
      · simp at h
      · exact ih.body _ _ _ _ _ _ h
    · intro k v d x k' v' h
      rw [pBody] at h
      obtain ⟨a, k1, v1, h1, h2⟩ := bind_ok h
      split at h2
      · obtain ⟨b, k2, v2, h3, h4⟩ := bind_ok h2
        split at h4
        · obtain ⟨c, k3, v3, h5, h6⟩ := bind_ok h4
          simp only [Option.some.injEq, Res.ok.injEq] at h6; rw [← h6.1]; simp [whole]
        · simp only [Option.some.injEq, Res.ok.injEq] at h4; rw [← h4.1]; simp [whole]
      · split at h2
        · obtain ⟨c, k3, v3, h5, h6⟩ := bind_ok h2
          simp only [Option.some.injEq, Res.ok.injEq] at h6; rw [← h6.1]; simp [whole]
        · simp only [Option.some.injEq, Res.ok.injEq] at h2
          rw [← h2.1]
          exact ih.row _ _ _ _ _ _ h1
end Go.Proofs.YtkmpelgfhjgddaaGreatDoor.P
namespace Go.Proofs.YtkmpelgfhjgddaaGreatDoor.P
def small (s : Bs) : Prop := ∃ c r, s = c :: r ∧ cls c = 115
def headOk (x : Ex) : Prop := (x.kind = 97 → x.args = [] ∧ (x.name = [91, 93] ∨ small x.name)) ∧ (x.kind = 99 → x.name ∈ [[46], [43], [45], [42], [47, 47]] ∨ small x.name)
theorem pVar_headOk {t : Tok} {k k' : Nat} {v v' : List Bs} {x : Ex} (h : pVar t k v = .ok x k' v') : headOk x := by
  unfold pVar at h
  split at h
  · injection h with h _ _; rw [← h]; simp [headOk, Ex.kind]
  · split at h
    · cases h
    · injection h with h _ _; rw [← h]; simp [headOk, Ex.kind]
theorem mkList_headOk {all : List Ex} {x : Ex} (hx : headOk x) : headOk (mkList all x) := by
  cases all with
  | nil => exact hx
  | cons a l => exact ⟨fun e => absurd e (by simp [mkList, Ex.kind]), fun _ => .inl (by simp [mkList, Ex.name])⟩
structure HeadT (T : List Tok) (f : Nat) : Prop where
  prim : ∀ k v d x k' v', pPrim T f k v d = some (.ok x k' v') → headOk x
  list : ∀ k v d x k' v', pList T f k v d = some (.ok x k' v') → headOk x
  oper : ∀ l k v d x k' v', pOper T f l k v d = some (.ok x k' v') → headOk x
  more : ∀ l y k v d x k' v', headOk y → pMore T f l y k v d = some (.ok x k' v') → headOk x
theorem headT (T : List Tok) (hT : ∀ k, (tk T k).kind = 1 → small (tk T k).text) : ∀ f, HeadT T f
  | 0 => ⟨by intros; simp [pPrim] at *, by intros; simp [pList] at *, by intros; simp [pOper] at *, by intros; simp [pMore] at *⟩
  | f + 1 => by
    have ih := headT T hT f
    refine ⟨?_, ?_, ?_, ?_⟩
    · intro k v d x k' v' h
      rw [pPrim] at h
      split at h
      · simp at h
      split at h
      · simp only [Option.some.injEq, Res.ok.injEq] at h; rw [← h.1]; simp [headOk, Ex.kind]
      split at h
      · simp only [Option.some.injEq] at h; exact pVar_headOk h
      split at h
      · rename_i hk
        split at h
        · obtain ⟨a, k1, v1, h1, h2⟩ := bind_ok h
          rw [(musT_ok h2).2.1]
          exact ⟨fun e => absurd e (by simp [Ex.kind]), fun _ => .inr (hT k hk)⟩
        · simp only [Option.some.injEq, Res.ok.injEq] at h; rw [← h.1]; exact ⟨fun _ => ⟨rfl, .inr (hT k hk)⟩, fun e => absurd e (by simp [Ex.kind])⟩
      split at h
      · split at h
        · simp only [Option.some.injEq, Res.ok.injEq] at h; rw [← h.1]; simp [headOk, Ex.kind]
        · simp at h
      split at h
      · obtain ⟨a, k1, v1, h1, h2⟩ := bind_ok h
        rw [(musT_ok h2).2.1]
        exact ih.oper _ _ _ _ _ _ _ h1
      split at h
      · exact ih.list _ _ _ _ _ _ h
      · simp at h
    · intro k v d x k' v' h
      rw [pList] at h
      have hn : headOk (.mk 97 [91, 93] 0 0 []) := ⟨fun _ => ⟨rfl, .inl rfl⟩, fun e => absurd e (by simp [Ex.kind])⟩
      split at h
      · simp only [Option.some.injEq, Res.ok.injEq] at h; rw [← h.1]; exact hn
      · obtain ⟨y, k1, v1, h1, h2⟩ := bind_ok h
        split at h2
        · obtain ⟨z, k2, v2, h3, h4⟩ := bind_ok h2
          rw [(musT_ok h4).2.1]
          exact mkList_headOk (ih.oper _ _ _ _ _ _ _ h3)
        · rw [(musT_ok h2).2.1]
          exact mkList_headOk hn
    · intro l k v d x k' v' h
      rw [pOper] at h
      split at h
      · exact ih.prim _ _ _ _ _ _ h
      · obtain ⟨y, k1, v1, h1, h2⟩ := bind_ok h
        exact ih.more _ _ _ _ _ _ _ _ (ih.oper _ _ _ _ _ _ _ h1) h2
    · intro l y k v d x k' v' hy h
      rw [pMore] at h
      split at h
      · simp only [Option.some.injEq, Res.ok.injEq] at h; rw [← h.1]; exact hy
      · rename_i o ho
        obtain ⟨z, k1, v1, h1, h2⟩ := bind_ok h
        refine ih.more _ _ _ _ _ _ _ _ ?_ h2
        have hm := List.mem_of_find?_eq_some ho
        refine ⟨fun e => absurd e (by simp [Ex.kind]), fun _ => ?_⟩
        show o ∈ _ ∨ small o
        unfold ops at hm
        split at hm
        · simp only [List.mem_cons, List.not_mem_nil, or_false] at hm
          rcases hm with rfl | rfl <;> exact .inl (by decide)
        · simp only [List.mem_cons, List.not_mem_nil, or_false] at hm
          rcases hm with rfl | rfl | rfl
          · exact .inl (by decide)
          · exact .inl (by decide)
          · exact .inr ⟨109, [111, 100], rfl, by decide⟩
theorem noGoal_iff {x : Ex} (h : headOk x) : noGoal x = true ↔
    ((x.kind ≠ 97 ∧ x.kind ≠ 99) ∨ (x.kind = 99 ∧ (x.name = [43] ∨ x.name = [45] ∨ x.name = [42] ∨ x.name = [47, 47] ∨ (x.name = [109, 111, 100] ∧ x.args.length = 2))) ∨ x.name = [46] ∨ x.name = [91, 93]) := by
  obtain ⟨k, s, n, j, args⟩ := x
  unfold noGoal
  simp only [Ex.kind, Ex.name, Ex.args] at h ⊢
  obtain ⟨h1, h2⟩ := h
  simp only [Ex.kind, Ex.name, Ex.args] at h1 h2
  simp only [Bool.or_eq_true, Bool.and_eq_true, bne_iff_ne, beq_iff_eq, ne_eq]
  by_cases k1 : k = 97
  · obtain ⟨rfl, hs⟩ := h1 k1
    subst k1
    clear h1 h2
    rcases hs with rfl | ⟨c, r, rfl, hc⟩
    · simp
    · simp [hc]
  · by_cases k2 : k = 99
    · subst k2
      rcases h2 rfl with hm | ⟨c, r, rfl, hc⟩
      · simp only [List.mem_cons, List.not_mem_nil, or_false] at hm
        rcases hm with rfl | rfl | rfl | rfl | rfl <;> simp <;> decide
      · have e1 : c ≠ 43 := by rintro rfl; revert hc; decide
        have e2 : c ≠ 45 := by rintro rfl; revert hc; decide
        have e3 : c ≠ 42 := by rintro rfl; revert hc; decide
        have e4 : c ≠ 47 := by rintro rfl; revert hc; decide
        simp [hc, e1, e2, e3, e4]
        constructor
        · rintro (h | h)
          · exact .inr h
          · exact .inl h
        · rintro (h | h)
          · exact .inr h
          · exact .inl h
    · simp [k1, k2]
end Go.Proofs.YtkmpelgfhjgddaaGreatDoor.P
namespace Go.Proofs.YtkmpelgfhjgddaaGreatDoor.P
def named (x : Ex) : Prop := x.kind = 97 ∨ x.kind = 99 → x.name ≠ []
theorem pVar_named {t : Tok} {k k' : Nat} {v v' : List Bs} {x : Ex} (h : pVar t k v = .ok x k' v') : named x := by
  unfold pVar at h
  split at h
  · injection h with h _ _; rw [← h]; simp [named, Ex.kind]
  · split at h
    · cases h
    · injection h with h _ _; rw [← h]; simp [named, Ex.kind]
theorem mkList_named {all : List Ex} {x : Ex} (hx : named x) : named (mkList all x) := by
  cases all with
  | nil => exact hx
  | cons a l => simp [mkList, named, Ex.name]
structure NamedT (T : List Tok) (f : Nat) : Prop where
  prim : ∀ k v d x k' v', pPrim T f k v d = some (.ok x k' v') → named x
  list : ∀ k v d x k' v', pList T f k v d = some (.ok x k' v') → named x
  oper : ∀ l k v d x k' v', pOper T f l k v d = some (.ok x k' v') → named x
  more : ∀ l y k v d x k' v', named y → pMore T f l y k v d = some (.ok x k' v') → named x
theorem namedT (T : List Tok) (hT : ∀ k, (tk T k).kind = 1 → (tk T k).text ≠ []) : ∀ f, NamedT T f
  | 0 => ⟨by intros; simp [pPrim] at *, by intros; simp [pList] at *, by intros; simp [pOper] at *, by intros; simp [pMore] at *⟩
  | f + 1 => by
    have ih := namedT T hT f
    refine ⟨?_, ?_, ?_, ?_⟩
    · intro k v d x k' v' h
      rw [pPrim] at h
      split at h
      · simp at h
      split at h
      · simp only [Option.some.injEq, Res.ok.injEq] at h; rw [← h.1]; simp [named, Ex.kind]
      split at h
      · simp only [Option.some.injEq] at h; exact pVar_named h
      split at h
      · rename_i hk
        split at h
        · obtain ⟨a, k1, v1, h1, h2⟩ := bind_ok h
          rw [(musT_ok h2).2.1]
          exact fun _ => hT k hk
        · simp only [Option.some.injEq, Res.ok.injEq] at h; rw [← h.1]; exact fun _ => hT k hk
      split at h
      · split at h
        · simp only [Option.some.injEq, Res.ok.injEq] at h; rw [← h.1]; simp [named, Ex.kind]
        · simp at h
      split at h
      · obtain ⟨a, k1, v1, h1, h2⟩ := bind_ok h
        rw [(musT_ok h2).2.1]
        exact ih.oper _ _ _ _ _ _ _ h1
      split at h
      · exact ih.list _ _ _ _ _ _ h
      · simp at h
    · intro k v d x k' v' h
      rw [pList] at h
      have hn : named (.mk 97 [91, 93] 0 0 []) := by simp [named, Ex.name]
      split at h
      · simp only [Option.some.injEq, Res.ok.injEq] at h; rw [← h.1]; exact hn
      · obtain ⟨y, k1, v1, h1, h2⟩ := bind_ok h
        split at h2
        · obtain ⟨z, k2, v2, h3, h4⟩ := bind_ok h2
          rw [(musT_ok h4).2.1]
          exact mkList_named (ih.oper _ _ _ _ _ _ _ h3)
        · rw [(musT_ok h2).2.1]
          exact mkList_named hn
    · intro l k v d x k' v' h
      rw [pOper] at h
      split at h
      · exact ih.prim _ _ _ _ _ _ h
      · obtain ⟨y, k1, v1, h1, h2⟩ := bind_ok h
        exact ih.more _ _ _ _ _ _ _ _ (ih.oper _ _ _ _ _ _ _ h1) h2
    · intro l y k v d x k' v' hy h
      rw [pMore] at h
      split at h
      · simp only [Option.some.injEq, Res.ok.injEq] at h; rw [← h.1]; exact hy
      · rename_i o ho
        obtain ⟨z, k1, v1, h1, h2⟩ := bind_ok h
        refine ih.more _ _ _ _ _ _ _ _ ?_ h2
        intro _
        have hm := List.mem_of_find?_eq_some ho
        rw [show (Ex.mk 99 o 0 0 [y, z]).name = o from rfl]
        rintro rfl
        revert hm
        unfold ops
        split <;> simp
end Go.Proofs.YtkmpelgfhjgddaaGreatDoor.P
namespace Go.Proofs.YtkmpelgfhjgddaaGreatDoor.P
theorem lexGo_some : ∀ (f : Nat) (r : Bs) (i : Nat), r.length < f → ∃ q, lexGo f r i = some q
  | 0, r, i, h => absurd h (Nat.not_lt_zero _)
  | f + 1, [], i, _ => ⟨_, by rw [lexGo]⟩
  | f + 1, c :: r, i, h => by
    have h1 : r.length < f := by simpa using h
    rw [lexGo]
    split
    · exact lexGo_some f r (i + 1) h1
    split
    · dsimp only
      split
      · exact ⟨_, rfl⟩
      · rename_i hc hw
        have hl : ((c :: r).drop ((c :: r).takeWhile (fun x => cls x ≠ 0)).length).length < f := by
          have : 0 < ((c :: r).takeWhile (fun x => cls x ≠ 0)).length := by
            rw [List.takeWhile_cons, if_pos (by simpa using hc)]
            simp
          rw [List.length_drop]
          simp only [List.length_cons] at h ⊢
          omega
        obtain ⟨q, hq⟩ := lexGo_some f ((c :: r).drop ((c :: r).takeWhile (fun x => cls x ≠ 0)).length) (i + ((c :: r).takeWhile (fun x => cls x ≠ 0)).length) hl
        rw [hq]
        cases q <;> exact ⟨_, rfl⟩
    split
    · obtain ⟨q, hq⟩ := lexGo_some f r (i + 1) h1
      rw [hq]
      cases q <;> exact ⟨_, rfl⟩
    split
    · exact ⟨_, rfl⟩
    · rename_i s hs
      have hm := List.mem_of_find?_eq_some hs
      have hl : ((c :: r).drop s.length).length < f := by
        have : 0 < s.length := by
          revert hm
          generalize s = t
          intro hm
          simp only [signs, List.mem_cons, List.not_mem_nil, or_false] at hm
          rcases hm with rfl | rfl | rfl | rfl | rfl | rfl | rfl | rfl | rfl | rfl | rfl | rfl | rfl | rfl | rfl | rfl | rfl | rfl | rfl | rfl | rfl | rfl | rfl <;> decide
        rw [List.length_drop]
        simp only [List.length_cons] at h ⊢
        omega
      obtain ⟨q, hq⟩ := lexGo_some f ((c :: r).drop s.length) (i + s.length) hl
      rw [hq]
      cases q <;> exact ⟨_, rfl⟩
def tokOk (u : Tok) : Prop := u.kind ≤ 4 ∧ (u.kind = 3 → u.text ≠ [] ∧ u.text.all digit = true ∧ u.text.length ≤ 9) ∧ (u.kind = 1 → ∃ c r, u.text = c :: r ∧ cls c = 115) ∧ (u.kind = 2 → u.text ≠ []) ∧ (u.kind = 4 → u.text = [46] ∨ u.text ∈ signs)
theorem wordKind_ok {w : Bs} {i : Nat} (hw : wordKind w ≠ 0) : tokOk ⟨wordKind w, w, i⟩ ∧ wordKind w ≠ 4 := by
  cases w with
  | nil => exact absurd rfl hw
  | cons c r =>
    unfold wordKind at hw ⊢
    dsimp only at hw ⊢
    by_cases h1 : cls c = 115
    · rw [if_pos h1] at hw ⊢
      split at hw
      · rename_i h2
        rw [if_pos h2]
        exact ⟨⟨by simp, by simp, fun _ => ⟨c, r, rfl, h1⟩, by simp, by simp⟩, by decide⟩
      · exact absurd rfl hw
    · rw [if_neg h1] at hw ⊢
      by_cases h3 : cls c = 99
      · rw [if_pos h3] at hw ⊢
        split at hw
        · rename_i h2
          rw [if_pos h2]
          exact ⟨⟨by simp, by simp, by simp, by simp, by simp⟩, by decide⟩
        · exact absurd rfl hw
      · rw [if_neg h3] at hw ⊢
        split at hw
        · rename_i h2
          rw [if_pos h2]
          exact ⟨⟨by simp, fun _ => ⟨by simp, h2.2.1, h2.1⟩, by simp, by simp, by simp⟩, by decide⟩
        · exact absurd rfl hw
structure LexOk (n : Nat) (T : List Tok) : Prop where
  len : T.length ≤ n + 1
  last : ∃ l t, T = l ++ [t] ∧ t.kind = 0 ∧ ∀ u ∈ l, u.kind ≠ 0
  tok : ∀ u ∈ T, tokOk u
theorem LexOk.cons {n m : Nat} {T : List Tok} (h : LexOk n T) {u : Tok} (hu : tokOk u) (h0 : u.kind ≠ 0) (hm : n < m) : LexOk m (u :: T) := by
  obtain ⟨h1, ⟨l, t, rfl, h2, h3⟩, h4⟩ := h
  refine ⟨by simp at h1 ⊢; omega, ⟨u :: l, t, rfl, h2, fun v hv => ?_⟩, fun v hv => ?_⟩
  · rcases List.mem_cons.1 hv with rfl | hv
    · exact h0
    · exact h3 v hv
  · rcases List.mem_cons.1 hv with rfl | hv
    · exact hu
    · exact h4 v hv
theorem LexOk.mono {n m : Nat} {T : List Tok} (h : LexOk n T) (hm : n ≤ m) : LexOk m T := ⟨by have := h.len; omega, h.last, h.tok⟩
theorem lexGo_ok : ∀ (f : Nat) (r : Bs) (i : Nat) (T : List Tok), lexGo f r i = some (.inr T) → LexOk r.length T
  | 0, r, i, T, h => by rw [lexGo] at h; cases h
  | f + 1, [], i, T, h => by
    rw [lexGo] at h
    simp only [Option.some.injEq, Sum.inr.injEq] at h
    subst h
    exact ⟨by simp, ⟨[], _, rfl, rfl, by simp⟩, fun u hu => by
      simp only [List.mem_cons, List.not_mem_nil, or_false] at hu
      subst hu
      exact ⟨by simp, by simp, by simp, by simp, by simp⟩⟩
  | f + 1, c :: r, i, T, h => by
    rw [lexGo] at h
    split at h
    · exact (lexGo_ok f r (i + 1) T h).mono (by simp)
    split at h
    · dsimp only at h
      split at h
      · cases h
      · rename_i hc hw
        have hpos : 0 < ((c :: r).takeWhile (fun x => cls x ≠ 0)).length := by
          rw [List.takeWhile_cons, if_pos (by simpa using hc)]
          simp
        cases hq : lexGo f ((c :: r).drop ((c :: r).takeWhile (fun x => cls x ≠ 0)).length) (i + ((c :: r).takeWhile (fun x => cls x ≠ 0)).length) with
        | none => rw [hq] at h; cases h
        | some q =>
          rw [hq] at h
          cases q with
          | inl j => cases h
          | inr l =>
            simp only [Option.some.injEq, Sum.inr.injEq] at h
            rw [← h]
            refine (lexGo_ok f _ _ l hq).cons (wordKind_ok hw).1 hw ?_
            rw [List.length_drop]
            simp only [List.length_cons]
            omega
    split at h
    · cases hq : lexGo f r (i + 1) with
      | none => rw [hq] at h; cases h
      | some q =>
        rw [hq] at h
        cases q with
        | inl j => cases h
        | inr l =>
          simp only [Option.some.injEq, Sum.inr.injEq] at h
          rw [← h]
          exact (lexGo_ok f _ _ l hq).cons ⟨by simp, by simp, by simp, by simp, fun _ => .inl rfl⟩ (by simp) (by simp)
    split at h
    · cases h
    · rename_i s hs
      have hm := List.mem_of_find?_eq_some hs
      have hl : 0 < s.length := by
        revert hm
        generalize s = t
        intro hm
        simp only [signs, List.mem_cons, List.not_mem_nil, or_false] at hm
        rcases hm with rfl | rfl | rfl | rfl | rfl | rfl | rfl | rfl | rfl | rfl | rfl | rfl | rfl | rfl | rfl | rfl | rfl | rfl | rfl | rfl | rfl | rfl | rfl <;> decide
      cases hq : lexGo f ((c :: r).drop s.length) (i + s.length) with
      | none => rw [hq] at h; cases h
      | some q =>
        rw [hq] at h
        cases q with
        | inl j => cases h
        | inr l =>
          simp only [Option.some.injEq, Sum.inr.injEq] at h
          rw [← h]
          refine (lexGo_ok f _ _ l hq).cons ⟨by simp, by simp, by simp, by simp, fun _ => .inr hm⟩ (by simp) ?_
          rw [List.length_drop]
          simp only [List.length_cons]
          omega
def lex (s : Bs) : Sum Nat (List Tok) := (lexGo (s.length + 1) s 0).getD (.inl 0)
theorem lex_eq (s : Bs) : lexGo (s.length + 1) s 0 = some (lex s) := by
  obtain ⟨q, hq⟩ := lexGo_some (s.length + 1) s 0 (Nat.lt_succ_self _)
  rw [lex, hq]; rfl
end Go.Proofs.YtkmpelgfhjgddaaGreatDoor.P
namespace Go.Proofs.YtkmpelgfhjgddaaGreatDoor
theorem twhile (p : UInt8 → Bool) : ∀ (l : P.Bs), (∀ m, m < (l.takeWhile p).length → p (l.getD m 0) = true) ∧ ((l.takeWhile p).length < l.length → p (l.getD (l.takeWhile p).length 0) = false) ∧ (l.takeWhile p).length ≤ l.length ∧ l.take (l.takeWhile p).length = l.takeWhile p
  | [] => ⟨fun m h => absurd h (Nat.not_lt_zero _), fun h => absurd h (Nat.not_lt_zero _), Nat.le_refl _, rfl⟩
  | c :: l => by
    obtain ⟨h1, h2, h3, h4⟩ := twhile p l
    by_cases hc : p c = true
    · rw [List.takeWhile_cons, if_pos hc]
      refine ⟨fun m hm => ?_, fun h => ?_, by simpa using h3, by simp [h4]⟩
      · cases m with
        | zero => exact hc
        | succ m => exact h1 m (by simpa using hm)
      · exact h2 (by simpa using h)
    · rw [List.takeWhile_cons, if_neg hc]
      exact ⟨fun m h => absurd h (Nat.not_lt_zero _), fun _ => by simpa using hc, by simp, rfl⟩
theorem getD_drop0 (s : P.Bs) (j m : Nat) : (s.drop j).getD m 0 = s.getD (j + m) 0 := by
  simp [List.getD_eq_getElem?_getD, List.getElem?_drop]
theorem isPrefix_iff (x s : P.Bs) (j : Nat) : x.isPrefixOf (s.drop j) = true ↔ (j + x.length ≤ s.length ∨ x = []) ∧ (s.take (j + x.length)).drop j = x := by
  rw [List.isPrefixOf_iff_prefix, List.prefix_iff_eq_take, List.drop_take, show j + x.length - j = x.length by omega]
  constructor
  · intro h
    refine ⟨?_, h.symm⟩
    have := congrArg List.length h
    simp at this
    rcases Nat.lt_or_ge 0 x.length with h0 | h0
    · left; omega
    · right; exact List.eq_nil_of_length_eq_zero (by omega)
  · rintro ⟨-, h⟩
    exact h.symm
theorem signs_ne {x : P.Bs} (h : x ∈ P.signs) : x ≠ [] ∧ x.length ≤ 3 := by
  simp only [P.signs, List.mem_cons, List.not_mem_nil, or_false] at h
  rcases h with rfl | rfl | rfl | rfl | rfl | rfl | rfl | rfl | rfl | rfl | rfl | rfl | rfl | rfl | rfl | rfl | rfl | rfl | rfl | rfl | rfl | rfl | rfl <;> decide
def signK (p : P.Bs → Bool) (k : Nat) : P.Bs := ((P.signs.take k).find? p).getD []
theorem signK_succ {p : P.Bs → Bool} {k : Nat} (hk : k < 23) (h : signK p k = []) : signK p (k + 1) = if p (P.signs.getD k []) = true then P.signs.getD k [] else [] := by
  have hl : k < P.signs.length := hk
  have hn : (P.signs.take k).find? p = none := by
    cases hf : (P.signs.take k).find? p with
    | none => rfl
    | some x =>
      rw [signK, hf] at h
      exact absurd h (signs_ne (List.mem_of_mem_take (List.mem_of_find?_eq_some hf))).1
  have hg : P.signs.getD k [] = P.signs[k] := by rw [List.getD_eq_getElem?_getD, List.getElem?_eq_getElem hl]; rfl
  rw [signK, List.take_add_one, List.find?_append, hn, List.getElem?_eq_getElem hl, hg]
  simp only [Option.toList, Option.none_or, List.find?_cons, List.find?_nil]
  split <;> rename_i hp
  · rw [if_pos hp]; rfl
  · rw [if_neg (by simp [hp])]; rfl
theorem signK_all (p : P.Bs → Bool) : signK p 23 = (P.signs.find? p).getD [] := rfl
theorem signK_ne {p : P.Bs → Bool} {k : Nat} (h : signK p k ≠ []) : signK p 23 = signK p k := by
  have e : P.signs = P.signs.take k ++ P.signs.drop k := (List.take_append_drop k _).symm
  rw [signK_all]
  unfold signK at h ⊢
  cases hf : (P.signs.take k).find? p with
  | none => rw [hf] at h; exact absurd rfl h
  | some x => rw [e, List.find?_append, hf]; rfl
def lexFin (acc : List P.Tok) : Sum Nat (List P.Tok) → Sum Nat (List P.Tok)
  | .inl i => .inl i
  | .inr l => .inr (acc ++ l)
def pTail2 (T : List P.Tok) (f : Nat) (nm : P.Bs) (l : List P.Ex) (bd : P.Bd) (k : Nat) (vs : List P.Bs) : Option (P.Res P.Cl) :=
  if P.isT T k [58, 45] = true then P.Res.bind (P.pBody T f (k + 1) vs 0) fun b k' vars' => P.musT T [46] ⟨nm, l, b, vars'⟩ k' vars'
  else P.musT T [46] ⟨nm, l, bd, vs⟩ k vs
def pTail1 (T : List P.Tok) (f : Nat) (nm : P.Bs) (at_ : Nat) (l : List P.Ex) (bd : P.Bd) (k : Nat) (vs : List P.Bs) : Option (P.Res P.Cl) :=
  if 0 ≤ P.tests nm ∨ nm = [109, 111, 100] then some (.err 3 at_) else pTail2 T f nm l bd k vs
theorem pTail_eq (T : List P.Tok) (f : Nat) (nm : P.Bs) (l : List P.Ex) (at_ k : Nat) (vs : List P.Bs) : P.pTail T f nm l at_ k vs = pTail1 T f nm at_ l P.trueB k vs := rfl
end Go.Proofs.YtkmpelgfhjgddaaGreatDoor
namespace Go.Proofs.YtkmpelgfhjgddaaGreatDoor.P
theorem tk_lt {T : List Tok} {k : Nat} (h : (tk T k).kind ≠ 0) : k < T.length := by
  rcases Nat.lt_or_ge k T.length with h1 | h1
  · exact h1
  · exact absurd (by simp [tk, List.getD_eq_getElem?_getD, List.getElem?_eq_none h1]) h
theorem isT_lt {T : List Tok} {k : Nat} {s : Bs} (h : isT T k s = true) : k < T.length := by
  refine tk_lt fun h0 => ?_
  simp [isT, h0] at h
theorem bind_some {α β : Type} {r : Option (Res α)} {g : α → Nat → List Bs → Option (Res β)} (h : ∃ q, r = some q) (hg : ∀ a k v, r = some (.ok a k v) → ∃ q, g a k v = some q) : ∃ q, Res.bind r g = some q := by
  obtain ⟨q, rfl⟩ := h
  cases q with
  | err e a => exact ⟨_, rfl⟩
  | ok a k v => exact hg a k v rfl
theorem musT_some {α : Type} (T : List Tok) (s : Bs) (x : α) (k : Nat) (v : List Bs) : ∃ q, musT T s x k v = some q := by
  unfold musT; split <;> exact ⟨_, rfl⟩
theorem prim_lt {T : List Tok} {f k : Nat} {v v' : List Bs} {d k' : Nat} {x : Ex} (h : pPrim T f k v d = some (.ok x k' v')) : k < T.length := by
  cases f with
  | zero => simp [pPrim] at h
  | succ f =>
    refine tk_lt fun h0 => ?_
    have hi : ∀ s, isT T k s = false := fun s => by simp [isT, h0]
    rw [pPrim] at h
    simp only [h0, hi] at h
    split at h <;> simp at h
theorem oper_lt {T : List Tok} : ∀ {f l k : Nat} {v v' : List Bs} {d k' : Nat} {x : Ex}, pOper T f l k v d = some (.ok x k' v') → k < T.length
  | 0, _, _, _, _, _, _, _, h => by simp [pOper] at h
  | f + 1, l, k, v, v', d, k', x, h => by
    rw [pOper] at h
    split at h
    · exact prim_lt h
    · obtain ⟨a, k1, v1, h1, _⟩ := bind_ok h
      exact oper_lt h1
theorem opAt_lt {T : List Tok} {l k : Nat} {o : Bs} (h : opAt T l k = some o) : k < T.length := isT_lt (List.find?_some h)
structure Tot (T : List Tok) (f : Nat) : Prop where
  prim : ∀ k v d, 16 * (T.length - k) + 1 ≤ f → ∃ r, pPrim T f k v d = some r
  args : ∀ k v d a acc, 16 * (T.length - k) + 5 ≤ f → ∃ r, pArgs T f k v d a acc = some r
  list : ∀ k v d, 16 * (T.length - k) + 6 ≤ f → ∃ r, pList T f k v d = some r
  elems : ∀ k v d acc, 16 * (T.length - k) + 5 ≤ f → ∃ r, pElems T f k v d acc = some r
  oper : ∀ l k v d, l ≤ 2 → 16 * (T.length - k) + (4 - l) ≤ f → ∃ r, pOper T f l k v d = some r
  more : ∀ l y k v d, l ≤ 1 → 16 * (T.length - k) + 1 ≤ f → ∃ r, pMore T f l y k v d = some r
theorem tot (T : List Tok) : ∀ f, Tot T f
  | 0 => ⟨fun _ _ _ h => by omega, fun _ _ _ _ _ h => by omega, fun _ _ _ h => by omega, fun _ _ _ _ h => by omega, fun _ _ _ _ _ h => by omega, fun _ _ _ _ _ _ h => by omega⟩
  | f + 1 => by
    have ih := tot T f
    have mo := mono T f
    refine ⟨?_, ?_, ?_, ?_, ?_, ?_⟩
    · intro k v d hf
      rw [pPrim]
      split
      · exact ⟨_, rfl⟩
      split
      · exact ⟨_, rfl⟩
      split
      · exact ⟨_, rfl⟩
      split
      · split
        · rename_i h
          have := isT_lt h
          exact bind_some (ih.args _ _ _ _ _ (by omega)) fun _ _ _ _ => musT_some _ _ _ _ _
        · exact ⟨_, rfl⟩
      split
      · split <;> exact ⟨_, rfl⟩
      split
      · rename_i h
        have := isT_lt h
        exact bind_some (ih.oper 0 _ _ _ (by omega) (by omega)) fun _ _ _ _ => musT_some _ _ _ _ _
      split
      · rename_i h
        have := isT_lt h
        exact ih.list _ _ _ (by omega)
      · exact ⟨_, rfl⟩
    · intro k v d a acc hf
      rw [pArgs]
      refine bind_some (ih.oper 0 _ _ _ (by omega) (by omega)) fun x k' v' h => ?_
      have h1 := oper_lt h
      have h2 := mo.oper _ _ _ _ _ _ _ h
      split
      · exact ih.args _ _ _ _ _ (by omega)
      · split <;> exact ⟨_, rfl⟩
    · intro k v d hf
      rw [pList]
      split
      · exact ⟨_, rfl⟩
      · refine bind_some (ih.elems _ _ _ _ (by omega)) fun x k' v' h => ?_
        have h2 := mo.elems _ _ _ _ _ _ _ h
        split
        · rename_i hb
          have := isT_lt hb
          exact bind_some (ih.oper 0 _ _ _ (by omega) (by omega)) fun _ _ _ _ => musT_some _ _ _ _ _
        · exact musT_some _ _ _ _ _
    · intro k v d acc hf
      rw [pElems]
      refine bind_some (ih.oper 0 _ _ _ (by omega) (by omega)) fun x k' v' h => ?_
      have h1 := oper_lt h
      have h2 := mo.oper _ _ _ _ _ _ _ h
      split
      · exact ih.elems _ _ _ _ (by omega)
      · exact ⟨_, rfl⟩
    · intro l k v d hl hf
      rw [pOper]
      split
      · exact ih.prim _ _ _ (by omega)
      · refine bind_some (ih.oper _ _ _ _ (by omega) (by omega)) fun x k' v' h => ?_
        have h1 := oper_lt h
        have h2 := mo.oper _ _ _ _ _ _ _ h
        exact ih.more _ _ _ _ _ (by omega) (by omega)
    · intro l y k v d hl hf
      rw [pMore]
      split
      · exact ⟨_, rfl⟩
      · rename_i o ho
        have h0 := opAt_lt ho
        refine bind_some (ih.oper _ _ _ _ (by omega) (by omega)) fun x k' v' h => ?_
        have h2 := mo.oper _ _ _ _ _ _ _ h
        exact ih.more _ _ _ _ _ hl (by omega)
theorem lit_lt {T : List Tok} {f k : Nat} {v v' : List Bs} {d k' : Nat} {x : Bd} (h : pLit T f k v d = some (.ok x k' v')) : k < T.length := by
  cases f with
  | zero => simp [pLit] at h
  | succ f =>
    rw [pLit] at h
    split at h
    · simp at h
    split at h
    · rename_i hb; exact isT_lt hb
    split at h
    · rename_i hb; exact isT_lt hb
    split at h
    · rename_i hb; exact isT_lt hb
    · obtain ⟨a, k1, v1, h1, _⟩ := bind_ok h
      exact oper_lt h1
structure TotB (T : List Tok) (f : Nat) : Prop where
  lit : ∀ k v d, 16 * (T.length - k) + 5 ≤ f → ∃ r, pLit T f k v d = some r
  lits : ∀ k v d acc, 16 * (T.length - k) + 6 ≤ f → ∃ r, pLits T f k v d acc = some r
  row : ∀ k v d, 16 * (T.length - k) + 7 ≤ f → ∃ r, pRow T f k v d = some r
  rest : ∀ k v d, 16 * (T.length - k) + 9 ≤ f → ∃ r, pRest T f k v d = some r
  body : ∀ k v d, 16 * (T.length - k) + 8 ≤ f → ∃ r, pBody T f k v d = some r
theorem totB (T : List Tok) : ∀ f, TotB T f
  | 0 => ⟨fun _ _ _ h => by omega, fun _ _ _ _ h => by omega, fun _ _ _ h => by omega, fun _ _ _ h => by omega, fun _ _ _ h => by omega⟩
  | f + 1 => by
    have ih := totB T f
    have it := tot T f
    have mo := mono T f
    have mb := monoB T f
    refine ⟨?_, ?_, ?_, ?_, ?_⟩
    · intro k v d hf
      rw [pLit]
      split
      · exact ⟨_, rfl⟩
      split
      · exact ⟨_, rfl⟩
      split
      · rename_i h
        have := isT_lt h
        exact bind_some (ih.lit _ _ _ (by omega)) fun _ _ _ _ => ⟨_, rfl⟩
      split
      · rename_i h
        have := isT_lt h
        exact bind_some (ih.body _ _ _ (by omega)) fun _ _ _ _ => musT_some _ _ _ _ _
      · refine bind_some (it.oper 0 _ _ _ (by omega) (by omega)) fun x k' v' h => ?_
        have h2 := mo.oper _ _ _ _ _ _ _ h
        have h1 := oper_lt h
        split
        · exact bind_some (it.oper 0 _ _ _ (by omega) (by omega)) fun _ _ _ _ => ⟨_, rfl⟩
        · repeat' split
          all_goals exact ⟨_, rfl⟩
    · intro k v d acc hf
      rw [pLits]
      refine bind_some (ih.lit _ _ _ (by omega)) fun x k' v' h => ?_
      have h1 := lit_lt h
      have h2 := mb.lit _ _ _ _ _ _ h
      split
      · exact ih.lits _ _ _ _ (by omega)
      · exact ⟨_, rfl⟩
    · intro k v d hf
      rw [pRow]
      exact bind_some (ih.lits _ _ _ _ (by omega)) fun _ _ _ _ => ⟨_, rfl⟩
    · intro k v d hf
      rw [pRest]
      split
      · exact ⟨_, rfl⟩
      · exact ih.body _ _ _ (by omega)
    · intro k v d hf
      rw [pBody]
      refine bind_some (ih.row _ _ _ (by omega)) fun x k' v' h => ?_
      have h2 := mb.row _ _ _ _ _ _ h
      split
      · rename_i hb
        have h1 := isT_lt hb
        refine bind_some (ih.row _ _ _ (by omega)) fun x k2 v2 h3 => ?_
        have h4 := mb.row _ _ _ _ _ _ h3
        split
        · rename_i hb2
          have h5 := isT_lt hb2
          exact bind_some (ih.rest _ _ _ (by omega)) fun _ _ _ _ => ⟨_, rfl⟩
        · exact ⟨_, rfl⟩
      · split
        · rename_i hb2
          have h5 := isT_lt hb2
          exact bind_some (ih.rest _ _ _ (by omega)) fun _ _ _ _ => ⟨_, rfl⟩
        · exact ⟨_, rfl⟩
def fuelFor (T : List Tok) : Nat := 16 * T.length + 20
theorem pTail_some (T : List Tok) (name : Bs) (args : List Ex) (a k : Nat) (v : List Bs) : ∃ r, pTail T (fuelFor T) name args a k v = some r := by
  unfold pTail fuelFor
  split
  · exact ⟨_, rfl⟩
  split
  · exact bind_some ((totB T _).body _ _ _ (by omega)) fun _ _ _ _ => musT_some _ _ _ _ _
  · exact musT_some _ _ _ _ _
theorem pClause_some (T : List Tok) (k : Nat) : ∃ r, pClause T (fuelFor T) k = some r := by
  unfold pClause
  split
  · split
    · refine bind_some ((tot T _).args _ _ _ _ _ (by unfold fuelFor; omega)) fun l k' v' h => ?_
      exact bind_some (musT_some _ _ _ _ _) fun l k' v' h => pTail_some _ _ _ _ _ _
    · exact pTail_some _ _ _ _ _ _
  · exact ⟨_, rfl⟩
theorem pTail_mono {T : List Tok} {f : Nat} {name : Bs} {args : List Ex} {a k : Nat} {v : List Bs} {c : Cl} {k' : Nat} {v' : List Bs} (h : pTail T f name args a k v = some (.ok c k' v')) : k < k' ∧ c.vars = v' := by
  unfold pTail at h
  split at h
  · simp at h
  split at h
  · obtain ⟨b, k1, v1, h1, h2⟩ := bind_ok h
    obtain ⟨e1, e2, e3⟩ := musT_ok h2
    have := (monoB T f).body _ _ _ _ _ _ h1
    exact ⟨by omega, by rw [e2, e3]⟩
  · obtain ⟨e1, e2, e3⟩ := musT_ok h
    exact ⟨by omega, by rw [e2, e3]⟩
theorem pClause_mono {T : List Tok} {f k : Nat} {c : Cl} {k' : Nat} {v' : List Bs} (h : pClause T f k = some (.ok c k' v')) : k < k' ∧ k < T.length := by
  unfold pClause at h
  split at h
  · rename_i hk
    have hl : k < T.length := tk_lt (by omega)
    split at h
    · obtain ⟨l, k1, v1, h1, h2⟩ := bind_ok h
      obtain ⟨l2, k2, v2, h3, h4⟩ := bind_ok h2
      have a1 := (mono T f).args _ _ _ _ _ _ _ _ h1
      obtain ⟨e1, _, _⟩ := musT_ok h3
      have := (pTail_mono h4).1
      omega
    · have := (pTail_mono h).1
      omega
  · simp at h
def pProgG (T : List Tok) : Nat → Nat → List Cl → Option (Res (List Cl))
  | 0, _, _ => none
  | f + 1, k, acc =>
    if (tk T k).kind = 0 then some (.ok acc k [])
    else if acc.length = 40 then some (.err 4 (tk T k).pos)
    else Res.bind (pClause T (fuelFor T) k) fun c k' _ => pProgG T f k' (acc ++ [c])
theorem pProgG_some {T : List Tok} : ∀ (f k : Nat) (acc : List Cl), T.length - k < f → ∃ r, pProgG T f k acc = some r
  | 0, _, _, h => by omega
  | f + 1, k, acc, h => by
    rw [pProgG]
    split
    · exact ⟨_, rfl⟩
    split
    · exact ⟨_, rfl⟩
    · refine bind_some (pClause_some _ _) fun c k' v' h1 => ?_
      have h2 := pClause_mono h1
      exact pProgG_some f k' _ (by omega)
def progT (T : List Tok) : Res (List Cl) := (pProgG T (T.length + 1) 0 []).getD (.err 0 0)
theorem progT_eq (T : List Tok) : pProgG T (T.length + 1) 0 [] = some (progT T) := by
  obtain ⟨r, hr⟩ := pProgG_some (T := T) (T.length + 1) 0 [] (by omega)
  rw [progT, hr]; rfl
end Go.Proofs.YtkmpelgfhjgddaaGreatDoor.P
