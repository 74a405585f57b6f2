/- A part of one proof (RW22, ShB1, PureW, PureD, PW1, ShP1); no conditions beyond what each theorem names. -/
import Derived.Test.YtkmpelgfhjgddaaGreatDoorPkRAQ
import Derived.Shelf.Strings.BuilderF
set_option linter.all false
set_option linter.unusedVariables false
set_option linter.unusedSimpArgs false
namespace Go.Proofs.YtkmpelgfhjgddaaGreatDoor
open Go.RowKit Sx
set_option maxRecDepth 100000
theorem TWs.of {n : Nat} {T : List P.Tok} (h : P.LexOk n T) (hn : n ≤ 2000) : TWs T :=
  { len := by have := h.len; omega, last := h.last, kind := fun u hu => (h.tok u hu).1, digits := fun u hu => (h.tok u hu).2.1, words := fun u hu => (h.tok u hu).2.2.1, vars := fun u hu => (h.tok u hu).2.2.2.1, sg := fun u hu => (h.tok u hu).2.2.2.2 }
theorem lex_ok {s : P.Bs} {T : List P.Tok} (h : P.lex s = .inr T) : P.LexOk s.length T := P.lexGo_ok _ _ _ _ (by rw [P.lex_eq, h])
def P.program (s : P.Bs) : P.Res (List P.Cl) :=
  if 2000 < s.length then .err 1 0 else match P.lex s with
  | .inl i => .err 2 i
  | .inr T => P.progT T
theorem rBegun (s : P.Bs) (w : World) (hl : s.length ≤ 100000) : Calls Tryz.prog 15 #[.string (bs s)] w fun e w' => Ext w w' ∧
    ((2000 < s.length ∧ e = .returned (.tuple #[.pointer none, .int .i64 1, .int .i64 0])) ∨
    (s.length ≤ 2000 ∧ ∃ i, P.lex s = .inl i ∧ e = .returned (.tuple #[.pointer none, .int .i64 2, .int .i64 i])) ∨
    (s.length ≤ 2000 ∧ ∃ T pb tb, P.lex s = .inr T ∧ e = .returned (.tuple #[.pointer (some ⟨pb, 0, none⟩), .int .i64 0, .int .i64 (-1)]) ∧ w.heap.size ≤ pb ∧ RP w' pb tb T 0 [] 0 0 0)) := by
  by_cases h2 : 2000 < s.length
  · refine sh_r_begun_ok ?_
    simp (disch := first | assumption | omega | ((simp only [size_alloc, sz_drew, size_upd, List.size_toArray, List.length_cons, List.length_nil]) <;> omega) | decide) only [sh_r_begun, Pr, PX, PC, NX, ends, fillL, wrL, sOf, Nat.reduceAdd, Nat.reduceMul, Nat.reduceLeDiff, Nat.reduceEqDiff, Int.reduceToNat, Int.reduceAdd, Int.reduceLT, Int.reduceLE, ↓reduceIte, forall_const, eq_self, zG1, zG2, bd_58, ln_9]
    exact ⟨FrM.refl _ _, .inl h2⟩
  · refine sh_r_begun_ok ?_
    simp (disch := first | assumption | omega | ((simp only [size_alloc, sz_drew, size_upd, List.size_toArray, List.length_cons, List.length_nil]) <;> omega) | decide) only [sh_r_begun, Pr, PX, PC, NX, ends, fillL, wrL, sOf, Nat.reduceAdd, Nat.reduceMul, Nat.reduceLeDiff, Nat.reduceEqDiff, Int.reduceToNat, Int.reduceAdd, Int.reduceLT, Int.reduceLE, ↓reduceIte, forall_const, eq_self, zG1, zG2, bd_58, ln_9]
    refine (rLex s w (by omega)).mono ?_
    rintro e w1 ⟨hE, hp⟩
    cases hx : P.lex s with
    | inl i =>
      rw [hx] at hp
      dsimp only at hp
      subst hp
      simp (disch := first | assumption | omega | ((simp only [size_alloc, sz_drew, size_upd, List.size_toArray, List.length_cons, List.length_nil]) <;> omega) | decide) only [sh_r_begun, Pr, PX, PC, NX, ends, fillL, wrL, sOf, Nat.reduceAdd, Nat.reduceMul, Nat.reduceLeDiff, Nat.reduceEqDiff, Int.reduceToNat, Int.reduceAdd, Int.reduceLT, Int.reduceLE, ↓reduceIte, forall_const, eq_self, zG1, zG2, bd_58, ln_9]
      exact ⟨hE, .inr (.inl ⟨by omega, i, rfl, rfl⟩)⟩
    | inr T =>
      rw [hx] at hp
      obtain ⟨v, rfl, hown⟩ := hp
      have hlo := lex_ok hx
      have htw := TWs.of hlo (by omega)
      have hTn : 0 < T.length := htw.toTW.pos
      obtain ⟨htl, hown⟩ := hown
      rcases hown with ⟨-, h0⟩ | ⟨tb, cap, cur, rfl, ht1, ht2, ht3, ht4, ht5, ht6⟩
      · omega
      simp (disch := first | assumption | omega | ((simp only [size_alloc, sz_drew, size_upd, List.size_toArray, List.length_cons, List.length_nil]) <;> omega) | decide) only [sh_r_begun, Pr, PX, PC, NX, ends, fillL, wrL, sOf, Nat.reduceAdd, Nat.reduceMul, Nat.reduceLeDiff, Nat.reduceEqDiff, Int.reduceToNat, Int.reduceAdd, Int.reduceLT, Int.reduceLE, ↓reduceIte, forall_const, eq_self, zG1, zG2, bd_58, ln_9]
      have hX : Ext w1 (w1.alloc (.cells #[.slice (some ⟨tb, 0, none⟩) T.length cap, .int .i64 0, .slice none 0 0, .int .i64 0, .int .i64 0, .int .i64 0] 58)) := by (repeat (first | assumption | exact FrM.refl _ _ | (refine FrM.upd ?_ (.inr (by (try simp only [size_alloc, sz_drew, size_upd, List.size_toArray, List.length_cons, List.length_nil]) <;> omega))) | refine FrM.alloc ?_ _ | refine FrM.drew ?_))
      have s1 := hE.size
      have ltb := ltOf ht2
      refine ⟨hE.trans hX, .inr (.inr ⟨by omega, T, _, tb, rfl, rfl, s1, cap, .slice none 0 0, htw, ltb, hTn, ⟨by simp, fun _ => by simp⟩, by omega, ⟨cur, hX.ext _ _ ht2, fun j hj => ?_⟩, ht3, by unfold maxLen at ht4; omega, blk_alloc_new _ _, World.ownsRow_nil _ _ _ _⟩)⟩
      obtain ⟨c1, c2, c3⟩ := tcells_at T j hj
      have hcl : ∀ i, i < T.length * 3 → cur[i]? = (tcells T)[i]? := fun i hi => by
        rw [← ht6, List.getElem?_take_of_lt hi, Array.getElem?_toList]
      rw [hcl _ (by omega), hcl _ (by omega), hcl _ (by omega)]
      exact ⟨c1, c2, c3⟩
end Go.Proofs.YtkmpelgfhjgddaaGreatDoor
namespace Go.Proofs.YtkmpelgfhjgddaaGreatDoor
open Go.Proofs.YtkmpelgfhjgddaaGreatDoor.Sx
set_option maxRecDepth 100000
set_option linter.unusedVariables false
def sh_Pstrings_Builder_WriteString (p0 p1 : Value) (w : World) (R : Ending → World → Prop) : Prop :=
  CA Tryz.prog 87 #[p0] w (fun x7 w1 =>
  NC p0 fun x10 =>
  RD Tryz.prog (Instr.fieldAt 118 x10 1) w1 (fun x11 =>
  RD Tryz.prog (Instr.loadAt 116 x11) w1 (fun x12 =>
  WR Tryz.prog (Builtin.append_ #[116, 9] 116 #[x12, p1]) w1 (fun x14 w1_1 =>
  NC p0 fun x15 =>
  RD Tryz.prog (Instr.fieldAt 118 x15 1) w1_1 (fun x16 =>
  WU Tryz.prog (Instr.storeAt 116 x16 x14) w1_1 (fun w1_2 =>
  RD Tryz.prog (Builtin.len_ #[9] 3 #[p1]) w1_2 (fun x18 =>
  R (.returned (.tuple #[x18, .nilIface])) w1_2) (PX R)) (PX R)) (PX R)) (PX R)) (PX R)) (PX R)) (PC R)
theorem sh_Pstrings_Builder_WriteString_ok {p0 p1 : Value} {w : World} {R : Ending → World → Prop} (h : sh_Pstrings_Builder_WriteString p0 p1 w R) : Calls Tryz.prog 71 #[p0, p1] w R :=
  callsEq (args := [p0, p1]) (good (fun _ => []) (fun _ => none) (fun _ => 0) (fun _ => none) (fun _ => []) (fun _ => []) (fun _ => false) (fun _ => false)) Tryz.func71 rfl (by kernel_rfl) (by kernel_rfl) (Nat.le_of_ble_eq_true (by kernel_rfl)) [] (by kernel_rfl) h
def sh_Pstrings_Builder_WriteByte (p0 p1 : Value) (w : World) (R : Ending → World → Prop) : Prop :=
  CA Tryz.prog 87 #[p0] w (fun x6 w1 =>
  NC p0 fun x9 =>
  RD Tryz.prog (Instr.fieldAt 118 x9 1) w1 (fun x10 =>
  RD Tryz.prog (Instr.loadAt 116 x10) w1 (fun x11 =>
  WR Tryz.prog (Instr.buildSlice 116 1 #[(0, p1)]) w1 (fun x13 w1_1 =>
  WR Tryz.prog (Builtin.append_ #[116, 116] 116 #[x11, x13]) w1_1 (fun x14 w1_2 =>
  NC p0 fun x15 =>
  RD Tryz.prog (Instr.fieldAt 118 x15 1) w1_2 (fun x16 =>
  WU Tryz.prog (Instr.storeAt 116 x16 x14) w1_2 (fun w1_3 =>
  R (.returned .nilIface) w1_3) (PX R)) (PX R)) (PX R)) (PX R)) (PX R)) (PX R)) (PC R)
theorem sh_Pstrings_Builder_WriteByte_ok {p0 p1 : Value} {w : World} {R : Ending → World → Prop} (h : sh_Pstrings_Builder_WriteByte p0 p1 w R) : Calls Tryz.prog 91 #[p0, p1] w R :=
  callsEq (args := [p0, p1]) (good (fun _ => []) (fun _ => none) (fun _ => 0) (fun _ => none) (fun _ => []) (fun _ => []) (fun _ => false) (fun _ => false)) Tryz.func91 rfl (by kernel_rfl) (by kernel_rfl) (Nat.le_of_ble_eq_true (by kernel_rfl)) [] (by kernel_rfl) h
theorem sh_Pstrings_Builder_WriteByte_okD {p0 p1 : Value} {u : FrameMode} {w : World} {R : Ending → World → Prop} (h : sh_Pstrings_Builder_WriteByte p0 p1 w R) : CallsD Tryz.prog 91 #[p0, p1] u w fun e u' w' => u' = u ∧ R e w' :=
  deferredQ (args := [p0, p1]) (good (fun _ => []) (fun _ => none) (fun _ => 0) (fun _ => none) (fun _ => []) (fun _ => []) (fun _ => false) (fun _ => false)) Tryz.func91 rfl (by kernel_rfl) (by kernel_rfl) (Nat.le_of_ble_eq_true (by kernel_rfl)) [] (by kernel_rfl) h
end Go.Proofs.YtkmpelgfhjgddaaGreatDoor
namespace Go.Proofs.YtkmpelgfhjgddaaGreatDoor.P
inductive Tm where
  | atom (s : Bs)
  | int (n : Int)
  | var (i : Nat)
  | comp (name : Bs) (args : List Tm)
deriving Inhabited
abbrev Tr := List (Nat × Tm)
def look (i : Nat) : Tr → Option Tm
  | [] => none
  | (j, t) :: r => if i = j then some t else look i r
def walkN (tr : Tr) : Nat → Tm → Option Tm
  | f, .var i => match look i tr with
    | none => some (.var i)
    | some t => match f with
      | 0 => none
      | f + 1 => walkN tr f t
  | _, t => some t
def digs : Nat → Nat → Bs
  | 0, _ => []
  | f + 1, n => if n < 10 then [UInt8.ofNat (48 + n)] else digs f (n / 10) ++ [UInt8.ofNat (48 + n % 10)]
def decN (n : Nat) : Bs := digs (n + 1) n
def decI (n : Int) : Bs := if n < 0 then 45 :: decN n.natAbs else decN n.natAbs
structure Ws where
  fuel : Nat
  out : Bs
  seen : List Nat
def power (name : Bs) (n : Nat) : Nat :=
  if n ≠ 2 then 0 else if name = [43] ∨ name = [45] then 1 else if name = [42] ∨ name = [47, 47] ∨ name = [109, 111, 100] then 2 else 0
def Wb (x : Option (Option Ws)) (k : Ws → Option (Option Ws)) : Option (Option Ws) :=
  match x with
  | none => none
  | some none => some none
  | some (some s) => k s
def Ws.add (s : Ws) (x : Bs) : Ws := { s with out := s.out ++ x }
def varText (s : Ws) (i : Nat) : Ws :=
  match s.seen.idxOf? i with
  | some k => s.add (95 :: decN (k + 1))
  | none => { s with out := s.out ++ 95 :: decN (s.seen.length + 1), seen := s.seen ++ [i] }
mutual
def wTm (tr : Tr) : Nat → Tm → Nat → Ws → Option (Option Ws)
  | 0, _, _, _ => none
  | f + 1, t, least, s =>
    if s.fuel = 0 then some none
    else match walkN tr f t with
      | none => none
      | some (.atom a) => some (some ({ s with fuel := s.fuel - 1 }.add a))
      | some (.int n) => some (some ({ s with fuel := s.fuel - 1 }.add (decI n)))
      | some (.var i) => some (some (varText { s with fuel := s.fuel - 1 } i))
      | some (.comp name args) => wComp tr f name args least { s with fuel := s.fuel - 1 }
  termination_by structural f => f
def wComp (tr : Tr) : Nat → Bs → List Tm → Nat → Ws → Option (Option Ws)
  | 0, _, _, _, _ => none
  | f + 1, name, args, least, s =>
    match args with
    | [a, b] =>
      if power name 2 ≠ 0 then
        if power name 2 < least then
          Wb (wTm tr f a (power name 2) (s.add [40])) fun s => Wb (wTm tr f b (power name 2 + 1) (s.add (if name = [109, 111, 100] then [32, 109, 111, 100, 32] else name))) fun s => some (some (s.add [41]))
        else Wb (wTm tr f a (power name 2) s) fun s => wTm tr f b (power name 2 + 1) (s.add (if name = [109, 111, 100] then [32, 109, 111, 100, 32] else name))
      else if name = [46] then wList tr f 91 a b s
      else Wb (wArgs tr f 40 [a, b] (s.add name)) fun s => some (some (s.add [41]))
    | _ => Wb (wArgs tr f 40 args (s.add name)) fun s => some (some (s.add [41]))
  termination_by structural f => f
def wArgs (tr : Tr) : Nat → UInt8 → List Tm → Ws → Option (Option Ws)
  | 0, _, _, _ => none
  | _ + 1, _, [], s => some (some s)
  | f + 1, sep, a :: r, s => Wb (wTm tr f a 0 (s.add [sep])) fun s => wArgs tr f 44 r s
  termination_by structural f => f
def wList (tr : Tr) : Nat → UInt8 → Tm → Tm → Ws → Option (Option Ws)
  | 0, _, _, _, _ => none
  | f + 1, sep, a, b, s =>
    Wb (wTm tr f a 0 (s.add [sep])) fun s =>
      match walkN tr f b with
      | none => none
      | some (.comp name args) => match args with
        | [c, d] => if name = [46] then wList tr f 44 c d s else Wb (wTm tr f b 0 (s.add [124])) fun s => some (some (s.add [93]))
        | _ => Wb (wTm tr f b 0 (s.add [124])) fun s => some (some (s.add [93]))
      | some (.atom x) => if x = [91, 93] then some (some (s.add [93])) else Wb (wTm tr f b 0 (s.add [124])) fun s => some (some (s.add [93]))
      | some _ => Wb (wTm tr f b 0 (s.add [124])) fun s => some (some (s.add [93]))
  termination_by structural f => f
end
mutual
def made (vs : List Nat) : Ex → Tm
  | .mk kind name n k args => if kind = 97 then .atom name else if kind = 110 then .int n else if kind = 118 then .var (vs.getD k 0) else .comp name (mades vs args)
  termination_by structural x => x
def mades (vs : List Nat) : List Ex → List Tm
  | [] => []
  | x :: xs => made vs x :: mades vs xs
  termination_by structural x => x
end
end Go.Proofs.YtkmpelgfhjgddaaGreatDoor.P
namespace Go.Proofs.YtkmpelgfhjgddaaGreatDoor.P
structure Nd where
  kind : Nat
  name : Bs
  n : Int
  args : List Nat
deriving Inhabited
structure Hp where
  nodes : List Nd
  to : List Int
  trail : List Nat
  cost : Nat
  most : Nat
  err : Nat
def Hp.nd (H : Hp) (t : Nat) : Nd := H.nodes.getD t ⟨0, [], 0, []⟩
def Hp.toOf (H : Hp) (t : Nat) : Int := H.to.getD t (-1)
def Hp.spent (H : Hp) : Bool := decide (H.most < H.cost) || decide (H.err ≠ 0)
def Hp.add (H : Hp) (d : Nd) : Hp := { H with nodes := H.nodes ++ [d], to := H.to ++ [-1] }
def Hp.walk (H : Hp) : Nat → Nat → Option Nat
  | 0, t => if (H.nd t).kind = 118 ∧ 0 ≤ H.toOf t then none else some t
  | f + 1, t => if (H.nd t).kind = 118 ∧ 0 ≤ H.toOf t then H.walk f (H.toOf t).toNat else some t
def Hp.fresh (H : Hp) : Nat → Hp × List Nat
  | 0 => (H, [])
  | n + 1 => let (H', l) := (H.add ⟨118, [], 0, []⟩).fresh n; (H', H.nodes.length :: l)
mutual
def Hp.made (H : Hp) (vs : List Nat) : Ex → Hp × Nat
  | .mk kind name n k args => if kind = 118 then (H, vs.getD k 0) else
    let (H', l) := H.mades vs args
    (H'.add ⟨kind, name, n, l⟩, H'.nodes.length)
  termination_by structural x => x
def Hp.mades (H : Hp) (vs : List Nat) : List Ex → Hp × List Nat
  | [] => (H, [])
  | x :: xs => let (H', t) := H.made vs x; let (H'', l) := H'.mades vs xs; (H'', t :: l)
  termination_by structural x => x
end
def Hp.power (H : Hp) (t : Nat) : Nat := if (H.nd t).kind ≠ 99 then 0 else P.power (H.nd t).name (H.nd t).args.length
abbrev Xr := Bs × Nat × List Nat
def Xb (x : Option Xr) (k : Bs → Nat → List Nat → Option Xr) : Option Xr :=
  match x with
  | none => none
  | some (s, c, l) => k s c l
def Hp.over (H : Hp) (c : Nat) : Bool := decide (H.most < c) || decide (H.err ≠ 0)
mutual
def Hp.text (H : Hp) : Nat → Nat → Nat → Nat → List Nat → Option Xr
  | 0, _, _, _, _ => none
  | f + 1, t, least, c, seen =>
    if H.over (c + 1) then some ([], c + 1, seen)
    else match H.walk f t with
      | none => none
      | some t =>
        if (H.nd t).kind = 97 then some ((H.nd t).name, c + 1, seen)
        else if (H.nd t).kind = 110 then some (decI (H.nd t).n, c + 1, seen)
        else if (H.nd t).kind = 118 then match seen.idxOf? t with
          | some k => some (95 :: decN (k + 1), c + 1, seen)
          | none => some (95 :: decN (seen.length + 1), c + 1, seen ++ [t])
        else if H.power t ≠ 0 then
          Xb (H.text f ((H.nd t).args.getD 0 0) (H.power t) (c + 1) seen) fun a c seen => Xb (H.text f ((H.nd t).args.getD 1 0) (H.power t + 1) c seen) fun b c seen =>
            let op := if (H.nd t).name = [109, 111, 100] then [32, 109, 111, 100, 32] else (H.nd t).name
            some (if H.power t < least then 40 :: (a ++ op ++ b ++ [41]) else a ++ op ++ b, c, seen)
        else if (H.nd t).name = [46] ∧ (H.nd t).args.length = 2 then H.list f t [91] (c + 1) seen
        else H.targs f (H.nd t).args true ((H.nd t).name ++ [40]) (c + 1) seen
  termination_by structural f => f
def Hp.targs (H : Hp) : Nat → List Nat → Bool → Bs → Nat → List Nat → Option Xr
  | 0, _, _, _, _, _ => none
  | _ + 1, [], _, out, c, seen => some (out ++ [41], c, seen)
  | f + 1, a :: r, first, out, c, seen => Xb (H.text f a 0 c seen) fun s c seen => H.targs f r false ((if first then out else out ++ [44]) ++ s) c seen
  termination_by structural f => f
def Hp.list (H : Hp) : Nat → Nat → Bs → Nat → List Nat → Option Xr
  | 0, _, _, _, _ => none
  | f + 1, t, out, c, seen =>
    Xb (H.text f ((H.nd t).args.getD 0 0) 0 c seen) fun a c seen =>
      match H.walk f ((H.nd t).args.getD 1 0) with
      | none => none
      | some r =>
        if H.over c then some (out ++ a, c, seen)
        else if (H.nd r).kind = 97 ∧ (H.nd r).name = [91, 93] then some (out ++ a ++ [93], c, seen)
        else if (H.nd r).kind = 99 ∧ (H.nd r).name = [46] ∧ (H.nd r).args.length = 2 then H.list f r (out ++ a ++ [44]) c seen
        else Xb (H.text f r 0 c seen) fun b c seen => some (out ++ a ++ [124] ++ b ++ [93], c, seen)
  termination_by structural f => f
end
end Go.Proofs.YtkmpelgfhjgddaaGreatDoor.P
namespace Go.Proofs.YtkmpelgfhjgddaaGreatDoor
open Go.RowKit Sx
set_option maxRecDepth 100000
abbrev bytesV (l : P.Bs) : List Value := l.map fun c => .int .u8 c.toNat
def BuA (w : World) (wb : Nat) (S nm : Value) (out : P.Bs) : Prop :=
  ∃ ad buf, (ad = .pointer none ∨ ad = .pointer (some ⟨wb, 0, none⟩)) ∧ w.heap[wb]? = some (.cells #[ad, buf, S, nm] 121 (0, 0)) ∧ w.ownsRow (wb + 1) 5 1 buf out.length (bytesV out)
def MB (wb b : Nat) (o : Obj) : Prop := b = wb ∨ (wb < b ∧ ∃ cs z, o = .cells cs 5 z)
abbrev BFr (wb : Nat) (w w' : World) : Prop := FrM (MB wb) w w'
theorem Tryz.sizeBu : (Tryz.prog.info? 118).map (·.size) = some 2 := by kernel_rfl
theorem Tryz.liesBu : liesAt Tryz.prog Tryz.prog.depth 121 (4 / Tryz.prog.cellsOf 121) 0 118 1 = true := by kernel_rfl
set_option maxHeartbeats 1000000 in
theorem bCopyUsed {b : Nat} {w : World} {buf S nm : Value} (h : w.heap[b]? = some (.cells #[.pointer (some ⟨b, 0, none⟩), buf, S, nm] 121 (0, 0))) :
    Calls Tryz.prog 87 #[.pointer (some ⟨b, 0, none⟩)] w fun e w' => e = .returned (.tuple #[]) ∧ w' = w := by
  obtain ⟨j, hj, _⟩ := Option.map_eq_some_iff.1 Tryz.sizeBu
  have h0 : w.cell? ⟨b, 0, none⟩ = some (.pointer (some ⟨b, 0, none⟩)) := by simp [World.cell?, h]
  go_enter Tryz.func87, Tryz.ntmps87
  go_wp2
  rw [Lib.run_neq_ptr_same w _ Tryz.underlying115 hj]
  go_wp2
  go_end0
  exact ⟨rfl, rfl⟩
set_option maxHeartbeats 1000000 in
theorem bCopyFresh {b : Nat} {w : World} {buf S nm : Value} (h : w.heap[b]? = some (.cells #[.pointer none, buf, S, nm] 121 (0, 0))) :
    Calls Tryz.prog 87 #[.pointer (some ⟨b, 0, none⟩)] w fun e w' => e = .returned (.tuple #[]) ∧ w' = w.setCell ⟨b, 0, none⟩ (.pointer (some ⟨b, 0, none⟩)) := by
  obtain ⟨j, hj, hjs⟩ := Option.map_eq_some_iff.1 Tryz.sizeBu
  have h0 : w.cell? ⟨b, 0, none⟩ = some (.pointer none) := by simp [World.cell?, h]
  have hfz : w.frozen? ⟨b, 0, none⟩ = false := freeOf h 0
  have hsh : w.shape? b = some (121, 4) := by simp [World.shape?, h]
  go_enter Tryz.func87, Tryz.ntmps87
  go_wp2
  rw [Lib.run_to_unsafe w ⟨b, 0, none⟩ Tryz.underlying115 Tryz.underlying149 hj (by rw [hjs]; decide) hsh (Nat.zero_lt_succ 3)]
  simp only [Result.andThen]
  rw [Oper.upon_value]
  go_wp2
  rw [run_callFunc_extern Tryz.func102 (by kernel_rfl) (by kernel_rfl) (by kernel_rfl) (e := Extern.AbiNoEscape.same) (by kernel_rfl)]
  rw [Lib.run_noEscape]
  simp only [Result.andThen]
  rw [Oper.upon_value]
  go_wp2
  rw [Lib.run_from_unsafe w ⟨b, 0, none⟩ Tryz.underlying149 Tryz.underlying115 hj hsh Tryz.liesBu]
  simp only [Result.andThen]
  rw [Oper.upon_value]
  go_wp2
  go_end0
  exact ⟨rfl, rfl⟩
theorem bCopy {wb : Nat} {S nm : Value} {out : P.Bs} {w : World} (h : BuA w wb S nm out) :
    Calls Tryz.prog 87 #[.pointer (some ⟨wb, 0, none⟩)] w fun e w' => e = .returned (.tuple #[]) ∧ BFr wb w w' ∧ w'.heap.size = w.heap.size ∧ ∃ buf,
      w'.heap[wb]? = some (.cells #[.pointer (some ⟨wb, 0, none⟩), buf, S, nm] 121 (0, 0)) ∧ w'.ownsRow (wb + 1) 5 1 buf out.length (bytesV out) := by
  obtain ⟨ad, buf, had, hb, ho⟩ := h
  rcases had with rfl | rfl
  · refine (bCopyFresh hb).mono ?_
    rintro e w' ⟨rfl, rfl⟩
    rw [upd_setCell hb]
    refine ⟨rfl, (FrM.refl _ _).upd (.inl fun _ => .inl rfl), size_upd _ _ _, buf, by rw [hp_upd_same rfl (ltOf hb)]; rfl, own_upd ho (by omega)⟩
  · refine (bCopyUsed hb).mono ?_
    rintro e w' ⟨rfl, rfl⟩
    exact ⟨rfl, FrM.refl _ _, rfl, buf, hb, ho⟩
theorem BFr.ofGrow {wb : Nat} {w1 w2 : World} {buf : Value} {n : Nat} {xs : List Value} (ho : w1.ownsRow (wb + 1) 5 1 buf n xs) (hg : w1.grownBy w2 buf.ownBlock) : BFr wb w1 w2 := ⟨hg.os, hg.tape, hg.output, hg.size, fun b o hb' hm => by
  rw [hg.block b (ltOf hb') (fun e => ?_)]
  · exact hb'
  · rcases ho.2 with ⟨rfl, _⟩ | ⟨g, cap, cur, rfl, k1, k2, _⟩
    · cases e
    · simp only [Value.ownBlock, Option.some.injEq] at e
      subst e
      rw [k2] at hb'
      injection hb' with hb'
      exact hm (.inr ⟨by omega, _, _, hb'.symm⟩)⟩
theorem bWriteString {wb : Nat} {S nm : Value} {out : P.Bs} {w : World} (h : BuA w wb S nm out) (s : P.Bs) (hl : out.length + s.length ≤ 1000000000) :
    Calls Tryz.prog 71 #[.pointer (some ⟨wb, 0, none⟩), .string (bs s)] w fun e w' => (∃ v, e = .returned v) ∧ BuA w' wb S nm (out ++ s) ∧ BFr wb w w' := by
  refine sh_Pstrings_Builder_WriteString_ok ?_
  refine (bCopy h).mono ?_
  rintro e w1 ⟨rfl, hF1, s1, buf, hb, ho⟩
  have l1 := ltOf hb
  simp (disch := first | assumption | omega | ((simp only [size_alloc, sz_drew, size_upd, List.size_toArray, List.length_cons, List.length_nil]) <;> omega) | decide) only [sh_Pstrings_Builder_WriteString, Pr, PX, PC, NX, ends, fillL, wrL, sOf, Nat.reduceAdd, Nat.reduceMul, Nat.reduceLeDiff, Nat.reduceEqDiff, Int.reduceToNat, Int.reduceAdd, Int.reduceLT, Int.reduceLE, ↓reduceIte, forall_const, eq_self, zG1, zG2, fa_118_1, ld_116, ln_9, st_116, hb]
  refine wr_appendStr (e := 5) (by kernel_rfl) ho s hl (by omega) ?_
  intro v' w2 o2 hg hv
  have s2 := hg.size
  have hb2 : w2.heap[wb]? = some (.cells #[.pointer (some ⟨wb, 0, none⟩), buf, S, nm] 121 (0, 0)) := by
    rw [hg.block wb l1 (fun e => by have := (ho.lt wb e.symm).1; omega)]; exact hb
  have l2 := ltOf hb2
  obtain ⟨ra, rc, rfl⟩ := own_slice o2
  simp (disch := first | assumption | omega | ((simp only [size_alloc, sz_drew, size_upd, List.size_toArray, List.length_cons, List.length_nil]) <;> omega) | decide) only [sh_Pstrings_Builder_WriteString, Pr, PX, PC, NX, ends, fillL, wrL, sOf, Nat.reduceAdd, Nat.reduceMul, Nat.reduceLeDiff, Nat.reduceEqDiff, Int.reduceToNat, Int.reduceAdd, Int.reduceLT, Int.reduceLE, ↓reduceIte, forall_const, eq_self, zG1, zG2, fa_118_1, ld_116, ln_9, st_116, hb2]
  have hF2 : BFr wb w1 w2 := BFr.ofGrow ho hg
  refine ⟨⟨_, rfl⟩, ⟨_, _, .inr rfl, hp_upd_same rfl l2, own_upd ?_ (by omega)⟩, (hF1.trans hF2).upd (.inl fun _ => .inl rfl)⟩
  rw [List.length_append]
  simpa [bytesV] using o2
theorem Tryz.infoU8 : (Tryz.prog.info? 5).map (fun i => (i.zero, i.size, i.bytes)) = some (some (.int .u8 0), 1, 1) := by kernel_rfl
theorem bWriteByteS {wb : Nat} {S nm : Value} {out : P.Bs} {w : World} (h : BuA w wb S nm out) (c : UInt8) (hl : out.length + 1 ≤ 1000000000) :
    sh_Pstrings_Builder_WriteByte (.pointer (some ⟨wb, 0, none⟩)) (.int .u8 c.toNat) w fun e w' => (∃ v, e = .returned v) ∧ BuA w' wb S nm (out ++ [c]) ∧ BFr wb w w' := by
  obtain ⟨i, hi, h0⟩ := Option.map_eq_some_iff.1 Tryz.infoU8
  simp only [Prod.mk.injEq] at h0
  obtain ⟨hz, hs, hbt⟩ := h0
  unfold sh_Pstrings_Builder_WriteByte
  refine Calls.mono (bCopy h) ?_
  rintro e w1 ⟨rfl, hF1, s1, buf, hb, ho⟩
  have l1 := ltOf hb
  simp (disch := first | assumption | omega | ((simp only [size_alloc, sz_drew, size_upd, List.size_toArray, List.length_cons, List.length_nil]) <;> omega) | decide) only [sh_Pstrings_Builder_WriteByte, Pr, PX, PC, NX, ends, fillL, wrL, sOf, Nat.reduceAdd, Nat.reduceMul, Nat.reduceLeDiff, Nat.reduceEqDiff, Int.reduceToNat, Int.reduceAdd, Int.reduceLT, Int.reduceLE, ↓reduceIte, forall_const, eq_self, zG1, zG2, br_116_1, fa_118_1, ld_116, st_116, hb]
  refine Sx.wr_appendB (m := 1) (t := 116) (e := 5) (by kernel_rfl) hi hz hs hbt rfl (by decide) (ho.alloc _) (blk_alloc_new _ _) rfl (fun u hu => ?_) hl (by decide) (by rw [size_alloc]; omega) ?_
  · simp only [List.mem_cons, List.not_mem_nil, or_false] at hu
    subst hu
    rfl
  intro v' w2 o2 hg hv
  have s2 := hg.size
  rw [size_alloc] at s2
  have hb2 : w2.heap[wb]? = some (.cells #[.pointer (some ⟨wb, 0, none⟩), buf, S, nm] 121 (0, 0)) := by
    rw [hg.block wb (by rw [size_alloc]; omega) (fun e => by have := (ho.lt wb e.symm).1; omega)]; exact blk_alloc_old hb
  have l2 := ltOf hb2
  obtain ⟨ra, rc, rfl⟩ := own_slice o2
  simp (disch := first | assumption | omega | ((simp only [size_alloc, sz_drew, size_upd, List.size_toArray, List.length_cons, List.length_nil]) <;> omega) | decide) only [sh_Pstrings_Builder_WriteByte, Pr, PX, PC, NX, ends, fillL, wrL, sOf, Nat.reduceAdd, Nat.reduceMul, Nat.reduceLeDiff, Nat.reduceEqDiff, Int.reduceToNat, Int.reduceAdd, Int.reduceLT, Int.reduceLE, ↓reduceIte, forall_const, eq_self, zG1, zG2, br_116_1, fa_118_1, ld_116, st_116, hb2]
  have hF2 : BFr wb w1 w2 := ((FrM.refl _ _).alloc _).trans (BFr.ofGrow (ho.alloc _) hg)
  refine ⟨⟨_, rfl⟩, ⟨_, _, .inr rfl, hp_upd_same rfl l2, own_upd ?_ (by omega)⟩, (hF1.trans hF2).upd (.inl fun _ => .inl rfl)⟩
  rw [List.length_append]
  simpa [bytesV] using o2
theorem bWriteByte {wb : Nat} {S nm : Value} {out : P.Bs} {w : World} (h : BuA w wb S nm out) (c : UInt8) (hl : out.length + 1 ≤ 1000000000) :
    Calls Tryz.prog 91 #[.pointer (some ⟨wb, 0, none⟩), .int .u8 c.toNat] w fun e w' => (∃ v, e = .returned v) ∧ BuA w' wb S nm (out ++ [c]) ∧ BFr wb w w' :=
  sh_Pstrings_Builder_WriteByte_ok (bWriteByteS h c hl)
theorem bWriteByteD {wb : Nat} {S nm : Value} {out : P.Bs} {w : World} (h : BuA w wb S nm out) (c : UInt8) (hl : out.length + 1 ≤ 1000000000) {u : FrameMode} :
    CallsD Tryz.prog 91 #[.pointer (some ⟨wb, 0, none⟩), .int .u8 c.toNat] u w fun e u' w' => u' = u ∧ (∃ v, e = .returned v) ∧ BuA w' wb S nm (out ++ [c]) ∧ BFr wb w w' :=
  sh_Pstrings_Builder_WriteByte_okD (bWriteByteS h c hl)
theorem Tryz.cellsU8 : Tryz.prog.cellsOf 5 = 1 := by kernel_rfl
theorem freeze_fr {wb : Nat} {w : World} {g n : Nat} {cur : Array Value} {z : Nat × Nat} (hg : wb < g) (hb : w.heap[g]? = some (.cells cur 5 z)) : BFr wb w (w.freeze ⟨g, 0, none⟩ n) := by
  unfold World.freeze
  split
  · exact FrM.refl _ _
  · exact ⟨rfl, rfl, rfl, by simp, fun b o ho hm => by
      simp only [Array.getElem?_modify]
      rw [if_neg]
      · exact ho
      · rintro rfl
        rw [hb] at ho
        injection ho with ho
        exact hm (.inr ⟨hg, _, _, ho.symm⟩)⟩
set_option maxHeartbeats 1000000 in
theorem bString {wb : Nat} {S nm : Value} {out : P.Bs} {w : World} (h : BuA w wb S nm out) (h0 : out ≠ []) :
    Calls Tryz.prog 40 #[.pointer (some ⟨wb, 0, none⟩)] w fun e w' => e = .returned (.string (bs out)) ∧ BFr wb w w' := by
  obtain ⟨ad, buf, had, hb, ho⟩ := h
  have hl0 : out.length ≠ 0 := by simpa using h0
  obtain ⟨g, cap, cur, rfl, hbg, hg, hnc, hcm, hcs, htake⟩ : ∃ g cap cur, buf = .slice (some ⟨g, 0, none⟩) out.length cap ∧ wb + 1 ≤ g ∧ w.heap[g]? = some (.cells cur 5 (0, 0)) ∧ out.length ≤ cap ∧ cap ≤ maxLen ∧ cur.size = cap * 1 ∧ cur.toList.take (out.length * 1) = bytesV out := by
    rcases ho.2 with ⟨_, hz⟩ | ⟨g, cap, cur, hv, r⟩
    · exact absurd hz hl0
    · exact ⟨g, cap, cur, hv, r⟩
  have hbd : w.drew.heap[wb]? = some (.cells #[ad, .slice (some ⟨g, 0, none⟩) out.length cap, S, nm] 121 (0, 0)) := hb
  have c1 : w.drew.cell? ⟨wb, 1, none⟩ = some (.slice (some ⟨g, 0, none⟩) out.length cap) := by simp [World.cell?, hbd]
  have hSD : (Builtin.unsafeSliceData_ #[116] 180 #[.slice (some ⟨g, 0, none⟩) out.length cap]).run Tryz.prog w.drew = .ok (.pointer (some ⟨g, 0, none⟩)) w.drew :=
    Lib.run_unsafeSliceData_row _ _ _ _ _ _ (by omega)
  have hUS : (Builtin.unsafeString_ #[180, 3] 9 #[.pointer (some ⟨g, 0, none⟩), .int .i64 out.length]).run Tryz.prog w.drew = .ok (.string (bs out)) (w.drew.freeze ⟨g, 0, none⟩ out.length) := by
    refine Lib.run_unsafeString_row w.drew 180 3 9 5 Tryz.underlying180 Tryz.cellsU8 g cur.size (by have hg' : w.drew.heap[g]? = some (.cells cur 5 (0, 0)) := hg; simp [World.shape?, hg']) out h0 (by omega) (by unfold maxLen at hcm; omega) ?_
    intro j x hx
    have := ho.cells (g := g) rfl j (.int .u8 x.toNat) (by simp [bytesV, hx])
    exact this
  go_enter Tryz.func40, Tryz.ntmps40
  go_wp2
  go_region
  all_goals (go_wp2; go_ret; exact ⟨rfl, (FrM.drew (FrM.refl _ _)).trans (freeze_fr (by omega) hg)⟩)
end Go.Proofs.YtkmpelgfhjgddaaGreatDoor
namespace Go.Proofs.YtkmpelgfhjgddaaGreatDoor
open Go.Proofs.YtkmpelgfhjgddaaGreatDoor.Sx
set_option maxRecDepth 100000
set_option linter.unusedVariables false
def sh_Pt_Store_Spend (p0 : Value) (w : World) (R : Ending → World → Prop) : Prop :=
  NC p0 fun x3 =>
  RD Tryz.prog (Instr.fieldAt 114 x3 1) w (fun x4 =>
  RD Tryz.prog (Instr.loadAt 3 x4) w (fun x5 =>
  RD Tryz.prog (bo .sub 3 (.tmp 5) (.const (.int .i64 1)) x5 (.int .i64 1)) w (fun x6 =>
  NC p0 fun x7 =>
  RD Tryz.prog (Instr.fieldAt 114 x7 1) w (fun x8 =>
  WU Tryz.prog (Instr.storeAt 3 x8 x6) w (fun w1 =>
  NC p0 fun x10 =>
  RD Tryz.prog (Instr.fieldAt 114 x10 1) w1 (fun x11 =>
  RD Tryz.prog (Instr.loadAt 3 x11) w1 (fun x12 =>
  RD Tryz.prog (bo .lss 3 (.tmp 12) (.const (.int .i64 0)) x12 (.int .i64 0)) w1 (fun x13 =>
  BS x13 (RD Tryz.prog (Instr.build 200 #[]) w1 (fun x14 =>
  WR Tryz.prog (Instr.makeInterface 200 x14) w1 (fun x15 w1_1 =>
  RD Tryz.prog (Instr.panic x15) w1_1 (fun _ =>
  R (.returned (.tuple #[])) w1_1) (PX R)) (PX R)) (PX R)) (R (.returned (.tuple #[])) w1)) (PX R)) (PX R)) (PX R)) (PX R)) (PX R)) (PX R)) (PX R)) (PX R)
theorem sh_Pt_Store_Spend_ok {p0 : Value} {w : World} {R : Ending → World → Prop} (h : sh_Pt_Store_Spend p0 w R) : Calls Tryz.prog 69 #[p0] w R :=
  callsEq (args := [p0]) (good (fun _ => []) (fun _ => none) (fun _ => 0) (fun _ => none) (fun _ => []) (fun _ => []) (fun _ => false) (fun n => match n with | 13 => true | _ => false)) Tryz.func69 rfl (by kernel_rfl) (by kernel_rfl) (Nat.le_of_ble_eq_true (by kernel_rfl)) [] (by kernel_rfl) h
def sh_t_Walk (p0 : Value) (w : World) (R : Ending → World → Prop) : Prop :=
  LoopW (fun rec s d w1 =>
    RD Tryz.prog (Instr.typeAssert (s 0) 107 105 true) w1 (fun x7 =>
    RD Tryz.prog (Instr.extract x7 0) w1 (fun x8 =>
    RD Tryz.prog (Instr.extract x7 1) w1 (fun x9 =>
    JS (fun j =>
      JS (fun j_1 =>
        RD Tryz.prog (Op.unary .not x9) w1 (fun x11 => BS x11 (
        j_1 (sOf [(18, (.bool true))]) w1) (
        NC x8 fun x14 =>
        RD Tryz.prog (Instr.fieldAt 109 x14 0) w1 (fun x15 =>
        RD Tryz.prog (Instr.loadAt 107 x15) w1 (fun x16 =>
        RD Tryz.prog (bo .eql 107 (.tmp 16) (.const .nilIface) x16 .nilIface) w1 (fun x17 =>
        j_1 (sOf [(18, x17)]) w1) (PX R)) (PX R)) (PX R))) (PX R))
        (fun s_2 d_2 w1_2 =>
        BS (s_2 18) (R (.returned (s 0)) w1_2) (j (sOf []) w1_2)))
      (fun s_1 d_1 w1_1 =>
      NC x8 fun x21 =>
      RD Tryz.prog (Instr.fieldAt 109 x21 0) w1_1 (fun x22 =>
      RD Tryz.prog (Instr.loadAt 107 x22) w1_1 (fun x23 =>
      rec (sOf [(0, x23)]) w1_1) (PX R)) (PX R))) (PX R)) (PX R)) (PX R))
    (sOf [(0, p0)]) w
theorem sh_t_Walk_ok {p0 : Value} {w : World} {R : Ending → World → Prop} (h : sh_t_Walk p0 w R) : Calls Tryz.prog 70 #[p0] w R :=
  callsEq (args := [p0]) (good (fun n => match n with | 1 => [0] | _ => []) (fun n => match n with | 2000 => some [18] | 3001 => some [] | _ => none) (fun _ => 0) (fun _ => none) (fun n => match n with | 1 => [] | _ => []) (fun n => match n with | 2000 => [] | 3001 => [] | _ => []) (fun n => match n with | 2000 => true | 3001 => true | _ => false) (fun n => match n with | 4 => true | 9 => true | 10 => true | 17 => true | 18 => true | _ => false)) Tryz.func70 rfl (by kernel_rfl) (by kernel_rfl) (Nat.le_of_ble_eq_true (by kernel_rfl)) [] (by kernel_rfl) h
def sh_t_power (p0 p1 : Value) (w : World) (R : Ending → World → Prop) : Prop :=
  RD Tryz.prog (bo .neq 3 (.tmp 6) (.const (.int .i64 2)) p1 (.int .i64 2)) w (fun x7 =>
  BS x7 (R (.returned (.int .i64 0)) w) (JS (fun j =>
    RD Tryz.prog (bo .eql 9 (.tmp 9) (.const (.string (bs [43]))) p0 (.string (bs [43]))) w (fun x10 => BS x10 (
    j (sOf [(8, (.bool true))]) w) (
    RD Tryz.prog (bo .eql 9 (.tmp 12) (.const (.string (bs [45]))) p0 (.string (bs [45]))) w (fun x13 =>
    j (sOf [(8, x13)]) w) (PX R))) (PX R))
    (fun s d w1 =>
    BS (s 8) (R (.returned (.int .i64 1)) w1) (JS (fun j_1 =>
      RD Tryz.prog (bo .eql 9 (.tmp 16) (.const (.string (bs [42]))) p0 (.string (bs [42]))) w1 (fun x17 => BS x17 (
      j_1 (sOf [(15, (.bool true))]) w1) (
      RD Tryz.prog (bo .eql 9 (.tmp 19) (.const (.string (bs [47, 47]))) p0 (.string (bs [47, 47]))) w1 (fun x20 => BS x20 (
      j_1 (sOf [(15, (.bool true))]) w1) (
      RD Tryz.prog (bo .eql 9 (.tmp 23) (.const (.string (bs [109, 111, 100]))) p0 (.string (bs [109, 111, 100]))) w1 (fun x24 =>
      j_1 (sOf [(15, x24)]) w1) (PX R))) (PX R))) (PX R))
      (fun s_1 d_1 w1_1 =>
      BS (s_1 15) (R (.returned (.int .i64 2)) w1_1) (R (.returned (.int .i64 0)) w1_1)))))) (PX R)
theorem sh_t_power_ok {p0 p1 : Value} {w : World} {R : Ending → World → Prop} (h : sh_t_power p0 p1 w R) : Calls Tryz.prog 90 #[p0, p1] w R :=
  callsEq (args := [p0, p1]) (good (fun _ => []) (fun n => match n with | 3000 => some [8] | 5000 => some [15] | _ => none) (fun _ => 0) (fun _ => none) (fun _ => []) (fun n => match n with | 3000 => [] | 5000 => [] | _ => []) (fun n => match n with | 3000 => true | 5000 => true | _ => false) (fun n => match n with | 5 => true | 7 => true | 8 => true | 13 => true | 14 => true | 15 => true | 24 => true | 25 => true | _ => false)) Tryz.func90 rfl (by kernel_rfl) (by kernel_rfl) (Nat.le_of_ble_eq_true (by kernel_rfl)) [] (by kernel_rfl) h
def sh_w_Made (p0 p1 : Value) (w : World) (R : Ending → World → Prop) : Prop :=
  NC p0 fun x9 =>
  RD Tryz.prog (Instr.fieldAt 177 x9 0) w (fun x10 =>
  RD Tryz.prog (Instr.loadAt 5 x10) w (fun x11 =>
  RD Tryz.prog (bo .eql 5 (.tmp 11) (.const (.int .u8 97)) x11 (.int .u8 97)) w (fun x13 =>
  BS x13 (NC p0 fun x15 =>
  RD Tryz.prog (Instr.fieldAt 177 x15 1) w (fun x16 =>
  RD Tryz.prog (Instr.loadAt 9 x16) w (fun x17 =>
  WR Tryz.prog (Instr.makeInterface 168 x17) w (fun x18 w1 =>
  R (.returned x18) w1) (PX R)) (PX R)) (PX R)) (RD Tryz.prog (bo .eql 5 (.tmp 11) (.const (.int .u8 110)) x11 (.int .u8 110)) w (fun x20 =>
  BS x20 (NC p0 fun x22 =>
  RD Tryz.prog (Instr.fieldAt 177 x22 2) w (fun x23 =>
  RD Tryz.prog (Instr.loadAt 2 x23) w (fun x24 =>
  WR Tryz.prog (Instr.makeInterface 171 x24) w (fun x25 w1_1 =>
  R (.returned x25) w1_1) (PX R)) (PX R)) (PX R)) (RD Tryz.prog (bo .eql 5 (.tmp 11) (.const (.int .u8 118)) x11 (.int .u8 118)) w (fun x27 =>
  BS x27 (NC p0 fun x30 =>
  RD Tryz.prog (Instr.fieldAt 177 x30 3) w (fun x31 =>
  RD Tryz.prog (Instr.loadAt 3 x31) w (fun x32 =>
  RD Tryz.prog (Instr.indexAt 100 p1 x32) w (fun x33 =>
  RD Tryz.prog (Instr.loadAt 107 x33) w (fun x34 =>
  R (.returned x34) w) (PX R)) (PX R)) (PX R)) (PX R)) (NC p0 fun x36 =>
  RD Tryz.prog (Instr.fieldAt 177 x36 1) w (fun x37 =>
  RD Tryz.prog (Instr.loadAt 9 x37) w (fun x38 =>
  RD Tryz.prog (Instr.build 179 #[(0, x38)]) w (fun x39 =>
  WR Tryz.prog (Instr.box 179 x39) w (fun x40 w1_2 =>
  NC p0 fun x42 =>
  RD Tryz.prog (Instr.fieldAt 177 x42 4) w1_2 (fun x43 =>
  RD Tryz.prog (Instr.loadAt 101 x43) w1_2 (fun x44 =>
  RD Tryz.prog (Builtin.len_ #[101] 3 #[x44]) w1_2 (fun x45 =>
  LoopW (fun rec s d w1_3 =>
    RD Tryz.prog (bo .lss 3 (.tmp 46) (.tmp 45) (s 46) x45) w1_3 (fun x47 =>
    BS x47 (RD Tryz.prog (Instr.indexAt 101 x44 (s 46)) w1_3 (fun x48 =>
    RD Tryz.prog (Instr.loadAt 124 x48) w1_3 (fun x49 =>
    HD fun S => S w1_3.drew ∧
    NC x40 fun x52 =>
    RDS Tryz.prog (Instr.fieldAt 179 x52 1) S (fun x53 =>
    RDS Tryz.prog (Instr.loadAt 100 x53) S (fun x54 =>
    CA Tryz.prog 39 #[x49, p1] w1_3.drew (fun x57 w1_4 =>
    S w1_4 ∧
    WR Tryz.prog (Instr.buildSlice 100 1 #[(0, x57)]) w1_4 (fun x58 w1_5 =>
    S w1_5 ∧
    WR Tryz.prog (Builtin.append_ #[100, 100] 100 #[x54, x58]) w1_5 (fun x59 w1_6 =>
    S w1_6 ∧
    NC x40 fun x60 =>
    RD Tryz.prog (Instr.fieldAt 179 x60 1) w1_6 (fun x61 =>
    WU Tryz.prog (Instr.storeAt 100 x61 x59) w1_6 (fun w1_7 =>
    RD Tryz.prog (bo .add 3 (.tmp 46) (.const (.int .i64 1)) (s 46) (.int .i64 1)) w1_7 (fun x62 =>
    rec (sOf [(46, x62)]) w1_7) (PX R)) NX) NX) NX) NX) NC0))) (PX R)) (PX R)) (WR Tryz.prog (Instr.makeInterface 174 x40) w1_3 (fun x64 w1_8 =>
  R (.returned x64) w1_8) (PX R))) (PX R))
    (sOf [(46, (.int .i64 0))]) w1_2) (PX R)) (PX R)) (PX R)) (PX R)) (PX R)) (PX R)) (PX R))) (PX R))) (PX R))) (PX R)) (PX R)) (PX R)
theorem sh_w_Made_ok {p0 p1 : Value} {w : World} {R : Ending → World → Prop} (h : sh_w_Made p0 p1 w R) : Calls Tryz.prog 39 #[p0, p1] w R :=
  callsEq (args := [p0, p1]) (good (fun n => match n with | 10 => [46] | _ => []) (fun _ => none) (fun _ => 0) (fun n => match n with | 12 => some [13, 0, 1, 2, 3, 4, 5, 6, 7, 8, 9, 10, 11, 12] | _ => none) (fun n => match n with | 10 => [] | _ => []) (fun _ => []) (fun _ => false) (fun n => match n with | 12 => true | 13 => true | 19 => true | 20 => true | 26 => true | 27 => true | 47 => true | _ => false)) Tryz.func39 rfl (by kernel_rfl) (by kernel_rfl) (Nat.le_of_ble_eq_true (by kernel_rfl)) [] (by kernel_rfl) h
def sh_s_Term_c1 (p0 : Value) (w : World) (R : Ending → World → Prop) : Prop :=
  CA Tryz.prog 68 #[p0] w (fun x5 w1 =>
  JS (fun j =>
    NC p0 fun x7 =>
    RD Tryz.prog (Instr.fieldAt 142 x7 0) w1 (fun x8 =>
    RD Tryz.prog (Instr.loadAt 140 x8) w1 (fun x9 =>
    RD Tryz.prog (Instr.indexAt 140 x9 (.int .i64 0)) w1 (fun x10 =>
    RD Tryz.prog (Instr.fieldAt 139 x10 0) w1 (fun x11 =>
    RD Tryz.prog (Instr.loadAt 137 x11) w1 (fun x12 =>
    RD Tryz.prog (bo .neq 137 (.tmp 12) (.const (.int .i64 0)) x12 (.int .i64 0)) w1 (fun x13 =>
    BS x13 (CA Tryz.prog 51 #[p0] w1 (fun x15 w1_2 =>
    j (sOf []) w1_2) (PC R)) (j (sOf []) w1)) (PX R)) (PX R)) (PX R)) (PX R)) (PX R)) (PX R))
    (fun s d w1_1 =>
    WR Tryz.prog (Instr.buildSlice 101 1 #[(0, x5)]) w1_1 (fun x17 w1_3 =>
    NC p0 fun x19 =>
    RD Tryz.prog (Instr.fieldAt 142 x19 1) w1_3 (fun x20 =>
    RD Tryz.prog (Instr.loadAt 38 x20) w1_3 (fun x21 =>
    RD Tryz.prog (Instr.build 104 #[(1, x17), (3, x21)]) w1_3 (fun x22 =>
    WR Tryz.prog (Instr.box 104 x22) w1_3 (fun x23 w1_4 =>
    R (.returned x23) w1_4) (PX R)) (PX R)) (PX R)) (PX R)) (PX R))) (PC R)
theorem sh_s_Term_c1_ok {p0 : Value} {w : World} {R : Ending → World → Prop} (h : sh_s_Term_c1 p0 w R) : Calls Tryz.prog 67 #[p0] w R :=
  callsEq (args := [p0]) (good (fun _ => []) (fun n => match n with | 3001 => some [] | _ => none) (fun _ => 0) (fun _ => none) (fun _ => []) (fun n => match n with | 3001 => [] | _ => []) (fun n => match n with | 3001 => true | _ => false) (fun n => match n with | 13 => true | _ => false)) Tryz.func67 rfl (by kernel_rfl) (by kernel_rfl) (Nat.le_of_ble_eq_true (by kernel_rfl)) [] (by kernel_rfl) h
def sh_s_Term (p0 : Value) (w : World) (R : Ending → World → Prop) : Prop :=
  CA Tryz.prog 66 #[p0, (.func (.func 67) #[] #[])] w (fun x5 w1 =>
  RD Tryz.prog (Instr.extract x5 0) w1 (fun x6 =>
  RD Tryz.prog (Instr.extract x5 1) w1 (fun x7 =>
  R (.returned (.tuple #[x6, x7])) w1) (PX R)) (PX R)) (PC R)
theorem sh_s_Term_ok {p0 : Value} {w : World} {R : Ending → World → Prop} (h : sh_s_Term p0 w R) : Calls Tryz.prog 37 #[p0] w R :=
  callsEq (args := [p0]) (good (fun _ => []) (fun _ => none) (fun _ => 0) (fun _ => none) (fun _ => []) (fun _ => []) (fun _ => false) (fun _ => false)) Tryz.func37 rfl (by kernel_rfl) (by kernel_rfl) (Nat.le_of_ble_eq_true (by kernel_rfl)) [] (by kernel_rfl) h
def sh_h_Read (p0 : Value) (w : World) (R : Ending → World → Prop) : Prop :=
  CA Tryz.prog 37 #[p0] w (fun x11 w1 =>
  RD Tryz.prog (Instr.extract x11 0) w1 (fun x12 =>
  RD Tryz.prog (Instr.extract x11 1) w1 (fun x13 =>
  RD Tryz.prog (bo .neq 48 (.tmp 14) (.const .nilIface) x13 .nilIface) w1 (fun x15 =>
  BS x15 (R (.returned (.tuple #[(.string (bs [])), x13])) w1) (NC x12 fun x18 =>
  RD Tryz.prog (Instr.fieldAt 104 x18 3) w1 (fun x19 =>
  RD Tryz.prog (Instr.loadAt 38 x19) w1 (fun x20 =>
  RD Tryz.prog (Builtin.len_ #[38] 3 #[x20]) w1 (fun x21 =>
  WR Tryz.prog (Instr.makeSlice 100 x21 x21) w1 (fun x22 w1_1 =>
  RD Tryz.prog (Builtin.len_ #[100] 3 #[x22]) w1_1 (fun x24 =>
  LoopW (fun rec s d w1_2 =>
    RD Tryz.prog (bo .lss 3 (.tmp 25) (.tmp 24) (s 25) x24) w1_2 (fun x26 =>
    BS x26 (WR Tryz.prog (Instr.alloc 109 true (.tuple #[])) w1_2 (fun x30 w1_3 =>
    WR Tryz.prog (Instr.makeInterface 105 x30) w1_3 (fun x31 w1_4 =>
    RD Tryz.prog (Instr.indexAt 100 x22 (s 25)) w1_4 (fun x32 =>
    WU Tryz.prog (Instr.storeAt 107 x32 x31) w1_4 (fun w1_5 =>
    RD Tryz.prog (bo .add 3 (.tmp 25) (.const (.int .i64 1)) (s 25) (.int .i64 1)) w1_5 (fun x33 =>
    rec (sOf [(25, x33)]) w1_5) (PX R)) (PX R)) (PX R)) (PX R)) (PX R)) (RD Tryz.prog (Instr.build 114 #[(1, (.int .i64 1000000))]) w1_2 (fun x34 =>
  WR Tryz.prog (Instr.box 114 x34) w1_2 (fun x35 w1_6 =>
  RD Tryz.prog (Instr.build 121 #[(1, x35)]) w1_6 (fun x36 =>
  WR Tryz.prog (Instr.box 121 x36) w1_6 (fun x37 w1_7 =>
  NC x12 fun x40 =>
  RD Tryz.prog (Instr.fieldAt 104 x40 1) w1_7 (fun x41 =>
  RD Tryz.prog (Instr.loadAt 101 x41) w1_7 (fun x42 =>
  RD Tryz.prog (Instr.indexAt 101 x42 (.int .i64 0)) w1_7 (fun x43 =>
  RD Tryz.prog (Instr.loadAt 124 x43) w1_7 (fun x44 =>
  CA Tryz.prog 39 #[x44, x22] w1_7 (fun x46 w1_8 =>
  CA Tryz.prog 38 #[x37, x46, (.int .i64 0)] w1_8 (fun x47 w1_9 =>
  NC x37 fun x49 =>
  RD Tryz.prog (Instr.fieldAt 121 x49 0) w1_9 (fun x50 =>
  CA Tryz.prog 40 #[x50] w1_9 (fun x51 w1_10 =>
  R (.returned (.tuple #[x51, .nilIface])) w1_10) (PC R)) (PX R)) (PC R)) (PC R)) (PX R)) (PX R)) (PX R)) (PX R)) (PX R)) (PX R)) (PX R)) (PX R))) (PX R))
    (sOf [(25, (.int .i64 0))]) w1_1) (PX R)) (PX R)) (PX R)) (PX R)) (PX R))) (PX R)) (PX R)) (PX R)) (PC R)
theorem sh_h_Read_ok {p0 : Value} {w : World} {R : Ending → World → Prop} (h : sh_h_Read p0 w R) : Calls Tryz.prog 21 #[p0] w R :=
  callsEq (args := [p0]) (good (fun n => match n with | 6 => [25] | _ => []) (fun _ => none) (fun _ => 0) (fun _ => none) (fun n => match n with | 6 => [] | _ => []) (fun _ => []) (fun _ => false) (fun n => match n with | 15 => true | 26 => true | _ => false)) Tryz.func21 rfl (by kernel_rfl) (by kernel_rfl) (Nat.le_of_ble_eq_true (by kernel_rfl)) [] (by kernel_rfl) h
def sh_p_Read (p0 : Value) (w : World) (R : Ending → World → Prop) : Prop :=
  CA Tryz.prog 21 #[p0] w (fun x11 w1 =>
  RD Tryz.prog (Instr.extract x11 0) w1 (fun x12 =>
  RD Tryz.prog (Instr.extract x11 1) w1 (fun x13 =>
  CA Tryz.prog 14 #[x13] w1 (fun x16 w1_1 =>
  RD Tryz.prog (Instr.extract x16 0) w1_1 (fun x17 =>
  RD Tryz.prog (Instr.extract x16 1) w1_1 (fun x18 =>
  R (.returned (.tuple #[x12, x17, x18])) w1_1) (PX R)) (PX R)) (PC R)) (PX R)) (PX R)) (PC R)
theorem sh_p_Read_ok {p0 : Value} {w : World} {R : Ending → World → Prop} (h : sh_p_Read p0 w R) : Calls Tryz.prog 10 #[p0] w R :=
  callsEq (args := [p0]) (good (fun _ => []) (fun _ => none) (fun _ => 0) (fun _ => none) (fun _ => []) (fun _ => []) (fun _ => false) (fun _ => false)) Tryz.func10 rfl (by kernel_rfl) (by kernel_rfl) (Nat.le_of_ble_eq_true (by kernel_rfl)) [] (by kernel_rfl) h
end Go.Proofs.YtkmpelgfhjgddaaGreatDoor
