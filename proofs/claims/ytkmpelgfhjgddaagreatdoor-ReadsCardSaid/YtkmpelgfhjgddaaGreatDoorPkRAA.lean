/- A part of one proof (Sx, Sx2, SxG); no conditions beyond what each theorem names. -/
import Derived.WalkKit
import Derived.StillTail
import Derived.OrdersHeld
import Derived.KernelRfl
import Derived.Scope
set_option linter.all false
set_option linter.unusedVariables false
set_option linter.unusedSimpArgs false
namespace Go.Proofs.YtkmpelgfhjgddaaGreatDoor.Sx
open Go
abbrev RT {α : Type} (_ : α) : Type := Prop
def RD (P : Program) (s : Sem Value) (w : World) (K : Value → Prop) (X : Value → World → Prop) : RT (K, X) :=
  match s.run P w with
  | .ok v w' => w' = w ∧ K v
  | .halt (.panic v) w' => X v w'
  | _ => False
def WR (P : Program) (s : Sem Value) (w : World) (K : Value → World → Prop) (X : Value → World → Prop) : RT (K, X) :=
  match s.run P w with
  | .ok v w' => K v w'
  | .halt (.panic v) w' => X v w'
  | _ => False
def WU (P : Program) (s : Sem Unit) (w : World) (K : World → Prop) (X : Value → World → Prop) : RT (K, X) :=
  match s.run P w with
  | .ok _ w' => K w'
  | .halt (.panic v) w' => X v w'
  | _ => False
def ends (K : Value → World → Prop) (X : List PanicEntry → World → Prop) : Ending → World → Prop
  | .returned v, w => K v w
  | .panicked ch, w => X ch w
  | .outgrown, _ => False
def CA (P : Program) (k : FuncId) (args : Array Value) (w : World) (K : Value → World → Prop) (X : List PanicEntry → World → Prop) : RT (K, X) :=
  Calls P k args w (ends K X)
def CQ (P : Program) (k : FuncId) (args : Array Value) (w : World) (K : Value → Prop) : RT K :=
  ∃ v, Calls P k args w (fun e w'' => e = .returned v ∧ w'' = w) ∧ K v
def callable (P : Program) (k : FuncId) : Bool :=
  match P.funcs[k]? with
  | some fn => fn.body.isSome && !(fn.name == "runtime.NumGoroutine")
  | none => false
def CV (P : Program) (f : Value) (args : Array Value) (w : World) (K : Value → World → Prop) (X : List PanicEntry → World → Prop) : RT (K, X) :=
  match f with
  | .func (.func k) first cap => callable P k = true ∧ CA P k (first ++ args ++ cap) w K X
  | _ => False
def CI (P : Program) (v : Value) (name : String) (args : Array Value) (w : World) (K : Value → World → Prop) (X : List PanicEntry → World → Prop) : RT (K, X) :=
  match v with
  | .iface t x => ∃ f r, (method (P.types.size + Made.depth) t x name).run P w = .ok (f, r) w ∧ callable P f = true ∧ CA P f (#[r] ++ args) w K X
  | _ => False
def BS (v : Value) (A B : Prop) : RT (A, B) :=
  match v with
  | .bool c => (c = true → A) ∧ (c = false → B)
  | _ => False
def PX (R : Ending → World → Prop) (v : Value) (w : World) : Prop := R (.panicked [{ v, recovered := false }]) w
def PC (R : Ending → World → Prop) (ch : List PanicEntry) (w : World) : Prop := R (.panicked ch) w
def DF (v : Value) (K : Fn → Array Value → Array Value → Prop) : RT K :=
  match v with
  | .func f x y => K f x y
  | _ => False
def NC0 (_ : List PanicEntry) (_ : World) : Prop := False
def NX (_ : Value) (_ : World) : Prop := False
def NC (v : Value) (K : Value → Prop) : RT K :=
  match v with
  | .pointer (some a) => K (.pointer (some a))
  | .iface t x => K (.iface t x)
  | .func (.func f) x y => K (.func (.func f) x y)
  | _ => False
def LoopW (F : ((Nat → Value) → World → Prop) → (Nat → Value) → (Nat → Value) → World → Prop) (s0 : Nat → Value) (w0 : World) : RT F :=
  ∃ I : Nat → (Nat → Value) → World → Prop, (∃ n, I n s0 w0) ∧ ∀ n s d w, I n s w → F (fun s' w' => ∃ m, m < n ∧ I m s' w') s d w
def JN (F : ((Nat → Value) → World → Prop) → Prop) (R : (Nat → Value) → (Nat → Value) → World → Prop) : RT (F, R) :=
  F fun s w => ∀ d, R s d w
def JS (F : ((Nat → Value) → World → Prop) → Prop) (R : (Nat → Value) → (Nat → Value) → World → Prop) : RT (F, R) :=
  ∃ J : (Nat → Value) → World → Prop, F J ∧ ∀ s w, J s w → ∀ d, R s d w
def sOf : List (Nat × Value) → Nat → Value
  | [], _ => undef
  | (j, v) :: r, i => if j = i then v else sOf r i
def RDS (P : Program) (s : Sem Value) (S : World → Prop) (K : Value → Prop) : RT (S, K) :=
  ∃ v, (∀ w', S w' → s.run P w' = .ok v w') ∧ K v
def HD (F : (World → Prop) → Prop) : RT F := ∃ S, F S
structure Cfg where
  P : Program
  B : TypeId → Bool
  calls : FuncId → Bool
  live : Nat → List Nat
  join : Nat → Option (List Nat)
  tail : Nat → Nat
  held : Nat → Option (List Nat)
  bl : Nat → List Nat
  bj : Nat → List Nat
  sum : Nat → Bool
  sy : Nat → Bool
structure Env where
  f : Nat → Value
  defers : List Deferred
def Env.eval (e : Env) : Operand → Value
  | .tmp t => e.f t
  | .const v => v
  | .global g => .pointer (some ⟨g, 0, none⟩)
  | .func f => .func (.func f) #[] #[]
def setF (f : Nat → Value) (d : Nat) (v : Value) (j : Nat) : Value := cond (Nat.beq j d) v (f j)
def Env.put (e : Env) (d : Option Tmp) (v : Value) : Env :=
  match d with
  | some d => { e with f := setF e.f d v }
  | none => e
def yieldedE (ops : Array Oper) (e : Env) (j : Nat) : Option Bool :=
  match (ops[j]?).bind (·.dst) with
  | some d => match e.f d with
    | .bool b => some b
    | _ => none
  | none => none
def evs (a : Env) (l : Array Operand) : Array Value := (l.toList.map a.eval).toArray
def evp (a : Env) (l : Array (Nat × Operand)) : Array (Nat × Value) := (l.toList.map fun x => (x.1, a.eval x.2)).toArray
def evo (a : Env) : Option Operand → Option Value
  | none => none
  | some x => some (a.eval x)
def early (C : Cfg) (o : Oper) : Bool :=
  match o.dst with
  | some d => !C.sy d
  | none => true
def bso (C : Cfg) (o : Oper) (K : Value → Prop) (v : Value) : Prop :=
  match C.B o.type && early C o with
  | true => BS v (K (.bool true)) (K (.bool false))
  | false => K v
def reading (a : Env) (o : Oper) : Option (Sem Value) :=
  match o.op with
  | .build t parts => some (Instr.build t (evp a parts))
  | .load t x => some (Instr.loadAt t (a.eval x))
  | .binOp op t x y _ => some (do eqGuard op t x y (a.eval x) (a.eval y); binOp op t (a.eval x) (a.eval y))
  | .unOp op _ x => some (Op.unary op (a.eval x))
  | .slice t x lo hi mx => some (Instr.sliceAt t (a.eval x) (evo a lo) (evo a hi) (evo a mx))
  | .fieldAddr s x f => some (Instr.fieldAt s (a.eval x) f)
  | .field t x f => some (Instr.field t (a.eval x) f)
  | .indexAddr t x i => some (Instr.indexAt t (a.eval x) (a.eval i))
  | .index t x i => some (Instr.index t (a.eval x) (a.eval i))
  | .lookup t x i ok => some (Instr.lookup t (a.eval x) (a.eval i) ok)
  | .extract t i => some (Instr.extract (a.eval t) i)
  | .typeAssert x t u ok => some (Instr.typeAssert (a.eval x) t u ok)
  | .call { callee := .builtin .len, args, argTypes } => some (Builtin.len_ argTypes o.type (evs a args))
  | .call { callee := .builtin .min, args, argTypes } => some (Builtin.min_ argTypes o.type (evs a args))
  | .call { callee := .builtin .max, args, argTypes } => some (Builtin.max_ argTypes o.type (evs a args))
  | .panic x => some (Instr.panic (a.eval x))
  | _ => none
def writing (a : Env) (o : Oper) : Option (Sem Value) :=
  match o.op with
  | .alloc t => some (Instr.alloc t true (.tuple #[]))
  | .box t x => some (Instr.box t (a.eval x))
  | .buildSlice t n parts => some (Instr.buildSlice t n (evp a parts))
  | .convert s d x => some (convert s d (a.eval x))
  | .makeInterface t x => some (Instr.makeInterface t (a.eval x))
  | .makeFunc fn x y => some (Instr.makeFunc fn (evs a x) (evs a y))
  | .makeMap t r => some (Instr.makeMap t (evo a r))
  | .makeSlice t l c => some (Instr.makeSlice t (a.eval l) (a.eval c))
  | .range t x => some (Instr.range t (a.eval x))
  | .next it s => some (Instr.next (a.eval it) s o.type)
  | .call { callee := .builtin .append, args, argTypes } => some (Builtin.append_ argTypes o.type (evs a args))
  | .call { callee := .builtin .copy, args, argTypes } => some (Builtin.copy_ argTypes o.type (evs a args))
  | _ => none
def silent (a : Env) (o : Oper) : Option (Sem Unit) :=
  match o.op with
  | .store t x y => some (Instr.storeAt t (a.eval x) (a.eval y))
  | .mapUpdate t m k x | .insert t m k x => some (Instr.mapUpdate t (a.eval m) (a.eval k) (a.eval x))
  | _ => none
def stp (C : Cfg) (o : Oper) (a : Env) (w : World) (next : Env → World → Prop) (Q : Exit → Env → World → Prop) : Prop :=
  match o.op with
  | .move x | .assign x => next (a.put o.dst (a.eval x)) w
  | .pick c x y => match a.eval c with
    | .bool true => next (a.put o.dst (a.eval x)) w
    | .bool false => next (a.put o.dst (a.eval y)) w
    | _ => False
  | .nilCheck x => NC (a.eval x) fun v => next (a.put o.dst v) w
  | .defer { callee := .value (.func k), args, .. } => next ({ a with defers := { target := .fn (.func k) #[], args := evs a args } :: a.defers }.put o.dst undef) w
  | .defer { callee := .value f, args, .. } => DF (a.eval f) fun fn x y => next ({ a with defers := { target := .fn fn y, args := x ++ evs a args } :: a.defers }.put o.dst undef) w
  | .call { callee := .value (.func k), args, .. } => match C.calls k with
    | true => CA C.P k (evs a args) w (fun v w' => bso C o (fun v => next (a.put o.dst v) w') v) (fun ch w' => Q (.panic ch) a w')
    | false => False
  | .call { callee := .value f, args, .. } => CV C.P (a.eval f) (evs a args) w (fun v w' => bso C o (fun v => next (a.put o.dst v) w') v) (fun ch w' => Q (.panic ch) a w')
  | .call { callee := .invoke f m, args, .. } => CI C.P (a.eval f) m (evs a args) w (fun v w' => bso C o (fun v => next (a.put o.dst v) w') v) (fun ch w' => Q (.panic ch) a w')
  | _ => match reading a o with
    | some s => RD C.P s w (bso C o fun v => next (a.put o.dst v) w) (fun v w' => Q (.panic [{ v, recovered := false }]) a w')
    | none => match writing a o with
      | some s => WR C.P s w (fun v w' => next (a.put o.dst v) w') (fun v w' => Q (.panic [{ v, recovered := false }]) a w')
      | none => match silent a o with
        | some s => WU C.P s w (fun w' => next (a.put o.dst undef) w') (fun v w' => Q (.panic [{ v, recovered := false }]) a w')
        | none => False
def wpcOps (C : Cfg) (ops : Array Oper) (Q : Exit → Env → World → Prop) : List Oper → Env → World → Prop
  | [], a, w => Q .normal a w
  | o :: rest, a, w => match Region.wanted o (yieldedE ops a) with
    | true => stp C o a w (wpcOps C ops Q rest) Q
    | false => wpcOps C ops Q rest (a.put o.dst undef) w
def stpS (C : Cfg) (o : Oper) (a : Env) (w : World) (next : Env → Prop) : Prop :=
  match o.op with
  | .move x | .assign x => next (a.put o.dst (a.eval x))
  | .pick c x y => match a.eval c with
    | .bool true => next (a.put o.dst (a.eval x))
    | .bool false => next (a.put o.dst (a.eval y))
    | _ => False
  | .nilCheck x => NC (a.eval x) fun v => next (a.put o.dst v)
  | .call { callee := .value (.func k), args, .. } => match C.calls k with
    | true => CQ C.P k (evs a args) w (bso C o fun v => next (a.put o.dst v))
    | false => False
  | _ => match reading a o with
    | some s => RD C.P s w (bso C o fun v => next (a.put o.dst v)) (fun _ _ => False)
    | none => False
def wpcStill (C : Cfg) (ops : Array Oper) (w : World) (Q : Env → Prop) : List Oper → Env → Prop
  | [], a => Q a
  | o :: rest, a => match Region.wanted o (yieldedE ops a) with
    | true => stpS C o a w (wpcStill C ops w Q rest)
    | false => wpcStill C ops w Q rest (a.put o.dst undef)
def stpR (C : Cfg) (o : Oper) (a : Env) (S : World → Prop) (next : Env → Prop) : Prop :=
  match o.op with
  | .move x | .assign x => next (a.put o.dst (a.eval x))
  | .pick c x y => match a.eval c with
    | .bool true => next (a.put o.dst (a.eval x))
    | .bool false => next (a.put o.dst (a.eval y))
    | _ => False
  | .nilCheck x => NC (a.eval x) fun v => next (a.put o.dst v)
  | _ => match reading a o with
    | some s => RDS C.P s S (bso C o fun v => next (a.put o.dst v))
    | none => False
def stillKind (a : Env) (o : Oper) : Bool :=
  match o.op with
  | .move _ | .assign _ | .pick _ _ _ | .nilCheck _ => true
  | _ => (reading a o).isSome
def NP (Q : Exit → Env → World → Prop) (e : Exit) (a : Env) (w : World) : Prop :=
  match e with
  | .panic _ => False
  | e => Q e a w
def liveS (m : Option Nat) (listed : Array Bool) : Bool :=
  match m with
  | none => true
  | some m => !listed.getD m true
def chainB (md : Region.Mode) (ops : Array Oper) (i m : Nat) (D : List Nat) : Bool :=
  D.contains m && !D.contains i && D.all fun c => match ops[c]? with
    | some o => o.after.any fun e => Region.binds md e && (e.on == i || D.contains e.on)
    | none => false
def openB (listed : Array Bool) (D : List Nat) : Bool := D.all fun c => !listed.getD c true
def descs (md : Region.Mode) (ops : Array Oper) (i : Nat) : List Nat :=
  (List.range ops.size).foldl (fun D c => match ops[c]? with
    | some o => match o.after.any fun e => Region.binds md e && (e.on == i || D.contains e.on) with
      | true => c :: D
      | false => D
    | none => D) []
def mayFirst (md : Region.Mode) (ops : Array Oper) (listed : Array Bool) (m : Option Nat) (i : Nat) : Bool :=
  match m with
  | none => true
  | some m => chainB md ops i m (descs md ops i) && openB listed (descs md ops i)
def syn : Nat → Option Nat
  | 0 => none
  | m + 1 => some m
def wpcH (C : Cfg) (ops : Array Oper) (Q : Exit → Env → World → Prop) (S : World → Prop) (m : Option Nat) : List Nat → Array Bool → Env → World → Prop
  | [], listed, a, w => match Region.ready .any ops listed with
    | [] => Q .normal a w
    | _ => False
  | i :: r, listed, a, w => match ops[i]? with
    | none => False
    | some o => match Region.ready .any ops listed == [i] with
      | true => match Region.wanted o (yieldedE ops a) with
        | false => wpcH C ops Q S m r (listed.setIfInBounds i true) (a.put o.dst undef) w
        | true => match stillKind a o with
          | true => stpS C o a w (fun a' => wpcH C ops Q S m r (listed.setIfInBounds i true) a' w)
          | false => match liveS m (listed.setIfInBounds i true) with
            | true => stp C o a w (fun a' w' => S w' ∧ wpcH C ops Q S m r (listed.setIfInBounds i true) a' w') (NP Q)
            | false => stp C o a w (fun a' w' => wpcH C ops Q S m r (listed.setIfInBounds i true) a' w') (NP Q)
      | false => match (Region.ready .any ops listed).contains i && Region.free .any ops listed i && mayFirst .any ops listed m i with
        | false => False
        | true => match Region.wanted o (yieldedE ops a) with
          | false => wpcH C ops Q S m r (listed.setIfInBounds i true) (a.put o.dst undef) w
          | true => stpR C o a S (fun a' => wpcH C ops Q S m r (listed.setIfInBounds i true) a' w)
def memB (i : Nat) : List Nat → Bool
  | [] => false
  | j :: r => cond (Nat.beq i j) true (memB i r)
def frF (f : Nat → Value) (vs live : List Nat) (s d : Nat → Value) (j : Nat) : Value := cond (memB j live) (s j) (cond (memB j vs) (d j) (f j))
def fr (a : Env) (vs live : List Nat) (s d : Nat → Value) : Env := { a with f := frF a.f vs live s d }
def thenE (next : Env → World → Prop) (Q : Exit → Env → World → Prop) : Exit → Env → World → Prop
  | .normal, a, w => next a w
  | e, a, w => Q e a w
def inBlockE (id : Nat) (Q : Exit → Env → World → Prop) : Exit → Env → World → Prop
  | .exit id', a, w => cond (Nat.beq id' id) (Q .normal a w) (Q (.exit id') a w)
  | e, a, w => Q e a w
def dsts (ops : List Oper) : List Nat :=
  match ops with
  | [] => []
  | o :: r => match o.dst with
    | some d => d :: dsts r
    | none => dsts r
def wr : Code → List Nat
  | .region _ ops _ => dsts ops.toList
  | .seq a b => wr a ++ wr b
  | .cond _ a b => wr a ++ wr b
  | .block _ c => wr c
  | .loop c => wr c
  | .scope c => wr c
  | _ => []
def isDefer (o : Oper) : Bool :=
  match o.op with
  | .defer _ => true
  | _ => false
def nd : Code → Bool
  | .region _ ops _ => ops.toList.all fun o => !isDefer o
  | .seq a b => nd a && nd b
  | .cond _ a b => nd a && nd b
  | .block _ c => nd c
  | .loop c => nd c
  | .scope c => nd c
  | _ => true
def regs : Code → List Nat
  | .region id _ _ => [id]
  | .seq a b => regs a ++ regs b
  | .cond _ a b => regs a ++ regs b
  | .block _ c => regs c
  | .loop c => regs c
  | .scope c => regs c
  | _ => []
def firstReg (c : Code) : Nat :=
  match regs c with
  | i :: _ => i
  | [] => 1000000
def joinKey (x : Code) : Nat :=
  match (regs x).reverse with
  | i :: r => i * 1000 + r.length
  | [] => 1000000000
def vals (a : Env) (live : List Nat) : List (Nat × Value) := live.map fun i => (i, a.f i)
def bsl : List Nat → Env → (Env → Prop) → Prop
  | [], a, K => K a
  | i :: r, a, K => BS (a.f i) (bsl r (a.put (some i) (.bool true)) K) (bsl r (a.put (some i) (.bool false)) K)
def drawOk (ops : Array Oper) (n : Nat) : Bool :=
  if n = ops.size then Region.lexB .any ops else Region.lexTailB .any ops n
def noGotoE (Q : Exit → Env → World → Prop) : Exit → Env → World → Prop
  | .goto _, _, _ => False
  | e, a, w => Q e a w
def symO (C : Cfg) : Operand → Bool
  | .tmp t => C.sy t
  | _ => false
def wpc (C : Cfg) : Code → (Exit → Env → World → Prop) → Env → World → Prop
  | .skip, Q, a, w => Q .normal a w
  | .region id ops draw, Q, a, w => match draw with
    | false => wpcOps C ops Q ops.toList a w
    | true => match C.held id with
     | some [] => False
     | some (m :: ord) => match ord.length == ops.size && Region.noSelect ops with
      | true => HD fun S => S w.drew ∧ wpcH C ops Q S (syn m) ord (Array.replicate ops.size false) a w.drew
      | false => False
     | none => match drawOk ops (C.tail id) with
      | true => wpcStill C ops w.drew (fun a' => wpcOps C ops Q (ops.toList.drop (C.tail id)) a' w.drew) (ops.toList.take (C.tail id)) a
      | false => False
  | .seq x y, Q, a, w => match C.join (joinKey x) with
    | none => wpc C x (thenE (wpc C y Q) Q) a w
    | some live => match nd x with
      | true => match C.sum (joinKey x) with
        | false => JN (fun j => wpc C x (thenE (fun a' w' => j (sOf (vals a' live)) w') Q) a w) (fun s d w => bsl (C.bj (joinKey x)) (fr a (wr x) live s d) fun a => wpc C y Q a w)
        | true => JS (fun j => wpc C x (thenE (fun a' w' => j (sOf (vals a' live)) w') Q) a w) (fun s d w => bsl (C.bj (joinKey x)) (fr a (wr x) live s d) fun a => wpc C y Q a w)
      | false => False
  | .cond c x y, Q, a, w => match symO C c with
    | true => BS (a.eval c) (wpc C x Q a w) (wpc C y Q a w)
    | false => match a.eval c with
      | .bool true => wpc C x Q a w
      | .bool false => wpc C y Q a w
      | _ => False
  | .block id c, Q, a, w => wpc C c (inBlockE id Q) a w
  | .exit id, Q, a, w => Q (.exit id) a w
  | .loop c, Q, a, w => match nd c with
    | true => LoopW (fun rec s d w => bsl (C.bl (firstReg c)) (fr a (wr c) (C.live (firstReg c)) s d) fun a => wpc C c (thenE (fun a' w' => rec (sOf (vals a' (C.live (firstReg c)))) w') Q) a w)
        (sOf (vals a (C.live (firstReg c)))) w
    | false => False
  | .ret, Q, a, w => Q .ret a w
  | .label _, Q, a, w => Q .normal a w
  | .scope c, Q, a, w => wpc C c (noGotoE Q) a w
  | _, _, _, _ => False
structure Good (C : Cfg) : Prop where
  mixed : C.P.follows .mixedOrders = true
  calls : ∀ k, C.calls k = true → callable C.P k = true
structure Agr (vs : List Nat) (n : Bool) (a a' : Act) : Prop where
  get : ∀ i, i ∉ vs → a'.tmps[i]? = a.tmps[i]?
  size : a'.tmps.size = a.tmps.size
  defs : n = true → a'.defers = a.defers
structure Rel (vs : List Nat) (a : Act) (e : Env) : Prop where
  get : ∀ i, a.tmps.getD i undef = e.f i
  defs : a.defers = e.defers
  lt : ∀ i ∈ vs, i < a.tmps.size
theorem Rel.eval {vs : List Nat} {a : Act} {e : Env} (h : Rel vs a e) : a.eval = e.eval := by
  funext x
  cases x with
  | tmp t => exact h.get t
  | _ => rfl
theorem Rel.put {vs : List Nat} {a : Act} {e : Env} (h : Rel vs a e) {d : Option Nat} (hd : ∀ t, d = some t → t ∈ vs) (v : Value) : Rel vs (a.put d v) (e.put d v) := by
  cases d with
  | none => exact h
  | some d =>
    have hl := h.lt d (hd d rfl)
    refine ⟨fun i => ?_, h.defs, fun i hi => by simp only [Act.put, Array.size_setIfInBounds]; exact h.lt i hi⟩
    have hg := h.get i
    simp only [Array.getD_eq_getD_getElem?] at hg
    simp only [Act.put, Env.put, setF, Array.getD_eq_getD_getElem?, Array.getElem?_setIfInBounds]
    by_cases e1 : d = i
    · subst e1
      simp [hl]
    · have e2 : Nat.beq i d = false := by
        cases hb : Nat.beq i d
        · rfl
        · exact absurd (Nat.eq_of_beq_eq_true hb).symm e1
      rw [if_neg e1, e2]
      exact hg
theorem Rel.yield {vs : List Nat} {a : Act} {e : Env} (h : Rel vs a e) (ops : Array Oper) : yielded ops a.tmps = yieldedE ops e := by
  funext j
  unfold yielded yieldedE
  cases (ops[j]?).bind (·.dst) with
  | none => rfl
  | some d =>
    have hg := h.get d
    simp only [Array.getD_eq_getD_getElem?] at hg
    simp only [Option.bind_some]
    cases hx : a.tmps[d]? with
    | none => rw [hx] at hg; rw [← hg]; rfl
    | some v => rw [hx] at hg; rw [← hg]; cases v <;> rfl
theorem evs_eq (a : Env) (l : Array Operand) : l.map a.eval = evs a l := by
  apply Array.ext'
  simp [evs]
theorem evp_eq (a : Env) (l : Array (Nat × Operand)) : (l.map fun (i, x) => (i, a.eval x)) = evp a l := by
  apply Array.ext'
  simp [evp]
theorem evo_eq (a : Env) (x : Option Operand) : x.map a.eval = evo a x := by cases x <;> rfl
theorem reading_exec {a : Env} {o : Oper} {s : Sem Value} (h : reading a o = some s) : execOp a.eval o = (do pure (.value (← s))) := by
  obtain ⟨dst, op, type, pos, after, guard⟩ := o
  unfold reading at h
  dsimp only at h
  split at h <;> first
    | (cases h; done)
    | (injection h with h; subst h; simp only [execOp, evp_eq, evo_eq]; done)
    | (injection h with h; subst h; simp only [execOp, resolve, invoke, builtin, evs_eq]; rfl)
theorem writing_exec {a : Env} {o : Oper} {s : Sem Value} (h : writing a o = some s) : execOp a.eval o = (do pure (.value (← s))) := by
  obtain ⟨dst, op, type, pos, after, guard⟩ := o
  unfold writing at h
  dsimp only at h
  split at h <;> first
    | (cases h; done)
    | (injection h with h; subst h; simp only [execOp, evp_eq, evs_eq, evo_eq]; done)
    | (injection h with h; subst h; simp only [execOp, resolve, invoke, builtin, evs_eq]; rfl)
theorem silent_exec {a : Env} {o : Oper} {s : Sem Unit} (h : silent a o = some s) : execOp a.eval o = (do s; pure .skip) := by
  obtain ⟨dst, op, type, pos, after, guard⟩ := o
  unfold silent at h
  dsimp only at h
  split at h <;> first
    | (cases h; done)
    | (injection h with h; subst h; simp only [execOp]; done)
end Go.Proofs.YtkmpelgfhjgddaaGreatDoor.Sx
namespace Go.Proofs.YtkmpelgfhjgddaaGreatDoor.Sx
open Go
theorem run_value (P : Program) (s : Sem Value) (w : World) : ((do pure (.value (← s))) : Sem Next).run P w =
    match s.run P w with | .ok v w' => .ok (.value v) w' | .halt h w' => .halt h w' := by
  rw [Sem.run_bind]
  cases s.run P w <;> rfl
theorem run_silent (P : Program) (s : Sem Unit) (w : World) : ((do s; pure .skip) : Sem Next).run P w =
    match s.run P w with | .ok _ w' => .ok .skip w' | .halt h w' => .halt h w' := by
  rw [Sem.run_bind]
  cases s.run P w <;> rfl
theorem bs_mono {C : Cfg} {o : Oper} {K K' : Value → Prop} (h : ∀ v, K v → K' v) {v : Value} (hb : bso C o K v) : K' v := by
  unfold bso at hb
  split at hb
  · unfold BS at hb
    split at hb
    · rename_i c
      cases c
      · exact h _ (hb.2 rfl)
      · exact h _ (hb.1 rfl)
    · exact hb.elim
  · exact h _ hb
theorem callable_exec {P : Program} {k : FuncId} (h : callable P k = true) (args : Array Value) (w : World) : (callFunc k args).run P w = .ok (.enter k args) w := by
  unfold callable at h
  split at h
  · rename_i fn hf
    simp only [Bool.and_eq_true, Bool.not_eq_true', beq_eq_false_iff_ne] at h
    obtain ⟨h1, h2⟩ := h
    obtain ⟨b, hb⟩ := Option.isSome_iff_exists.1 h1
    unfold callFunc
    simp [Sem.run_bind, program, Sem.run, hf, h2, hb, Result.andThen]
  · cases h
abbrev Nx (vs : List Nat) (o : Oper) (e : Env) (next : Env → World → Prop) (next' : Act → World → Prop) : Prop :=
  ∀ (e' : Env) (a' : Act) (w' : World), Rel vs a' e' → (∀ t, o.dst = some t → t ∈ vs) → (∃ v, e' = e.put o.dst v ∨ ∃ d, isDefer o = true ∧ e' = ({ e with defers := d :: e.defers } : Env).put o.dst v) → next e' w' → next' a' w'
section
variable {C : Cfg} {vs : List Nat} {o : Oper} {a : Act} {e : Env} {w : World} {next : Env → World → Prop} {next' : Act → World → Prop} {Q : Exit → Env → World → Prop} {Q' : Exit → Act → World → Prop}
theorem ca_upon {k : FuncId} {args : Array Value} (hr : Rel vs a e) (hd : ∀ t, o.dst = some t → t ∈ vs) (hn : Nx vs o e next next') (hq : ∀ ch w', Q (.panic ch) e w' → Q' (.panic ch) a w')
    (h : CA C.P k args w (fun v w' => bso C o (fun v => next (e.put o.dst v) w') v) (fun ch w' => Q (.panic ch) e w')) :
    o.upon C.P a next' Q' (.ok (.enter k args) w) := by
  unfold Oper.upon
  refine Calls.mono h fun x w' he => ?_
  cases x with
  | returned v => exact bs_mono (K := fun v => next (e.put o.dst v) w') (K' := fun v => next' (a.put o.dst v) w') (fun v hv => hn _ _ _ (hr.put hd v) hd ⟨v, .inl rfl⟩ hv) he
  | panicked ch => exact hq _ _ he
  | outgrown => exact he.elim
theorem rd_upon {s : Sem Value} (hs : execOp a.eval o = (do pure (.value (← s)))) (hr : Rel vs a e) (hd : ∀ t, o.dst = some t → t ∈ vs) (hn : Nx vs o e next next') (hq : ∀ ch w', Q (.panic ch) e w' → Q' (.panic ch) a w')
    (h : RD C.P s w (bso C o fun v => next (e.put o.dst v) w) (fun v w' => Q (.panic [{ v, recovered := false }]) e w')) : o.wp C.P a w next' Q' := by
  unfold Oper.wp
  rw [hs, run_value]
  unfold RD at h
  cases hx : s.run C.P w with
  | ok v w' =>
    rw [hx] at h
    obtain ⟨rfl, h⟩ := h
    exact bs_mono (K := fun v => next (e.put o.dst v) w') (K' := fun v => next' (a.put o.dst v) w') (fun v hv => hn _ _ _ (hr.put hd v) hd ⟨v, .inl rfl⟩ hv) h
  | halt x w' =>
    rw [hx] at h
    cases x <;> first | exact h.elim | exact hq _ _ h
theorem wr_upon {s : Sem Value} (hs : execOp a.eval o = (do pure (.value (← s)))) (hr : Rel vs a e) (hd : ∀ t, o.dst = some t → t ∈ vs) (hn : Nx vs o e next next') (hq : ∀ ch w', Q (.panic ch) e w' → Q' (.panic ch) a w')
    (h : WR C.P s w (fun v w' => next (e.put o.dst v) w') (fun v w' => Q (.panic [{ v, recovered := false }]) e w')) : o.wp C.P a w next' Q' := by
  unfold Oper.wp
  rw [hs, run_value]
  unfold WR at h
  cases hx : s.run C.P w with
  | ok v w' => rw [hx] at h; exact hn _ _ _ (hr.put hd v) hd ⟨v, .inl rfl⟩ h
  | halt x w' =>
    rw [hx] at h
    cases x <;> first | exact h.elim | exact hq _ _ h
theorem wu_upon {s : Sem Unit} (hs : execOp a.eval o = (do s; pure .skip)) (hr : Rel vs a e) (hd : ∀ t, o.dst = some t → t ∈ vs) (hn : Nx vs o e next next') (hq : ∀ ch w', Q (.panic ch) e w' → Q' (.panic ch) a w')
    (h : WU C.P s w (fun w' => next (e.put o.dst undef) w') (fun v w' => Q (.panic [{ v, recovered := false }]) e w')) : o.wp C.P a w next' Q' := by
  unfold Oper.wp
  rw [hs, run_silent]
  unfold WU at h
  cases hx : s.run C.P w with
  | ok v w' => rw [hx] at h; exact hn _ _ _ (hr.put hd _) hd ⟨undef, .inl rfl⟩ h
  | halt x w' =>
    rw [hx] at h
    cases x <;> first | exact h.elim | exact hq _ _ h
theorem pure_upon {v : Value} (hs : execOp a.eval o = pure (.value v)) (h : next' (a.put o.dst v) w) : o.wp C.P a w next' Q' := by
  unfold Oper.wp
  rw [hs]
  exact h
end
theorem nc_exec {a : Env} {o : Oper} {x : Operand} {K : Value → Prop} (ho : o.op = .nilCheck x) (h : NC (a.eval x) K) : execOp a.eval o = pure (.value (a.eval x)) ∧ K (a.eval x) := by
  unfold NC at h
  unfold execOp
  rw [ho]
  dsimp only
  generalize a.eval x = v at *
  split at h <;> first | exact h.elim | exact ⟨rfl, h⟩
theorem method_exec {P : Program} {t : TypeId} {x r : Value} {m : String} {k : FuncId} {w : World} (h1 : (method (P.types.size + Made.depth) t x m).run P w = .ok (k, r) w) (h2 : callable P k = true)
    (args : Array Value) : (callMethod (.iface t x) m args).run P w = .ok (.enter k (#[r] ++ args)) w := by
  show (Sem.bind program fun p => Sem.bind (method (p.types.size + Made.depth) t x m) fun y => callFunc y.1 (#[y.2] ++ args)).run P w = _
  have e1 : ∀ {α β : Type} (s : Sem α) (f : α → Sem β) (w : World), (Sem.bind s f).run P w = (s.run P w).andThen fun a w => (f a).run P w := fun s f w => Sem.run_bind' P s f w
  rw [e1]
  show (Sem.bind (method (P.types.size + Made.depth) t x m) fun y => callFunc y.1 (#[y.2] ++ args)).run P w = _
  rw [e1, h1]
  exact callable_exec h2 _ _
theorem stp_sound {C : Cfg} (G : Good C) {vs : List Nat} {o : Oper} {a : Act} {e : Env} {w : World} {next : Env → World → Prop} {next' : Act → World → Prop} {Q : Exit → Env → World → Prop} {Q' : Exit → Act → World → Prop}
    (hr : Rel vs a e) (hd : ∀ t, o.dst = some t → t ∈ vs) (hn : Nx vs o e next next') (hq : ∀ ch w', Q (.panic ch) e w' → Q' (.panic ch) a w')
    (h : stp C o e w next Q) : o.wp C.P a w next' Q' := by
  have he := hr.eval
  have hgo : ∀ v, next (e.put o.dst v) w → next' (a.put o.dst v) w := fun v hv => hn _ _ _ (hr.put hd v) hd ⟨v, .inl rfl⟩ hv
  unfold stp at h
  split at h
  · rename_i x ho
    exact pure_upon (C := C) (by rw [he]; unfold execOp; rw [ho]) (hgo _ h)
  · rename_i x ho
    exact pure_upon (C := C) (by rw [he]; unfold execOp; rw [ho]) (hgo _ h)
  · rename_i c x y ho
    split at h
    · rename_i hc
      exact pure_upon (C := C) (v := e.eval x) (by rw [he]; unfold execOp; rw [ho]; simp only [hc]; rfl) (hgo _ h)
    · rename_i hc
      exact pure_upon (C := C) (v := e.eval y) (by rw [he]; unfold execOp; rw [ho]; simp only [hc]; rfl) (hgo _ h)
    · exact h.elim
  · rename_i x ho
    obtain ⟨h1, h2⟩ := nc_exec ho h
    exact pure_upon (C := C) (by rw [he]; exact h1) (hgo _ h2)
  · rename_i k args tys ho
    unfold Oper.wp
    have : execOp a.eval o = pure (.defer { target := .fn (.func k) #[], args := evs e args }) := by
      rw [he]
      unfold execOp
      rw [ho]
      simp only [resolve, evs_eq, Env.eval, Deferred.ofValue]
      simp only [Array.empty_append]
      rfl
    rw [this]
    have hid : isDefer o = true := by unfold isDefer; rw [ho]
    have hr' : Rel vs { a with defers := { target := .fn (.func k) #[], args := evs e args } :: a.defers } ({ e with defers := { target := .fn (.func k) #[], args := evs e args } :: e.defers } : Env) :=
      ⟨hr.get, by show _ :: _ = _ :: _; rw [hr.defs], hr.lt⟩
    exact hn _ _ _ (hr'.put hd undef) hd ⟨undef, .inr ⟨_, hid, rfl⟩⟩ h
  · rename_i f args tys hne ho
    unfold DF at h
    split at h
    · rename_i fn x y hf
      unfold Oper.wp
      have : execOp a.eval o = pure (.defer { target := .fn fn y, args := x ++ evs e args }) := by
        rw [he]
        unfold execOp
        rw [ho]
        simp only [resolve, evs_eq, hf, Deferred.ofValue]
        rfl
      rw [this]
      have hid : isDefer o = true := by unfold isDefer; rw [ho]
      have hr' : Rel vs { a with defers := { target := .fn fn y, args := x ++ evs e args } :: a.defers } ({ e with defers := { target := .fn fn y, args := x ++ evs e args } :: e.defers } : Env) :=
        ⟨hr.get, by show _ :: _ = _ :: _; rw [hr.defs], hr.lt⟩
      exact hn _ _ _ (hr'.put hd undef) hd ⟨undef, .inr ⟨_, hid, rfl⟩⟩ h
    · exact h.elim
  · rename_i k args tys ho
    split at h
    · rename_i hk
      unfold Oper.wp
      have : (execOp a.eval o).run C.P w = .ok (.enter k (evs e args)) w := by
        rw [he]
        unfold execOp
        rw [ho]
        simp only [resolve, evs_eq, Env.eval, Deferred.ofValue, Array.empty_append]
        show (callFunc k (evs e args ++ #[])).run C.P w = _
        rw [Array.append_empty]
        exact callable_exec (G.calls k hk) _ _
      rw [this]
      exact ca_upon hr hd hn hq h
    · exact h.elim
  · rename_i f args tys hnf ho
    unfold CV at h
    split at h
    · rename_i k first cap hv
      unfold Oper.wp
      have : (execOp a.eval o).run C.P w = .ok (.enter k (first ++ evs e args ++ cap)) w := by
        rw [he]
        unfold execOp
        rw [ho]
        simp only [resolve, evs_eq, hv, Deferred.ofValue]
        show (callFunc k (first ++ evs e args ++ cap)).run C.P w = _
        exact callable_exec h.1 _ _
      rw [this]
      exact ca_upon hr hd hn hq h.2
    · exact h.elim
  · rename_i f m args tys ho
    unfold CI at h
    split at h
    · rename_i t x hv
      obtain ⟨k, r, h1, h2, h3⟩ := h
      unfold Oper.wp
      have : (execOp a.eval o).run C.P w = .ok (.enter k (#[r] ++ evs e args)) w := by
        rw [he]
        unfold execOp
        rw [ho]
        simp only [resolve, evs_eq, hv]
        show (invoke (.fn (.method m) #[]) (#[.iface t x] ++ evs e args)).run C.P w = _
        have e1 : (#[Value.iface t x] ++ evs e args)[0]? = some (.iface t x) := by rw [Array.getElem?_append_left (by simp)]; rfl
        have e2 : (#[Value.iface t x] ++ evs e args).extract 1 (#[Value.iface t x] ++ evs e args).size = evs e args := by
          apply Array.ext'
          rw [Array.toList_extract]
          simp only [Array.toList_append, List.cons_append, List.nil_append, Array.size_append, List.size_toArray, List.length_cons, List.length_nil, List.drop_succ_cons, List.drop_zero, List.extract_eq_take_drop]
          rw [show 0 + 1 + (evs e args).size - 1 = (evs e args).toList.length by simp]
          exact List.take_length
        have e3 : invoke (.fn (.method m) #[]) (#[Value.iface t x] ++ evs e args) = callMethod (.iface t x) m (evs e args) := by
          unfold invoke
          dsimp only
          rw [e1, e2]
        rw [e3]
        exact method_exec h1 h2 _
      rw [this]
      exact ca_upon hr hd hn hq h3
    · exact h.elim
  · split at h
    · rename_i s hs
      exact rd_upon (by rw [he]; exact reading_exec hs) hr hd hn hq h
    · split at h
      · rename_i s hs
        exact wr_upon (by rw [he]; exact writing_exec hs) hr hd hn hq h
      · split at h
        · rename_i s hs
          exact wu_upon (by rw [he]; exact silent_exec hs) hr hd hn hq h
        · exact h.elim
end Go.Proofs.YtkmpelgfhjgddaaGreatDoor.Sx
namespace Go.Proofs.YtkmpelgfhjgddaaGreatDoor.Sx
open Go
section
variable {P : Program} {ops : Array Oper} {Q : Exit → Act → World → Prop} {md : Region.Mode} {S : World → Prop} {m : Option Nat}
def wpAnyG (P : Program) (md : Region.Mode) (ops : Array Oper) (Q : Exit → Act → World → Prop) (S : World → Prop) (m : Option Nat) : Nat → Array Bool → Act → World → Prop
  | 0, listed, a, w => Region.ready md ops listed = [] ∧ Q .normal a w
  | n + 1, listed, a, w => (Region.ready md ops listed = [] → Q .normal a w) ∧
    ∀ j ∈ Region.ready md ops listed, wpOp P ops Q j (fun a' w' => (liveS m (listed.setIfInBounds j true) = true → S w') ∧ wpAnyG P md ops Q S m n (listed.setIfInBounds j true) a' w') a w
theorem wpAny_of_G : ∀ (n : Nat) (listed : Array Bool) (a : Act) (w : World), wpAnyG P md ops Q S m n listed a w → wpAny P md ops Q n listed a w
  | 0, _, _, _, h => h
  | n + 1, _, _, _, h => ⟨h.1, fun j hj => wpOp_mono (fun a' w' h' => wpAny_of_G n _ a' w' h'.2) (h.2 j hj)⟩
theorem not_ready_of {listed : Array Bool} {i m j : Nat} {D : List Nat} (hc : chainB md ops i m D = true) (ho : openB listed D = true) (hi : listed.getD i true = false)
    (hj : j ∈ Region.ready md ops listed) : j ∉ D := by
  intro hjD
  simp only [chainB, Bool.and_eq_true, List.all_eq_true] at hc
  simp only [openB, List.all_eq_true, Bool.not_eq_true'] at ho
  obtain ⟨_, oj, hoj, hall⟩ := mem_ready.1 hj
  have h1 := hc.2 j hjD
  rw [hoj] at h1
  obtain ⟨e, he, hb⟩ := Array.any_eq_true'.1 h1
  simp only [Bool.and_eq_true, Bool.or_eq_true, beq_iff_eq, List.contains_iff_mem] at hb
  have h2 := hall e he hb.1
  have h3 : listed.getD e.on true = false := by
    rcases hb.2 with h | h
    · rw [h]; exact hi
    · exact ho _ h
  rcases Nat.lt_or_ge e.on listed.size with h' | h'
  · simp [h'] at h2 h3; rw [h2] at h3; cases h3
  · simp [Array.getElem?_eq_none h'] at h3
theorem wpAnyG_first {i : Nat} {oi : Oper} {v : Value} (hi : ops[i]? = some oi) (hsel : ∀ (j : Nat) (o : Oper) cs b, ops[j]? = some o → o.op ≠ .select cs b)
    (hQ : ∀ c a w, Q (.panic c) (a.put oi.dst v) w → Q (.panic c) a w) {D : List Nat} (hD : ∀ m', m = some m' → chainB md ops i m' D = true) :
    ∀ (n : Nat) (listed : Array Bool) (a : Act) (w : World),
      (∀ j oj, ops[j]? = some oj → j ≠ i → listed.getD j true = false → (∀ e ∈ oj.after, Region.binds md e = true → e.on ≠ i) → oi.apart ops oj = true) →
      (∀ m', m = some m' → openB listed D = true) →
      i ∈ Region.ready md ops listed → YieldsIf P ops S oi v a → S w →
      wpAnyG P md ops Q S m n (listed.setIfInBounds i true) (a.put oi.dst v) w → wpAnyG P md ops Q S m (n + 1) listed a w := by
  intro n
  induction n with
  | zero =>
    intro listed a w _ _ hr hy hS H
    refine ⟨fun h => (by rw [h] at hr; cases hr), fun j hj => ?_⟩
    by_cases hji : j = i
    · subst hji; exact hy.wpOp hi hS ⟨fun _ => hS, H⟩
    · have := ready_mono hj hji
      rw [H.1] at this
      cases this
  | succ n ih =>
    intro listed a w hfree ho hr hy hS H
    refine ⟨fun h => (by rw [h] at hr; cases hr), fun j hj => ?_⟩
    by_cases hji : j = i
    · subst hji; exact hy.wpOp hi hS ⟨fun _ => hS, H⟩
    · have h1 := H.2 j (ready_mono hj hji)
      obtain ⟨hjun, oj, hoj, hall⟩ := mem_ready.1 hj
      have hiun := (mem_ready.1 hr).1
      have hnot : ∀ e ∈ oj.after, Region.binds md e = true → e.on ≠ i := fun e he hb heq => by
        have h1 := hall e he hb
        rw [heq] at h1
        rcases Nat.lt_or_ge i listed.size with h' | h'
        · simp [h'] at hiun h1; rw [hiun] at h1; cases h1
        · simp [Array.getElem?_eq_none h'] at h1
      have hjD : ∀ m', m = some m' → j ∉ D := fun m' e => not_ready_of (hD m' e) (ho m' e) hiun hj
      have hop : ∀ m', m = some m' → openB (listed.setIfInBounds j true) D = true := fun m' e => by
        have h2 := ho m' e
        simp only [openB, List.all_eq_true, Bool.not_eq_true'] at h2 ⊢
        intro c hc
        have hjc : j ≠ c := fun e2 => hjD m' e (by rw [e2]; exact hc)
        rw [getD_set_ne true hjc]
        exact h2 c hc
      have hlive : liveS m ((listed.setIfInBounds i true).setIfInBounds j true) = true := by
        cases m with
        | none => rfl
        | some m' =>
          have h2 := hop m' rfl
          have h3 := hD m' rfl
          simp only [chainB, Bool.and_eq_true, List.contains_iff_mem, Bool.not_eq_true', List.contains_eq_mem, decide_eq_false_iff_not, decide_eq_true_eq] at h3
          simp only [openB, List.all_eq_true, Bool.not_eq_true'] at h2
          have h4 := h2 m' h3.1.1
          simp only [liveS, Bool.not_eq_true']
          have him : i ≠ m' := fun e => h3.1.2 (by rw [e]; exact h3.1.1)
          rw [Array.setIfInBounds_comm _ _ (Ne.symm hji), getD_set_ne true him]
          exact h4
      have h2 := wpOp_putIf hoj (hfree j oj hoj hji hjun hnot) (fun cs b => hsel i oi cs b hi) (fun cs b => hsel j oj cs b hoj) hQ hy h1
      have hfree' : ∀ k ok, ops[k]? = some ok → k ≠ i → (listed.setIfInBounds j true).getD k true = false →
          (∀ e ∈ ok.after, Region.binds md e = true → e.on ≠ i) → oi.apart ops ok = true := fun k ok hk hki hun hno => by
        refine hfree k ok hk hki ?_ hno
        by_cases hjk : j = k
        · subst hjk; exact hjun
        · rw [getD_set_ne true hjk] at hun; exact hun
      refine wpOp_mono (fun a' w' h3 => ⟨fun _ => h3.2.1 hlive, ih (listed.setIfInBounds j true) a' w' hfree' hop (ready_mono hr (Ne.symm hji)) h3.1 (h3.2.1 hlive) ?_⟩) h2
      rw [Array.setIfInBounds_comm _ _ hji]
      exact h3.2.2
theorem mayFirst_spec {listed : Array Bool} {i : Nat} (h : mayFirst md ops listed m i = true) :
    (∀ m', m = some m' → chainB md ops i m' (descs md ops i) = true) ∧ (∀ m', m = some m' → openB listed (descs md ops i) = true) ∧ liveS m listed = true := by
  cases m with
  | none => exact ⟨fun _ e => (nomatch e), fun _ e => (nomatch e), rfl⟩
  | some m' =>
    simp only [mayFirst, Bool.and_eq_true] at h
    refine ⟨fun _ e => Option.some.inj e ▸ h.1, fun _ _ => h.2, ?_⟩
    have h1 := h.1
    have h2 := h.2
    simp only [chainB, Bool.and_eq_true, List.contains_iff_mem, List.contains_eq_mem, decide_eq_true_eq] at h1
    simp only [openB, List.all_eq_true, Bool.not_eq_true'] at h2
    simp only [liveS, Bool.not_eq_true']
    exact h2 m' h1.1.1
end
end Go.Proofs.YtkmpelgfhjgddaaGreatDoor.Sx
