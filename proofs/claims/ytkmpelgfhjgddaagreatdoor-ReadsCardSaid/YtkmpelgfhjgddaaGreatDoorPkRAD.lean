/- A part of one proof (SxL, SxM, ShG, SxN); no conditions beyond what each theorem names. -/
import Derived.Test.YtkmpelgfhjgddaaGreatDoorPkRAC
import Derived.WalkSpells
import Derived.Test.YtkmpelgfhjgddaaGreatDoorProg
import Derived.Laws.Pointers
import Derived.Laws.Cover3
import Derived.WideLaws
set_option linter.all false
set_option linter.unusedVariables false
set_option linter.unusedSimpArgs false
namespace Go.Proofs.YtkmpelgfhjgddaaGreatDoor.Sx
open Go
abbrev bo (op : BinOp) (t : TypeId) (x y : Operand) (a b : Value) : Sem Value := do eqGuard op t x y a b; binOp op t a b
def RD0 (P : Program) (s : Sem Value) (w : World) (K : Value → Prop) (X : Value → World → Prop) : Prop := RD P s w K X
def WU0 (P : Program) (s : Sem Unit) (w : World) (K : World → Prop) (X : Value → World → Prop) : Prop := WU P s w K X
def WR0 (P : Program) (s : Sem Value) (w : World) (K : Value → World → Prop) (X : Value → World → Prop) : Prop := WR P s w K X
theorem rd_ok {P : Program} {s : Sem Value} {w : World} {K : Value → Prop} {X : Value → World → Prop} {v : Value} (h : s.run P w = .ok v w) : RD P s w K X = K v := by
  unfold RD; rw [h]; simp
theorem rd_panic {P : Program} {s : Sem Value} {w w' : World} {K : Value → Prop} {X : Value → World → Prop} {v : Value} (h : s.run P w = .halt (.panic v) w') : RD P s w K X = X v w' := by
  unfold RD; rw [h]
theorem wr_ok {P : Program} {s : Sem Value} {w w' : World} {K : Value → World → Prop} {X : Value → World → Prop} {v : Value} (h : s.run P w = .ok v w') : WR P s w K X = K v w' := by
  unfold WR; rw [h]
theorem wu_ok {P : Program} {s : Sem Unit} {w w' : World} {K : World → Prop} {X : Value → World → Prop} (h : s.run P w = .ok () w') : WU P s w K X = K w' := by
  unfold WU; rw [h]
theorem nc_ptr (a : Addr) (K : Value → Prop) : NC (.pointer (some a)) K = K (.pointer (some a)) := rfl
theorem nc_iface (t : TypeId) (x : Value) (K : Value → Prop) : NC (.iface t x) K = K (.iface t x) := rfl
theorem nc_func (f : FuncId) (x y : Array Value) (K : Value → Prop) : NC (.func (.func f) x y) K = K (.func (.func f) x y) := rfl
theorem bs_true (A B : Prop) : BS (.bool true) A B = A := by simp [BS]
theorem bs_false (A B : Prop) : BS (.bool false) A B = B := by simp [BS]
theorem bs_pos {p : Prop} [Decidable p] (A B : Prop) (h : p) : BS (.bool (decide p)) A B = A := by simp [BS, h]
theorem bs_neg {p : Prop} [Decidable p] (A B : Prop) (h : ¬ p) : BS (.bool (decide p)) A B = B := by simp [BS, h]
theorem bs_dec {p : Prop} [Decidable p] (A B : Prop) : BS (.bool (decide p)) A B = ((p → A) ∧ (¬ p → B)) := by simp [BS]
section
variable {P : Program} {t : TypeId} {x y : Operand} {w : World} {K : Value → Prop} {X : Value → World → Prop}
theorem bo_add (k : IntKind) (a b : Int) : RD P (bo .add t x y (.int k a) (.int k b)) w K X = K (.int k (k.wrap (a + b))) :=
  rd_ok (by simp [bo, eqGuard, binOp, Op.intArith])
theorem bo_sub (k : IntKind) (a b : Int) : RD P (bo .sub t x y (.int k a) (.int k b)) w K X = K (.int k (k.wrap (a - b))) :=
  rd_ok (by simp [bo, eqGuard, binOp, Op.intArith])
theorem bo_mul (k : IntKind) (a b : Int) : RD P (bo .mul t x y (.int k a) (.int k b)) w K X = K (.int k (k.wrap (a * b))) :=
  rd_ok (by simp [bo, eqGuard, binOp, Op.intArith])
theorem bo_lss (k : IntKind) (a b : Int) : RD P (bo .lss t x y (.int k a) (.int k b)) w K X = K (.bool (decide (a < b))) :=
  rd_ok (by simp [bo, eqGuard, binOp, Op.intCmp])
theorem bo_leq (k : IntKind) (a b : Int) : RD P (bo .leq t x y (.int k a) (.int k b)) w K X = K (.bool (decide (a ≤ b))) :=
  rd_ok (by simp [bo, eqGuard, binOp, Op.intCmp])
theorem bo_gtr (k : IntKind) (a b : Int) : RD P (bo .gtr t x y (.int k a) (.int k b)) w K X = K (.bool (decide (b < a))) :=
  rd_ok (by simp [bo, eqGuard, binOp, Op.intCmp])
theorem bo_geq (k : IntKind) (a b : Int) : RD P (bo .geq t x y (.int k a) (.int k b)) w K X = K (.bool (decide (b ≤ a))) :=
  rd_ok (by simp [bo, eqGuard, binOp, Op.intCmp])
theorem bo_eql (k : IntKind) (a b : Int) : RD P (bo .eql t x y (.int k a) (.int k b)) w K X = K (.bool (decide (a = b))) :=
  rd_ok (by simp [bo, eqGuard, binOp, Op.intCmp]; rw [Bool.eq_iff_iff]; simp)
theorem bo_neq (k : IntKind) (a b : Int) : RD P (bo .neq t x y (.int k a) (.int k b)) w K X = K (.bool (decide (¬ a = b))) :=
  rd_ok (by simp [bo, eqGuard, binOp, Op.intCmp]; rw [Bool.eq_iff_iff]; simp)
theorem un_not (b : Bool) : RD P (Op.unary .not (.bool b)) w K X = K (.bool !b) := rd_ok rfl
theorem un_neg (k : IntKind) (n : Int) : RD P (Op.unary .neg (.int k n)) w K X = K (.int k (k.wrap (0 - n))) := rd_ok rfl
theorem bo_eqs (a b : List UInt8) : RD P (bo .eql t x y (.string (bs a)) (.string (bs b))) w K X = K (.bool (decide (a = b))) :=
  rd_ok (by simp [bo, eqGuard, binOp, Op.stringOp]; rw [Bool.eq_iff_iff]; simp)
theorem bo_nes (a b : List UInt8) : RD P (bo .neq t x y (.string (bs a)) (.string (bs b))) w K X = K (.bool (decide (¬ a = b))) :=
  rd_ok (by simp [bo, eqGuard, binOp, Op.stringOp]; rw [Bool.eq_iff_iff]; simp)
end
section
variable {P : Program} {t : TypeId} {x y : Operand} {w : World} {K : Value → Prop} {X : Value → World → Prop}
theorem bo_ads (a b : List UInt8) (h : a.length + b.length ≤ 4294967296) : RD P (bo .add t x y (.string (bs a)) (.string (bs b))) w K X = K (.string (bs (a ++ b))) := by
  refine rd_ok ?_
  have h1 : ¬ (IntKind.i64.max < (((bs a).size + (bs b).size : Nat) : Int)) := by
    have e1 : (bs a).size = a.length := by simp [ByteArray.size]
    have e2 : (bs b).size = b.length := by simp [ByteArray.size]
    have e3 : IntKind.i64.max = 9223372036854775807 := by decide
    omega
  have e : bs a ++ bs b = bs (a ++ b) := by
    apply ByteArray.ext
    rw [ByteArray.data_append]
    simp
  simp only [bo, eqGuard, binOp, Op.stringOp, Sem.run_bind]
  show (if ((bs a).size + (bs b).size : Nat) > IntKind.i64.max then _ else _ : Sem Value).run P w = _
  rw [if_neg h1, e]
  rfl
end
def upd (w : World) (b : Nat) (o : Obj) : World := { w with heap := w.heap.setIfInBounds b o }
theorem size_upd (w : World) (b : Nat) (o : Obj) : (upd w b o).heap.size = w.heap.size := by simp [upd]
theorem hp_alloc_old {w : World} {o : Obj} {b : Nat} (h : b < w.heap.size) : (w.alloc o).heap[b]? = w.heap[b]? := by
  show (w.heap.push o)[b]? = _
  rw [Array.getElem?_push_lt h, Array.getElem?_eq_getElem h]
theorem hp_alloc_new {w : World} {o : Obj} {b : Nat} (h : b = w.heap.size) : (w.alloc o).heap[b]? = some o := by
  subst h; exact blk_alloc_new w o
theorem hp_upd_same {w : World} {o : Obj} {b c : Nat} (h : b = c) (hl : b < w.heap.size) : (upd w c o).heap[b]? = some o := by
  subst h; simp [upd, hl]
theorem hp_upd_other {w : World} {o : Obj} {b c : Nat} (h : ¬ b = c) : (upd w c o).heap[b]? = w.heap[b]? := by
  simp [upd, Ne.symm h]
theorem hp_drew (w : World) (b : Nat) : w.drew.heap[b]? = w.heap[b]? := rfl
theorem sz_drew (w : World) : w.drew.heap.size = w.heap.size := rfl
theorem upd_setCell {w : World} {b o : Nat} {cs : Array Value} {T : TypeId} (h : w.heap[b]? = some (.cells cs T (0, 0))) (v : Value) : w.setCell ⟨b, o, none⟩ v = upd w b (.cells (cs.setIfInBounds o v) T (0, 0)) := by
  unfold World.setCell upd
  congr 1
  apply Array.ext_getElem?
  intro i
  rw [Array.getElem?_modify, Array.getElem?_setIfInBounds]
  by_cases e : b = i
  · subst e
    have hl := ltOf h
    rw [if_pos rfl, if_pos rfl, if_pos hl, h]
    rfl
  · rw [if_neg e, if_neg e]
def isOne (P : Program) (T : TypeId) : Bool :=
  match P.underlying T with
  | some (.struct _) => false
  | some (.array _ _) => false
  | some _ => true
  | none => false
def isMany (P : Program) (T : TypeId) (n : Nat) : Bool :=
  (match P.underlying T with
  | some (.struct _) => true
  | some (.array _ _) => true
  | _ => false) && (match P.info? T with
  | some i => i.size == n
  | none => false)
def sized (P : Program) (T : TypeId) (n : Nat) : Bool :=
  match P.info? T with
  | some i => i.size == n
  | none => false
def ldK (x : Option Obj) (o : Nat) (K : Value → Prop) (D : Prop) : RT (K, D) :=
  match x with
  | some (.cells cs _ _) => (match cs[o]? with | some v => K v | none => D)
  | _ => D
def ldN (x : Option Obj) (o n : Nat) (K : Value → Prop) (D : Prop) : RT (K, D) :=
  match x with
  | some (.cells cs _ _) => if o + n ≤ cs.size then K (.agg ((cs.toList.drop o).take n).toArray) else D
  | _ => D
def wrL (cs : Array Value) (o : Nat) : List Value → Array Value
  | [] => cs
  | v :: r => wrL (cs.setIfInBounds o v) (o + 1) r
section mem
variable {P : Program} {T : TypeId} {b o : Nat} {w : World} {K : Value → Prop} {X : Value → World → Prop}
theorem isOne_run (h : isOne P T = true) (w : World) : (isAgg T).run P w = .ok false w := by
  unfold isOne at h
  unfold isAgg underlying
  simp only [Sem.run_bind, program, Sem.run, Result.andThen_ok]
  split at h <;> first | (cases h; done) | skip
  rename_i d hn1 hn2 hd
  rw [hd]
  simp only [Sem.run_pure, Result.andThen_ok]
theorem sized_run {n : Nat} (h : sized P T n = true) (w : World) : (sizeOf T).run P w = .ok n w := by
  unfold sized at h
  unfold sizeOf typeInfo
  simp only [Sem.run_bind, program, Sem.run, Result.andThen_ok]
  split at h
  · rename_i i hi
    rw [hi]
    simp only [Sem.run_pure, Result.andThen_ok]
    rw [beq_iff_eq.1 h]
  · cases h
theorem isMany_sized {n : Nat} (h : isMany P T n = true) : sized P T n = true := by
  unfold isMany at h
  simp only [Bool.and_eq_true] at h
  exact h.2
theorem isMany_run {n : Nat} (h : isMany P T n = true) (w : World) : (isAgg T).run P w = .ok true w := by
  unfold isMany at h
  simp only [Bool.and_eq_true] at h
  have h := h.1
  unfold isAgg underlying
  simp only [Sem.run_bind, program, Sem.run, Result.andThen_ok]
  split at h
  · rename_i hd; rw [hd]; rfl
  · rename_i hd; rw [hd]; rfl
  · cases h
theorem rd_load1 (hT : isOne P T = true) : RD P (Instr.loadAt T (.pointer (some ⟨b, o, none⟩))) w K X = ldK (w.heap[b]?) o K (RD0 P (Instr.loadAt T (.pointer (some ⟨b, o, none⟩))) w K X) := by
  unfold ldK
  split
  · rename_i cs t z hb
    split
    · rename_i v hv
      refine rd_ok ?_
      simp only [Instr.loadAt, Instr.sureAddr, loadVar, Sem.run_bind, Sem.run_pure, Result.andThen_ok, isOne_run hT, Bool.false_eq_true, if_false, load, Sem.run, cellOf hb hv]
    · rfl
  · rfl
theorem rd_loadN {n : Nat} (hT : isMany P T n = true) : RD P (Instr.loadAt T (.pointer (some ⟨b, o, none⟩))) w K X = ldN (w.heap[b]?) o n K (RD0 P (Instr.loadAt T (.pointer (some ⟨b, o, none⟩))) w K X) := by
  unfold ldN
  split
  · rename_i cs t z hb
    split
    · rename_i hn
      refine rd_ok ?_
      have hl : ((cs.toList.drop o).take n).length = n := by simp; omega
      have hc : ∀ j v, ((cs.toList.drop o).take n)[j]? = some v → w.cell? ((⟨b, o, none⟩ : Addr).add j) = some v := by
        intro j v hv
        rw [List.getElem?_take] at hv
        split at hv
        · rw [List.getElem?_drop] at hv
          have e : (⟨b, o, none⟩ : Addr).add j = ⟨b, o + j, none⟩ := by unfold Addr.add; split <;> simp_all
          rw [e]
          exact cellOf hb (by simpa using hv)
        · cases hv
      have := run_loadCells_list (P := P) w ⟨b, o, none⟩ ((cs.toList.drop o).take n) hc
      rw [hl] at this
      simp only [Instr.loadAt, Instr.sureAddr, loadVar, Sem.run_bind, Sem.run_pure, Result.andThen_ok, isMany_run hT, if_true, sized_run (isMany_sized hT), this]
    · rfl
  · rfl
theorem run_storeL {U : TypeId} : ∀ (vs : List Value) (i : Nat) (cs : Array Value) (w : World), w.heap[b]? = some (.cells cs U (0, 0)) → o + i + vs.length ≤ cs.size → (vs.all Value.oneCell') = true →
    (storeCells ⟨b, o, none⟩ vs i).run P w = .ok () (upd w b (.cells (wrL cs (o + i) vs) U (0, 0)))
  | [], i, cs, w, hb, _, _ => by
    have hl := ltOf hb
    have : upd w b (.cells cs U (0, 0)) = w := by
      unfold upd
      cases w
      congr 1
      apply Array.ext_getElem?
      intro j
      rw [Array.getElem?_setIfInBounds]
      split
      · rename_i e; subst e; simp only at hb hl; exact hb.symm
      · rfl
    simp [storeCells, wrL, this]
  | v :: vs, i, cs, w, hb, hn, h1 => by
    simp only [List.length_cons] at hn
    simp only [List.all_cons, Bool.and_eq_true] at h1
    have hc : w.cell? ⟨b, o + i, none⟩ = some cs[o + i] := cellOf hb (by simp)
    have hu : (upd w b (.cells (cs.setIfInBounds (o + i) v) U (0, 0))).heap[b]? = some (.cells (cs.setIfInBounds (o + i) v) U (0, 0)) := hp_upd_same rfl (ltOf hb)
    have ih := run_storeL vs (i + 1) (cs.setIfInBounds (o + i) v) _ hu (by simp; omega) h1.2
    have e : (⟨b, o, none⟩ : Addr).add i = ⟨b, o + i, none⟩ := by unfold Addr.add; split <;> simp_all
    have e2 : ∀ x y, upd (upd w b x) b y = upd w b y := by
      intro x y; unfold upd; simp
    rw [e2] at ih
    simp only [storeCells, Sem.run_bind, e, wrL]
    have hs : (store ⟨b, o + i, none⟩ v).run P w = .ok () (upd w b (.cells (cs.setIfInBounds (o + i) v) U (0, 0))) := by
      rw [← upd_setCell hb]
      have hf := freeOf hb (o + i)
      cases v <;> first | (simp [Value.oneCell'] at h1; done) | simp [store, Sem.run, hc, hf]
    rw [hs]
    simp only [Result.andThen_ok]
    exact ih
def stK (x : Option Obj) (w : World) (b o n : Nat) (v : Value) (K : World → Prop) (D : Prop) : RT (K, D) :=
  match x with
  | some (.cells cs U z) => if z = (0, 0) ∧ v.cells.toList.length = n ∧ o + n ≤ cs.size ∧ (v.cells.toList.all Value.oneCell') = true then K (upd w b (.cells (wrL cs o v.cells.toList) U (0, 0))) else D
  | _ => D
theorem wu_store {n : Nat} (hT : sized P T n = true) (v : Value) {K : World → Prop} : WU P (Instr.storeAt T (.pointer (some ⟨b, o, none⟩)) v) w K X = stK (w.heap[b]?) w b o n v K (WU0 P (Instr.storeAt T (.pointer (some ⟨b, o, none⟩)) v) w K X) := by
  unfold stK
  split
  · rename_i cs U z hb
    split
    · rename_i h
      obtain ⟨rfl, h2, h3, h4⟩ := h
      refine wu_ok ?_
      have hs : v.cells.size = n := by simpa using h2
      have := run_storeL (P := P) (b := b) (o := o) v.cells.toList 0 cs w hb (by omega) h4
      simp only [Instr.storeAt, Instr.sureAddr, storeVar, Sem.run_bind, Sem.run_pure, Result.andThen_ok, sized_run hT]
      rw [if_neg (by simp [hs])]
      exact this
    · rfl
  · rfl
def zeroB (P : Program) (T : TypeId) : Option Value := (P.info? T).bind (·.zero)
theorem zero_run {z : Value} (h : zeroB P T = some z) (w : World) : (zeroValue T).run P w = .ok z w := by
  unfold zeroB at h
  unfold zeroValue typeInfo
  simp only [Sem.run_bind, program, Sem.run, Result.andThen_ok]
  cases hi : P.info? T with
  | none => rw [hi] at h; cases h
  | some i =>
    rw [hi] at h
    simp only [Option.bind_some] at h
    simp only [Sem.run_pure, Result.andThen_ok, h]
theorem wr_alloc {z u : Value} (h : zeroB P T = some z) {K : Value → World → Prop} : WR P (Instr.alloc T true u) w K X = K (.pointer (some ⟨w.heap.size, 0, none⟩)) (w.alloc (.cells z.cells T)) := by
  refine wr_ok ?_
  simp only [Instr.alloc, Sem.run_bind, zero_run h, Result.andThen_ok, newVar, newRow, newObj, Sem.run, Sem.run_pure]
  rfl
theorem wr_box {v : Value} {K : Value → World → Prop} : WR P (Instr.box T v) w K X = K (.pointer (some ⟨w.heap.size, 0, none⟩)) (w.alloc (.cells v.cells T)) := by
  refine wr_ok ?_
  simp only [Instr.box, Sem.run_bind, Result.andThen_ok, newVar, newRow, newObj, Sem.run, Sem.run_pure]
  rfl
end mem
end Go.Proofs.YtkmpelgfhjgddaaGreatDoor.Sx
namespace Go.Proofs.YtkmpelgfhjgddaaGreatDoor.Sx
open Go
section
variable {P : Program} {T : TypeId} {b o : Nat} {w : World} {K : Value → Prop} {X : Value → World → Prop}
def fieldOff (P : Program) (s : TypeId) (i : Nat) : Option Nat :=
  match P.underlying s with
  | some (.struct fs) => match fs[i]? with
    | some f => match P.info? f.type with
      | some t => if t.size = 0 then none else some f.offset
      | none => none
    | none => none
  | _ => none
theorem addr_add (b o n : Nat) : (⟨b, o, none⟩ : Addr).add n = ⟨b, o + n, none⟩ := by
  unfold Addr.add; split <;> simp_all
theorem rd_field {i n : Nat} (h : fieldOff P T i = some n) : RD P (Instr.fieldAt T (.pointer (some ⟨b, o, none⟩)) i) w K X = K (.pointer (some ⟨b, o + n, none⟩)) := by
  refine rd_ok ?_
  unfold fieldOff at h
  split at h
  · rename_i fs hu
    split at h
    · rename_i f hf
      split at h
      · rename_i t ht
        split at h
        · cases h
        · rename_i hz
          injection h with h
          subst h
          have hs : (sizeOf f.type).run P w = .ok t.size w := sized_run (by unfold sized; rw [ht]; simp) w
          simp only [Instr.fieldAt, Sem.run_bind, run_underlying hu, Result.andThen_ok, hf, Instr.sureAddr, Sem.run_pure, fieldPlace, hs, if_neg hz, addr_add]
      · cases h
    · cases h
  · cases h
def elemSize (P : Program) (T : TypeId) : Option Nat :=
  match P.underlying T with
  | some (.slice e) => (P.info? e).map (·.size)
  | _ => none
theorem elemSize_spec {n : Nat} (h : elemSize P T = some n) : ∃ e, P.underlying T = some (.slice e) ∧ sized P e n = true := by
  unfold elemSize at h
  split at h
  · rename_i e he
    refine ⟨e, he, ?_⟩
    unfold sized
    cases hi : P.info? e with
    | none => rw [hi] at h; cases h
    | some i => rw [hi] at h; simpa using h
  · cases h
theorem elem_of {e : TypeId} (h : P.underlying T = some (.slice e)) : P.elem T = e := by unfold Program.elem; rw [h]
theorem rd_index {n len cap : Nat} (h : elemSize P T = some n) {k : IntKind} {i : Int} (h0 : 0 ≤ i) (h1 : i < len) :
    RD P (Instr.indexAt T (.slice (some ⟨b, o, none⟩) len cap) (.int k i)) w K X = K (.pointer (some ⟨b, o + i.toNat * n, none⟩)) := by
  obtain ⟨e, he, hs⟩ := elemSize_spec h
  refine rd_ok ?_
  rw [run_indexAt_slice w T _ _ _ _ _ (by rw [elem_of he]; exact he), if_pos ⟨h0, h1⟩, elem_of he, sized_run hs]
  simp only [Result.andThen_ok, addr_add]
theorem rd_len_slice {t : TypeId} {e : TypeId} (h : P.underlying t = some (.slice e)) {a : Option Addr} {n c : Nat} :
    RD P (Builtin.len_ #[t] T #[.slice a n c]) w K X = K (.int .i64 n) :=
  rd_ok (run_len_slice w t T a n c (by rw [elem_of h]; exact h))
theorem rd_len_string {t : TypeId} (h : P.underlying t = some .string) {l : List UInt8} :
    RD P (Builtin.len_ #[t] T #[.string (bs l)]) w K X = K (.int .i64 l.length) := by
  refine rd_ok ?_
  have e : (bs l).size = l.length := by simp [ByteArray.size]
  simp only [Builtin.len_, List.getElem?_toArray, List.getElem?_cons_zero, Sem.run_bind, run_underlying h, Result.andThen_ok, Sem.run_pure, goInt, e]
theorem rd_char {t : TypeId} (h : P.underlying t = some .string) {l : List UInt8} {k : IntKind} {i : Int} (h0 : 0 ≤ i) (h1 : i < l.length) :
    RD P (Instr.index t (.string (bs l)) (.int k i)) w K X = K (.int .u8 ((l.getD i.toNat 0).toNat)) := by
  refine rd_ok ?_
  have e : (bs l)[i.toNat]? = some (l.getD i.toNat 0) := by
    have hl : i.toNat < l.length := by omega
    have hl' : i.toNat < (bs l).size := by simpa [ByteArray.size] using hl
    rw [getElem?_pos (bs l) i.toNat hl']
    congr 1
    show l.toArray[i.toNat] = _
    simp [List.getD, hl]
  simp only [Instr.index, Sem.run_bind, asIntOf, Sem.run_pure, Result.andThen_ok, run_underlying h, if_pos h0, e]
theorem rd_extract {vs : Array Value} {i : Nat} {v : Value} (h : vs[i]? = some v) : RD P (Instr.extract (.tuple vs) i) w K X = K v := by
  refine rd_ok ?_
  simp only [Instr.extract, h]
  rfl
theorem rd_extract0 {v : Value} {l : List Value} : RD P (Instr.extract (.tuple (v :: l).toArray) 0) w K X = K v := rd_extract (by simp)
theorem rd_extract1 {u v : Value} {l : List Value} : RD P (Instr.extract (.tuple (u :: v :: l).toArray) 1) w K X = K v := rd_extract (by simp)
theorem rd_extract2 {u x v : Value} {l : List Value} : RD P (Instr.extract (.tuple (u :: x :: v :: l).toArray) 2) w K X = K v := rd_extract (by simp)
theorem rd_panic_iface {t : TypeId} {v : Value} : RD P (Instr.panic (.iface t v)) w K X = X (.iface t v) w := rd_panic rfl
theorem bs_extract (l : List UInt8) (i j : Nat) : (bs l).extract i j = bs ((l.take j).drop i) := by
  apply ByteArray.ext
  rw [ByteArray.data_extract]
  apply Array.ext'
  rw [Array.toList_extract, List.drop_take]
theorem rd_str_l {t : TypeId} (h : P.underlying t = some .string) {s : List UInt8} {k : IntKind} {l : Int} (h0 : 0 ≤ l) (h1 : l ≤ s.length) :
    RD P (Instr.sliceAt t (.string (bs s)) (some (.int k l)) none none) w K X = K (.string (bs (s.drop l.toNat))) := by
  refine rd_ok ?_
  have e : (bs s).size = s.length := by simp [ByteArray.size]
  simp only [Instr.sliceAt, Instr.slice, Sem.run_bind, run_underlying h, Result.andThen_ok, Option.isSome, Bool.false_eq_true, if_false, Instr.sliceBounds, Sem.run_pure,
    run_sliceBound w k l s.length _ h0 h1, bs_extract, e, List.take_length]
theorem rd_str_lh {t : TypeId} (h : P.underlying t = some .string) {s : List UInt8} {k k' : IntKind} {l m : Int} (h0 : 0 ≤ l) (h1 : l ≤ m) (h2 : m ≤ s.length) :
    RD P (Instr.sliceAt t (.string (bs s)) (some (.int k l)) (some (.int k' m)) none) w K X = K (.string (bs ((s.take m.toNat).drop l.toNat))) := by
  refine rd_ok ?_
  have e : (bs s).size = s.length := by simp [ByteArray.size]
  simp only [Instr.sliceAt, Instr.slice, Sem.run_bind, run_underlying h, Result.andThen_ok, Option.isSome, Bool.false_eq_true, if_false, Instr.sliceBounds, Sem.run_pure,
    run_sliceBound w k' m (bs s).size _ (by omega) (by rw [e]; exact h2), run_sliceBound w k l m.toNat _ h0 (by omega), bs_extract]
def fillL (pl : List (Nat × Nat)) (cells : Array Value) : List (Nat × Value) → Option (Array Value)
  | [] => some cells
  | (i, v) :: r => match pl[i]? with
    | none => none
    | some (off, size) => if v.cells.toList.length = size ∧ off + size ≤ cells.size then fillL pl (wrL cells off v.cells.toList) r else none
theorem fold_wrL (off : Nat) : ∀ (l : List Value) (k : Nat) (cs : Array Value), (l.zipIdx k).foldl (fun cs (c, j) => cs.setIfInBounds (off + j) c) cs = wrL cs (off + k) l
  | [], _, _ => rfl
  | v :: r, k, cs => by
    simp only [List.zipIdx_cons, List.foldl_cons, wrL]
    rw [fold_wrL off r (k + 1)]
    rfl
theorem fill_fillL {place : Nat → Option (Nat × Nat)} {pl : List (Nat × Nat)} (hp : ∀ i x, pl[i]? = some x → place i = some x) : ∀ (l : List (Nat × Value)) (cs : Array Value) (r : Array Value), fillL pl cs l = some r → Instr.fill place cs l = some r
  | [], cs, r, h => h
  | (i, v) :: l, cs, r, h => by
    unfold fillL at h
    unfold Instr.fill
    cases hi : pl[i]? with
    | none => rw [hi] at h; cases h
    | some x =>
      obtain ⟨off, size⟩ := x
      rw [hi] at h
      dsimp only at h
      rw [hp i _ hi]
      dsimp only
      split at h
      · rename_i hc
        have hs : v.cells.size = size := by simpa using hc.1
        rw [if_neg (by rw [hs]; simp; omega)]
        have e := fold_wrL off v.cells.toList 0 cs
        rw [Nat.add_zero] at e
        have e2 : (v.cells.zipIdx.foldl (fun cs (x : Value × Nat) => cs.setIfInBounds (off + x.2) x.1) cs) = wrL cs off v.cells.toList := by
          rw [← e, ← Array.foldl_toList, Array.toList_zipIdx]
        rw [e2]
        exact fill_fillL hp l _ r h
      · cases h
def places (P : Program) : List Field → Option (List (Nat × Nat))
  | [] => some []
  | f :: r => match P.info? f.type, places P r with
    | some i, some l => some ((f.offset, i.size) :: l)
    | _, _ => none
def buildB (P : Program) (T : TypeId) : Option (Array Value × List (Nat × Nat)) :=
  match zeroB P T, P.underlying T with
  | some z, some (.struct fs) => (places P fs.toList).map fun l => (z.cells, l)
  | _, _ => none
theorem places_run {w : World} : ∀ (l : List Field) (r : List (Nat × Nat)), places P l = some r → (l.mapM fun (f : Field) => (do pure (f.offset, ← sizeOf f.type) : Sem (Nat × Nat))).run P w = .ok r w
  | [], r, h => by simp only [places, Option.some.injEq] at h; subst h; rfl
  | f :: l, r, h => by
    unfold places at h
    split at h
    · rename_i i q hi hq
      injection h with h
      subst h
      have ih := places_run (w := w) l q hq
      have hs : (sizeOf f.type).run P w = .ok i.size w := sized_run (by unfold sized; rw [hi]; simp) w
      rw [List.mapM_cons]
      simp only [Sem.run_bind, hs, Result.andThen_ok, Sem.run_pure, ih]
    · cases h
def blK (x : Option (Array Value)) (K : Value → Prop) (D : Prop) : RT (K, D) :=
  match x with
  | some cs => K (.agg cs)
  | none => D
theorem rd_build {z : Array Value} {pl : List (Nat × Nat)} (h : buildB P T = some (z, pl)) {parts : Array (Nat × Value)} :
    RD P (Instr.build T parts) w K X = blK (fillL pl z parts.toList) K (RD0 P (Instr.build T parts) w K X) := by
  unfold blK
  split
  · rename_i cs hf
    refine rd_ok ?_
    unfold buildB at h
    split at h
    · rename_i zz fs hz hu
      cases hp : places P fs.toList with
      | none => rw [hp] at h; cases h
      | some l =>
        rw [hp] at h
        simp only [Option.map_some, Option.some.injEq, Prod.mk.injEq] at h
        obtain ⟨rfl, rfl⟩ := h
        have h1 := places_run (w := w) fs.toList l hp
        have h2 : Instr.fill (l.toArray[·]?) zz.cells parts.toList = some cs := fill_fillL (fun i x hx => by simpa using hx) _ _ _ hf
        simp only [Instr.build, Sem.run_bind, zero_run hz, Result.andThen_ok, run_underlying hu]
        rw [Array.mapM_eq_mapM_toList]
        simp only [Sem.run_map, h1, Result.andThen_ok, h2]
        rfl
    · cases h
  · rfl
def rowB (P : Program) (T n : Nat) : Option (TypeId × Array Value × List (Nat × Nat)) :=
  match P.underlying T with
  | some (.slice e) => match P.info? e, zeroB P e with
    | some i, some z => if n * i.size = 0 ∨ n * i.size > 2 ^ 24 then none else some (e, (Array.range (n * i.size)).map (z.cells[· % z.cells.size]!), (List.range n).map fun j => (j * i.size, i.size))
    | _, _ => none
  | _ => none
def brK (x : Option (Array Value)) (e n : Nat) (w : World) (K : Value → World → Prop) (D : Prop) : RT (K, D) :=
  match x with
  | some cs => K (.slice (some ⟨w.heap.size, 0, none⟩) n n) (w.alloc (.cells cs e))
  | none => D
theorem wr_buildSlice {n : Nat} {e : TypeId} {z : Array Value} {pl : List (Nat × Nat)} (h : rowB P T n = some (e, z, pl)) {parts : Array (Nat × Value)} {K : Value → World → Prop} :
    WR P (Instr.buildSlice T n parts) w K X = brK (fillL pl z parts.toList) e n w K (WR0 P (Instr.buildSlice T n parts) w K X) := by
  unfold brK
  split
  · rename_i cs hf
    refine wr_ok ?_
    unfold rowB at h
    split at h
    · rename_i e' hu
      split at h
      · rename_i i zz hi hz
        split at h
        · cases h
        · rename_i hn
          simp only [Option.some.injEq, Prod.mk.injEq] at h
          obtain ⟨rfl, rfl, rfl⟩ := h
          have hs : (sizeOf e').run P w = .ok i.size w := sized_run (by unfold sized; rw [hi]; simp) w
          have h2 : Instr.fill (fun j => some (j * i.size, i.size)) ((Array.range (n * i.size)).map (zz.cells[· % zz.cells.size]!)) parts.toList = some cs :=
            fill_fillL (fun j x hx => by
              rw [List.getElem?_map] at hx
              cases hr : (List.range n)[j]? with
              | none => rw [hr] at hx; cases hx
              | some m =>
                rw [hr] at hx
                have : m = j := by obtain ⟨_, h⟩ := List.getElem?_eq_some_iff.1 hr; simpa using h.symm
                subst this
                simpa using hx) _ _ _ hf
          have hn1 : ¬ (n * i.size > 2 ^ 24) := fun h => hn (.inr h)
          have hn2 : ¬ (n * i.size = 0) := fun h => hn (.inl h)
          simp only [Instr.buildSlice, Sem.run_bind, run_underlying hu, Result.andThen_ok, hs, if_neg hn1, if_neg hn2, Sem.run_pure, zero_run hz, h2]
          simp only [newRow, newObj, Sem.run_bind, Sem.run, Result.andThen_ok, Sem.run_pure]
          rfl
      · cases h
    · cases h
  · rfl
def concreteB (P : Program) (T : TypeId) : Bool :=
  match P.underlying T with
  | some (.interface _) => false
  | some _ => true
  | none => false
theorem wr_iface (h : concreteB P T = true) {v : Value} {K : Value → World → Prop} : WR P (Instr.makeInterface T v) w K X = K (.iface T v) w := by
  refine wr_ok ?_
  unfold concreteB at h
  unfold Instr.makeInterface underlying
  simp only [Sem.run_bind, program, Sem.run, Result.andThen_ok]
  split at h
  · cases h
  · rename_i d hn hd
    rw [hd]
    simp only [Sem.run_pure, Result.andThen_ok]
  · cases h
theorem wr_func {fn : Fn} {x y : Array Value} {K : Value → World → Prop} : WR P (Instr.makeFunc fn x y) w K X = K (.func fn x y) w := wr_ok rfl
end
theorem wr_convert {P : Program} {src dst : TypeId} {kd : IntKind} (hs : (P.underlying src).isSome = true) (hd : P.underlying dst = some (.int kd)) {k : IntKind} {n : Int} {w : World} {X : Value → World → Prop} {K : Value → World → Prop} :
    WR P (convert src dst (.int k n)) w K X = K (.int kd (kd.wrap n)) w := by
  have e : P.intKind dst = kd := by unfold Program.intKind; rw [hd]
  refine wr_ok ?_
  rw [run_convert_int w src dst k n hs (by rw [e]; exact hd), e]
theorem u8w {x : Int} (h0 : 0 ≤ x) (h1 : x ≤ 255) : IntKind.u8.wrap x = x := by
  unfold IntKind.wrap
  have e1 : (2 ^ IntKind.u8.bits : Int) = 256 := by decide
  have e3 : IntKind.u8.signed = false := rfl
  rw [e1, e3]
  simp only [Bool.false_and, Bool.false_eq_true, if_false]
  omega
theorem rds {P : Program} {s : Sem Value} {S : World → Prop} {K : Value → Prop} (v : Value) (h : ∀ w', S w' → RD P s w' (fun u => u = v) NX) (hk : K v) : RDS P s S K := by
  refine ⟨v, fun w' hS => ?_, hk⟩
  have h1 := h w' hS
  unfold RD at h1
  cases hr : s.run P w' with
  | ok u w'' => rw [hr] at h1; obtain ⟨rfl, rfl⟩ := h1; rfl
  | halt x w'' => rw [hr] at h1; cases x <;> exact h1.elim
def Pr (p : Prop) : Prop := p
theorem toPr {p : Prop} (h : Pr p) : p := h
def ldV (x : Option Value) (K : Value → Prop) (D : Prop) : RT (K, D) :=
  match x with | some v => K v | none => D
theorem upd_upd {w : World} {b : Nat} {x y : Obj} : upd (upd w b x) b y = upd w b y := by unfold upd; simp
theorem jn_e {F : ((Nat → Value) → World → Prop) → Prop} {R : (Nat → Value) → (Nat → Value) → World → Prop} : JN F R = F (fun s w => ∀ d, R s d w) := rfl
theorem ldK_e {cs : Array Value} {U : TypeId} {z : Nat × Nat} {o : Nat} {K : Value → Prop} {D : Prop} : ldK (some (.cells cs U z)) o K D = ldV (cs[o]?) K D := rfl
theorem ldV_some {v : Value} {K : Value → Prop} {D : Prop} : ldV (some v) K D = K v := rfl
theorem ldN_e {cs : Array Value} {U : TypeId} {z : Nat × Nat} {o n : Nat} {K : Value → Prop} {D : Prop} (h : o + n ≤ cs.size) : ldN (some (.cells cs U z)) o n K D = K (.agg ((cs.toList.drop o).take n).toArray) := by
  unfold ldN; exact if_pos h
theorem stK_e {cs : Array Value} {U : TypeId} {w : World} {b o n : Nat} {v : Value} {K : World → Prop} {D : Prop} (h : o + n ≤ cs.size) :
    stK (some (.cells cs U (0, 0))) w b o n v K D = if v.cells.toList.length = n ∧ (v.cells.toList.all Value.oneCell') = true then K (upd w b (.cells (wrL cs o v.cells.toList) U (0, 0))) else D := by
  simp [stK, h]
theorem blK_some {cs : Array Value} {K : Value → Prop} {D : Prop} : blK (some cs) K D = K (.agg cs) := rfl
theorem brK_some {cs : Array Value} {e n : Nat} {w : World} {K : Value → World → Prop} {D : Prop} : brK (some cs) e n w K D = K (.slice (some ⟨w.heap.size, 0, none⟩) n n) (w.alloc (.cells cs e)) := rfl
theorem cells_aggA (a : Array Value) : (Value.agg a).cells = a := rfl
theorem cells_stringA (s : ByteArray) : (Value.string s).cells = #[.string s] := rfl
theorem cells_intA (k : IntKind) (n : Int) : (Value.int k n).cells = #[.int k n] := rfl
theorem cells_sliceA (a : Option Addr) (n c : Nat) : (Value.slice a n c).cells = #[.slice a n c] := rfl
theorem cells_pointerA (a : Option Addr) : (Value.pointer a).cells = #[.pointer a] := rfl
theorem cells_agg (l : List Value) : (Value.agg l.toArray).cells.toList = l := rfl
theorem cells_int (k : IntKind) (n : Int) : (Value.int k n).cells.toList = [.int k n] := rfl
theorem cells_bool (b : Bool) : (Value.bool b).cells.toList = [.bool b] := rfl
theorem cells_string (s : ByteArray) : (Value.string s).cells.toList = [.string s] := rfl
theorem cells_slice (a : Option Addr) (n c : Nat) : (Value.slice a n c).cells.toList = [.slice a n c] := rfl
theorem cells_pointer (a : Option Addr) : (Value.pointer a).cells.toList = [.pointer a] := rfl
theorem cells_iface (t : TypeId) (v : Value) : (Value.iface t v).cells.toList = [.iface t v] := rfl
theorem cells_nilIface : Value.nilIface.cells.toList = [.nilIface] := rfl
theorem cells_func (f : Fn) (x y : Array Value) : (Value.func f x y).cells.toList = [.func f x y] := rfl
theorem cells_map (r : Option Nat) : (Value.map r).cells.toList = [.map r] := rfl
theorem one_int (k : IntKind) (n : Int) : (Value.int k n).oneCell' = true := rfl
theorem one_bool (b : Bool) : (Value.bool b).oneCell' = true := rfl
theorem one_string (s : ByteArray) : (Value.string s).oneCell' = true := rfl
theorem one_slice (a : Option Addr) (n c : Nat) : (Value.slice a n c).oneCell' = true := rfl
theorem one_pointer (a : Option Addr) : (Value.pointer a).oneCell' = true := rfl
theorem one_iface (t : TypeId) (v : Value) : (Value.iface t v).oneCell' = true := rfl
theorem one_nilIface : Value.nilIface.oneCell' = true := rfl
theorem one_func (f : Fn) (x y : Array Value) : (Value.func f x y).oneCell' = true := rfl
theorem one_map (r : Option Nat) : (Value.map r).oneCell' = true := rfl
theorem i64w {x : Int} (h0 : -9223372036854775808 ≤ x) (h1 : x ≤ 9223372036854775807) : IntKind.i64.wrap x = x := by
  unfold IntKind.wrap
  have e1 : (2 ^ IntKind.i64.bits : Int) = 18446744073709551616 := by decide
  have e2 : (2 ^ (IntKind.i64.bits - 1) : Int) = 9223372036854775808 := by decide
  have e3 : IntKind.i64.signed = true := rfl
  rw [e1, e2, e3]
  simp only [Bool.true_and, decide_eq_true_eq]
  split <;> omega
end Go.Proofs.YtkmpelgfhjgddaaGreatDoor.Sx
namespace Go.Proofs.YtkmpelgfhjgddaaGreatDoor
open Go.Proofs.YtkmpelgfhjgddaaGreatDoor.Sx
set_option maxRecDepth 100000
set_option linter.unusedVariables false
theorem _root_.Go.Proofs.YtkmpelgfhjgddaaGreatDoor.Sx.prog_mixed : Tryz.prog.follows .mixedOrders = true := by kernel_rfl
def callsB (k : Nat) : Bool := [2, 3, 4, 5, 6, 7, 8, 9, 10, 11, 12, 13, 14, 15, 16, 17, 18, 19, 20, 21, 22, 23, 24, 25, 26, 27, 28, 29, 30, 31, 32, 33, 34, 35, 36, 37, 38, 39, 40, 41, 42, 43, 44, 45, 46, 47, 48, 49, 50, 51, 52, 53, 54, 55, 56, 60, 61, 62, 63, 64, 65, 66, 67, 68, 69, 70, 71, 72, 73, 74, 75, 76, 77, 78, 79, 83, 84, 85, 86, 87, 88, 89, 90, 91, 92, 93, 94, 95, 96, 97, 98, 99, 100, 101, 103, 104, 105, 106, 107, 108, 109, 110, 111, 112, 113, 114, 115, 116, 117, 118, 119, 120, 121, 122, 123, 124, 125, 126, 127, 128, 129, 130, 131, 132, 133, 134, 135, 136, 137, 138, 139, 140, 141, 142, 143, 144, 145, 146, 147, 148, 149, 150, 151, 152, 154, 176, 198, 214].contains k
theorem callsB_ok : ([2, 3, 4, 5, 6, 7, 8, 9, 10, 11, 12, 13, 14, 15, 16, 17, 18, 19, 20, 21, 22, 23, 24, 25, 26, 27, 28, 29, 30, 31, 32, 33, 34, 35, 36, 37, 38, 39, 40, 41, 42, 43, 44, 45, 46, 47, 48, 49, 50, 51, 52, 53, 54, 55, 56, 60, 61, 62, 63, 64, 65, 66, 67, 68, 69, 70, 71, 72, 73, 74, 75, 76, 77, 78, 79, 83, 84, 85, 86, 87, 88, 89, 90, 91, 92, 93, 94, 95, 96, 97, 98, 99, 100, 101, 103, 104, 105, 106, 107, 108, 109, 110, 111, 112, 113, 114, 115, 116, 117, 118, 119, 120, 121, 122, 123, 124, 125, 126, 127, 128, 129, 130, 131, 132, 133, 134, 135, 136, 137, 138, 139, 140, 141, 142, 143, 144, 145, 146, 147, 148, 149, 150, 151, 152, 154, 176, 198, 214].all (callable Tryz.prog)) = true := by kernel_rfl
theorem good (l : Nat → List Nat) (j : Nat → Option (List Nat)) (t : Nat → Nat) (hl : Nat → Option (List Nat)) (bl bj : Nat → List Nat) (sm sy : Nat → Bool) : Sx.Good { P := Tryz.prog, B := fun t => t == 4, calls := callsB, live := l, join := j, tail := t, held := hl, bl := bl, bj := bj, sum := sm, sy := sy } :=
  ⟨prog_mixed, fun k hk => List.all_eq_true.1 callsB_ok k (by simpa [callsB] using hk)⟩
end Go.Proofs.YtkmpelgfhjgddaaGreatDoor
namespace Go.Proofs.YtkmpelgfhjgddaaGreatDoor.Sx
open Go
def isPtrT (P : Program) (t : TypeId) : Bool := match P.underlying t with | some (.pointer _) => true | _ => false
def isMapT (P : Program) (t : TypeId) : Bool := match P.underlying t with | some (.map _ _) => true | _ => false
def isIfT (P : Program) (t : TypeId) : Bool := match P.underlying t with | some (.interface _) => true | _ => false
section
variable {P : Program} {t : TypeId} {x y : Operand} {w : World} {K : Value → Prop} {X : Value → World → Prop}
theorem eq_run_p (h : isPtrT P t = true) (p : Option Addr) : (Op.equal t (.pointer p) (.pointer none)).run P w = .ok p.isNone w := by
  unfold isPtrT at h
  split at h
  · rename_i e he
    exact run_equal_pointer_nil w t p (by unfold Program.pointee; rw [he])
  · cases h
theorem eq_run_m (h : isMapT P t = true) (r : Option Nat) : (Op.equal t (.map r) (.map none)).run P w = .ok r.isNone w := by
  unfold isMapT at h
  split at h
  · rename_i k e he
    exact run_equal_map_nil w t k e r he
  · cases h
theorem rd_eqp (h : isPtrT P t = true) (p : Option Addr) : RD P (bo .eql t x y (.pointer p) (.pointer none)) w K X = K (.bool p.isNone) :=
  rd_ok (by simp [bo, eqGuard, binOp, Sem.run_bind, eq_run_p h])
theorem rd_eqm (h : isMapT P t = true) (p : Option Nat) : RD P (bo .eql t x y (.map p) (.map none)) w K X = K (.bool p.isNone) :=
  rd_ok (by simp [bo, eqGuard, binOp, Sem.run_bind, eq_run_m h])
theorem isIfT_m (h : isIfT P t = true) : P.underlying t = some (.interface (P.methodsAt t)) := by
  unfold isIfT at h
  split at h
  · rename_i e he
    unfold Program.methodsAt
    rw [he]
  · cases h
theorem rd_eqi1 (h : isIfT P t = true) (u : TypeId) (v : Value) : RD P (bo .eql t x y (.iface u v) .nilIface) w K X = K (.bool false) :=
  rd_ok (by simp [bo, eqGuard, binOp, Sem.run_bind, run_equal_held_nil w t u v (isIfT_m h)])
theorem rd_nei1 (h : isIfT P t = true) (u : TypeId) (v : Value) : RD P (bo .neq t x y (.iface u v) .nilIface) w K X = K (.bool true) :=
  rd_ok (by simp [bo, eqGuard, binOp, Sem.run_bind, run_equal_held_nil w t u v (isIfT_m h)])
theorem rd_eqi0 (h : isIfT P t = true) (c : Value) : RD P (bo .eql t x (.const c) .nilIface .nilIface) w K X = K (.bool true) :=
  rd_ok (by simp [bo, eqGuard, binOp, Sem.run_bind, run_equal_nil_nil w t (isIfT_m h)])
theorem rd_nei0 (h : isIfT P t = true) (c : Value) : RD P (bo .neq t x (.const c) .nilIface .nilIface) w K X = K (.bool false) :=
  rd_ok (by simp [bo, eqGuard, binOp, Sem.run_bind, run_equal_nil_nil w t (isIfT_m h)])
def arrOf (P : Program) (T : TypeId) : Option (Nat × TypeId) := match P.underlying T with | some (.array n e) => some (n, e) | _ => none
def xaK (cs : Array Value) (i : Int) (K : Value → Prop) (D : Prop) : RT (K, D) := match cs[i.toNat]? with | some v => K v | none => D
theorem xaK_some {cs : Array Value} {i : Int} {K : Value → Prop} {D : Prop} {v : Value} (h : cs[i.toNat]? = some v) : xaK cs i K D = K v := by unfold xaK; rw [h]
theorem rd_xa {T e : TypeId} {n : Nat} {cs : Array Value} {k : IntKind} {i : Int} (h : arrOf P T = some (n, e)) (he : (isOne P e && sized P e 1) = true) (h0 : 0 ≤ i) (h1 : i < n) :
    RD P (Instr.index T (.agg cs) (.int k i)) w K X = xaK cs i K (RD0 P (Instr.index T (.agg cs) (.int k i)) w K X) := by
  unfold xaK
  split
  · rename_i v hv
    refine rd_ok ?_
    unfold arrOf at h
    split at h
    · rename_i n' e' hu
      simp only [Option.some.injEq, Prod.mk.injEq] at h
      obtain ⟨rfl, rfl⟩ := h
      simp only [Bool.and_eq_true] at he
      simp only [Instr.index, Sem.run_bind, asIntOf, Sem.run_pure, Result.andThen_ok, run_underlying hu, if_pos (And.intro h0 h1), sized_run he.2, Nat.mul_one]
      unfold part
      simp only [Sem.run_bind, isOne_run he.1, Result.andThen_ok, hv]
      simp
    · cases h
  · rfl
end
theorem zG1 : type_of% (And.intro @jn_e (And.intro @nc_ptr (And.intro @nc_iface (And.intro @nc_func (And.intro @bs_true (And.intro @bs_false (And.intro @bs_pos (And.intro @bs_neg (And.intro @bo_add (And.intro @bo_sub (And.intro @bo_mul (And.intro @bo_lss (And.intro @bo_leq (And.intro @bo_gtr (And.intro @bo_geq (And.intro @bo_eql (And.intro @bo_neq (And.intro @bo_eqs (And.intro @bo_nes (And.intro @un_not (And.intro @un_neg (And.intro @rd_extract0 (And.intro @rd_extract1 (And.intro @rd_extract2 (And.intro @rd_panic_iface (And.intro @wr_func (And.intro @wr_box (And.intro @ldK_e (And.intro @ldV_some (And.intro @xaK_some (And.intro @ldN_e (And.intro @stK_e (And.intro @blK_some (And.intro @brK_some (And.intro @hp_alloc_old (And.intro @hp_alloc_new (And.intro @hp_upd_same (And.intro @hp_upd_other (And.intro @hp_drew (And.intro @sz_drew (And.intro @size_upd (And.intro @size_alloc (And.intro @upd_upd (And.intro @cells_agg (And.intro @cells_aggA (And.intro @cells_stringA (And.intro @cells_intA (And.intro @cells_sliceA (And.intro @cells_pointerA (And.intro @cells_int (And.intro @cells_bool (And.intro @cells_string (And.intro @cells_slice (And.intro @cells_pointer (And.intro @cells_iface (And.intro @cells_nilIface (And.intro @cells_func (And.intro @cells_map (And.intro @one_int (And.intro @one_bool (And.intro @one_string (And.intro @one_slice (And.intro @one_pointer (And.intro @one_iface (And.intro @one_nilIface (And.intro @one_func (And.intro @one_map (And.intro @i64w (And.intro @u8w (And.intro @df_func (And.intro @lv_ret (@lv_panic)))))))))))))))))))))))))))))))))))))))))))))))))))))))))))))))))))))))) := And.intro @jn_e (And.intro @nc_ptr (And.intro @nc_iface (And.intro @nc_func (And.intro @bs_true (And.intro @bs_false (And.intro @bs_pos (And.intro @bs_neg (And.intro @bo_add (And.intro @bo_sub (And.intro @bo_mul (And.intro @bo_lss (And.intro @bo_leq (And.intro @bo_gtr (And.intro @bo_geq (And.intro @bo_eql (And.intro @bo_neq (And.intro @bo_eqs (And.intro @bo_nes (And.intro @un_not (And.intro @un_neg (And.intro @rd_extract0 (And.intro @rd_extract1 (And.intro @rd_extract2 (And.intro @rd_panic_iface (And.intro @wr_func (And.intro @wr_box (And.intro @ldK_e (And.intro @ldV_some (And.intro @xaK_some (And.intro @ldN_e (And.intro @stK_e (And.intro @blK_some (And.intro @brK_some (And.intro @hp_alloc_old (And.intro @hp_alloc_new (And.intro @hp_upd_same (And.intro @hp_upd_other (And.intro @hp_drew (And.intro @sz_drew (And.intro @size_upd (And.intro @size_alloc (And.intro @upd_upd (And.intro @cells_agg (And.intro @cells_aggA (And.intro @cells_stringA (And.intro @cells_intA (And.intro @cells_sliceA (And.intro @cells_pointerA (And.intro @cells_int (And.intro @cells_bool (And.intro @cells_string (And.intro @cells_slice (And.intro @cells_pointer (And.intro @cells_iface (And.intro @cells_nilIface (And.intro @cells_func (And.intro @cells_map (And.intro @one_int (And.intro @one_bool (And.intro @one_string (And.intro @one_slice (And.intro @one_pointer (And.intro @one_iface (And.intro @one_nilIface (And.intro @one_func (And.intro @one_map (And.intro @i64w (And.intro @u8w (And.intro @df_func (And.intro @lv_ret (@lv_panic)))))))))))))))))))))))))))))))))))))))))))))))))))))))))))))))))))))))
theorem zG2 : type_of% (And.intro @Int.toNat_natCast (And.intro @Option.isNone_none.{0} (And.intro @Option.isNone_some.{0} (And.intro @List.getElem?_toArray.{0} (And.intro @List.getElem?_cons_zero.{0} (And.intro @List.getElem?_cons_succ.{0} (And.intro @List.setIfInBounds_toArray.{0} (And.intro @List.set_cons_zero.{0} (And.intro @List.set_cons_succ.{0} (And.intro @List.size_toArray.{0} (And.intro @List.length_cons.{0} (And.intro @List.length_nil.{0} (And.intro @List.drop_zero.{0} (And.intro @List.drop_succ_cons.{0} (And.intro @List.take_succ_cons.{0} (And.intro @List.take_zero.{0} (And.intro @List.take_nil.{0} (And.intro @List.drop_nil.{0} (And.intro @List.all_cons.{0} (And.intro @List.all_nil.{0} (And.intro @Bool.and_true (And.intro @Bool.true_and (And.intro @Nat.zero_add (And.intro @Nat.add_zero (And.intro @Nat.mul_one (And.intro @and_self (And.intro @and_true (And.intro @true_and (And.intro @decide_true (And.intro @decide_false (And.intro @Bool.not_true (And.intro @Bool.not_false (And.intro @not_true_eq_false (@not_false_eq_true)))))))))))))))))))))))))))))))))) := And.intro @Int.toNat_natCast (And.intro @Option.isNone_none.{0} (And.intro @Option.isNone_some.{0} (And.intro @List.getElem?_toArray.{0} (And.intro @List.getElem?_cons_zero.{0} (And.intro @List.getElem?_cons_succ.{0} (And.intro @List.setIfInBounds_toArray.{0} (And.intro @List.set_cons_zero.{0} (And.intro @List.set_cons_succ.{0} (And.intro @List.size_toArray.{0} (And.intro @List.length_cons.{0} (And.intro @List.length_nil.{0} (And.intro @List.drop_zero.{0} (And.intro @List.drop_succ_cons.{0} (And.intro @List.take_succ_cons.{0} (And.intro @List.take_zero.{0} (And.intro @List.take_nil.{0} (And.intro @List.drop_nil.{0} (And.intro @List.all_cons.{0} (And.intro @List.all_nil.{0} (And.intro @Bool.and_true (And.intro @Bool.true_and (And.intro @Nat.zero_add (And.intro @Nat.add_zero (And.intro @Nat.mul_one (And.intro @and_self (And.intro @and_true (And.intro @true_and (And.intro @decide_true (And.intro @decide_false (And.intro @Bool.not_true (And.intro @Bool.not_false (And.intro @not_true_eq_false (@not_false_eq_true)))))))))))))))))))))))))))))))))
end Go.Proofs.YtkmpelgfhjgddaaGreatDoor.Sx
