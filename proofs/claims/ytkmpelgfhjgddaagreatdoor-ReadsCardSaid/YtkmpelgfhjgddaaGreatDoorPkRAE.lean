/- A part of one proof (SxO); no conditions beyond what each theorem names. -/
import Derived.Test.YtkmpelgfhjgddaaGreatDoorPkRAD
import Derived.LaidEql
import Derived.Laws.MakeOwn
import Derived.Laws.StructEq
import Derived.Lib.AppendStr
import Derived.MapKept
import Derived.WideMake
import Derived.Laws.Runes
set_option linter.all false
set_option linter.unusedVariables false
set_option linter.unusedSimpArgs false
namespace Go.Proofs.YtkmpelgfhjgddaaGreatDoor.Sx
open Go
theorem beq_bs (a b : List UInt8) : (bs a == bs b) = decide (a = b) := by
  change (a.toArray == b.toArray) = _
  rw [Bool.eq_iff_iff]
  simp
section
variable {P : Program} {w : World} {K : Value → Prop} {X : Value → World → Prop} {x y : Operand}
theorem concrete_run {u : TypeId} (h : concreteB P u = true) : ∃ d, P.underlying u = some d ∧ ∀ ms, d ≠ .interface ms := by
  unfold concreteB at h
  split at h
  · cases h
  · rename_i d hn hd; exact ⟨d, hd, fun ms e => hn ms e⟩
  · cases h
theorem rd_ta {u xT : TypeId} {z : Value} (hc : concreteB P u = true) (hz : zeroB P u = some z) (t : TypeId) (v : Value) :
    RD P (Instr.typeAssert (.iface t v) xT u true) w K X = if t = u then K (.tuple #[v, .bool true]) else K (.tuple #[z, .bool false]) := by
  obtain ⟨d, hd, hn⟩ := concrete_run hc
  split
  · rename_i h
    subst h
    refine rd_ok ?_
    unfold Instr.typeAssert
    simp only [Sem.run_bind, run_underlying hd, Result.andThen_ok]
    cases d <;> first | exact absurd rfl (hn _) | simp
  · rename_i h
    refine rd_ok ?_
    unfold Instr.typeAssert
    simp only [Sem.run_bind, run_underlying hd, Result.andThen_ok]
    cases d <;> first | exact absurd rfl (hn _) | simp [h, zero_run hz]
theorem rd_ta_nil {u xT : TypeId} {z : Value} (hc : concreteB P u = true) (hz : zeroB P u = some z) :
    RD P (Instr.typeAssert .nilIface xT u true) w K X = K (.tuple #[z, .bool false]) := by
  obtain ⟨d, hd, hn⟩ := concrete_run hc
  refine rd_ok ?_
  unfold Instr.typeAssert
  simp only [Sem.run_bind, run_underlying hd, Result.andThen_ok]
  cases d <;> first | exact absurd rfl (hn _) | simp [zero_run hz]
def hasB (P : Program) (u t : TypeId) : Bool :=
  match P.underlying u with
  | some (.interface want) => match P.info? t with
    | some i => (Instr.missingMethod want i.methods).isNone
    | none => false
  | _ => false
def isStrT (P : Program) (t : TypeId) : Bool := match P.underlying t with | some .string => true | _ => false
def isPtrS (P : Program) (t : TypeId) : Bool := match P.underlying t with | some (.pointer e) => (match P.info? e with | some i => i.size != 0 | none => false) | _ => false
theorem eq_ptr {t : TypeId} (h : isPtrS P t = true) {a b : Nat} {ca cb : Array Value} {ta tb : TypeId} (ha : w.heap[a]? = some (.cells ca ta (0, 0))) (hb : w.heap[b]? = some (.cells cb tb (0, 0))) :
    (Op.equal t (.pointer (some ⟨a, 0, none⟩)) (.pointer (some ⟨b, 0, none⟩))).run P w = .ok (decide (a = b)) w := by
  unfold isPtrS at h
  split at h
  · rename_i e hu
    split at h
    · rename_i i hi
      have hz : i.size ≠ 0 := by simpa using h
      have k : ∀ d : Nat, (Op.equalIn (d + 1) t (.pointer (some ⟨a, 0, none⟩)) (.pointer (some ⟨b, 0, none⟩))).run P w = .ok (decide (a = b)) w := fun d => by
        by_cases hab : a = b
        · subst hab
          simp [Op.equalIn, run_underlying hu, sizeOf, typeInfo, hi, hz, run_sameAddr_same]
        · have hne : (⟨a, 0, none⟩ : Addr) ≠ ⟨b, 0, none⟩ := by simp [hab]
          simp [Op.equalIn, run_underlying hu, sizeOf, typeInfo, hi, hz, run_sameAddr_other w hne ha hb, hab]
      exact k 9999
    · cases h
  · cases h
end
section
variable {P : Program} {w : World} {K : Value → Prop} {X : Value → World → Prop}
theorem rd_min {ts : Array TypeId} {t : TypeId} {k k' : IntKind} (a b : Int) : RD P (Builtin.min_ ts t #[.int k a, .int k' b]) w K X = K (.int k (if b < a then b else a)) := rd_ok (by simp [Builtin.min_, Builtin.min2])
theorem bo_rem {t : TypeId} {x y : Operand} (k : IntKind) (a b : Int) (h : b ≠ 0) : RD P (bo .rem t x y (.int k a) (.int k b)) w K X = K (.int k (a.tmod b)) := rd_ok (by simp [bo, eqGuard, binOp, Op.intDiv, h])
theorem bo_quo {t : TypeId} {x y : Operand} (k : IntKind) (a b : Int) (h : b ≠ 0) : RD P (bo .quo t x y (.int k a) (.int k b)) w K X = K (.int k (k.wrap (a.tdiv b))) := rd_ok (by simp [bo, eqGuard, binOp, Op.intDiv, h])
end
section
variable {P : Program} {w : World} {K : Value → World → Prop} {X : Value → World → Prop}
def msB (P : Program) (T : TypeId) : Option (TypeId × Value × Nat × Nat) :=
  match P.underlying T with
  | some (.slice e) => match P.info? e with
    | some i => match i.zero with
      | some z => some (e, z, i.size, i.bytes)
      | none => none
    | none => none
  | _ => none
theorem wr_makeSlice {T e : TypeId} {z : Value} {sz by_ : Nat} (h : msB P T = some (e, z, sz, by_)) {kl kc : IntKind} {n m : Nat} (hnm : n ≤ m) (hb : by_ ≤ 1000) (hm : m ≤ 1000000) :
    WR P (Instr.makeSlice T (.int kl n) (.int kc m)) w K X = K (.slice (some ⟨w.heap.size, 0, none⟩) n m) (w.alloc (.cells (madeCells z.cells (m * sz)) e)) := by
  unfold msB at h
  split at h
  · rename_i e' hu
    split at h
    · rename_i i hi
      split at h
      · rename_i z' hz
        simp only [Option.some.injEq, Prod.mk.injEq] at h
        obtain ⟨rfl, rfl, rfl, rfl⟩ := h
        refine wr_ok ?_
        have h1 : i.bytes * m ≤ 1000 * 1000000 := Nat.mul_le_mul hb hm
        have := run_make (P := P) w T e' i z' hu hi hz kl kc n m (by omega) (by omega) (by omega) (by omega)
        simpa using this
      · cases h
    · cases h
  · cases h
def byteB (P : Program) (t u e : TypeId) : Bool :=
  (match P.underlying t with | some (.slice e') => e' == e | _ => false) && isStrT P u && (match P.info? e with | some i => (match i.zero with | some (.int .u8 0) => true | _ => false) && i.size == 1 && i.bytes == 1 | none => false)
theorem wr_appendStr {t u ty e : TypeId} (hb : byteB P t u e = true) {base : Nat} {v : Value} {n : Nat} {xs : List Value} (hown : w.ownsRow base e 1 v n xs) (s : List UInt8)
    (hn : n + s.length ≤ 1000000000) (hbase : base ≤ w.heap.size)
    (h : ∀ v' w', w'.ownsRow base e 1 v' (n + s.length) (xs ++ s.map fun c => .int .u8 c.toNat) → w.grownBy w' v.ownBlock → (v'.ownBlock = v.ownBlock ∨ ∀ k, v'.ownBlock = some k → w.heap.size ≤ k) → K v' w') :
    WR P (Builtin.append_ #[t, u] ty #[v, .string (bs s)]) w K X := by
  unfold byteB at hb
  simp only [Bool.and_eq_true] at hb
  obtain ⟨⟨h1, h2⟩, h3⟩ := hb
  have ht : P.underlying t = some (.slice e) := by
    split at h1
    · rename_i e' he; rw [he]; rw [beq_iff_eq.1 h1]
    · cases h1
  have hu : P.underlying u = some .string := by
    unfold isStrT at h2
    split at h2
    · assumption
    · cases h2
  split at h3
  · rename_i i hi
    simp only [Bool.and_eq_true, beq_iff_eq] at h3
    obtain ⟨⟨hz, hs⟩, hby⟩ := h3
    have hz : i.zero = some (.int .u8 0) := by
      split at hz
      · rename_i hz'; exact hz'
      · cases hz
    have e1 : (bs s).size = s.length := by simp [ByteArray.size]
    have e2 : Lib.strCells (bs s) = s.map fun c => .int .u8 c.toNat := by simp [Lib.strCells]
    have hsz := e1
    rcases hown.2 with ⟨rfl, rfl⟩ | ⟨g, cap, cur, rfl, hbg, hg, hnc, hcm, hcs, htake⟩
    · have hx : xs = [] := List.eq_nil_of_length_eq_zero (by simpa using hown.1)
      subst hx
      obtain ⟨v', w', r1, r2, r3, _⟩ := Lib.run_append_own_string (P := P) w w.heap.size t u ty e i ht hu hi hz hs hby (.slice none 0 0) 0 [] (World.ownsRow_nil _ _ _ _) (bs s) (by rw [e1]; unfold maxLen; omega) (by omega) (Nat.le_refl _)
      rw [wr_ok r1]
      rw [e1, e2] at r2
      exact h v' w' (own_base r2 hbase) r3 (.inr fun k hk => (r2.lt k hk).1)
    · obtain ⟨v', w', r1, r2, r3, _⟩ := Lib.run_append_own_string (P := P) w base t u ty e i ht hu hi hz hs hby _ n xs hown (bs s) (by rw [e1]; unfold maxLen; omega) (by omega) hbase
      rw [wr_ok r1]
      rw [e1, e2] at r2
      refine h v' w' r2 r3 ?_
      by_cases hf : n + s.length ≤ cap
      · refine .inl ?_
        have hcs' : cur.size = cap := by simpa using hcs
        have := Lib.run_append_room_string (P := P) w t u ty e i ht hu hi hs g n cap cur hg (bs s) (by rw [e1]; exact hf) (by rw [e1]; omega)
        rw [this] at r1
        injection r1 with r1 _
        rw [← r1]; rfl
      · refine .inr fun k hk => ?_
        have holds : ∀ j u, xs[j]? = some u → w.cell? ((⟨g, 0, none⟩ : Addr).add j) = some u := hown.cells (g := g) rfl
        have hxl : xs.length = n := by simpa using hown.1
        have := Lib.run_append_grow_string (P := P) w t u ty e i (.int .u8 0) ht hu hi hz ⟨g, 0, none⟩ n cap xs (by rw [hs]; simpa using hxl) holds (bs s) (by omega) (by omega) (by rw [hby]; exact growslice_fits (by omega) (by omega))
        rw [this] at r1
        injection r1 with r1 _
        rw [← r1] at hk
        simp only [Value.ownBlock, Option.some.injEq] at hk
        omega
  · cases h3
end
theorem wr_appendB {P : Program} {t ty e : TypeId} {i : TypeInfo} {z : Value} {size bytes : Nat} (ht : P.underlying t = some (.slice e)) (hi : P.info? e = some i) (hz : i.zero = some z)
    (hsize : i.size = size) (hby : i.bytes = bytes) (hzs : z.cells.size = size) (hsz : 0 < size) {w : World} {base : Nat}
    {v : Value} {n : Nat} {xs : List Value} (hown : w.ownsRow base e size v n xs) {b m c : Nat} {cs : Array Value} {T : TypeId} {zz : Nat × Nat} (hb : w.heap[b]? = some (.cells cs T zz)) (hl : cs.toList.length = m * size) (h1 : ∀ u ∈ cs.toList, u.oneCell' = true)
    (hn : n + m ≤ 1000000000) (hby2 : bytes ≤ 1000) (hbase : base ≤ w.heap.size) {K : Value → World → Prop} {X : Value → World → Prop}
    (h : ∀ v' w', w'.ownsRow base e size v' (n + m) (xs ++ cs.toList) → w.grownBy w' v.ownBlock → (v'.ownBlock = v.ownBlock ∨ ∀ k, v'.ownBlock = some k → w.heap.size ≤ k) → K v' w') :
    WR P (Builtin.append_ #[t, t] ty #[v, .slice (some ⟨b, 0, none⟩) m c]) w K X := by
  have hb2 : (n + m) * bytes ≤ 1000000000 * 1000 := Nat.mul_le_mul hn hby2
  obtain ⟨v', w', r1, r2, r3, r4⟩ := run_append_own2 (P := P) w base t ty e i z size bytes ht hi hz hsize hby hzs hsz v n xs hown ⟨b, 0, none⟩ m c cs.toList hl (fun j u hu => by
    rw [addr_add, Nat.zero_add]; exact cellOf hb (by simpa using hu)) h1 (by unfold maxLen; omega) (by omega) hbase
  rw [wr_ok r1]
  exact h v' w' r2 r3 r4
section
variable {P : Program} {w : World} {X : Value → World → Prop}
theorem wr_makeMap {t : TypeId} {K : Value → World → Prop} : WR P (Instr.makeMap t none) w K X = K (.map (some w.heap.size)) (w.alloc (.map #[] 0)) := wr_ok rfl
theorem checkKey_str {b : Bool} {n : Nat} {t : TypeId} {s : ByteArray} (h : isStrT P t = true) : (Instr.checkKey b (n + 1) t (.string s)).run P w = .ok () w := by
  unfold isStrT at h
  split at h
  · rename_i hu
    simp [Instr.checkKey, run_underlying hu]
  · cases h
theorem checkKey_ptr {b : Bool} {n : Nat} {t : TypeId} {a : Option Addr} (h : isPtrT P t = true) : (Instr.checkKey b (n + 1) t (.pointer a)).run P w = .ok () w := by
  unfold isPtrT at h
  split at h
  · rename_i hu
    simp [Instr.checkKey, run_underlying hu]
  · cases h
def mapT (P : Program) (t : TypeId) : Option (TypeId × TypeId) := match P.underlying t with | some (.map k e) => some (k, e) | _ => none
theorem mapT_u {t k e : TypeId} (h : mapT P t = some (k, e)) : P.underlying t = some (.map k e) := by
  unfold mapT at h
  split at h
  · simp only [Option.some.injEq, Prod.mk.injEq] at h
    obtain ⟨rfl, rfl⟩ := h
    assumption
  · cases h
def keyS : Value → Option (List UInt8) | .string b => some b.data.toList | _ => none
def idxS (s : List UInt8) : List MapEntry → Nat → Option (Nat × Value)
  | [], _ => none
  | e :: r, i => if keyS e.key = some s then some (i, e.val) else idxS s r (i + 1)
def KeysS (es : List MapEntry) : Prop := ∀ e ∈ es, ∃ s, e.key = .string (bs s)
theorem findNow_str {d : TypeDesc} (hd : d = .string) (s : List UInt8) : ∀ (es : List MapEntry) (i : Nat), KeysS es → Instr.findNow d (.string (bs s)) es i = some (idxS s es i)
  | [], i, _ => rfl
  | e :: r, i, h => by
    subst hd
    obtain ⟨u, hu⟩ := h e (List.mem_cons_self ..)
    unfold Instr.findNow idxS
    rw [hu]
    have hb : (bs s == bs u) = decide (u = s) := by
      rw [beq_bs, Bool.eq_iff_iff]
      simp
      exact ⟨fun h => h.symm, fun h => h.symm⟩
    by_cases he : u = s
    · subst he
      simp [Instr.sameNow, keyS, hb]
    · simp only [Instr.sameNow, hb, decide_eq_false he, keyS, Option.some.injEq, if_neg he]
      exact findNow_str rfl s r (i + 1) fun e he => h e (List.mem_cons_of_mem _ he)
theorem findKey_str {k : TypeId} (h : isStrT P k = true) (s : List UInt8) {es : List MapEntry} (hk : KeysS es) : (Instr.findKey k (.string (bs s)) es).run P w = .ok (idxS s es 0) w := by
  unfold isStrT at h
  split at h
  · rename_i hu
    simp [Instr.findKey, run_underlying hu, findNow_str rfl s es 0 hk]
  · cases h
theorem getMap_run {r : Nat} {es : Array MapEntry} {c : Nat} (hb : w.heap[r]? = some (.map es c)) : (getObj r).run P w = .ok (.map es c) w := MapKept.run_getObj_map hb
theorem rd_lookupS {t k e : TypeId} {z : Value} {r c : Nat} {es : Array MapEntry} {K : Value → Prop} (ht : mapT P t = some (k, e)) (hs : isStrT P k = true) (hz : zeroB P e = some z) (hb : w.heap[r]? = some (.map es c)) (hk : KeysS es.toList) (s : List UInt8) (b : Bool) :
    RD P (Instr.lookup t (.map (some r)) (.string (bs s)) b) w K X =
      match idxS s es.toList 0 with
      | some (_, v) => K (if b then .tuple #[v, .bool true] else v)
      | none => K (if b then .tuple #[z, .bool false] else z) := by
  have h1 := checkKey_str (P := P) (w := w) (b := es.isEmpty) (n := 9999) (t := k) (s := bs s) hs
  have h2 := findKey_str (P := P) (w := w) hs s hk
  split
  · rename_i i v hi
    rw [hi] at h2
    refine rd_ok ?_
    simp [Instr.lookup, run_underlying (mapT_u ht), getMap_run hb, h1, h2]
  · rename_i hi
    rw [hi] at h2
    refine rd_ok ?_
    simp [Instr.lookup, run_underlying (mapT_u ht), getMap_run hb, h1, h2, zero_run hz]
theorem rd_lookup_nil {t k e : TypeId} {z : Value} {K : Value → Prop} (ht : mapT P t = some (k, e)) (hs : isPtrT P k = true) (hz : zeroB P e = some z) (a : Option Addr) (b : Bool) :
    RD P (Instr.lookup t (.map none) (.pointer a) b) w K X = K (if b then .tuple #[z, .bool false] else z) := by
  have h1 := checkKey_ptr (P := P) (w := w) (b := true) (n := 9999) (t := k) (a := a) hs
  refine rd_ok ?_
  have hd : ∃ d, P.underlying k = some (.pointer d) := by
    unfold isPtrT at hs
    split at hs
    · exact ⟨_, by assumption⟩
    · cases hs
  obtain ⟨d, hd⟩ := hd
  simp [Instr.lookup, run_underlying (mapT_u ht), h1, Instr.findKey, Instr.findNow, run_underlying hd, zero_run hz]
def entsP (l : List (Nat × Value)) : List MapEntry → Prop
  | [] => l = []
  | e :: r => ∃ b v l', l = (b, v) :: l' ∧ e.key = .pointer (some ⟨b, 0, none⟩) ∧ e.val = v ∧ entsP l' r
def idxP (b : Nat) : List (Nat × Value) → Nat → Option (Nat × Value)
  | [], _ => none
  | (c, v) :: r, i => if b = c then some (i, v) else idxP b r (i + 1)
theorem findAsking_ptr {k : TypeId} (hk : isPtrS P k = true) {b : Nat} {cb : Array Value} {tb : TypeId} (hb : w.heap[b]? = some (.cells cb tb (0, 0))) : ∀ (es : List MapEntry) (l : List (Nat × Value)) (i : Nat), entsP l es →
    (∀ c v, (c, v) ∈ l → ∃ cs t, w.heap[c]? = some (.cells cs t (0, 0))) → (Instr.findAsking k (.pointer (some ⟨b, 0, none⟩)) es i).run P w = .ok (idxP b l i) w
  | [], l, i, h, _ => by
    have h : l = [] := h
    subst h
    rfl
  | e :: r, l, i, h, hl => by
    obtain ⟨c, v, l', rfl, h1, h2, h3⟩ := h
    obtain ⟨cs, t, hc⟩ := hl c v (List.mem_cons_self ..)
    have h4 := eq_ptr (P := P) hk hb hc
    unfold Instr.findAsking idxP
    rw [h1, Sem.run_bind, h4]
    simp only [Result.andThen_ok]
    by_cases hbc : b = c
    · simp [hbc, h2]
    · simp only [decide_eq_false hbc, if_neg hbc]
      exact findAsking_ptr hk hb r l' (i + 1) h3 fun c v hm => hl c v (List.mem_cons_of_mem _ hm)
theorem findKey_ptr {k : TypeId} (hk : isPtrS P k = true) {b : Nat} {cb : Array Value} {tb : TypeId} (hb : w.heap[b]? = some (.cells cb tb (0, 0))) {es : List MapEntry} {l : List (Nat × Value)} (h : entsP l es)
    (hl : ∀ c v, (c, v) ∈ l → ∃ cs t, w.heap[c]? = some (.cells cs t (0, 0))) : (Instr.findKey k (.pointer (some ⟨b, 0, none⟩)) es).run P w = .ok (idxP b l 0) w := by
  have ha := findAsking_ptr hk hb es l 0 h hl
  have hd : ∃ d, P.underlying k = some (.pointer d) := by
    unfold isPtrS at hk
    split at hk
    · exact ⟨_, by assumption⟩
    · cases hk
  obtain ⟨d, hd⟩ := hd
  unfold Instr.findKey
  rw [Sem.run_bind, run_underlying hd]
  simp only [Result.andThen_ok]
  cases es with
  | nil =>
    have h : l = [] := h
    subst h
    rfl
  | cons e r =>
    obtain ⟨c, v, l', rfl, h1, h2, h3⟩ := h
    have : Instr.findNow (.pointer d) (.pointer (some ⟨b, 0, none⟩)) (e :: r) 0 = none := by
      unfold Instr.findNow
      rw [h1]
      rfl
    rw [this]
    exact ha
theorem isPtrS_T {k : TypeId} (h : isPtrS P k = true) : isPtrT P k = true := by
  unfold isPtrS at h
  unfold isPtrT
  split at h
  · rename_i hu; rw [hu]
  · cases h
theorem rd_lookupP {t k e : TypeId} {z : Value} {r c : Nat} {es : Array MapEntry} {l : List (Nat × Value)} {K : Value → Prop} (ht : mapT P t = some (k, e)) (hs : isPtrS P k = true) (hz : zeroB P e = some z) (hm : w.heap[r]? = some (.map es c)) (hk : entsP l es.toList)
    (hl : ∀ c v, (c, v) ∈ l → ∃ cs t, w.heap[c]? = some (.cells cs t (0, 0))) {b : Nat} {cb : Array Value} {tb : TypeId} (hb : w.heap[b]? = some (.cells cb tb (0, 0))) (ok : Bool) :
    RD P (Instr.lookup t (.map (some r)) (.pointer (some ⟨b, 0, none⟩)) ok) w K X =
      match idxP b l 0 with
      | some (_, v) => K (if ok then .tuple #[v, .bool true] else v)
      | none => K (if ok then .tuple #[z, .bool false] else z) := by
  have h1 := checkKey_ptr (P := P) (w := w) (b := es.isEmpty) (n := 9999) (t := k) (a := some ⟨b, 0, none⟩) (isPtrS_T hs)
  have h2 := findKey_ptr (P := P) (w := w) hs hb hk hl
  split
  · rename_i i v hi
    rw [hi] at h2
    refine rd_ok ?_
    simp [Instr.lookup, run_underlying (mapT_u ht), getMap_run hm, h1, h2]
  · rename_i hi
    rw [hi] at h2
    refine rd_ok ?_
    simp [Instr.lookup, run_underlying (mapT_u ht), getMap_run hm, h1, h2, zero_run hz]
theorem wu_mapNewP {t k e : TypeId} {r c : Nat} {es : Array MapEntry} {l : List (Nat × Value)} {K : World → Prop} (ht : mapT P t = some (k, e)) (hs : isPtrS P k = true) (hm : w.heap[r]? = some (.map es c)) (hk : entsP l es.toList)
    (hl : ∀ c v, (c, v) ∈ l → ∃ cs t, w.heap[c]? = some (.cells cs t (0, 0))) {b : Nat} {cb : Array Value} {tb : TypeId} (hb : w.heap[b]? = some (.cells cb tb (0, 0))) (hn : idxP b l 0 = none) (v : Value) :
    WU P (Instr.mapUpdate t (.map (some r)) (.pointer (some ⟨b, 0, none⟩)) v) w K X = K (upd w r (.map (es.push { key := .pointer (some ⟨b, 0, none⟩), val := v, born := c }) (c + 1))) := by
  have h1 := checkKey_ptr (P := P) (w := w) (b := false) (n := 9999) (t := k) (a := some ⟨b, 0, none⟩) (isPtrS_T hs)
  have h2 := findKey_ptr (P := P) (w := w) hs hb hk hl
  rw [hn] at h2
  refine wu_ok ?_
  simp [Instr.mapUpdate, run_underlying (mapT_u ht), getMap_run hm, h1, h2, MapKept.run_setObj_map _ hm, upd]
end
end Go.Proofs.YtkmpelgfhjgddaaGreatDoor.Sx
