/- A part of one proof (SX3, SX4); no conditions beyond what each theorem names. -/
import Derived.Test.YtkmpelgfhjgddaaGreatDoorPkAG
import Derived.Test.YtkmpelgfhjgddaaGreatDoorPkR
import Derived.Test.YtkmpelgfhjgddaaGreatDoorPkA
set_option linter.all false
set_option linter.unusedVariables false
set_option linter.unusedSimpArgs false
namespace Go.Proofs.YtkmpelgfhjgddaaGreatDoor
open Go.RowKit Sx
set_option maxRecDepth 100000
def IsCl (F : Nat → Prop) (w : World) (v : Value) (c : P.Cl) : Prop := ∃ b av bv va vc, v = .pointer (some ⟨b, 0, none⟩) ∧ F b ∧
  w.heap[b]? = some (.cells #[.string (bs c.name), av, bv, .slice va c.vars.length vc] 104 (0, 0)) ∧ IsSlEx F w av c.args ∧ IsBd F w bv c.body
def IsCls (F : Nat → Prop) (w : World) (vs : List Value) : List P.Cl → Prop
  | [] => vs = []
  | x :: xs => ∃ v r, vs = v :: r ∧ IsCl F w v x ∧ IsCls F w r xs
def KeepA (F : Nat → Prop) (w w' : World) : Prop := ∀ b cs t, F b → t ≠ 9 → w.heap[b]? = some (.cells cs t (0, 0)) → w'.heap[b]? = some (.cells cs t (0, 0))
theorem KeepA.ast {F : Nat → Prop} {w w' : World} (h : KeepA F w w') : ∀ b o, F b → astObj o → w.heap[b]? = some o → w'.heap[b]? = some o := by
  intro b o hb ha ho
  cases o with
  | cells cs t z =>
    obtain ⟨h1, rfl⟩ := ha
    refine h b cs t hb ?_ ho
    rintro rfl
    rcases h1 with h | h | h | h <;> cases h
  | _ => exact ha.elim
theorem IsCl.mono {F F' : Nat → Prop} {w w' : World} {v : Value} {c : P.Cl} (hf : ∀ b, F b → F' b) (hw : KeepA F w w') (h : IsCl F w v c) : IsCl F' w' v c := by
  obtain ⟨b, av, bv, va, vc, h1, h2, h3, h4, h5⟩ := h
  exact ⟨b, av, bv, va, vc, h1, hf b h2, hw b _ _ h2 (by decide) h3, h4.mono hf hw.ast, IsBd.mono hf hw.ast _ _ h5⟩
theorem IsCls.mono {F F' : Nat → Prop} {w w' : World} (hf : ∀ b, F b → F' b) (hw : KeepA F w w') : ∀ (xs : List P.Cl) (vs : List Value), IsCls F w vs xs → IsCls F' w' vs xs
  | [], vs, h => h
  | x :: xs, vs, h => by
    obtain ⟨v, r, h1, h2, h3⟩ := h
    exact ⟨v, r, h1, h2.mono hf hw, IsCls.mono hf hw xs r h3⟩
theorem IsCls.snoc {F : Nat → Prop} {w : World} {v : Value} {x : P.Cl} (hx : IsCl F w v x) : ∀ {xs : List P.Cl} {vs : List Value}, IsCls F w vs xs → IsCls F w (vs ++ [v]) (xs ++ [x])
  | [], vs, h => by
    have h : vs = [] := h
    subst h
    exact ⟨v, [], rfl, hx, rfl⟩
  | y :: ys, vs, h => by
    obtain ⟨u, r, rfl, h2, h3⟩ := h
    exact ⟨u, r ++ [v], rfl, h2, IsCls.snoc hx h3⟩
theorem SFr.keepA {pb : Nat} {F : Nat → Prop} {w w' : World} (h : SFr pb w w') (hn : ∀ b, F b → b ≠ pb) : KeepA F w w' := fun b _ _ hb ht hc => h.keep hc (hn b hb) ht
theorem SP.x {w : World} {pb tb : Nat} {T : List P.Tok} {k : Nat} {vars : List P.Bs} {d : Nat} (h : SP w pb tb T k vars d) : ∃ cap va vc cs,
    w.heap[pb]? = some (.cells #[.slice (some ⟨tb, k * 3, none⟩) (T.length - k) (cap - k), .slice va vars.length vc, .int .i64 d] 142 (0, 0)) ∧ T.length ≤ cap ∧ cap ≤ 9223372036854775807 ∧ T.length ≤ 2001 ∧ k < T.length ∧
    w.heap[tb]? = some (.cells cs 139 (0, 0)) ∧ k * 3 + 3 ≤ cs.size ∧ (cs.toList.drop (k * 3)).take 3 = [.int .i64 (P.tk T k).kind, .string (bs (P.tk T k).text), .int .i64 (P.tk T k).pos] ∧
    cs[k * 3]? = some (.int .i64 (P.tk T k).kind) ∧ cs[k * 3 + 1]? = some (.string (bs (P.tk T k).text)) ∧ cs[k * 3 + 2]? = some (.int .i64 (P.tk T k).pos) := by
  obtain ⟨tw, lt, kt, nv, ⟨-, cs, t1, t2⟩, cap, vv, h1, h2, h3, h4⟩ := h
  obtain ⟨a, b, c⟩ := t2 k kt
  obtain ⟨va, vc, rfl⟩ := own_slice h4
  have hc := (Array.getElem?_eq_some_iff.1 c).1
  refine ⟨cap, va, vc, cs, h3, h1, h2, tw.len, kt, t1, by omega, ?_, a, b, c⟩
  apply List.ext_getElem?
  intro i
  rw [List.getElem?_take]
  match i with
  | 0 => simpa using a
  | 1 => simpa using b
  | 2 => simpa using c
  | i + 3 => simp; omega
theorem SP.updO {w : World} {pb tb x : Nat} {T : List P.Tok} {k : Nat} {vars : List P.Bs} {d : Nat} {cs : Array Value} {t : TypeId} {z : Nat × Nat} {o : Obj} (h : SP w pb tb T k vars d)
    (hx : w.heap[x]? = some (.cells cs t z)) (ht : t ≠ 9) (hp : x ≠ pb) (htb : tb < x) : SP (upd w x o) pb tb T k vars d :=
  h.other hx ht hp htb fun b ob hb ho => by rw [hp_upd_other hb]; exact ho
theorem SP.extE {w w' : World} {pb tb : Nat} {T : List P.Tok} {k : Nat} {vars : List P.Bs} {d : Nat} (h : SP w pb tb T k vars d) (hE : Ext w w') : SP w' pb tb T k vars d := h.ext hE.ext
theorem SP.noVars {w : World} {pb tb : Nat} {T : List P.Tok} {k : Nat} {vars : List P.Bs} {d cap : Nat} {vv : Value} (h : SP w pb tb T k vars d)
    (hb : w.heap[pb]? = some (.cells #[.slice (some ⟨tb, k * 3, none⟩) (T.length - k) (cap - k), vv, .int .i64 d] 142 (0, 0))) (h1 : T.length ≤ cap) (h2 : cap ≤ 9223372036854775807) :
    SP (upd w pb (.cells #[.slice (some ⟨tb, k * 3, none⟩) (T.length - k) (cap - k), .slice none 0 0, .int .i64 d] 142 (0, 0))) pb tb T k [] d := by
  obtain ⟨tw, lt, kt, nv, ⟨tt, cs, t1, t2⟩, _⟩ := h
  refine ⟨tw, lt, kt, by simp, ⟨tt.ext fun b o hb ho => by rw [hp_upd_other (by omega)]; exact ho, cs, by rw [hp_upd_other (by omega)]; exact t1, t2⟩, cap, .slice none 0 0, h1, h2, hp_upd_same rfl (ltOf hb), World.ownsRow_nil _ _ _ _⟩
theorem SP.onU {w : World} {pb tb : Nat} {T : List P.Tok} {k : Nat} {vars : List P.Bs} {d cap n' c' o' : Nat} {vv : Value} (h : SP w pb tb T k vars d)
    (hb : w.heap[pb]? = some (.cells #[.slice (some ⟨tb, k * 3, none⟩) (T.length - k) (cap - k), vv, .int .i64 d] 142 (0, 0))) (hk : k + 1 < T.length) (hn : n' = T.length - (k + 1)) (hc : c' = cap - (k + 1)) (ho : o' = (k + 1) * 3) :
    SP (upd w pb (.cells #[.slice (some ⟨tb, o', none⟩) n' c', vv, .int .i64 d] 142 (0, 0))) pb tb T (k + 1) vars d := by
  subst hn hc ho
  refine h.set hk ((FrM.refl _ _).upd (.inl fun _ => .inl rfl)) (fun cap' vv' hb' => ?_) (fun b hb' => hp_upd_other hb')
  rw [hb] at hb'
  have hkt := h.kt
  obtain ⟨tw, lt, kt, nv, toks, cap2, vv2, g1, g2, g3, g4⟩ := h
  simp only [Option.some.injEq, Obj.cells.injEq, and_true, Array.mk.injEq, List.cons.injEq, Value.slice.injEq] at hb'
  obtain ⟨e1, e2⟩ := hb'
  subst e2
  have e3 : cap - (k + 1) = cap' - (k + 1) := by omega
  rw [hp_upd_same rfl (ltOf hb), e3]
end Go.Proofs.YtkmpelgfhjgddaaGreatDoor
namespace Go.Proofs.YtkmpelgfhjgddaaGreatDoor
open Go.RowKit Sx
set_option maxRecDepth 100000
def SPostP (pb : Nat) (w : World) (r : P.Res (List P.Cl)) (e : Ending) (w' : World) : Prop :=
  SFr pb w w' ∧ match r with
  | .err c a => faulted c a w w' e
  | .ok cs _ _ => ∃ v vs, e = .returned v ∧ IsSl (Nu w w') w' 97 v vs ∧ IsCls (Nu w w') w' vs cs
def RowSX (B : Nat) (w1 : World) (v : Value) (acc : List P.Cl) : Prop :=
  ∃ xs, w1.ownsRow B 97 1 v acc.length xs ∧ IsCls (fun b => B ≤ b ∧ b < w1.heap.size ∧ some b ≠ v.ownBlock) w1 xs acc
theorem Tryz.infoPC : (Tryz.prog.info? 97).map (fun i => (i.zero, i.size, i.bytes)) = some (some (.pointer none), 1, 8) := by kernel_rfl
theorem wr_appendPC {w : World} {base n : Nat} {v : Value} {xs : List Value} (hown : w.ownsRow base 97 1 v n xs) {b m : Nat} {a : Value}
    (hb : w.heap[b]? = some (.cells #[a] 97 (0, 0))) (h1 : a.oneCell' = true)
    (hn : n ≤ 100000) (hbase : base ≤ w.heap.size) {K : Value → World → Prop} {X : Value → World → Prop}
    (h : ∀ v' w', w'.ownsRow base 97 1 v' (n + 1) (xs ++ [a]) → w.grownBy w' v.ownBlock → (v'.ownBlock = v.ownBlock ∨ ∀ k, v'.ownBlock = some k → w.heap.size ≤ k) → K v' w') :
    WR Tryz.prog (Builtin.append_ #[80, 80] 80 #[v, .slice (some ⟨b, 0, none⟩) 1 m]) w K X := by
  obtain ⟨i, hi, h0⟩ := Option.map_eq_some_iff.1 Tryz.infoPC
  simp only [Prod.mk.injEq] at h0
  obtain ⟨hz, hs, hbt⟩ := h0
  refine wr_append (m := 1) (t := 80) (e := 97) (by kernel_rfl) hi hz hs hbt rfl (by decide) hown hb rfl (fun u hu => ?_) (by omega) (by decide) hbase h
  simp only [List.mem_cons, List.not_mem_nil, or_false] at hu
  subst hu
  exact h1
theorem sliced_some {b o l len cap n : Nat} (h : ¬ cap = l) : sliced (some ⟨b, o, none⟩) l len cap n = .slice (some ⟨b, o + l * n, none⟩) (len - l) (cap - l) := by
  unfold sliced
  rw [if_neg h]
  simp [addr_add]
theorem own_frS {pb : Nat} {w w' : World} (h : SFr pb w w') {base e size n : Nat} {v : Value} {xs : List Value} (hu : w.ownsRow base e size v n xs) (hb : pb < base) (he : e ≠ 9) : w'.ownsRow base e size v n xs := by
  obtain ⟨h0, hu⟩ := hu
  refine ⟨h0, ?_⟩
  rcases hu with hu | ⟨g, cap, cur, rfl, h1, h2, h3⟩
  · exact .inl hu
  · exact .inr ⟨g, cap, cur, rfl, h1, h.keep h2 (by omega) he, h3⟩
theorem own_det {w : World} {base e size n : Nat} {v : Value} {xs ys : List Value} (h : w.ownsRow base e size v n xs) (h' : w.ownsRow base e size v n ys) : xs = ys := by
  rcases h.2 with ⟨hv1, hn⟩ | ⟨g1, c1, cur1, hv1, _, g2, _, _, _, g3⟩
  · have l1 := h.1
    have l2 := h'.1
    rw [hn] at l1 l2
    have e1 : xs = [] := List.eq_nil_of_length_eq_zero (by simpa using l1)
    have e2 : ys = [] := List.eq_nil_of_length_eq_zero (by simpa using l2)
    rw [e1, e2]
  · rcases h'.2 with ⟨hv2, _⟩ | ⟨g1', c1', cur1', hv2, _, g2', _, _, _, g3'⟩
    · rw [hv1] at hv2; cases hv2
    · rw [hv1] at hv2
      injection hv2 with hv2 _ _
      injection hv2 with hv2
      injection hv2 with hv2 _ _
      subst hv2
      rw [g2] at g2'
      injection g2' with g2'
      injection g2' with g2' _ _
      subst g2'
      rw [← g3, ← g3']
theorem RowSX.more {B : Nat} {w1 w2 w3 w4 : World} {pb : Nat} {v v' u : Value} {acc : List P.Cl} {x : P.Cl} (h : RowSX B w1 v acc) (h12 : SFr pb w1 w2) (hpb : pb < B) (hx : IsCl (Nu w1 w2) w2 u x) (hww : B ≤ w1.heap.size)
    (h23 : Ext w2 w3) {xs : List Value} (hxs : w3.ownsRow B 97 1 v acc.length xs) (hown' : w4.ownsRow B 97 1 v' (acc.length + 1) (xs ++ [u]))
    (hg : w3.grownBy w4 v.ownBlock) (hv : v'.ownBlock = v.ownBlock ∨ ∀ k, v'.ownBlock = some k → w3.heap.size ≤ k) : RowSX B w4 v' (acc ++ [x]) := by
  obtain ⟨xs', o1, o2⟩ := h
  have s12 := h12.size
  have s23 := h23.size
  have s34 := hg.size
  have o3 : w3.ownsRow B 97 1 v acc.length xs' := own_ext h23.ext (own_frS h12 o1 (by omega) (by decide))
  have e : xs' = xs := own_det o3 hxs
  subst e
  have lt : ∀ k, v.ownBlock = some k → k < w1.heap.size := fun k hk => (o1.lt k hk).2
  have kp34 : ∀ b t cs, some b ≠ v.ownBlock → b < w3.heap.size → w3.heap[b]? = some (.cells cs t (0, 0)) → w4.heap[b]? = some (.cells cs t (0, 0)) :=
    fun b t cs hb hl hc => by rw [hg.block b hl hb]; exact hc
  have nv : ∀ b, b < w3.heap.size → some b ≠ v.ownBlock → some b ≠ v'.ownBlock := fun b hb hne he => by
    rcases hv with hv | hv
    · rw [hv] at he; exact hne he
    · have := hv b he.symm; omega
  refine ⟨_, by rw [List.length_append]; exact hown', IsCls.snoc ?_ ?_⟩
  · refine hx.mono (fun b hb => ⟨by have := hb.1; omega, by have := hb.2; omega, nv b (by have := hb.2; omega) (fun e => by have := lt b e.symm; have := hb.1; omega)⟩) (fun b cs t hb ht hc => ?_)
    have h2 := h23.ext _ _ hc
    exact kp34 b _ cs (fun e => by have := lt b e.symm; have := hb.1; omega) (ltOf h2) h2
  · refine IsCls.mono (F := fun b => B ≤ b ∧ b < w1.heap.size ∧ some b ≠ v.ownBlock) (fun b hb => ⟨hb.1, by have := hb.2.1; omega, nv b (by have := hb.2.1; omega) hb.2.2⟩) (fun b cs t hb ht hc => ?_) _ _ o2
    have h1 := h12.keep hc (by have := hb.1; omega) ht
    have h2 := h23.ext _ _ h1
    exact kp34 b _ cs hb.2.2 (ltOf h2) h2
structure SClSt (pb tb : Nat) (T : List P.Tok) (B : Nat) (w : World) (q3 q : Nat) (nm : P.Bs) (r : P.Res P.Cl) (cont : List P.Ex → P.Bd → Nat → List P.Bs → Option (P.Res P.Cl)) (w' : World) : Prop where
  fr : SFr pb w w'
  t3 : ∃ kd ps, w'.heap[q3]? = some (.cells #[.int .i64 kd, .string (bs nm), .int .i64 ps] 139 (0, 0))
  st : ∃ av bv l bd k vs, w'.heap[q]? = some (.cells #[.string (bs nm), av, bv, .slice none 0 0] 104 (0, 0)) ∧
    IsSlEx (fun b => B ≤ b ∧ b < w'.heap.size ∧ b ≠ q) w' av l ∧ IsBd (fun b => B ≤ b ∧ b < w'.heap.size ∧ b ≠ q) w' bv bd ∧ SP w' pb tb T k vs 0 ∧ cont l bd k vs = some r
theorem sIsB {pb tb : Nat} {T : List P.Tok} {k : Nat} {vars : List P.Bs} {d : Nat} {w : World} (h : SP w pb tb T k vars d) (s : P.Bs) (hs : s.all P.digit = false) :
    Calls Tryz.prog 52 #[.pointer (some ⟨pb, 0, none⟩), .string (bs s)] w fun e w' => e = .returned (.bool (P.isT T k s)) ∧ SP w' pb tb T (if P.isT T k s = true then k + 1 else k) vars d ∧ SFr pb w w' := by
  by_cases hx : P.isT T k s = true
  · refine Calls.mono (sIs_yes h s hx) ?_
    rintro e w' ⟨rfl, h1, h2⟩
    rw [if_pos hx, hx]
    exact ⟨rfl, h1, h2⟩
  · have hx' : P.isT T k s = false := by simpa using hx
    refine Calls.mono (sIs_no h s hx' hs) ?_
    rintro e w' ⟨rfl, rfl⟩
    rw [if_neg hx, hx']
    exact ⟨rfl, h, FrM.refl _ _⟩
theorem sMustX {pb tb : Nat} {T : List P.Tok} {k : Nat} {vars : List P.Bs} {d : Nat} {w : World} (h : SP w pb tb T k vars d) (s : P.Bs) (hs : s.all P.digit = false) {α : Type} (x : α) {r : P.Res α} (hr : P.musT T s x k vars = some r) :
    Calls Tryz.prog 54 #[.pointer (some ⟨pb, 0, none⟩), .string (bs s)] w fun e w' => SFr pb w w' ∧
      ((e = .returned (.tuple #[]) ∧ r = .ok x (k + 1) vars ∧ SP w' pb tb T (k + 1) vars d) ∨ (∃ c a, r = .err c a ∧ faulted c a w w' e)) := by
  unfold P.musT at hr
  split at hr
  · rename_i hx
    refine (sMust_yes h s hx).mono ?_
    rintro e w' ⟨rfl, h1, h2⟩
    exact ⟨h2, .inl ⟨rfl, (Option.some.inj hr).symm, h1⟩⟩
  · rename_i hx
    refine (sMust_no h s (by simpa using hx) hs).mono ?_
    rintro e w' ⟨h1, h2, -⟩
    exact ⟨h2, .inr ⟨_, _, (Option.some.inj hr).symm, h1⟩⟩
theorem SClSt.step {pb tb : Nat} {T : List P.Tok} {B : Nat} {w : World} {q3 q : Nat} {nm : P.Bs} {r : P.Res P.Cl} {cont' : List P.Ex → P.Bd → Nat → List P.Bs → Option (P.Res P.Cl)} {w1 w2 : World} (h1 : SFr pb w w1) (hF : SFr pb w1 w2)
    (hl : pb < q3 ∧ q3 < B ∧ B ≤ q) (t3 : ∃ kd ps, w1.heap[q3]? = some (.cells #[.int .i64 kd, .string (bs nm), .int .i64 ps] 139 (0, 0))) {av bv : Value} {l : List P.Ex} {bd : P.Bd} {k : Nat} {vs : List P.Bs}
    (g1 : w1.heap[q]? = some (.cells #[.string (bs nm), av, bv, .slice none 0 0] 104 (0, 0)))
    (g2 : IsSlEx (fun b => B ≤ b ∧ b < w1.heap.size ∧ b ≠ q) w1 av l) (g3 : IsBd (fun b => B ≤ b ∧ b < w1.heap.size ∧ b ≠ q) w1 bv bd) (g4 : SP w2 pb tb T k vs 0) (g5 : cont' l bd k vs = some r) : SClSt pb tb T B w q3 q nm r cont' w2 := by
  have := hF.size
  obtain ⟨kd, ps, t3⟩ := t3
  have hm : ∀ b, (fun b => B ≤ b ∧ b < w1.heap.size ∧ b ≠ q) b → (fun b => B ≤ b ∧ b < w2.heap.size ∧ b ≠ q) b := fun b hb => ⟨hb.1, by have := hb.2.1; omega, hb.2.2⟩
  have hk : KeepA (fun b => B ≤ b ∧ b < w1.heap.size ∧ b ≠ q) w1 w2 := hF.keepA fun b hb => by have := hb.1; omega
  exact ⟨h1.trans hF, ⟨kd, ps, hF.keep t3 (by omega) (by decide)⟩, av, bv, l, bd, k, vs, hF.keep g1 (by omega) (by decide), g2.mono hm hk.ast, IsBd.mono hm hk.ast _ _ g3, g4, g5⟩
set_option maxHeartbeats 1000000 in
theorem sProg1 {pb tb : Nat} {T : List P.Tok} {w : World} (h : SP w pb tb T 0 [] 0) (hc : STabC w tb) :
    Calls Tryz.prog 49 #[.pointer (some ⟨pb, 0, none⟩)] w (SPostP pb w (P.progT T)) := by
  have hlt := h.lt
  have hpb := h.d2.2.2
  refine sh_s_Program_c1_ok ?_
  refine ⟨fun n t w2 => SFr pb w w2 ∧ ∃ f k vs acc, n = f + 1 ∧ acc.length ≤ 40 ∧ P.pProgG T f k acc = some (P.progT T) ∧ SP w2 pb tb T k vs 0 ∧ RowSX w.heap.size w2 (t 2) acc,
    ⟨_, FrM.refl _ _, _, 0, [], [], rfl, by simp, P.progT_eq T, h, [], World.ownsRow_nil _ _ _ _, rfl⟩, ?_⟩
  intro n t dd w2 hI
  refine toPr ?_
  obtain ⟨hF, f, k, vs, acc, rfl, ha40, hq, hP, hrow⟩ := hI
  have s12 := hF.size
  cases f with
  | zero => rw [P.pProgG] at hq; cases hq
  | succ f =>
  rw [P.pProgG] at hq
  obtain ⟨cap, va, vc, cs, h3, hc1, hc2, hlT, hkt, g0, g1, g2, g3, g4, g5⟩ := hP.x
  have l3 := ltOf h3
  have e0 : ((0 : Nat) : Int) = 0 := rfl
  rw [e0] at h3
  obtain ⟨xs, o1, o2⟩ := id hrow
  obtain ⟨ra, rc, hv⟩ := own_slice o1
  have hcw : STabC w2 tb := hc.fr hF hlt
  by_cases hk0 : (P.tk T k).kind = 0
  · rw [if_pos hk0] at hq
    have hk0' : (((P.tk T k).kind : Nat) : Int) = 0 := by omega
    simp (disch := first | assumption | omega | ((simp only [size_alloc, sz_drew, size_upd, List.size_toArray, List.length_cons, List.length_nil]) <;> omega) | decide) only [sh_s_Program_c1, Pr, PX, PC, NX, ends, fillL, wrL, sOf, Nat.reduceAdd, Nat.reduceMul, Nat.reduceLeDiff, Nat.reduceEqDiff, Int.reduceToNat, Int.reduceAdd, Int.reduceLT, Int.reduceLE, ↓reduceIte, forall_const, eq_self, zG1, zG2, al_139, bd_104, bd_145, br_80_1, fa_104_1, fa_104_2, fa_104_3, fa_139_0, fa_139_1, fa_139_2, fa_142_0, fa_142_1, ix_140, ld_137, ld_139, ld_140, ld_3, ld_38, ld_9, ln_80, sl_140, st_101, st_102, st_139, st_140, st_38, h3, g0, g3]
    rw [← Option.some.inj hq]
    refine ⟨hF, t 2, xs, rfl, own_IsSl o1 (fun b hb => ⟨(o1.lt b hb).1, (o1.lt b hb).2⟩), IsCls.mono (fun b hb => ⟨hb.1, hb.2.1⟩) (fun b cs t _ _ hc => hc) _ _ o2⟩
  · rw [if_neg hk0] at hq
    have hk0' : ¬ (((P.tk T k).kind : Nat) : Int) = 0 := by omega
    have hnx := hP.tw.next hkt hk0
    simp (disch := first | assumption | omega | ((simp only [size_alloc, sz_drew, size_upd, List.size_toArray, List.length_cons, List.length_nil]) <;> omega) | decide) only [sh_s_Program_c1, Pr, PX, PC, NX, ends, fillL, wrL, sOf, Nat.reduceAdd, Nat.reduceMul, Nat.reduceLeDiff, Nat.reduceEqDiff, Int.reduceToNat, Int.reduceAdd, Int.reduceLT, Int.reduceLE, ↓reduceIte, forall_const, eq_self, zG1, zG2, al_139, bd_104, bd_145, br_80_1, fa_104_1, fa_104_2, fa_104_3, fa_139_0, fa_139_1, fa_139_2, fa_142_0, fa_142_1, ix_140, ld_137, ld_139, ld_140, ld_3, ld_38, ld_9, ln_80, sl_140, st_101, st_102, st_139, st_140, st_38, h3, g0, g3, g5]
    refine ⟨fun _ w3 => w3 = w2 ∧ ¬ acc.length = 40, ?_, ?_⟩
    · by_cases h40 : acc.length = 40
      · rw [if_pos h40] at hq
        have h40' : ((acc.length : Nat) : Int) = 40 := by omega
        simp (disch := first | assumption | omega | ((simp only [size_alloc, sz_drew, size_upd, List.size_toArray, List.length_cons, List.length_nil]) <;> omega) | decide) only [sh_s_Program_c1, Pr, PX, PC, NX, ends, fillL, wrL, sOf, Nat.reduceAdd, Nat.reduceMul, Nat.reduceLeDiff, Nat.reduceEqDiff, Int.reduceToNat, Int.reduceAdd, Int.reduceLT, Int.reduceLE, ↓reduceIte, forall_const, eq_self, zG1, zG2, al_139, bd_104, bd_145, br_80_1, fa_104_1, fa_104_2, fa_104_3, fa_139_0, fa_139_1, fa_139_2, fa_142_0, fa_142_1, ix_140, ld_137, ld_139, ld_140, ld_3, ld_38, ld_9, ln_80, sl_140, st_101, st_102, st_139, st_140, st_38, hv]
        refine (sFail _ _ _ pb hP.sb).mono ?_
        rintro e w3 ⟨hfl, hF3, -⟩
        have hfl2 := faulted_back hfl s12
        obtain ⟨b, rfl, -, -⟩ := hfl
        simp (disch := first | assumption | omega | ((simp only [size_alloc, sz_drew, size_upd, List.size_toArray, List.length_cons, List.length_nil]) <;> omega) | decide) only [sh_s_Program_c1, Pr, PX, PC, NX, ends, fillL, wrL, sOf, Nat.reduceAdd, Nat.reduceMul, Nat.reduceLeDiff, Nat.reduceEqDiff, Int.reduceToNat, Int.reduceAdd, Int.reduceLT, Int.reduceLE, ↓reduceIte, forall_const, eq_self, zG1, zG2, al_139, bd_104, bd_145, br_80_1, fa_104_1, fa_104_2, fa_104_3, fa_139_0, fa_139_1, fa_139_2, fa_142_0, fa_142_1, ix_140, ld_137, ld_139, ld_140, ld_3, ld_38, ld_9, ln_80, sl_140, st_101, st_102, st_139, st_140, st_38]
        rw [← Option.some.inj hq]
        exact ⟨hF.trans hF3, hfl2⟩
      · have h40' : ¬ ((acc.length : Nat) : Int) = 40 := by omega
        simp (disch := first | assumption | omega | ((simp only [size_alloc, sz_drew, size_upd, List.size_toArray, List.length_cons, List.length_nil]) <;> omega) | decide) only [sh_s_Program_c1, Pr, PX, PC, NX, ends, fillL, wrL, sOf, Nat.reduceAdd, Nat.reduceMul, Nat.reduceLeDiff, Nat.reduceEqDiff, Int.reduceToNat, Int.reduceAdd, Int.reduceLT, Int.reduceLE, ↓reduceIte, forall_const, eq_self, zG1, zG2, al_139, bd_104, bd_145, br_80_1, fa_104_1, fa_104_2, fa_104_3, fa_139_0, fa_139_1, fa_139_2, fa_142_0, fa_142_1, ix_140, ld_137, ld_139, ld_140, ld_3, ld_38, ld_9, ln_80, sl_140, st_101, st_102, st_139, st_140, st_38, hv]
        exact h40
    · rintro _ w3 ⟨rfl, h40⟩ _
      rw [if_neg h40] at hq
      cases hcl : P.pClause T (P.fuelFor T) k with
      | none => rw [hcl] at hq; cases hq
      | some qc =>
      rw [hcl] at hq
      have hq5 := hP.noVars h3 hc1 hc2
      have hF5 : SFr pb w3 (upd w3 pb (.cells #[.slice (some ⟨tb, k * 3, none⟩) (T.length - k) (cap - k), .slice none 0 0, .int .i64 0] 142 (0, 0))) := (FrM.refl _ _).upd (.inl fun _ => .inl rfl)
      have g05 : (upd w3 pb (.cells #[.slice (some ⟨tb, k * 3, none⟩) (T.length - k) (cap - k), .slice none 0 0, .int .i64 0] 142 (0, 0))).heap[tb]? = some (.cells cs 139 (0, 0)) := by rw [hp_upd_other (by omega)]; exact g0
      simp (disch := first | assumption | omega | ((simp only [size_alloc, sz_drew, size_upd, List.size_toArray, List.length_cons, List.length_nil]) <;> omega) | decide) only [sh_s_Program_c1, Pr, PX, PC, NX, ends, fillL, wrL, sOf, Nat.reduceAdd, Nat.reduceMul, Nat.reduceLeDiff, Nat.reduceEqDiff, Int.reduceToNat, Int.reduceAdd, Int.reduceLT, Int.reduceLE, ↓reduceIte, forall_const, eq_self, zG1, zG2, al_139, bd_104, bd_145, br_80_1, fa_104_1, fa_104_2, fa_104_3, fa_139_0, fa_139_1, fa_139_2, fa_142_0, fa_142_1, ix_140, ld_137, ld_139, ld_140, ld_3, ld_38, ld_9, ln_80, sl_140, st_101, st_102, st_139, st_140, st_38, h3, g0, g2]
      refine ⟨fun _ w6 => (P.tk T k).kind = 1 ∧ SFr pb w3 w6 ∧ SP w6 pb tb T k [] 0 ∧ w6.heap[w3.heap.size]? = some (.cells #[.int .i64 (P.tk T k).kind, .string (bs (P.tk T k).text), .int .i64 (P.tk T k).pos] 139 (0, 0)) ∧ w6.heap.size = w3.heap.size + 1 ∧
        (∀ b cs t, b < w3.heap.size → b ≠ pb → w3.heap[b]? = some (.cells cs t (0, 0)) → w6.heap[b]? = some (.cells cs t (0, 0))), ?_, ?_⟩
      · have hX : Ext (upd w3 pb (.cells #[.slice (some ⟨tb, k * 3, none⟩) (T.length - k) (cap - k), .slice none 0 0, .int .i64 0] 142 (0, 0))) (upd ((upd w3 pb (.cells #[.slice (some ⟨tb, k * 3, none⟩) (T.length - k) (cap - k), .slice none 0 0, .int .i64 0] 142 (0, 0))).alloc (.cells #[.int .i64 0, .string (bs []), .int .i64 0] 139)) w3.heap.size (.cells #[.int .i64 (P.tk T k).kind, .string (bs (P.tk T k).text), .int .i64 (P.tk T k).pos] 139)) := by (repeat (first | assumption | exact FrM.refl _ _ | (refine FrM.upd ?_ (.inr (by (try simp only [size_alloc, sz_drew, size_upd, List.size_toArray, List.length_cons, List.length_nil]) <;> omega))) | refine FrM.alloc ?_ _ | refine FrM.drew ?_))
        have hP6 := hq5.extE hX
        by_cases hk1 : (P.tk T k).kind = 1
        · have hk1' : (((P.tk T k).kind : Nat) : Int) = 1 := by omega
          simp (disch := first | assumption | omega | ((simp only [size_alloc, sz_drew, size_upd, List.size_toArray, List.length_cons, List.length_nil]) <;> omega) | decide) only [sh_s_Program_c1, Pr, PX, PC, NX, ends, fillL, wrL, sOf, Nat.reduceAdd, Nat.reduceMul, Nat.reduceLeDiff, Nat.reduceEqDiff, Int.reduceToNat, Int.reduceAdd, Int.reduceLT, Int.reduceLE, ↓reduceIte, forall_const, eq_self, zG1, zG2, al_139, bd_104, bd_145, br_80_1, fa_104_1, fa_104_2, fa_104_3, fa_139_0, fa_139_1, fa_139_2, fa_142_0, fa_142_1, ix_140, ld_137, ld_139, ld_140, ld_3, ld_38, ld_9, ln_80, sl_140, st_101, st_102, st_139, st_140, st_38]
          refine ⟨hk1, hF5.trans hX.toM, hP6, fun b cs t hb hbp hc => hX.ext _ _ ?_⟩
          rw [hp_upd_other hbp]; exact hc
        · have hk1' : ¬ (((P.tk T k).kind : Nat) : Int) = 1 := by omega
          rw [P.pClause, if_neg hk1] at hcl
          simp (disch := first | assumption | omega | ((simp only [size_alloc, sz_drew, size_upd, List.size_toArray, List.length_cons, List.length_nil]) <;> omega) | decide) only [sh_s_Program_c1, Pr, PX, PC, NX, ends, fillL, wrL, sOf, Nat.reduceAdd, Nat.reduceMul, Nat.reduceLeDiff, Nat.reduceEqDiff, Int.reduceToNat, Int.reduceAdd, Int.reduceLT, Int.reduceLE, ↓reduceIte, forall_const, eq_self, zG1, zG2, al_139, bd_104, bd_145, br_80_1, fa_104_1, fa_104_2, fa_104_3, fa_139_0, fa_139_1, fa_139_2, fa_142_0, fa_142_1, ix_140, ld_137, ld_139, ld_140, ld_3, ld_38, ld_9, ln_80, sl_140, st_101, st_102, st_139, st_140, st_38]
          refine (sNone hP6).mono ?_
          rintro e w7 ⟨hfl, hF7, -⟩
          have hfl2 := faulted_back (w := w) hfl (by rw [size_upd, size_alloc, size_upd]; omega)
          obtain ⟨b, rfl, -, -⟩ := hfl
          simp (disch := first | assumption | omega | ((simp only [size_alloc, sz_drew, size_upd, List.size_toArray, List.length_cons, List.length_nil]) <;> omega) | decide) only [sh_s_Program_c1, Pr, PX, PC, NX, ends, fillL, wrL, sOf, Nat.reduceAdd, Nat.reduceMul, Nat.reduceLeDiff, Nat.reduceEqDiff, Int.reduceToNat, Int.reduceAdd, Int.reduceLT, Int.reduceLE, ↓reduceIte, forall_const, eq_self, zG1, zG2, al_139, bd_104, bd_145, br_80_1, fa_104_1, fa_104_2, fa_104_3, fa_139_0, fa_139_1, fa_139_2, fa_142_0, fa_142_1, ix_140, ld_137, ld_139, ld_140, ld_3, ld_38, ld_9, ln_80, sl_140, st_101, st_102, st_139, st_140, st_38]
          rw [← Option.some.inj hcl] at hq
          simp only [P.Res.bind, Option.some.injEq] at hq
          rw [← hq]
          exact ⟨hF.trans ((hF5.trans hX.toM).trans hF7), hfl2⟩
      · rintro _ w6 ⟨hk1, hF6, hP6, t6, s6, k6⟩ _
        obtain ⟨cap6, va6, vc6, cs6, h36, hc16, hc26, -, -, g06, -⟩ := hP6.x
        rw [e0] at h36
        have l6 := ltOf h36
        have lt6 := ltOf t6
        have hcn : ¬ cap6 - k = 1 := by omega
        have lp6 : pb < w6.heap.size := l6
        have hB6 : w.heap.size ≤ w3.heap.size := s12
        simp (disch := first | assumption | omega | ((simp only [size_alloc, sz_drew, size_upd, List.size_toArray, List.length_cons, List.length_nil]) <;> omega) | decide) only [sh_s_Program_c1, Pr, PX, PC, NX, ends, fillL, wrL, sOf, Nat.reduceAdd, Nat.reduceMul, Nat.reduceLeDiff, Nat.reduceEqDiff, Int.reduceToNat, Int.reduceAdd, Int.reduceLT, Int.reduceLE, ↓reduceIte, forall_const, eq_self, jn_e, nc_ptr, nc_iface, nc_func, bs_true, bs_false, bs_pos, bs_neg, bo_add, bo_sub, bo_mul, bo_lss, bo_leq, bo_gtr, bo_geq, bo_eql, bo_neq, bo_eqs, bo_nes, un_not, un_neg, rd_extract0, rd_extract1, rd_extract2, rd_panic_iface, wr_func, wr_box, ldK_e, ldV_some, xaK_some, ldN_e, stK_e, blK_some, brK_some, hp_alloc_old, hp_alloc_new, hp_upd_same, hp_upd_other, hp_drew, sz_drew, size_upd, size_alloc, upd_upd, cells_agg, cells_aggA, cells_stringA, cells_intA, cells_sliceA, cells_pointerA, cells_int, cells_bool, cells_string, cells_slice, cells_pointer, cells_iface, cells_nilIface, cells_func, cells_map, one_int, one_bool, one_string, one_slice, one_pointer, one_iface, one_nilIface, one_func, one_map, i64w, u8w, df_func, lv_ret, lv_panic, Int.toNat_natCast, Option.isNone_none, Option.isNone_some, List.getElem?_toArray, List.getElem?_cons_zero, List.getElem?_cons_succ, List.setIfInBounds_toArray, List.set_cons_zero, List.set_cons_succ, List.size_toArray, List.length_cons, List.length_nil, List.drop_zero, List.drop_succ_cons, List.take_succ_cons, List.take_zero, List.take_nil, List.drop_nil, List.all_cons, List.all_nil, Bool.and_true, Bool.true_and, Nat.zero_add, Nat.add_zero, Nat.mul_one, and_self, and_true, true_and, decide_true, decide_false, Bool.not_true, Bool.not_false, not_true_eq_false, not_false_eq_true, al_139, bd_104, bd_145, br_80_1, fa_104_1, fa_104_2, fa_104_3, fa_139_0, fa_139_1, fa_139_2, fa_142_0, fa_142_1, ix_140, ld_137, ld_139, ld_140, ld_3, ld_38, ld_9, ln_80, sl_140, st_101, st_102, st_139, st_140, st_38, h36, t6, sliced_some]
        have eq3 : (upd w3 pb (.cells #[.slice (some ⟨tb, k * 3, none⟩) (T.length - k) (cap - k), .slice none 0 0, .int .i64 0] 142)).heap.size = w3.heap.size := size_upd _ _ _
        have eq : ((upd w6 pb (.cells #[.slice (some ⟨tb, k * 3 + 3, none⟩) (T.length - k - 1) (cap6 - k - 1), .slice va6 0 vc6, .int .i64 0] 142)).alloc (.cells #[.int .u8 103, .string (bs [116, 114, 117, 101]), .slice none 0 0, .slice none 0 0] 145)).heap.size = w6.heap.size + 1 := by rw [size_alloc, size_upd]
        have hlq : pb < w3.heap.size ∧ w3.heap.size < w6.heap.size ∧ w6.heap.size ≤ w6.heap.size + 1 := ⟨by omega, by omega, by omega⟩
        have hcall : P.pClause T (P.fuelFor T) k = some qc := hcl
        have hcw6 : ∀ {wz : World}, SFr pb w3 wz → STabC wz tb := fun hF2 => hc.fr (hF.trans hF2) hlt
        have hpan : ∀ {wz w' : World} {e : Ending} {c a : Nat}, SFr pb w3 wz → SFr pb wz w' → faulted c a wz w' e → qc = .err c a → SPostP pb w (P.progT T) e w' := by
          intro wz w' e c a hF1 hF2 hfl hqc
          rw [hqc] at hq
          simp only [P.Res.bind, Option.some.injEq] at hq
          rw [← hq]
          exact ⟨hF.trans (hF1.trans hF2), faulted_back hfl (by have := hF1.size; omega)⟩
        rw [eq3, eq]
        refine ⟨fun _ w' => SClSt pb tb T w6.heap.size w3 w3.heap.size (w6.heap.size + 1) (P.tk T k).text qc (pTail1 T (P.fuelFor T) (P.tk T k).text (P.tk T k).pos) w', ?_, ?_⟩
        · have hP6' : SP w6 pb tb T k [] 0 := hP6
          obtain ⟨wA, hwA⟩ : ∃ wA, wA = ((upd w6 pb (.cells #[.slice (some ⟨tb, k * 3 + 3, none⟩) (T.length - k - 1) (cap6 - k - 1), .slice va6 0 vc6, .int .i64 0] 142)).alloc (.cells #[.int .u8 103, .string (bs [116, 114, 117, 101]), .slice none 0 0, .slice none 0 0] 145)).alloc
              (.cells #[.string (bs (P.tk T k).text), .slice none 0 0, .pointer (some ⟨w6.heap.size, 0, none⟩), .slice none 0 0] 104) := ⟨_, rfl⟩
          have hPA : SP wA pb tb T (k + 1) [] 0 := by
            have hP7 : SP (upd w6 pb (.cells #[.slice (some ⟨tb, k * 3 + 3, none⟩) (T.length - k - 1) (cap6 - k - 1), .slice va6 0 vc6, .int .i64 0] 142)) pb tb T (k + 1) [] 0 :=
              hP6'.onU (o' := k * 3 + 3) (n' := T.length - k - 1) (c' := cap6 - k - 1) h36 hnx (by omega) (by omega) (by omega)
            rw [hwA]
            exact hP7.extE (((FrM.refl _ _).alloc _).alloc _)
          have hFA : SFr pb w3 wA := by
            rw [hwA]
            exact ((hF6.upd (.inl fun _ => .inl rfl)).alloc _).alloc _
          have tA : wA.heap[w3.heap.size]? = some (.cells #[.int .i64 (P.tk T k).kind, .string (bs (P.tk T k).text), .int .i64 (P.tk T k).pos] 139 (0, 0)) := by
            rw [hwA, hp_alloc_old (by rw [size_alloc, size_upd]; omega), hp_alloc_old (by rw [size_upd]; omega), hp_upd_other (by omega)]
            exact t6
          have bA : wA.heap[w6.heap.size]? = some (.cells #[.int .u8 103, .string (bs [116, 114, 117, 101]), .slice none 0 0, .slice none 0 0] 145 (0, 0)) := by
            rw [hwA, hp_alloc_old (by rw [size_alloc, size_upd]; omega)]
            exact hp_alloc_new (by rw [size_upd])
          have cA : wA.heap[w6.heap.size + 1]? = some (.cells #[.string (bs (P.tk T k).text), .slice none 0 0, .pointer (some ⟨w6.heap.size, 0, none⟩), .slice none 0 0] 104 (0, 0)) := by
            rw [hwA]; exact hp_alloc_new (by rw [size_alloc, size_upd])
          have sA : wA.heap.size = w6.heap.size + 2 := by rw [hwA, size_alloc, size_alloc, size_upd]
          have hbd : IsBd (fun b => w6.heap.size ≤ b ∧ b < wA.heap.size ∧ b ≠ w6.heap.size + 1) wA (.pointer (some ⟨w6.heap.size, 0, none⟩)) P.trueB := isBd_node ⟨by omega, by omega, by omega⟩ bA isSlEx_nil isSlBd_nil
          show CA _ _ _ _ _ _
          rw [← hwA]
          refine (sIsB hPA [40] (by decide)).mono ?_
          rintro e wB ⟨rfl, hPB, hFB⟩
          rw [P.pClause, if_pos hk1] at hcl
          have sB := hFB.size
          simp (disch := first | assumption | omega | ((simp only [size_alloc, sz_drew, size_upd, List.size_toArray, List.length_cons, List.length_nil]) <;> omega) | decide) only [sh_s_Program_c1, Pr, PX, PC, NX, ends, fillL, wrL, sOf, Nat.reduceAdd, Nat.reduceMul, Nat.reduceLeDiff, Nat.reduceEqDiff, Int.reduceToNat, Int.reduceAdd, Int.reduceLT, Int.reduceLE, ↓reduceIte, forall_const, eq_self, zG1, zG2, al_139, bd_104, bd_145, br_80_1, fa_104_1, fa_104_2, fa_104_3, fa_139_0, fa_139_1, fa_139_2, fa_142_0, fa_142_1, ix_140, ld_137, ld_139, ld_140, ld_3, ld_38, ld_9, ln_80, sl_140, st_101, st_102, st_139, st_140, st_38]
          by_cases ho : P.isT T (k + 1) [40] = true
          · rw [if_pos ho] at hcl hPB
            rw [ho, bs_true]
            have tB := hFB.keep tA (by omega) (by decide)
            have cB := hFB.keep cA (by omega) (by decide)
            cases hqa : P.pArgs T (P.fuelFor T) (k + 1 + 1) [] 0 (P.tk T k).pos [] with
            | none => rw [hqa] at hcl; simp [P.Res.bind] at hcl
            | some qa =>
            rw [hqa] at hcl
            refine ((cArgss _).go _ hPB (by omega) hqa).mono ?_
            intro e wC hpost
            cases qa with
            | err c a =>
              obtain ⟨hfl, hFC, -⟩ := hpost
              simp only [P.Res.bind, Option.some.injEq] at hcl
              have hfin := hpan (hFA.trans hFB) hFC hfl hcl.symm
              obtain ⟨b, rfl, -, -⟩ := hfl
              simp (disch := first | assumption | omega | ((simp only [size_alloc, sz_drew, size_upd, List.size_toArray, List.length_cons, List.length_nil]) <;> omega) | decide) only [sh_s_Program_c1, Pr, PX, PC, NX, ends, fillL, wrL, sOf, Nat.reduceAdd, Nat.reduceMul, Nat.reduceLeDiff, Nat.reduceEqDiff, Int.reduceToNat, Int.reduceAdd, Int.reduceLT, Int.reduceLE, ↓reduceIte, forall_const, eq_self, zG1, zG2, al_139, bd_104, bd_145, br_80_1, fa_104_1, fa_104_2, fa_104_3, fa_139_0, fa_139_1, fa_139_2, fa_142_0, fa_142_1, ix_140, ld_137, ld_139, ld_140, ld_3, ld_38, ld_9, ln_80, sl_140, st_101, st_102, st_139, st_140, st_38]
              exact hfin
            | ok l k2 vs2 =>
              obtain ⟨v, rfl, hv2, hPC, hFC⟩ := hpost
              simp only [P.Res.bind] at hcl
              have sC := hFC.size
              have tC := hFC.keep tB (by omega) (by decide)
              have cC := hFC.keep cB (by omega) (by decide)
              have lcC := ltOf cC
              obtain ⟨aa, an, ac, rfl⟩ : ∃ a n c, v = .slice a n c := by
                obtain ⟨vs', h1, -⟩ := hv2
                obtain ⟨a, n, c, h, -⟩ := h1.shape
                exact ⟨a, n, c, h⟩
              simp (disch := first | assumption | omega | ((simp only [size_alloc, sz_drew, size_upd, List.size_toArray, List.length_cons, List.length_nil]) <;> omega) | decide) only [sh_s_Program_c1, Pr, PX, PC, NX, ends, fillL, wrL, sOf, Nat.reduceAdd, Nat.reduceMul, Nat.reduceLeDiff, Nat.reduceEqDiff, Int.reduceToNat, Int.reduceAdd, Int.reduceLT, Int.reduceLE, ↓reduceIte, forall_const, eq_self, zG1, zG2, al_139, bd_104, bd_145, br_80_1, fa_104_1, fa_104_2, fa_104_3, fa_139_0, fa_139_1, fa_139_2, fa_142_0, fa_142_1, ix_140, ld_137, ld_139, ld_140, ld_3, ld_38, ld_9, ln_80, sl_140, st_101, st_102, st_139, st_140, st_38, cC]
              obtain ⟨wD, hwD⟩ : ∃ wD, wD = upd wC (w6.heap.size + 1) (.cells #[.string (bs (P.tk T k).text), .slice aa an ac, .pointer (some ⟨w6.heap.size, 0, none⟩), .slice none 0 0] 104) := ⟨_, rfl⟩
              rw [← hwD]
              have hPD : SP wD pb tb T k2 vs2 0 := by rw [hwD]; exact hPC.updO cC (by decide) (by omega) (by omega)
              have hFD : SFr pb w3 wD := by rw [hwD]; exact ((hFA.trans hFB).trans hFC).upd (.inr (by omega))
              have tD : wD.heap[w3.heap.size]? = some (.cells #[.int .i64 (P.tk T k).kind, .string (bs (P.tk T k).text), .int .i64 (P.tk T k).pos] 139 (0, 0)) := by rw [hwD, hp_upd_other (by omega)]; exact tC
              have cD : wD.heap[w6.heap.size + 1]? = some (.cells #[.string (bs (P.tk T k).text), .slice aa an ac, .pointer (some ⟨w6.heap.size, 0, none⟩), .slice none 0 0] 104 (0, 0)) := by rw [hwD]; exact hp_upd_same rfl lcC
              have sD : wD.heap.size = wC.heap.size := by rw [hwD, size_upd]
              have kD : KeepA (fun b => w6.heap.size ≤ b ∧ b ≠ w6.heap.size + 1) wC wD := fun b cs t hb _ hc => by rw [hwD, hp_upd_other hb.2]; exact hc
              have hbdD : IsBd (fun b => w6.heap.size ≤ b ∧ b < wD.heap.size ∧ b ≠ w6.heap.size + 1) wD (.pointer (some ⟨w6.heap.size, 0, none⟩)) P.trueB :=
                isBd_node ⟨by omega, by omega, by omega⟩ (by rw [hwD, hp_upd_other (by omega)]; exact hFC.keep (hFB.keep bA (by omega) (by decide)) (by omega) (by decide)) isSlEx_nil isSlBd_nil
              have hargD : IsSlEx (fun b => w6.heap.size ≤ b ∧ b < wD.heap.size ∧ b ≠ w6.heap.size + 1) wD (.slice aa an ac) l :=
                hv2.mono (fun b hb => ⟨by have := hb.1; omega, by have := hb.2; omega, by have := hb.1; omega⟩) (fun b o hb ha ho => kD.ast b o ⟨by have := hb.1; omega, by have := hb.1; omega⟩ ha ho)
              cases hmu : P.musT T [41] l k2 vs2 with
              | none => rw [hmu] at hcl; cases hcl
              | some qm =>
              rw [hmu] at hcl
              refine (sMustX hPD [41] (by decide) l hmu).mono ?_
              rintro e wE ⟨hFE, (⟨rfl, hqm, hPE⟩ | ⟨c, a, hqm, hfl⟩)⟩
              · rw [hqm] at hcl
                simp (disch := first | assumption | omega | ((simp only [size_alloc, sz_drew, size_upd, List.size_toArray, List.length_cons, List.length_nil]) <;> omega) | decide) only [sh_s_Program_c1, Pr, PX, PC, NX, ends, fillL, wrL, sOf, Nat.reduceAdd, Nat.reduceMul, Nat.reduceLeDiff, Nat.reduceEqDiff, Int.reduceToNat, Int.reduceAdd, Int.reduceLT, Int.reduceLE, ↓reduceIte, forall_const, eq_self, zG1, zG2, al_139, bd_104, bd_145, br_80_1, fa_104_1, fa_104_2, fa_104_3, fa_139_0, fa_139_1, fa_139_2, fa_142_0, fa_142_1, ix_140, ld_137, ld_139, ld_140, ld_3, ld_38, ld_9, ln_80, sl_140, st_101, st_102, st_139, st_140, st_38]
                exact SClSt.step hFD hFE hlq ⟨_, _, tD⟩ cD hargD hbdD hPE hcl
              · rw [hqm] at hcl
                simp only [Option.some.injEq] at hcl
                have hfin := hpan hFD hFE hfl hcl.symm
                obtain ⟨b, rfl, -, -⟩ := hfl
                simp (disch := first | assumption | omega | ((simp only [size_alloc, sz_drew, size_upd, List.size_toArray, List.length_cons, List.length_nil]) <;> omega) | decide) only [sh_s_Program_c1, Pr, PX, PC, NX, ends, fillL, wrL, sOf, Nat.reduceAdd, Nat.reduceMul, Nat.reduceLeDiff, Nat.reduceEqDiff, Int.reduceToNat, Int.reduceAdd, Int.reduceLT, Int.reduceLE, ↓reduceIte, forall_const, eq_self, zG1, zG2, al_139, bd_104, bd_145, br_80_1, fa_104_1, fa_104_2, fa_104_3, fa_139_0, fa_139_1, fa_139_2, fa_142_0, fa_142_1, ix_140, ld_137, ld_139, ld_140, ld_3, ld_38, ld_9, ln_80, sl_140, st_101, st_102, st_139, st_140, st_38]
                exact hfin
          · rw [if_neg ho] at hcl hPB
            have ho' : P.isT T (k + 1) [40] = false := by simpa using ho
            rw [ho', bs_false]
            exact SClSt.step hFA hFB hlq ⟨_, _, tA⟩ cA isSlEx_nil hbd hPB hcl
        · rintro _ w7 hS _
          obtain ⟨kd7, ps7, t7⟩ := hS.t3
          have hF7 := hS.fr
          obtain ⟨av, bv, l, bd, k7, vs7, g7, ga, gb, hP7, hc7⟩ := hS.st
          generalize (P.tk T k).text = nm at *
          generalize (P.tk T k).pos = pos at *
          refine ⟨fun _ w' => SClSt pb tb T w6.heap.size w3 w3.heap.size (w6.heap.size + 1) nm qc (pTail2 T (P.fuelFor T) nm) w', ?_, ?_⟩
          · refine ⟨fun s w' => w' = w7 ∧ s 72 = .bool (decide (0 ≤ P.tests nm ∨ nm = [109, 111, 100])), ?_, ?_⟩
            · simp (disch := first | assumption | omega | ((simp only [size_alloc, sz_drew, size_upd, List.size_toArray, List.length_cons, List.length_nil]) <;> omega) | decide) only [sh_s_Program_c1, Pr, PX, PC, NX, ends, fillL, wrL, sOf, Nat.reduceAdd, Nat.reduceMul, Nat.reduceLeDiff, Nat.reduceEqDiff, Int.reduceToNat, Int.reduceAdd, Int.reduceLT, Int.reduceLE, ↓reduceIte, forall_const, eq_self, zG1, zG2, al_139, bd_104, bd_145, br_80_1, fa_104_1, fa_104_2, fa_104_3, fa_139_0, fa_139_1, fa_139_2, fa_142_0, fa_142_1, ix_140, ld_137, ld_139, ld_140, ld_3, ld_38, ld_9, ln_80, sl_140, st_101, st_102, st_139, st_140, st_38, t7]
              refine (sTests _).mono ?_
              rintro e w8 ⟨rfl, rfl⟩
              simp (disch := first | assumption | omega | ((simp only [size_alloc, sz_drew, size_upd, List.size_toArray, List.length_cons, List.length_nil]) <;> omega) | decide) only [sh_s_Program_c1, Pr, PX, PC, NX, ends, fillL, wrL, sOf, Nat.reduceAdd, Nat.reduceMul, Nat.reduceLeDiff, Nat.reduceEqDiff, Int.reduceToNat, Int.reduceAdd, Int.reduceLT, Int.reduceLE, ↓reduceIte, forall_const, eq_self, zG1, zG2, al_139, bd_104, bd_145, br_80_1, fa_104_1, fa_104_2, fa_104_3, fa_139_0, fa_139_1, fa_139_2, fa_142_0, fa_142_1, ix_140, ld_137, ld_139, ld_140, ld_3, ld_38, ld_9, ln_80, sl_140, st_101, st_102, st_139, st_140, st_38, t7, bs_dec]
              by_cases b2 : 0 ≤ P.tests nm <;> by_cases b3 : nm = [109, 111, 100] <;> simp [b2, b3, sOf]
            · rintro s8 w8 ⟨rfl, hs8⟩ _
              rw [hs8]
              by_cases hb : 0 ≤ P.tests nm ∨ nm = [109, 111, 100]
              · rw [bs_pos _ _ hb]
                rw [pTail1, if_pos hb] at hc7
                refine (sFail _ _ _ pb hP7.sb).mono ?_
                rintro e w9 ⟨hfl, hF9, -⟩
                have hfin := hpan hF7 hF9 hfl (Option.some.inj hc7).symm
                obtain ⟨b, rfl, -, -⟩ := hfl
                simp (disch := first | assumption | omega | ((simp only [size_alloc, sz_drew, size_upd, List.size_toArray, List.length_cons, List.length_nil]) <;> omega) | decide) only [sh_s_Program_c1, Pr, PX, PC, NX, ends, fillL, wrL, sOf, Nat.reduceAdd, Nat.reduceMul, Nat.reduceLeDiff, Nat.reduceEqDiff, Int.reduceToNat, Int.reduceAdd, Int.reduceLT, Int.reduceLE, ↓reduceIte, forall_const, eq_self, zG1, zG2, al_139, bd_104, bd_145, br_80_1, fa_104_1, fa_104_2, fa_104_3, fa_139_0, fa_139_1, fa_139_2, fa_142_0, fa_142_1, ix_140, ld_137, ld_139, ld_140, ld_3, ld_38, ld_9, ln_80, sl_140, st_101, st_102, st_139, st_140, st_38]
                exact hfin
              · rw [bs_neg _ _ hb]
                rw [pTail1, if_neg hb] at hc7
                exact SClSt.step hF7 (FrM.refl _ _) hlq ⟨_, _, t7⟩ g7 ga gb hP7 hc7
          · clear hc7 hP7 gb ga g7 hF7 t7 hS
            rintro _ w8 hS _
            obtain ⟨kd7, ps7, t7⟩ := hS.t3
            have hF7 := hS.fr
            obtain ⟨av, bv, l, bd, k7, vs7, g7, ga, gb, hP7, hc7⟩ := hS.st
            refine ⟨fun _ w' => SClSt pb tb T w6.heap.size w3 w3.heap.size (w6.heap.size + 1) nm qc (fun l bd k vs => P.musT T [46] ⟨nm, l, bd, vs⟩ k vs) w', ?_, ?_⟩
            · refine (sIsB hP7 [58, 45] (by decide)).mono ?_
              rintro e w9 ⟨rfl, hP9, hF9⟩
              simp (disch := first | assumption | omega | ((simp only [size_alloc, sz_drew, size_upd, List.size_toArray, List.length_cons, List.length_nil]) <;> omega) | decide) only [sh_s_Program_c1, Pr, PX, PC, NX, ends, fillL, wrL, sOf, Nat.reduceAdd, Nat.reduceMul, Nat.reduceLeDiff, Nat.reduceEqDiff, Int.reduceToNat, Int.reduceAdd, Int.reduceLT, Int.reduceLE, ↓reduceIte, forall_const, eq_self, zG1, zG2, al_139, bd_104, bd_145, br_80_1, fa_104_1, fa_104_2, fa_104_3, fa_139_0, fa_139_1, fa_139_2, fa_142_0, fa_142_1, ix_140, ld_137, ld_139, ld_140, ld_3, ld_38, ld_9, ln_80, sl_140, st_101, st_102, st_139, st_140, st_38]
              by_cases ho : P.isT T k7 [58, 45] = true
              · rw [pTail2, if_pos ho] at hc7
                rw [if_pos ho] at hP9
                rw [ho, bs_true]
                cases hb : P.pBody T (P.fuelFor T) (k7 + 1) vs7 0 with
                | none => rw [hb] at hc7; simp [P.Res.bind] at hc7
                | some qb =>
                rw [hb] at hc7
                refine ((cBodies _).go hP9 (hcw6 (hF7.trans hF9)) (by omega) hb).mono ?_
                intro e wA hpost
                cases qb with
                | err c a =>
                  obtain ⟨hfl, hFA, -⟩ := hpost
                  simp only [P.Res.bind, Option.some.injEq] at hc7
                  have hfin := hpan (hF7.trans hF9) hFA hfl hc7.symm
                  obtain ⟨b, rfl, -, -⟩ := hfl
                  simp (disch := first | assumption | omega | ((simp only [size_alloc, sz_drew, size_upd, List.size_toArray, List.length_cons, List.length_nil]) <;> omega) | decide) only [sh_s_Program_c1, Pr, PX, PC, NX, ends, fillL, wrL, sOf, Nat.reduceAdd, Nat.reduceMul, Nat.reduceLeDiff, Nat.reduceEqDiff, Int.reduceToNat, Int.reduceAdd, Int.reduceLT, Int.reduceLE, ↓reduceIte, forall_const, eq_self, zG1, zG2, al_139, bd_104, bd_145, br_80_1, fa_104_1, fa_104_2, fa_104_3, fa_139_0, fa_139_1, fa_139_2, fa_142_0, fa_142_1, ix_140, ld_137, ld_139, ld_140, ld_3, ld_38, ld_9, ln_80, sl_140, st_101, st_102, st_139, st_140, st_38]
                  exact hfin
                | ok bd2 k2 vs2 =>
                  obtain ⟨v, rfl, hv2, hPA, hFA⟩ := hpost
                  simp only [P.Res.bind] at hc7
                  have s9 := hF9.size
                  have sA := hFA.size
                  have t9 := SFr.keep (hF9.trans hFA) t7 (by omega) (by decide)
                  have g9 := SFr.keep (hF9.trans hFA) g7 (by omega) (by decide)
                  have lg9 := ltOf g9
                  have lg7 := ltOf g7
                  obtain ⟨vb, rfl, hvb⟩ := hv2.shape
                  simp (disch := first | assumption | omega | ((simp only [size_alloc, sz_drew, size_upd, List.size_toArray, List.length_cons, List.length_nil]) <;> omega) | decide) only [sh_s_Program_c1, Pr, PX, PC, NX, ends, fillL, wrL, sOf, Nat.reduceAdd, Nat.reduceMul, Nat.reduceLeDiff, Nat.reduceEqDiff, Int.reduceToNat, Int.reduceAdd, Int.reduceLT, Int.reduceLE, ↓reduceIte, forall_const, eq_self, zG1, zG2, al_139, bd_104, bd_145, br_80_1, fa_104_1, fa_104_2, fa_104_3, fa_139_0, fa_139_1, fa_139_2, fa_142_0, fa_142_1, ix_140, ld_137, ld_139, ld_140, ld_3, ld_38, ld_9, ln_80, sl_140, st_101, st_102, st_139, st_140, st_38, g9]
                  obtain ⟨wD, hwD⟩ : ∃ wD, wD = upd wA (w6.heap.size + 1) (.cells #[.string (bs nm), av, .pointer (some ⟨vb, 0, none⟩), .slice none 0 0] 104) := ⟨_, rfl⟩
                  rw [← hwD]
                  have hPD : SP wD pb tb T k2 vs2 0 := by rw [hwD]; exact hPA.updO g9 (by decide) (by omega) (by omega)
                  have hFD : SFr pb w3 wD := by rw [hwD]; exact ((hF7.trans hF9).trans hFA).upd (.inr (by omega))
                  have tD : wD.heap[w3.heap.size]? = some (.cells #[.int .i64 kd7, .string (bs nm), .int .i64 ps7] 139 (0, 0)) := by rw [hwD, hp_upd_other (by omega)]; exact t9
                  have cD : wD.heap[w6.heap.size + 1]? = some (.cells #[.string (bs nm), av, .pointer (some ⟨vb, 0, none⟩), .slice none 0 0] 104 (0, 0)) := by rw [hwD]; exact hp_upd_same rfl lg9
                  have sD : wD.heap.size = wA.heap.size := by rw [hwD, size_upd]
                  have kD : KeepA (fun b => w6.heap.size ≤ b ∧ b ≠ w6.heap.size + 1) wA wD := fun b cs t hb _ hc => by rw [hwD, hp_upd_other hb.2]; exact hc
                  have k9 : KeepA (fun b => w6.heap.size ≤ b ∧ b ≠ w6.heap.size + 1) w8 wA := SFr.keepA (hF9.trans hFA) fun b hb => by have := hb.1; omega
                  have hargD : IsSlEx (fun b => w6.heap.size ≤ b ∧ b < wD.heap.size ∧ b ≠ w6.heap.size + 1) wD av l :=
                    ga.mono (fun b hb => ⟨hb.1, by have := hb.2.1; omega, hb.2.2⟩) (fun b o hb ha ho => kD.ast b o ⟨hb.1, hb.2.2⟩ ha (k9.ast b o ⟨hb.1, hb.2.2⟩ ha ho))
                  have hbdD : IsBd (fun b => w6.heap.size ≤ b ∧ b < wD.heap.size ∧ b ≠ w6.heap.size + 1) wD (.pointer (some ⟨vb, 0, none⟩)) bd2 :=
                    IsBd.mono (fun b hb => ⟨by have := hb.1; omega, by have := hb.2; omega, by have := hb.1; omega⟩) (fun b o hb ha ho => kD.ast b o ⟨by have := hb.1; omega, by have := hb.1; omega⟩ ha ho) _ _ hv2
                  exact SClSt.step hFD (FrM.refl _ _) hlq ⟨_, _, tD⟩ cD hargD hbdD hPD hc7
              · rw [pTail2, if_neg ho] at hc7
                rw [if_neg ho] at hP9
                have ho' : P.isT T k7 [58, 45] = false := by simpa using ho
                rw [ho', bs_false]
                exact SClSt.step hF7 hF9 hlq ⟨_, _, t7⟩ g7 ga gb hP9 hc7
            · clear hc7 hP7 gb ga g7 hF7 t7 hS
              rintro _ w9 hS _
              obtain ⟨kd7, ps7, t7⟩ := hS.t3
              have hF7 := hS.fr
              obtain ⟨av, bv, l, bd, k7, vs7, g7, ga, gb, hP7, hc7⟩ := hS.st
              refine (sMustX hP7 [46] (by decide) _ hc7).mono ?_
              rintro e wE ⟨hFE, (⟨rfl, hqm, hPE⟩ | ⟨c, a, hqm, hfl⟩)⟩
              · obtain ⟨capE, vaE, vcE, csE, h3E, -⟩ := hPE.x
                have sE := hFE.size
                have gE := hFE.keep g7 (by omega) (by decide)
                have lgE := ltOf gE
                have lg7 := ltOf g7
                obtain ⟨vb, rfl, hvb⟩ := gb.shape
                obtain ⟨aa, an, ac, rfl⟩ : ∃ a n c, av = .slice a n c := by
                  obtain ⟨vs', h1, -⟩ := ga
                  obtain ⟨a, n, c, h, -⟩ := h1.shape
                  exact ⟨a, n, c, h⟩
                simp (disch := first | assumption | omega | ((simp only [size_alloc, sz_drew, size_upd, List.size_toArray, List.length_cons, List.length_nil]) <;> omega) | decide) only [sh_s_Program_c1, Pr, PX, PC, NX, ends, fillL, wrL, sOf, Nat.reduceAdd, Nat.reduceMul, Nat.reduceLeDiff, Nat.reduceEqDiff, Int.reduceToNat, Int.reduceAdd, Int.reduceLT, Int.reduceLE, ↓reduceIte, forall_const, eq_self, zG1, zG2, al_139, bd_104, bd_145, br_80_1, fa_104_1, fa_104_2, fa_104_3, fa_139_0, fa_139_1, fa_139_2, fa_142_0, fa_142_1, ix_140, ld_137, ld_139, ld_140, ld_3, ld_38, ld_9, ln_80, sl_140, st_101, st_102, st_139, st_140, st_38, h3E, gE]
                obtain ⟨wG, hwG⟩ : ∃ wG, wG = upd wE (w6.heap.size + 1) (.cells #[.string (bs nm), .slice aa an ac, .pointer (some ⟨vb, 0, none⟩), .slice vaE vs7.length vcE] 104) := ⟨_, rfl⟩
                rw [← hwG]
                have hF3E : SFr pb w3 wE := hF7.trans hFE
                have hPG : SP wG pb tb T (k7 + 1) vs7 0 := by rw [hwG]; exact hPE.updO gE (by decide) (by omega) (by omega)
                have hF3G : SFr pb w3 wG := by rw [hwG]; exact hF3E.upd (.inr (by omega))
                have gG : wG.heap[w6.heap.size + 1]? = some (.cells #[.string (bs nm), .slice aa an ac, .pointer (some ⟨vb, 0, none⟩), .slice vaE vs7.length vcE] 104 (0, 0)) := by rw [hwG]; exact hp_upd_same rfl lgE
                have sG : wG.heap.size = wE.heap.size := by rw [hwG, size_upd]
                have kG : KeepA (fun b => w6.heap.size ≤ b ∧ b ≠ w6.heap.size + 1) w9 wG := fun b cs t hb ht hc => by
                  rw [hwG, hp_upd_other hb.2]
                  exact hFE.keep hc (by have := hb.1; omega) ht
                have argG : IsSlEx (fun b => w6.heap.size ≤ b ∧ b < wG.heap.size) wG (.slice aa an ac) l :=
                  ga.mono (fun b hb => ⟨hb.1, by have := hb.2.1; omega⟩) (fun b o hb ha ho => kG.ast b o ⟨hb.1, hb.2.2⟩ ha ho)
                have bdG : IsBd (fun b => w6.heap.size ≤ b ∧ b < wG.heap.size) wG (.pointer (some ⟨vb, 0, none⟩)) bd :=
                  IsBd.mono (fun b hb => ⟨hb.1, by have := hb.2.1; omega⟩) (fun b o hb ha ho => kG.ast b o ⟨hb.1, hb.2.2⟩ ha ho) _ _ gb
                rw [hqm] at hq
                simp only [P.Res.bind] at hq
                have clG : IsCl (fun b => w6.heap.size ≤ b ∧ b < wG.heap.size) wG (.pointer (some ⟨w6.heap.size + 1, 0, none⟩)) ⟨nm, l, bd, vs7⟩ :=
                  ⟨w6.heap.size + 1, _, _, vaE, vcE, rfl, ⟨by omega, by omega⟩, gG, argG, bdG⟩
                have hX : Ext wG (wG.alloc (.cells #[.pointer (some ⟨w6.heap.size + 1, 0, none⟩)] 97)) := (FrM.refl _ _).alloc _
                have own5 := own_ext hX.ext (own_frS hF3G (hv ▸ o1) (by omega) (by decide))
                rw [hv]
                refine wr_appendPC own5 (hp_alloc_new (by rw [hwG, size_upd])) rfl (by omega) (by have := hX.size; omega) ?_
                intro v' w10 hown6 hg6 hv6
                have hF10 : SFr pb w w10 := ((hF.trans hF3G).trans hX.toM).grow hg6 (fun kk hkk => (own5.lt kk hkk).1)
                simp (disch := first | assumption | omega | ((simp only [size_alloc, sz_drew, size_upd, List.size_toArray, List.length_cons, List.length_nil]) <;> omega) | decide) only [sh_s_Program_c1, Pr, PX, PC, NX, ends, fillL, wrL, sOf, Nat.reduceAdd, Nat.reduceMul, Nat.reduceLeDiff, Nat.reduceEqDiff, Int.reduceToNat, Int.reduceAdd, Int.reduceLT, Int.reduceLE, ↓reduceIte, forall_const, eq_self, zG1, zG2, al_139, bd_104, bd_145, br_80_1, fa_104_1, fa_104_2, fa_104_3, fa_139_0, fa_139_1, fa_139_2, fa_142_0, fa_142_1, ix_140, ld_137, ld_139, ld_140, ld_3, ld_38, ld_9, ln_80, sl_140, st_101, st_102, st_139, st_140, st_38]
                refine ⟨f + 1, by omega, hF10, f, k7 + 1, vs7, acc ++ [⟨nm, l, bd, vs7⟩], rfl, by simp; omega, hq, (hPG.extE hX).grownRow own5 (by decide) (by omega) hg6, ?_⟩
                rw [hv] at hrow
                exact hrow.more hF3G (by omega) (clG.mono (fun b hb => ⟨by have := hb.1; omega, hb.2⟩) (fun b cs t _ _ hc => hc)) (by omega) hX own5 hown6 hg6 hv6
              · have hfin := hpan hF7 hFE hfl hqm
                obtain ⟨b, rfl, -, -⟩ := hfl
                simp (disch := first | assumption | omega | ((simp only [size_alloc, sz_drew, size_upd, List.size_toArray, List.length_cons, List.length_nil]) <;> omega) | decide) only [sh_s_Program_c1, Pr, PX, PC, NX, ends, fillL, wrL, sOf, Nat.reduceAdd, Nat.reduceMul, Nat.reduceLeDiff, Nat.reduceEqDiff, Int.reduceToNat, Int.reduceAdd, Int.reduceLT, Int.reduceLE, ↓reduceIte, forall_const, eq_self, zG1, zG2, al_139, bd_104, bd_145, br_80_1, fa_104_1, fa_104_2, fa_104_3, fa_139_0, fa_139_1, fa_139_2, fa_142_0, fa_142_1, ix_140, ld_137, ld_139, ld_140, ld_3, ld_38, ld_9, ln_80, sl_140, st_101, st_102, st_139, st_140, st_38]
                exact hfin
end Go.Proofs.YtkmpelgfhjgddaaGreatDoor
