/- A part of one proof (SDoor, SPrim, SPrim2, SPrim3, SPrim4, SPrim5); no conditions beyond what each theorem names. -/
import Derived.Test.YtkmpelgfhjgddaaGreatDoorPkI
set_option linter.all false
set_option linter.unusedVariables false
set_option linter.unusedSimpArgs false
namespace Go.Proofs.YtkmpelgfhjgddaaGreatDoor
open Go.RowKit
set_option linter.unusedVariables false
def Stab {α : Type} (I : (Nat → Prop) → World → Value → α → Prop) : Prop :=
  ∀ (F F' : Nat → Prop) (pb : Nat) (w w' : World) (v : Value) (x : α), I F w v x → SFr pb w w' → (∀ b, F b → b ≠ pb ∧ F' b) → I F' w' v x
theorem stab_Ex : Stab IsEx := fun F F' pb w w' v x h hf hn => IsEx.mono (fun b hb => (hn b hb).2) (fun b _ hb ha ho => hf.ast ha ho (hn b hb).1) x v h
theorem stab_Bd : Stab IsBd := fun F F' pb w w' v x h hf hn => IsBd.mono (fun b hb => (hn b hb).2) (fun b _ hb ha ho => hf.ast ha ho (hn b hb).1) x v h
theorem stab_SlEx : Stab IsSlEx := fun F F' pb w w' v x h hf hn => by
  obtain ⟨vs, h1, h2⟩ := h
  exact ⟨vs, h1.mono (fun b hb => (hn b hb).2) fun b cs hb hc => hf.ast ⟨.inr (.inl rfl), rfl⟩ hc (hn b hb).1,
    IsExs.mono (fun b hb => (hn b hb).2) (fun b _ hb ha ho => hf.ast ha ho (hn b hb).1) x vs h2⟩
abbrev deferB (bx : Nat) : Deferred := { target := .fn (.func 99) #[.pointer (some ⟨bx, 0, none⟩)], args := #[] }
theorem invokeB (bx : Nat) (w : World) : (invoke (deferB bx).target (deferB bx).args).run Tryz.prog w = .ok (.enter 99 #[.pointer (some ⟨bx, 0, none⟩)]) w := by
  simp [go_sem]
theorem doorRet {α : Type} {I : (Nat → Prop) → World → Value → α → Prop} (hI : Stab I) {pb tb bx : Nat} {T : List P.Tok} {k : Nat} {vs : List P.Bs} {d : Nat} {w wE : World}
    {fn : Func} {tmps : Array Value} {x : α} {j : Nat} (hres : fn.results = #[.tmp j])
    (hpb : pb < w.heap.size) (hp : SP wE pb tb T k vs (d + 1)) (hd : d ≤ 8)
    (hx : wE.heap[bx]? = some (.cells #[.pointer (some ⟨pb, 0, none⟩)] 136 (0, 0))) (hv : I (Nu w wE) wE (tmps.getD j undef) x) (hf : SFr pb w wE) :
    bodyPostD Tryz.prog fn (SPost I pb tb T d w (.ok x k vs)) .ret { tmps := tmps, defers := [deferB bx] } wE := by
  refine leaves_cons (by simp) (invokeB bx wE) ((sShal hp hx (by omega) _).mono ?_)
  rintro e u w' ⟨rfl, rfl, hp', hf', hs'⟩
  refine ⟨_, results_tmp hres _ _ w', _, rfl, hI _ _ _ _ _ _ _ hv hf' ?_, hp', hf.trans hf'⟩
  intro b hb
  exact ⟨by have := hb.1; omega, by have := hb.1; have := hb.2; exact ⟨by omega, by omega⟩⟩
theorem doorPanic {α : Type} {I : (Nat → Prop) → World → Value → α → Prop} {pb tb bx : Nat} {T : List P.Tok} {d : Nat} {w wE : World} {c a : Nat}
    {fn : Func} {tmps : Array Value} {chain : List PanicEntry} (hpb : pb < w.heap.size) (hsb : SB wE pb)
    (hx : wE.heap[bx]? = some (.cells #[.pointer (some ⟨pb, 0, none⟩)] 136 (0, 0))) (hv : faulted c a w wE (.panicked chain)) (hf : SFr pb w wE) :
    bodyPostD Tryz.prog fn (SPost I pb tb T d w (.err c a)) (.panic chain) { tmps := tmps, defers := [deferB bx] } wE := by
  obtain ⟨b, e1, e2, e3⟩ := hv
  injection e1 with e1
  subst e1
  refine leaves_cons (by simp) (invokeB bx wE) ((sShalP hsb hx _).mono ?_)
  rintro e u w' ⟨rfl, rfl, hs', hf', hz', hk'⟩
  exact ⟨⟨b, rfl, by rw [hk' b (by omega)]; exact e2, e3⟩, hf.trans hf', hs'⟩
theorem isEx_leaf {F : Nat → Prop} {w : World} {b : Nat} {kind : Nat} {name : P.Bs} {n : Int} {k : Nat} (hF : F b)
    (h : w.heap[b]? = some (.cells #[.int .u8 kind, .string (bs name), .int .i64 n, .int .i64 k, .slice none 0 0] 177 (0, 0))) :
    IsEx F w (.pointer (some ⟨b, 0, none⟩)) (.mk kind name n k []) := by
  unfold IsEx
  exact ⟨b, _, [], rfl, hF, h, .inl ⟨rfl, rfl⟩, by unfold IsExs; rfl⟩
theorem blk_new1 {w : World} {o : Obj} {n : Nat} (h : n = w.heap.size) : (w.alloc o).heap[n]? = some o := by subst h; exact blk_alloc_new w o
theorem SP.setOther {w : World} {pb tb x o : Nat} {T : List P.Tok} {k : Nat} {vars : List P.Bs} {d : Nat} {cs : Array Value} {t : TypeId} {z : Nat × Nat} (h : SP w pb tb T k vars d)
    (hx : w.heap[x]? = some (.cells cs t z)) (ht : t ≠ 9) (hp : x ≠ pb) (htb : tb < x) (v : Value) : SP (w.setCell ⟨x, o, none⟩ v) pb tb T k vars d := by
  obtain ⟨tw, lt, kt, nv, ⟨tt, ts, t1, t2⟩, cap, vv, h1, h2, h3, g1, g2⟩ := h
  refine ⟨tw, lt, kt, nv, ⟨tt.ext fun b ob hb ho => by rw [blk_setCell_other (show b ≠ x by omega)]; exact ho, ts, by rw [blk_setCell_other (show tb ≠ x by omega)]; exact t1, t2⟩, cap, vv, h1, h2,
    by rw [blk_setCell_other (show pb ≠ x from fun e => hp e.symm)]; exact h3, g1, ?_⟩
  rcases g2 with g | ⟨g, cp, cur, e1, e2, e3, e4⟩
  · exact .inl g
  · refine .inr ⟨g, cp, cur, e1, e2, ?_, e4⟩
    rw [blk_setCell_other]
    · exact e3
    · show g ≠ x
      rintro rfl
      rw [e3] at hx
      injection hx with hx
      injection hx with _ hx
      exact ht hx.symm
theorem IsSlEx.mono {F F' : Nat → Prop} {w w' : World} {v : Value} {l : List P.Ex} (hf : ∀ b, F b → F' b) (hw : ∀ b o, F b → astObj o → w.heap[b]? = some o → w'.heap[b]? = some o)
    (h : IsSlEx F w v l) : IsSlEx F' w' v l := by
  obtain ⟨vs, h1, h2⟩ := h
  exact ⟨vs, h1.mono hf fun b cs hb hc => hw b _ hb ⟨.inr (.inl rfl), rfl⟩ hc, IsExs.mono hf hw l vs h2⟩
theorem IsSlEx.set {F : Nat → Prop} {w : World} {v : Value} {l : List P.Ex} {x o : Nat} (h : IsSlEx F w v l) (hx : ∀ b, F b → b ≠ x) (u : Value) : IsSlEx F (w.setCell ⟨x, o, none⟩ u) v l :=
  h.mono (fun _ hb => hb) fun b ob hb _ ho => by rw [blk_setCell_other (show b ≠ x from hx b hb)]; exact ho
theorem isEx_node {F : Nat → Prop} {w : World} {b : Nat} {kind : Nat} {name : P.Bs} {n : Int} {k : Nat} {av : Value} {l : List P.Ex} (hF : F b)
    (h : w.heap[b]? = some (.cells #[.int .u8 kind, .string (bs name), .int .i64 n, .int .i64 k, av] 177 (0, 0))) (hl : IsSlEx F w av l) :
    IsEx F w (.pointer (some ⟨b, 0, none⟩)) (.mk kind name n k l) := by
  obtain ⟨vs, h1, h2⟩ := hl
  unfold IsEx
  exact ⟨b, _, vs, rfl, hF, h, h1, h2⟩
theorem IsSl.shape {F : Nat → Prop} {w : World} {et : TypeId} {v : Value} {vs : List Value} (h : IsSl F w et v vs) : ∃ a n c, v = .slice a n c ∧ n = vs.length ∧ n ≤ c ∧ (a = none → n = 0) := by
  rcases h with ⟨rfl, rfl⟩ | ⟨b, cs, rfl, _, _, h, _⟩
  · exact ⟨_, _, _, rfl, rfl, Nat.le_refl _, fun _ => rfl⟩
  · exact ⟨_, _, _, rfl, rfl, h, fun e => by cases e⟩
theorem IsExs.length {F : Nat → Prop} {w : World} : ∀ {l : List P.Ex} {vs : List Value}, IsExs F w vs l → vs.length = l.length
  | [], vs, h => by unfold IsExs at h; rw [h]; rfl
  | x :: xs, vs, h => by
    unfold IsExs at h
    obtain ⟨v, r, rfl, _, h3⟩ := h
    simp [IsExs.length h3]
theorem IsSlEx.shape {F : Nat → Prop} {w : World} {v : Value} {l : List P.Ex} (h : IsSlEx F w v l) : ∃ a n c, v = .slice a n c ∧ n = l.length ∧ n ≤ c := by
  obtain ⟨vs, h1, h2⟩ := h
  obtain ⟨a, n, c, rfl, e, h3, _⟩ := h1.shape
  exact ⟨a, n, c, rfl, by rw [e, h2.length], h3⟩
theorem isSlEx_two {F : Nat → Prop} {w : World} {b : Nat} {u v : Value} {x y : P.Ex} (hF : F b) (h : w.heap[b]? = some (.cells #[u, v] 124 (0, 0))) (hx : IsEx F w u x) (hy : IsEx F w v y) :
    IsSlEx F w (.slice (some ⟨b, 0, none⟩) 2 2) [x, y] := by
  refine ⟨[u, v], .inr ⟨b, #[u, v], rfl, hF, h, Nat.le_refl _, rfl⟩, ?_⟩
  unfold IsExs
  refine ⟨u, [v], rfl, hx, ?_⟩
  unfold IsExs
  refine ⟨v, [], rfl, hy, ?_⟩
  unfold IsExs
  rfl
theorem SP.other {w w' : World} {pb tb x : Nat} {T : List P.Tok} {k : Nat} {vars : List P.Bs} {d : Nat} {cs : Array Value} {t : TypeId} {z : Nat × Nat} (h : SP w pb tb T k vars d)
    (hx : w.heap[x]? = some (.cells cs t z)) (ht : t ≠ 9) (hp : x ≠ pb) (htb : tb < x) (hw : ∀ (b : Nat) (o : Obj), b ≠ x → w.heap[b]? = some o → w'.heap[b]? = some o) : SP w' pb tb T k vars d := by
  obtain ⟨tw, lt, kt, nv, ⟨tt, ts, t1, t2⟩, cap, vv, h1, h2, h3, g1, g2⟩ := h
  refine ⟨tw, lt, kt, nv, ⟨tt.ext fun b ob hb ho => hw b ob (by omega) ho, ts, hw _ _ (by omega) t1, t2⟩, cap, vv, h1, h2, hw _ _ (fun e => hp e.symm) h3, g1, ?_⟩
  rcases g2 with g | ⟨g, cp, cur, e1, e2, e3, e4⟩
  · exact .inl g
  · refine .inr ⟨g, cp, cur, e1, e2, hw _ _ ?_ e3, e4⟩
    rintro rfl
    rw [e3] at hx
    injection hx with hx
    injection hx with _ hx
    exact ht hx.symm
theorem SP.grownRow {w w' : World} {pb tb base n : Nat} {T : List P.Tok} {k : Nat} {vars : List P.Bs} {d : Nat} {t : TypeId} {v : Value} {xs : List Value} (h : SP w pb tb T k vars d)
    (hown : w.ownsRow base t 1 v n xs) (ht : t ≠ 9) (hb : pb < base) (hg : w.grownBy w' v.ownBlock) : SP w' pb tb T k vars d := by
  have hlt := h.lt
  rcases hown.2 with ⟨rfl, _⟩ | ⟨g, cap, cur, rfl, hb', hg', _⟩
  · exact h.ext fun b o ho => by rw [hg.block b (ltOf ho) (by simp [Value.ownBlock])]; exact ho
  · exact h.other hg' ht (by omega) (by omega) fun b o hne ho => by rw [hg.block b (ltOf ho) (by simp only [Value.ownBlock]; intro e; injection e with e; exact hne e)]; exact ho
theorem FrM.grownNew {M : Nat → Obj → Prop} {a b c : World} {row : Option Nat} (h : FrM M a b) (hg : b.grownBy c row) (hr : ∀ k, row = some k → a.heap.size ≤ k) : FrM M a c :=
  ⟨hg.os.trans h.os, hg.tape.trans h.tape, hg.output.trans h.output, Nat.le_trans h.size hg.size, fun i o hi hm => by
    have h1 := h.block i o hi hm
    rw [hg.block i (ltOf h1) (fun e => by have := hr i e.symm; have := ltOf hi; omega)]; exact h1⟩
theorem own_IsSl {F : Nat → Prop} {w : World} {base n : Nat} {t : TypeId} {v : Value} {xs : List Value} (h : w.ownsRow base t 1 v n xs) (hF : ∀ b, v.ownBlock = some b → F b) : IsSl F w t v xs := by
  obtain ⟨h1, ⟨rfl, h2⟩ | ⟨g, cap, cur, rfl, h2, h3, h4, h5, h6, h7⟩⟩ := h
  · exact .inl ⟨List.length_eq_zero_iff.1 (by omega), rfl⟩
  · have e1 : xs.length = n := by omega
    have e2 : cur.size = cap := by omega
    subst e1
    subst e2
    exact .inr ⟨g, cur, rfl, hF g rfl, h3, h4, by simpa using h7⟩
theorem IsExs.snoc {F : Nat → Prop} {w : World} {v : Value} {x : P.Ex} (hv : IsEx F w v x) : ∀ {l : List P.Ex} {vs : List Value}, IsExs F w vs l → IsExs F w (vs ++ [v]) (l ++ [x])
  | [], vs, h => by
    unfold IsExs at h
    subst h
    simp only [List.nil_append]
    unfold IsExs
    exact ⟨v, [], rfl, hv, by unfold IsExs; rfl⟩
  | y :: l, vs, h => by
    unfold IsExs at h
    obtain ⟨u, r, rfl, h1, h2⟩ := h
    simp only [List.cons_append]
    unfold IsExs
    exact ⟨u, r ++ [v], rfl, h1, IsExs.snoc hv h2⟩
theorem sInfoEx : (Tryz.prog.info? 124).map (fun i => (i.zero, i.size, i.bytes)) = some (some (.pointer none), 1, 8) := by kernel_rfl
theorem cellKeepC {w w' : World} {a : Addr} {v : Value} (h : w.cell? a = some v) (hw : ∀ cs t z, w.heap[a.block]? = some (.cells cs t z) → w'.heap[a.block]? = some (.cells cs t z)) : w'.cell? a = some v := by
  cases hb : w.heap[a.block]? with
  | none => simp [World.cell?, hb] at h
  | some o =>
    cases o with
    | cells cs t z => rw [World.cell?_of_block (w := w) (w' := w') (by rw [hw _ _ _ hb, hb])]; exact h
    | _ => simp [World.cell?, hb] at h
theorem SP.extC {w w' : World} {pb tb : Nat} {T : List P.Tok} {k : Nat} {vars : List P.Bs} {d : Nat} (h : SP w pb tb T k vars d)
    (hw : ∀ (b : Nat) (cs : Array Value) (t : TypeId) (z : Nat × Nat), w.heap[b]? = some (.cells cs t z) → w'.heap[b]? = some (.cells cs t z)) : SP w' pb tb T k vars d := by
  obtain ⟨tw, lt, kt, nv, toks, cap, vv, h1, h2, h3, g1, g2⟩ := h
  obtain ⟨ts, cs, t1, t2⟩ := toks
  refine ⟨tw, lt, kt, nv, ⟨⟨ts.lt, fun l hl => ?_⟩, cs, hw _ _ _ _ t1, t2⟩, cap, vv, h1, h2, hw _ _ _ _ h3, g1, ?_⟩
  · obtain ⟨b, o, c, e1, e2, e3⟩ := ts.lev l hl
    exact ⟨b, o, c, e1, cellKeepC e2 (hw _), fun j hj => cellKeepC (e3 j hj) (hw _)⟩
  · rcases g2 with g | ⟨g, cp, cur, e1, e2, e3, e4⟩
    · exact .inl g
    · exact .inr ⟨g, cp, cur, e1, e2, hw _ _ _ _ e3, e4⟩
theorem ast_cells {o : Obj} (h : astObj o) : ∃ cs t z, o = .cells cs t z := by
  cases o with
  | cells cs t z => exact ⟨cs, t, z, rfl⟩
  | _ => exact h.elim
theorem IsExs.blocks {F : Nat → Prop} {w : World} : ∀ {l : List P.Ex} {vs : List Value}, IsExs F w vs l → ∃ bl : List Nat, vs = bl.map (fun b => Value.pointer (some ⟨b, 0, none⟩)) ∧ bl.length = l.length
  | [], vs, h => by unfold IsExs at h; exact ⟨[], by rw [h]; rfl, rfl⟩
  | x :: l, vs, h => by
    unfold IsExs at h
    obtain ⟨u, r, rfl, h1, h2⟩ := h
    obtain ⟨bl, rfl, e⟩ := IsExs.blocks h2
    cases x with
    | mk kind name n k args =>
      unfold IsEx at h1
      obtain ⟨b, _, _, rfl, _⟩ := h1
      exact ⟨b :: bl, rfl, by simp [e]⟩
theorem IsExs.get {F : Nat → Prop} {w : World} : ∀ {l : List P.Ex} {bl : List Nat}, IsExs F w (bl.map (fun b => Value.pointer (some ⟨b, 0, none⟩))) l → ∀ i (hi : i < l.length), IsEx F w (.pointer (some ⟨bl.getD i 0, 0, none⟩)) l[i]
  | [], bl, h, i, hi => absurd hi (Nat.not_lt_zero _)
  | x :: l, bl, h, i, hi => by
    unfold IsExs at h
    obtain ⟨u, r, e, h1, h2⟩ := h
    cases bl with
    | nil => cases e
    | cons b bl =>
      simp only [List.map_cons, List.cons.injEq] at e
      obtain ⟨rfl, rfl⟩ := e
      cases i with
      | zero => exact h1
      | succ i => simpa using IsExs.get h2 i (by simpa using hi)
end Go.Proofs.YtkmpelgfhjgddaaGreatDoor
namespace Go.Proofs.YtkmpelgfhjgddaaGreatDoor
open Go.RowKit
set_option linter.unusedVariables false
set_option maxRecDepth 100000 in
set_option maxHeartbeats 1000000 in
theorem sPrim_deep {pb tb : Nat} {T : List P.Tok} {k : Nat} {vars : List P.Bs} {d : Nat} {w : World} (hp : SP w pb tb T k vars d) (hd : 8 < d + 1) (hd2 : d ≤ 8) :
    Calls Tryz.prog 101 #[.pointer (some ⟨pb, 0, none⟩)] w (SPost IsEx pb tb T d w (.err 4 (P.tk T k).pos)) := by
  have H := Lib.hid hp
  clear hp
  go_enter_defers Tryz.func101, Tryz.ntmps101
  go_wp2_with fail
  refine (sDeeper_no H.out hd (by omega)).mono ?_
  rintro e w1 ⟨⟨b, rfl, hb⟩, hf, hs⟩
  exact ⟨⟨b, rfl, hb⟩, hf, hs⟩
set_option maxRecDepth 100000 in
set_option maxHeartbeats 1000000 in
theorem sPrim_num (hint : CInt) {pb tb : Nat} {T : List P.Tok} {k : Nat} {vars : List P.Bs} {d : Nat} {w : World} (hp : SP w pb tb T k vars d) (hd : d + 1 ≤ 8)
    (hk : (P.tk T k).kind = 3) :
    Calls Tryz.prog 101 #[.pointer (some ⟨pb, 0, none⟩)] w (SPost IsEx pb tb T d w (.ok (.mk 110 [] (P.num (P.tk T k).text) 0 []) (k + 1) vars)) := by
  have H := Lib.hid hp
  have HK := Lib.hid hk
  clear hp hk
  go_enter_defers Tryz.func101, Tryz.ntmps101
  go_wp2_with fail
  refine (sDeeper_yes H.out hd).mono ?_
  rintro e w1 ⟨rfl, hs1, hx1, hp1, hf1⟩
  have HX1 := Lib.hid hx1
  have HF1 := Lib.hid hf1
  have HP1 := Lib.hid hp1
  have HS1 := Lib.hid hs1
  obtain ⟨n, c, h0, f0, hb, l1, l2, l3, l4, hp2, hf2⟩ := hp1.on (by have := HK.out; omega)
  obtain ⟨t0, t1, t2⟩ := hp1.toks.at hp1.kt
  have htb : tb < w1.heap.size := by have := hp1.lt; omega
  have hne : ¬ tb = pb := by have := hp1.lt; omega
  have hne' : ¬ pb = tb := by omega
  have HP2 := Lib.hid hp2
  have HF2 := Lib.hid hf2
  rw [HK.out] at t0
  clear hp1 hf1 hx1 hs1 hp2 hf2
  go_wp2_with fail
  have hdg := H.out.tw.digits _ (tk_mem H.out.kt) HK.out
  refine (hint.go _ hdg.1 hdg.2.1 hdg.2.2).mono ?_
  rintro e w3 ⟨rfl, he3⟩
  have HE3 := Lib.hid he3
  clear hdg he3
  go_wp2_with fail
  have hs1 := HS1.out
  have hpb : pb < w.heap.size := H.out.d2.2.2
  have hbx := HF2.out.keep HX1.out (by omega) (by decide)
  have hz := HE3.out.size
  rw [size_alloc, size_setCell] at hz
  refine doorRet (j := 2) stab_Ex rfl hpb (((HP2.out.ext fun b o h => blk_alloc_old h).ext HE3.out.ext).ext fun b o h => blk_alloc_old h) (by omega) (blk_alloc_old (HE3.out.ext _ _ (blk_alloc_old hbx))) ?_
    ((((HF1.out.trans HF2.out).alloc _).trans HE3.out.toM).alloc _)
  exact isEx_leaf ⟨by omega, by rw [size_alloc]; omega⟩ (blk_alloc_new _ _)
set_option maxRecDepth 100000 in
set_option maxHeartbeats 1000000 in
theorem sPrim_var (hvar : CVar) {pb tb : Nat} {T : List P.Tok} {k : Nat} {vars : List P.Bs} {d : Nat} {w : World} (hp : SP w pb tb T k vars d) (hd : d + 1 ≤ 8)
    (hk : (P.tk T k).kind = 2) :
    Calls Tryz.prog 101 #[.pointer (some ⟨pb, 0, none⟩)] w (SPost IsEx pb tb T d w (P.pVar (P.tk T k) (k + 1) vars)) := by
  have H := Lib.hid hp
  have HK := Lib.hid hk
  clear hp hk
  go_enter_defers Tryz.func101, Tryz.ntmps101
  go_wp2_with fail
  refine (sDeeper_yes H.out hd).mono ?_
  rintro e w1 ⟨rfl, hs1, hx1, hp1, hf1⟩
  have HX1 := Lib.hid hx1
  have HF1 := Lib.hid hf1
  have HP1 := Lib.hid hp1
  have HS1 := Lib.hid hs1
  obtain ⟨n, c, h0, f0, hb, l1, l2, l3, l4, hp2, hf2⟩ := hp1.on (by have := HK.out; omega)
  obtain ⟨t0, t1, t2⟩ := hp1.toks.at hp1.kt
  have htb : tb < w1.heap.size := by have := hp1.lt; omega
  have hne : ¬ tb = pb := by have := hp1.lt; omega
  have hne' : ¬ pb = tb := by omega
  have HP2 := Lib.hid hp2
  have HF2 := Lib.hid hf2
  rw [HK.out] at t0
  clear hp1 hf1 hx1 hs1 hp2 hf2
  go_wp2_with fail
  have hpv := hvar.go (P.tk T k) (HP2.out.ext fun b o (h : _ = some o) => blk_alloc_old (o := .cells #[.int .i64 2, .string (bs (P.tk T k).text), .int .i64 (P.tk T k).pos] 139) h)
    (H.out.tw.vars _ (tk_mem H.out.kt) HK.out)
  rw [HK.out] at hpv
  refine hpv.mono ?_
  have hs1 := HS1.out
  have hpb : pb < w.heap.size := H.out.d2.2.2
  have hbx := HF2.out.keep HX1.out (by omega) (by decide)
  have hbx' : ∀ o, ((onW w1 pb tb k n c).alloc o).heap[w.heap.size]? = _ := fun o => blk_alloc_old (o := o) hbx
  have hfr := fun o => (HF1.out.trans HF2.out).alloc o
  have hsz : ∀ o, ((onW w1 pb tb k n c).alloc o).heap.size = w.heap.size + 2 := fun o => by rw [size_alloc, size_setCell, hs1]
  have HB := Lib.hid hbx'
  have HR := Lib.hid hfr
  have HZ := Lib.hid hsz
  clear hpv hbx hbx' hfr hsz
  cases hr : P.pVar (P.tk T k) (k + 1) vars with
  | ok x k' vs =>
    rintro e w3 ⟨v, rfl, hv, hp3, hf3⟩
    have HV := Lib.hid hv
    have HP3 := Lib.hid hp3
    have HF3 := Lib.hid hf3
    have HRR := Lib.hid hr
    clear hv hp3 hf3 hr
    go_wp2_with fail
    have hz := HZ.out (.cells #[.int .i64 2, .string (bs (P.tk T k).text), .int .i64 (P.tk T k).pos] 139)
    have hz3 := HF3.out.size
    rw [HRR.out]
    refine doorRet (j := 2) stab_Ex rfl hpb HP3.out (by omega) (HF3.out.keep (HB.out _) (by omega) (by decide)) ?_ ((HR.out _).trans HF3.out)
    exact IsEx.mono (fun b hb => ⟨by have := hb.1; omega, hb.2⟩) (fun _ _ _ _ h => h) _ _ HV.out
  | err c0 a0 =>
    rintro e w3 ⟨⟨b, rfl, hb3, hl3⟩, hf3, hs3⟩
    have hz := HZ.out (.cells #[.int .i64 2, .string (bs (P.tk T k).text), .int .i64 (P.tk T k).pos] 139)
    exact doorPanic hpb hs3 (hf3.keep (HB.out _) (by omega) (by decide)) ⟨b, rfl, hb3, by omega⟩ ((HR.out _).trans hf3)
end Go.Proofs.YtkmpelgfhjgddaaGreatDoor
namespace Go.Proofs.YtkmpelgfhjgddaaGreatDoor
open Go.RowKit
set_option linter.unusedVariables false
set_option maxRecDepth 100000 in
set_option maxHeartbeats 1000000 in
theorem sPrim_atom {pb tb : Nat} {T : List P.Tok} {k : Nat} {vars : List P.Bs} {d : Nat} {w : World} (hp : SP w pb tb T k vars d) (hd : d + 1 ≤ 8)
    (hk : (P.tk T k).kind = 1) (ho : P.isT T (k + 1) [40] = false) :
    Calls Tryz.prog 101 #[.pointer (some ⟨pb, 0, none⟩)] w (SPost IsEx pb tb T d w (.ok (.mk 97 (P.tk T k).text 0 0 []) (k + 1) vars)) := by
  have HO := Lib.hid ho
  clear ho
  have H := Lib.hid hp
  have HK := Lib.hid hk
  clear hp hk
  go_enter_defers Tryz.func101, Tryz.ntmps101
  go_wp2_with fail
  refine (sDeeper_yes H.out hd).mono ?_
  rintro e w1 ⟨rfl, hs1, hx1, hp1, hf1⟩
  have HX1 := Lib.hid hx1
  have HF1 := Lib.hid hf1
  have HP1 := Lib.hid hp1
  have HS1 := Lib.hid hs1
  obtain ⟨n, c, h0, f0, hb, l1, l2, l3, l4, hp2, hf2⟩ := hp1.on (by have := HK.out; omega)
  obtain ⟨t0, t1, t2⟩ := hp1.toks.at hp1.kt
  have htb : tb < w1.heap.size := by have := hp1.lt; omega
  have hne : ¬ tb = pb := by have := hp1.lt; omega
  have hne' : ¬ pb = tb := by omega
  have HP2 := Lib.hid hp2
  have HF2 := Lib.hid hf2
  rw [HK.out] at t0
  clear hp1 hf1 hx1 hs1 hp2 hf2
  go_wp2_with fail
  refine (sIs_no (HP2.out.ext fun b o h => blk_alloc_old (blk_alloc_old h)) [40] HO.out (by decide)).mono ?_
  rintro e w3 ⟨rfl, rfl⟩
  go_wp2_with fail
  have hs1 := HS1.out
  have hpb : pb < w.heap.size := H.out.d2.2.2
  have hbx := HF2.out.keep HX1.out (by omega) (by decide)
  refine doorRet (j := 2) stab_Ex rfl hpb (HP2.out.ext fun b o h => blk_alloc_old (blk_alloc_old h)) (by omega) (blk_alloc_old (blk_alloc_old hbx)) ?_
    (((HF1.out.trans HF2.out).alloc _).alloc _)
  exact isEx_leaf ⟨by omega, by rw [size_alloc, size_alloc, size_setCell]; omega⟩ (blk_new1 (by rw [size_alloc, size_setCell]))
set_option maxRecDepth 100000 in
set_option maxHeartbeats 1000000 in
theorem sPrim_comp {f : Nat} (hargs : CArgs f) {pb tb : Nat} {T : List P.Tok} {k : Nat} {vars : List P.Bs} {d : Nat} {w : World} (hp : SP w pb tb T k vars d) (hd : d + 1 ≤ 8)
    (hk : (P.tk T k).kind = 1) (ho : P.isT T (k + 1) [40] = true) {r : P.Res (List P.Ex)} (hr : P.pArgs T f (k + 2) vars (d + 1) (P.tk T k).pos [] = some r)
    {q : P.Res P.Ex} (hq : P.Res.bind (some r) (fun l k' vars' => P.musT T [41] (P.Ex.mk 99 (P.tk T k).text 0 0 l) k' vars') = some q) :
    Calls Tryz.prog 101 #[.pointer (some ⟨pb, 0, none⟩)] w (SPost IsEx pb tb T d w (q)) := by
  have HO := Lib.hid ho
  have HR := Lib.hid hr
  have HQ := Lib.hid hq
  clear ho hr hq
  have H := Lib.hid hp
  have HK := Lib.hid hk
  clear hp hk
  go_enter_defers Tryz.func101, Tryz.ntmps101
  go_wp2_with fail
  refine (sDeeper_yes H.out hd).mono ?_
  rintro e w1 ⟨rfl, hs1, hx1, hp1, hf1⟩
  have HX1 := Lib.hid hx1
  have HF1 := Lib.hid hf1
  have HP1 := Lib.hid hp1
  have HS1 := Lib.hid hs1
  obtain ⟨n, c, h0, f0, hb, l1, l2, l3, l4, hp2, hf2⟩ := hp1.on (by have := HK.out; omega)
  obtain ⟨t0, t1, t2⟩ := hp1.toks.at hp1.kt
  have htb : tb < w1.heap.size := by have := hp1.lt; omega
  have hne : ¬ tb = pb := by have := hp1.lt; omega
  have hne' : ¬ pb = tb := by omega
  have HP2 := Lib.hid hp2
  have HF2 := Lib.hid hf2
  rw [HK.out] at t0
  clear hp1 hf1 hx1 hs1 hp2 hf2
  go_wp2_with fail
  refine (sIs_yes (HP2.out.ext fun b o h => blk_alloc_old (blk_alloc_old h)) [40] HO.out).mono ?_
  have hs1 := HS1.out
  have hpb : pb < w.heap.size := H.out.d2.2.2
  have htp := H.out.lt
  have hbx := HF2.out.keep HX1.out (by omega) (by decide)
  have hbx2 : ∀ o o', (((onW w1 pb tb k n c).alloc o).alloc o').heap[w.heap.size]? = _ := fun o o' => blk_alloc_old (o := o') (blk_alloc_old (o := o) hbx)
  have hex : ∀ o o', (((onW w1 pb tb k n c).alloc o).alloc o').heap[w1.heap.size + 1]? = some o' := fun o o' => blk_new1 (by rw [size_alloc, size_setCell])
  have hsz : ∀ o o', (((onW w1 pb tb k n c).alloc o).alloc o').heap.size = w1.heap.size + 2 := fun o o' => by rw [size_alloc, size_alloc, size_setCell]
  have hfr := fun o o' => ((HF1.out.trans HF2.out).alloc o).alloc o'
  rintro e w3 ⟨rfl, hp3, hf3⟩
  have hbx3 := hf3.keep (hbx2 _ _) (by omega) (by decide)
  have hex3 := hf3.keep (hex _ _) (by omega) (by decide)
  have hfr3 := (hfr _ _).trans hf3
  have hz3 : w1.heap.size + 2 ≤ w3.heap.size := by rw [← hsz]; exact hf3.size
  have HB3 := Lib.hid hbx3
  have HE3 := Lib.hid hex3
  have HF3 := Lib.hid hfr3
  have HP3 := Lib.hid hp3
  have HS := Lib.hid hs1
  have c2 : w3.cell? ⟨w1.heap.size, 2, none⟩ = some (.int .i64 (P.tk T k).pos) :=
    cellOf (hf3.keep (b := w1.heap.size) (blk_alloc_old (blk_new1 (by rw [size_setCell]))) (by omega) (by decide)) rfl
  clear hbx hbx2 hex hsz hfr hp3 hf3 hbx3 hex3 hfr3 hs1 t0 t1 t2 h0 f0
  go_wp2_with fail
  refine (hargs.go _ HP3.out (by omega) HR.out).mono ?_
  cases r with
  | err c0 a0 =>
    rintro e w4 ⟨⟨b, rfl, hb3, hl3⟩, hf3, hs3⟩
    have e := HQ.out
    simp only [P.Res.bind, Option.some.injEq] at e
    subst e
    have hs1 := HS1.out
    exact doorPanic hpb hs3 (hf3.keep HB3.out (by omega) (by decide)) ⟨b, rfl, hb3, by omega⟩ (HF3.out.trans hf3)
  | ok l k' vs =>
    rintro e w4 ⟨v, rfl, hv, hp4, hf4⟩
    obtain ⟨sa, sn, sc, rfl, -, -⟩ := hv.shape
    have hs1 := HS1.out
    have hex4 := hf4.keep HE3.out (by omega) (by decide)
    have hbx4 := hf4.keep HB3.out (by omega) (by decide)
    have x0 : w4.cell? ⟨w1.heap.size + 1, 0, none⟩ = some (.int .u8 97) := cellOf hex4 rfl
    have x4 : w4.cell? ⟨w1.heap.size + 1, 4, none⟩ = some (.slice none 0 0) := cellOf hex4 rfl
    have y0 := freeOf hex4 0
    have y4 := freeOf hex4 4
    have z4 := ltOf hex4
    have hz4 := hf4.size
    have HP4 := Lib.hid hp4
    have HV4 := Lib.hid hv
    have HF4 := Lib.hid (HF3.out.trans hf4)
    have HE4 := Lib.hid hex4
    have HB4 := Lib.hid hbx4
    clear hv hp4 hf4 hex4 hbx4 hs1 c2
    go_wp2_with fail
    have hs1 := HS1.out
    have n1 : w1.heap.size + 1 ≠ pb := by omega
    have n2 : tb < w1.heap.size + 1 := by omega
    have n3 : w.heap.size ≠ w1.heap.size + 1 := by omega
    have hex5 := blk_setCell_same (o := 0) HE4.out (.int .u8 99)
    have hp6 := (HP4.out.setOther (o := 0) HE4.out (by decide) n1 n2 (.int .u8 99)).setOther (o := 4) hex5 (by decide) n1 n2 (.slice sa sn sc)
    have hex6 := blk_setCell_same (o := 4) hex5 (.slice sa sn sc)
    have hbx6 := (blk_setCell_other (a := ⟨w1.heap.size + 1, 4, none⟩) n3 (.slice sa sn sc)).trans ((blk_setCell_other (a := ⟨w1.heap.size + 1, 0, none⟩) n3 (.int .u8 99)).trans HB4.out)
    have hfr6 := (HF4.out.setNew (p := ⟨w1.heap.size + 1, 0, none⟩) (by show w.heap.size ≤ w1.heap.size + 1; omega) (.int .u8 99)).setNew (p := ⟨w1.heap.size + 1, 4, none⟩) (by show w.heap.size ≤ w1.heap.size + 1; omega) (.slice sa sn sc)
    have hv6 := (HV4.out.set (x := w1.heap.size + 1) (o := 0) (fun b hb => by have := hb.1; omega) (.int .u8 99)).set (x := w1.heap.size + 1) (o := 4) (fun b hb => by have := hb.1; omega) (.slice sa sn sc)
    have hz6 : ∀ u v, ((w4.setCell ⟨w1.heap.size + 1, 0, none⟩ u).setCell ⟨w1.heap.size + 1, 4, none⟩ v).heap.size = w4.heap.size := fun u v => by rw [size_setCell, size_setCell]
    have HE6 := Lib.hid hex6
    have HB6 := Lib.hid hbx6
    have HF6 := Lib.hid hfr6
    have HV6 := Lib.hid hv6
    have HZ6 := Lib.hid hz6
    have HP6 := Lib.hid hp6
    clear hex5 hp6 hex6 hbx6 hfr6 hv6 hz6 x0 x4 y0 y4
    have hq := HQ.out
    simp only [P.Res.bind, P.musT] at hq
    by_cases hc : P.isT T k' [41] = true
    · rw [if_pos hc, Option.some.injEq] at hq
      subst hq
      refine (sMust_yes HP6.out [41] hc).mono ?_
      rintro e w7 ⟨rfl, hp7, hf7⟩
      have HP7 := Lib.hid hp7
      have HF7 := Lib.hid hf7
      clear hp7 hf7 hc n1 n2 n3 hs1
      go_wp2_with fail
      have hs1 := HS1.out
      have hz7 := HF7.out.size
      rw [HZ6.out] at hz7
      refine doorRet (j := 2) stab_Ex rfl hpb HP7.out (by omega) (HF7.out.keep HB6.out (by omega) (by decide)) ?_ (HF6.out.trans HF7.out)
      refine isEx_node ⟨by omega, by omega⟩ (HF7.out.keep HE6.out (by omega) (by decide)) ?_
      exact stab_SlEx _ _ _ _ _ _ _ HV6.out HF7.out fun b hb => ⟨by have := hb.1; omega, by have := hb.1; have := hb.2; exact ⟨by omega, by omega⟩⟩
    · rw [if_neg hc, Option.some.injEq] at hq
      subst hq
      refine (sMust_no HP6.out [41] (by simpa using hc) (by decide)).mono ?_
      rintro e w7 ⟨⟨b, rfl, hb3, hl3⟩, hf3, hs3⟩
      rw [HZ6.out] at hl3
      exact doorPanic hpb hs3 (hf3.keep HB6.out (by omega) (by decide)) ⟨b, rfl, hb3, by omega⟩ (HF6.out.trans hf3)
end Go.Proofs.YtkmpelgfhjgddaaGreatDoor
namespace Go.Proofs.YtkmpelgfhjgddaaGreatDoor
open Go.RowKit
set_option linter.unusedVariables false
set_option maxRecDepth 100000 in
set_option maxHeartbeats 1000000 in
theorem sPrim_none {pb tb : Nat} {T : List P.Tok} {k : Nat} {vars : List P.Bs} {d : Nat} {w : World} (hp : SP w pb tb T k vars d) (hd : d + 1 ≤ 8)
    (hk : (P.tk T k).kind = 0 ∨ (P.tk T k).kind = 4) (hm : P.isT T k [45] = false) (hn : P.isT T k [40] = false) (hl : P.isT T k [91] = false) :
    Calls Tryz.prog 101 #[.pointer (some ⟨pb, 0, none⟩)] w (SPost IsEx pb tb T d w (.err 2 (P.tk T k).pos)) := by
  have HM := Lib.hid hm
  have HN := Lib.hid hn
  have HL := Lib.hid hl
  clear hm hn hl
  have H := Lib.hid hp
  go_enter_defers Tryz.func101, Tryz.ntmps101
  go_wp2_with fail
  refine (sDeeper_yes H.out hd).mono ?_
  rintro e w1 ⟨rfl, hs1, hx1, hp1, hf1⟩
  have HX1 := Lib.hid hx1
  have HF1 := Lib.hid hf1
  have HP1 := Lib.hid hp1
  have HS1 := Lib.hid hs1
  obtain ⟨n, c, h0, l1, l2, -, l3, l4⟩ := hp1.l0
  obtain ⟨t0, t1, t2⟩ := hp1.toks.at hp1.kt
  obtain ⟨kd, hkd⟩ : ∃ kd : Int, kd = ((P.tk T k).kind : Int) := ⟨_, rfl⟩
  rw [← hkd] at t0
  have k1 : (kd == 1) = false := by simp; omega
  have k2 : (kd == 2) = false := by simp; omega
  have k3 : (kd == 3) = false := by simp; omega
  have hpw : pb < w1.heap.size := hp1.d2.2.2
  have htb : tb < w1.heap.size := Nat.lt_trans hp1.lt hpw
  have hpb : pb < w.heap.size := hp.d2.2.2
  have htp := hp.lt
  clear hp1 hf1 hx1 hs1 hk hkd hp
  go_wp2_with fail
  have hpa : ∀ o, SP (w1.alloc o) pb tb T k vars (d + 1) := fun o => HP1.out.ext fun b x h => blk_alloc_old h
  have hbxa : ∀ o, (w1.alloc o).heap[w.heap.size]? = _ := fun o => blk_alloc_old (o := o) HX1.out
  have hfra := fun o => HF1.out.alloc o
  have hsza : ∀ o, (w1.alloc o).heap.size = w.heap.size + 2 := fun o => by rw [size_alloc, HS1.out]
  have HPA := Lib.hid hpa
  have HBA := Lib.hid hbxa
  have HFA := Lib.hid hfra
  have HZA := Lib.hid hsza
  clear hpa hbxa hfra hsza
  refine (sIs_no (HPA.out _) [45] HM.out (by decide)).mono ?_
  rintro e w2 ⟨rfl, rfl⟩
  go_wp2_with fail
  refine (sIs_no (HPA.out _) [40] HN.out (by decide)).mono ?_
  rintro e w2 ⟨rfl, rfl⟩
  go_wp2_with fail
  refine (sIs_no (HPA.out _) [91] HL.out (by decide)).mono ?_
  rintro e w2 ⟨rfl, rfl⟩
  go_wp2_with fail
  refine (sNone (HPA.out _)).mono ?_
  rintro e w2 ⟨⟨b, rfl, hb3, hl3⟩, hf3, hs3⟩
  rw [HZA.out] at hl3
  have hs1 := HS1.out
  exact doorPanic hpb hs3 (hf3.keep (HBA.out _) (by omega) (by decide)) ⟨b, rfl, hb3, by omega⟩ ((HFA.out _).trans hf3)
set_option maxRecDepth 100000 in
set_option maxHeartbeats 1000000 in
theorem sPrim_list {f : Nat} (hlist : CList f) {pb tb : Nat} {T : List P.Tok} {k : Nat} {vars : List P.Bs} {d : Nat} {w : World} (hp : SP w pb tb T k vars d) (hd : d + 1 ≤ 8)
    (hk : (P.tk T k).kind = 0 ∨ (P.tk T k).kind = 4) (hm : P.isT T k [45] = false) (hn : P.isT T k [40] = false) (hl : P.isT T k [91] = true)
    {r : P.Res P.Ex} (hr : P.pList T f (k + 1) vars (d + 1) = some r) :
    Calls Tryz.prog 101 #[.pointer (some ⟨pb, 0, none⟩)] w (SPost IsEx pb tb T d w (r)) := by
  have HM := Lib.hid hm
  have HN := Lib.hid hn
  have HL := Lib.hid hl
  have HR := Lib.hid hr
  clear hm hn hl hr
  have H := Lib.hid hp
  go_enter_defers Tryz.func101, Tryz.ntmps101
  go_wp2_with fail
  refine (sDeeper_yes H.out hd).mono ?_
  rintro e w1 ⟨rfl, hs1, hx1, hp1, hf1⟩
  have HX1 := Lib.hid hx1
  have HF1 := Lib.hid hf1
  have HP1 := Lib.hid hp1
  have HS1 := Lib.hid hs1
  obtain ⟨n, c, h0, l1, l2, -, l3, l4⟩ := hp1.l0
  obtain ⟨t0, t1, t2⟩ := hp1.toks.at hp1.kt
  obtain ⟨kd, hkd⟩ : ∃ kd : Int, kd = ((P.tk T k).kind : Int) := ⟨_, rfl⟩
  rw [← hkd] at t0
  have k1 : (kd == 1) = false := by simp; omega
  have k2 : (kd == 2) = false := by simp; omega
  have k3 : (kd == 3) = false := by simp; omega
  have hpw : pb < w1.heap.size := hp1.d2.2.2
  have htb : tb < w1.heap.size := Nat.lt_trans hp1.lt hpw
  have hpb : pb < w.heap.size := hp.d2.2.2
  have htp := hp.lt
  clear hp1 hf1 hx1 hs1 hk hkd hp
  go_wp2_with fail
  have hpa : ∀ o, SP (w1.alloc o) pb tb T k vars (d + 1) := fun o => HP1.out.ext fun b x h => blk_alloc_old h
  have hbxa : ∀ o, (w1.alloc o).heap[w.heap.size]? = _ := fun o => blk_alloc_old (o := o) HX1.out
  have hfra := fun o => HF1.out.alloc o
  have hsza : ∀ o, (w1.alloc o).heap.size = w.heap.size + 2 := fun o => by rw [size_alloc, HS1.out]
  have HPA := Lib.hid hpa
  have HBA := Lib.hid hbxa
  have HFA := Lib.hid hfra
  have HZA := Lib.hid hsza
  clear hpa hbxa hfra hsza
  refine (sIs_no (HPA.out _) [45] HM.out (by decide)).mono ?_
  rintro e w2 ⟨rfl, rfl⟩
  go_wp2_with fail
  refine (sIs_no (HPA.out _) [40] HN.out (by decide)).mono ?_
  rintro e w2 ⟨rfl, rfl⟩
  go_wp2_with fail
  refine (sIs_yes (HPA.out _) [91] HL.out).mono ?_
  rintro e w2 ⟨rfl, hp2, hf2⟩
  have HP2 := Lib.hid hp2
  have hz2 := hf2.size
  rw [HZA.out] at hz2
  have HB2 := Lib.hid (hf2.keep (HBA.out _) (by omega) (by decide))
  have HF2 := Lib.hid ((HFA.out _).trans hf2)
  clear hp2 hf2
  go_wp2_with fail
  refine (hlist.go HP2.out (by omega) HR.out).mono ?_
  cases r with
  | err c0 a0 =>
    rintro e w4 ⟨⟨b, rfl, hb3, hl3⟩, hf3, hs3⟩
    exact doorPanic hpb hs3 (hf3.keep HB2.out (by omega) (by decide)) ⟨b, rfl, hb3, by omega⟩ (HF2.out.trans hf3)
  | ok x k' vs =>
    rintro e w4 ⟨v, rfl, hv, hp4, hf4⟩
    have HV := Lib.hid hv
    have HP4 := Lib.hid hp4
    have HF4 := Lib.hid hf4
    clear hv hp4 hf4
    go_wp2_with fail
    refine doorRet (j := 2) stab_Ex rfl hpb HP4.out (by omega) (HF4.out.keep HB2.out (by omega) (by decide)) ?_ (HF2.out.trans HF4.out)
    exact IsEx.mono (fun b hb => ⟨by have := hb.1; omega, hb.2⟩) (fun _ _ _ _ h => h) _ _ HV.out
set_option maxRecDepth 100000 in
set_option maxHeartbeats 1000000 in
theorem sPrim_paren {f : Nat} (hexpr : CExpr f) {pb tb : Nat} {T : List P.Tok} {k : Nat} {vars : List P.Bs} {d : Nat} {w : World} (hp : SP w pb tb T k vars d) (hd : d + 1 ≤ 8)
    (hk : (P.tk T k).kind = 0 ∨ (P.tk T k).kind = 4) (hm : P.isT T k [45] = false) (hn : P.isT T k [40] = true)
    {r : P.Res P.Ex} (hr : P.pOper T f 0 (k + 1) vars (d + 1) = some r) {q : P.Res P.Ex} (hq : P.Res.bind (some r) (fun x k' vars' => P.musT T [41] x k' vars') = some q) :
    Calls Tryz.prog 101 #[.pointer (some ⟨pb, 0, none⟩)] w (SPost IsEx pb tb T d w (q)) := by
  have HM := Lib.hid hm
  have HN := Lib.hid hn
  have HR := Lib.hid hr
  have HQ := Lib.hid hq
  clear hm hn hr hq
  have H := Lib.hid hp
  go_enter_defers Tryz.func101, Tryz.ntmps101
  go_wp2_with fail
  refine (sDeeper_yes H.out hd).mono ?_
  rintro e w1 ⟨rfl, hs1, hx1, hp1, hf1⟩
  have HX1 := Lib.hid hx1
  have HF1 := Lib.hid hf1
  have HP1 := Lib.hid hp1
  have HS1 := Lib.hid hs1
  obtain ⟨n, c, h0, l1, l2, -, l3, l4⟩ := hp1.l0
  obtain ⟨t0, t1, t2⟩ := hp1.toks.at hp1.kt
  obtain ⟨kd, hkd⟩ : ∃ kd : Int, kd = ((P.tk T k).kind : Int) := ⟨_, rfl⟩
  rw [← hkd] at t0
  have k1 : (kd == 1) = false := by simp; omega
  have k2 : (kd == 2) = false := by simp; omega
  have k3 : (kd == 3) = false := by simp; omega
  have hpw : pb < w1.heap.size := hp1.d2.2.2
  have htb : tb < w1.heap.size := Nat.lt_trans hp1.lt hpw
  have hpb : pb < w.heap.size := hp.d2.2.2
  have htp := hp.lt
  clear hp1 hf1 hx1 hs1 hk hkd hp
  go_wp2_with fail
  have hpa : ∀ o, SP (w1.alloc o) pb tb T k vars (d + 1) := fun o => HP1.out.ext fun b x h => blk_alloc_old h
  have hbxa : ∀ o, (w1.alloc o).heap[w.heap.size]? = _ := fun o => blk_alloc_old (o := o) HX1.out
  have hfra := fun o => HF1.out.alloc o
  have hsza : ∀ o, (w1.alloc o).heap.size = w.heap.size + 2 := fun o => by rw [size_alloc, HS1.out]
  have HPA := Lib.hid hpa
  have HBA := Lib.hid hbxa
  have HFA := Lib.hid hfra
  have HZA := Lib.hid hsza
  clear hpa hbxa hfra hsza
  refine (sIs_no (HPA.out _) [45] HM.out (by decide)).mono ?_
  rintro e w2 ⟨rfl, rfl⟩
  go_wp2_with fail
  refine (sIs_yes (HPA.out _) [40] HN.out).mono ?_
  rintro e w2 ⟨rfl, hp2, hf2⟩
  have HP2 := Lib.hid hp2
  have hz2 := hf2.size
  rw [HZA.out] at hz2
  have HB2 := Lib.hid (hf2.keep (HBA.out _) (by omega) (by decide))
  have HF2 := Lib.hid ((HFA.out _).trans hf2)
  clear hp2 hf2
  go_wp2_with fail
  refine (hexpr.go HP2.out (by omega) HR.out).mono ?_
  cases r with
  | err c0 a0 =>
    rintro e w4 ⟨⟨b, rfl, hb3, hl3⟩, hf3, hs3⟩
    have e := HQ.out
    simp only [P.Res.bind, Option.some.injEq] at e
    subst e
    exact doorPanic hpb hs3 (hf3.keep HB2.out (by omega) (by decide)) ⟨b, rfl, hb3, by omega⟩ (HF2.out.trans hf3)
  | ok x k' vs =>
    rintro e w4 ⟨v, rfl, hv, hp4, hf4⟩
    have HV := Lib.hid hv
    have HP4 := Lib.hid hp4
    have HF4 := Lib.hid hf4
    have HB4 := Lib.hid (hf4.keep HB2.out (by omega) (by decide))
    have hz4 := hf4.size
    clear hv hp4 hf4
    go_wp2_with fail
    have hq := HQ.out
    simp only [P.Res.bind, P.musT] at hq
    by_cases hc : P.isT T k' [41] = true
    · rw [if_pos hc, Option.some.injEq] at hq
      subst hq
      refine (sMust_yes HP4.out [41] hc).mono ?_
      rintro e w7 ⟨rfl, hp7, hf7⟩
      have HP7 := Lib.hid hp7
      have HF7 := Lib.hid hf7
      clear hp7 hf7 hc
      go_wp2_with fail
      have hz7 := HF7.out.size
      refine doorRet (j := 2) stab_Ex rfl hpb HP7.out (by omega) (HF7.out.keep HB4.out (by omega) (by decide)) ?_ ((HF2.out.trans HF4.out).trans HF7.out)
      exact stab_Ex _ _ _ _ _ _ _ HV.out HF7.out fun b hb => ⟨by have := hb.1; omega, by have := hb.1; have := hb.2; exact ⟨by omega, by omega⟩⟩
    · rw [if_neg hc, Option.some.injEq] at hq
      subst hq
      refine (sMust_no HP4.out [41] (by simpa using hc) (by decide)).mono ?_
      rintro e w7 ⟨⟨b, rfl, hb3, hl3⟩, hf3, hs3⟩
      exact doorPanic hpb hs3 (hf3.keep HB4.out (by omega) (by decide)) ⟨b, rfl, hb3, by omega⟩ ((HF2.out.trans HF4.out).trans hf3)
end Go.Proofs.YtkmpelgfhjgddaaGreatDoor
namespace Go.Proofs.YtkmpelgfhjgddaaGreatDoor
open Go.RowKit
set_option linter.unusedVariables false
abbrev box3 (w : World) (x : Nat) (a b c : Value) : World := ((w.setCell ⟨x, 0, none⟩ a).setCell ⟨x, 1, none⟩ b).setCell ⟨x, 2, none⟩ c
theorem box3_size (w : World) (x : Nat) (a b c : Value) : (box3 w x a b c).heap.size = w.heap.size := by rw [size_setCell, size_setCell, size_setCell]
theorem box3_other {w : World} {x y : Nat} (h : y ≠ x) (a b c : Value) : (box3 w x a b c).heap[y]? = w.heap[y]? := by
  rw [blk_setCell_other (show y ≠ x from h), blk_setCell_other (show y ≠ x from h), blk_setCell_other (show y ≠ x from h)]
theorem SP.box3 {w : World} {pb tb x : Nat} {T : List P.Tok} {k : Nat} {vars : List P.Bs} {d : Nat} {cs : Array Value} {t : TypeId} {z : Nat × Nat} (h : SP w pb tb T k vars d)
    (hx : w.heap[x]? = some (.cells cs t z)) (ht : t ≠ 9) (hp : x ≠ pb) (htb : tb < x) (a b c : Value) : SP (box3 w x a b c) pb tb T k vars d :=
  ((h.setOther hx ht hp htb a).setOther (blk_setCell_same hx a) ht hp htb b).setOther (blk_setCell_same (blk_setCell_same hx a) b) ht hp htb c
theorem FrM.box3 {M : Nat → Obj → Prop} {a b : World} (h : FrM M a b) {x : Nat} (hx : a.heap.size ≤ x) (u v s : Value) : FrM M a (box3 b x u v s) :=
  ((h.setNew (p := ⟨x, 0, none⟩) hx u).setNew (p := ⟨x, 1, none⟩) hx v).setNew (p := ⟨x, 2, none⟩) hx s
set_option maxRecDepth 100000 in
set_option maxHeartbeats 1000000 in
theorem sPrim_minus_no {pb tb : Nat} {T : List P.Tok} {k : Nat} {vars : List P.Bs} {d : Nat} {w : World} (hp : SP w pb tb T k vars d) (hd : d + 1 ≤ 8)
    (hk : (P.tk T k).kind = 0 ∨ (P.tk T k).kind = 4) (hm : P.isT T k [45] = true) (hn : (P.tk T (k + 1)).kind ≠ 3) :
    Calls Tryz.prog 101 #[.pointer (some ⟨pb, 0, none⟩)] w (SPost IsEx pb tb T d w (.err 2 (P.tk T (k + 1)).pos)) := by
  have HM := Lib.hid hm
  have HN := Lib.hid hn
  clear hm hn
  have H := Lib.hid hp
  go_enter_defers Tryz.func101, Tryz.ntmps101
  go_wp2_with fail
  refine (sDeeper_yes H.out hd).mono ?_
  rintro e w1 ⟨rfl, hs1, hx1, hp1, hf1⟩
  have HX1 := Lib.hid hx1
  have HF1 := Lib.hid hf1
  have HP1 := Lib.hid hp1
  have HS1 := Lib.hid hs1
  obtain ⟨n, c, h0, l1, l2, -, l3, l4⟩ := hp1.l0
  obtain ⟨t0, t1, t2⟩ := hp1.toks.at hp1.kt
  obtain ⟨kd, hkd⟩ : ∃ kd : Int, kd = ((P.tk T k).kind : Int) := ⟨_, rfl⟩
  rw [← hkd] at t0
  have k1 : (kd == 1) = false := by simp; omega
  have k2 : (kd == 2) = false := by simp; omega
  have k3 : (kd == 3) = false := by simp; omega
  have hpw : pb < w1.heap.size := hp1.d2.2.2
  have htb : tb < w1.heap.size := Nat.lt_trans hp1.lt hpw
  have hpb : pb < w.heap.size := hp.d2.2.2
  have htp := hp.lt
  clear hp1 hf1 hx1 hs1 hk hkd hp
  go_wp2_with fail
  have hpa : ∀ o, SP (w1.alloc o) pb tb T k vars (d + 1) := fun o => HP1.out.ext fun b x h => blk_alloc_old h
  have hbxa : ∀ o, (w1.alloc o).heap[w.heap.size]? = _ := fun o => blk_alloc_old (o := o) HX1.out
  have hfra := fun o => HF1.out.alloc o
  have hsza : ∀ o, (w1.alloc o).heap.size = w.heap.size + 2 := fun o => by rw [size_alloc, HS1.out]
  have HPA := Lib.hid hpa
  have HBA := Lib.hid hbxa
  have HFA := Lib.hid hfra
  have HZA := Lib.hid hsza
  clear hpa hbxa hfra hsza
  have hxb : ∀ o, (w1.alloc o).heap[w1.heap.size]? = some o := fun o => blk_alloc_new w1 o
  refine (sIs_yes (HPA.out _) [45] HM.out).mono ?_
  rintro e w2 ⟨rfl, hp2, hf2⟩
  have hs1 := HS1.out
  have hz2 := hf2.size
  rw [HZA.out] at hz2
  have hb2 := hf2.keep (hxb _) (by omega) (by decide)
  have y0 := freeOf hb2 0
  have y1 := freeOf hb2 1
  have y2 := freeOf hb2 2
  have c0 : w2.cell? ⟨w1.heap.size, 0, none⟩ = some (.int .i64 kd) := cellOf hb2 rfl
  have c1 : w2.cell? ⟨w1.heap.size, 1, none⟩ = some (.string (bs (P.tk T k).text)) := cellOf hb2 rfl
  have c2 : w2.cell? ⟨w1.heap.size, 2, none⟩ = some (.int .i64 (P.tk T k).pos) := cellOf hb2 rfl
  have HP2 := Lib.hid hp2
  have HX2 := Lib.hid hb2
  have HB2 := Lib.hid (hf2.keep (HBA.out _) (by omega) (by decide))
  have HF2 := Lib.hid ((HFA.out _).trans hf2)
  have hpw2 : pb < w2.heap.size := by omega
  have htw2 : tb < w2.heap.size := by omega
  have hww2 : w1.heap.size < w2.heap.size := by omega
  have q1 : ¬ w1.heap.size = pb := by omega
  have q2 : ¬ w1.heap.size = tb := by omega
  have q3 : ¬ pb = w1.heap.size := by omega
  have q4 : ¬ tb = w1.heap.size := by omega
  obtain ⟨n2, cc2, g0, g1, g2, -, g3, g4⟩ := hp2.l0
  obtain ⟨u0, u1, u2⟩ := hp2.toks.at hp2.kt
  obtain ⟨kd2, hkd2⟩ : ∃ kd : Int, kd = ((P.tk T (k + 1)).kind : Int) := ⟨_, rfl⟩
  rw [← hkd2] at u0
  have k32 : (kd2 != 3) = true := by simp; have := HN.out; omega
  clear hp2 hf2 hb2 hs1 hxb hkd2 h0 t0 t1 t2
  go_wp2_with fail
  refine (sNone (HP2.out.box3 HX2.out (by decide) q1 (by omega) _ _ _)).mono ?_
  rintro e w3 ⟨⟨b, rfl, hb3, hl3⟩, hf3, hs3⟩
  rw [box3_size] at hl3
  have hs1 := HS1.out
  exact doorPanic hpb hs3 (hf3.keep ((box3_other (by omega) _ _ _).trans HB2.out) (by omega) (by decide)) ⟨b, rfl, hb3, by omega⟩ ((HF2.out.box3 (by omega) _ _ _).trans hf3)
set_option maxRecDepth 100000 in
set_option maxHeartbeats 1000000 in
theorem sPrim_minus (hint : CInt) {pb tb : Nat} {T : List P.Tok} {k : Nat} {vars : List P.Bs} {d : Nat} {w : World} (hp : SP w pb tb T k vars d) (hd : d + 1 ≤ 8)
    (hk : (P.tk T k).kind = 0 ∨ (P.tk T k).kind = 4) (hm : P.isT T k [45] = true) (hn : (P.tk T (k + 1)).kind = 3) :
    Calls Tryz.prog 101 #[.pointer (some ⟨pb, 0, none⟩)] w (SPost IsEx pb tb T d w (.ok (.mk 110 [] (- P.num (P.tk T (k + 1)).text) 0 []) (k + 2) vars)) := by
  have HM := Lib.hid hm
  have HN := Lib.hid hn
  clear hm hn
  have H := Lib.hid hp
  go_enter_defers Tryz.func101, Tryz.ntmps101
  go_wp2_with fail
  refine (sDeeper_yes H.out hd).mono ?_
  rintro e w1 ⟨rfl, hs1, hx1, hp1, hf1⟩
  have HX1 := Lib.hid hx1
  have HF1 := Lib.hid hf1
  have HP1 := Lib.hid hp1
  have HS1 := Lib.hid hs1
  obtain ⟨n, c, h0, l1, l2, -, l3, l4⟩ := hp1.l0
  obtain ⟨t0, t1, t2⟩ := hp1.toks.at hp1.kt
  obtain ⟨kd, hkd⟩ : ∃ kd : Int, kd = ((P.tk T k).kind : Int) := ⟨_, rfl⟩
  rw [← hkd] at t0
  have k1 : (kd == 1) = false := by simp; omega
  have k2 : (kd == 2) = false := by simp; omega
  have k3 : (kd == 3) = false := by simp; omega
  have hpw : pb < w1.heap.size := hp1.d2.2.2
  have htb : tb < w1.heap.size := Nat.lt_trans hp1.lt hpw
  have hpb : pb < w.heap.size := hp.d2.2.2
  have htp := hp.lt
  clear hp1 hf1 hx1 hs1 hk hkd hp
  go_wp2_with fail
  have hpa : ∀ o, SP (w1.alloc o) pb tb T k vars (d + 1) := fun o => HP1.out.ext fun b x h => blk_alloc_old h
  have hbxa : ∀ o, (w1.alloc o).heap[w.heap.size]? = _ := fun o => blk_alloc_old (o := o) HX1.out
  have hfra := fun o => HF1.out.alloc o
  have hsza : ∀ o, (w1.alloc o).heap.size = w.heap.size + 2 := fun o => by rw [size_alloc, HS1.out]
  have HPA := Lib.hid hpa
  have HBA := Lib.hid hbxa
  have HFA := Lib.hid hfra
  have HZA := Lib.hid hsza
  clear hpa hbxa hfra hsza
  have hxb : ∀ o, (w1.alloc o).heap[w1.heap.size]? = some o := fun o => blk_alloc_new w1 o
  refine (sIs_yes (HPA.out _) [45] HM.out).mono ?_
  rintro e w2 ⟨rfl, hp2, hf2⟩
  have hs1 := HS1.out
  have hz2 := hf2.size
  rw [HZA.out] at hz2
  have hb2 := hf2.keep (hxb _) (by omega) (by decide)
  have y0 := freeOf hb2 0
  have y1 := freeOf hb2 1
  have y2 := freeOf hb2 2
  have c0 : w2.cell? ⟨w1.heap.size, 0, none⟩ = some (.int .i64 kd) := cellOf hb2 rfl
  have c1 : w2.cell? ⟨w1.heap.size, 1, none⟩ = some (.string (bs (P.tk T k).text)) := cellOf hb2 rfl
  have c2 : w2.cell? ⟨w1.heap.size, 2, none⟩ = some (.int .i64 (P.tk T k).pos) := cellOf hb2 rfl
  have HP2 := Lib.hid hp2
  have HX2 := Lib.hid hb2
  have HB2 := Lib.hid (hf2.keep (HBA.out _) (by omega) (by decide))
  have HF2 := Lib.hid ((HFA.out _).trans hf2)
  have hpw2 : pb < w2.heap.size := by omega
  have htw2 : tb < w2.heap.size := by omega
  have hww2 : w1.heap.size < w2.heap.size := by omega
  have q1 : ¬ w1.heap.size = pb := by omega
  have q2 : ¬ w1.heap.size = tb := by omega
  have q3 : ¬ pb = w1.heap.size := by omega
  have q4 : ¬ tb = w1.heap.size := by omega
  have hp3 := hp2.box3 hb2 (by decide) q1 (by omega) (.int .i64 3) (.string (bs (P.tk T (k + 1)).text)) (.int .i64 (P.tk T (k + 1)).pos)
  obtain ⟨n2, cc2, g0, f0, g5, g1, g2, g3, g4, hp4, hf4⟩ := hp3.on (by rw [HN.out]; decide)
  have e0 : w2.cell? ⟨pb, 0, none⟩ = some (.slice (some ⟨tb, (k + 1) * 3, none⟩) n2 cc2) := by
    rw [← g0]; exact (World.cell?_of_block (a := ⟨pb, 0, none⟩) (box3_other q3 _ _ _)).symm
  have e1 : w2.frozen? ⟨pb, 0, none⟩ = false := by
    obtain ⟨_, _, _, _, q, _⟩ := hp2.blk
    exact freeOf q 0
  obtain ⟨u0, u1, u2⟩ := hp2.toks.at hp2.kt
  have hdg := hp2.tw.digits _ (tk_mem hp2.kt) HN.out
  rw [HN.out] at u0
  have e2 : (k + 1) * 3 = k * 3 + 3 := by omega
  rw [e2] at e0 u0 u1 u2
  have hp5 : SP ((box3 w2 w1.heap.size (.int .i64 3) (.string (bs (P.tk T (k + 1)).text)) (.int .i64 (P.tk T (k + 1)).pos)).setCell ⟨pb, 0, none⟩ (.slice (some ⟨tb, k * 3 + 3 + 3, none⟩) (n2 - 1) (cc2 - 1)))
      pb tb T (k + 1 + 1) vars (d + 1) := by rw [← e2]; exact hp4
  have HP4 := Lib.hid hp5
  have HDG := Lib.hid hdg
  have HE2 := Lib.hid e2
  have nb := P.num_bound hdg.2.1 hdg.2.2
  obtain ⟨nb1, nb2⟩ := nb
  clear hp2 hf2 hb2 hs1 hxb h0 t0 t1 t2 hp3 hp4 hf4 hdg g0 f0 g5 e2 hp5
  go_wp2_with fail
  refine (hint.go _ HDG.out.1 HDG.out.2.1 HDG.out.2.2).mono ?_
  rintro e w3 ⟨rfl, he3⟩
  have HE3 := Lib.hid he3
  clear he3
  go_wp2_with fail
  have hs1 := HS1.out
  have hz := HE3.out.size
  rw [size_setCell, box3_size] at hz
  refine doorRet (j := 2) stab_Ex rfl hpb ((HP4.out.ext HE3.out.ext).ext fun b o h => blk_alloc_old h) (by omega)
    (blk_alloc_old (HE3.out.ext _ _ ((blk_setCell_other (show w.heap.size ≠ pb by omega) _).trans ((box3_other (by omega) _ _ _).trans HB2.out)))) ?_
    ((((HF2.out.box3 (by omega) _ _ _).trans (SFr.setp (FrM.refl _ _) _)).trans HE3.out.toM).alloc _)
  exact isEx_leaf ⟨by omega, by rw [size_alloc]; omega⟩ (blk_alloc_new _ _)
end Go.Proofs.YtkmpelgfhjgddaaGreatDoor
namespace Go.Proofs.YtkmpelgfhjgddaaGreatDoor
open Go.RowKit
theorem cPrim0 : CPrim 0 := ⟨fun _ _ h => by simp [P.pPrim] at h⟩
theorem cPrim {f : Nat} (hargs : CArgs f) (hexpr : CExpr f) (hlist : CList f) (hvar : CVar) (hint : CInt) : CPrim (f + 1) := by
  refine ⟨fun {pb tb T k vars d w r} hp hd h => ?_⟩
  rw [P.pPrim] at h
  by_cases hdd : P.maxDepth < d + 1
  · rw [if_pos hdd, Option.some.injEq] at h
    subst h
    exact sPrim_deep hp hdd hd
  rw [if_neg hdd] at h
  have hd' : d + 1 ≤ 8 := by unfold P.maxDepth at hdd; omega
  by_cases h3 : (P.tk T k).kind = 3
  · rw [if_pos h3, Option.some.injEq] at h
    subst h
    exact sPrim_num hint hp hd' h3
  rw [if_neg h3] at h
  by_cases h2 : (P.tk T k).kind = 2
  · rw [if_pos h2, Option.some.injEq] at h
    subst h
    exact sPrim_var hvar hp hd' h2
  rw [if_neg h2] at h
  by_cases h1 : (P.tk T k).kind = 1
  · rw [if_pos h1] at h
    by_cases ho : P.isT T (k + 1) [40] = true
    · rw [if_pos ho] at h
      cases hr : P.pArgs T f (k + 2) vars (d + 1) (P.tk T k).pos [] with
      | none => rw [hr] at h; simp [P.Res.bind] at h
      | some q => rw [hr] at h; exact sPrim_comp hargs hp hd' h1 ho hr h
    · rw [if_neg ho, Option.some.injEq] at h
      subst h
      exact sPrim_atom hp hd' h1 (by simpa using ho)
  rw [if_neg h1] at h
  have hk : (P.tk T k).kind = 0 ∨ (P.tk T k).kind = 4 := by have := hp.tw.kind _ (tk_mem hp.kt); omega
  by_cases hm : P.isT T k [45] = true
  · rw [if_pos hm] at h
    by_cases hn : (P.tk T (k + 1)).kind = 3
    · rw [if_pos hn, Option.some.injEq] at h
      subst h
      exact sPrim_minus hint hp hd' hk hm hn
    · rw [if_neg hn, Option.some.injEq] at h
      subst h
      exact sPrim_minus_no hp hd' hk hm hn
  rw [if_neg hm] at h
  have hm' : P.isT T k [45] = false := by simpa using hm
  by_cases hn : P.isT T k [40] = true
  · rw [if_pos hn] at h
    cases hr : P.pOper T f 0 (k + 1) vars (d + 1) with
    | none => rw [hr] at h; simp [P.Res.bind] at h
    | some q => rw [hr] at h; exact sPrim_paren hexpr hp hd' hk hm' hn hr h
  rw [if_neg hn] at h
  have hn' : P.isT T k [40] = false := by simpa using hn
  by_cases hl : P.isT T k [91] = true
  · rw [if_pos hl] at h
    exact sPrim_list hlist hp hd' hk hm' hn' hl h
  rw [if_neg hl, Option.some.injEq] at h
  subst h
  exact sPrim_none hp hd' hk hm' hn' (by simpa using hl)
end Go.Proofs.YtkmpelgfhjgddaaGreatDoor
