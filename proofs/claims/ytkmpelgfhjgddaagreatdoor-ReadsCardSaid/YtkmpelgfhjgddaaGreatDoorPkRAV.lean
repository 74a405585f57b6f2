/- A part of one proof (RD1, RD2, RD3, RD4); no conditions beyond what each theorem names. -/
import Derived.Test.YtkmpelgfhjgddaaGreatDoorPkRAU
set_option linter.all false
set_option linter.unusedVariables false
set_option linter.unusedSimpArgs false
namespace Go.Proofs.YtkmpelgfhjgddaaGreatDoor
open Go.RowKit Sx
set_option maxRecDepth 100000
def OwnOf (w : World) (hb b : Nat) : Prop := b = hb ∨ ∃ cs T, w.heap[hb]? = some (.cells cs T (0, 0)) ∧ ∃ v ∈ cs.toList, v.ownBlock = some b
structure HFr (hb : Nat) (w w' : World) : Prop where
  fr : FrM (fun b _ => OwnOf w hb b) w w'
  own : ∀ b, OwnOf w' hb b → OwnOf w hb b ∨ w.heap.size ≤ b
theorem HFr.refl (hb : Nat) (w : World) : HFr hb w w := ⟨FrM.refl _ _, fun _ h => .inl h⟩
theorem HFr.trans {hb : Nat} {a b c : World} (h : HFr hb a b) (k : HFr hb b c) : HFr hb a c :=
  ⟨⟨k.fr.os.trans h.fr.os, k.fr.tape.trans h.fr.tape, k.fr.output.trans h.fr.output, Nat.le_trans h.fr.size k.fr.size, fun i o hi hm => by
    refine k.fr.block i o (h.fr.block i o hi hm) fun hx => ?_
    rcases h.own i hx with h1 | h1
    · exact hm h1
    · have := ltOf hi; omega⟩, fun i hi => by
    rcases k.own i hi with h1 | h1
    · exact h.own i h1
    · exact .inr (Nat.le_trans h.fr.size h1)⟩
theorem HFr.ofExt {hb : Nat} {a b : World} (h : Ext a b) (hl : hb < a.heap.size) : HFr hb a b :=
  ⟨h.toM, fun i hi => by
    rcases hi with rfl | ⟨cs, T, h1, h2⟩
    · exact .inl (.inl rfl)
    · cases ho : a.heap[hb]? with
      | none => rw [Array.getElem?_eq_getElem hl] at ho; cases ho
      | some o =>
        rw [h.ext _ _ ho] at h1
        injection h1 with h1
        subst h1
        exact .inl (.inr ⟨cs, T, ho, h2⟩)⟩
abbrev Row := Nat × Value × List Value
def Row.Dis (a b : Row) : Prop := a.2.1.ownBlock = none ∨ a.2.1.ownBlock ≠ b.2.1.ownBlock
structure QR (w : World) (hb T : Nat) (rows : List Row) (tail : List Value) : Prop where
  cell : w.heap[hb]? = some (.cells (rows.map (·.2.1) ++ tail).toArray T (0, 0))
  own : ∀ r ∈ rows, w.ownsRow (hb + 1) r.1 1 r.2.1 r.2.2.length r.2.2
  dis : ∀ (i j : Nat) (a b : Row), i ≠ j → rows[i]? = some a → rows[j]? = some b → Row.Dis a b
  tl : ∀ v ∈ tail, v.ownBlock = none
theorem own_kept {w w2 : World} {base e n : Nat} {u : Value} {ys : List Value} {r : Option Nat} (hu : w.ownsRow base e 1 u n ys) (hg : w.grownBy w2 r) (hne : u.ownBlock = none ∨ u.ownBlock ≠ r) : w2.ownsRow base e 1 u n ys := by
  obtain ⟨h0, hu⟩ := hu
  refine ⟨h0, ?_⟩
  rcases hu with h | ⟨g, cap, cur, rfl, h1, h2, h3⟩
  · exact .inl h
  · refine .inr ⟨g, cap, cur, rfl, h1, ?_, h3⟩
    rw [hg.block g (ltOf h2) (fun e => ?_)]
    · exact h2
    · rcases hne with h | h
      · cases h
      · exact h e
theorem QR.step {w w2 w3 : World} {hb T : Nat} {rows : List Row} {tail : List Value} (h : QR w hb T rows tail) {i e : Nat} {v : Value} {xs : List Value} (hi : rows[i]? = some (e, v, xs)) {x v' : Value}
    (ho : w2.ownsRow (hb + 1) e 1 v' (xs.length + 1) (xs ++ [x])) (hg : w.grownBy w2 v.ownBlock) (hv : v'.ownBlock = v.ownBlock ∨ ∀ k, v'.ownBlock = some k → w.heap.size ≤ k)
    {l3 : List Value} (hl3 : (rows.set i (e, v', xs ++ [x])).map (·.2.1) ++ tail = l3) (h3 : w3 = upd w2 hb (.cells l3.toArray T (0, 0))) :
    (QR w3 hb T (rows.set i (e, v', xs ++ [x])) tail ∧ HFr hb w w3) ∧ w2.heap[hb]? = some (.cells (rows.map (·.2.1) ++ tail).toArray T (0, 0)) := by
  have hil : i < rows.length := (List.getElem?_eq_some_iff.1 hi).1
  have hmem : (e, v, xs) ∈ rows := List.mem_of_getElem? hi
  have lb := ltOf h.cell
  have hvb : v.ownBlock ≠ some hb := fun e' => by have := ((h.own _ hmem).lt hb e').1; omega
  have hb2 : w2.heap[hb]? = some (.cells (rows.map (·.2.1) ++ tail).toArray T (0, 0)) := by
    rw [hg.block hb lb (fun e' => hvb e'.symm)]; exact h.cell
  have lb2 := ltOf hb2
  have hn : ∀ (j : Nat) (b : Row), i ≠ j → rows[j]? = some b → b.2.1.ownBlock = none ∨ b.2.1.ownBlock ≠ v.ownBlock := fun j b hij hj => h.dis j i b _ (fun e => hij e.symm) hj hi
  have hvlt : ∀ k, v.ownBlock = some k → hb + 1 ≤ k ∧ k < w.heap.size := fun k hk => (h.own _ hmem).lt k hk
  subst hl3
  subst h3
  refine ⟨?_, hb2⟩
  refine ⟨⟨hp_upd_same rfl lb2, ?_, ?_, h.tl⟩, ⟨⟨hg.os, hg.tape, hg.output, by rw [size_upd]; exact hg.size, ?_⟩, ?_⟩⟩
  · intro r hr
    rw [List.mem_iff_getElem?] at hr
    obtain ⟨j, hj⟩ := hr
    by_cases hij : i = j
    · subst hij
      rw [List.getElem?_set_self hil] at hj
      injection hj with hj
      subst hj
      exact own_upd (by simpa using ho) (by omega)
    · rw [List.getElem?_set_ne hij] at hj
      exact own_upd (own_kept (h.own _ (List.mem_of_getElem? hj)) hg (hn j r hij hj)) (by omega)
  · intro j k a b hjk ha hb'
    have key : ∀ (j : Nat) (b : Row), i ≠ j → rows[j]? = some b → Row.Dis (e, v', xs ++ [x]) b ∧ Row.Dis b (e, v', xs ++ [x]) := by
      intro j b hij hj
      have h1 := hn j b hij hj
      have h2 := fun k hk => ((h.own _ (List.mem_of_getElem? hj)).lt k hk).2
      unfold Row.Dis
      rcases hv with hv | hv
      · simp only [hv]
        refine ⟨?_, h1⟩
        have := h.dis i j _ b hij hi hj
        exact this
      · cases hb1 : b.2.1.ownBlock with
        | none => refine ⟨?_, .inl rfl⟩; cases hv' : v'.ownBlock <;> simp
        | some q =>
          have hq := h2 q hb1
          cases hv' : v'.ownBlock with
          | none => simp
          | some q' =>
            have := hv q' hv'
            have hne : q' ≠ q := by omega
            simp [hne, Ne.symm hne]
    by_cases hij : i = j
    · subst hij
      rw [List.getElem?_set_self hil] at ha
      injection ha with ha
      subst ha
      rw [List.getElem?_set_ne hjk] at hb'
      exact (key k b hjk hb').1
    · rw [List.getElem?_set_ne hij] at ha
      by_cases hik : i = k
      · subst hik
        rw [List.getElem?_set_self hil] at hb'
        injection hb' with hb'
        subst hb'
        exact (key j a hij ha).2
      · rw [List.getElem?_set_ne hik] at hb'
        exact h.dis j k a b hjk ha hb'
  · intro b o hbo hm
    have hbh : b ≠ hb := fun e' => hm (.inl e')
    rw [hp_upd_other hbh, hg.block b (ltOf hbo) (fun e' => ?_)]
    · exact hbo
    · refine hm (.inr ⟨_, _, h.cell, v, ?_, e'.symm⟩)
      simp only [List.mem_append, List.mem_map]
      exact .inl ⟨_, hmem, rfl⟩
  · rintro b (rfl | ⟨cs, T', h1, u, hu, hub⟩)
    · exact .inl (.inl rfl)
    · rw [hp_upd_same rfl lb2] at h1
      injection h1 with h1
      injection h1 with h1 _ _
      subst h1
      simp only [List.mem_append, List.mem_map] at hu
      rcases hu with ⟨r, hr, rfl⟩ | hu
      · rw [List.mem_iff_getElem?] at hr
        obtain ⟨j, hj⟩ := hr
        by_cases hij : i = j
        · subst hij
          rw [List.getElem?_set_self hil] at hj
          injection hj with hj
          subst hj
          rcases hv with hv | hv
          · refine .inl (.inr ⟨_, _, h.cell, v, ?_, ?_⟩)
            · simp only [List.mem_append, List.mem_map]
              exact .inl ⟨_, hmem, rfl⟩
            · rw [← hv]; exact hub
          · exact .inr (hv b hub)
        · rw [List.getElem?_set_ne hij] at hj
          refine .inl (.inr ⟨_, _, h.cell, r.2.1, ?_, hub⟩)
          simp only [List.mem_append, List.mem_map]
          exact .inl ⟨_, List.mem_of_getElem? hj, rfl⟩
      · rw [h.tl u hu] at hub
        cases hub
end Go.Proofs.YtkmpelgfhjgddaaGreatDoor
namespace Go.Proofs.YtkmpelgfhjgddaaGreatDoor
open Go.RowKit Sx
set_option maxRecDepth 100000
def IsAr (F : Nat → Prop) (w : World) (rows : List Value) : List P.Nd → Prop
  | [] => rows = []
  | d :: ds => ∃ v r, rows = v :: r ∧ IsSl F w 3 v (d.args.map fun n => .int .i64 (n : Nat)) ∧ IsAr F w r ds
theorem IsAr.mono {F F' : Nat → Prop} {w w' : World} (hf : ∀ b, F b → F' b) (hw : ∀ b cs, F b → w.heap[b]? = some (.cells cs 3 (0, 0)) → w'.heap[b]? = some (.cells cs 3 (0, 0))) : ∀ {ds : List P.Nd} {rows : List Value}, IsAr F w rows ds → IsAr F' w' rows ds
  | [], rows, h => h
  | d :: ds, rows, h => by
    obtain ⟨v, r, h1, h2, h3⟩ := h
    exact ⟨v, r, h1, h2.mono hf hw, IsAr.mono hf hw h3⟩
theorem IsAr.snoc {F : Nat → Prop} {w : World} {v : Value} {d : P.Nd} (hv : IsSl F w 3 v (d.args.map fun n => .int .i64 (n : Nat))) : ∀ {ds : List P.Nd} {rows : List Value}, IsAr F w rows ds → IsAr F w (rows ++ [v]) (ds ++ [d])
  | [], rows, h => by
    have h : rows = [] := h
    subst h
    exact ⟨v, [], rfl, hv, rfl⟩
  | e :: ds, rows, h => by
    obtain ⟨u, r, rfl, h2, h3⟩ := h
    exact ⟨u, r ++ [v], rfl, h2, IsAr.snoc hv h3⟩
theorem IsAr.length {F : Nat → Prop} {w : World} : ∀ {ds : List P.Nd} {rows : List Value}, IsAr F w rows ds → rows.length = ds.length
  | [], rows, h => by have h : rows = [] := h; subst h; rfl
  | d :: ds, rows, h => by
    obtain ⟨v, r, rfl, h2, h3⟩ := h
    simp [IsAr.length h3]
theorem IsAr.at {F : Nat → Prop} {w : World} : ∀ {ds : List P.Nd} {rows : List Value} (j : Nat) (hj : j < ds.length), IsAr F w rows ds → ∃ v, rows[j]? = some v ∧ IsSl F w 3 v (ds[j].args.map fun n => .int .i64 (n : Nat))
  | d :: ds, rows, 0, _, h => by
    obtain ⟨v, r, rfl, h2, h3⟩ := h
    exact ⟨v, rfl, h2⟩
  | d :: ds, rows, j + 1, hj, h => by
    obtain ⟨v, r, rfl, h2, h3⟩ := h
    simpa using IsAr.at j (by simpa using hj) h3
abbrev kindsV (H : P.Hp) : List Value := H.nodes.map fun d => .int .u8 (d.kind : Nat)
abbrev nmsV (H : P.Hp) : List Value := H.nodes.map fun d => .string (bs d.name)
abbrev nsV (H : P.Hp) : List Value := H.nodes.map fun d => .int .i64 d.n
abbrev tosV (H : P.Hp) : List Value := H.to.map fun z => .int .i64 z
abbrev trsV (H : P.Hp) : List Value := H.trail.map fun n => .int .i64 (n : Nat)
abbrev rows6 (kv nv iv av tv rv : Value) (H : P.Hp) (ars : List Value) : List Row :=
  [(5, kv, kindsV H), (9, nv, nmsV H), (2, iv, nsV H), (73, av, ars), (3, tv, tosV H), (3, rv, trsV H)]
abbrev tail3 (H : P.Hp) : List Value := [.int .i64 (H.cost : Nat), .int .i64 (H.most : Nat), .int .i64 (H.err : Nat)]
structure RHx (A : Nat → Prop) (w : World) (hb : Nat) (H : P.Hp) (kv nv iv av tv rv : Value) (ars : List Value) : Prop where
  q : QR w hb 129 (rows6 kv nv iv av tv rv H ars) (tail3 H)
  ar : IsAr (fun b => ¬ OwnOf w hb b ∧ A b) w ars H.nodes
  len : H.to.length = H.nodes.length
def RHp (A : Nat → Prop) (w : World) (hb : Nat) (H : P.Hp) : Prop := ∃ kv nv iv av tv rv ars, RHx A w hb H kv nv iv av tv rv ars
theorem RHx.cell {A : Nat → Prop} {w : World} {hb : Nat} {H : P.Hp} {kv nv iv av tv rv : Value} {ars : List Value} (h : RHx A w hb H kv nv iv av tv rv ars) :
    w.heap[hb]? = some (.cells #[kv, nv, iv, av, tv, rv, .int .i64 (H.cost : Nat), .int .i64 (H.most : Nat), .int .i64 (H.err : Nat)] 129 (0, 0)) := h.q.cell
theorem QR.ext {w w' : World} {hb T : Nat} {rows : List Row} {tail : List Value} (h : QR w hb T rows tail) (hE : Ext w w') : QR w' hb T rows tail :=
  ⟨hE.ext _ _ h.cell, fun r hr => own_ext hE.ext (h.own r hr), h.dis, h.tl⟩
theorem slKeepH {A : Nat → Prop} {w w' : World} {hb et : Nat} (hf : HFr hb w w') {v : Value} {vs : List Value} (h : IsSl (fun b => ¬ OwnOf w hb b ∧ A b) w et v vs) : IsSl (fun b => ¬ OwnOf w' hb b ∧ A b) w' et v vs := by
  rcases h with h | ⟨b, cs, h1, h2, h3, h4⟩
  · exact .inl h
  · refine .inr ⟨b, cs, h1, ⟨fun ho => ?_, h2.2⟩, hf.fr.block b _ h3 h2.1, h4⟩
    rcases hf.own b ho with h | h
    · exact h2.1 h
    · have := ltOf h3; omega
theorem IsAr.keepH {A : Nat → Prop} {w w' : World} {hb : Nat} (hf : HFr hb w w') : ∀ {ds : List P.Nd} {rows : List Value}, IsAr (fun b => ¬ OwnOf w hb b ∧ A b) w rows ds → IsAr (fun b => ¬ OwnOf w' hb b ∧ A b) w' rows ds
  | [], rows, h => h
  | d :: ds, rows, h => by
    obtain ⟨v, r, h1, h2, h3⟩ := h
    exact ⟨v, r, h1, slKeepH hf h2, IsAr.keepH hf h3⟩
theorem RHx.ext {A : Nat → Prop} {w w' : World} {hb : Nat} {H : P.Hp} {kv nv iv av tv rv : Value} {ars : List Value} (h : RHx A w hb H kv nv iv av tv rv ars) (hE : Ext w w') : RHx A w' hb H kv nv iv av tv rv ars :=
  ⟨h.q.ext hE, h.ar.keepH (HFr.ofExt hE (ltOf h.cell)), h.len⟩
theorem RHp.ext {A : Nat → Prop} {w w' : World} {hb : Nat} {H : P.Hp} (h : RHp A w hb H) (hE : Ext w w') : RHp A w' hb H := by
  obtain ⟨kv, nv, iv, av, tv, rv, ars, h⟩ := h
  exact ⟨kv, nv, iv, av, tv, rv, ars, h.ext hE⟩
theorem Tryz.infoSt : (Tryz.prog.info? 9).map (fun i => (i.zero, i.size, i.bytes)) = some (some (.string .empty), 1, 16) := by kernel_rfl
theorem Tryz.infoI64 : (Tryz.prog.info? 2).map (fun i => (i.zero, i.size, i.bytes)) = some (some (.int .i64 0), 1, 8) := by kernel_rfl
theorem Tryz.infoInt : (Tryz.prog.info? 3).map (fun i => (i.zero, i.size, i.bytes)) = some (some (.int .i64 0), 1, 8) := by kernel_rfl
theorem Tryz.infoLi : (Tryz.prog.info? 73).map (fun i => (i.zero, i.size, i.bytes)) = some (some (.slice none 0 0), 1, 24) := by kernel_rfl
theorem wr_app1 {P : Program} {t ty e bytes : Nat} {z : Value} (ht : P.underlying t = some (.slice e)) (hi : (P.info? e).map (fun i => (i.zero, i.size, i.bytes)) = some (some z, 1, bytes)) (hz1 : z.cells.size = 1) (hby : bytes ≤ 1000)
    {w : World} {base n : Nat} {v : Value} {xs : List Value} (hown : w.ownsRow base e 1 v n xs) {b m : Nat} {a : Value} (hb : w.heap[b]? = some (.cells #[a] e (0, 0))) (h1 : a.oneCell' = true)
    (hn : n ≤ 900000000) (hbase : base ≤ w.heap.size) {K : Value → World → Prop} {X : Value → World → Prop}
    (h : ∀ v' w', w'.ownsRow base e 1 v' (n + 1) (xs ++ [a]) → w.grownBy w' v.ownBlock → (v'.ownBlock = v.ownBlock ∨ ∀ k, v'.ownBlock = some k → w.heap.size ≤ k) → K v' w') :
    WR P (Builtin.append_ #[t, t] ty #[v, .slice (some ⟨b, 0, none⟩) 1 m]) w K X := by
  obtain ⟨i, hi, h0⟩ := Option.map_eq_some_iff.1 hi
  simp only [Prod.mk.injEq] at h0
  obtain ⟨hz, hs, hbt⟩ := h0
  refine Sx.wr_appendB (m := 1) (t := t) (e := e) ht hi hz hs hbt hz1 (by decide) hown hb rfl (fun u hu => ?_) (by omega) hby hbase h
  simp only [List.mem_cons, List.not_mem_nil, or_false] at hu
  subst hu
  exact h1
theorem rSpent {A : Nat → Prop} {w : World} {hb : Nat} {H : P.Hp} (h : RHp A w hb H) : Calls Tryz.prog 43 #[.pointer (some ⟨hb, 0, none⟩)] w fun e w' => e = .returned (.bool H.spent) ∧ Ext w w' := by
  obtain ⟨kv, nv, iv, av, tv, rv, ars, h⟩ := h
  have hc := h.cell
  have lb := ltOf hc
  refine sh_Pr_Heap_Spent_ok ?_
  by_cases h1 : H.most < H.cost
  · simp (disch := first | assumption | omega | ((simp only [size_alloc, sz_drew, size_upd, List.size_toArray, List.length_cons, List.length_nil]) <;> omega) | decide) only [sh_Pr_Heap_Spent, Pr, PX, PC, NX, ends, fillL, wrL, sOf, Nat.reduceAdd, Nat.reduceMul, Nat.reduceLeDiff, Nat.reduceEqDiff, Int.reduceToNat, Int.reduceAdd, Int.reduceLT, Int.reduceLE, ↓reduceIte, forall_const, eq_self, zG1, zG2, fa_129_6, fa_129_7, fa_129_8, ld_29, ld_3, hc]
    exact ⟨by simp [P.Hp.spent, h1], (FrM.refl _ _).drew⟩
  · simp (disch := first | assumption | omega | ((simp only [size_alloc, sz_drew, size_upd, List.size_toArray, List.length_cons, List.length_nil]) <;> omega) | decide) only [sh_Pr_Heap_Spent, Pr, PX, PC, NX, ends, fillL, wrL, sOf, Nat.reduceAdd, Nat.reduceMul, Nat.reduceLeDiff, Nat.reduceEqDiff, Int.reduceToNat, Int.reduceAdd, Int.reduceLT, Int.reduceLE, ↓reduceIte, forall_const, eq_self, zG1, zG2, fa_129_6, fa_129_7, fa_129_8, ld_29, ld_3, hc]
    refine ⟨?_, (FrM.refl _ _).drew⟩
    simp only [P.Hp.spent, decide_eq_false h1, Bool.false_or]
    congr 2
    simp
end Go.Proofs.YtkmpelgfhjgddaaGreatDoor
namespace Go.Proofs.YtkmpelgfhjgddaaGreatDoor
open Go.RowKit Sx
set_option maxRecDepth 100000
set_option maxHeartbeats 2000000 in
theorem rAdd {A : Nat → Prop} {w : World} {hb : Nat} {H : P.Hp} (h : RHp A w hb H) (hl : H.nodes.length ≤ 100000000) (kind : Nat) (name : P.Bs) (n : Int) {l : List Nat} {v5 : Value} {G : Nat → Prop} (hG : ∀ b, G b → ¬ OwnOf w hb b ∧ A b) (h5 : IsSl G w 3 v5 (l.map fun n => .int .i64 (n : Nat))) :
    Calls Tryz.prog 42 #[.pointer (some ⟨hb, 0, none⟩), .int .u8 kind, .string (bs name), .int .i64 n, v5] w fun e w' =>
      e = .returned (.int .i64 (H.nodes.length : Nat)) ∧ RHp A w' hb (H.add ⟨kind, name, n, l⟩) ∧ HFr hb w w' := by
  obtain ⟨kv, nv, iv, av, tv, rv, ars, h⟩ := h
  have hlen := h.len
  have hal := h.ar.length
  obtain ⟨a5, c5, e5⟩ := h5.sl
  rw [List.length_map] at e5
  subst e5
  have qS : QR w hb 129 (rows6 kv nv iv av tv rv H ars) (tail3 H) := h.q
  have hc := h.cell
  have lS := ltOf hc
  have hf0 : HFr hb w w := HFr.refl _ _
  refine sh_Pr_Heap_add_ok ?_
  simp (disch := first | assumption | omega | ((simp only [size_alloc, sz_drew, size_upd, List.size_toArray, List.length_cons, List.length_nil]) <;> omega) | decide) only [sh_Pr_Heap_add, Pr, PX, PC, NX, ends, fillL, wrL, sOf, Nat.reduceAdd, Nat.reduceMul, Nat.reduceLeDiff, Nat.reduceEqDiff, Int.reduceToNat, Int.reduceAdd, Int.reduceLT, Int.reduceLE, ↓reduceIte, forall_const, eq_self, zG1, zG2, br_116_1, br_126_1, br_127_1, br_38_1, br_73_1, fa_129_0, fa_129_1, fa_129_2, fa_129_3, fa_129_4, ld_116, ld_126, ld_127, ld_38, ld_73, ln_116, st_116, st_126, st_127, st_38, st_73, hc]
  have qa0 := qS.ext ((FrM.refl _ _).alloc (.cells #[.int .u8 kind] 5 (0, 0)))
  refine wr_app1 (by kernel_rfl) Tryz.infoU8 rfl (by decide) (qa0.own _ (List.mem_of_getElem? (i := 0) rfl)) (hp_alloc_new rfl) rfl (by simp [kindsV]; omega) (by rw [size_alloc]; omega) ?_
  intro v0' wA0 own0 hg0 hv0
  have sg0 := hg0.size
  rw [size_alloc] at sg0
  obtain ⟨p0, d0, e0⟩ := own_slice own0
  subst e0
  obtain ⟨wS0, hwS0⟩ : ∃ y, y = upd wA0 hb (.cells #[.slice p0 ((kindsV H).length + 1) d0, nv, iv, av, tv, rv, .int .i64 (H.cost : Nat), .int .i64 (H.most : Nat), .int .i64 (H.err : Nat)] 129 (0, 0)) := ⟨_, rfl⟩
  obtain ⟨⟨q0, f0⟩, hcw0⟩ := qa0.step (i := 0) rfl own0 hg0 hv0 (by simp only [List.set_cons_zero, List.set_cons_succ, List.map_cons, List.map_nil, List.cons_append, List.nil_append]) hwS0
  simp only [List.set_cons_zero, List.set_cons_succ] at q0
  simp only [List.map_cons, List.map_nil, List.cons_append, List.nil_append] at hcw0
  have lw0 := ltOf hcw0
  simp (disch := first | assumption | omega | ((simp only [size_alloc, sz_drew, size_upd, List.size_toArray, List.length_cons, List.length_nil]) <;> omega) | decide) only [sh_Pr_Heap_add, Pr, PX, PC, NX, ends, fillL, wrL, sOf, Nat.reduceAdd, Nat.reduceMul, Nat.reduceLeDiff, Nat.reduceEqDiff, Int.reduceToNat, Int.reduceAdd, Int.reduceLT, Int.reduceLE, ↓reduceIte, forall_const, eq_self, zG1, zG2, br_116_1, br_126_1, br_127_1, br_38_1, br_73_1, fa_129_0, fa_129_1, fa_129_2, fa_129_3, fa_129_4, ld_116, ld_126, ld_127, ld_38, ld_73, ln_116, st_116, st_126, st_127, st_38, st_73, hcw0]
  rw [← hwS0]
  have hc0 := q0.cell
  simp only [List.map_cons, List.map_nil, List.cons_append, List.nil_append] at hc0
  have sS0 : wS0.heap.size = wA0.heap.size := by rw [hwS0, size_upd]
  have qa1 := q0.ext ((FrM.refl _ _).alloc (.cells #[.string (bs name)] 9 (0, 0)))
  refine wr_app1 (by kernel_rfl) Tryz.infoSt rfl (by decide) (qa1.own _ (List.mem_of_getElem? (i := 1) rfl)) (hp_alloc_new sS0.symm) rfl (by simp [nmsV]; omega) (by rw [size_alloc]; omega) ?_
  intro v1' wA1 own1 hg1 hv1
  have sg1 := hg1.size
  rw [size_alloc] at sg1
  obtain ⟨p1, d1, e1⟩ := own_slice own1
  subst e1
  obtain ⟨wS1, hwS1⟩ : ∃ y, y = upd wA1 hb (.cells #[.slice p0 ((kindsV H).length + 1) d0, .slice p1 ((nmsV H).length + 1) d1, iv, av, tv, rv, .int .i64 (H.cost : Nat), .int .i64 (H.most : Nat), .int .i64 (H.err : Nat)] 129 (0, 0)) := ⟨_, rfl⟩
  obtain ⟨⟨q1, f1⟩, hcw1⟩ := qa1.step (i := 1) rfl own1 hg1 hv1 (by simp only [List.set_cons_zero, List.set_cons_succ, List.map_cons, List.map_nil, List.cons_append, List.nil_append]) hwS1
  simp only [List.set_cons_zero, List.set_cons_succ] at q1
  simp only [List.map_cons, List.map_nil, List.cons_append, List.nil_append] at hcw1
  have lw1 := ltOf hcw1
  simp (disch := first | assumption | omega | ((simp only [size_alloc, sz_drew, size_upd, List.size_toArray, List.length_cons, List.length_nil]) <;> omega) | decide) only [sh_Pr_Heap_add, Pr, PX, PC, NX, ends, fillL, wrL, sOf, Nat.reduceAdd, Nat.reduceMul, Nat.reduceLeDiff, Nat.reduceEqDiff, Int.reduceToNat, Int.reduceAdd, Int.reduceLT, Int.reduceLE, ↓reduceIte, forall_const, eq_self, zG1, zG2, br_116_1, br_126_1, br_127_1, br_38_1, br_73_1, fa_129_0, fa_129_1, fa_129_2, fa_129_3, fa_129_4, ld_116, ld_126, ld_127, ld_38, ld_73, ln_116, st_116, st_126, st_127, st_38, st_73, hcw1]
  rw [← hwS1]
  have hc1 := q1.cell
  simp only [List.map_cons, List.map_nil, List.cons_append, List.nil_append] at hc1
  have sS1 : wS1.heap.size = wA1.heap.size := by rw [hwS1, size_upd]
  have qa2 := q1.ext ((FrM.refl _ _).alloc (.cells #[.int .i64 n] 2 (0, 0)))
  refine wr_app1 (by kernel_rfl) Tryz.infoI64 rfl (by decide) (qa2.own _ (List.mem_of_getElem? (i := 2) rfl)) (hp_alloc_new sS1.symm) rfl (by simp [nsV]; omega) (by rw [size_alloc]; omega) ?_
  intro v2' wA2 own2 hg2 hv2
  have sg2 := hg2.size
  rw [size_alloc] at sg2
  obtain ⟨p2, d2, e2⟩ := own_slice own2
  subst e2
  obtain ⟨wS2, hwS2⟩ : ∃ y, y = upd wA2 hb (.cells #[.slice p0 ((kindsV H).length + 1) d0, .slice p1 ((nmsV H).length + 1) d1, .slice p2 ((nsV H).length + 1) d2, av, tv, rv, .int .i64 (H.cost : Nat), .int .i64 (H.most : Nat), .int .i64 (H.err : Nat)] 129 (0, 0)) := ⟨_, rfl⟩
  obtain ⟨⟨q2, f2⟩, hcw2⟩ := qa2.step (i := 2) rfl own2 hg2 hv2 (by simp only [List.set_cons_zero, List.set_cons_succ, List.map_cons, List.map_nil, List.cons_append, List.nil_append]) hwS2
  simp only [List.set_cons_zero, List.set_cons_succ] at q2
  simp only [List.map_cons, List.map_nil, List.cons_append, List.nil_append] at hcw2
  have lw2 := ltOf hcw2
  simp (disch := first | assumption | omega | ((simp only [size_alloc, sz_drew, size_upd, List.size_toArray, List.length_cons, List.length_nil]) <;> omega) | decide) only [sh_Pr_Heap_add, Pr, PX, PC, NX, ends, fillL, wrL, sOf, Nat.reduceAdd, Nat.reduceMul, Nat.reduceLeDiff, Nat.reduceEqDiff, Int.reduceToNat, Int.reduceAdd, Int.reduceLT, Int.reduceLE, ↓reduceIte, forall_const, eq_self, zG1, zG2, br_116_1, br_126_1, br_127_1, br_38_1, br_73_1, fa_129_0, fa_129_1, fa_129_2, fa_129_3, fa_129_4, ld_116, ld_126, ld_127, ld_38, ld_73, ln_116, st_116, st_126, st_127, st_38, st_73, hcw2]
  rw [← hwS2]
  have hc2 := q2.cell
  simp only [List.map_cons, List.map_nil, List.cons_append, List.nil_append] at hc2
  have sS2 : wS2.heap.size = wA2.heap.size := by rw [hwS2, size_upd]
  have qa3 := q2.ext ((FrM.refl _ _).alloc (.cells #[.slice a5 l.length c5] 73 (0, 0)))
  refine wr_app1 (by kernel_rfl) Tryz.infoLi rfl (by decide) (qa3.own _ (List.mem_of_getElem? (i := 3) rfl)) (hp_alloc_new sS2.symm) rfl (by show ars.length ≤ _; omega) (by rw [size_alloc]; omega) ?_
  intro v3' wA3 own3 hg3 hv3
  have sg3 := hg3.size
  rw [size_alloc] at sg3
  obtain ⟨p3, d3, e3⟩ := own_slice own3
  subst e3
  obtain ⟨wS3, hwS3⟩ : ∃ y, y = upd wA3 hb (.cells #[.slice p0 ((kindsV H).length + 1) d0, .slice p1 ((nmsV H).length + 1) d1, .slice p2 ((nsV H).length + 1) d2, .slice p3 (ars.length + 1) d3, tv, rv, .int .i64 (H.cost : Nat), .int .i64 (H.most : Nat), .int .i64 (H.err : Nat)] 129 (0, 0)) := ⟨_, rfl⟩
  obtain ⟨⟨q3, f3⟩, hcw3⟩ := qa3.step (i := 3) rfl own3 hg3 hv3 (by simp only [List.set_cons_zero, List.set_cons_succ, List.map_cons, List.map_nil, List.cons_append, List.nil_append]) hwS3
  simp only [List.set_cons_zero, List.set_cons_succ] at q3
  simp only [List.map_cons, List.map_nil, List.cons_append, List.nil_append] at hcw3
  have lw3 := ltOf hcw3
  simp (disch := first | assumption | omega | ((simp only [size_alloc, sz_drew, size_upd, List.size_toArray, List.length_cons, List.length_nil]) <;> omega) | decide) only [sh_Pr_Heap_add, Pr, PX, PC, NX, ends, fillL, wrL, sOf, Nat.reduceAdd, Nat.reduceMul, Nat.reduceLeDiff, Nat.reduceEqDiff, Int.reduceToNat, Int.reduceAdd, Int.reduceLT, Int.reduceLE, ↓reduceIte, forall_const, eq_self, zG1, zG2, br_116_1, br_126_1, br_127_1, br_38_1, br_73_1, fa_129_0, fa_129_1, fa_129_2, fa_129_3, fa_129_4, ld_116, ld_126, ld_127, ld_38, ld_73, ln_116, st_116, st_126, st_127, st_38, st_73, hcw3]
  rw [← hwS3]
  have hc3 := q3.cell
  simp only [List.map_cons, List.map_nil, List.cons_append, List.nil_append] at hc3
  have sS3 : wS3.heap.size = wA3.heap.size := by rw [hwS3, size_upd]
  have qa4 := q3.ext ((FrM.refl _ _).alloc (.cells #[.int .i64 (-1)] 3 (0, 0)))
  refine wr_app1 (by kernel_rfl) Tryz.infoInt rfl (by decide) (qa4.own _ (List.mem_of_getElem? (i := 4) rfl)) (hp_alloc_new sS3.symm) rfl (by simp [tosV]; omega) (by rw [size_alloc]; omega) ?_
  intro v4' wA4 own4 hg4 hv4
  have sg4 := hg4.size
  rw [size_alloc] at sg4
  obtain ⟨p4, d4, e4⟩ := own_slice own4
  subst e4
  obtain ⟨wS4, hwS4⟩ : ∃ y, y = upd wA4 hb (.cells #[.slice p0 ((kindsV H).length + 1) d0, .slice p1 ((nmsV H).length + 1) d1, .slice p2 ((nsV H).length + 1) d2, .slice p3 (ars.length + 1) d3, .slice p4 ((tosV H).length + 1) d4, rv, .int .i64 (H.cost : Nat), .int .i64 (H.most : Nat), .int .i64 (H.err : Nat)] 129 (0, 0)) := ⟨_, rfl⟩
  obtain ⟨⟨q4, f4⟩, hcw4⟩ := qa4.step (i := 4) rfl own4 hg4 hv4 (by simp only [List.set_cons_zero, List.set_cons_succ, List.map_cons, List.map_nil, List.cons_append, List.nil_append]) hwS4
  simp only [List.set_cons_zero, List.set_cons_succ] at q4
  simp only [List.map_cons, List.map_nil, List.cons_append, List.nil_append] at hcw4
  have lw4 := ltOf hcw4
  simp (disch := first | assumption | omega | ((simp only [size_alloc, sz_drew, size_upd, List.size_toArray, List.length_cons, List.length_nil]) <;> omega) | decide) only [sh_Pr_Heap_add, Pr, PX, PC, NX, ends, fillL, wrL, sOf, Nat.reduceAdd, Nat.reduceMul, Nat.reduceLeDiff, Nat.reduceEqDiff, Int.reduceToNat, Int.reduceAdd, Int.reduceLT, Int.reduceLE, ↓reduceIte, forall_const, eq_self, zG1, zG2, br_116_1, br_126_1, br_127_1, br_38_1, br_73_1, fa_129_0, fa_129_1, fa_129_2, fa_129_3, fa_129_4, ld_116, ld_126, ld_127, ld_38, ld_73, ln_116, st_116, st_126, st_127, st_38, st_73, hcw4]
  rw [← hwS4]
  have hc4 := q4.cell
  simp only [List.map_cons, List.map_nil, List.cons_append, List.nil_append] at hc4
  have sS4 : wS4.heap.size = wA4.heap.size := by rw [hwS4, size_upd]
  have hfr : HFr hb w wS4 := by
    have g0 : HFr hb w wS0 := (HFr.ofExt ((FrM.refl _ _).alloc _) lS).trans f0
    have g1 : HFr hb wS0 wS1 := (HFr.ofExt ((FrM.refl _ _).alloc _) (ltOf hc0)).trans f1
    have g2 : HFr hb wS1 wS2 := (HFr.ofExt ((FrM.refl _ _).alloc _) (ltOf hc1)).trans f2
    have g3 : HFr hb wS2 wS3 := (HFr.ofExt ((FrM.refl _ _).alloc _) (ltOf hc2)).trans f3
    have g4 : HFr hb wS3 wS4 := (HFr.ofExt ((FrM.refl _ _).alloc _) (ltOf hc3)).trans f4
    exact (((g0.trans g1).trans g2).trans g3).trans g4
  have e0 : (kindsV H).length = H.nodes.length := by simp [kindsV]
  have hx : RHx A wS4 hb (H.add ⟨kind, name, n, l⟩) (.slice p0 ((kindsV H).length + 1) d0) (.slice p1 ((nmsV H).length + 1) d1) (.slice p2 ((nsV H).length + 1) d2) (.slice p3 (ars.length + 1) d3) (.slice p4 ((tosV H).length + 1) d4) rv (ars ++ [.slice a5 l.length c5]) := by
   refine ⟨?_, ?_, ?_⟩
   · have e1 : rows6 (.slice p0 ((kindsV H).length + 1) d0) (.slice p1 ((nmsV H).length + 1) d1) (.slice p2 ((nsV H).length + 1) d2) (.slice p3 (ars.length + 1) d3) (.slice p4 ((tosV H).length + 1) d4) rv (H.add ⟨kind, name, n, l⟩) (ars ++ [.slice a5 l.length c5]) =
       [(5, .slice p0 ((kindsV H).length + 1) d0, kindsV H ++ [.int .u8 kind]), (9, .slice p1 ((nmsV H).length + 1) d1, nmsV H ++ [.string (bs name)]), (2, .slice p2 ((nsV H).length + 1) d2, nsV H ++ [.int .i64 n]),
         (73, .slice p3 (ars.length + 1) d3, ars ++ [.slice a5 l.length c5]), (3, .slice p4 ((tosV H).length + 1) d4, tosV H ++ [.int .i64 (-1)]), (3, rv, trsV H)] := by
       simp [rows6, kindsV, nmsV, nsV, tosV, trsV, P.Hp.add]
     have q5 := q4
     rw [← e1] at q5
     exact q5
   · refine IsAr.snoc ?_ (h.ar.keepH hfr)
     exact slKeepH hfr (h5.mono hG fun _ _ _ h => h)
   · simp [P.Hp.add, hlen]
  refine ⟨?_, ⟨_, _, _, _, _, _, _, hx⟩, hfr⟩
  rw [e0, i64w (by omega) (by omega)]
  congr 2
  omega
end Go.Proofs.YtkmpelgfhjgddaaGreatDoor
namespace Go.Proofs.YtkmpelgfhjgddaaGreatDoor
open Go.RowKit Sx
set_option maxRecDepth 100000
theorem own_at {w : World} {base e n : Nat} {v : Value} {xs : List Value} (h : w.ownsRow base e 1 v n xs) {t : Nat} (ht : t < n) : ∃ g c u, v = .slice (some ⟨g, 0, none⟩) n c ∧ w.heap[g]? = some (.cells u e (0, 0)) ∧ u[t]? = xs[t]? := by
  rcases h.2 with ⟨-, h0⟩ | ⟨g, cap, cur, rfl, h1, h2, h3, h4, h5, h6⟩
  · omega
  · refine ⟨g, cap, cur, rfl, h2, ?_⟩
    rw [← h6, Nat.mul_one, List.getElem?_take_of_lt ht, Array.getElem?_toList]
section
variable {A : Nat → Prop} {w : World} {hb : Nat} {H : P.Hp} {kv nv iv av tv rv : Value} {ars : List Value}
theorem nd_get {t : Nat} (ht : t < H.nodes.length) : H.nodes[t]? = some (H.nd t) := by simp [P.Hp.nd, List.getD_eq_getElem?_getD, ht]
theorem RHx.kd (h : RHx A w hb H kv nv iv av tv rv ars) {t : Nat} (ht : t < H.nodes.length) : ∃ g c u, kv = .slice (some ⟨g, 0, none⟩) H.nodes.length c ∧ w.heap[g]? = some (.cells u 5 (0, 0)) ∧ u[t]? = some (.int .u8 ((H.nd t).kind : Nat)) := by
  have ho := h.q.own _ (List.mem_of_getElem? (i := 0) rfl)
  have hl : (kindsV H).length = H.nodes.length := by simp
  obtain ⟨g, c, u, h1, h2, h3⟩ := own_at ho (t := t) (by rw [hl]; exact ht)
  rw [hl] at h1
  refine ⟨g, c, u, h1, h2, ?_⟩
  rw [h3, List.getElem?_map, nd_get ht]; rfl
theorem RHx.nm (h : RHx A w hb H kv nv iv av tv rv ars) {t : Nat} (ht : t < H.nodes.length) : ∃ g c u, nv = .slice (some ⟨g, 0, none⟩) H.nodes.length c ∧ w.heap[g]? = some (.cells u 9 (0, 0)) ∧ u[t]? = some (.string (bs (H.nd t).name)) := by
  have ho := h.q.own _ (List.mem_of_getElem? (i := 1) rfl)
  have hl : (nmsV H).length = H.nodes.length := by simp
  obtain ⟨g, c, u, h1, h2, h3⟩ := own_at ho (t := t) (by rw [hl]; exact ht)
  rw [hl] at h1
  refine ⟨g, c, u, h1, h2, ?_⟩
  rw [h3, List.getElem?_map, nd_get ht]; rfl
theorem RHx.nn (h : RHx A w hb H kv nv iv av tv rv ars) {t : Nat} (ht : t < H.nodes.length) : ∃ g c u, iv = .slice (some ⟨g, 0, none⟩) H.nodes.length c ∧ w.heap[g]? = some (.cells u 2 (0, 0)) ∧ u[t]? = some (.int .i64 (H.nd t).n) := by
  have ho := h.q.own _ (List.mem_of_getElem? (i := 2) rfl)
  have hl : (nsV H).length = H.nodes.length := by simp
  obtain ⟨g, c, u, h1, h2, h3⟩ := own_at ho (t := t) (by rw [hl]; exact ht)
  rw [hl] at h1
  refine ⟨g, c, u, h1, h2, ?_⟩
  rw [h3, List.getElem?_map, nd_get ht]; rfl
theorem RHx.an (h : RHx A w hb H kv nv iv av tv rv ars) {t : Nat} (ht : t < H.nodes.length) : ∃ g c u v, av = .slice (some ⟨g, 0, none⟩) H.nodes.length c ∧ w.heap[g]? = some (.cells u 73 (0, 0)) ∧ u[t]? = some v ∧
    IsSl (fun b => ¬ OwnOf w hb b ∧ A b) w 3 v ((H.nd t).args.map fun n => .int .i64 (n : Nat)) := by
  have ho := h.q.own _ (List.mem_of_getElem? (i := 3) rfl)
  have hl : ars.length = H.nodes.length := h.ar.length
  obtain ⟨g, c, u, h1, h2, h3⟩ := own_at ho (t := t) (by show t < ars.length; rw [hl]; exact ht)
  obtain ⟨v, k1, k2⟩ := IsAr.at t ht h.ar
  have e : H.nodes[t] = H.nd t := by
    have := nd_get ht
    rw [List.getElem?_eq_getElem ht] at this
    exact Option.some.inj this
  rw [e] at k2
  refine ⟨g, c, u, v, ?_, h2, ?_, k2⟩
  · have h1' : av = .slice (some ⟨g, 0, none⟩) ars.length c := h1
    rw [h1', hl]
  · rw [h3]; exact k1
theorem RHx.tn (h : RHx A w hb H kv nv iv av tv rv ars) {t : Nat} (ht : t < H.nodes.length) : ∃ g c u, tv = .slice (some ⟨g, 0, none⟩) H.nodes.length c ∧ w.heap[g]? = some (.cells u 3 (0, 0)) ∧ u[t]? = some (.int .i64 (H.toOf t)) := by
  have ho := h.q.own _ (List.mem_of_getElem? (i := 4) rfl)
  have hl : (tosV H).length = H.nodes.length := by simp [h.len]
  obtain ⟨g, c, u, h1, h2, h3⟩ := own_at ho (t := t) (by rw [hl]; exact ht)
  rw [hl] at h1
  refine ⟨g, c, u, h1, h2, ?_⟩
  have ht' : t < H.to.length := by rw [h.len]; exact ht
  rw [h3, List.getElem?_map]
  simp [P.Hp.toOf, List.getD_eq_getElem?_getD, ht']
theorem RHp.mono {B : Nat → Prop} (h : RHp A w hb H) (hf : ∀ b, b < w.heap.size → A b → B b) : RHp B w hb H := by
  obtain ⟨kv, nv, iv, av, tv, rv, ars, h⟩ := h
  have key : ∀ (ds : List P.Nd) (rows : List Value), IsAr (fun b => ¬ OwnOf w hb b ∧ A b) w rows ds → IsAr (fun b => ¬ OwnOf w hb b ∧ B b) w rows ds := by
    intro ds
    induction ds with
    | nil => intro rows h; exact h
    | cons d ds ih =>
      intro rows h
      obtain ⟨v, r, h1, h2, h3⟩ := h
      refine ⟨v, r, h1, ?_, ih r h3⟩
      rcases h2 with h2 | ⟨b, cs, g1, g2, g3, g4⟩
      · exact .inl h2
      · exact .inr ⟨b, cs, g1, ⟨g2.1, hf b (ltOf g3) g2.2⟩, g3, g4⟩
  exact ⟨kv, nv, iv, av, tv, rv, ars, h.q, key _ _ h.ar, h.len⟩
theorem RHp.lt (h : RHp A w hb H) : hb < w.heap.size := by
  obtain ⟨kv, nv, iv, av, tv, rv, ars, h⟩ := h
  exact ltOf h.cell
theorem own_grown {w1 w2 : World} {r : Option Nat} (hg : w1.grownBy w2 r) (hr : ∀ k, r = some k → ¬ OwnOf w1 hb k) (hl : hb < w1.heap.size) : ∀ b, OwnOf w2 hb b → OwnOf w1 hb b := by
  intro b hb2
  rcases hb2 with rfl | ⟨cs, T, h1, h2⟩
  · exact .inl rfl
  · refine .inr ⟨cs, T, ?_, h2⟩
    rw [hg.block hb hl (fun e => hr hb e.symm (.inl rfl))] at h1
    exact h1
theorem HFr.grow {w0 w1 w2 : World} (h : HFr hb w0 w1) {r : Option Nat} (hg : w1.grownBy w2 r) (hr : ∀ k, r = some k → w0.heap.size ≤ k ∧ ¬ OwnOf w1 hb k) (hl : hb < w1.heap.size) : HFr hb w0 w2 :=
  ⟨⟨hg.os.trans h.fr.os, hg.tape.trans h.fr.tape, hg.output.trans h.fr.output, Nat.le_trans h.fr.size hg.size, fun b o hbo hm => by
    have h1 := h.fr.block b o hbo hm
    rw [hg.block b (ltOf h1) (fun e => by have := (hr b e.symm).1; have := ltOf hbo; omega)]; exact h1⟩, fun b hb2 => h.own b (own_grown hg (fun k hk => (hr k hk).2) hl b hb2)⟩
theorem RHp.grow {w2 : World} (h : RHp (fun b => A b) w hb H) {r : Option Nat} (hg : w.grownBy w2 r) (hr : ∀ k, r = some k → ¬ OwnOf w hb k ∧ ¬ A k) : RHp A w2 hb H := by
  obtain ⟨kv, nv, iv, av, tv, rv, ars, h⟩ := h
  have hl := ltOf h.cell
  have hn : ∀ k, r = some k → ¬ OwnOf w hb k := fun k hk => (hr k hk).1
  have ho : ∀ b, OwnOf w2 hb b → OwnOf w hb b := own_grown hg hn hl
  have key : ∀ (ds : List P.Nd) (rows : List Value), IsAr (fun b => ¬ OwnOf w hb b ∧ A b) w rows ds → IsAr (fun b => ¬ OwnOf w2 hb b ∧ A b) w2 rows ds := by
    intro ds
    induction ds with
    | nil => intro rows h; exact h
    | cons d ds ih =>
      intro rows h
      obtain ⟨v, r', h1, h2, h3⟩ := h
      refine ⟨v, r', h1, ?_, ih r' h3⟩
      rcases h2 with h2 | ⟨b, cs, g1, g2, g3, g4⟩
      · exact .inl h2
      · refine .inr ⟨b, cs, g1, ⟨fun hx => g2.1 (ho b hx), g2.2⟩, ?_, g4⟩
        rw [hg.block b (ltOf g3) (fun e => (hr b e.symm).2 g2.2)]; exact g3
  refine ⟨kv, nv, iv, av, tv, rv, ars, ⟨?_, fun a ha => own_kept (h.q.own a ha) hg ?_, h.q.dis, h.q.tl⟩, key _ _ h.ar, h.len⟩
  · rw [hg.block hb hl (fun e => hn hb e.symm (.inl rfl))]; exact h.q.cell
  · cases hv : a.2.1.ownBlock with
    | none => exact .inl rfl
    | some k =>
      refine .inr fun e => hn k e.symm (.inr ⟨_, _, h.q.cell, a.2.1, ?_, hv⟩)
      simp only [List.mem_append, List.mem_map]
      exact .inl ⟨a, ha, rfl⟩
end
def P.Hp.Cl (H : P.Hp) : Prop := ∀ t, t < H.nodes.length → H.toOf t < H.nodes.length
theorem rWalk {A : Nat → Prop} {w : World} {hb : Nat} {H : P.Hp} (h : RHp A w hb H) (hc : H.Cl) {f t t' : Nat} (ht : t < H.nodes.length) (hn : H.nodes.length ≤ 1000000000) (hw : H.walk f t = some t') :
    Calls Tryz.prog 44 #[.pointer (some ⟨hb, 0, none⟩), .int .i64 (t : Nat)] w fun e w' => e = .returned (.int .i64 (t' : Nat)) ∧ w' = w := by
  obtain ⟨kv, nv, iv, av, tv, rv, ars, h⟩ := h
  have hcell := h.cell
  refine sh_Pr_Heap_walk_ok ?_
  refine ⟨fun x w' => w' = w ∧ x 1 = .int .i64 (t' : Nat), ?_, ?_⟩
  · refine ⟨fun m x w' => w' = w ∧ ∃ t1, x 1 = .int .i64 (t1 : Nat) ∧ t1 < H.nodes.length ∧ H.walk m t1 = some t', ⟨f, rfl, t, rfl, ht, hw⟩, ?_⟩
    intro m x d w1 hI
    refine toPr ?_
    obtain ⟨rfl, t1, hx, ht1, hw1⟩ := hI
    obtain ⟨gk, ck, uk, rfl, k1, k2⟩ := h.kd ht1
    obtain ⟨gt, ct, ut, rfl, k3, k4⟩ := h.tn ht1
    have e1 : ((t1 : Nat) : Int).toNat = t1 := by omega
    by_cases hk : (H.nd t1).kind = 118
    · have hk' : (((H.nd t1).kind : Nat) : Int) = 118 := by omega
      by_cases h0 : 0 ≤ H.toOf t1
      · simp (disch := first | assumption | omega | ((simp only [size_alloc, sz_drew, size_upd, List.size_toArray, List.length_cons, List.length_nil]) <;> omega) | decide) only [sh_Pr_Heap_walk, Pr, PX, PC, NX, ends, fillL, wrL, sOf, Nat.reduceAdd, Nat.reduceMul, Nat.reduceLeDiff, Nat.reduceEqDiff, Int.reduceToNat, Int.reduceAdd, Int.reduceLT, Int.reduceLE, ↓reduceIte, forall_const, eq_self, zG1, zG2, fa_129_0, fa_129_4, ix_116, ix_73, ld_116, ld_3, ld_5, ld_73, hx, hcell, k1, k2, e1, k3, k4]
        cases m with
        | zero => rw [P.Hp.walk, if_pos ⟨hk, h0⟩] at hw1; cases hw1
        | succ m =>
          rw [P.Hp.walk, if_pos ⟨hk, h0⟩] at hw1
          refine ⟨m, by omega, (H.toOf t1).toNat, ?_, ?_, hw1⟩
          · simp [sOf]; omega
          · have := hc t1 ht1; omega
      · simp (disch := first | assumption | omega | ((simp only [size_alloc, sz_drew, size_upd, List.size_toArray, List.length_cons, List.length_nil]) <;> omega) | decide) only [sh_Pr_Heap_walk, Pr, PX, PC, NX, ends, fillL, wrL, sOf, Nat.reduceAdd, Nat.reduceMul, Nat.reduceLeDiff, Nat.reduceEqDiff, Int.reduceToNat, Int.reduceAdd, Int.reduceLT, Int.reduceLE, ↓reduceIte, forall_const, eq_self, zG1, zG2, fa_129_0, fa_129_4, ix_116, ix_73, ld_116, ld_3, ld_5, ld_73, hx, hcell, k1, k2, e1, k3, k4]
        have : t' = t1 := by
          cases m <;> rw [P.Hp.walk, if_neg (fun h => h0 h.2)] at hw1 <;> exact (Option.some.inj hw1).symm
        subst this
        simp [sOf, hx]
    · have hk' : ¬ (((H.nd t1).kind : Nat) : Int) = 118 := by omega
      simp (disch := first | assumption | omega | ((simp only [size_alloc, sz_drew, size_upd, List.size_toArray, List.length_cons, List.length_nil]) <;> omega) | decide) only [sh_Pr_Heap_walk, Pr, PX, PC, NX, ends, fillL, wrL, sOf, Nat.reduceAdd, Nat.reduceMul, Nat.reduceLeDiff, Nat.reduceEqDiff, Int.reduceToNat, Int.reduceAdd, Int.reduceLT, Int.reduceLE, ↓reduceIte, forall_const, eq_self, zG1, zG2, fa_129_0, fa_129_4, ix_116, ix_73, ld_116, ld_3, ld_5, ld_73, hx, hcell, k1, k2, e1, k3, k4]
      have : t' = t1 := by
        cases m <;> rw [P.Hp.walk, if_neg (fun h => hk h.1)] at hw1 <;> exact (Option.some.inj hw1).symm
      subst this
      simp [sOf, hx]
  · rintro x w' ⟨rfl, hx⟩ d
    exact ⟨by rw [hx], rfl⟩
end Go.Proofs.YtkmpelgfhjgddaaGreatDoor
