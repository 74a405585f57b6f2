/- A part of one proof (RCon, RW3, RW4); no conditions beyond what each theorem names. -/
import Derived.Test.YtkmpelgfhjgddaaGreatDoorPkS
import Derived.Test.YtkmpelgfhjgddaaGreatDoorPkA
set_option linter.all false
set_option linter.unusedVariables false
set_option linter.unusedSimpArgs false
namespace Go.Proofs.YtkmpelgfhjgddaaGreatDoor
open Go.RowKit Sx
set_option maxRecDepth 100000
def RStX (pb tb : Nat) (T : List P.Tok) (d : Nat) (w w' : World) (l : List Value) : P.Res P.Ex → Prop
  | .ok x k vs => IsRx (Nu w w') w' l x ∧ RP w' pb tb T k vs d 0 0
  | .err c a => c ≠ 0 ∧ ∃ k vs, RP w' pb tb T k vs d c a
def ShX (a b c f g : Value) : Prop := ∃ (kd : Int) (nm : P.Bs) (n k : Int) (p : Option Addr) (q r : Nat), a = .int .u8 kd ∧ b = .string (bs nm) ∧ c = .int .i64 n ∧ f = .int .i64 k ∧ g = .slice p q r ∧ 0 ≤ kd ∧ kd ≤ 255
theorem ShX.of {kd : Int} {nm : P.Bs} {n k : Int} {p : Option Addr} {q r : Nat} (h : 0 ≤ kd ∧ kd ≤ 255) : ShX (.int .u8 kd) (.string (bs nm)) (.int .i64 n) (.int .i64 k) (.slice p q r) := ⟨_, _, _, _, _, _, _, rfl, rfl, rfl, rfl, rfl, h.1, h.2⟩
def RPostX (pb tb : Nat) (T : List P.Tok) (d : Nat) (w : World) (r : P.Res P.Ex) (e : Ending) (w' : World) : Prop :=
  ∃ a b c f g, e = .returned (.agg #[a, b, c, f, g]) ∧ (a.oneCell' = true ∧ b.oneCell' = true ∧ c.oneCell' = true ∧ f.oneCell' = true ∧ g.oneCell' = true ∧ ShX a b c f g) ∧ RFr pb w w' ∧ RStX pb tb T d w w' [a, b, c, f, g] r
def RStA (pb tb : Nat) (T : List P.Tok) (d : Nat) (w w' : World) (v : Value) : P.Res (List P.Ex) → Prop
  | .ok l k vs => (∃ us, IsRw (Nu w w') w' 69 5 v l.length us ∧ IsRxs (Nu w w') w' us l) ∧ RP w' pb tb T k vs d 0 0
  | .err c a => c ≠ 0 ∧ ∃ k vs, RP w' pb tb T k vs d c a
def RPostA (pb tb : Nat) (T : List P.Tok) (d : Nat) (w : World) (r : P.Res (List P.Ex)) (e : Ending) (w' : World) : Prop :=
  ∃ a n c, e = .returned (.slice a n c) ∧ RFr pb w w' ∧ RStA pb tb T d w w' (.slice a n c) r
structure RCE (f : Nat) : Prop where
  go : ∀ {pb tb : Nat} {T : List P.Tok} {k : Nat} {vars : List P.Bs} {d : Nat} {w : World} {r : P.Res P.Ex}, RP w pb tb T k vars d 0 0 → d ≤ 8 →
    P.pOper T f 0 k vars d = some r → Calls Tryz.prog 22 #[.pointer (some ⟨pb, 0, none⟩)] w (RPostX pb tb T d w r)
structure RCT (f : Nat) : Prop where
  go : ∀ {pb tb : Nat} {T : List P.Tok} {k : Nat} {vars : List P.Bs} {d : Nat} {w : World} {r : P.Res P.Ex}, RP w pb tb T k vars d 0 0 → d ≤ 8 →
    P.pOper T f 1 k vars d = some r → Calls Tryz.prog 41 #[.pointer (some ⟨pb, 0, none⟩)] w (RPostX pb tb T d w r)
structure RCP (f : Nat) : Prop where
  go : ∀ {pb tb : Nat} {T : List P.Tok} {k : Nat} {vars : List P.Bs} {d : Nat} {w : World} {r : P.Res P.Ex}, RP w pb tb T k vars d 0 0 → d ≤ 8 →
    P.pPrim T f k vars d = some r → Calls Tryz.prog 75 #[.pointer (some ⟨pb, 0, none⟩)] w (RPostX pb tb T d w r)
structure RCA (f : Nat) : Prop where
  go : ∀ {pb tb : Nat} {T : List P.Tok} {k : Nat} {vars : List P.Bs} {d : Nat} {w : World} {r : P.Res (List P.Ex)} (at_ : Nat), RP w pb tb T k vars d 0 0 → d ≤ 8 →
    P.pArgs T f k vars d at_ [] = some r → Calls Tryz.prog 33 #[.pointer (some ⟨pb, 0, none⟩), .int .i64 at_] w (RPostA pb tb T d w r)
structure RCL (f : Nat) : Prop where
  go : ∀ {pb tb : Nat} {T : List P.Tok} {k : Nat} {vars : List P.Bs} {d : Nat} {w : World} {r : P.Res P.Ex}, RP w pb tb T k vars d 0 0 → d ≤ 8 →
    P.pList T f k vars d = some r → Calls Tryz.prog 109 #[.pointer (some ⟨pb, 0, none⟩)] w (RPostX pb tb T d w r)
abbrev Fx (w w' : World) (v : Value) : Nat → Prop := fun b => w.heap.size ≤ b ∧ b < w'.heap.size ∧ some b ≠ v.ownBlock
theorem RFr.keeps {pb : Nat} {w w' : World} {F : Nat → Prop} {et : Nat} (h : RFr pb w w') (hn : ∀ b, F b → b ≠ pb) (ht : et ≠ 9) : Keeps F et w w' :=
  fun b _ hb hc => SFr.keep h hc (hn b hb) ht
theorem own_fr {pb : Nat} {w w' : World} (h : RFr pb w w') {base e size n : Nat} {v : Value} {xs : List Value} (hu : w.ownsRow base e size v n xs) (hb : pb < base) (he : e ≠ 9) : w'.ownsRow base e size v n xs := by
  obtain ⟨h0, hu⟩ := hu
  refine ⟨h0, ?_⟩
  rcases hu with hu | ⟨g, cap, cur, rfl, h1, h2, h3⟩
  · exact .inl hu
  · exact .inr ⟨g, cap, cur, rfl, h1, SFr.keep h h2 (by omega) he, h3⟩
theorem Tryz.infoE : (Tryz.prog.info? 69).map (fun i => (i.zero, i.size, i.bytes)) = some (some (.agg #[.int .u8 0, .string (bs []), .int .i64 0, .int .i64 0, .slice none 0 0]), 5, 64) := by kernel_rfl
theorem wr_appendE {w : World} {base n : Nat} {v : Value} {xs : List Value} (hown : w.ownsRow base 69 5 v n xs) {b m : Nat} {a0 a1 a2 a3 a4 : Value}
    (hb : w.heap[b]? = some (.cells #[a0, a1, a2, a3, a4] 69 (0, 0))) (h1 : a0.oneCell' = true ∧ a1.oneCell' = true ∧ a2.oneCell' = true ∧ a3.oneCell' = true ∧ a4.oneCell' = true)
    (hn : n ≤ 100000) (hbase : base ≤ w.heap.size) {K : Value → World → Prop} {X : Value → World → Prop}
    (h : ∀ v' w', w'.ownsRow base 69 5 v' (n + 1) (xs ++ [a0, a1, a2, a3, a4]) → w.grownBy w' v.ownBlock → (v'.ownBlock = v.ownBlock ∨ ∀ k, v'.ownBlock = some k → w.heap.size ≤ k) → K v' w') :
    WR Tryz.prog (Builtin.append_ #[34, 34] 34 #[v, .slice (some ⟨b, 0, none⟩) 1 m]) w K X := by
  obtain ⟨i, hi, h0⟩ := Option.map_eq_some_iff.1 Tryz.infoE
  simp only [Prod.mk.injEq] at h0
  obtain ⟨hz, hs, hbt⟩ := h0
  refine wr_append (t := 34) (e := 69) (by kernel_rfl) hi hz hs hbt rfl (by decide) hown hb rfl (fun u hu => ?_) (by omega) (by decide) hbase h
  simp only [List.mem_cons, List.not_mem_nil, or_false] at hu
  rcases hu with rfl | rfl | rfl | rfl | rfl
  · exact h1.1
  · exact h1.2.1
  · exact h1.2.2.1
  · exact h1.2.2.2.1
  · exact h1.2.2.2.2
end Go.Proofs.YtkmpelgfhjgddaaGreatDoor
namespace Go.Proofs.YtkmpelgfhjgddaaGreatDoor
open Go.RowKit Sx
set_option maxRecDepth 100000
structure RowS (w w1 : World) (v : Value) (acc : List P.Ex) : Prop where
  own : ∃ xs, w1.ownsRow w.heap.size 69 5 v acc.length xs ∧ IsRxs (Fx w w1 v) w1 xs acc
theorem RowS.nil (w : World) : RowS w w (.slice none 0 0) [] := ⟨[], World.ownsRow_nil _ _ _ _, by unfold IsRxs; rfl⟩
theorem RowS.more {w w1 w2 w3 w4 : World} {pb : Nat} {v v' : Value} {acc : List P.Ex} {x : P.Ex} {a b c f g : Value} (h : RowS w w1 v acc) (h12 : RFr pb w1 w2) (hpb : pb < w.heap.size) (hx : IsRx (Nu w1 w2) w2 [a, b, c, f, g] x) (hww : w.heap.size ≤ w1.heap.size)
    (h23 : Ext w2 w3) {xs : List Value} (hxs : w3.ownsRow w.heap.size 69 5 v acc.length xs) (hown' : w4.ownsRow w.heap.size 69 5 v' (acc.length + 1) (xs ++ [a, b, c, f, g]))
    (hg : w3.grownBy w4 v.ownBlock) (hv : v'.ownBlock = v.ownBlock ∨ ∀ k, v'.ownBlock = some k → w3.heap.size ≤ k) : RowS w w4 v' (acc ++ [x]) := by
  obtain ⟨xs', o1, o2⟩ := h.own
  have s12 := h12.size
  have s23 := h23.size
  have s34 := hg.size
  have o3 : w3.ownsRow w.heap.size 69 5 v acc.length xs' := own_ext h23.ext (own_fr h12 o1 (by omega) (by decide))
  have e : xs' = xs := by
    rcases o3.2 with ⟨hv1, hn⟩ | ⟨g1, c1, cur1, hv1, _, g2, _, _, _, g3⟩
    · have l1 := o3.1
      have l2 := hxs.1
      rw [hn] at l1 l2
      have e1 : xs' = [] := List.eq_nil_of_length_eq_zero (by simpa using l1)
      have e2 : xs = [] := List.eq_nil_of_length_eq_zero (by simpa using l2)
      rw [e1, e2]
    · rcases hxs.2 with ⟨hv2, _⟩ | ⟨g1', c1', cur1', hv2, _, g2', _, _, _, g3'⟩
      · rw [hv1] at hv2; cases hv2
      · rw [hv1] at hv2
        injection hv2 with hv2 _ _
        injection hv2 with hv2
        injection hv2 with hv2 _ _
        subst hv2
        rw [g2] at g2'
        injection g2' with g2'
        injection g2' with g2' _ _
        subst g2'
        rw [← g3, ← g3']
  subst e
  have lt : ∀ k, v.ownBlock = some k → k < w1.heap.size := fun k hk => (o1.lt k hk).2
  have kp34 : ∀ b cs, some b ≠ v.ownBlock → b < w3.heap.size → w3.heap[b]? = some (.cells cs 69 (0, 0)) → w4.heap[b]? = some (.cells cs 69 (0, 0)) :=
    fun b cs hb hl hc => by rw [hg.block b hl hb]; exact hc
  have nv : ∀ b, b < w3.heap.size → some b ≠ v.ownBlock → some b ≠ v'.ownBlock := fun b hb hne he => by
    rcases hv with hv | hv
    · rw [hv] at he; exact hne he
    · have := hv b he.symm; omega
  refine ⟨_, by rw [List.length_append]; exact hown', IsRxs.snoc ?_ ?_⟩
  · refine IsRxs.mono (F := Fx w w1 v) (fun b hb => ⟨hb.1, by have := hb.2.1; omega, nv b (by have := hb.2.1; omega) hb.2.2⟩) (fun b cs hb hc => ?_) _ _ o2
    have h1 := SFr.keep h12 hc (by have := hb.1; omega) (by decide)
    have h2 := h23.ext _ _ h1
    exact kp34 b cs hb.2.2 (ltOf h2) h2
  · refine IsRx.mono (F := Nu w1 w2) (fun b hb => ⟨by have := hb.1; omega, by have := hb.2; omega, nv b (by have := hb.2; omega) (fun e => by have := lt b e.symm; have := hb.1; omega)⟩) (fun b cs hb hc => ?_) _ _ hx
    have h2 := h23.ext _ _ hc
    exact kp34 b cs (fun e => by have := lt b e.symm; have := hb.1; omega) (ltOf h2) h2
set_option maxHeartbeats 1000000 in
theorem rArgs {f : Nat} (hE : ∀ g, g < f → RCE g) : RCA f := ⟨by
  intro pb tb T k vars d w r at_ h hd hr
  have hpb : pb < w.heap.size := by obtain ⟨_, _, hx⟩ := id h; exact ltOf hx.cell
  have hT : T.length ≤ 2001 := by obtain ⟨_, _, hx⟩ := id h; exact hx.tw.len
  refine sh_Pr_parser_args_ok ?_
  refine ⟨fun n s w1 =>
      (s 6 = .bool true ∧ ∃ f' k' vs acc, n = f' + 1 ∧ f' ≤ f ∧ acc.length ≤ k' ∧ P.pArgs T f' k' vs d at_ acc = some r ∧ RowS w w1 (s 5) acc ∧ RP w1 pb tb T k' vs d 0 0 ∧ RFr pb w w1) ∨
      (s 6 = .bool false ∧ n = 0 ∧ RFr pb w w1 ∧ ∃ m xs, w1.ownsRow w.heap.size 69 5 (s 5) m xs ∧ m ≤ 100000 ∧
        ((∃ k' vs acc, m = acc.length ∧ r = (if 4 < acc.length then .err 4 at_ else .ok acc k' vs) ∧ RowS w w1 (s 5) acc ∧ RP w1 pb tb T k' vs d 0 0) ∨ (∃ c a k' vs, r = .err c a ∧ c ≠ 0 ∧ RP w1 pb tb T k' vs d c a))),
    ⟨f + 1, .inl ⟨rfl, f, k, vars, [], rfl, Nat.le_refl _, Nat.zero_le _, hr, RowS.nil w, h, FrM.refl _ _⟩⟩, ?_⟩
  intro n s dd w1 hI
  refine toPr ?_
  rcases hI with ⟨h6, f', k', vs, acc, rfl, hf', hak, hp, hrow, hP, hF⟩ | ⟨h6, rfl, hF, m, xs, hown, hm, hfin⟩
  · cases f' with
    | zero => simp [P.pArgs] at hp
    | succ f' =>
    rw [P.pArgs] at hp
    have hkt : k' < T.length := by obtain ⟨_, _, hx⟩ := id hP; exact hx.kt
    have hs1 := hF.size
    cases hq : P.pOper T f' 0 k' vs d with
    | none => rw [hq] at hp; simp [P.Res.bind] at hp
    | some q =>
    rw [hq] at hp
    simp (disch := first | assumption | omega | ((simp only [size_alloc, sz_drew, size_upd, List.size_toArray, List.length_cons, List.length_nil]) <;> omega) | decide) only [sh_Pr_parser_args, Pr, PX, PC, NX, ends, fillL, wrL, sOf, Nat.reduceAdd, Nat.reduceMul, Nat.reduceLeDiff, Nat.reduceEqDiff, Int.reduceToNat, Int.reduceAdd, Int.reduceLT, Int.reduceLE, ↓reduceIte, forall_const, eq_self, zG1, zG2, al_69, br_34_1, ld_69, ln_34, st_69, h6]
    refine ((hE f' (by omega)).go hP hd hq).mono ?_
    rintro e w2 ⟨a, b, c, g, u, rfl, ⟨o1, o2, o3, o4, o5, oh⟩, hF2, hst⟩
    have hs2 := hF2.size
    have hrow2 : w2.ownsRow w.heap.size 69 5 (s 5) acc.length (Classical.choose hrow.own) := own_fr hF2 (Classical.choose_spec hrow.own).1 hpb (by decide)
    simp (disch := first | assumption | omega | ((simp only [size_alloc, sz_drew, size_upd, List.size_toArray, List.length_cons, List.length_nil]) <;> omega) | decide) only [sh_Pr_parser_args, Pr, PX, PC, NX, ends, fillL, wrL, sOf, Nat.reduceAdd, Nat.reduceMul, Nat.reduceLeDiff, Nat.reduceEqDiff, Int.reduceToNat, Int.reduceAdd, Int.reduceLT, Int.reduceLE, ↓reduceIte, forall_const, eq_self, zG1, zG2, al_69, br_34_1, ld_69, ln_34, st_69, o1, o2, o3, o4, o5]
    have hx3 : Ext w2 ((upd (w2.alloc (.cells #[.int .u8 0, .string (bs []), .int .i64 0, .int .i64 0, .slice none 0 0] 69)) w2.heap.size (.cells #[a, b, c, g, u] 69)).alloc (.cells #[a, b, c, g, u] 69)) :=
      (((FrM.refl _ _).alloc _).upd (.inr (Nat.le_refl _))).alloc _
    refine wr_appendE (base := w.heap.size) (n := acc.length) (own_ext hx3.ext hrow2) (hp_alloc_new (by rw [size_upd, size_alloc])) ⟨o1, o2, o3, o4, o5⟩ (by omega) (by have := hx3.size; omega) ?_
    intro v' w4 hown4 hg4 hv4
    have hF4 : RFr pb w w4 := (((hF.trans hF2).trans hx3.toM)).grow hg4 (fun k hk => (hrow2.lt k hk).1)
    cases q with
    | err c0 a0 =>
      obtain ⟨hc0, k2, vs2, hP2⟩ := hst
      simp only [P.Res.bind, Option.some.injEq] at hp
      have hP4 := (hP2.ext hx3).grow (own_ext hx3.ext hrow2) (by decide) hpb hg4
      refine (rIs_no hP4 [44] (.inl hc0)).mono ?_
      rintro e w5 ⟨rfl, hP5, hF5⟩
      simp (disch := first | assumption | omega | ((simp only [size_alloc, sz_drew, size_upd, List.size_toArray, List.length_cons, List.length_nil]) <;> omega) | decide) only [sh_Pr_parser_args, Pr, PX, PC, NX, ends, fillL, wrL, sOf, Nat.reduceAdd, Nat.reduceMul, Nat.reduceLeDiff, Nat.reduceEqDiff, Int.reduceToNat, Int.reduceAdd, Int.reduceLT, Int.reduceLE, ↓reduceIte, forall_const, eq_self, zG1, zG2, al_69, br_34_1, ld_69, ln_34, st_69]
      refine ⟨0, Nat.succ_pos _, .inr ⟨rfl, hF4.trans hF5, _, _, own_fr hF5 hown4 hpb (by decide), by omega, .inr ⟨c0, a0, k2, vs2, hp.symm, hc0, hP5⟩⟩⟩
    | ok x k2 vs2 =>
      obtain ⟨hx, hP2⟩ := hst
      have hk2 := (P.mono T f').oper _ _ _ _ _ _ _ hq
      have hP4 := (hP2.ext hx3).grow (own_ext hx3.ext hrow2) (by decide) hpb hg4
      have hrow4 : RowS w w4 v' (acc ++ [x]) := hrow.more hF2 hpb hx hs1 hx3 (own_ext hx3.ext hrow2) hown4 hg4 hv4
      simp only [P.Res.bind] at hp
      have hmn : ∀ {w5 : World}, RFr pb w4 w5 → RowS w w5 v' (acc ++ [x]) := fun hF5 => by
        obtain ⟨xs, p1, p2⟩ := hrow4.own
        have := hF5.size
        exact ⟨xs, own_fr hF5 p1 hpb (by decide), IsRxs.mono (fun b hb => ⟨hb.1, by have := hb.2.1; omega, hb.2.2⟩) (RFr.keeps hF5 (fun b hb => by have := hb.1; omega) (by decide)) _ _ p2⟩
      by_cases hc : P.isT T k2 [44] = true
      · rw [if_pos hc] at hp
        refine (rIs_yes hP4 [44] hc).mono ?_
        rintro e w5 ⟨rfl, hP5, hF5⟩
        simp (disch := first | assumption | omega | ((simp only [size_alloc, sz_drew, size_upd, List.size_toArray, List.length_cons, List.length_nil]) <;> omega) | decide) only [sh_Pr_parser_args, Pr, PX, PC, NX, ends, fillL, wrL, sOf, Nat.reduceAdd, Nat.reduceMul, Nat.reduceLeDiff, Nat.reduceEqDiff, Int.reduceToNat, Int.reduceAdd, Int.reduceLT, Int.reduceLE, ↓reduceIte, forall_const, eq_self, zG1, zG2, al_69, br_34_1, ld_69, ln_34, st_69]
        exact ⟨f' + 1, by omega, .inl ⟨f', k2 + 1, vs2, acc ++ [x], rfl, by omega, by simp; omega, hp, hmn hF5, hP5, hF4.trans hF5⟩⟩
      · rw [if_neg hc] at hp
        refine (rIs_no hP4 [44] (.inr (by simpa using hc))).mono ?_
        rintro e w5 ⟨rfl, hP5, hF5⟩
        simp (disch := first | assumption | omega | ((simp only [size_alloc, sz_drew, size_upd, List.size_toArray, List.length_cons, List.length_nil]) <;> omega) | decide) only [sh_Pr_parser_args, Pr, PX, PC, NX, ends, fillL, wrL, sOf, Nat.reduceAdd, Nat.reduceMul, Nat.reduceLeDiff, Nat.reduceEqDiff, Int.reduceToNat, Int.reduceAdd, Int.reduceLT, Int.reduceLE, ↓reduceIte, forall_const, eq_self, zG1, zG2, al_69, br_34_1, ld_69, ln_34, st_69]
        refine ⟨0, Nat.succ_pos _, .inr ⟨rfl, hF4.trans hF5, _, _, own_fr hF5 hown4 hpb (by decide), by omega, .inl ⟨k2, vs2, acc ++ [x], by simp, ?_, hmn hF5, hP5⟩⟩⟩
        have e4 : P.maxArity = 4 := rfl
        rw [e4] at hp
        split at hp
        · rename_i h4; rw [if_pos h4]; injection hp with hp; exact hp.symm
        · rename_i h4; rw [if_neg h4]; injection hp with hp; exact hp.symm
  · obtain ⟨a0, c0, hs5⟩ := own_slice hown
    rcases hfin with ⟨k', vs, acc, rfl, hr', hrow, hP⟩ | ⟨c, a, k', vs, hr', hc, hP⟩
    · by_cases h4 : 4 < acc.length
      · rw [if_pos h4] at hr'
        simp (disch := first | assumption | omega | ((simp only [size_alloc, sz_drew, size_upd, List.size_toArray, List.length_cons, List.length_nil]) <;> omega) | decide) only [sh_Pr_parser_args, Pr, PX, PC, NX, ends, fillL, wrL, sOf, Nat.reduceAdd, Nat.reduceMul, Nat.reduceLeDiff, Nat.reduceEqDiff, Int.reduceToNat, Int.reduceAdd, Int.reduceLT, Int.reduceLE, ↓reduceIte, forall_const, eq_self, zG1, zG2, al_69, br_34_1, ld_69, ln_34, st_69, h6, hs5]
        refine (rFault hP 4 _).mono ?_
        rintro e w2 ⟨rfl, hP2, hF2⟩
        rw [if_pos rfl, if_pos rfl] at hP2
        simp (disch := first | assumption | omega | ((simp only [size_alloc, sz_drew, size_upd, List.size_toArray, List.length_cons, List.length_nil]) <;> omega) | decide) only [sh_Pr_parser_args, Pr, PX, PC, NX, ends, fillL, wrL, sOf, Nat.reduceAdd, Nat.reduceMul, Nat.reduceLeDiff, Nat.reduceEqDiff, Int.reduceToNat, Int.reduceAdd, Int.reduceLT, Int.reduceLE, ↓reduceIte, forall_const, eq_self, zG1, zG2, al_69, br_34_1, ld_69, ln_34, st_69, hs5]
        rw [hr']
        exact ⟨_, _, _, rfl, hF.trans hF2, by decide, _, _, hP2⟩
      · rw [if_neg h4] at hr'
        simp (disch := first | assumption | omega | ((simp only [size_alloc, sz_drew, size_upd, List.size_toArray, List.length_cons, List.length_nil]) <;> omega) | decide) only [sh_Pr_parser_args, Pr, PX, PC, NX, ends, fillL, wrL, sOf, Nat.reduceAdd, Nat.reduceMul, Nat.reduceLeDiff, Nat.reduceEqDiff, Int.reduceToNat, Int.reduceAdd, Int.reduceLT, Int.reduceLE, ↓reduceIte, forall_const, eq_self, zG1, zG2, al_69, br_34_1, ld_69, ln_34, st_69, h6, hs5]
        rw [hr']
        obtain ⟨xs', p1, p2⟩ := hrow.own
        rw [hs5] at p1
        refine ⟨_, _, _, rfl, hF, ⟨xs', own_rw p1 (fun k h1 h2 => ⟨h1, h2⟩), IsRxs.mono (fun b hb => ⟨hb.1, hb.2.1⟩) (fun b cs _ hc => hc) _ _ p2⟩, hP⟩
    · have hfin2 : ∀ {w2 : World} {k2 : Nat} {vs2 : List P.Bs}, RFr pb w1 w2 → RP w2 pb tb T k2 vs2 d c a → RPostA pb tb T d w r (.returned (.slice a0 m c0)) w2 := fun hF2 hP2 => by
        rw [hr']
        exact ⟨_, _, _, rfl, hF.trans hF2, hc, _, _, hP2⟩
      by_cases h4 : 4 < m
      · simp (disch := first | assumption | omega | ((simp only [size_alloc, sz_drew, size_upd, List.size_toArray, List.length_cons, List.length_nil]) <;> omega) | decide) only [sh_Pr_parser_args, Pr, PX, PC, NX, ends, fillL, wrL, sOf, Nat.reduceAdd, Nat.reduceMul, Nat.reduceLeDiff, Nat.reduceEqDiff, Int.reduceToNat, Int.reduceAdd, Int.reduceLT, Int.reduceLE, ↓reduceIte, forall_const, eq_self, zG1, zG2, al_69, br_34_1, ld_69, ln_34, st_69, h6, hs5]
        refine (rFault hP 4 _).mono ?_
        rintro e w2 ⟨rfl, hP2, hF2⟩
        rw [if_neg hc, if_neg hc] at hP2
        simp (disch := first | assumption | omega | ((simp only [size_alloc, sz_drew, size_upd, List.size_toArray, List.length_cons, List.length_nil]) <;> omega) | decide) only [sh_Pr_parser_args, Pr, PX, PC, NX, ends, fillL, wrL, sOf, Nat.reduceAdd, Nat.reduceMul, Nat.reduceLeDiff, Nat.reduceEqDiff, Int.reduceToNat, Int.reduceAdd, Int.reduceLT, Int.reduceLE, ↓reduceIte, forall_const, eq_self, zG1, zG2, al_69, br_34_1, ld_69, ln_34, st_69, hs5]
        exact hfin2 hF2 hP2
      · simp (disch := first | assumption | omega | ((simp only [size_alloc, sz_drew, size_upd, List.size_toArray, List.length_cons, List.length_nil]) <;> omega) | decide) only [sh_Pr_parser_args, Pr, PX, PC, NX, ends, fillL, wrL, sOf, Nat.reduceAdd, Nat.reduceMul, Nat.reduceLeDiff, Nat.reduceEqDiff, Int.reduceToNat, Int.reduceAdd, Int.reduceLT, Int.reduceLE, ↓reduceIte, forall_const, eq_self, zG1, zG2, al_69, br_34_1, ld_69, ln_34, st_69, h6, hs5]
        exact hfin2 (FrM.refl _ _) hP⟩
end Go.Proofs.YtkmpelgfhjgddaaGreatDoor
namespace Go.Proofs.YtkmpelgfhjgddaaGreatDoor
open Go.RowKit Sx
set_option maxRecDepth 100000
theorem Tryz.infoS : (Tryz.prog.info? 9).map (fun i => (i.zero, i.size, i.bytes)) = some (some (.string (bs [])), 1, 16) := by kernel_rfl
theorem wr_appendS {w : World} {base n : Nat} {v : Value} {xs : List Value} (hown : w.ownsRow base 9 1 v n xs) {b m : Nat} {s : List UInt8}
    (hb : w.heap[b]? = some (.cells #[.string (bs s)] 9 (0, 0))) (hn : n ≤ 100000) (hbase : base ≤ w.heap.size) {K : Value → World → Prop} {X : Value → World → Prop}
    (h : ∀ v' w', w'.ownsRow base 9 1 v' (n + 1) (xs ++ [.string (bs s)]) → w.grownBy w' v.ownBlock → (v'.ownBlock = v.ownBlock ∨ ∀ k, v'.ownBlock = some k → w.heap.size ≤ k) → K v' w') :
    WR Tryz.prog (Builtin.append_ #[38, 38] 38 #[v, .slice (some ⟨b, 0, none⟩) 1 m]) w K X := by
  obtain ⟨i, hi, h0⟩ := Option.map_eq_some_iff.1 Tryz.infoS
  simp only [Prod.mk.injEq] at h0
  obtain ⟨hz, hs, hbt⟩ := h0
  refine wr_append (t := 38) (e := 9) (by kernel_rfl) hi hz hs hbt rfl (by decide) hown hb rfl (fun u hu => ?_) (by omega) (by decide) hbase h
  simp only [List.mem_cons, List.not_mem_nil, or_false] at hu
  subst hu; rfl
theorem isRx_var (F : Nat → Prop) (w : World) (j : Nat) : IsRx F w [.int .u8 118, .string (bs []), .int .i64 0, .int .i64 j, .slice none 0 0] (.mk 118 [] 0 j []) := by
  unfold IsRx
  exact ⟨_, [], rfl, .inl ⟨rfl, rfl, rfl⟩, by unfold IsRxs; rfl⟩
theorem own_str {w : World} {base : Nat} {vv : Value} {vars : List P.Bs} (h : w.ownsRow base 9 1 vv vars.length (vars.map fun s => .string (bs s))) {j : Nat} (hj : j < vars.length) :
    ∃ g cap cur, vv = .slice (some ⟨g, 0, none⟩) vars.length cap ∧ base ≤ g ∧ w.heap[g]? = some (.cells cur 9 (0, 0)) ∧ cur[j]? = some (.string (bs (vars.getD j []))) := by
  rcases h.2 with ⟨rfl, h0⟩ | ⟨g, cap, cur, rfl, h1, h2, h3, h4, h5, h6⟩
  · omega
  · refine ⟨g, cap, cur, rfl, h1, h2, ?_⟩
    have e : (cur.toList.take (vars.length * 1))[j]? = some (.string (bs (vars.getD j []))) := by
      rw [h6]
      simp [hj]
    rw [List.getElem?_take] at e
    rw [if_pos (by omega)] at e
    simpa using e
theorem own_ne {w : World} {base e size n : Nat} {v : Value} {xs : List Value} (h : w.ownsRow base e size v n xs) {b T : Nat} {cs : Array Value} {z : Nat × Nat} (hb : w.heap[b]? = some (.cells cs T z)) (hT : T ≠ e) : some b ≠ v.ownBlock := by
  intro e1
  rcases h.2 with ⟨rfl, _⟩ | ⟨g, cap, cur, rfl, h1, h2, _⟩
  · cases e1
  · simp only [Value.ownBlock, Option.some.injEq] at e1
    subst e1
    rw [h2] at hb
    injection hb with hb
    injection hb with _ hb
    exact hT hb.symm
theorem own_updT {w : World} {base e size n : Nat} {v : Value} {xs : List Value} (h : w.ownsRow base e size v n xs) {p T : Nat} {cs : Array Value} {z : Nat × Nat} {o : Obj} (hb : w.heap[p]? = some (.cells cs T z)) (hT : T ≠ e) : (upd w p o).ownsRow base e size v n xs := by
  have hne := own_ne h hb hT
  obtain ⟨g1, g2⟩ := h
  refine ⟨g1, ?_⟩
  rcases g2 with g | ⟨g, cp, cur, e1, e2, e3, e4⟩
  · exact .inl g
  · refine .inr ⟨g, cp, cur, e1, e2, ?_, e4⟩
    have : p ≠ g := fun e5 => hne (by rw [e1, e5]; rfl)
    rw [hp_upd_other (by omega)]; exact e3
theorem FrM.growS {pb : Nat} {a b c : World} (h : RFr pb a b) {n : Nat} {v : Value} {xs : List Value} (hu : b.ownsRow (pb + 1) 9 1 v n xs) (hg : b.grownBy c v.ownBlock) : RFr pb a c :=
  ⟨hg.os.trans h.os, hg.tape.trans h.tape, hg.output.trans h.output, Nat.le_trans h.size hg.size, fun i o hi hm => by
    have h1 := h.block i o hi hm
    rw [hg.block i (ltOf h1) (fun e1 => ?_)]
    · exact h1
    · rcases hu.2 with ⟨rfl, _⟩ | ⟨g, cap, cur, rfl, h2, h3, _⟩
      · cases e1
      · simp only [Value.ownBlock, Option.some.injEq] at e1
        subst e1
        rw [h3] at h1
        injection h1 with h1
        exact hm (.inr ⟨by omega, _, _, h1.symm⟩)⟩
def VT (p0 x3 x4 : Value) (w : World) (R : Ending → World → Prop) : Prop :=
  HD fun S => S w.drew ∧
  NC p0 fun x44 =>
  RDS Tryz.prog (Instr.fieldAt 58 x44 2) S (fun x45 =>
  RDS Tryz.prog (Instr.loadAt 38 x45) S (fun x46 =>
  RD Tryz.prog (Instr.fieldAt 60 x3 1) w.drew (fun x47 =>
  RD Tryz.prog (Instr.loadAt 9 x47) w.drew (fun x48 =>
  WR Tryz.prog (Instr.buildSlice 38 1 #[(0, x48)]) w.drew (fun x49 w1 =>
  S w1 ∧
  WR Tryz.prog (Builtin.append_ #[38, 38] 38 #[x46, x49]) w1 (fun x50 w2 =>
  S w2 ∧
  NC p0 fun x51 =>
  RD Tryz.prog (Instr.fieldAt 58 x51 2) w2 (fun x52 =>
  WU Tryz.prog (Instr.storeAt 38 x52 x50) w2 (fun w3 =>
  NC p0 fun x54 =>
  RD Tryz.prog (Instr.fieldAt 58 x54 2) w3 (fun x55 =>
  RD Tryz.prog (Instr.loadAt 38 x55) w3 (fun x56 =>
  RD Tryz.prog (Builtin.len_ #[38] 3 #[x56]) w3 (fun x57 =>
  RD Tryz.prog (bo .sub 3 (.tmp 57) (.const (.int .i64 1)) x57 (.int .i64 1)) w3 (fun x58 =>
  RD Tryz.prog (Instr.build 69 #[(0, (.int .u8 118)), (3, x58)]) w3 (fun x59 =>
  WU Tryz.prog (Instr.storeAt 69 x4 x59) w3 (fun w4 =>
  RD Tryz.prog (Instr.loadAt 69 x4) w4 (fun r => R (.returned r) w4) NX) (PX R)) (PX R)) (PX R)) (PX R)) (PX R)) (PX R)) NX) NX) NX) NX) NX) NX))
theorem rVarTail {pb tb : Nat} {T : List P.Tok} {k : Nat} {vars : List P.Bs} {d : Int} {er at_ lc : Nat} {vv : Value} {w : World} (hx : RPx w pb tb T k vars d er at_ lc vv) (hn : vars.length ≤ 11 ∨ (er ≠ 0 ∧ vars.length ≤ 12))
    {bx bx2 : Nat} {t : P.Tok} {kd : Nat} (hpb : pb < bx) (hbx : bx < bx2) (b1 : w.heap[bx]? = some (.cells #[.int .u8 kd, .string (bs t.text), .int .i64 t.pos] 60 (0, 0)))
    (b2 : w.heap[bx2]? = some (.cells #[.int .u8 0, .string (bs []), .int .i64 0, .int .i64 0, .slice none 0 0] 69 (0, 0))) {R : Ending → World → Prop}
    (hR : ∀ w', RP w' pb tb T k (vars ++ [t.text]) d er at_ → (∀ w0, RFr pb w0 w → w0.heap.size ≤ bx → RFr pb w0 w') → R (.returned (.agg #[.int .u8 118, .string (bs []), .int .i64 0, .int .i64 vars.length, .slice none 0 0])) w') :
    VT (.pointer (some ⟨pb, 0, none⟩)) (.pointer (some ⟨bx, 0, none⟩)) (.pointer (some ⟨bx2, 0, none⟩)) w R := by
  have l1 := ltOf hx.cell
  have l2 := ltOf b1
  have l3 := ltOf b2
  obtain ⟨va, vc, hvv⟩ := own_slice hx.own
  subst hvv
  have h3 := hx.cell
  refine ⟨fun w' => w'.heap[pb]? = some (.cells #[.slice (some ⟨tb, 0, none⟩) T.length lc, .int .i64 k, .slice va vars.length vc, .int .i64 d, .int .i64 er, .int .i64 at_] 58 (0, 0)), hx.cell, ?_⟩
  refine rds (.pointer (some ⟨pb, 2, none⟩)) (fun w' hS => ?_) (rds (.slice va vars.length vc) (fun w' hS => ?_) ?_)
  · simp (disch := first | assumption | omega | ((simp only [size_alloc, sz_drew, size_upd, List.size_toArray, List.length_cons, List.length_nil]) <;> omega) | decide) only [sh_Pr_parser_variable, Pr, PX, PC, NX, ends, fillL, wrL, sOf, Nat.reduceAdd, Nat.reduceMul, Nat.reduceLeDiff, Nat.reduceEqDiff, Int.reduceToNat, Int.reduceAdd, Int.reduceLT, Int.reduceLE, ↓reduceIte, forall_const, eq_self, zG1, zG2, al_69, bd_69, br_38_1, fa_58_2, fa_60_1, fa_60_2, ix_38, ld_3, ld_38, ld_69, ld_9, ln_38, st_38, st_69, hS]
  · have := ltOf hS
    simp (disch := first | assumption | omega | ((simp only [size_alloc, sz_drew, size_upd, List.size_toArray, List.length_cons, List.length_nil]) <;> omega) | decide) only [sh_Pr_parser_variable, Pr, PX, PC, NX, ends, fillL, wrL, sOf, Nat.reduceAdd, Nat.reduceMul, Nat.reduceLeDiff, Nat.reduceEqDiff, Int.reduceToNat, Int.reduceAdd, Int.reduceLT, Int.reduceLE, ↓reduceIte, forall_const, eq_self, zG1, zG2, al_69, bd_69, br_38_1, fa_58_2, fa_60_1, fa_60_2, ix_38, ld_3, ld_38, ld_69, ld_9, ln_38, st_38, st_69, hS]
  · simp (disch := first | assumption | omega | ((simp only [size_alloc, sz_drew, size_upd, List.size_toArray, List.length_cons, List.length_nil]) <;> omega) | decide) only [sh_Pr_parser_variable, Pr, PX, PC, NX, ends, fillL, wrL, sOf, Nat.reduceAdd, Nat.reduceMul, Nat.reduceLeDiff, Nat.reduceEqDiff, Int.reduceToNat, Int.reduceAdd, Int.reduceLT, Int.reduceLE, ↓reduceIte, forall_const, eq_self, zG1, zG2, al_69, bd_69, br_38_1, fa_58_2, fa_60_1, fa_60_2, ix_38, ld_3, ld_38, ld_69, ld_9, ln_38, st_38, st_69, h3, b1, b2]
    have hx3 : Ext w (w.drew.alloc (.cells #[.string (bs t.text)] 9)) := (FrM.refl _ _).drew.alloc _
    have hown := own_ext hx3.ext hx.own
    have hv12 := hx.nv
    refine wr_appendS (base := pb + 1) hown (hp_alloc_new (by rw [sz_drew])) (by omega) (by have := hx3.size; omega) ?_
    intro v' w4 hown4 hg4 hv4
    obtain ⟨va', vc', hvv'⟩ := own_slice hown4
    subst hvv'
    have hs4 := hg4.size
    have hs3 := hx3.size
    have kp : ∀ b o, w.heap[b]? = some o → some b ≠ (Value.slice va vars.length vc).ownBlock → w4.heap[b]? = some o := fun b o hb hne => by
      have h1 := hx3.ext _ _ hb
      rw [hg4.block b (ltOf h1) hne]; exact h1
    have p4 := kp _ _ h3 (fun e => by have := (hown.lt _ e.symm).1; omega)
    have b4 := kp _ _ b2 (own_ne hx.own b2 (by decide))
    simp (disch := first | assumption | omega | ((simp only [size_alloc, sz_drew, size_upd, List.size_toArray, List.length_cons, List.length_nil]) <;> omega) | decide) only [sh_Pr_parser_variable, Pr, PX, PC, NX, ends, fillL, wrL, sOf, Nat.reduceAdd, Nat.reduceMul, Nat.reduceLeDiff, Nat.reduceEqDiff, Int.reduceToNat, Int.reduceAdd, Int.reduceLT, Int.reduceLE, ↓reduceIte, forall_const, eq_self, zG1, zG2, al_69, bd_69, br_38_1, fa_58_2, fa_60_1, fa_60_2, ix_38, ld_3, ld_38, ld_69, ld_9, ln_38, st_38, st_69, p4, b4]
    have e1 : ((vars.length + 1 : Nat) : Int) - 1 = vars.length := by omega
    rw [e1]
    have hl : (vars ++ [t.text]).length = vars.length + 1 := by simp
    refine hR _ ⟨lc, .slice va' (vars.length + 1) vc', hx.tw, hx.lt, hx.kt, ?_, hx.dp, ?_, hx.lc1, hx.lc2, ?_, ?_⟩ (fun w0 hf0 hs0 => ?_)
    · rw [hl]
      refine ⟨by omega, fun e => ?_⟩
      omega
    · obtain ⟨cs, c1, c2⟩ := hx.toks
      have := hx.lt
      refine ⟨cs, ?_, c2⟩
      rw [hp_upd_other (by omega), hp_upd_other (by omega)]
      exact kp _ _ c1 (own_ne hx.own c1 (by decide))
    · rw [hp_upd_other (by omega)]
      exact hp_upd_same rfl (ltOf p4)
    · rw [hl, List.map_append]
      refine own_updT (T := 69) (own_upd hown4 (Nat.lt_succ_self _)) (by rw [hp_upd_other (by omega)]; exact b4) (by decide)
    · exact (((hf0.trans hx3.toM).growS hown hg4).upd (.inl fun _ => .inl rfl)).upd (.inr (by omega))
theorem rVariable {pb tb : Nat} {T : List P.Tok} {k : Nat} {vars : List P.Bs} {d : Nat} {w : World} (h : RP w pb tb T k vars d 0 0) (t : P.Tok) (kd : Nat) :
    Calls Tryz.prog 108 #[.pointer (some ⟨pb, 0, none⟩), .agg #[.int .u8 kd, .string (bs t.text), .int .i64 t.pos]] w (RPostX pb tb T d w (P.pVar t k vars)) := by
  obtain ⟨lc, vv, hx⟩ := id h
  have l1 := ltOf hx.cell
  have nv := hx.nv.2 rfl
  obtain ⟨va, vc, hvv⟩ := own_slice hx.own
  subst hvv
  have h3 := hx.cell
  refine sh_Pr_parser_variable_ok ?_
  simp (disch := first | assumption | omega | ((simp only [size_alloc, sz_drew, size_upd, List.size_toArray, List.length_cons, List.length_nil]) <;> omega) | decide) only [sh_Pr_parser_variable, Pr, PX, PC, NX, ends, fillL, wrL, sOf, Nat.reduceAdd, Nat.reduceMul, Nat.reduceLeDiff, Nat.reduceEqDiff, Int.reduceToNat, Int.reduceAdd, Int.reduceLT, Int.reduceLE, ↓reduceIte, forall_const, eq_self, zG1, zG2, al_69, bd_69, br_38_1, fa_58_2, fa_60_1, fa_60_2, ix_38, ld_3, ld_38, ld_69, ld_9, ln_38, st_38, st_69]
  refine ⟨fun n s w1 => ∃ j : Nat, j ≤ vars.length ∧ n = vars.length - j ∧ s 5 = .int .i64 j ∧ Ext ((w.alloc (.cells #[.int .u8 kd, .string (bs t.text), .int .i64 t.pos] 60)).alloc (.cells #[.int .u8 0, .string (bs []), .int .i64 0, .int .i64 0, .slice none 0 0] 69)) w1 ∧
      (t.text ≠ [95] → ∀ i, i < j → vars.getD i [] ≠ t.text) ∧ (t.text = [95] → j = 0),
    ⟨vars.length, 0, Nat.zero_le _, rfl, rfl, FrM.refl _ _, fun _ i hi => absurd hi (Nat.not_lt_zero _), fun _ => rfl⟩, ?_⟩
  intro n s dd w1 hI
  refine toPr ?_
  obtain ⟨j, hj, rfl, h5, hf, hno, hno2⟩ := hI
  have hz := hf.size
  rw [size_alloc, size_alloc] at hz
  have b1 : w1.heap[w.heap.size]? = some (.cells #[.int .u8 kd, .string (bs t.text), .int .i64 t.pos] 60 (0, 0)) := hf.ext _ _ (blk_alloc_old (blk_alloc_new w _))
  have b2 : w1.heap[w.heap.size + 1]? = some (.cells #[.int .u8 0, .string (bs []), .int .i64 0, .int .i64 0, .slice none 0 0] 69 (0, 0)) := hf.ext _ _ (hp_alloc_new (by rw [size_alloc]))
  have hf1 : Ext w w1 := (((FrM.refl _ _).alloc _).alloc _).trans hf
  have hx1 := hx.ext hf1
  have h3 := hx1.cell
  have hv12 : vars.length ≤ 12 := nv
  have hfound : ∀ {w2 : World}, Ext w w2 → t.text ≠ [95] → j < vars.length → vars.getD j [] = t.text →
      RPostX pb tb T d w (P.pVar t k vars) (.returned (.agg #[.int .u8 118, .string (bs []), .int .i64 0, .int .i64 j, .slice none 0 0])) w2 := fun hf2 ht hj hg => by
    have e : vars.idxOf? t.text = some j := by
      rw [List.idxOf?_eq_some_iff]
      refine ⟨hj, ?_, fun i hi => ?_⟩
      · simpa [List.getD, hj] using hg
      · have := hno ht i hi
        simpa [List.getD, show i < vars.length by omega] using this
    unfold P.pVar
    rw [if_neg ht, e]
    exact ⟨_, _, _, _, _, rfl, ⟨rfl, rfl, rfl, rfl, rfl, .of (by decide)⟩, hf2.toM, isRx_var _ _ _, h.ext hf2⟩
  have hend : t.text = [95] ∨ (∀ i, i < vars.length → vars.getD i [] ≠ t.text) → (if t.text = [95] then none else vars.idxOf? t.text) = none := fun h0 => by
    by_cases ht : t.text = [95]
    · rw [if_pos ht]
    · rw [if_neg ht]
      have h0 := h0.resolve_left ht
      rw [List.idxOf?_eq_none_iff]
      intro hm
      obtain ⟨i, hi, e⟩ := List.getElem_of_mem hm
      exact h0 i hi (by simp [List.getD, hi, e])
  have hnew : ∀ {bx2 : Nat}, bx2 = w.heap.size + 1 → (if t.text = [95] then none else vars.idxOf? t.text) = none → vars.length ≠ 12 →
      VT (.pointer (some ⟨pb, 0, none⟩)) (.pointer (some ⟨w.heap.size, 0, none⟩)) (.pointer (some ⟨bx2, 0, none⟩)) w1 (RPostX pb tb T d w (P.pVar t k vars)) := fun hb0 he hne => by
    subst hb0
    refine rVarTail hx1 (.inl (by omega)) l1 (Nat.lt_succ_self _) b1 b2 fun w' hP hF => ?_
    unfold P.pVar
    rw [he]
    dsimp only
    rw [if_neg (show ¬ vars.length = P.maxVars from hne)]
    exact ⟨_, _, _, _, _, rfl, ⟨rfl, rfl, rfl, rfl, rfl, .of (by decide)⟩, hF w hf1.toM (Nat.le_refl _), isRx_var _ _ _, hP⟩
  have hfull : ∀ {bx2 : Nat} {w2 : World}, bx2 = w.heap.size + 1 → (if t.text = [95] then none else vars.idxOf? t.text) = none → vars.length = 12 → RP w2 pb tb T k vars d 4 t.pos → RFr pb w1 w2 →
      VT (.pointer (some ⟨pb, 0, none⟩)) (.pointer (some ⟨w.heap.size, 0, none⟩)) (.pointer (some ⟨bx2, 0, none⟩)) w2 (RPostX pb tb T d w (P.pVar t k vars)) := fun hb0 he hne hP2 hF2 => by
    subst hb0
    obtain ⟨lc2, vv2, hx2⟩ := hP2
    refine rVarTail hx2 (.inr ⟨by decide, by omega⟩) l1 (Nat.lt_succ_self _) (SFr.keep hF2 b1 (by omega) (by decide)) (SFr.keep hF2 b2 (by omega) (by decide)) fun w' hP hF => ?_
    unfold P.pVar
    rw [he]
    dsimp only
    rw [if_pos (show vars.length = P.maxVars from hne)]
    exact ⟨_, _, _, _, _, rfl, ⟨rfl, rfl, rfl, rfl, rfl, .of (by decide)⟩, hF w (hf1.toM.trans hF2) (Nat.le_refl _), by decide, _, _, hP⟩
  by_cases hlt : j < vars.length
  · by_cases ht : t.text = [95]
    · have hj0 := hno2 ht
      subst hj0
      have he := hend (.inl ht)
      by_cases h12 : vars.length = 12
      · simp (disch := first | assumption | omega | ((simp only [size_alloc, sz_drew, size_upd, List.size_toArray, List.length_cons, List.length_nil]) <;> omega) | decide) only [sh_Pr_parser_variable, Pr, PX, PC, NX, ends, fillL, wrL, sOf, Nat.reduceAdd, Nat.reduceMul, Nat.reduceLeDiff, Nat.reduceEqDiff, Int.reduceToNat, Int.reduceAdd, Int.reduceLT, Int.reduceLE, ↓reduceIte, forall_const, eq_self, zG1, zG2, al_69, bd_69, br_38_1, fa_58_2, fa_60_1, fa_60_2, ix_38, ld_3, ld_38, ld_69, ld_9, ln_38, st_38, st_69, h3, b1, b2, h5, ht, h12]
        refine (rFault (RP.of hx1) 4 _).mono ?_
        rintro e w2 ⟨rfl, hP2, hF2⟩
        rw [if_pos rfl, if_pos rfl] at hP2
        exact fun _ => hfull (by rw [size_alloc]) he h12 hP2 hF2
      · simp (disch := first | assumption | omega | ((simp only [size_alloc, sz_drew, size_upd, List.size_toArray, List.length_cons, List.length_nil]) <;> omega) | decide) only [sh_Pr_parser_variable, Pr, PX, PC, NX, ends, fillL, wrL, sOf, Nat.reduceAdd, Nat.reduceMul, Nat.reduceLeDiff, Nat.reduceEqDiff, Int.reduceToNat, Int.reduceAdd, Int.reduceLT, Int.reduceLE, ↓reduceIte, forall_const, eq_self, zG1, zG2, al_69, bd_69, br_38_1, fa_58_2, fa_60_1, fa_60_2, ix_38, ld_3, ld_38, ld_69, ld_9, ln_38, st_38, st_69, h3, b1, b2, h5, ht]
        exact hnew (by rw [size_alloc]) he h12
    · obtain ⟨g, cap, cur, hvv, hg1, hg2, hg3⟩ := own_str hx1.own hlt
      injection hvv with hva _ hvc
      subst hva
      subst hvc
      have lg := ltOf hg2
      by_cases he : vars.getD j [] = t.text
      · rw [he] at hg3
        simp (disch := first | assumption | omega | ((simp only [size_alloc, sz_drew, size_upd, List.size_toArray, List.length_cons, List.length_nil]) <;> omega) | decide) only [sh_Pr_parser_variable, Pr, PX, PC, NX, ends, fillL, wrL, sOf, Nat.reduceAdd, Nat.reduceMul, Nat.reduceLeDiff, Nat.reduceEqDiff, Int.reduceToNat, Int.reduceAdd, Int.reduceLT, Int.reduceLE, ↓reduceIte, forall_const, eq_self, zG1, zG2, al_69, bd_69, br_38_1, fa_58_2, fa_60_1, fa_60_2, ix_38, ld_3, ld_38, ld_69, ld_9, ln_38, st_38, st_69, h3, b1, b2, h5, hg2, hg3]
        exact hfound (hf1.drew.upd (.inr (by omega))) ht hlt he
      · simp (disch := first | assumption | omega | ((simp only [size_alloc, sz_drew, size_upd, List.size_toArray, List.length_cons, List.length_nil]) <;> omega) | decide) only [sh_Pr_parser_variable, Pr, PX, PC, NX, ends, fillL, wrL, sOf, Nat.reduceAdd, Nat.reduceMul, Nat.reduceLeDiff, Nat.reduceEqDiff, Int.reduceToNat, Int.reduceAdd, Int.reduceLT, Int.reduceLE, ↓reduceIte, forall_const, eq_self, zG1, zG2, al_69, bd_69, br_38_1, fa_58_2, fa_60_1, fa_60_2, ix_38, ld_3, ld_38, ld_69, ld_9, ln_38, st_38, st_69, h3, b1, b2, h5, hg2, hg3]
        refine ⟨vars.length - (j + 1), by omega, j + 1, by omega, rfl, rfl, hf.drew, fun _ i hi => ?_, fun h => absurd h ht⟩
        rcases Nat.lt_or_ge i j with h1 | h1
        · exact hno ht i h1
        · obtain rfl : i = j := by omega
          exact he
  · have he := hend (by
      by_cases ht : t.text = [95]
      · exact .inl ht
      · exact .inr fun i hi => hno ht i (by omega))
    by_cases h12 : vars.length = 12
    · simp (disch := first | assumption | omega | ((simp only [size_alloc, sz_drew, size_upd, List.size_toArray, List.length_cons, List.length_nil]) <;> omega) | decide) only [sh_Pr_parser_variable, Pr, PX, PC, NX, ends, fillL, wrL, sOf, Nat.reduceAdd, Nat.reduceMul, Nat.reduceLeDiff, Nat.reduceEqDiff, Int.reduceToNat, Int.reduceAdd, Int.reduceLT, Int.reduceLE, ↓reduceIte, forall_const, eq_self, zG1, zG2, al_69, bd_69, br_38_1, fa_58_2, fa_60_1, fa_60_2, ix_38, ld_3, ld_38, ld_69, ld_9, ln_38, st_38, st_69, h3, b1, b2, h5, h12]
      refine (rFault (RP.of hx1) 4 _).mono ?_
      rintro e w2 ⟨rfl, hP2, hF2⟩
      rw [if_pos rfl, if_pos rfl] at hP2
      exact fun _ => hfull (by rw [size_alloc]) he h12 hP2 hF2
    · simp (disch := first | assumption | omega | ((simp only [size_alloc, sz_drew, size_upd, List.size_toArray, List.length_cons, List.length_nil]) <;> omega) | decide) only [sh_Pr_parser_variable, Pr, PX, PC, NX, ends, fillL, wrL, sOf, Nat.reduceAdd, Nat.reduceMul, Nat.reduceLeDiff, Nat.reduceEqDiff, Int.reduceToNat, Int.reduceAdd, Int.reduceLT, Int.reduceLE, ↓reduceIte, forall_const, eq_self, zG1, zG2, al_69, bd_69, br_38_1, fa_58_2, fa_60_1, fa_60_2, ix_38, ld_3, ld_38, ld_69, ld_9, ln_38, st_38, st_69, h3, b1, b2, h5]
      exact hnew (by rw [size_alloc]) he h12
end Go.Proofs.YtkmpelgfhjgddaaGreatDoor
