/- A part of one proof (RD6, PureD2, RD7); no conditions beyond what each theorem names. -/
import Derived.Test.YtkmpelgfhjgddaaGreatDoorPkRAX
set_option linter.all false
set_option linter.unusedVariables false
set_option linter.unusedSimpArgs false
namespace Go.Proofs.YtkmpelgfhjgddaaGreatDoor
open Go.RowKit Sx
set_option maxRecDepth 100000
theorem RHp.ty {A : Nat → Prop} {w : World} {hb : Nat} {H : P.Hp} (h : RHp A w hb H) {b : Nat} {cs : Array Value} {t : Nat} {z : Nat × Nat} (hb' : w.heap[b]? = some (.cells cs t z))
    (ht : t ≠ 129 ∧ t ≠ 5 ∧ t ≠ 9 ∧ t ≠ 2 ∧ t ≠ 73 ∧ t ≠ 3) : ¬ OwnOf w hb b := by
  obtain ⟨kv, nv, iv, av, tv, rv, ars, hx⟩ := h
  rintro (rfl | ⟨cs', T, g1, u, g2, g3⟩)
  · rw [hx.q.cell] at hb'
    injection hb' with hb'
    injection hb' with _ hb' _
    exact ht.1 hb'.symm
  · rw [hx.q.cell] at g1
    injection g1 with g1
    injection g1 with g1 _ _
    subst g1
    simp only [List.mem_append, List.mem_map] at g2
    rcases g2 with ⟨r, hr, rfl⟩ | g2
    · have ho := hx.q.own r hr
      rcases ho.2 with ⟨h0, -⟩ | ⟨g, cap, cur, q1, q2, q3, -⟩
      · rw [h0] at g3; cases g3
      · rw [q1] at g3
        simp only [Value.ownBlock, Option.some.injEq] at g3
        subst g3
        rw [q3] at hb'
        injection hb' with hb'
        injection hb' with _ hb' _
        simp only [List.mem_cons, List.not_mem_nil, or_false] at hr
        rcases hr with rfl | rfl | rfl | rfl | rfl | rfl
        · exact ht.2.1 hb'.symm
        · exact ht.2.2.1 hb'.symm
        · exact ht.2.2.2.1 hb'.symm
        · exact ht.2.2.2.2.1 hb'.symm
        · exact ht.2.2.2.2.2 hb'.symm
        · exact ht.2.2.2.2.2 hb'.symm
    · rw [hx.q.tl u g2] at g3; cases g3
theorem RHp.keepE {A : Nat → Prop} {w w' : World} {hb : Nat} {H : P.Hp} (h : RHp A w hb H) (hf : HFr hb w w') (F : Nat → Prop) : Keeps F 69 w w' := fun b _ _ hc => hf.fr.block b _ hc (h.ty hc (by decide))
theorem P.mades_snoc (vs : List Nat) (x : P.Ex) : ∀ (l : List P.Ex) (H : P.Hp), (H.mades vs (l ++ [x])).1 = ((H.mades vs l).1.made vs x).1 ∧ (H.mades vs (l ++ [x])).2 = (H.mades vs l).2 ++ [((H.mades vs l).1.made vs x).2]
  | [], H => by simp [P.Hp.mades]
  | y :: l, H => by
    obtain ⟨h1, h2⟩ := P.mades_snoc vs x l (H.made vs y).1
    simp [P.Hp.mades, h1, h2]
mutual
theorem P.made_len (vs : List Nat) : ∀ (x : P.Ex) (H : P.Hp), (H.made vs x).1.nodes.length ≤ H.nodes.length + P.exSz x
  | .mk kind name n k args, H => by
    unfold P.Hp.made
    split
    · simp [P.exSz]
    · have := P.mades_len vs args H
      simp only [P.Hp.add, List.length_append, List.length_cons, List.length_nil, P.exSz]
      omega
  termination_by structural x => x
theorem P.mades_len (vs : List Nat) : ∀ (l : List P.Ex) (H : P.Hp), (H.mades vs l).1.nodes.length ≤ H.nodes.length + P.exSzs l
  | [], H => by simp [P.Hp.mades, P.exSzs]
  | x :: xs, H => by
    have h1 := P.made_len vs x H
    have h2 := P.mades_len vs xs (H.made vs x).1
    simp only [P.Hp.mades, P.exSzs]
    omega
  termination_by structural x => x
end
theorem P.exSzs_take : ∀ (l : List P.Ex) (j : Nat), P.exSzs (l.take j) ≤ P.exSzs l
  | [], j => by simp
  | x :: xs, 0 => by simp [P.exSzs]
  | x :: xs, j + 1 => by have := P.exSzs_take xs j; simp only [List.take_succ_cons, P.exSzs]; omega
theorem P.exSz_at : ∀ (l : List P.Ex) (j : Nat) (hj : j < l.length), P.exSzs (l.take j) + P.exSz l[j] ≤ P.exSzs l
  | x :: xs, 0, _ => by simp [P.exSzs]
  | x :: xs, j + 1, hj => by
    have := P.exSz_at xs j (by simpa using hj)
    simp only [List.take_succ_cons, P.exSzs, List.getElem_cons_succ]
    omega
theorem IsRw.at {F : Nat → Prop} {w : World} {et m : Nat} {v : Value} {n : Nat} {vs : List Value} (h : IsRw F w et m v n vs) {j : Nat} (hj : j < n) : ∃ b cap cs, v = .slice (some ⟨b, 0, none⟩) n cap ∧ F b ∧ w.heap[b]? = some (.cells cs et (0, 0)) ∧
    m * n ≤ cs.size ∧ (cs.toList.drop (m * j)).take m = (vs.drop (m * j)).take m ∧ n ≤ 9223372036854775807 := by
  rcases h with ⟨rfl, -, -⟩ | ⟨b, cap, cs, h1, h2, h3, h4, h5, h6⟩
  · omega
  · refine ⟨b, cap, cs, h1, h2, h3, h4, ?_, h6⟩
    have : m * j + m ≤ m * n := by
      have := Nat.mul_le_mul_left m (show j + 1 ≤ n by omega)
      rw [Nat.mul_succ] at this
      exact this
    rw [← h5, List.drop_take, List.take_take, Nat.min_eq_left (by omega)]
set_option maxHeartbeats 2000000 in
theorem rMadeN {vs : List Nat} : ∀ (N : Nat) (x : P.Ex), P.exSz x ≤ N → P.ExOk vs.length x → ∀ {A F G : Nat → Prop} {w : World} {hb : Nat} {H : P.Hp} {l : List Value} {vv : Value}, RHp A w hb H → (∀ b, w.heap.size ≤ b → A b) → H.nodes.length + P.exSz x ≤ 100000000 →
    IsRx F w l x → IsSl G w 3 vv (vs.map fun n => .int .i64 (n : Nat)) → (∀ b, G b → ¬ OwnOf w hb b) →
    Calls Tryz.prog 26 #[.pointer (some ⟨hb, 0, none⟩), .agg l.toArray, vv] w fun e w' => e = .returned (.int .i64 ((H.made vs x).2 : Nat)) ∧ RHp A w' hb (H.made vs x).1 ∧ HFr hb w w'
  | 0, x, hN, _, _, _, _, _, _, _, _, _, _, _, _, _, _, _ => by cases x; simp [P.exSz] at hN
  | N + 1, .mk kind name n k args, hN, hok, A, F, G, w, hb, H, l, vv, h, hA, hsz, hx, hvv, hG => by
    have ih := rMadeN (vs := vs) N
    unfold P.ExOk at hok
    obtain ⟨o1, o2, o3, o4, o5, o6, o7, o8⟩ := hok
    unfold IsRx at hx
    obtain ⟨av, us, rfl, hrw, hxs⟩ := hx
    obtain ⟨ra, rc, rfl⟩ := hrw.shape
    unfold P.exSz at hN hsz
    have hl := h.lt
    refine sh_Pr_Heap_made_ok ?_
    obtain ⟨wA, hwA⟩ : ∃ y, y = w.alloc (.cells #[.int .u8 kind, .string (bs name), .int .i64 n, .int .i64 k, .slice ra args.length rc] 69 (0, 0)) := ⟨_, rfl⟩
    have sA : wA.heap.size = w.heap.size + 1 := by rw [hwA]; simp
    have hEA : Ext w wA := by rw [hwA]; (repeat (first | assumption | exact FrM.refl _ _ | (refine FrM.upd ?_ (.inr (by (try simp only [size_alloc, sz_drew, size_upd, List.size_toArray, List.length_cons, List.length_nil]) <;> omega))) | refine FrM.alloc ?_ _ | refine FrM.drew ?_))
    have qA : wA.heap[w.heap.size]? = some (.cells #[.int .u8 kind, .string (bs name), .int .i64 n, .int .i64 k, .slice ra args.length rc] 69 (0, 0)) := by rw [hwA]; simp (disch := first | assumption | omega | ((simp only [size_alloc, sz_drew, size_upd, List.size_toArray, List.length_cons, List.length_nil]) <;> omega) | decide) only [hp_alloc_old, hp_alloc_new, hp_upd_same, hp_upd_other, hp_drew, sz_drew, size_upd, size_alloc]
    have hfA : HFr hb w wA := HFr.ofExt hEA hl
    have hRA := h.ext hEA
    by_cases h118 : kind = 118
    · have h118' : (kind : Int) = 118 := by omega
      have hkv := o4 h118
      have hlv : (vs.map fun n => (.int .i64 (n : Nat) : Value)).length = vs.length := by simp
      obtain ⟨gb, gcs, rfl, g1, g2, g3⟩ := hvv.at' (j := k) (by rw [hlv]; exact hkv)
      have e3 : gcs[k]? = some (.int .i64 ((vs.getD k 0 : Nat))) := by
        rw [g3]; simp [hkv, List.getD_eq_getElem?_getD]
      have ekv : ((k : Nat) : Int).toNat = k := by omega
      have g2' := hEA.ext _ _ g2
      rw [hlv]
      simp (disch := first | assumption | omega | ((simp only [size_alloc, sz_drew, size_upd, List.size_toArray, List.length_cons, List.length_nil]) <;> omega) | decide) only [sh_Pr_Heap_made, Pr, PX, PC, NX, ends, fillL, wrL, sOf, Nat.reduceAdd, Nat.reduceMul, Nat.reduceLeDiff, Nat.reduceEqDiff, Int.reduceToNat, Int.reduceAdd, Int.reduceLT, Int.reduceLE, ↓reduceIte, forall_const, eq_self, zG1, zG2, br_73_1, fa_69_0, fa_69_1, fa_69_2, fa_69_3, fa_69_4, ix_34, ix_73, ld_2, ld_3, ld_34, ld_5, ld_69, ld_9, ln_34]
      rw [← hwA]
      simp (disch := first | assumption | omega | ((simp only [size_alloc, sz_drew, size_upd, List.size_toArray, List.length_cons, List.length_nil]) <;> omega) | decide) only [sh_Pr_Heap_made, Pr, PX, PC, NX, ends, fillL, wrL, sOf, Nat.reduceAdd, Nat.reduceMul, Nat.reduceLeDiff, Nat.reduceEqDiff, Int.reduceToNat, Int.reduceAdd, Int.reduceLT, Int.reduceLE, ↓reduceIte, forall_const, eq_self, zG1, zG2, br_73_1, fa_69_0, fa_69_1, fa_69_2, fa_69_3, fa_69_4, ix_34, ix_73, ld_2, ld_3, ld_34, ld_5, ld_69, ld_9, ln_34, g2', e3, ekv, qA]
      rw [P.Hp.made, if_pos h118, ← hwA]
      exact ⟨rfl, hRA, hfA⟩
    · have h118' : ¬ (kind : Int) = 118 := by omega
      simp (disch := first | assumption | omega | ((simp only [size_alloc, sz_drew, size_upd, List.size_toArray, List.length_cons, List.length_nil]) <;> omega) | decide) only [sh_Pr_Heap_made, Pr, PX, PC, NX, ends, fillL, wrL, sOf, Nat.reduceAdd, Nat.reduceMul, Nat.reduceLeDiff, Nat.reduceEqDiff, Int.reduceToNat, Int.reduceAdd, Int.reduceLT, Int.reduceLE, ↓reduceIte, forall_const, eq_self, zG1, zG2, br_73_1, fa_69_0, fa_69_1, fa_69_2, fa_69_3, fa_69_4, ix_34, ix_73, ld_2, ld_3, ld_34, ld_5, ld_69, ld_9, ln_34]
      rw [← hwA]
      rw [show H.made vs (.mk kind name n k args) = ((H.mades vs args).1.add ⟨kind, name, n, (H.mades vs args).2⟩, (H.mades vs args).1.nodes.length) by rw [P.Hp.made, if_neg h118]]
      refine ⟨fun m z w' => ∃ j v, z 8 = .int .i64 (j : Nat) ∧ z 7 = v ∧ j ≤ args.length ∧ m = args.length - j ∧ RHp (fun b => A b ∧ some b ≠ v.ownBlock) w' hb (H.mades vs (args.take j)).1 ∧ HFr hb wA w' ∧
          w'.ownsRow wA.heap.size 3 1 v j ((H.mades vs (args.take j)).2.map fun n => .int .i64 (n : Nat)) ∧ (∀ k, v.ownBlock = some k → ¬ OwnOf w' hb k),
        ⟨_, 0, .slice none 0 0, rfl, rfl, Nat.zero_le _, rfl, by simpa [P.Hp.mades] using hRA.mono (B := fun b => A b ∧ some b ≠ (Value.slice none 0 0).ownBlock) (fun b _ h => ⟨h, by simp [Value.ownBlock]⟩), HFr.refl _ _, World.ownsRow_nil _ _ _ _, fun k hk => by cases hk⟩, ?_⟩
      intro m z d w1 hI
      refine toPr ?_
      obtain ⟨j, v, h8, rfl, hj, rfl, h1, hf1, ho1, hn1⟩ := hI
      have s1 := hf1.fr.size
      have hf01 := hfA.trans hf1
      have q1 := hf1.fr.block _ _ qA (hRA.ty qA (by decide))
      have hlen1 := P.mades_len vs (args.take j) H
      have hst := P.exSzs_take args j
      by_cases hlt : j < args.length
      · have hse := P.exSz_at args j hlt
        obtain ⟨eb, ecap, ecs, e1, e2, e3, e4, e5, e6⟩ := hrw.at hlt
        simp only [Value.slice.injEq, true_and] at e1
        obtain ⟨rfl, rfl⟩ := e1
        have e3' := hf01.fr.block _ _ e3 (h.ty e3 (by decide))
        have hxj := (IsRxs.at j hlt hxs).mono (fun _ h => h) (h.keepE hf01 F)
        have ejn : ((j : Nat) : Int).toNat = j := by omega
        have emul : j * 5 = 5 * j := by omega
        have hszr : j * 5 + 5 ≤ ecs.size := by
          have : 5 * (j + 1) ≤ 5 * args.length := Nat.mul_le_mul_left 5 (by omega)
          omega
        simp (disch := first | assumption | omega | ((simp only [size_alloc, sz_drew, size_upd, List.size_toArray, List.length_cons, List.length_nil]) <;> omega) | decide) only [sh_Pr_Heap_made, Pr, PX, PC, NX, ends, fillL, wrL, sOf, Nat.reduceAdd, Nat.reduceMul, Nat.reduceLeDiff, Nat.reduceEqDiff, Int.reduceToNat, Int.reduceAdd, Int.reduceLT, Int.reduceLE, ↓reduceIte, forall_const, eq_self, zG1, zG2, br_73_1, fa_69_0, fa_69_1, fa_69_2, fa_69_3, fa_69_4, ix_34, ix_73, ld_2, ld_3, ld_34, ld_5, ld_69, ld_9, ln_34, h8, q1, e3', ejn]
        rw [show List.take 5 (List.drop (j * 5) ecs.toList) = List.take 5 (List.drop (5 * j) us) by rw [emul]; exact e5]
        have hvv1 : IsSl (fun b => ¬ OwnOf w1 hb b) w1 3 vv (vs.map fun n => .int .i64 (n : Nat)) := by
          have := slKeepH (A := fun _ => True) hf01 (hvv.mono (F' := fun b => ¬ OwnOf w hb b ∧ True) (fun b hb => ⟨hG b hb, trivial⟩) fun _ _ _ h => h)
          exact this.mono (fun b h => h.1) fun _ _ _ h => h
        refine Calls.mono (ih args[j] (by omega) (o8.at hlt) h1 (fun b hb' => ⟨hA b (by omega), fun e => by have := (ho1.lt b e.symm).2; omega⟩) (by omega) hxj hvv1 (fun _ h => h)) ?_
        rintro e w2 ⟨rfl, h2, hf2⟩
        have s2 := hf2.fr.size
        have ho2 : w2.ownsRow wA.heap.size 3 1 (z 7) j ((H.mades vs (args.take j)).2.map fun n => .int .i64 (n : Nat)) := by
          obtain ⟨g0, g1⟩ := ho1
          refine ⟨g0, ?_⟩
          rcases g1 with g1 | ⟨g, cap, cur, q1, q2, q3, q4⟩
          · exact .inl g1
          · exact .inr ⟨g, cap, cur, q1, q2, hf2.fr.block _ _ q3 (hn1 g (by rw [q1]; rfl)), q4⟩
        have hn2 : ∀ k, (z 7).ownBlock = some k → ¬ OwnOf w2 hb k := fun k hk ho => by
          rcases hf2.own k ho with h | h
          · exact hn1 k hk h
          · have := (ho1.lt k hk).2; omega
        simp (disch := first | assumption | omega | ((simp only [size_alloc, sz_drew, size_upd, List.size_toArray, List.length_cons, List.length_nil]) <;> omega) | decide) only [sh_Pr_Heap_made, Pr, PX, PC, NX, ends, fillL, wrL, sOf, Nat.reduceAdd, Nat.reduceMul, Nat.reduceLeDiff, Nat.reduceEqDiff, Int.reduceToNat, Int.reduceAdd, Int.reduceLT, Int.reduceLE, ↓reduceIte, forall_const, eq_self, zG1, zG2, br_73_1, fa_69_0, fa_69_1, fa_69_2, fa_69_3, fa_69_4, ix_34, ix_73, ld_2, ld_3, ld_34, ld_5, ld_69, ld_9, ln_34, h8]
        obtain ⟨m1, m2⟩ := P.mades_snoc vs args[j] (args.take j) H
        rw [List.take_append_getElem hlt] at m1 m2
        rw [← m1] at h2
        refine wr_appI (A := A) h2 ho2 hn2 rfl rfl (by omega) (by omega) ?_
        intro v' w3 ho3 h3 hn3 hf3 hk3
        obtain ⟨rb, rd, rfl⟩ := own_slice ho3
        simp (disch := first | assumption | omega | ((simp only [size_alloc, sz_drew, size_upd, List.size_toArray, List.length_cons, List.length_nil]) <;> omega) | decide) only [sh_Pr_Heap_made, Pr, PX, PC, NX, ends, fillL, wrL, sOf, Nat.reduceAdd, Nat.reduceMul, Nat.reduceLeDiff, Nat.reduceEqDiff, Int.reduceToNat, Int.reduceAdd, Int.reduceLT, Int.reduceLE, ↓reduceIte, forall_const, eq_self, zG1, zG2, br_73_1, fa_69_0, fa_69_1, fa_69_2, fa_69_3, fa_69_4, ix_34, ix_73, ld_2, ld_3, ld_34, ld_5, ld_69, ld_9, ln_34, h8]
        refine ⟨_, by omega, j + 1, _, by simp [sOf], by simp [sOf], by omega, rfl, h3, hf3 wA (hf1.trans hf2) (Nat.le_refl _), ?_, hn3⟩
        rw [m2, List.map_append]
        exact ho3
      · have hjn : j = args.length := by omega
        subst hjn
        rw [List.take_length] at h1 ho1 hlen1
        obtain ⟨rb, rd, hz7⟩ := own_slice ho1
        simp (disch := first | assumption | omega | ((simp only [size_alloc, sz_drew, size_upd, List.size_toArray, List.length_cons, List.length_nil]) <;> omega) | decide) only [sh_Pr_Heap_made, Pr, PX, PC, NX, ends, fillL, wrL, sOf, Nat.reduceAdd, Nat.reduceMul, Nat.reduceLeDiff, Nat.reduceEqDiff, Int.reduceToNat, Int.reduceAdd, Int.reduceLT, Int.reduceLE, ↓reduceIte, forall_const, eq_self, zG1, zG2, br_73_1, fa_69_0, fa_69_1, fa_69_2, fa_69_3, fa_69_4, ix_34, ix_73, ld_2, ld_3, ld_34, ld_5, ld_69, ld_9, ln_34, h8, q1]
        have hll : ((H.mades vs args).2.map fun n => (.int .i64 (n : Nat) : Value)).length = args.length := by simpa using ho1.1
        refine Calls.mono (rAdd (l := (H.mades vs args).2) (G := fun b => (z 7).ownBlock = some b) (h1.mono fun b _ h => h.1) (by omega) kind name n (fun b hb' => ⟨hn1 b hb', hA b (by have := (ho1.lt b hb').1; omega)⟩)
          (own_IsSl ho1 fun b hb' => hb')) ?_
        rintro e w2 ⟨rfl, h2, hf2⟩
        simp (disch := first | assumption | omega | ((simp only [size_alloc, sz_drew, size_upd, List.size_toArray, List.length_cons, List.length_nil]) <;> omega) | decide) only [sh_Pr_Heap_made, Pr, PX, PC, NX, ends, fillL, wrL, sOf, Nat.reduceAdd, Nat.reduceMul, Nat.reduceLeDiff, Nat.reduceEqDiff, Int.reduceToNat, Int.reduceAdd, Int.reduceLT, Int.reduceLE, ↓reduceIte, forall_const, eq_self, zG1, zG2, br_73_1, fa_69_0, fa_69_1, fa_69_2, fa_69_3, fa_69_4, ix_34, ix_73, ld_2, ld_3, ld_34, ld_5, ld_69, ld_9, ln_34]
        exact ⟨h2, hf01.trans hf2⟩
end Go.Proofs.YtkmpelgfhjgddaaGreatDoor
namespace Go.Proofs.YtkmpelgfhjgddaaGreatDoor.P
structure Hp.Ok (H : Hp) : Prop where
  to : ∀ t, t < H.nodes.length → H.toOf t < H.nodes.length
  name : ∀ t, t < H.nodes.length → (H.nd t).name.length ≤ 20
  num : ∀ t, t < H.nodes.length → -9223372036854775808 ≤ (H.nd t).n ∧ (H.nd t).n ≤ 9223372036854775807
  kind : ∀ t, t < H.nodes.length → (H.nd t).kind = 97 ∨ (H.nd t).kind = 110 ∨ (H.nd t).kind = 118 ∨ (H.nd t).kind = 99
  args : ∀ t, t < H.nodes.length → (H.nd t).args.length ≤ 100000 ∧ ∀ a ∈ (H.nd t).args, a < H.nodes.length
theorem Hp.walk_lt' {H : Hp} (hc : H.Ok) : ∀ {f t t' : Nat}, t < H.nodes.length → H.walk f t = some t' → t' < H.nodes.length
  | 0, t, t', ht, h => by
    rw [Hp.walk] at h
    split at h
    · cases h
    · injection h with h; omega
  | f + 1, t, t', ht, h => by
    rw [Hp.walk] at h
    split at h
    · refine walk_lt' hc ?_ h
      have := hc.to t ht
      omega
    · injection h with h; omega
theorem getD_lt {l : List Nat} {n i : Nat} (h : ∀ a ∈ l, a < n) (hi : i < l.length) : l.getD i 0 < n := by
  rw [List.getD_eq_getElem?_getD, List.getElem?_eq_getElem hi]
  exact h _ (List.getElem_mem _)
theorem Hp.power_two {H : Hp} {t : Nat} (h : H.power t ≠ 0) : (H.nd t).args.length = 2 ∧ H.power t ≤ 2 := by
  unfold Hp.power at h ⊢
  split at h
  · exact absurd rfl h
  · rename_i hk
    rw [if_neg hk]
    unfold P.power at h ⊢
    split at h
    · exact absurd rfl h
    · rename_i h2
      refine ⟨by simpa using h2, ?_⟩
      rw [if_neg h2]
      split
      · omega
      · split <;> omega
theorem Xb_some {x : Option Xr} {k : Bs → Nat → List Nat → Option Xr} {r : Xr} (h : Xb x k = some r) : ∃ s c l, x = some (s, c, l) ∧ k s c l = some r := by
  unfold Xb at h
  split at h
  · cases h
  · exact ⟨_, _, _, rfl, h⟩
structure MonH (H : Hp) (f : Nat) : Prop where
  text : ∀ t least c seen s c' l, H.text f t least c seen = some (s, c', l) → c + 1 ≤ c' ∧ l.length ≤ seen.length + (c' - c)
  targs : ∀ ars first out c seen s c' l, H.targs f ars first out c seen = some (s, c', l) → c ≤ c' ∧ l.length ≤ seen.length + (c' - c)
  list : ∀ t out c seen s c' l, H.list f t out c seen = some (s, c', l) → c ≤ c' ∧ l.length ≤ seen.length + (c' - c)
theorem monH (H : Hp) : ∀ f, MonH H f
  | 0 => ⟨fun _ _ _ _ _ _ _ h => by simp [Hp.text] at h, fun _ _ _ _ _ _ _ _ h => by simp [Hp.targs] at h, fun _ _ _ _ _ _ _ h => by simp [Hp.list] at h⟩
  | f + 1 => by
    have ih := monH H f
    refine ⟨?_, ?_, ?_⟩
    · intro t least c seen s c' l h
      rw [Hp.text] at h
      split at h
      · simp only [Option.some.injEq, Prod.mk.injEq] at h; obtain ⟨-, rfl, rfl⟩ := h; omega
      split at h
      · cases h
      split at h
      · simp only [Option.some.injEq, Prod.mk.injEq] at h; obtain ⟨-, rfl, rfl⟩ := h; omega
      split at h
      · simp only [Option.some.injEq, Prod.mk.injEq] at h; obtain ⟨-, rfl, rfl⟩ := h; omega
      split at h
      · split at h
        · simp only [Option.some.injEq, Prod.mk.injEq] at h; obtain ⟨-, rfl, rfl⟩ := h; omega
        · simp only [Option.some.injEq, Prod.mk.injEq] at h; obtain ⟨-, rfl, rfl⟩ := h; simp
      split at h
      · obtain ⟨a, c1, l1, h1, h2⟩ := Xb_some h
        obtain ⟨b, c2, l2, h3, h4⟩ := Xb_some h2
        simp only [Option.some.injEq, Prod.mk.injEq] at h4
        obtain ⟨-, rfl, rfl⟩ := h4
        have := ih.text _ _ _ _ _ _ _ h1
        have := ih.text _ _ _ _ _ _ _ h3
        omega
      split at h
      · have := ih.list _ _ _ _ _ _ _ h; omega
      · have := ih.targs _ _ _ _ _ _ _ _ h; omega
    · intro ars first out c seen s c' l h
      cases ars with
      | nil =>
        simp only [Hp.targs, Option.some.injEq, Prod.mk.injEq] at h
        obtain ⟨-, rfl, rfl⟩ := h; omega
      | cons a r =>
        rw [Hp.targs] at h
        obtain ⟨x, c1, l1, h1, h2⟩ := Xb_some h
        have := ih.text _ _ _ _ _ _ _ h1
        have := ih.targs _ _ _ _ _ _ _ _ h2
        omega
    · intro t out c seen s c' l h
      rw [Hp.list] at h
      obtain ⟨x, c1, l1, h1, h2⟩ := Xb_some h
      have := ih.text _ _ _ _ _ _ _ h1
      split at h2
      · cases h2
      split at h2
      · simp only [Option.some.injEq, Prod.mk.injEq] at h2; obtain ⟨-, rfl, rfl⟩ := h2; omega
      split at h2
      · simp only [Option.some.injEq, Prod.mk.injEq] at h2; obtain ⟨-, rfl, rfl⟩ := h2; omega
      split at h2
      · have := ih.list _ _ _ _ _ _ _ h2; omega
      · obtain ⟨y, c2, l2, h3, h4⟩ := Xb_some h2
        simp only [Option.some.injEq, Prod.mk.injEq] at h4
        obtain ⟨-, rfl, rfl⟩ := h4
        have := ih.text _ _ _ _ _ _ _ h3
        omega
structure LenH (H : Hp) (f : Nat) : Prop where
  text : ∀ t least c seen s c' l, t < H.nodes.length → seen.length ≤ c → c' ≤ 100000000000 → H.text f t least c seen = some (s, c', l) → s.length + 10 ≤ 40 * (c' - c)
  targs : ∀ ars first out c seen s c' l, (∀ a ∈ ars, a < H.nodes.length) → seen.length ≤ c → c' ≤ 100000000000 → H.targs f ars first out c seen = some (s, c', l) → s.length ≤ out.length + 40 * (c' - c) + 1
  list : ∀ t out c seen s c' l, t < H.nodes.length → (H.nd t).args.length = 2 → seen.length ≤ c → c' ≤ 100000000000 → H.list f t out c seen = some (s, c', l) → s.length ≤ out.length + 40 * (c' - c)
theorem lenH {H : Hp} (hk : H.Ok) : ∀ f, LenH H f
  | 0 => ⟨fun _ _ _ _ _ _ _ _ _ _ h => by simp [Hp.text] at h, fun _ _ _ _ _ _ _ _ _ _ _ h => by simp [Hp.targs] at h, fun _ _ _ _ _ _ _ _ _ _ _ h => by simp [Hp.list] at h⟩
  | f + 1 => by
    have ih := lenH hk f
    have mo := monH H f
    refine ⟨?_, ?_, ?_⟩
    · intro t least c seen s c' l ht hs hc h
      rw [Hp.text] at h
      split at h
      · simp only [Option.some.injEq, Prod.mk.injEq] at h; obtain ⟨rfl, rfl, rfl⟩ := h; simp
      split at h
      · cases h
      rename_i t' hw
      have ht' := Hp.walk_lt' hk ht hw
      split at h
      · simp only [Option.some.injEq, Prod.mk.injEq] at h; obtain ⟨rfl, rfl, rfl⟩ := h
        have := hk.name _ ht'; omega
      split at h
      · simp only [Option.some.injEq, Prod.mk.injEq] at h; obtain ⟨rfl, rfl, rfl⟩ := h
        have := hk.num _ ht'
        have := decI_len' this.1 this.2; omega
      split at h
      · split at h
        · rename_i k hk2
          have hk3 : k < seen.length := (List.idxOf?_eq_some_iff.1 hk2).1
          simp only [Option.some.injEq, Prod.mk.injEq] at h; obtain ⟨rfl, rfl, rfl⟩ := h
          have := decN_len (n := k + 1) (by omega)
          simp only [List.length_cons]; omega
        · simp only [Option.some.injEq, Prod.mk.injEq] at h; obtain ⟨rfl, rfl, rfl⟩ := h
          have := decN_len (n := seen.length + 1) (by omega)
          simp only [List.length_cons]; omega
      have hargs := hk.args _ ht'
      split at h
      · rename_i hp
        obtain ⟨hl2, -⟩ := Hp.power_two hp
        obtain ⟨a, c1, l1, h1, h2⟩ := Xb_some h
        obtain ⟨b, c2, l2, h3, h4⟩ := Xb_some h2
        simp only [Option.some.injEq, Prod.mk.injEq] at h4
        obtain ⟨rfl, rfl, rfl⟩ := h4
        have m1 := mo.text _ _ _ _ _ _ _ h1
        have m2 := mo.text _ _ _ _ _ _ _ h3
        have e1 := ih.text _ _ _ _ _ _ _ (getD_lt hargs.2 (by omega)) (by omega) (by omega) h1
        have e2 := ih.text _ _ _ _ _ _ _ (getD_lt hargs.2 (by omega)) (by omega) (by omega) h3
        have hn := hk.name _ ht'
        have hop : (if (H.nd t').name = [109, 111, 100] then ([32, 109, 111, 100, 32] : Bs) else (H.nd t').name).length ≤ 20 := by split <;> simp_all
        split
        · simp only [List.length_cons, List.length_append, List.length_nil]; omega
        · simp only [List.length_append]; omega
      split at h
      · rename_i hl
        have := ih.list _ _ _ _ _ _ _ ht' hl.2 (by omega) hc h
        have := mo.list _ _ _ _ _ _ _ h
        simp only [List.length_cons, List.length_nil] at *
        omega
      · have := ih.targs _ _ _ _ _ _ _ _ hargs.2 (by omega) hc h
        have := mo.targs _ _ _ _ _ _ _ _ h
        have := hk.name _ ht'
        simp only [List.length_append, List.length_cons, List.length_nil] at *
        omega
    · intro ars first out c seen s c' l ha hs hc h
      cases ars with
      | nil =>
        simp only [Hp.targs, Option.some.injEq, Prod.mk.injEq] at h
        obtain ⟨rfl, rfl, rfl⟩ := h; simp
      | cons a r =>
        rw [Hp.targs] at h
        obtain ⟨x, c1, l1, h1, h2⟩ := Xb_some h
        have m1 := mo.text _ _ _ _ _ _ _ h1
        have m2 := mo.targs _ _ _ _ _ _ _ _ h2
        have e1 := ih.text _ _ _ _ _ _ _ (ha a (List.mem_cons_self ..)) (by omega) (by omega) h1
        have e2 := ih.targs _ _ _ _ _ _ _ _ (fun b hb => ha b (List.mem_cons_of_mem _ hb)) (by omega) (by omega) h2
        have : ((if first then out else out ++ [44]) ++ x).length ≤ out.length + 1 + x.length := by split <;> simp <;> omega
        omega
    · intro t out c seen s c' l ht hl2 hs hc h
      rw [Hp.list] at h
      have hargs := hk.args _ ht
      obtain ⟨x, c1, l1, h1, h2⟩ := Xb_some h
      have m1 := mo.text _ _ _ _ _ _ _ h1
      have e1 := fun hc1 => ih.text _ _ _ _ _ _ _ (getD_lt hargs.2 (by omega)) (by omega) hc1 h1
      split at h2
      · cases h2
      rename_i r hw
      have hr := Hp.walk_lt' hk (getD_lt (i := 1) hargs.2 (by omega)) hw
      split at h2
      · simp only [Option.some.injEq, Prod.mk.injEq] at h2; obtain ⟨rfl, rfl, rfl⟩ := h2
        have := e1 (by omega)
        simp only [List.length_append]; omega
      split at h2
      · simp only [Option.some.injEq, Prod.mk.injEq] at h2; obtain ⟨rfl, rfl, rfl⟩ := h2
        have := e1 (by omega)
        simp only [List.length_append, List.length_cons, List.length_nil]; omega
      split at h2
      · rename_i hd
        have m2 := mo.list _ _ _ _ _ _ _ h2
        have := e1 (by omega)
        have := ih.list _ _ _ _ _ _ _ hr hd.2.2 (by omega) hc h2
        simp only [List.length_append, List.length_cons, List.length_nil] at this
        omega
      · obtain ⟨y, c2, l2, h3, h4⟩ := Xb_some h2
        simp only [Option.some.injEq, Prod.mk.injEq] at h4
        obtain ⟨rfl, rfl, rfl⟩ := h4
        have m2 := mo.text _ _ _ _ _ _ _ h3
        have := e1 (by omega)
        have := ih.text _ _ _ _ _ _ _ hr (by omega) hc h3
        simp only [List.length_append, List.length_cons, List.length_nil]
        omega
end Go.Proofs.YtkmpelgfhjgddaaGreatDoor.P
namespace Go.Proofs.YtkmpelgfhjgddaaGreatDoor
open Go.RowKit Sx
set_option maxRecDepth 100000
abbrev TFr (hb wb : Nat) (w w' : World) : Prop := FrM (fun b _ => b = hb ∨ wb ≤ b) w w'
structure TSx (w : World) (hb wb : Nat) (H : P.Hp) (c : Nat) (seen : List Nat) (kv nv iv av tv rv : Value) (ars : List Value) (sv : Value) : Prop where
  h : RHx (fun b => b < wb) w hb { H with cost := c } kv nv iv av tv rv ars
  lt : ∀ b, OwnOf w hb b → b < wb
  cell : w.heap[wb]? = some (.cells #[.pointer (some ⟨hb, 0, none⟩), sv] 78 (0, 0))
  own : w.ownsRow (wb + 1) 3 1 sv seen.length (seen.map fun n => .int .i64 (n : Nat))
def TSt (w : World) (hb wb : Nat) (H : P.Hp) (c : Nat) (seen : List Nat) : Prop := ∃ kv nv iv av tv rv ars sv, TSx w hb wb H c seen kv nv iv av tv rv ars sv
section
variable {w w' : World} {hb wb : Nat} {H : P.Hp} {c : Nat} {seen : List Nat} {kv nv iv av tv rv : Value} {ars : List Value} {sv : Value}
theorem TSx.hlt (h : TSx w hb wb H c seen kv nv iv av tv rv ars sv) : hb < wb := h.lt hb (.inl rfl)
theorem RHx.frT {A : Nat → Prop} {H : P.Hp} (h : RHx A w hb H kv nv iv av tv rv ars) (ho : ∀ b, OwnOf w hb b → b < wb) (hA : ∀ b, A b → b < wb) (hf : FrM (fun b _ => wb ≤ b) w w') :
    RHx A w' hb H kv nv iv av tv rv ars ∧ ∀ b, OwnOf w' hb b → b < wb := by
  have hhb := ho hb (.inl rfl)
  have hcell := hf.block _ _ h.q.cell (by omega)
  have ho' : ∀ b, OwnOf w' hb b → OwnOf w hb b := by
    rintro b (rfl | ⟨cs, T, g1, u, g2, g3⟩)
    · exact .inl rfl
    · rw [hcell] at g1
      injection g1 with g1
      injection g1 with g1 _ _
      subst g1
      exact .inr ⟨_, _, h.q.cell, u, g2, g3⟩
  have key : ∀ (ds : List P.Nd) (rows : List Value), IsAr (fun b => ¬ OwnOf w hb b ∧ A b) w rows ds → IsAr (fun b => ¬ OwnOf w' hb b ∧ A b) w' rows ds := by
    intro ds
    induction ds with
    | nil => intro rows h; exact h
    | cons d ds ih =>
      intro rows h
      obtain ⟨v, r', h1, h2, h3⟩ := h
      refine ⟨v, r', h1, ?_, ih r' h3⟩
      rcases h2 with h2 | ⟨b, cs, g1, g2, g3, g4⟩
      · exact .inl h2
      · exact .inr ⟨b, cs, g1, ⟨fun hx => g2.1 (ho' b hx), g2.2⟩, hf.block _ _ g3 (by have := hA b g2.2; omega), g4⟩
  refine ⟨⟨⟨hcell, fun a ha => ?_, h.q.dis, h.q.tl⟩, key _ _ h.ar, h.len⟩, fun b hb' => ho b (ho' b hb')⟩
  obtain ⟨g0, g1⟩ := h.q.own a ha
  refine ⟨g0, ?_⟩
  rcases g1 with g1 | ⟨g, cap, cur, q1, q2, q3, q4⟩
  · exact .inl g1
  · refine .inr ⟨g, cap, cur, q1, q2, hf.block _ _ q3 ?_, q4⟩
    have := ho g (.inr ⟨_, _, h.q.cell, a.2.1, by simp only [List.mem_append, List.mem_map]; exact .inl ⟨a, ha, rfl⟩, by rw [q1]; rfl⟩)
    omega
theorem TSx.ext (h : TSx w hb wb H c seen kv nv iv av tv rv ars sv) (hE : Ext w w') : TSx w' hb wb H c seen kv nv iv av tv rv ars sv := by
  obtain ⟨h1, h2⟩ := h.h.frT h.lt (fun _ h => h) (FrM.toM (M := fun b _ => wb ≤ b) hE)
  exact ⟨h1, h2, hE.ext _ _ h.cell, own_ext hE.ext h.own⟩
theorem TSx.cost (h : TSx w hb wb H c seen kv nv iv av tv rv ars sv) (c' : Nat) :
    TSx (upd w hb (.cells #[kv, nv, iv, av, tv, rv, .int .i64 (c' : Nat), .int .i64 (H.most : Nat), .int .i64 (H.err : Nat)] 129 (0, 0))) hb wb H c' seen kv nv iv av tv rv ars sv := by
  have hlt := h.hlt
  have hl := ltOf h.h.cell
  have ho' : ∀ b, OwnOf (upd w hb (.cells #[kv, nv, iv, av, tv, rv, .int .i64 (c' : Nat), .int .i64 (H.most : Nat), .int .i64 (H.err : Nat)] 129 (0, 0))) hb b → OwnOf w hb b := by
    rintro b (rfl | ⟨cs, T, g1, u, g2, g3⟩)
    · exact .inl rfl
    · rw [hp_upd_same rfl hl] at g1
      injection g1 with g1
      injection g1 with g1 _ _
      subst g1
      refine .inr ⟨_, _, h.h.cell, u, ?_, g3⟩
      simp only [List.mem_cons, List.not_mem_nil, or_false] at g2 ⊢
      rcases g2 with rfl | rfl | rfl | rfl | rfl | rfl | rfl | rfl | rfl
      · simp
      · simp
      · simp
      · simp
      · simp
      · simp
      · cases g3
      · cases g3
      · cases g3
  have key : ∀ (ds : List P.Nd) (rows : List Value), IsAr (fun b => ¬ OwnOf w hb b ∧ b < wb) w rows ds → IsAr (fun b => ¬ OwnOf (upd w hb (.cells #[kv, nv, iv, av, tv, rv, .int .i64 (c' : Nat), .int .i64 (H.most : Nat), .int .i64 (H.err : Nat)] 129 (0, 0))) hb b ∧ b < wb)
      (upd w hb (.cells #[kv, nv, iv, av, tv, rv, .int .i64 (c' : Nat), .int .i64 (H.most : Nat), .int .i64 (H.err : Nat)] 129 (0, 0))) rows ds := by
    intro ds
    induction ds with
    | nil => intro rows h; exact h
    | cons d ds ih =>
      intro rows h
      obtain ⟨v, r', h1, h2, h3⟩ := h
      refine ⟨v, r', h1, ?_, ih r' h3⟩
      rcases h2 with h2 | ⟨b, cs, g1, g2, g3, g4⟩
      · exact .inl h2
      · exact .inr ⟨b, cs, g1, ⟨fun hx => g2.1 (ho' b hx), g2.2⟩, by rw [hp_upd_other (fun e => g2.1 (.inl e))]; exact g3, g4⟩
  refine ⟨⟨⟨hp_upd_same rfl hl, fun a ha => own_upd (h.h.q.own a ha) (by omega), h.h.q.dis, fun v hv => ?_⟩, key _ _ h.h.ar, h.h.len⟩, fun b hb' => h.lt b (ho' b hb'), by rw [hp_upd_other (by omega)]; exact h.cell, own_upd h.own (by omega)⟩
  simp only [List.mem_cons, List.not_mem_nil, or_false] at hv
  rcases hv with rfl | rfl | rfl <;> rfl
end
theorem rPower {w : World} {hb wb : Nat} {H : P.Hp} {c : Nat} {seen : List Nat} (h : TSt w hb wb H c seen) {t : Nat} (ht : t < H.nodes.length) (hn : H.nodes.length ≤ 1000000000) :
    Calls Tryz.prog 46 #[.pointer (some ⟨wb, 0, none⟩), .int .i64 (t : Nat)] w fun e w' => e = .returned (.int .i64 (H.power t : Nat)) ∧ w' = w := by
  obtain ⟨kv, nv, iv, av, tv, rv, ars, sv, h⟩ := h
  have hc := h.h.cell
  have hw := h.cell
  obtain ⟨gk, ck, uk, rfl, k1, k2⟩ := h.h.kd (t := t) ht
  obtain ⟨gn, cn, un, rfl, k3, k4⟩ := h.h.nm (t := t) ht
  obtain ⟨ga, ca, ua, va, rfl, k5, k6, k7⟩ := h.h.an (t := t) ht
  obtain ⟨a1, c1, rfl⟩ := k7.sl
  have e1 : ((t : Nat) : Int).toNat = t := by omega
  have hnd : P.Hp.nd { H with cost := c } t = H.nd t := rfl
  rw [hnd] at k2 k4 k6 k7
  simp only at hc
  refine sh_Pr_writer_power_ok ?_
  unfold P.Hp.power
  have hl : (((H.nd t).args.map fun n => (.int .i64 (n : Nat) : Value)).length : Nat) = (H.nd t).args.length := by simp
  rw [hl] at k6
  refine ⟨fun _ w' => w' = w ∧ (H.nd t).kind = 99 ∧ (H.nd t).args.length = 2, ?_, ?_⟩
  · refine ⟨fun x w' => w' = w ∧ x 29 = .bool (decide (¬ ((H.nd t).kind = 99 ∧ (H.nd t).args.length = 2))), ?_, ?_⟩
    · by_cases h1 : (H.nd t).kind = 99
      · have h1' : (((H.nd t).kind : Nat) : Int) = 99 := by omega
        simp (disch := first | assumption | omega | ((simp only [size_alloc, sz_drew, size_upd, List.size_toArray, List.length_cons, List.length_nil]) <;> omega) | decide) only [sh_Pr_writer_power, Pr, PX, PC, NX, ends, fillL, wrL, sOf, Nat.reduceAdd, Nat.reduceMul, Nat.reduceLeDiff, Nat.reduceEqDiff, Int.reduceToNat, Int.reduceAdd, Int.reduceLT, Int.reduceLE, ↓reduceIte, forall_const, eq_self, zG1, zG2, fa_129_0, fa_129_1, fa_129_3, fa_78_0, ix_116, ix_127, ix_38, ld_116, ld_127, ld_38, ld_5, ld_71, ld_73, ld_9, ln_73, hw, hc, k1, k2, k5, k6, e1]
        simp [sOf, h1]
        omega
      · have h1' : ¬ (((H.nd t).kind : Nat) : Int) = 99 := by omega
        simp (disch := first | assumption | omega | ((simp only [size_alloc, sz_drew, size_upd, List.size_toArray, List.length_cons, List.length_nil]) <;> omega) | decide) only [sh_Pr_writer_power, Pr, PX, PC, NX, ends, fillL, wrL, sOf, Nat.reduceAdd, Nat.reduceMul, Nat.reduceLeDiff, Nat.reduceEqDiff, Int.reduceToNat, Int.reduceAdd, Int.reduceLT, Int.reduceLE, ↓reduceIte, forall_const, eq_self, zG1, zG2, fa_129_0, fa_129_1, fa_129_3, fa_78_0, ix_116, ix_127, ix_38, ld_116, ld_127, ld_38, ld_5, ld_71, ld_73, ld_9, ln_73, hw, hc, k1, k2, e1]
        simp [sOf, h1]
    · rintro x w' ⟨rfl, hx⟩ d
      rw [hx]
      by_cases h1 : (H.nd t).kind = 99 ∧ (H.nd t).args.length = 2
      · rw [bs_neg _ _ (by simpa using h1)]
        exact ⟨rfl, h1⟩
      · rw [bs_pos _ _ h1]
        refine ⟨?_, rfl⟩
        by_cases h2 : (H.nd t).kind = 99
        · have h3 : (H.nd t).args.length ≠ 2 := fun h3 => h1 ⟨h2, h3⟩
          rw [if_neg (by simpa using h2)]
          unfold P.power
          rw [if_pos h3]
          rfl
        · rw [if_pos h2]
          rfl
  · rintro _ w' ⟨rfl, h1, h2⟩ d
    rw [if_neg (by simpa using h1), h2]
    simp (disch := first | assumption | omega | ((simp only [size_alloc, sz_drew, size_upd, List.size_toArray, List.length_cons, List.length_nil]) <;> omega) | decide) only [sh_Pr_writer_power, Pr, PX, PC, NX, ends, fillL, wrL, sOf, Nat.reduceAdd, Nat.reduceMul, Nat.reduceLeDiff, Nat.reduceEqDiff, Int.reduceToNat, Int.reduceAdd, Int.reduceLT, Int.reduceLE, ↓reduceIte, forall_const, eq_self, zG1, zG2, fa_129_0, fa_129_1, fa_129_3, fa_78_0, ix_116, ix_127, ix_38, ld_116, ld_127, ld_38, ld_5, ld_71, ld_73, ld_9, ln_73, hw, hc, k3, k4, e1]
    unfold P.power
    rw [if_neg (by simp)]
    refine ⟨fun x w'' => w'' = w' ∧ x 40 = .bool (decide ((H.nd t).name = [43] ∨ (H.nd t).name = [45])), ?_, ?_⟩
    · by_cases q1 : (H.nd t).name = [43]
      · simp (disch := first | assumption | omega | ((simp only [size_alloc, sz_drew, size_upd, List.size_toArray, List.length_cons, List.length_nil]) <;> omega) | decide) only [sh_Pr_writer_power, Pr, PX, PC, NX, ends, fillL, wrL, sOf, Nat.reduceAdd, Nat.reduceMul, Nat.reduceLeDiff, Nat.reduceEqDiff, Int.reduceToNat, Int.reduceAdd, Int.reduceLT, Int.reduceLE, ↓reduceIte, forall_const, eq_self, zG1, zG2, fa_129_0, fa_129_1, fa_129_3, fa_78_0, ix_116, ix_127, ix_38, ld_116, ld_127, ld_38, ld_5, ld_71, ld_73, ld_9, ln_73, q1]
        simp [sOf]
      · simp (disch := first | assumption | omega | ((simp only [size_alloc, sz_drew, size_upd, List.size_toArray, List.length_cons, List.length_nil]) <;> omega) | decide) only [sh_Pr_writer_power, Pr, PX, PC, NX, ends, fillL, wrL, sOf, Nat.reduceAdd, Nat.reduceMul, Nat.reduceLeDiff, Nat.reduceEqDiff, Int.reduceToNat, Int.reduceAdd, Int.reduceLT, Int.reduceLE, ↓reduceIte, forall_const, eq_self, zG1, zG2, fa_129_0, fa_129_1, fa_129_3, fa_78_0, ix_116, ix_127, ix_38, ld_116, ld_127, ld_38, ld_5, ld_71, ld_73, ld_9, ln_73, q1]
        simp [sOf, q1]
    · rintro x w'' ⟨rfl, hx⟩ d
      rw [hx]
      by_cases q1 : (H.nd t).name = [43] ∨ (H.nd t).name = [45]
      · rw [bs_pos _ _ q1, if_pos q1]
        exact ⟨rfl, rfl⟩
      · rw [bs_neg _ _ q1, if_neg q1]
        refine ⟨fun x w' => w' = w'' ∧ x 43 = .bool (decide ((H.nd t).name = [42] ∨ (H.nd t).name = [47, 47] ∨ (H.nd t).name = [109, 111, 100])), ?_, ?_⟩
        · by_cases q2 : (H.nd t).name = [42]
          · simp (disch := first | assumption | omega | ((simp only [size_alloc, sz_drew, size_upd, List.size_toArray, List.length_cons, List.length_nil]) <;> omega) | decide) only [sh_Pr_writer_power, Pr, PX, PC, NX, ends, fillL, wrL, sOf, Nat.reduceAdd, Nat.reduceMul, Nat.reduceLeDiff, Nat.reduceEqDiff, Int.reduceToNat, Int.reduceAdd, Int.reduceLT, Int.reduceLE, ↓reduceIte, forall_const, eq_self, zG1, zG2, fa_129_0, fa_129_1, fa_129_3, fa_78_0, ix_116, ix_127, ix_38, ld_116, ld_127, ld_38, ld_5, ld_71, ld_73, ld_9, ln_73, q2]
            simp [sOf]
          · by_cases q3 : (H.nd t).name = [47, 47]
            · simp (disch := first | assumption | omega | ((simp only [size_alloc, sz_drew, size_upd, List.size_toArray, List.length_cons, List.length_nil]) <;> omega) | decide) only [sh_Pr_writer_power, Pr, PX, PC, NX, ends, fillL, wrL, sOf, Nat.reduceAdd, Nat.reduceMul, Nat.reduceLeDiff, Nat.reduceEqDiff, Int.reduceToNat, Int.reduceAdd, Int.reduceLT, Int.reduceLE, ↓reduceIte, forall_const, eq_self, zG1, zG2, fa_129_0, fa_129_1, fa_129_3, fa_78_0, ix_116, ix_127, ix_38, ld_116, ld_127, ld_38, ld_5, ld_71, ld_73, ld_9, ln_73, q2, q3]
              simp [sOf]
            · simp (disch := first | assumption | omega | ((simp only [size_alloc, sz_drew, size_upd, List.size_toArray, List.length_cons, List.length_nil]) <;> omega) | decide) only [sh_Pr_writer_power, Pr, PX, PC, NX, ends, fillL, wrL, sOf, Nat.reduceAdd, Nat.reduceMul, Nat.reduceLeDiff, Nat.reduceEqDiff, Int.reduceToNat, Int.reduceAdd, Int.reduceLT, Int.reduceLE, ↓reduceIte, forall_const, eq_self, zG1, zG2, fa_129_0, fa_129_1, fa_129_3, fa_78_0, ix_116, ix_127, ix_38, ld_116, ld_127, ld_38, ld_5, ld_71, ld_73, ld_9, ln_73, q2, q3]
              simp [sOf, q2, q3]
        · rintro x w' ⟨rfl, hx⟩ d
          rw [hx]
          by_cases q2 : (H.nd t).name = [42] ∨ (H.nd t).name = [47, 47] ∨ (H.nd t).name = [109, 111, 100]
          · rw [bs_pos _ _ q2, if_pos q2]
            exact ⟨rfl, rfl⟩
          · rw [bs_neg _ _ q2, if_neg q2]
            exact ⟨rfl, rfl⟩
end Go.Proofs.YtkmpelgfhjgddaaGreatDoor
