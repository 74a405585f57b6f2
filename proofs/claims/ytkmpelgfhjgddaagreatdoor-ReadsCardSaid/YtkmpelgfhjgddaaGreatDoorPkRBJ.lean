/- A part of one proof (PW8, SX8, SX9, PX3); no conditions beyond what each theorem names. -/
import Derived.Test.YtkmpelgfhjgddaaGreatDoorPkRBI
import Derived.WalkKit
import Derived.LaidEql
import Derived.Stop.Asserts
import Derived.RowKitTokens
set_option linter.all false
set_option linter.unusedVariables false
set_option linter.unusedSimpArgs false
namespace Go.Proofs.YtkmpelgfhjgddaaGreatDoor
open Go.RowKit Sx
set_option maxRecDepth 100000
theorem Tryz.infoTm : (Tryz.prog.info? 107).map (fun i => (i.zero, i.size, i.bytes)) = some (some .nilIface, 1, 16) := by kernel_rfl
theorem wr_appendTm {w : World} {base n : Nat} {v : Value} {xs : List Value} (hown : w.ownsRow base 107 1 v n xs) {b m : Nat} {a : Value}
    (hb : w.heap[b]? = some (.cells #[a] 107 (0, 0))) (h1 : a.oneCell' = true)
    (hn : n ≤ 100000000) (hbase : base ≤ w.heap.size) {K : Value → World → Prop} {X : Value → World → Prop}
    (h : ∀ v' w', w'.ownsRow base 107 1 v' (n + 1) (xs ++ [a]) → w.grownBy w' v.ownBlock → (v'.ownBlock = v.ownBlock ∨ ∀ k, v'.ownBlock = some k → w.heap.size ≤ k) → K v' w') :
    WR Tryz.prog (Builtin.append_ #[100, 100] 100 #[v, .slice (some ⟨b, 0, none⟩) 1 m]) w K X := by
  obtain ⟨i, hi, h0⟩ := Option.map_eq_some_iff.1 Tryz.infoTm
  simp only [Prod.mk.injEq] at h0
  obtain ⟨hz, hs, hbt⟩ := h0
  refine Sx.wr_appendB (m := 1) (t := 100) (e := 107) (by kernel_rfl) hi hz hs hbt rfl (by decide) hown hb rfl (fun u hu => ?_) (by omega) (by decide) hbase h
  simp only [List.mem_cons, List.not_mem_nil, or_false] at hu
  subst hu
  exact h1
abbrev varsV (ρ : Nat → Nat) (ids : List Nat) : List Value := ids.map fun i => .iface 105 (.pointer (some ⟨ρ i, 0, none⟩))
theorem IsExs.at' {F : Nat → Prop} {w : World} : ∀ {xs : List P.Ex} {vs : List Value} (j : Nat) (hj : j < xs.length), IsExs F w vs xs → ∃ v, vs[j]? = some v ∧ IsEx F w v xs[j]
  | x :: xs, vs, 0, _, h => by
    unfold IsExs at h
    obtain ⟨u, r, rfl, h2, h3⟩ := h
    exact ⟨u, rfl, h2⟩
  | x :: xs, vs, j + 1, hj, h => by
    unfold IsExs at h
    obtain ⟨u, r, rfl, h2, h3⟩ := h
    simpa using IsExs.at' j (by simpa using hj) h3
theorem IsExs.len' {F : Nat → Prop} {w : World} : ∀ {xs : List P.Ex} {vs : List Value}, IsExs F w vs xs → vs.length = xs.length
  | [], vs, h => by unfold IsExs at h; subst h; rfl
  | x :: xs, vs, h => by
    unfold IsExs at h
    obtain ⟨u, r, rfl, h2, h3⟩ := h
    simp [IsExs.len' h3]
theorem mades_take (vs : List Nat) : ∀ (l : List P.Ex) (j : Nat) (hj : j < l.length), P.mades vs (l.take (j + 1)) = P.mades vs (l.take j) ++ [P.made vs l[j]]
  | x :: xs, 0, _ => by simp [P.mades]
  | x :: xs, j + 1, hj => by
    have := mades_take vs xs j (by simpa using hj)
    simp only [List.take_succ_cons, P.mades, List.cons_append, List.getElem_cons_succ]
    rw [this]
set_option maxHeartbeats 1000000 in
theorem wMadeN {ρ : Nat → Nat} {n : Nat} {ids : List Nat} (hids : ∀ i ∈ ids, i < n) : ∀ (N : Nat) (x : P.Ex), P.exSz x ≤ N → P.ExOk ids.length x → ∀ {F G : Nat → Prop} {w : World} {v vv : Value}, IsEx F w v x → IsSl G w 107 vv (varsV ρ ids) →
    Calls Tryz.prog 39 #[v, vv] w fun e w' => Ext w w' ∧ ∃ u, e = .returned u ∧ IsTm (Nu w w') ρ n w' u (P.made ids x)
  | 0, x, hN, _, _, _, _, _, _, _, _ => by cases x; simp [P.exSz] at hN
  | N + 1, .mk kind name k kv args, hN, hok, F, G, w, v, vv, hv, hvv => by
    have ih := wMadeN (ρ := ρ) (n := n) hids N
    unfold P.ExOk at hok
    obtain ⟨o1, o2, o3, o4, o5, o6, o7, o8⟩ := hok
    unfold IsEx at hv
    obtain ⟨b, av, avs, rfl, hF, hb, hs, hx⟩ := hv
    unfold P.exSz at hN
    refine sh_w_Made_ok ?_
    unfold P.made
    by_cases h97 : kind = 97
    · subst h97
      have e97 : ((97 : Nat) : Int) = 97 := rfl
      simp (disch := first | assumption | omega | ((simp only [size_alloc, sz_drew, size_upd, List.size_toArray, List.length_cons, List.length_nil]) <;> omega) | decide) only [sh_w_Made, Pr, PX, PC, NX, ends, fillL, wrL, sOf, Nat.reduceAdd, Nat.reduceMul, Nat.reduceLeDiff, Nat.reduceEqDiff, Int.reduceToNat, Int.reduceAdd, Int.reduceLT, Int.reduceLE, ↓reduceIte, forall_const, eq_self, zG1, zG2, bd_179, br_100_1, fa_177_0, fa_177_1, fa_177_2, fa_177_3, fa_177_4, fa_179_1, ix_100, ix_101, ld_100, ld_101, ld_107, ld_124, ld_2, ld_3, ld_5, ld_9, ln_101, mi_168, mi_171, mi_174, st_100, hb, e97, if_true]
      refine ⟨FrM.refl _ _, ?_⟩
      unfold IsTm
      exact ⟨_, rfl, rfl⟩
    · have h97' : ¬ (kind : Int) = 97 := by omega
      by_cases h110 : kind = 110
      · subst h110
        have e97 : ((110 : Nat) : Int) = 110 := rfl
        simp (disch := first | assumption | omega | ((simp only [size_alloc, sz_drew, size_upd, List.size_toArray, List.length_cons, List.length_nil]) <;> omega) | decide) only [sh_w_Made, Pr, PX, PC, NX, ends, fillL, wrL, sOf, Nat.reduceAdd, Nat.reduceMul, Nat.reduceLeDiff, Nat.reduceEqDiff, Int.reduceToNat, Int.reduceAdd, Int.reduceLT, Int.reduceLE, ↓reduceIte, forall_const, eq_self, zG1, zG2, bd_179, br_100_1, fa_177_0, fa_177_1, fa_177_2, fa_177_3, fa_177_4, fa_179_1, ix_100, ix_101, ld_100, ld_101, ld_107, ld_124, ld_2, ld_3, ld_5, ld_9, ln_101, mi_168, mi_171, mi_174, st_100, hb, e97, if_true]
        refine ⟨FrM.refl _ _, _, rfl, ?_⟩
        unfold IsTm
        rfl
      · have h110' : ¬ (kind : Int) = 110 := by omega
        by_cases h118 : kind = 118
        · subst h118
          have e97 : ((118 : Nat) : Int) = 118 := rfl
          have hkv := o4 rfl
          have hl : (varsV ρ ids).length = ids.length := by simp
          obtain ⟨gb, gcs, rfl, g1, g2, g3⟩ := hvv.at' (j := kv) (by rw [hl]; exact hkv)
          have e3 : gcs[kv]? = some (.iface 105 (.pointer (some ⟨ρ ids[kv], 0, none⟩))) := by
            rw [g3]; simp [varsV, hkv]
          have ekv : ((kv : Nat) : Int).toNat = kv := by omega
          rw [hl]
          simp (disch := first | assumption | omega | ((simp only [size_alloc, sz_drew, size_upd, List.size_toArray, List.length_cons, List.length_nil]) <;> omega) | decide) only [sh_w_Made, Pr, PX, PC, NX, ends, fillL, wrL, sOf, Nat.reduceAdd, Nat.reduceMul, Nat.reduceLeDiff, Nat.reduceEqDiff, Int.reduceToNat, Int.reduceAdd, Int.reduceLT, Int.reduceLE, ↓reduceIte, forall_const, eq_self, zG1, zG2, bd_179, br_100_1, fa_177_0, fa_177_1, fa_177_2, fa_177_3, fa_177_4, fa_179_1, ix_100, ix_101, ld_100, ld_101, ld_107, ld_124, ld_2, ld_3, ld_5, ld_9, ln_101, mi_168, mi_171, mi_174, st_100, hb, e97, if_true, g2, e3, ekv]
          refine ⟨FrM.refl _ _, _, rfl, ?_⟩
          unfold IsTm
          have e5 : ids.getD kv 0 = ids[kv] := by simp [List.getD_eq_getElem?_getD, hkv]
          rw [e5]
          exact ⟨hids _ (List.getElem_mem _), rfl⟩
        · have h118' : ¬ (kind : Int) = 118 := by omega
          obtain ⟨sa, sc, rfl⟩ := hs.sl
          have hal := hx.len'
          have lb := ltOf hb
          rw [if_neg h97, if_neg h110, if_neg h118]
          simp (disch := first | assumption | omega | ((simp only [size_alloc, sz_drew, size_upd, List.size_toArray, List.length_cons, List.length_nil]) <;> omega) | decide) only [sh_w_Made, Pr, PX, PC, NX, ends, fillL, wrL, sOf, Nat.reduceAdd, Nat.reduceMul, Nat.reduceLeDiff, Nat.reduceEqDiff, Int.reduceToNat, Int.reduceAdd, Int.reduceLT, Int.reduceLE, ↓reduceIte, forall_const, eq_self, zG1, zG2, bd_179, br_100_1, fa_177_0, fa_177_1, fa_177_2, fa_177_3, fa_177_4, fa_179_1, ix_100, ix_101, ld_100, ld_101, ld_107, ld_124, ld_2, ld_3, ld_5, ld_9, ln_101, mi_168, mi_171, mi_174, st_100, hb]
          refine ⟨fun m z w' => ∃ j avj vs, z 46 = .int .i64 (j : Nat) ∧ j ≤ args.length ∧ m = args.length - j ∧ Ext w w' ∧ w'.heap[w.heap.size]? = some (.cells #[.string (bs name), avj] 179 (0, 0)) ∧
            w'.ownsRow (w.heap.size + 1) 107 1 avj j vs ∧ IsTms (fun c => w.heap.size < c ∧ c < w'.heap.size ∧ some c ≠ avj.ownBlock) ρ n w' vs (P.mades ids (args.take j)),
            ⟨_, 0, .slice none 0 0, [], rfl, Nat.zero_le _, rfl, by (repeat (first | assumption | exact FrM.refl _ _ | (refine FrM.upd ?_ (.inr (by (try simp only [size_alloc, sz_drew, size_upd, List.size_toArray, List.length_cons, List.length_nil]) <;> omega))) | refine FrM.alloc ?_ _ | refine FrM.drew ?_)), hp_alloc_new rfl, World.ownsRow_nil _ _ _ _, by simp [P.mades]; unfold IsTms; rfl⟩, ?_⟩
          intro m z d w3 hI
          refine toPr ?_
          obtain ⟨j, avj, vs, h46, hj, rfl, hE3, q3, own3, hts⟩ := hI
          have s3 := hE3.size
          have l3 := ltOf q3
          obtain ⟨ra, rc, rfl⟩ := own_slice own3
          by_cases hlt : j < args.length
          · have hlt' : j < avs.length := by omega
            obtain ⟨sb, scs, e1, e2, e3, e4⟩ := hs.at' hlt'
            obtain ⟨u, e5, hu⟩ := IsExs.at' j hlt hx
            rw [e5] at e4
            simp only [Value.slice.injEq, true_and] at e1
            obtain ⟨rfl, rfl⟩ := e1
            have ejn : ((j : Nat) : Int).toNat = j := by omega
            have e33 := hE3.ext _ _ e3
            simp (disch := first | assumption | omega | ((simp only [size_alloc, sz_drew, size_upd, List.size_toArray, List.length_cons, List.length_nil]) <;> omega) | decide) only [sh_w_Made, Pr, PX, PC, NX, ends, fillL, wrL, sOf, Nat.reduceAdd, Nat.reduceMul, Nat.reduceLeDiff, Nat.reduceEqDiff, Int.reduceToNat, Int.reduceAdd, Int.reduceLT, Int.reduceLE, ↓reduceIte, forall_const, eq_self, zG1, zG2, bd_179, br_100_1, fa_177_0, fa_177_1, fa_177_2, fa_177_3, fa_177_4, fa_179_1, ix_100, ix_101, ld_100, ld_101, ld_107, ld_124, ld_2, ld_3, ld_5, ld_9, ln_101, mi_168, mi_171, mi_174, st_100, h46, e33, e4, ejn]
            refine ⟨fun w' => w'.heap[w.heap.size]? = some (.cells #[.string (bs name), .slice ra j rc] 179 (0, 0)), q3, ?_⟩
            simp (disch := first | assumption | omega | ((simp only [size_alloc, sz_drew, size_upd, List.size_toArray, List.length_cons, List.length_nil]) <;> omega) | decide) only [sh_w_Made, Pr, PX, PC, NX, ends, fillL, wrL, sOf, Nat.reduceAdd, Nat.reduceMul, Nat.reduceLeDiff, Nat.reduceEqDiff, Int.reduceToNat, Int.reduceAdd, Int.reduceLT, Int.reduceLE, ↓reduceIte, forall_const, eq_self, zG1, zG2, bd_179, br_100_1, fa_177_0, fa_177_1, fa_177_2, fa_177_3, fa_177_4, fa_179_1, ix_100, ix_101, ld_100, ld_101, ld_107, ld_124, ld_2, ld_3, ld_5, ld_9, ln_101, mi_168, mi_171, mi_174, st_100]
            refine rds (.pointer (some ⟨w.heap.size, 1, none⟩)) (fun w' _ => by simp (disch := first | assumption | omega | ((simp only [size_alloc, sz_drew, size_upd, List.size_toArray, List.length_cons, List.length_nil]) <;> omega) | decide) only [sh_w_Made, Pr, PX, PC, NX, ends, fillL, wrL, sOf, Nat.reduceAdd, Nat.reduceMul, Nat.reduceLeDiff, Nat.reduceEqDiff, Int.reduceToNat, Int.reduceAdd, Int.reduceLT, Int.reduceLE, ↓reduceIte, forall_const, eq_self, zG1, zG2, bd_179, br_100_1, fa_177_0, fa_177_1, fa_177_2, fa_177_3, fa_177_4, fa_179_1, ix_100, ix_101, ld_100, ld_101, ld_107, ld_124, ld_2, ld_3, ld_5, ld_9, ln_101, mi_168, mi_171, mi_174, st_100]) ?_
            refine rds (.slice ra j rc) (fun w' hS => by simp (disch := first | assumption | omega | ((simp only [size_alloc, sz_drew, size_upd, List.size_toArray, List.length_cons, List.length_nil]) <;> omega) | decide) only [sh_w_Made, Pr, PX, PC, NX, ends, fillL, wrL, sOf, Nat.reduceAdd, Nat.reduceMul, Nat.reduceLeDiff, Nat.reduceEqDiff, Int.reduceToNat, Int.reduceAdd, Int.reduceLT, Int.reduceLE, ↓reduceIte, forall_const, eq_self, zG1, zG2, bd_179, br_100_1, fa_177_0, fa_177_1, fa_177_2, fa_177_3, fa_177_4, fa_179_1, ix_100, ix_101, ld_100, ld_101, ld_107, ld_124, ld_2, ld_3, ld_5, ld_9, ln_101, mi_168, mi_171, mi_174, st_100, hS]) ?_
            have hszj : P.exSz args[j] ≤ N := by
              have : ∀ (l : List P.Ex) (j : Nat) (hj : j < l.length), P.exSz l[j] ≤ P.exSzs l := by
                intro l
                induction l with
                | nil => intro j hj; simp at hj
                | cons a l ihl =>
                  intro j hj
                  cases j with
                  | zero => simp [P.exSzs]
                  | succ j => have := ihl j (by simpa using hj); simp only [List.getElem_cons_succ, P.exSzs]; omega
              have := this args j hlt
              omega
            have hE3d : Ext w w3.drew := hE3.drew
            have hwd : ∀ {H : Nat → Prop} {y : P.Ex} {v' : Value}, IsEx H w v' y → IsEx H w3.drew v' y := fun h => IsEx.mono (fun _ h => h) (fun b o _ _ ho => hE3d.ext b o ho) _ _ h
            refine Calls.mono (ih args[j] hszj (o8.at hlt) (hwd hu) (hvv.mono (fun _ h => h) fun b cs _ hb => hE3d.ext _ _ hb)) ?_
            rintro e w4 ⟨hE4, u4, rfl, hu4⟩
            have s4 := hE4.size
            rw [sz_drew] at s4
            have hE34 : Ext w3 w4 := ((FrM.drew (FrM.refl _ _))).trans hE4
            have q4 := hE34.ext _ _ q3
            have l4 := ltOf q4
            refine ⟨q4, ?_⟩
            obtain ⟨tu, xu, rfl⟩ := hu4.iface
            simp (disch := first | assumption | omega | ((simp only [size_alloc, sz_drew, size_upd, List.size_toArray, List.length_cons, List.length_nil]) <;> omega) | decide) only [sh_w_Made, Pr, PX, PC, NX, ends, fillL, wrL, sOf, Nat.reduceAdd, Nat.reduceMul, Nat.reduceLeDiff, Nat.reduceEqDiff, Int.reduceToNat, Int.reduceAdd, Int.reduceLT, Int.reduceLE, ↓reduceIte, forall_const, eq_self, zG1, zG2, bd_179, br_100_1, fa_177_0, fa_177_1, fa_177_2, fa_177_3, fa_177_4, fa_179_1, ix_100, ix_101, ld_100, ld_101, ld_107, ld_124, ld_2, ld_3, ld_5, ld_9, ln_101, mi_168, mi_171, mi_174, st_100]
            have hX : Ext w4 (w4.alloc (.cells #[.iface tu xu] 107 (0, 0))) := by (repeat (first | assumption | exact FrM.refl _ _ | (refine FrM.upd ?_ (.inr (by (try simp only [size_alloc, sz_drew, size_upd, List.size_toArray, List.length_cons, List.length_nil]) <;> omega))) | refine FrM.alloc ?_ _ | refine FrM.drew ?_))
            refine ⟨q4, ?_⟩
            have own4 := own_ext (hE34.trans hX).ext own3
            refine wr_appendTm (base := w.heap.size + 1) own4 (hp_alloc_new rfl) rfl (by omega) (by rw [size_alloc]; omega) ?_
            intro v' w5 own5 hg5 hv5
            have s5 := hg5.size
            rw [size_alloc] at s5
            have kp : ∀ c o, w4.heap[c]? = some o → some c ≠ (Value.slice ra j rc).ownBlock → w5.heap[c]? = some o := fun c o ho hne => by
              rw [hg5.block c (by rw [size_alloc]; have := ltOf ho; omega) hne]; exact hX.ext _ _ ho
            have lo : ∀ k, (Value.slice ra j rc).ownBlock = some k → w.heap.size + 1 ≤ k ∧ k < w3.heap.size := fun k hk => own3.lt k hk
            have q5 := kp _ _ q4 (fun e => by have := lo _ e.symm; omega)
            have l5 := ltOf q5
            obtain ⟨ra5, rc5, rfl⟩ := own_slice own5
            refine ⟨q5, ?_⟩
            simp (disch := first | assumption | omega | ((simp only [size_alloc, sz_drew, size_upd, List.size_toArray, List.length_cons, List.length_nil]) <;> omega) | decide) only [sh_w_Made, Pr, PX, PC, NX, ends, fillL, wrL, sOf, Nat.reduceAdd, Nat.reduceMul, Nat.reduceLeDiff, Nat.reduceEqDiff, Int.reduceToNat, Int.reduceAdd, Int.reduceLT, Int.reduceLE, ↓reduceIte, forall_const, eq_self, zG1, zG2, bd_179, br_100_1, fa_177_0, fa_177_1, fa_177_2, fa_177_3, fa_177_4, fa_179_1, ix_100, ix_101, ld_100, ld_101, ld_107, ld_124, ld_2, ld_3, ld_5, ld_9, ln_101, mi_168, mi_171, mi_174, st_100, q5, h46]
            have hnv : ∀ c, c < w4.heap.size → some c ≠ (Value.slice ra j rc).ownBlock → some c ≠ (Value.slice ra5 (j + 1) rc5).ownBlock := fun c hc hne he => by
              rcases hv5 with hv | hv
              · rw [hv] at he; exact hne he
              · have := hv c he.symm
                rw [size_alloc] at this
                omega
            refine ⟨_, ?_, j + 1, .slice ra5 (j + 1) rc5, vs ++ [.iface tu xu], by simp [sOf], by omega, rfl, ?_, rfl, own_upd own5 (by omega), ?_⟩
            · omega
            · refine FrM.upd ?_ (.inr (Nat.le_refl _))
              exact ((hE3.trans hE34).trans hX).grow hg5 (fun k hk => by have := (lo k hk).1; omega)
            · rw [mades_take ids args j hlt]
              have k5 : ∀ c o, c ≠ w.heap.size → some c ≠ (Value.slice ra j rc).ownBlock → w4.heap[c]? = some o → (upd w5 w.heap.size (.cells #[.string (bs name), .slice ra5 (j + 1) rc5] 179)).heap[c]? = some o := fun c o h1 h2 ho => by
                rw [hp_upd_other h1]; exact kp c o ho h2
              refine IsTms.snoc ?_ ?_
              · refine IsTm.mono (F := Nu w3.drew w4) (fun c hc => ?_) (Nat.le_refl _) (fun _ _ => rfl) (fun c cs t hc _ ho => ?_) _ _ hu4
                · have h1 := hc.1
                  rw [sz_drew] at h1
                  exact ⟨by omega, by have := hc.2; omega, hnv c hc.2 (fun e => by have := (lo c e.symm).2; omega)⟩
                · have h1 := hc.1
                  rw [sz_drew] at h1
                  exact k5 c _ (by omega) (fun e => by have := (lo c e.symm).2; omega) ho
              · refine IsTms.mono (fun c hc => ?_) (Nat.le_refl _) (fun _ _ => rfl) (fun c cs t hc _ ho => ?_) _ _ hts
                · exact ⟨hc.1, by have := hc.2.1; omega, hnv c (by have := hc.2.1; omega) hc.2.2⟩
                · exact k5 c _ (by have := hc.1; omega) hc.2.2 (hE34.ext _ _ ho)
          · have hjl : j = args.length := by omega
            subst hjl
            rw [List.take_length] at hts
            simp (disch := first | assumption | omega | ((simp only [size_alloc, sz_drew, size_upd, List.size_toArray, List.length_cons, List.length_nil]) <;> omega) | decide) only [sh_w_Made, Pr, PX, PC, NX, ends, fillL, wrL, sOf, Nat.reduceAdd, Nat.reduceMul, Nat.reduceLeDiff, Nat.reduceEqDiff, Int.reduceToNat, Int.reduceAdd, Int.reduceLT, Int.reduceLE, ↓reduceIte, forall_const, eq_self, zG1, zG2, bd_179, br_100_1, fa_177_0, fa_177_1, fa_177_2, fa_177_3, fa_177_4, fa_179_1, ix_100, ix_101, ld_100, ld_101, ld_107, ld_124, ld_2, ld_3, ld_5, ld_9, ln_101, mi_168, mi_171, mi_174, st_100, h46]
            refine ⟨hE3, ?_⟩
            refine ⟨_, rfl, ?_⟩
            unfold IsTm
            refine ⟨_, _, vs, rfl, ⟨Nat.le_refl _, l3⟩, q3, own_IsSl own3 (fun b hb => ⟨by have := (own3.lt b hb).1; omega, (own3.lt b hb).2⟩), ?_⟩
            exact IsTms.mono (fun c hc => ⟨by have := hc.1; omega, hc.2.1⟩) (Nat.le_refl _) (fun _ _ => rfl) (fun _ _ _ _ _ h => h) _ _ hts
end Go.Proofs.YtkmpelgfhjgddaaGreatDoor
namespace Go.Proofs.YtkmpelgfhjgddaaGreatDoor
open Go.RowKit Go.Extern.Stop Go.Stop Go.Extern
set_option maxRecDepth 100000
theorem Tryz.as_valueOf27 (t : Addr) (w : World) : (ReflectliteValue.unpack (.iface 87 (.pointer (some t)))).run Tryz.prog w
    = .ok (.agg #[.pointer (some ⟨12, 87, none⟩), .pointer (some ⟨w.heap.size, 0, none⟩), .int .u64 150]) (w.alloc (.cells #[.pointer (some t)] 87)) := by kernel_rfl
theorem Tryz.as_type27 (a : Addr) (w : World) : (ReflectliteValue.methodAny (ReflectliteValue.valueError "reflectlite.Value.Type" 0) (fun t _ _ _ => ReflectliteType.toType t) #[.agg #[.pointer (some ⟨12, 87, none⟩), .pointer (some a), .int .u64 150]]).run Tryz.prog w
    = .ok (.iface 185 (.agg #[.pointer (some ⟨12, 87, none⟩)])) w := by kernel_rfl
theorem Tryz.as_methodKind (h : Value) (w : World) : (Go.method 398 185 (.agg #[h]) "Kind").run Tryz.prog w = .ok (170, h) w := by kernel_rfl
theorem Tryz.as_kind27 (w : World) : ((ReflectliteType.abiMethod fun t => (fun a : Nat => Value.int IntKind.u8 (a : Int)) <$> Rtype.kind t) #[.pointer (some ⟨12, 87, none⟩)]).run Tryz.prog w = .ok (.int .u8 22) w := by kernel_rfl
theorem Tryz.as_kind25 (w : World) : ((ReflectliteType.abiMethod fun t => (fun a : Nat => Value.int IntKind.u8 (a : Int)) <$> Rtype.kind t) #[.pointer (some ⟨12, 85, none⟩)]).run Tryz.prog w = .ok (.int .u8 22) w := by kernel_rfl
theorem as_rlm (z : Sem Value) (f : TypeId → Addr → Nat → Nat → Sem Value) (v : Value) :
    ReflectliteValue.method z f #[v] = (do match ← ReflectliteValue.parts v with | none => z | some (t, a, fl) => f t a fl (fl % 32)) := rfl
theorem Tryz.as_parts27 (a : Addr) (w : World) : (ReflectliteValue.parts (.agg #[.pointer (some ⟨12, 87, none⟩), .pointer (some a), .int .u64 150])).run Tryz.prog w = .ok (some (87, a, 150)) w := by kernel_rfl
theorem Tryz.as_isNil27 (a p : Addr) (W : World) (ha : W.cell? a = some (.pointer (some p))) :
    (ReflectliteValue.method (ReflectliteValue.valueError "reflectlite.Value.IsNil" 0) ReflectliteValue.isNil #[.agg #[.pointer (some ⟨12, 87, none⟩), .pointer (some a), .int .u64 150]]).run Tryz.prog W = .ok (.bool false) W := by
  rw [as_rlm]
  simp only [Sem.run_bind, Tryz.as_parts27, Result.andThen]
  simp [ReflectliteValue.isNil, loadVar, isAgg, underlying, Tryz.underlying87, ha, Result.andThen]
theorem Tryz.as_methodElem (h : Value) (w : World) : (Go.method 398 185 (.agg #[h]) "Elem").run Tryz.prog w = .ok (188, .agg #[h]) w := by kernel_rfl
theorem Tryz.as_methodImplements (h : Value) (w : World) : (Go.method 398 185 (.agg #[h]) "Implements").run Tryz.prog w = .ok (189, .agg #[h]) w := by kernel_rfl
theorem Tryz.as_methodAssignableTo (h : Value) (w : World) : (Go.method 398 185 (.agg #[h]) "AssignableTo").run Tryz.prog w = .ok (186, .agg #[h]) w := by kernel_rfl
theorem Tryz.as_elem27 (w : World) : (ReflectliteType.method ReflectliteType.elem #[.agg #[.pointer (some ⟨12, 87, none⟩)]]).run Tryz.prog w = .ok (.iface 185 (.agg #[.pointer (some ⟨12, 85, none⟩)])) w := by kernel_rfl
theorem Tryz.as_implements25 (w : World) : (ReflectliteType.relation "Implements" ReflectliteType.implements_ #[.agg #[.pointer (some ⟨12, 85, none⟩)], .iface 185 (.agg #[.pointer (some ⟨12, 48, none⟩)])]).run Tryz.prog w = .ok (.bool true) w := by kernel_rfl
theorem Tryz.as_typeOf25 (v : Value) (w : World) : (ReflectliteType.typeOf #[.iface 85 v]).run Tryz.prog w = .ok (.iface 185 (.agg #[.pointer (some ⟨12, 85, none⟩)])) w := by kernel_rfl
theorem Tryz.as_assignable25 (w : World) : (ReflectliteType.relation "AssignableTo" ReflectliteType.assignableTo #[.agg #[.pointer (some ⟨12, 85, none⟩)], .iface 185 (.agg #[.pointer (some ⟨12, 85, none⟩)])]).run Tryz.prog w = .ok (.bool true) w := by kernel_rfl
theorem Tryz.as_valueOf25 (e : Addr) (w : World) : (ReflectliteValue.unpack (.iface 85 (.pointer (some e)))).run Tryz.prog w
    = .ok (.agg #[.pointer (some ⟨12, 85, none⟩), .pointer (some ⟨w.heap.size, 0, none⟩), .int .u64 150]) (w.alloc (.cells #[.pointer (some e)] 85)) := by kernel_rfl
theorem Tryz.as_elemOf27 (w : World) : (Rtype.elem? 87).run Tryz.prog w = .ok (some 85) w := by kernel_rfl
theorem Tryz.as_mk25 (p : Addr) (w : World) : (ReflectliteValue.mk 85 p ReflectliteValue.flagAddr).run Tryz.prog w = .ok (.agg #[.pointer (some ⟨12, 85, none⟩), .pointer (some p), .int .u64 406]) w := by kernel_rfl
theorem Tryz.as_elemV27 (a p : Addr) (W : World) (ha : W.cell? a = some (.pointer (some p))) :
    (ReflectliteValue.method (ReflectliteValue.valueError "reflectlite.Value.Elem" 0) ReflectliteValue.elem #[.agg #[.pointer (some ⟨12, 87, none⟩), .pointer (some a), .int .u64 150]]).run Tryz.prog W
      = .ok (.agg #[.pointer (some ⟨12, 85, none⟩), .pointer (some p), .int .u64 406]) W := by
  rw [as_rlm]
  simp only [Sem.run_bind, Tryz.as_parts27, Result.andThen]
  simp [ReflectliteValue.elem, loadVar, isAgg, underlying, Tryz.underlying87, ha, Result.andThen, Tryz.as_elemOf27, Tryz.as_mk25]
theorem as_rls (v x : Value) : ReflectliteValue.set #[v, x] = (do
    let (some (dst, a, fl), some (src, b, _)) := (← ReflectliteValue.parts v, ← ReflectliteValue.parts x)
      | unsupported (.noEntry "extern/(internal/reflectlite.Value).Set.zeroValue")
    if fl / ReflectliteValue.flagAddr % 2 == 0 then unsupported (.noEntry "extern/(internal/reflectlite.Value).Set.unaddressable")
    let val ← loadVar src b
    if ← Rtype.directlyAssignable dst src then storeVar dst a val
    else if ← Rtype.implements dst src then
      if (← Rtype.kind src) == 20 then
        match val with
        | .nilIface => unsupported (.noEntry "extern/reflectlite: a nil value of one interface type handed on as a value of another")
        | _ => storeVar dst a val
      else storeVar dst a (.iface src val)
    else panicString ("reflectlite.Set: value of type " ++ (← Rtype.spelt src) ++ " is not assignable to type " ++ (← Rtype.spelt dst))
    pure (.tuple #[])) := rfl
theorem Tryz.as_parts25a (a : Addr) (w : World) : (ReflectliteValue.parts (.agg #[.pointer (some ⟨12, 85, none⟩), .pointer (some a), .int .u64 406])).run Tryz.prog w = .ok (some (85, a, 406)) w := by kernel_rfl
theorem Tryz.as_parts25 (a : Addr) (w : World) : (ReflectliteValue.parts (.agg #[.pointer (some ⟨12, 85, none⟩), .pointer (some a), .int .u64 150])).run Tryz.prog w = .ok (some (85, a, 150)) w := by kernel_rfl
theorem Tryz.as_direct25 (w : World) : (Rtype.directlyAssignable 85 85).run Tryz.prog w = .ok true w := by kernel_rfl
theorem Tryz.as_set25 (ta b e : Addr) (old : Value) (W : World) (hb : W.cell? b = some (.pointer (some e))) (ht : W.cell? ta = some old) (hf : W.frozen? ta = false) :
    (ReflectliteValue.set #[.agg #[.pointer (some ⟨12, 85, none⟩), .pointer (some ta), .int .u64 406], .agg #[.pointer (some ⟨12, 85, none⟩), .pointer (some b), .int .u64 150]]).run Tryz.prog W
      = .ok (.tuple #[]) (W.setCell ta (.pointer (some e))) := by
  rw [as_rls]
  simp only [Sem.run_bind, Tryz.as_parts25a, Tryz.as_parts25, Result.andThen]
  simp [ReflectliteValue.flagAddr, loadVar, isAgg, underlying, Tryz.underlying85, hb, Result.andThen, Tryz.as_direct25, storeVar, Value.cells, storeCells, Addr.add]
  rw [run_store Tryz.prog W ta _ _ (by rfl)]
  simp [ht, hf]
set_option maxHeartbeats 4000000 in
theorem as_hit (e t : Addr) (old : Value) (w : World) (hg : w.cell? ⟨0, 0, none⟩ = some (.iface 185 (.agg #[.pointer (some ⟨12, 48, none⟩)]))) (ht0 : w.cell? t = some old) (hf0 : w.frozen? t = false) :
    Calls Tryz.prog 29 #[.iface 85 (.pointer (some e)), .iface 87 (.pointer (some t))] w fun ev w' => ev = .returned (.bool true) ∧ w' = ((((w.alloc (.cells #[.pointer (some t)] 87)).alloc (.cells #[.pointer (some ⟨12, 87, none⟩), .pointer (some ⟨w.heap.size, 0, none⟩), .int .u64 150] 152)).alloc (.cells #[.pointer (some ⟨12, 87, none⟩), .pointer (some ⟨w.heap.size, 0, none⟩), .int .u64 150] 152)).alloc (.cells #[.pointer (some e)] 85)).setCell t (.pointer (some e)) := by
  have h6 := @run_callFunc_extern Tryz.prog 57 _ (fun args => ReflectliteValue.unpack (args.getD 0 (.tuple #[]))) Tryz.func57 (by kernel_rfl) (by kernel_rfl) (by kernel_rfl) (by kernel_rfl)
  have h7 := @run_callFunc_extern Tryz.prog 58 _ (ReflectliteValue.methodAny (ReflectliteValue.valueError "reflectlite.Value.Type" 0) (fun t _ _ _ => ReflectliteType.toType t)) Tryz.func58 (by kernel_rfl) (by kernel_rfl) (by kernel_rfl) (by kernel_rfl)
  have h8 := @run_callFunc_extern Tryz.prog 59 _ (ReflectliteValue.method (ReflectliteValue.valueError "reflectlite.Value.IsNil" 0) ReflectliteValue.isNil) Tryz.func59 (by kernel_rfl) (by kernel_rfl) (by kernel_rfl) (by kernel_rfl)
  have h27 := @run_callFunc_extern Tryz.prog 170 _ (ReflectliteType.abiMethod fun t => do pure (.int .u8 (← Rtype.kind t))) Tryz.func170 (by kernel_rfl) (by kernel_rfl) (by kernel_rfl) (by kernel_rfl)
  have h37 := @run_callFunc_extern Tryz.prog 188 _ (ReflectliteType.method ReflectliteType.elem) Tryz.func188 (by kernel_rfl) (by kernel_rfl) (by kernel_rfl) (by kernel_rfl)
  have h38 := @run_callFunc_extern Tryz.prog 189 _ (ReflectliteType.relation "Implements" ReflectliteType.implements_) Tryz.func189 (by kernel_rfl) (by kernel_rfl) (by kernel_rfl) (by kernel_rfl)
  have h10 := @run_callFunc_extern Tryz.prog 80 _ ReflectliteType.typeOf Tryz.func80 (by kernel_rfl) (by kernel_rfl) (by kernel_rfl) (by kernel_rfl)
  have h35 := @run_callFunc_extern Tryz.prog 186 _ (ReflectliteType.relation "AssignableTo" ReflectliteType.assignableTo) Tryz.func186 (by kernel_rfl) (by kernel_rfl) (by kernel_rfl) (by kernel_rfl)
  have h11 := @run_callFunc_extern Tryz.prog 81 _ (ReflectliteValue.method (ReflectliteValue.valueError "reflectlite.Value.Elem" 0) ReflectliteValue.elem) Tryz.func81 (by kernel_rfl) (by kernel_rfl) (by kernel_rfl) (by kernel_rfl)
  have h12 := @run_callFunc_extern Tryz.prog 82 _ ReflectliteValue.set Tryz.func82 (by kernel_rfl) (by kernel_rfl) (by kernel_rfl) (by kernel_rfl)
  have tO := Tryz.as_typeOf25
  have mA := Tryz.as_methodAssignableTo
  have a25 := Tryz.as_assignable25
  have v25 := Tryz.as_valueOf25
  have f6 := Tryz.as_valueOf27
  have f7 := Tryz.as_type27
  have mK := Tryz.as_methodKind
  have mE := Tryz.as_methodElem
  have mI := Tryz.as_methodImplements
  have k27 := Tryz.as_kind27
  have k25 := Tryz.as_kind25
  have e27 := Tryz.as_elem27
  have i25 := Tryz.as_implements25
  have n8 := Tryz.as_isNil27 ⟨w.heap.size, 0, none⟩ t ((w.alloc (.cells #[.pointer (some t)] 87)).alloc (.cells #[.pointer (some ⟨12, 87, none⟩), .pointer (some ⟨w.heap.size, 0, none⟩), .int .u64 150] 152)) (by simp)
  have hlt : 0 < w.heap.size := by
    rcases Nat.eq_zero_or_pos w.heap.size with h0 | h
    · simp [World.cell?, h0] at hg
    · exact h
  have hg2 : ((w.alloc (.cells #[.pointer (some t)] 87)).alloc (.cells #[.pointer (some ⟨12, 87, none⟩), .pointer (some ⟨w.heap.size, 0, none⟩), .int .u64 150] 152)).cell? ⟨0, 0, none⟩ = some (.iface 185 (.agg #[.pointer (some ⟨12, 48, none⟩)])) := by
    rw [World.cell?_alloc_lt _ _ ⟨0, 0, none⟩ (by simp), World.cell?_alloc_lt _ _ ⟨0, 0, none⟩ hlt]; exact hg
  have htl : t.block < w.heap.size := by
    rcases Nat.lt_or_ge t.block w.heap.size with h | h
    · exact h
    · simp [World.cell?, Array.getElem?_eq_none h] at ht0
  have el := Tryz.as_elemV27 ⟨w.heap.size, 0, none⟩ t (((w.alloc (.cells #[.pointer (some t)] 87)).alloc (.cells #[.pointer (some ⟨12, 87, none⟩), .pointer (some ⟨w.heap.size, 0, none⟩), .int .u64 150] 152)).alloc (.cells #[.pointer (some ⟨12, 87, none⟩), .pointer (some ⟨w.heap.size, 0, none⟩), .int .u64 150] 152)) (by rw [World.cell?_alloc_lt _ _ ⟨w.heap.size, 0, none⟩ (by simp; omega)]; simp)
  have st := Tryz.as_set25 t ⟨w.heap.size + 1 + 1 + 1, 0, none⟩ e old ((((w.alloc (.cells #[.pointer (some t)] 87)).alloc (.cells #[.pointer (some ⟨12, 87, none⟩), .pointer (some ⟨w.heap.size, 0, none⟩), .int .u64 150] 152)).alloc (.cells #[.pointer (some ⟨12, 87, none⟩), .pointer (some ⟨w.heap.size, 0, none⟩), .int .u64 150] 152)).alloc (.cells #[.pointer (some e)] 85))
    (by rw [World.cell?_alloc_at _ _ _ _ (by simp)]; rfl)
    (by rw [World.cell?_alloc_lt _ _ t (by simp; omega), World.cell?_alloc_lt _ _ t (by simp; omega), World.cell?_alloc_lt _ _ t (by simp; omega), World.cell?_alloc_lt _ _ t htl]; exact ht0)
    (by rw [World.frozen?_alloc_old _ _ t (by simp; omega), World.frozen?_alloc_old _ _ t (by simp; omega), World.frozen?_alloc_old _ _ t (by simp; omega), World.frozen?_alloc_old _ _ t (Nat.ne_of_lt htl)]; exact hf0)
  go_enter Tryz.func29, Tryz.ntmps29
  go_wp2
  refine wp_loop_rounds 1 ?_
  rw [rounds_succ]
  go_wp2
  go_ret
  exact ⟨rfl, rfl⟩
end Go.Proofs.YtkmpelgfhjgddaaGreatDoor
namespace Go.Proofs.YtkmpelgfhjgddaaGreatDoor
open Go.RowKit Sx
set_option maxRecDepth 100000
theorem aTellNil (w : World) : Calls Tryz.prog 14 #[.nilIface] w fun e w' => Ext w w' ∧ e = .returned (.tuple #[.int .i64 0, .int .i64 (-1)]) := by
  refine sh_a_Tell_ok ?_
  simp (disch := first | assumption | omega | ((simp only [size_alloc, sz_drew, size_upd, List.size_toArray, List.length_cons, List.length_nil]) <;> omega) | decide) only [sh_a_Tell, Pr, PX, PC, NX, ends, fillL, wrL, sOf, Nat.reduceAdd, Nat.reduceMul, Nat.reduceLeDiff, Nat.reduceEqDiff, Int.reduceToNat, Int.reduceAdd, Int.reduceLT, Int.reduceLE, ↓reduceIte, forall_const, eq_self, zG1, zG2, al_29, al_85, eqi0_48, eqi1_48, fa_89_0, fa_89_1, ld_29, ld_3, ld_85, mi_87, mi_90]
  exact (by (repeat (first | assumption | exact FrM.refl _ _ | (refine FrM.upd ?_ (.inr (by (try simp only [size_alloc, sz_drew, size_upd, List.size_toArray, List.length_cons, List.length_nil]) <;> omega))) | refine FrM.alloc ?_ _ | refine FrM.drew ?_)))
def TabE (w : World) : Prop := w.cell? ⟨0, 0, none⟩ = some (.iface 185 (.agg #[.pointer (some ⟨12, 48, none⟩)]))
theorem TabE.ext {w w' : World} (h : TabE w) (hE : Ext w w') : TabE w' := cellKeep h fun o ho => hE.ext _ o ho
theorem aTellAt (b : Nat) (c a : Int) (w : World) (hb : w.heap[b]? = some (.cells #[.int .i64 c, .int .i64 a] 89 (0, 0))) (hT : TabE w) :
    Calls Tryz.prog 14 #[.iface 85 (.pointer (some ⟨b, 0, none⟩))] w fun e w' => Ext w w' ∧ e = .returned (.tuple #[.int .i64 c, .int .i64 a]) := by
  refine sh_a_Tell_ok ?_
  have lb := ltOf hb
  simp (disch := first | assumption | omega | ((simp only [size_alloc, sz_drew, size_upd, List.size_toArray, List.length_cons, List.length_nil]) <;> omega) | decide) only [sh_a_Tell, Pr, PX, PC, NX, ends, fillL, wrL, sOf, Nat.reduceAdd, Nat.reduceMul, Nat.reduceLeDiff, Nat.reduceEqDiff, Int.reduceToNat, Int.reduceAdd, Int.reduceLT, Int.reduceLE, ↓reduceIte, forall_const, eq_self, zG1, zG2, al_29, al_85, eqi0_48, eqi1_48, fa_89_0, fa_89_1, ld_29, ld_3, ld_85, mi_87, mi_90]
  obtain ⟨wA, hwA⟩ : ∃ x, x = (w.alloc (.cells #[.pointer none] 85 (0, 0))).alloc (.cells #[.int .i64 0] 29 (0, 0)) := ⟨_, rfl⟩
  have sA : wA.heap.size = w.heap.size + 2 := by rw [hwA]; simp
  have hEA : Ext w wA := by rw [hwA]; (repeat (first | assumption | exact FrM.refl _ _ | (refine FrM.upd ?_ (.inr (by (try simp only [size_alloc, sz_drew, size_upd, List.size_toArray, List.length_cons, List.length_nil]) <;> omega))) | refine FrM.alloc ?_ _ | refine FrM.drew ?_))
  have q0 : wA.heap[w.heap.size]? = some (.cells #[.pointer none] 85 (0, 0)) := by rw [hwA]; simp (disch := first | assumption | omega | ((simp only [size_alloc, sz_drew, size_upd, List.size_toArray, List.length_cons, List.length_nil]) <;> omega) | decide) only [hp_alloc_old, hp_alloc_new, hp_upd_same, hp_upd_other, hp_drew, sz_drew, size_upd, size_alloc]
  rw [← hwA]
  refine (as_hit ⟨b, 0, none⟩ ⟨w.heap.size, 0, none⟩ _ wA (hT.ext hEA) (by simp [World.cell?, q0]; rfl) (freeOf q0 0)).mono ?_
  rintro e w3 ⟨rfl, hw3⟩
  obtain ⟨wB, hwB⟩ : ∃ x, x = (((wA.alloc (.cells #[.pointer (some ⟨w.heap.size, 0, none⟩)] 87 (0, 0))).alloc (.cells #[.pointer (some ⟨12, 87, none⟩), .pointer (some ⟨wA.heap.size, 0, none⟩), .int .u64 150] 152 (0, 0))).alloc (.cells #[.pointer (some ⟨12, 87, none⟩), .pointer (some ⟨wA.heap.size, 0, none⟩), .int .u64 150] 152 (0, 0))).alloc (.cells #[.pointer (some ⟨b, 0, none⟩)] 85 (0, 0)) := ⟨_, rfl⟩
  rw [← hwB] at hw3
  have hEB : Ext wA wB := by rw [hwB]; (repeat (first | assumption | exact FrM.refl _ _ | (refine FrM.upd ?_ (.inr (by (try simp only [size_alloc, sz_drew, size_upd, List.size_toArray, List.length_cons, List.length_nil]) <;> omega))) | refine FrM.alloc ?_ _ | refine FrM.drew ?_))
  have qB := hEB.ext _ _ q0
  rw [upd_setCell qB] at hw3
  have hE3 : Ext w w3 := by
    rw [hw3]
    exact FrM.upd (hEA.trans hEB) (.inr (Nat.le_refl _))
  have q3 : w3.heap[w.heap.size]? = some (.cells #[.pointer (some ⟨b, 0, none⟩)] 85 (0, 0)) := by
    rw [hw3]
    exact hp_upd_same rfl (ltOf qB)
  have q4 := hE3.ext _ _ hb
  simp (disch := first | assumption | omega | ((simp only [size_alloc, sz_drew, size_upd, List.size_toArray, List.length_cons, List.length_nil]) <;> omega) | decide) only [sh_a_Tell, Pr, PX, PC, NX, ends, fillL, wrL, sOf, Nat.reduceAdd, Nat.reduceMul, Nat.reduceLeDiff, Nat.reduceEqDiff, Int.reduceToNat, Int.reduceAdd, Int.reduceLT, Int.reduceLE, ↓reduceIte, forall_const, eq_self, zG1, zG2, al_29, al_85, eqi0_48, eqi1_48, fa_89_0, fa_89_1, ld_29, ld_3, ld_85, mi_87, mi_90, q3, q4]
  exact hE3.drew
end Go.Proofs.YtkmpelgfhjgddaaGreatDoor
namespace Go.Proofs.YtkmpelgfhjgddaaGreatDoor
open Go.RowKit Sx
set_option maxRecDepth 100000
def P.termT (T : List P.Tok) : P.Res P.Ex :=
  match P.pOper T (P.fuelFor T) 0 0 [] 0 with
  | some (.ok x k vs) => if (P.tk T k).kind = 0 then .ok x k vs else .err 2 (P.tk T k).pos
  | some (.err e a) => .err e a
  | none => .err 0 0
def ITm (F : Nat → Prop) (w : World) (b : Nat) (x : P.Ex) (vs : List P.Bs) : Prop :=
  F b ∧ vs.length ≤ 12 ∧ ∃ av va vc, w.heap[b]? = some (.cells #[.string (bs []), av, .pointer none, .slice va vs.length vc] 104 (0, 0)) ∧ IsSlEx F w av [x]
theorem ITm.stab (F F' : Nat → Prop) (w w' : World) (b : Nat) (x : P.Ex) (vs : List P.Bs) (hf : ∀ b, F b → F' b) (hw : ∀ b o, F b → w.heap[b]? = some o → w'.heap[b]? = some o) (h : ITm F w b x vs) : ITm F' w' b x vs := by
  obtain ⟨h1, h0, av, va, vc, h2, us, h3, h4⟩ := h
  exact ⟨hf _ h1, h0, av, va, vc, hw _ _ h1 h2, us, h3.mono hf fun b cs hb ho => hw b _ hb ho, IsExs.mono hf (fun b o hb _ ho => hw b o hb ho) _ _ h4⟩
theorem sTerm1 {pb tb : Nat} {T : List P.Tok} {w : World} (h : SP w pb tb T 0 [] 0) : Calls Tryz.prog 67 #[.pointer (some ⟨pb, 0, none⟩)] w (SPostC ITm pb w (P.termT T)) := by
  refine sh_s_Term_c1_ok ?_
  cases hq : P.pOper T (P.fuelFor T) 0 0 [] 0 with
  | none =>
    obtain ⟨r, hr⟩ := (P.tot T (P.fuelFor T)).oper 0 0 [] 0 (by omega) (by unfold P.fuelFor; omega)
    rw [hr] at hq; cases hq
  | some q =>
  refine Calls.mono ((cExprs (P.fuelFor T)).go h (by omega) hq) ?_
  rintro e w1 hp
  cases q with
  | err c a =>
    obtain ⟨⟨b, rfl, h1, h2⟩, hF, hsb⟩ := hp
    simp (disch := first | assumption | omega | ((simp only [size_alloc, sz_drew, size_upd, List.size_toArray, List.length_cons, List.length_nil]) <;> omega) | decide) only [sh_s_Term_c1, Pr, PX, PC, NX, ends, fillL, wrL, sOf, Nat.reduceAdd, Nat.reduceMul, Nat.reduceLeDiff, Nat.reduceEqDiff, Int.reduceToNat, Int.reduceAdd, Int.reduceLT, Int.reduceLE, ↓reduceIte, forall_const, eq_self, zG1, zG2, bd_104, br_101_1, fa_139_0, fa_142_0, fa_142_1, ix_140, ld_137, ld_140, ld_38]
    refine ⟨hF, ?_⟩
    simp only [P.termT, hq]
    exact ⟨b, rfl, h1, h2⟩
  | ok x k vs =>
    obtain ⟨v, rfl, hx, hsp, hF⟩ := hp
    have s1 := hF.size
    obtain ⟨cap, va, vc, cs, h3, hc1, hc2, hlT, hkt, g0, g1, g2, g3, g4, g5⟩ := hsp.x
    have l3 := ltOf h3
    simp (disch := first | assumption | omega | ((simp only [size_alloc, sz_drew, size_upd, List.size_toArray, List.length_cons, List.length_nil]) <;> omega) | decide) only [sh_s_Term_c1, Pr, PX, PC, NX, ends, fillL, wrL, sOf, Nat.reduceAdd, Nat.reduceMul, Nat.reduceLeDiff, Nat.reduceEqDiff, Int.reduceToNat, Int.reduceAdd, Int.reduceLT, Int.reduceLE, ↓reduceIte, forall_const, eq_self, zG1, zG2, bd_104, br_101_1, fa_139_0, fa_142_0, fa_142_1, ix_140, ld_137, ld_140, ld_38]
    refine ⟨fun _ w' => w' = w1 ∧ (P.tk T k).kind = 0, ?_, ?_⟩
    · by_cases hk0 : (P.tk T k).kind = 0
      · have hk0' : (((P.tk T k).kind : Nat) : Int) = 0 := by omega
        simp (disch := first | assumption | omega | ((simp only [size_alloc, sz_drew, size_upd, List.size_toArray, List.length_cons, List.length_nil]) <;> omega) | decide) only [sh_s_Term_c1, Pr, PX, PC, NX, ends, fillL, wrL, sOf, Nat.reduceAdd, Nat.reduceMul, Nat.reduceLeDiff, Nat.reduceEqDiff, Int.reduceToNat, Int.reduceAdd, Int.reduceLT, Int.reduceLE, ↓reduceIte, forall_const, eq_self, zG1, zG2, bd_104, br_101_1, fa_139_0, fa_142_0, fa_142_1, ix_140, ld_137, ld_140, ld_38, h3, g0, g3]
        exact hk0
      · have hk0' : ¬ (((P.tk T k).kind : Nat) : Int) = 0 := by omega
        simp (disch := first | assumption | omega | ((simp only [size_alloc, sz_drew, size_upd, List.size_toArray, List.length_cons, List.length_nil]) <;> omega) | decide) only [sh_s_Term_c1, Pr, PX, PC, NX, ends, fillL, wrL, sOf, Nat.reduceAdd, Nat.reduceMul, Nat.reduceLeDiff, Nat.reduceEqDiff, Int.reduceToNat, Int.reduceAdd, Int.reduceLT, Int.reduceLE, ↓reduceIte, forall_const, eq_self, zG1, zG2, bd_104, br_101_1, fa_139_0, fa_142_0, fa_142_1, ix_140, ld_137, ld_140, ld_38, h3, g0, g3]
        refine (sNone hsp).mono ?_
        rintro e w2 ⟨hfl, hF2, -⟩
        have hfl2 := faulted_back hfl s1
        obtain ⟨b, rfl, -, -⟩ := hfl
        simp (disch := first | assumption | omega | ((simp only [size_alloc, sz_drew, size_upd, List.size_toArray, List.length_cons, List.length_nil]) <;> omega) | decide) only [sh_s_Term_c1, Pr, PX, PC, NX, ends, fillL, wrL, sOf, Nat.reduceAdd, Nat.reduceMul, Nat.reduceLeDiff, Nat.reduceEqDiff, Int.reduceToNat, Int.reduceAdd, Int.reduceLT, Int.reduceLE, ↓reduceIte, forall_const, eq_self, zG1, zG2, bd_104, br_101_1, fa_139_0, fa_142_0, fa_142_1, ix_140, ld_137, ld_140, ld_38]
        refine ⟨hF.trans hF2, ?_⟩
        simp only [P.termT, hq, if_neg hk0]
        exact hfl2
    · rintro _ w2 ⟨rfl, hk0⟩ d
      obtain ⟨xb, rfl⟩ : ∃ xb, v = .pointer (some ⟨xb, 0, none⟩) := by
        cases x
        unfold IsEx at hx
        obtain ⟨b, _, _, rfl, _⟩ := hx
        exact ⟨b, rfl⟩
      simp (disch := first | assumption | omega | ((simp only [size_alloc, sz_drew, size_upd, List.size_toArray, List.length_cons, List.length_nil]) <;> omega) | decide) only [sh_s_Term_c1, Pr, PX, PC, NX, ends, fillL, wrL, sOf, Nat.reduceAdd, Nat.reduceMul, Nat.reduceLeDiff, Nat.reduceEqDiff, Int.reduceToNat, Int.reduceAdd, Int.reduceLT, Int.reduceLE, ↓reduceIte, forall_const, eq_self, zG1, zG2, bd_104, br_101_1, fa_139_0, fa_142_0, fa_142_1, ix_140, ld_137, ld_140, ld_38, h3]
      have hX : Ext w2 ((w2.alloc (.cells #[.pointer (some ⟨xb, 0, none⟩)] 124)).alloc (.cells #[.string (bs []), .slice (some ⟨w2.heap.size, 0, none⟩) 1 1, .pointer none, .slice va vs.length vc] 104)) := by (repeat (first | assumption | exact FrM.refl _ _ | (refine FrM.upd ?_ (.inr (by (try simp only [size_alloc, sz_drew, size_upd, List.size_toArray, List.length_cons, List.length_nil]) <;> omega))) | refine FrM.alloc ?_ _ | refine FrM.drew ?_))
      refine ⟨hF.trans hX.toM, ?_⟩
      simp only [P.termT, hq, if_pos hk0]
      refine ⟨_, rfl, ⟨by omega, by rw [size_alloc, size_alloc]; omega⟩, hsp.nv, _, va, vc, hp_alloc_new (by rw [size_alloc]), [.pointer (some ⟨xb, 0, none⟩)], ?_, ?_⟩
      · refine .inr ⟨w2.heap.size, #[.pointer (some ⟨xb, 0, none⟩)], rfl, ⟨by omega, by rw [size_alloc, size_alloc]; omega⟩, ?_, by simp, rfl⟩
        rw [hp_alloc_old (by rw [size_alloc]; omega), hp_alloc_new rfl]
      · unfold IsExs
        refine ⟨_, [], rfl, IsEx.mono (fun b hb => ⟨hb.1, by have := hb.2; simp; omega⟩) (fun b o _ _ ho => hX.ext b o ho) _ _ hx, ?_⟩
        unfold IsExs
        rfl
def P.term (s : P.Bs) : P.Res P.Ex := P.ofText P.termT s
theorem sTerm (s : P.Bs) (w : World) (hl : s.length ≤ 100000) (hT : STabs2 w) : Calls Tryz.prog 37 #[.string (bs s)] w (SPostK ITm w (P.term s)) := by
  refine sh_s_Term_ok ?_
  refine (sCaughtC ITm.stab (g := P.termT) (by kernel_rfl) s w hl hT fun _ h _ => sTerm1 h).mono ?_
  rintro e w1 ⟨hE, hp⟩
  rw [show P.ofText P.termT s = P.term s from rfl] at hp
  cases hr : P.term s with
  | err c a =>
    rw [hr] at hp
    obtain ⟨b, rfl, h1⟩ := hp
    simp (disch := first | assumption | omega | ((simp only [size_alloc, sz_drew, size_upd, List.size_toArray, List.length_cons, List.length_nil]) <;> omega) | decide) only [sh_s_Term, Pr, PX, PC, NX, ends, fillL, wrL, sOf, Nat.reduceAdd, Nat.reduceMul, Nat.reduceLeDiff, Nat.reduceEqDiff, Int.reduceToNat, Int.reduceAdd, Int.reduceLT, Int.reduceLE, ↓reduceIte, forall_const, eq_self, zG1, zG2]
    exact ⟨hE, b, rfl, h1⟩
  | ok x k vs =>
    rw [hr] at hp
    obtain ⟨b, rfl, h1⟩ := hp
    simp (disch := first | assumption | omega | ((simp only [size_alloc, sz_drew, size_upd, List.size_toArray, List.length_cons, List.length_nil]) <;> omega) | decide) only [sh_s_Term, Pr, PX, PC, NX, ends, fillL, wrL, sOf, Nat.reduceAdd, Nat.reduceMul, Nat.reduceLeDiff, Nat.reduceEqDiff, Int.reduceToNat, Int.reduceAdd, Int.reduceLT, Int.reduceLE, ↓reduceIte, forall_const, eq_self, zG1, zG2]
    exact ⟨hE, b, rfl, h1⟩
end Go.Proofs.YtkmpelgfhjgddaaGreatDoor
