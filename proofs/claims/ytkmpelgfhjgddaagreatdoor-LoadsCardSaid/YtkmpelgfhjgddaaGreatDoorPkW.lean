/- A part of one proof (RW9, RW10, RCon2, RCon3); no conditions beyond what each theorem names. -/
import Derived.Test.YtkmpelgfhjgddaaGreatDoorPkV
set_option linter.all false
set_option linter.unusedVariables false
set_option linter.unusedSimpArgs false
namespace Go.Proofs.YtkmpelgfhjgddaaGreatDoor
open Go.RowKit Sx
set_option maxRecDepth 100000
def LT (p0 x2 x3 rv : Value) (w1_13 : World) (R : Ending → World → Prop) : Prop :=
    CA Tryz.prog 34 #[p0, (.string (bs [93]))] w1_13 (fun x30 w1_16 =>
    RD Tryz.prog (Builtin.len_ #[34] 3 #[rv]) w1_16 (fun x32 =>
    RD Tryz.prog (bo .sub 3 (.tmp 32) (.const (.int .i64 1)) x32 (.int .i64 1)) w1_16 (fun x33 =>
    LoopW (fun rec_1 s_2 d_2 w1_17 =>
      RD Tryz.prog (bo .geq 3 (.tmp 34) (.const (.int .i64 0)) (s_2 9) (.int .i64 0)) w1_17 (fun x35 => BS x35 (
      RD Tryz.prog (Instr.indexAt 34 rv (s_2 9)) w1_17.drew (fun x40 =>
      RD Tryz.prog (Instr.loadAt 69 x40) w1_17.drew (fun x41 =>
      RD Tryz.prog (Instr.loadAt 69 x3) w1_17.drew (fun x42 =>
      WR Tryz.prog (Instr.buildSlice 34 2 #[(0, x41), (1, x42)]) w1_17.drew (fun x43 w1_18 =>
      RD Tryz.prog (Instr.build 69 #[(0, (.int .u8 99)), (1, (.string (bs [46]))), (4, x43)]) w1_18 (fun x44 =>
      WU Tryz.prog (Instr.storeAt 69 x3 x44) w1_18 (fun w1_19 =>
      RD Tryz.prog (bo .sub 3 (.tmp 36) (.const (.int .i64 1)) (s_2 9) (.int .i64 1)) w1_19 (fun x37 =>
      rec_1 (sOf [(9, x37)]) w1_19) (PX R)) (PX R)) (PX R)) (PX R)) NX) NX) NX) (
      RD Tryz.prog (Instr.loadAt 69 x3) w1_17 (fun x45 =>
    WU Tryz.prog (Instr.storeAt 69 x2 x45) w1_17 (fun w1_20 =>
    RD Tryz.prog (Instr.loadAt 69 x2) w1_20 (fun r_1 => R (.returned r_1) w1_20) NX) (PX R)) (PX R))) (PX R))
      (sOf [(9, x33)]) w1_16) (PX R)) (PX R)) (PC R)
theorem mkList_drop (acc : List P.Ex) (x : P.Ex) (i : Nat) (hi : i < acc.length) : P.mkList (acc.drop i) x = .mk 99 [46] 0 0 [acc[i], P.mkList (acc.drop (i + 1)) x] := by
  rw [List.drop_eq_getElem_cons hi]
  rfl
theorem own_five {w : World} {base : Nat} {v : Value} {m : Nat} {xs : List Value} (h : w.ownsRow base 69 5 v m xs) {i : Nat} (hi : i < m) (h1 : ∀ u ∈ xs, u.oneCell' = true) :
    ∃ g cap cur a0 a1 a2 a3 a4, v = .slice (some ⟨g, 0, none⟩) m cap ∧ w.heap[g]? = some (.cells cur 69 (0, 0)) ∧ i * 5 + 5 ≤ cur.size ∧ (cur.toList.drop (i * 5)).take 5 = [a0, a1, a2, a3, a4] ∧
      (xs.drop (5 * i)).take 5 = [a0, a1, a2, a3, a4] ∧ a0.oneCell' = true ∧ a1.oneCell' = true ∧ a2.oneCell' = true ∧ a3.oneCell' = true ∧ a4.oneCell' = true := by
  obtain ⟨hl, h⟩ := h
  rcases h with ⟨_, rfl⟩ | ⟨g, cap, cur, rfl, g1, g2, g3, g4, g5, g6⟩
  · omega
  have hms : m * 5 ≤ cur.size := by rw [g5]; exact Nat.mul_le_mul_right _ g3
  have e1 : (xs.drop (5 * i)).take 5 = (cur.toList.drop (i * 5)).take 5 := by
    rw [← g6, List.drop_take, List.take_take, Nat.mul_comm 5 i]
    congr 1
    omega
  have e2 : ((cur.toList.drop (i * 5)).take 5).length = 5 := by
    simp
    omega
  have hone : ∀ u ∈ (cur.toList.drop (i * 5)).take 5, u.oneCell' = true := fun u hu => by
    rw [← e1] at hu
    exact h1 u (List.mem_of_mem_drop (List.mem_of_mem_take hu))
  match hq : (cur.toList.drop (i * 5)).take 5, e2 with
  | [a0, a1, a2, a3, a4], _ =>
    rw [hq] at hone e1
    exact ⟨g, cap, cur, a0, a1, a2, a3, a4, rfl, g2, by omega, hq, e1, hone _ (by simp), hone _ (by simp), hone _ (by simp), hone _ (by simp), hone _ (by simp)⟩
theorem IsRxs.one {F : Nat → Prop} {w : World} : ∀ {xs : List P.Ex} {vs : List Value}, IsRxs F w vs xs → ∀ u ∈ vs, u.oneCell' = true
  | [], vs, h, u, hu => by unfold IsRxs at h; subst h; cases hu
  | x :: xs, vs, h, u, hu => by
    unfold IsRxs at h
    obtain ⟨l, r, rfl, h2, h3⟩ := h
    obtain ⟨a, b, c, d, e, rfl, p1, p2, p3, p4, p5⟩ := h2.len
    simp only [List.mem_append, List.mem_cons, List.not_mem_nil, or_false] at hu
    rcases hu with (rfl | rfl | rfl | rfl | rfl) | hu
    · exact p1
    · exact p2
    · exact p3
    · exact p4
    · exact p5
    · exact IsRxs.one h3 u hu
abbrev Fl (B : Nat) (w : World) : Nat → Prop := fun b => B ≤ b ∧ b < w.heap.size
theorem rListTail {pb tb : Nat} {T : List P.Tok} {d : Nat} {w wt : World} {r : P.Res P.Ex} {q2 q3 B m : Nat} {rv : Value} {xs : List Value} {a b c g u : Value} (hpb : pb < w.heap.size) (hq2 : w.heap.size ≤ q2) (hq3 : q2 < q3) (hB : q3 < B) (hF : RFr pb w wt)
    (h2 : wt.heap[q2]? = some (.cells #[.int .u8 0, .string (bs []), .int .i64 0, .int .i64 0, .slice none 0 0] 69 (0, 0))) (h3 : wt.heap[q3]? = some (.cells #[a, b, c, g, u] 69 (0, 0))) (hone : a.oneCell' = true ∧ b.oneCell' = true ∧ c.oneCell' = true ∧ g.oneCell' = true ∧ u.oneCell' = true ∧ ShX a b c g u)
    (hown : wt.ownsRow B 69 5 rv m xs) (hx1 : ∀ u ∈ xs, u.oneCell' = true) (hm : m ≤ 100000)
    (hst : (∃ k vs acc x0, P.musT T [93] (P.mkList acc x0) k vs = some r ∧ RP wt pb tb T k vs d 0 0 ∧ IsRx (Fl B wt) wt [a, b, c, g, u] x0 ∧ IsRxs (Fl B wt) wt xs acc ∧ m = acc.length) ∨
      (∃ k vs c a, r = .err c a ∧ c ≠ 0 ∧ RP wt pb tb T k vs d c a)) :
    LT (.pointer (some ⟨pb, 0, none⟩)) (.pointer (some ⟨q2, 0, none⟩)) (.pointer (some ⟨q3, 0, none⟩)) rv wt (RPostX pb tb T d w r) := by
  obtain ⟨a0, c0, hrv⟩ := own_slice hown
  subst hrv
  have hgo : ∀ w2 : World, RFr pb wt w2 → ((∃ k vs acc x0, r = .ok (P.mkList acc x0) k vs ∧ RP w2 pb tb T k vs d 0 0 ∧ IsRx (Fl B w2) w2 [a, b, c, g, u] x0 ∧ IsRxs (Fl B w2) w2 xs acc ∧ m = acc.length) ∨
      (∃ k vs c a, r = .err c a ∧ c ≠ 0 ∧ RP w2 pb tb T k vs d c a)) → ends (fun x30 w1_16 =>
    RD Tryz.prog (Builtin.len_ #[34] 3 #[.slice a0 m c0]) w1_16 (fun x32 =>
    RD Tryz.prog (bo .sub 3 (.tmp 32) (.const (.int .i64 1)) x32 (.int .i64 1)) w1_16 (fun x33 =>
    LoopW (fun rec_1 s_2 d_2 w1_17 =>
      RD Tryz.prog (bo .geq 3 (.tmp 34) (.const (.int .i64 0)) (s_2 9) (.int .i64 0)) w1_17 (fun x35 => BS x35 (
      RD Tryz.prog (Instr.indexAt 34 (.slice a0 m c0) (s_2 9)) w1_17.drew (fun x40 =>
      RD Tryz.prog (Instr.loadAt 69 x40) w1_17.drew (fun x41 =>
      RD Tryz.prog (Instr.loadAt 69 (.pointer (some ⟨q3, 0, none⟩))) w1_17.drew (fun x42 =>
      WR Tryz.prog (Instr.buildSlice 34 2 #[(0, x41), (1, x42)]) w1_17.drew (fun x43 w1_18 =>
      RD Tryz.prog (Instr.build 69 #[(0, (.int .u8 99)), (1, (.string (bs [46]))), (4, x43)]) w1_18 (fun x44 =>
      WU Tryz.prog (Instr.storeAt 69 (.pointer (some ⟨q3, 0, none⟩)) x44) w1_18 (fun w1_19 =>
      RD Tryz.prog (bo .sub 3 (.tmp 36) (.const (.int .i64 1)) (s_2 9) (.int .i64 1)) w1_19 (fun x37 =>
      rec_1 (sOf [(9, x37)]) w1_19) (PX (RPostX pb tb T d w r))) (PX (RPostX pb tb T d w r))) (PX (RPostX pb tb T d w r))) (PX (RPostX pb tb T d w r))) NX) NX) NX) (
      RD Tryz.prog (Instr.loadAt 69 (.pointer (some ⟨q3, 0, none⟩))) w1_17 (fun x45 =>
    WU Tryz.prog (Instr.storeAt 69 (.pointer (some ⟨q2, 0, none⟩)) x45) w1_17 (fun w1_20 =>
    RD Tryz.prog (Instr.loadAt 69 (.pointer (some ⟨q2, 0, none⟩))) w1_20 (fun r_1 => (RPostX pb tb T d w r) (.returned r_1) w1_20) NX) (PX (RPostX pb tb T d w r))) (PX (RPostX pb tb T d w r)))) (PX (RPostX pb tb T d w r)))
      (sOf [(9, x33)]) w1_16) (PX (RPostX pb tb T d w r))) (PX (RPostX pb tb T d w r))) (PC (RPostX pb tb T d w r)) (.returned (.tuple #[])) w2 := by
    intro w2 hF2 hst
    have d2 := SFr.keep hF2 h2 (by omega) (by decide)
    have d3 := SFr.keep hF2 h3 (by omega) (by decide)
    have own2 := own_fr hF2 hown (by omega) (by decide)
    simp (disch := first | assumption | omega | ((simp only [size_alloc, sz_drew, size_upd, List.size_toArray, List.length_cons, List.length_nil]) <;> omega) | decide) only [sh_Pr_parser_list, Pr, PX, PC, NX, ends, fillL, wrL, sOf, Nat.reduceAdd, Nat.reduceMul, Nat.reduceLeDiff, Nat.reduceEqDiff, Int.reduceToNat, Int.reduceAdd, Int.reduceLT, Int.reduceLE, ↓reduceIte, forall_const, eq_self, zG1, zG2, al_69, bd_69, br_34_1, br_34_2, ix_34, ld_69, ln_34, st_69]
    refine ⟨fun n s wl => ∃ i a b c g u, i ≤ m ∧ n = i ∧ s 9 = .int .i64 ((i : Int) - 1) ∧ (a.oneCell' = true ∧ b.oneCell' = true ∧ c.oneCell' = true ∧ g.oneCell' = true ∧ u.oneCell' = true ∧ ShX a b c g u) ∧
      wl.heap[q2]? = some (.cells #[.int .u8 0, .string (bs []), .int .i64 0, .int .i64 0, .slice none 0 0] 69 (0, 0)) ∧ wl.heap[q3]? = some (.cells #[a, b, c, g, u] 69 (0, 0)) ∧ RFr pb w wl ∧ wl.ownsRow B 69 5 (.slice a0 m c0) m xs ∧
      ((∃ k vs acc x0, r = .ok (P.mkList acc x0) k vs ∧ RP wl pb tb T k vs d 0 0 ∧ IsRx (Fl B wl) wl [a, b, c, g, u] (P.mkList (acc.drop i) x0) ∧ IsRxs (Fl B wl) wl xs acc ∧ m = acc.length) ∨
       (∃ k vs c a, r = .err c a ∧ c ≠ 0 ∧ RP wl pb tb T k vs d c a)), ?_, ?_⟩
    · refine ⟨m, m, a, b, c, g, u, Nat.le_refl _, rfl, rfl, hone, d2, d3, hF.trans hF2, own2, ?_⟩
      rcases hst with ⟨k, vs, acc, x0, e1, e2, e3, e4, e5⟩ | h
      · exact .inl ⟨k, vs, acc, x0, e1, e2, by rw [e5, List.drop_length]; exact e3, e4, e5⟩
      · exact .inr h
    · intro n s dd wl hI
      refine toPr ?_
      obtain ⟨i, a, b, c, g, u, hi, rfl, h9, ⟨o1, o2, o3, o4, o5, oh⟩, f2, f3, hFl, hol, hst⟩ := hI
      have lf3 := ltOf f3
      cases n with
      | zero =>
        have h9 : s 9 = .int .i64 (-1) := h9
        simp (disch := first | assumption | omega | ((simp only [size_alloc, sz_drew, size_upd, List.size_toArray, List.length_cons, List.length_nil]) <;> omega) | decide) only [sh_Pr_parser_list, Pr, PX, PC, NX, ends, fillL, wrL, sOf, Nat.reduceAdd, Nat.reduceMul, Nat.reduceLeDiff, Nat.reduceEqDiff, Int.reduceToNat, Int.reduceAdd, Int.reduceLT, Int.reduceLE, ↓reduceIte, forall_const, eq_self, zG1, zG2, al_69, bd_69, br_34_1, br_34_2, ix_34, ld_69, ln_34, st_69, h9, f2, f3, o1, o2, o3, o4, o5]
        refine ⟨_, _, _, _, _, rfl, ⟨o1, o2, o3, o4, o5, oh⟩, hFl.upd (.inr hq2), ?_⟩
        rcases hst with ⟨k, vs, acc, x0, e1, e2, e3, e4, e5⟩ | ⟨k, vs, c, a, e1, e2, e3⟩
        · rw [e1]
          refine ⟨IsRx.mono (fun b hb => ?_) (fun b cs hb hc => ?_) _ _ e3, e2.updT (by omega) f2 (by decide)⟩
          · exact ⟨by have := hb.1; omega, by rw [size_upd]; exact hb.2⟩
          · rw [hp_upd_other (by have := hb.1; omega)]; exact hc
        · rw [e1]
          exact ⟨e2, _, _, e3.updT (by omega) f2 (by decide)⟩
      | succ j =>
        have h9 : s 9 = .int .i64 (j : Int) := by rw [h9]; congr 1; omega
        obtain ⟨gb, cap, cur, v0, v1, v2, v3, v4, hv, g2, g3, g4, g5, p0, p1, p2, p3, p4⟩ := own_five hol (i := j) (by omega) hx1
        injection hv with hv _ hv2
        subst hv
        subst hv2
        have lg2 := ltOf g2
        simp (disch := first | assumption | omega | ((simp only [size_alloc, sz_drew, size_upd, List.size_toArray, List.length_cons, List.length_nil]) <;> omega) | decide) only [sh_Pr_parser_list, Pr, PX, PC, NX, ends, fillL, wrL, sOf, Nat.reduceAdd, Nat.reduceMul, Nat.reduceLeDiff, Nat.reduceEqDiff, Int.reduceToNat, Int.reduceAdd, Int.reduceLT, Int.reduceLE, ↓reduceIte, forall_const, eq_self, zG1, zG2, al_69, bd_69, br_34_1, br_34_2, ix_34, ld_69, ln_34, st_69, h9, f2, f3, g2, g4, o1, o2, o3, o4, o5, p0, p1, p2, p3, p4]
        have hX : Ext wl (wl.drew.alloc (.cells #[v0, v1, v2, v3, v4, a, b, c, g, u] 69)) := by (repeat (first | assumption | exact FrM.refl _ _ | (refine FrM.upd ?_ (.inr (by (try simp only [size_alloc, sz_drew, size_upd, List.size_toArray, List.length_cons, List.length_nil]) <;> omega))) | refine FrM.alloc ?_ _ | refine FrM.drew ?_))
        have sX := hX.size
        rw [size_alloc, sz_drew] at sX
        refine ⟨j, Nat.lt_succ_self _, j, _, _, _, _, _, by omega, rfl, rfl, ⟨rfl, rfl, rfl, rfl, rfl, .of (by decide)⟩, rfl, (hFl.trans hX.toM).upd (.inr (by omega)), ?_, ?_⟩
        · exact own_upd (own_ext hX.ext hol) hB
        · rcases hst with ⟨k, vs, acc, x0, e1, e2, e3, e4, e5⟩ | ⟨k, vs, c, a, e1, e2, e3⟩
          · have hk : Keeps (Fl B wl) 69 wl (upd (wl.drew.alloc (.cells #[v0, v1, v2, v3, v4, a, b, c, g, u] 69)) q3
                (.cells #[.int .u8 99, .string (bs [46]), .int .i64 0, .int .i64 0, .slice (some ⟨wl.heap.size, 0, none⟩) 2 2] 69)) := fun b cs hb hc => by
              rw [hp_upd_other (by have := hb.1; omega)]
              exact hX.ext _ _ hc
            have hn : ∀ i, Fl B wl i → Fl B (upd (wl.drew.alloc (.cells #[v0, v1, v2, v3, v4, a, b, c, g, u] 69)) q3
                (.cells #[.int .u8 99, .string (bs [46]), .int .i64 0, .int .i64 0, .slice (some ⟨wl.heap.size, 0, none⟩) 2 2] 69)) i := fun i hb => ⟨hb.1, by rw [size_upd, size_alloc, sz_drew]; have := hb.2; omega⟩
            refine .inl ⟨k, vs, acc, x0, e1, (e2.ext hX).updT (by omega) (hX.ext _ _ f3) (by decide), ?_, IsRxs.mono hn hk _ _ e4, e5⟩
            rw [mkList_drop _ _ _ (by omega)]
            have hat := IsRxs.at j (by omega) e4
            rw [g5] at hat
            refine isRx_two (q := wl.heap.size) (cs := #[v0, v1, v2, v3, v4, a, b, c, g, u]) (l := [v0, v1, v2, v3, v4]) (ly := [a, b, c, g, u]) (IsRx.mono hn hk _ _ hat) (IsRx.mono hn hk _ _ e3) (by rw [hp_upd_other (by omega)]; exact hp_alloc_new (by rw [sz_drew])) rfl ⟨?_, by ((try simp only [size_alloc, sz_drew, size_upd, List.size_toArray, List.length_cons, List.length_nil]) <;> omega)⟩ _ _
            have := (hol.lt gb rfl).1
            omega
          · exact .inr ⟨k, vs, c, a, e1, e2, (e3.ext hX).updT (by omega) (hX.ext _ _ f3) (by decide)⟩
  rcases hst with ⟨k, vs, acc, x0, e1, e2, e3, e4, e5⟩ | ⟨k, vs, c, a, e1, e2, e3⟩
  · refine rMustX e2 [93] _ e1 ?_ ?_
    · intro w2 hr2 hP2 hF2
      have s2 := hF2.size
      exact hgo w2 hF2 (.inl ⟨_, _, acc, x0, hr2, hP2, IsRx.mono (fun b hb => ⟨hb.1, by have := hb.2; omega⟩) (RFr.keeps hF2 (fun b hb => by have := hb.1; omega) (by decide)) _ _ e3,
        IsRxs.mono (fun b hb => ⟨hb.1, by have := hb.2; omega⟩) (RFr.keeps hF2 (fun b hb => by have := hb.1; omega) (by decide)) _ _ e4, e5⟩)
    · intro w2 a2 hr2 hP2 hF2
      exact hgo w2 hF2 (.inr ⟨_, _, _, _, hr2, by decide, hP2⟩)
  · refine Calls.mono (rMustE e3 [93] e2) ?_
    rintro e w2 ⟨rfl, hP2, hF2⟩
    exact hgo w2 hF2 (.inr ⟨_, _, _, _, e1, e2, hP2⟩)
end Go.Proofs.YtkmpelgfhjgddaaGreatDoor
namespace Go.Proofs.YtkmpelgfhjgddaaGreatDoor
open Go.RowKit Sx
set_option maxRecDepth 100000
theorem ownsRow_det {w : World} {base e size n : Nat} {v : Value} {xs ys : List Value} (h : w.ownsRow base e size v n xs) (h' : w.ownsRow base e size v n ys) : xs = ys := by
  rcases h.2 with ⟨hv1, hn⟩ | ⟨g1, c1, cur1, hv1, _, g2, _, _, _, g3⟩
  · have l1 := h.1
    have l2 := h'.1
    rw [hn, Nat.zero_mul] at l1 l2
    rw [List.eq_nil_of_length_eq_zero l1, List.eq_nil_of_length_eq_zero l2]
  · rcases h'.2 with ⟨hv2, _⟩ | ⟨g1', c1', cur1', hv2, _, g2', _, _, _, g3'⟩
    · rw [hv1] at hv2; cases hv2
    · rw [hv1] at hv2
      injection hv2 with hv2 _ _
      injection hv2 with hv2
      injection hv2 with hv2 _ _
      subst hv2
      rw [g2] at g2'
      injection g2' with g2'
      injection g2' with g2' _ _
      subst g2'
      rw [← g3, ← g3']
set_option maxHeartbeats 1000000 in
theorem rList {f : Nat} (hE : ∀ g, g < f + 1 → RCE g) : RCL (f + 1) := ⟨by
  intro pb tb T k vars d w r h hd hr
  obtain ⟨l1, hkt, hlT, h4⟩ := h.cs
  rw [P.pList] at hr
  refine sh_Pr_parser_list_ok ?_
  simp (disch := first | assumption | omega | ((simp only [size_alloc, sz_drew, size_upd, List.size_toArray, List.length_cons, List.length_nil]) <;> omega) | decide) only [sh_Pr_parser_list, Pr, PX, PC, NX, ends, fillL, wrL, sOf, Nat.reduceAdd, Nat.reduceMul, Nat.reduceLeDiff, Nat.reduceEqDiff, Int.reduceToNat, Int.reduceAdd, Int.reduceLT, Int.reduceLE, ↓reduceIte, forall_const, eq_self, zG1, zG2, al_69, bd_69, br_34_1, br_34_2, ix_34, ld_69, ln_34, st_69]
  have hf0 : Ext w (upd ((w.alloc (.cells #[.int .u8 0, .string (bs []), .int .i64 0, .int .i64 0, .slice none 0 0] 69)).alloc (.cells #[.int .u8 0, .string (bs []), .int .i64 0, .int .i64 0, .slice none 0 0] 69)) (w.heap.size + 1) (.cells #[.int .u8 97, .string (bs [91, 93]), .int .i64 0, .int .i64 0, .slice none 0 0] 69)) := by (repeat (first | assumption | exact FrM.refl _ _ | (refine FrM.upd ?_ (.inr (by (try simp only [size_alloc, sz_drew, size_upd, List.size_toArray, List.length_cons, List.length_nil]) <;> omega))) | refine FrM.alloc ?_ _ | refine FrM.drew ?_))
  by_cases h9 : P.isT T k [93] = true
  · rw [if_pos h9] at hr
    obtain rfl := (Option.some.inj hr).symm
    refine Calls.mono (rIs_yes (h.ext hf0) [93] h9) ?_
    rintro e w1 ⟨rfl, hP1, hF1⟩
    have s1 := hF1.size
    rw [size_upd, size_alloc, size_alloc] at s1
    have c0 : w1.heap[w.heap.size]? = some (.cells #[.int .u8 0, .string (bs []), .int .i64 0, .int .i64 0, .slice none 0 0] 69 (0, 0)) := SFr.keep hF1 (by simp (disch := first | assumption | omega | ((simp only [size_alloc, sz_drew, size_upd, List.size_toArray, List.length_cons, List.length_nil]) <;> omega) | decide) only [hp_alloc_old, hp_alloc_new, hp_upd_same, hp_upd_other, hp_drew, sz_drew, size_upd, size_alloc]) (by omega) (by decide)
    have c1 : w1.heap[w.heap.size + 1]? = some (.cells #[.int .u8 97, .string (bs [91, 93]), .int .i64 0, .int .i64 0, .slice none 0 0] 69 (0, 0)) := SFr.keep hF1 (by simp (disch := first | assumption | omega | ((simp only [size_alloc, sz_drew, size_upd, List.size_toArray, List.length_cons, List.length_nil]) <;> omega) | decide) only [hp_alloc_old, hp_alloc_new, hp_upd_same, hp_upd_other, hp_drew, sz_drew, size_upd, size_alloc]) (by omega) (by decide)
    have lc0 := ltOf c0
    simp (disch := first | assumption | omega | ((simp only [size_alloc, sz_drew, size_upd, List.size_toArray, List.length_cons, List.length_nil]) <;> omega) | decide) only [sh_Pr_parser_list, Pr, PX, PC, NX, ends, fillL, wrL, sOf, Nat.reduceAdd, Nat.reduceMul, Nat.reduceLeDiff, Nat.reduceEqDiff, Int.reduceToNat, Int.reduceAdd, Int.reduceLT, Int.reduceLE, ↓reduceIte, forall_const, eq_self, zG1, zG2, al_69, bd_69, br_34_1, br_34_2, ix_34, ld_69, ln_34, st_69, c0, c1]
    exact ⟨_, _, _, _, _, rfl, ⟨rfl, rfl, rfl, rfl, rfl, .of (by decide)⟩, (hf0.toM.trans hF1).upd (.inr (Nat.le_refl _)), isRx_nil _ _ _ _ _, hP1.updT l1 c0 (by decide)⟩
  rw [if_neg h9] at hr
  refine Calls.mono (rIs_no (h.ext hf0) [93] (.inr (by simpa using h9))) ?_
  rintro e wB ⟨rfl, hP1, hF1⟩
  have s1 := hF1.size
  rw [size_upd, size_alloc, size_alloc] at s1
  have c0 : wB.heap[w.heap.size]? = some (.cells #[.int .u8 0, .string (bs []), .int .i64 0, .int .i64 0, .slice none 0 0] 69 (0, 0)) := SFr.keep hF1 (by simp (disch := first | assumption | omega | ((simp only [size_alloc, sz_drew, size_upd, List.size_toArray, List.length_cons, List.length_nil]) <;> omega) | decide) only [hp_alloc_old, hp_alloc_new, hp_upd_same, hp_upd_other, hp_drew, sz_drew, size_upd, size_alloc]) (by omega) (by decide)
  have c1 : wB.heap[w.heap.size + 1]? = some (.cells #[.int .u8 97, .string (bs [91, 93]), .int .i64 0, .int .i64 0, .slice none 0 0] 69 (0, 0)) := SFr.keep hF1 (by simp (disch := first | assumption | omega | ((simp only [size_alloc, sz_drew, size_upd, List.size_toArray, List.length_cons, List.length_nil]) <;> omega) | decide) only [hp_alloc_old, hp_alloc_new, hp_upd_same, hp_upd_other, hp_drew, sz_drew, size_upd, size_alloc]) (by omega) (by decide)
  have hFB : RFr pb w wB := hf0.toM.trans hF1
  cases hq : P.pElems T f k vars d [] with
  | none => rw [hq] at hr; simp [P.Res.bind] at hr
  | some q =>
  rw [hq] at hr
  have hpb : pb < wB.heap.size := by omega
  simp (disch := first | assumption | omega | ((simp only [size_alloc, sz_drew, size_upd, List.size_toArray, List.length_cons, List.length_nil]) <;> omega) | decide) only [sh_Pr_parser_list, Pr, PX, PC, NX, ends, fillL, wrL, sOf, Nat.reduceAdd, Nat.reduceMul, Nat.reduceLeDiff, Nat.reduceEqDiff, Int.reduceToNat, Int.reduceAdd, Int.reduceLT, Int.reduceLE, ↓reduceIte, forall_const, eq_self, zG1, zG2, al_69, bd_69, br_34_1, br_34_2, ix_34, ld_69, ln_34, st_69]
  refine ⟨fun n s w1 => RFr pb wB w1 ∧
      ((s 6 = .bool true ∧ ∃ f' k' vs acc, n = f' + 1 ∧ f' ≤ f ∧ acc.length ≤ k' ∧ P.pElems T f' k' vs d acc = some q ∧ RowS wB w1 (s 5) acc ∧ RP w1 pb tb T k' vs d 0 0) ∨
      (s 6 = .bool false ∧ n = 0 ∧ ∃ m xs, w1.ownsRow wB.heap.size 69 5 (s 5) m xs ∧ (∀ u ∈ xs, u.oneCell' = true) ∧ m ≤ 100000 ∧
        ((∃ k' vs acc, m = acc.length ∧ q = .ok acc k' vs ∧ RowS wB w1 (s 5) acc ∧ RP w1 pb tb T k' vs d 0 0) ∨ (∃ c a k' vs, q = .err c a ∧ c ≠ 0 ∧ RP w1 pb tb T k' vs d c a)))),
    ⟨f + 1, FrM.refl _ _, .inl ⟨rfl, f, k, vars, [], rfl, Nat.le_refl _, Nat.zero_le _, hq, RowS.nil wB, hP1⟩⟩, ?_⟩
  intro n s dd w1 hI
  refine toPr ?_
  rcases hI with ⟨hF, ⟨h6, f', k', vs, acc, rfl, hf', hak, hp, hrow, hP⟩ | ⟨h6, rfl, m, xs, hown, hone, hm, hfin⟩⟩
  · cases f' with
    | zero => simp [P.pElems] at hp
    | succ f' =>
    rw [P.pElems] at hp
    have hkt : k' < T.length := by obtain ⟨_, _, hx⟩ := id hP; exact hx.kt
    have hs1 := hF.size
    cases hq2 : P.pOper T f' 0 k' vs d with
    | none => rw [hq2] at hp; simp [P.Res.bind] at hp
    | some q2 =>
    rw [hq2] at hp
    simp (disch := first | assumption | omega | ((simp only [size_alloc, sz_drew, size_upd, List.size_toArray, List.length_cons, List.length_nil]) <;> omega) | decide) only [sh_Pr_parser_list, Pr, PX, PC, NX, ends, fillL, wrL, sOf, Nat.reduceAdd, Nat.reduceMul, Nat.reduceLeDiff, Nat.reduceEqDiff, Int.reduceToNat, Int.reduceAdd, Int.reduceLT, Int.reduceLE, ↓reduceIte, forall_const, eq_self, zG1, zG2, al_69, bd_69, br_34_1, br_34_2, ix_34, ld_69, ln_34, st_69, h6]
    refine ((hE f' (by omega)).go hP hd hq2).mono ?_
    rintro e w2 ⟨a, b, c, g, u, rfl, ⟨o1, o2, o3, o4, o5, oh⟩, hF2, hst⟩
    have hs2 := hF2.size
    obtain ⟨xs0, ho0, hi0⟩ := id hrow.own
    have hrow2 : w2.ownsRow wB.heap.size 69 5 (s 5) acc.length xs0 := own_fr hF2 ho0 hpb (by decide)
    simp (disch := first | assumption | omega | ((simp only [size_alloc, sz_drew, size_upd, List.size_toArray, List.length_cons, List.length_nil]) <;> omega) | decide) only [sh_Pr_parser_list, Pr, PX, PC, NX, ends, fillL, wrL, sOf, Nat.reduceAdd, Nat.reduceMul, Nat.reduceLeDiff, Nat.reduceEqDiff, Int.reduceToNat, Int.reduceAdd, Int.reduceLT, Int.reduceLE, ↓reduceIte, forall_const, eq_self, zG1, zG2, al_69, bd_69, br_34_1, br_34_2, ix_34, ld_69, ln_34, st_69, o1, o2, o3, o4, o5]
    have hx3 : Ext w2 ((upd (w2.alloc (.cells #[.int .u8 0, .string (bs []), .int .i64 0, .int .i64 0, .slice none 0 0] 69)) w2.heap.size (.cells #[a, b, c, g, u] 69)).alloc (.cells #[a, b, c, g, u] 69)) :=
      (((FrM.refl _ _).alloc _).upd (.inr (Nat.le_refl _))).alloc _
    refine wr_appendE (base := wB.heap.size) (n := acc.length) (own_ext hx3.ext hrow2) (hp_alloc_new (by rw [size_upd, size_alloc])) ⟨o1, o2, o3, o4, o5⟩ (by omega) (by have := hx3.size; omega) ?_
    intro v' w4 hown4 hg4 hv4
    have hF4 : RFr pb wB w4 := (((hF.trans hF2).trans hx3.toM)).grow hg4 (fun k hk => (hrow2.lt k hk).1)
    have hone4 : ∀ u' ∈ xs0 ++ [a, b, c, g, u], u'.oneCell' = true := fun u' hu => by
      simp only [List.mem_append, List.mem_cons, List.not_mem_nil, or_false] at hu
      rcases hu with hu | rfl | rfl | rfl | rfl | rfl
      · exact IsRxs.one hi0 _ hu
      · exact o1
      · exact o2
      · exact o3
      · exact o4
      · exact o5
    cases q2 with
    | err c0 a0 =>
      obtain ⟨hc0, k2, vs2, hP2⟩ := hst
      simp only [P.Res.bind, Option.some.injEq] at hp
      have hP4 := (hP2.ext hx3).grow (own_ext hx3.ext hrow2) (by decide) hpb hg4
      refine (rIs_no hP4 [44] (.inl hc0)).mono ?_
      rintro e w5 ⟨rfl, hP5, hF5⟩
      simp (disch := first | assumption | omega | ((simp only [size_alloc, sz_drew, size_upd, List.size_toArray, List.length_cons, List.length_nil]) <;> omega) | decide) only [sh_Pr_parser_list, Pr, PX, PC, NX, ends, fillL, wrL, sOf, Nat.reduceAdd, Nat.reduceMul, Nat.reduceLeDiff, Nat.reduceEqDiff, Int.reduceToNat, Int.reduceAdd, Int.reduceLT, Int.reduceLE, ↓reduceIte, forall_const, eq_self, zG1, zG2, al_69, bd_69, br_34_1, br_34_2, ix_34, ld_69, ln_34, st_69]
      exact ⟨0, Nat.succ_pos _, hF4.trans hF5, .inr ⟨rfl, _, _, own_fr hF5 hown4 hpb (by decide), hone4, by omega, .inr ⟨c0, a0, k2, vs2, hp.symm, hc0, hP5⟩⟩⟩
    | ok x k2 vs2 =>
      obtain ⟨hx, hP2⟩ := hst
      have hk2 := (P.mono T f').oper _ _ _ _ _ _ _ hq2
      have hP4 := (hP2.ext hx3).grow (own_ext hx3.ext hrow2) (by decide) hpb hg4
      have hrow4 : RowS wB w4 v' (acc ++ [x]) := hrow.more hF2 hpb hx hs1 hx3 (own_ext hx3.ext hrow2) hown4 hg4 hv4
      simp only [P.Res.bind] at hp
      have hmn : ∀ {w5 : World}, RFr pb w4 w5 → RowS wB w5 v' (acc ++ [x]) := fun hF5 => by
        obtain ⟨xs, p1, p2⟩ := hrow4.own
        have := hF5.size
        exact ⟨xs, own_fr hF5 p1 hpb (by decide), IsRxs.mono (fun b hb => ⟨hb.1, by have := hb.2.1; omega, hb.2.2⟩) (RFr.keeps hF5 (fun b hb => by have := hb.1; omega) (by decide)) _ _ p2⟩
      by_cases hc : P.isT T k2 [44] = true
      · rw [if_pos hc] at hp
        refine (rIs_yes hP4 [44] hc).mono ?_
        rintro e w5 ⟨rfl, hP5, hF5⟩
        simp (disch := first | assumption | omega | ((simp only [size_alloc, sz_drew, size_upd, List.size_toArray, List.length_cons, List.length_nil]) <;> omega) | decide) only [sh_Pr_parser_list, Pr, PX, PC, NX, ends, fillL, wrL, sOf, Nat.reduceAdd, Nat.reduceMul, Nat.reduceLeDiff, Nat.reduceEqDiff, Int.reduceToNat, Int.reduceAdd, Int.reduceLT, Int.reduceLE, ↓reduceIte, forall_const, eq_self, zG1, zG2, al_69, bd_69, br_34_1, br_34_2, ix_34, ld_69, ln_34, st_69]
        exact ⟨f' + 1, by omega, hF4.trans hF5, .inl ⟨f', k2 + 1, vs2, acc ++ [x], rfl, by omega, by simp; omega, hp, hmn hF5, hP5⟩⟩
      · rw [if_neg hc] at hp
        refine (rIs_no hP4 [44] (.inr (by simpa using hc))).mono ?_
        rintro e w5 ⟨rfl, hP5, hF5⟩
        simp (disch := first | assumption | omega | ((simp only [size_alloc, sz_drew, size_upd, List.size_toArray, List.length_cons, List.length_nil]) <;> omega) | decide) only [sh_Pr_parser_list, Pr, PX, PC, NX, ends, fillL, wrL, sOf, Nat.reduceAdd, Nat.reduceMul, Nat.reduceLeDiff, Nat.reduceEqDiff, Int.reduceToNat, Int.reduceAdd, Int.reduceLT, Int.reduceLE, ↓reduceIte, forall_const, eq_self, zG1, zG2, al_69, bd_69, br_34_1, br_34_2, ix_34, ld_69, ln_34, st_69]
        exact ⟨0, Nat.succ_pos _, hF4.trans hF5, .inr ⟨rfl, _, _, own_fr hF5 hown4 hpb (by decide), hone4, by omega, .inl ⟨k2, vs2, acc ++ [x], by simp, (Option.some.inj hp).symm, hmn hF5, hP5⟩⟩⟩
  · have hsB := hF.size
    have d0 := SFr.keep hF c0 (by omega) (by decide)
    have d1 := SFr.keep hF c1 (by omega) (by decide)
    have hFw := hFB.trans hF
    simp (disch := first | assumption | omega | ((simp only [size_alloc, sz_drew, size_upd, List.size_toArray, List.length_cons, List.length_nil]) <;> omega) | decide) only [sh_Pr_parser_list, Pr, PX, PC, NX, ends, fillL, wrL, sOf, Nat.reduceAdd, Nat.reduceMul, Nat.reduceLeDiff, Nat.reduceEqDiff, Int.reduceToNat, Int.reduceAdd, Int.reduceLT, Int.reduceLE, ↓reduceIte, forall_const, eq_self, zG1, zG2, al_69, bd_69, br_34_1, br_34_2, ix_34, ld_69, ln_34, st_69, h6]
    rcases hfin with ⟨k', vs, acc, rfl, rfl, hrow, hP⟩ | ⟨c, a, k', vs, rfl, hc, hP⟩
    · simp only [P.Res.bind] at hr
      obtain ⟨xs', p1, p2⟩ := hrow.own
      have hxx := ownsRow_det hown p1
      subst hxx
      have p2' : IsRxs (Fl wB.heap.size w1) w1 xs acc := IsRxs.mono (fun b hb => ⟨hb.1, hb.2.1⟩) (fun b cs _ hc => hc) _ _ p2
      by_cases hbar : P.isT T k' [124] = true
      · rw [if_pos hbar] at hr
        refine Calls.mono (rIs_yes hP [124] hbar) ?_
        rintro e w2 ⟨rfl, hP2, hF2⟩
        have s2 := hF2.size
        have e0 := SFr.keep hF2 d0 (by omega) (by decide)
        have e1 := SFr.keep hF2 d1 (by omega) (by decide)
        have own2 := own_fr hF2 hown (by omega) (by decide)
        simp (disch := first | assumption | omega | ((simp only [size_alloc, sz_drew, size_upd, List.size_toArray, List.length_cons, List.length_nil]) <;> omega) | decide) only [sh_Pr_parser_list, Pr, PX, PC, NX, ends, fillL, wrL, sOf, Nat.reduceAdd, Nat.reduceMul, Nat.reduceLeDiff, Nat.reduceEqDiff, Int.reduceToNat, Int.reduceAdd, Int.reduceLT, Int.reduceLE, ↓reduceIte, forall_const, eq_self, zG1, zG2, al_69, bd_69, br_34_1, br_34_2, ix_34, ld_69, ln_34, st_69]
        cases hq3 : P.pOper T f 0 (k' + 1) vs d with
        | none => rw [hq3] at hr; simp [P.Res.bind] at hr
        | some q3 =>
        rw [hq3] at hr
        refine Calls.mono ((hE f (by omega)).go hP2 hd hq3) ?_
        rintro e w3 ⟨a, b, c, g, u, rfl, ⟨o1, o2, o3, o4, o5, oh⟩, hF3, hst⟩
        have s3 := hF3.size
        have f0 := SFr.keep hF3 e0 (by omega) (by decide)
        have f1 := SFr.keep hF3 e1 (by omega) (by decide)
        have own3 := own_fr hF3 own2 (by omega) (by decide)
        have lf1 := ltOf f1
        simp (disch := first | assumption | omega | ((simp only [size_alloc, sz_drew, size_upd, List.size_toArray, List.length_cons, List.length_nil]) <;> omega) | decide) only [sh_Pr_parser_list, Pr, PX, PC, NX, ends, fillL, wrL, sOf, Nat.reduceAdd, Nat.reduceMul, Nat.reduceLeDiff, Nat.reduceEqDiff, Int.reduceToNat, Int.reduceAdd, Int.reduceLT, Int.reduceLE, ↓reduceIte, forall_const, eq_self, zG1, zG2, al_69, bd_69, br_34_1, br_34_2, ix_34, ld_69, ln_34, st_69, f1, o1, o2, o3, o4, o5]
        refine rListTail (q2 := w.heap.size) (q3 := (w.alloc (.cells #[.int .u8 0, .string (bs []), .int .i64 0, .int .i64 0, .slice none 0 0] 69)).heap.size) (B := wB.heap.size) (m := acc.length) (xs := xs) (a := a) (b := b) (c := c) (g := g) (u := u) l1 (Nat.le_refl _) (by rw [size_alloc]; exact Nat.lt_succ_self _) (by rw [size_alloc]; omega) (((hFw.trans hF2).trans hF3).upd (.inr (by omega))) (by simp (disch := first | assumption | omega | ((simp only [size_alloc, sz_drew, size_upd, List.size_toArray, List.length_cons, List.length_nil]) <;> omega) | decide) only [hp_alloc_old, hp_alloc_new, hp_upd_same, hp_upd_other, hp_drew, sz_drew, size_upd, size_alloc]; exact f0) (by rw [size_alloc]; exact hp_upd_same rfl lf1) ⟨o1, o2, o3, o4, o5, oh⟩
          (own_upd own3 (by omega)) hone hm ?_
        cases q3 with
        | err c3 a3 =>
          obtain ⟨hc3, k5, vs5, hP5⟩ := hst
          simp only [P.Res.bind, Option.some.injEq] at hr
          exact .inr ⟨k5, vs5, c3, a3, hr.symm, hc3, hP5.updT (by omega) f1 (by decide)⟩
        | ok x k5 vs5 =>
          obtain ⟨hx5, hP5⟩ := hst
          simp only [P.Res.bind] at hr
          refine .inl ⟨k5, vs5, acc, x, hr, hP5.updT (by omega) f1 (by decide), IsRx.mono (fun i hi => ?_) (fun i cs hi hc => ?_) _ _ hx5, IsRxs.mono (fun i hi => ?_) (fun i cs hi hc => ?_) _ _ p2', rfl⟩
          · exact ⟨by have := hi.1; omega, by rw [size_upd]; exact hi.2⟩
          · rw [hp_upd_other (by have := hi.1; omega)]; exact hc
          · exact ⟨hi.1, by rw [size_upd]; have := hi.2; omega⟩
          · rw [hp_upd_other (by have := hi.1; omega)]
            exact SFr.keep hF3 (SFr.keep hF2 hc (by have := hi.1; omega) (by decide)) (by have := hi.1; omega) (by decide)
      · rw [if_neg hbar] at hr
        refine Calls.mono (rIs_no hP [124] (.inr (by simpa using hbar))) ?_
        rintro e w2 ⟨rfl, hP2, hF2⟩
        have s2 := hF2.size
        have e0 := SFr.keep hF2 d0 (by omega) (by decide)
        have e1 := SFr.keep hF2 d1 (by omega) (by decide)
        have own2 := own_fr hF2 hown (by omega) (by decide)
        simp (disch := first | assumption | omega | ((simp only [size_alloc, sz_drew, size_upd, List.size_toArray, List.length_cons, List.length_nil]) <;> omega) | decide) only [sh_Pr_parser_list, Pr, PX, PC, NX, ends, fillL, wrL, sOf, Nat.reduceAdd, Nat.reduceMul, Nat.reduceLeDiff, Nat.reduceEqDiff, Int.reduceToNat, Int.reduceAdd, Int.reduceLT, Int.reduceLE, ↓reduceIte, forall_const, eq_self, zG1, zG2, al_69, bd_69, br_34_1, br_34_2, ix_34, ld_69, ln_34, st_69]
        refine rListTail (q2 := w.heap.size) (q3 := (w.alloc (.cells #[.int .u8 0, .string (bs []), .int .i64 0, .int .i64 0, .slice none 0 0] 69)).heap.size) (B := wB.heap.size) (m := acc.length) (xs := xs) l1 (Nat.le_refl _) (by rw [size_alloc]; exact Nat.lt_succ_self _) (by rw [size_alloc]; omega) (hFw.trans hF2) e0 (by rw [size_alloc]; exact e1) ⟨rfl, rfl, rfl, rfl, rfl, .of (by decide)⟩ own2 hone hm
          (.inl ⟨k', vs, acc, _, hr, hP2, isRx_nil _ _ _ _ _, IsRxs.mono (fun i hi => ⟨hi.1, by have := hi.2; omega⟩) (RFr.keeps hF2 (fun b hb => by have := hb.1; omega) (by decide)) _ _ p2', rfl⟩)
    · simp only [P.Res.bind, Option.some.injEq] at hr
      refine Calls.mono (rIs_no hP [124] (.inl hc)) ?_
      rintro e w2 ⟨rfl, hP2, hF2⟩
      have s2 := hF2.size
      have e0 := SFr.keep hF2 d0 (by omega) (by decide)
      have e1 := SFr.keep hF2 d1 (by omega) (by decide)
      have own2 := own_fr hF2 hown (by omega) (by decide)
      simp (disch := first | assumption | omega | ((simp only [size_alloc, sz_drew, size_upd, List.size_toArray, List.length_cons, List.length_nil]) <;> omega) | decide) only [sh_Pr_parser_list, Pr, PX, PC, NX, ends, fillL, wrL, sOf, Nat.reduceAdd, Nat.reduceMul, Nat.reduceLeDiff, Nat.reduceEqDiff, Int.reduceToNat, Int.reduceAdd, Int.reduceLT, Int.reduceLE, ↓reduceIte, forall_const, eq_self, zG1, zG2, al_69, bd_69, br_34_1, br_34_2, ix_34, ld_69, ln_34, st_69]
      exact rListTail (q2 := w.heap.size) (q3 := (w.alloc (.cells #[.int .u8 0, .string (bs []), .int .i64 0, .int .i64 0, .slice none 0 0] 69)).heap.size) (B := wB.heap.size) (m := m) (xs := xs) l1 (Nat.le_refl _) (by rw [size_alloc]; exact Nat.lt_succ_self _) (by rw [size_alloc]; omega) (hFw.trans hF2) e0 (by rw [size_alloc]; exact e1) ⟨rfl, rfl, rfl, rfl, rfl, .of (by decide)⟩ own2 hone hm
        (.inr ⟨_, _, _, _, hr.symm, hc, hP2⟩)⟩
theorem rTerms (f : Nat) : RCE f ∧ RCT f ∧ RCP f ∧ RCA f ∧ RCL f := by
    induction f using Nat.strongRecOn with
    | ind f ih =>
      have hE : ∀ g, g < f → RCE g := fun g hg => (ih g hg).1
      have hT : ∀ g, g < f → RCT g := fun g hg => (ih g hg).2.1
      have hP : ∀ g, g < f → RCP g := fun g hg => (ih g hg).2.2.1
      refine ⟨rExpr hT, rProduct hP, ?_, rArgs hE, ?_⟩
      · cases f with
        | zero => exact ⟨fun _ _ hr => by simp [P.pPrim] at hr⟩
        | succ f =>
          obtain ⟨a, b, c, d, e⟩ := ih f (Nat.lt_succ_self _)
          exact rPrim (rBare a d e)
      · cases f with
        | zero => exact ⟨fun _ _ hr => by simp [P.pList] at hr⟩
        | succ f => exact rList hE
end Go.Proofs.YtkmpelgfhjgddaaGreatDoor
namespace Go.Proofs.YtkmpelgfhjgddaaGreatDoor
open Go.RowKit Sx
set_option maxRecDepth 100000
def RStB (pb tb : Nat) (T : List P.Tok) (d : Nat) (w w' : World) (l : List Value) : P.Res P.Bd → Prop
  | .ok x k vs => IsRb (Nu w w') w' l x ∧ RP w' pb tb T k vs d 0 0
  | .err c a => c ≠ 0 ∧ ∃ k vs, RP w' pb tb T k vs d c a
def RPostB (pb tb : Nat) (T : List P.Tok) (d : Nat) (w : World) (r : P.Res P.Bd) (e : Ending) (w' : World) : Prop :=
  ∃ a b c f, e = .returned (.agg #[a, b, c, f]) ∧ (a.oneCell' = true ∧ b.oneCell' = true ∧ c.oneCell' = true ∧ f.oneCell' = true) ∧ RFr pb w w' ∧ RStB pb tb T d w w' [a, b, c, f] r
structure RCLit (f : Nat) : Prop where
  go : ∀ {pb tb : Nat} {T : List P.Tok} {k : Nat} {vars : List P.Bs} {d : Nat} {w : World} {r : P.Res P.Bd}, RP w pb tb T k vars d 0 0 → d ≤ 8 →
    P.pLit T f k vars d = some r → Calls Tryz.prog 83 #[.pointer (some ⟨pb, 0, none⟩)] w (RPostB pb tb T d w r)
structure RCRow (f : Nat) : Prop where
  go : ∀ {pb tb : Nat} {T : List P.Tok} {k : Nat} {vars : List P.Bs} {d : Nat} {w : World} {r : P.Res P.Bd}, RP w pb tb T k vars d 0 0 → d ≤ 8 →
    P.pRow T f k vars d = some r → Calls Tryz.prog 64 #[.pointer (some ⟨pb, 0, none⟩)] w (RPostB pb tb T d w r)
structure RCBody (f : Nat) : Prop where
  go : ∀ {pb tb : Nat} {T : List P.Tok} {k : Nat} {vars : List P.Bs} {d : Nat} {w : World} {r : P.Res P.Bd}, RP w pb tb T k vars d 0 0 → d ≤ 8 →
    P.pBody T f k vars d = some r → Calls Tryz.prog 36 #[.pointer (some ⟨pb, 0, none⟩)] w (RPostB pb tb T d w r)
structure RCRest (f : Nat) : Prop where
  go : ∀ {pb tb : Nat} {T : List P.Tok} {k : Nat} {vars : List P.Bs} {d : Nat} {w : World} {r : P.Res P.Bd}, RP w pb tb T k vars d 0 0 → d ≤ 8 →
    P.pRest T f k vars d = some r → Calls Tryz.prog 65 #[.pointer (some ⟨pb, 0, none⟩)] w (RPostB pb tb T d w r)
structure RCGoal (f : Nat) : Prop where
  go : ∀ {pb tb : Nat} {T : List P.Tok} {k : Nat} {vars : List P.Bs} {d : Nat} {w : World} {r : P.Res P.Bd}, RP w pb tb T k vars (d + 1 : Nat) 0 0 → d + 1 ≤ 8 →
    P.pLit T (f + 1) k vars d = some r → Calls Tryz.prog 100 #[.pointer (some ⟨pb, 0, none⟩)] w (RPostB pb tb T (d + 1) w r)
theorem rStB_RP {wA w2 : World} {pb tb : Nat} {T : List P.Tok} {d : Nat} {l : List Value} {r : P.Res P.Bd} (hst : RStB pb tb T d wA w2 l r) :
    ∃ k vs c a, RP w2 pb tb T k vs d c a ∧ ∀ {w w3 : World} (d' : Nat), w.heap.size ≤ wA.heap.size → w2.heap.size ≤ w3.heap.size → Keeps (Nu wA w2) 69 w2 w3 → Keeps (Nu wA w2) 37 w2 w3 →
      RP w3 pb tb T k vs d' c a → RStB pb tb T d' w w3 l r := by
  cases r with
  | err c a =>
    obtain ⟨hc, k, vs, hP⟩ := hst
    exact ⟨k, vs, c, a, hP, fun d' _ _ _ _ hP' => ⟨hc, k, vs, hP'⟩⟩
  | ok x k vs =>
    obtain ⟨hx, hP⟩ := hst
    exact ⟨k, vs, 0, 0, hP, fun d' h1 h2 h3 h4 hP' => ⟨IsRb.mono (fun b hb => ⟨by have := hb.1; omega, by have := hb.2; omega⟩) h3 h4 _ _ hx, hP'⟩⟩
theorem Tryz.infoB : (Tryz.prog.info? 37).map (fun i => (i.zero, i.size, i.bytes)) = some (some (.agg #[.int .u8 0, .string (bs []), .slice none 0 0, .slice none 0 0]), 4, 72) := by kernel_rfl
theorem wr_appendB {w : World} {base n : Nat} {v : Value} {xs : List Value} (hown : w.ownsRow base 37 4 v n xs) {b m : Nat} {a0 a1 a2 a3 : Value}
    (hb : w.heap[b]? = some (.cells #[a0, a1, a2, a3] 37 (0, 0))) (h1 : a0.oneCell' = true ∧ a1.oneCell' = true ∧ a2.oneCell' = true ∧ a3.oneCell' = true)
    (hn : n ≤ 100000) (hbase : base ≤ w.heap.size) {K : Value → World → Prop} {X : Value → World → Prop}
    (h : ∀ v' w', w'.ownsRow base 37 4 v' (n + 1) (xs ++ [a0, a1, a2, a3]) → w.grownBy w' v.ownBlock → (v'.ownBlock = v.ownBlock ∨ ∀ k, v'.ownBlock = some k → w.heap.size ≤ k) → K v' w') :
    WR Tryz.prog (Builtin.append_ #[35, 35] 35 #[v, .slice (some ⟨b, 0, none⟩) 1 m]) w K X := by
  obtain ⟨i, hi, h0⟩ := Option.map_eq_some_iff.1 Tryz.infoB
  simp only [Prod.mk.injEq] at h0
  obtain ⟨hz, hs, hbt⟩ := h0
  refine wr_append (t := 35) (e := 37) (by kernel_rfl) hi hz hs hbt rfl (by decide) hown hb rfl (fun u hu => ?_) (by omega) (by decide) hbase h
  simp only [List.mem_cons, List.not_mem_nil, or_false] at hu
  rcases hu with rfl | rfl | rfl | rfl
  · exact h1.1
  · exact h1.2.1
  · exact h1.2.2.1
  · exact h1.2.2.2
end Go.Proofs.YtkmpelgfhjgddaaGreatDoor
namespace Go.Proofs.YtkmpelgfhjgddaaGreatDoor
open Go.RowKit Sx
set_option maxRecDepth 100000
theorem IsRbs.one {F : Nat → Prop} {w : World} : ∀ {xs : List P.Bd} {vs : List Value}, IsRbs F w vs xs → ∀ u ∈ vs, u.oneCell' = true
  | [], vs, h, u, hu => by unfold IsRbs at h; subst h; cases hu
  | x :: xs, vs, h, u, hu => by
    unfold IsRbs at h
    obtain ⟨l, r, rfl, h2, h3⟩ := h
    obtain ⟨a, b, c, d, rfl, p1, p2, p3, p4⟩ := h2.len
    simp only [List.mem_append, List.mem_cons, List.not_mem_nil, or_false] at hu
    rcases hu with (rfl | rfl | rfl | rfl) | hu
    · exact p1
    · exact p2
    · exact p3
    · exact p4
    · exact IsRbs.one h3 u hu
structure RowB (w w1 : World) (v : Value) (acc : List P.Bd) : Prop where
  own : ∃ xs, w1.ownsRow w.heap.size 37 4 v acc.length xs ∧ IsRbs (Fx w w1 v) w1 xs acc
theorem RowB.nil (w : World) : RowB w w (.slice none 0 0) [] := ⟨[], World.ownsRow_nil _ _ _ _, by unfold IsRbs; rfl⟩
theorem RowB.more {w w1 w2 w3 w4 : World} {pb : Nat} {v v' : Value} {acc : List P.Bd} {x : P.Bd} {a b c f : Value} (h : RowB w w1 v acc) (h12 : RFr pb w1 w2) (hpb : pb < w.heap.size) (hx : IsRb (Nu w1 w2) w2 [a, b, c, f] x) (hww : w.heap.size ≤ w1.heap.size)
    (h23 : Ext w2 w3) {xs : List Value} (hxs : w3.ownsRow w.heap.size 37 4 v acc.length xs) (hown' : w4.ownsRow w.heap.size 37 4 v' (acc.length + 1) (xs ++ [a, b, c, f]))
    (hg : w3.grownBy w4 v.ownBlock) (hv : v'.ownBlock = v.ownBlock ∨ ∀ k, v'.ownBlock = some k → w3.heap.size ≤ k) : RowB w w4 v' (acc ++ [x]) := by
  obtain ⟨xs', o1, o2⟩ := h.own
  have s12 := h12.size
  have s23 := h23.size
  have s34 := hg.size
  have o3 : w3.ownsRow w.heap.size 37 4 v acc.length xs' := own_ext h23.ext (own_fr h12 o1 (by omega) (by decide))
  have e : xs' = xs := by
    rcases o3.2 with ⟨hv1, hn⟩ | ⟨g1, c1, cur1, hv1, _, g2, _, _, _, g3⟩
    · have l1 := o3.1
      have l2 := hxs.1
      rw [hn] at l1 l2
      have e1 : xs' = [] := List.eq_nil_of_length_eq_zero (by simpa using l1)
      have e2 : xs = [] := List.eq_nil_of_length_eq_zero (by simpa using l2)
      rw [e1, e2]
    · rcases hxs.2 with ⟨hv2, _⟩ | ⟨g1', c1', cur1', hv2, _, g2', _, _, _, g3'⟩
      · rw [hv1] at hv2; cases hv2
      · rw [hv1] at hv2
        injection hv2 with hv2 _ _
        injection hv2 with hv2
        injection hv2 with hv2 _ _
        subst hv2
        rw [g2] at g2'
        injection g2' with g2'
        injection g2' with g2' _ _
        subst g2'
        rw [← g3, ← g3']
  subst e
  have lt : ∀ k, v.ownBlock = some k → k < w1.heap.size := fun k hk => (o1.lt k hk).2
  have kp34 : ∀ b t cs, some b ≠ v.ownBlock → b < w3.heap.size → w3.heap[b]? = some (.cells cs t (0, 0)) → w4.heap[b]? = some (.cells cs t (0, 0)) :=
    fun b t cs hb hl hc => by rw [hg.block b hl hb]; exact hc
  have nv : ∀ b, b < w3.heap.size → some b ≠ v.ownBlock → some b ≠ v'.ownBlock := fun b hb hne he => by
    rcases hv with hv | hv
    · rw [hv] at he; exact hne he
    · have := hv b he.symm; omega
  refine ⟨_, by rw [List.length_append]; exact hown', IsRbs.snoc ?_ ?_⟩
  · refine IsRbs.mono (F := Fx w w1 v) (fun b hb => ⟨hb.1, by have := hb.2.1; omega, nv b (by have := hb.2.1; omega) hb.2.2⟩) (fun b cs hb hc => ?_) (fun b cs hb hc => ?_) _ _ o2
    all_goals
      have h1 := SFr.keep h12 hc (by have := hb.1; omega) (by decide)
      have h2 := h23.ext _ _ h1
      exact kp34 b _ cs hb.2.2 (ltOf h2) h2
  · refine IsRb.mono (F := Nu w1 w2) (fun b hb => ⟨by have := hb.1; omega, by have := hb.2; omega, nv b (by have := hb.2; omega) (fun e => by have := lt b e.symm; have := hb.1; omega)⟩) (fun b cs hb hc => ?_) (fun b cs hb hc => ?_) _ _ hx
    all_goals
      have h2 := h23.ext _ _ hc
      exact kp34 b _ cs (fun e => by have := lt b e.symm; have := hb.1; omega) (ltOf h2) h2
end Go.Proofs.YtkmpelgfhjgddaaGreatDoor
