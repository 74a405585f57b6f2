/- A part of one proof (PW6, PW7); no conditions beyond what each theorem names. -/
import Derived.Test.YtkmpelgfhjgddaaGreatDoorPkRBH
set_option linter.all false
set_option linter.unusedVariables false
set_option linter.unusedSimpArgs false
namespace Go.Proofs.YtkmpelgfhjgddaaGreatDoor
open Go.RowKit Sx
set_option maxRecDepth 100000
theorem compAt {ρ : Nat → Nat} {n : Nat} {w : World} {b : Nat} {name : P.Bs} {args : List P.Tm} (h : IsT ρ n w (.iface 174 (.pointer (some ⟨b, 0, none⟩))) (.comp name args)) :
    ∃ ao cap, w.heap[b]? = some (.cells #[.string (bs name), .slice ao args.length cap] 179 (0, 0)) ∧
      ∀ (j : Nat) (hj : j < args.length), ∃ ab cs v, ao = some ⟨ab, 0, none⟩ ∧ w.heap[ab]? = some (.cells cs 107 (0, 0)) ∧ cs[j]? = some v ∧ IsT ρ n w v args[j] := by
  unfold IsT IsTm at h
  obtain ⟨b', av, vs, e, -, h3, h4, h5⟩ := h
  injection e with _ e
  injection e with e
  injection e with e
  injection e with e _ _
  subst e
  have hl := h5.length
  rcases h4 with ⟨rfl, rfl⟩ | ⟨ab, cs, rfl, -, g2, g3, g4⟩
  · have h0 : args.length = 0 := by simpa using hl.symm
    refine ⟨none, 0, by rw [h0]; exact h3, fun j hj => by omega⟩
  · refine ⟨some ⟨ab, 0, none⟩, cs.size, by rw [← hl]; exact h3, fun j hj => ?_⟩
    obtain ⟨v, k1, k2⟩ := IsTms.at j hj h5
    refine ⟨ab, cs, v, rfl, g2, ?_, k2⟩
    rw [← g4, List.getElem?_take_of_lt (by omega), Array.getElem?_toList] at k1
    exact k1
theorem tmsOk_at : ∀ {l : List P.Tm} {j : Nat}, P.TmsOk l → (hj : j < l.length) → P.TmOk l[j]
  | t :: ts, 0, h, _ => by unfold P.TmsOk at h; exact h.1
  | t :: ts, j + 1, h, hj => by unfold P.TmsOk at h; exact tmsOk_at h.2 (by simpa using hj)
abbrev closeD (wb : Nat) : Deferred := { target := .fn (.func 91) #[], args := #[.pointer (some ⟨wb, 0, none⟩), .int .u8 41] }
theorem lvRet {res : World → Prop} {R : Ending → World → Prop} {wb : Nat} {S nm : Value} {out : P.Bs} {w : World} (h : BuA w wb S nm out) (hl : out.length + 1 ≤ 1000000000)
    (hk : ∀ w', BuA w' wb S nm (out ++ [41]) → BFr wb w w' → res w') : LV Tryz.prog res R [closeD wb] .returning w := by
  refine lv_call (by kernel_rfl) (by simp) (Sx.CallsD.mono (bWriteByteD h 41 hl) ?_)
  rintro e u' w' ⟨rfl, ⟨v, rfl⟩, h1, h2⟩
  exact hk w' h1 h2
theorem lvSpent {res : World → Prop} {R : Ending → World → Prop} {wb : Nat} {S nm : Value} {out : P.Bs} {w : World} (h : BuA w wb S nm out) (hl : out.length + 1 ≤ 1000000000)
    (hk : ∀ w', BuA w' wb S nm (out ++ [41]) → BFr wb w w' → R spentE w') : LV Tryz.prog res R [closeD wb] (.panicking [{ v := .iface 200 (.agg #[]), recovered := false }]) w := by
  refine lv_call (by kernel_rfl) (by simp) (Sx.CallsD.mono (bWriteByteD h 41 hl) ?_)
  rintro e u' w' ⟨rfl, ⟨v, rfl⟩, h1, h2⟩
  exact hk w' h1 h2
theorem spentClose {ρ : Nat → Nat} {n : Nat} {tr : P.Tr} {wb sb so T : Nat} {cs : Array Value} {w w3 : World} {B B' : Nat} {res : World → Prop} (hx : WFix tr wb sb so T cs) (h : WPost ρ n tr wb sb so T cs w B none spentE w3) (hB : B + 1 ≤ B') (hB2 : B' ≤ 1000000000) :
    LV Tryz.prog res (WPost ρ n tr wb sb so T cs w B' none) [closeD wb] (.panicking [{ v := .iface 200 (.agg #[]), recovered := false }]) w3 := by
  obtain ⟨g1, -, g2, nm, out, g3, g4⟩ := h
  refine lvSpent g3 (by omega) fun w' hb hf => ?_
  refine ⟨g1.trans (hf.toW sb), rfl, ?_, nm, _, hb, by simp; omega⟩
  refine hf.block _ _ g2 ?_
  rintro (h | ⟨_, _, _, h⟩)
  · exact hx.ne h
  · injection h with _ h _
    exact hx.T1 h
set_option maxHeartbeats 2000000 in
theorem cwComp {f : Nat} (ih : ∀ g, g ≤ f → CW g) {ρ : Nat → Nat} {n : Nat} {tr : P.Tr} {wb sb so T : Nat} {cs : Array Value} {w : World} {s : P.Ws} {name : P.Bs} {args : List P.Tm} {b : Nat} {least : Nat} {r : Option P.Ws} (hx : WFix tr wb sb so T cs) (hs : WSt ρ n tr wb sb so T cs w s)
    (hu : IsT ρ n w (.iface 174 (.pointer (some ⟨b, 0, none⟩))) (.comp name args)) (hok : P.TmOk (.comp name args))
    (hB : s.phi ≤ 900000100 - 60) (hsn : s.seen.length ≤ s.out.length) (hr : P.wComp tr (f + 1) name args least s = some r) :
    Calls Tryz.prog 74 #[.pointer (some ⟨wb, 0, none⟩), .pointer (some ⟨b, 0, none⟩), .int .i64 least] w (WPost ρ n tr wb sb so T cs w (s.phi + 30) r) := by
  obtain ⟨nm, h⟩ := hs
  obtain ⟨ad, buf, had, hb, hown⟩ := id h.bu
  have lb := ltOf hb
  have hphi : s.phi = s.out.length + 60 * s.fuel := rfl
  obtain ⟨ao, cap, hcb, hel⟩ := compAt hu
  have hok' := hok
  unfold P.TmOk at hok'
  obtain ⟨hn20, hal, haok⟩ := hok'
  rw [P.wComp.eq_def] at hr
  dsimp only at hr
  have hdr : Ext w w.drew := (FrM.refl _ _).drew
  have hd := h.ext hdr
  refine sh_Pt_Writer_comp_ok ?_
  simp (disch := first | assumption | omega | ((simp only [size_alloc, sz_drew, size_upd, List.size_toArray, List.length_cons, List.length_nil]) <;> omega) | decide) only [sh_Pt_Writer_comp, Pr, PX, PC, NX, ends, fillL, wrL, sOf, Nat.reduceAdd, Nat.reduceMul, Nat.reduceLeDiff, Nat.reduceEqDiff, Int.reduceToNat, Int.reduceAdd, Int.reduceLT, Int.reduceLE, ↓reduceIte, forall_const, eq_self, zG1, zG2, ch_9, fa_121_0, fa_179_0, fa_179_1, ix_100, ld_100, ld_107, ld_9, ln_100, hcb]
  refine (tPower name args.length _).mono ?_
  rintro e w1 ⟨rfl, rfl⟩
  by_cases hp : P.power name args.length = 0
  · have hp' : ¬ (0 : Int) < ((P.power name args.length : Nat) : Int) := by omega
    simp (disch := first | assumption | omega | ((simp only [size_alloc, sz_drew, size_upd, List.size_toArray, List.length_cons, List.length_nil]) <;> omega) | decide) only [sh_Pt_Writer_comp, Pr, PX, PC, NX, ends, fillL, wrL, sOf, Nat.reduceAdd, Nat.reduceMul, Nat.reduceLeDiff, Nat.reduceEqDiff, Int.reduceToNat, Int.reduceAdd, Int.reduceLT, Int.reduceLE, ↓reduceIte, forall_const, eq_self, zG1, zG2, ch_9, fa_121_0, fa_179_0, fa_179_1, ix_100, ld_100, ld_107, ld_9, ln_100]
    refine ⟨fun x w' => w' = w.drew ∧ x 101 = .bool (decide (name = [46] ∧ args.length = 2)), ?_, ?_⟩
    · by_cases hn : name = [46]
      · simp (disch := first | assumption | omega | ((simp only [size_alloc, sz_drew, size_upd, List.size_toArray, List.length_cons, List.length_nil]) <;> omega) | decide) only [sh_Pt_Writer_comp, Pr, PX, PC, NX, ends, fillL, wrL, sOf, Nat.reduceAdd, Nat.reduceMul, Nat.reduceLeDiff, Nat.reduceEqDiff, Int.reduceToNat, Int.reduceAdd, Int.reduceLT, Int.reduceLE, ↓reduceIte, forall_const, eq_self, zG1, zG2, ch_9, fa_121_0, fa_179_0, fa_179_1, ix_100, ld_100, ld_107, ld_9, ln_100, hcb, hn]
        simp [sOf]
        omega
      · simp (disch := first | assumption | omega | ((simp only [size_alloc, sz_drew, size_upd, List.size_toArray, List.length_cons, List.length_nil]) <;> omega) | decide) only [sh_Pt_Writer_comp, Pr, PX, PC, NX, ends, fillL, wrL, sOf, Nat.reduceAdd, Nat.reduceMul, Nat.reduceLeDiff, Nat.reduceEqDiff, Int.reduceToNat, Int.reduceAdd, Int.reduceLT, Int.reduceLE, ↓reduceIte, forall_const, eq_self, zG1, zG2, ch_9, fa_121_0, fa_179_0, fa_179_1, ix_100, ld_100, ld_107, ld_9, ln_100, hcb, hn]
        simp [sOf, hn]
    · rintro x w' ⟨rfl, hx101⟩ d
      rw [hx101]
      by_cases hl : name = [46] ∧ args.length = 2
      · rw [bs_pos _ _ hl]
        obtain ⟨x0, y0, rfl⟩ : ∃ x0 y0, args = [x0, y0] := by
          match args, hl.2 with
          | [x0, y0], _ => exact ⟨x0, y0, rfl⟩
        have hp2 : P.power name 2 = 0 := hp
        simp only [hp2, ne_eq, not_true_eq_false, if_false, if_pos hl.1] at hr
        refine Calls.mono ((ih f (Nat.le_refl _)).list hx ⟨_, hd⟩ (hu.keep (KeepT.ofExt hdr)) hok hB hsn hr) ?_
        rintro e w2 hp3
        have hp4 := hp3.of (B' := s.phi + 30) (FrM.toM (M := MW wb sb) hdr) (Nat.le_refl _)
        cases r with
        | none =>
          obtain ⟨g1, rfl, g2⟩ := hp4
          exact ⟨g1, rfl, g2⟩
        | some s' =>
          obtain ⟨g1, rfl, g2⟩ := hp4
          exact ⟨g1, rfl, g2⟩
      · rw [bs_neg _ _ hl]
        have hr' : P.Wb (P.wArgs tr f 40 args (s.add name)) (fun s => some (some (s.add [41]))) = some r := by
          split at hr
          · have hp2 : P.power name 2 = 0 := hp
            have hn2 : ¬ name = [46] := fun h => hl ⟨h, rfl⟩
            simpa only [hp2, ne_eq, not_true_eq_false, if_false, if_neg hn2] using hr
          · exact hr
        have hdr2 : Ext w w.drew.drew := hdr.drew
        have hd2 := h.ext hdr2
        simp (disch := first | assumption | omega | ((simp only [size_alloc, sz_drew, size_upd, List.size_toArray, List.length_cons, List.length_nil]) <;> omega) | decide) only [sh_Pt_Writer_comp, Pr, PX, PC, NX, ends, fillL, wrL, sOf, Nat.reduceAdd, Nat.reduceMul, Nat.reduceLeDiff, Nat.reduceEqDiff, Int.reduceToNat, Int.reduceAdd, Int.reduceLT, Int.reduceLE, ↓reduceIte, forall_const, eq_self, zG1, zG2, ch_9, fa_121_0, fa_179_0, fa_179_1, ix_100, ld_100, ld_107, ld_9, ln_100, hcb]
        refine (wWrite hd2 hx name (by omega)).mono ?_
        rintro e w2 ⟨⟨v2, rfl⟩, h2, hf2⟩
        have hf02 : WFr wb sb w w2 := (FrM.toM (M := MW wb sb) hdr2).trans hf2
        have hcb2 := (h.kv hx hf02) _ _ _ (.inl rfl) hcb
        simp (disch := first | assumption | omega | ((simp only [size_alloc, sz_drew, size_upd, List.size_toArray, List.length_cons, List.length_nil]) <;> omega) | decide) only [sh_Pt_Writer_comp, Pr, PX, PC, NX, ends, fillL, wrL, sOf, Nat.reduceAdd, Nat.reduceMul, Nat.reduceLeDiff, Nat.reduceEqDiff, Int.reduceToNat, Int.reduceAdd, Int.reduceLT, Int.reduceLE, ↓reduceIte, forall_const, eq_self, zG1, zG2, ch_9, fa_121_0, fa_179_0, fa_179_1, ix_100, ld_100, ld_107, ld_9, ln_100, hcb2]
        refine ⟨fun m x w' => ∃ j sj nm', x 32 = .int .i64 (j : Nat) ∧ j ≤ args.length ∧ m = args.length - j ∧ WSx ρ n tr wb sb so T cs nm' w' sj ∧ WFr wb sb w w' ∧
          (∃ g, g ≤ f ∧ P.Wb (P.wArgs tr g (if j = 0 then 40 else 44) (args.drop j) sj) (fun s => some (some (s.add [41]))) = some r) ∧ sj.phi ≤ s.phi + 20 ∧ sj.seen.length ≤ sj.out.length,
          ⟨_, 0, _, nm, rfl, Nat.zero_le _, rfl, h2, hf02, ⟨f, Nat.le_refl _, by simpa using hr'⟩, by rw [P.Ws.phi_add]; omega, P.add_seen hsn⟩, ?_⟩
        intro m x3 d3 w3 hI
        refine toPr ?_
        obtain ⟨j, sj, nm', h32, hj, rfl, h3, hf3, ⟨g, hg, hq⟩, hphj, hsnj⟩ := hI
        have hphj' : sj.phi = sj.out.length + 60 * sj.fuel := rfl
        obtain ⟨ad3, buf3, had3, hb3, hown3⟩ := id h3.bu
        have hu3 := hu.keep (h.kv hx hf3).toT
        by_cases hlt : j < args.length
        · obtain ⟨ao3, cap3, hcb3, hel3⟩ := compAt hu3
          have hcb3' := (h.kv hx hf3) _ _ _ (.inl rfl) hcb
          rw [hcb3'] at hcb3
          simp only [Option.some.injEq, Obj.cells.injEq, and_true, Array.mk.injEq, List.cons.injEq, Value.slice.injEq, true_and] at hcb3
          obtain ⟨rfl, rfl⟩ := hcb3
          obtain ⟨ab, cs3, v3, rfl, hab, hjv, hv3⟩ := hel3 j hlt
          rw [List.drop_eq_getElem_cons hlt] at hq
          cases g with
          | zero => simp [P.wArgs, P.Wb] at hq
          | succ g =>
          rw [P.wArgs] at hq
          have hjn : ((j : Nat) : Int).toNat = j := by omega
          have hmin : (if (1 : Int) < ((j : Nat) : Int) then (1 : Int) else ((j : Nat) : Int)) = if j = 0 then 0 else 1 := by
            by_cases h0 : j = 0
            · subst h0; rfl
            · rw [if_neg h0]
              split <;> omega
          simp (disch := first | assumption | omega | ((simp only [size_alloc, sz_drew, size_upd, List.size_toArray, List.length_cons, List.length_nil]) <;> omega) | decide) only [sh_Pt_Writer_comp, Pr, PX, PC, NX, ends, fillL, wrL, sOf, Nat.reduceAdd, Nat.reduceMul, Nat.reduceLeDiff, Nat.reduceEqDiff, Int.reduceToNat, Int.reduceAdd, Int.reduceLT, Int.reduceLE, ↓reduceIte, forall_const, eq_self, zG1, zG2, ch_9, fa_121_0, fa_179_0, fa_179_1, ix_100, ld_100, ld_107, ld_9, ln_100, h32, hab, hjv, rd_min, hmin]
          obtain ⟨sep, hsep⟩ : ∃ sep : UInt8, sep = if j = 0 then 40 else 44 := ⟨_, rfl⟩
          rw [← hsep] at hq
          have hch : ((List.getD [(40 : UInt8), 44] (Int.toNat (if j = 0 then 0 else 1)) 0).toNat : Int) = sep.toNat := by
            rw [hsep]
            by_cases h0 : j = 0
            · simp [h0]
            · simp [h0]
          refine Calls.mono (wByte (h3.ext ((FrM.refl _ _).drew)) hx sep (by omega) hch) ?_
          rintro e w4 ⟨⟨v4, rfl⟩, h4, hf4⟩
          have hf34 : WFr wb sb w w4 := (hf3.trans (FrM.drew (FrM.refl _ _))).trans hf4
          have hv4 := hv3.keep (h3.kv hx ((FrM.drew (FrM.refl _ _)).trans hf4)).toT
          have hoka : P.TmOk args[j] := tmsOk_at haok hlt
          have hph4 : (sj.add [sep]).phi = sj.phi + 1 := P.Ws.phi_add ..
          cases hq1 : P.wTm tr g args[j] 0 (sj.add [sep]) with
          | none => simp [hq1, P.Wb] at hq
          | some r1 =>
          simp (disch := first | assumption | omega | ((simp only [size_alloc, sz_drew, size_upd, List.size_toArray, List.length_cons, List.length_nil]) <;> omega) | decide) only [sh_Pt_Writer_comp, Pr, PX, PC, NX, ends, fillL, wrL, sOf, Nat.reduceAdd, Nat.reduceMul, Nat.reduceLeDiff, Nat.reduceEqDiff, Int.reduceToNat, Int.reduceAdd, Int.reduceLT, Int.reduceLE, ↓reduceIte, forall_const, eq_self, zG1, zG2, ch_9, fa_121_0, fa_179_0, fa_179_1, ix_100, ld_100, ld_107, ld_9, ln_100]
          refine Calls.mono ((ih g (by omega)).tm (least := 0) hx ⟨_, h4⟩ hv4 hoka (by omega) (P.add_seen hsnj) hq1) ?_
          rintro e w5 hp5
          cases r1 with
          | none =>
            simp only [hq1, P.Wb, Option.some.injEq] at hq
            subst hq
            have hp6 := hp5.of (B' := s.phi + 30) hf34 (by omega)
            obtain ⟨g1, rfl, g2⟩ := hp6
            exact ⟨g1, rfl, g2⟩
          | some s5 =>
            obtain ⟨g1, rfl, nm5, g2⟩ := hp5
            obtain ⟨l1, l2⟩ := (P.lenW hx.tok g).tm _ _ _ _ hoka (by omega) (P.add_seen hsnj) hq1
            simp only [hq1] at hq
            simp (disch := first | assumption | omega | ((simp only [size_alloc, sz_drew, size_upd, List.size_toArray, List.length_cons, List.length_nil]) <;> omega) | decide) only [sh_Pt_Writer_comp, Pr, PX, PC, NX, ends, fillL, wrL, sOf, Nat.reduceAdd, Nat.reduceMul, Nat.reduceLeDiff, Nat.reduceEqDiff, Int.reduceToNat, Int.reduceAdd, Int.reduceLT, Int.reduceLE, ↓reduceIte, forall_const, eq_self, zG1, zG2, ch_9, fa_121_0, fa_179_0, fa_179_1, ix_100, ld_100, ld_107, ld_9, ln_100, h32]
            refine ⟨_, by omega, j + 1, s5, nm5, by simp [sOf], by omega, rfl, g2, hf34.trans g1, ⟨g, by omega, ?_⟩, by omega, l2⟩
            rw [if_neg (by omega)]
            exact hq
        · have hdj : args.drop j = [] := List.drop_eq_nil_of_le (by omega)
          rw [hdj] at hq
          cases g with
          | zero => simp [P.wArgs, P.Wb] at hq
          | succ g =>
          simp only [P.wArgs, P.Wb, Option.some.injEq] at hq
          subst hq
          simp (disch := first | assumption | omega | ((simp only [size_alloc, sz_drew, size_upd, List.size_toArray, List.length_cons, List.length_nil]) <;> omega) | decide) only [sh_Pt_Writer_comp, Pr, PX, PC, NX, ends, fillL, wrL, sOf, Nat.reduceAdd, Nat.reduceMul, Nat.reduceLeDiff, Nat.reduceEqDiff, Int.reduceToNat, Int.reduceAdd, Int.reduceLT, Int.reduceLE, ↓reduceIte, forall_const, eq_self, zG1, zG2, ch_9, fa_121_0, fa_179_0, fa_179_1, ix_100, ld_100, ld_107, ld_9, ln_100, h32]
          refine (wByte h3 hx 41 (by omega) rfl).mono ?_
          rintro e w4 ⟨⟨v4, rfl⟩, h4, hf4⟩
          exact ⟨hf3.trans hf4, rfl, _, h4⟩
  · have hp' : (0 : Int) < ((P.power name args.length : Nat) : Int) := by omega
    obtain ⟨x0, y0, rfl⟩ : ∃ x0 y0, args = [x0, y0] := by
      have h2 : args.length = 2 := by
        by_cases h2 : args.length = 2
        · exact h2
        · exact absurd (by unfold P.power; rw [if_pos h2]) hp
      match args, h2 with
      | [x0, y0], _ => exact ⟨x0, y0, rfl⟩
    have hp2 : P.power name [x0, y0].length = P.power name 2 := rfl
    rw [hp2] at hp hp' ⊢
    have hp3 : P.power name 2 ≤ 2 := by
      unfold P.power
      split
      · omega
      · split
        · omega
        · split <;> omega
    obtain ⟨hx0, hy0⟩ := P.tmsOk2 haok
    dsimp only at hr
    rw [if_pos hp] at hr
    obtain ⟨op, hop⟩ : ∃ op : P.Bs, op = if name = [109, 111, 100] then [32, 109, 111, 100, 32] else name := ⟨_, rfl⟩
    have hopl : op.length ≤ 20 := by rw [hop]; split <;> simp_all
    rw [← hop] at hr
    have hus : ∀ w', WFr wb sb w w' → ∃ ab cap cs0 u0 u1, w'.heap[b]? = some (.cells #[.string (bs name), .slice (some ⟨ab, 0, none⟩) 2 cap] 179 (0, 0)) ∧ w'.heap[ab]? = some (.cells cs0 107 (0, 0)) ∧ cs0[0]? = some u0 ∧ cs0[1]? = some u1 ∧ IsT ρ n w' u0 x0 ∧ IsT ρ n w' u1 y0 := by
      intro w' hf
      obtain ⟨ao, cap, k1, k2⟩ := compAt (hu.keep (h.kv hx hf).toT)
      obtain ⟨ab, cs0, u0, rfl, k3, k4, k5⟩ := k2 0 (by simp)
      obtain ⟨ab', cs1, u1, e, k6, k7, k8⟩ := k2 1 (by simp)
      injection e with e
      injection e with e _ _
      subst e
      rw [k3] at k6
      injection k6 with k6
      injection k6 with k6 _ _
      subst k6
      exact ⟨ab, cap, cs0, u0, u1, k1, k3, k4, k7, k5, k8⟩
    by_cases hpl : P.power name 2 < least
    · rw [if_pos hpl] at hr
      simp (disch := first | assumption | omega | ((simp only [size_alloc, sz_drew, size_upd, List.size_toArray, List.length_cons, List.length_nil]) <;> omega) | decide) only [sh_Pt_Writer_comp, Pr, PX, PC, NX, ends, fillL, wrL, sOf, Nat.reduceAdd, Nat.reduceMul, Nat.reduceLeDiff, Nat.reduceEqDiff, Int.reduceToNat, Int.reduceAdd, Int.reduceLT, Int.reduceLE, ↓reduceIte, forall_const, eq_self, zG1, zG2, ch_9, fa_121_0, fa_179_0, fa_179_1, ix_100, ld_100, ld_107, ld_9, ln_100]
      refine (wByte hd hx 40 (by omega) rfl).mono ?_
      rintro e w2 ⟨⟨v2, rfl⟩, h2, hf2⟩
      have hf02 : WFr wb sb w w2 := (FrM.toM (M := MW wb sb) hdr).trans hf2
      obtain ⟨ab, cap2, cs2, u0, u1, k1, k2, k3, k4, k5, k6⟩ := hus w2 hf02
      simp (disch := first | assumption | omega | ((simp only [size_alloc, sz_drew, size_upd, List.size_toArray, List.length_cons, List.length_nil]) <;> omega) | decide) only [sh_Pt_Writer_comp, Pr, PX, PC, NX, ends, fillL, wrL, sOf, Nat.reduceAdd, Nat.reduceMul, Nat.reduceLeDiff, Nat.reduceEqDiff, Int.reduceToNat, Int.reduceAdd, Int.reduceLT, Int.reduceLE, ↓reduceIte, forall_const, eq_self, zG1, zG2, ch_9, fa_121_0, fa_179_0, fa_179_1, ix_100, ld_100, ld_107, ld_9, ln_100, k1, k2, k3]
      cases hq1 : P.wTm tr f x0 (P.power name 2) (s.add [40]) with
      | none => simp [hq1, P.Wb] at hr
      | some r1 =>
      have hph2 : (s.add [40]).phi = s.phi + 1 := P.Ws.phi_add ..
      refine Calls.mono ((ih f (Nat.le_refl _)).tm hx ⟨_, h2⟩ k5 hx0 (by omega) (P.add_seen hsn) hq1) ?_
      rintro e w3 hp5
      have hp6 := hp5.of (B' := s.phi + 1) hf02 (by omega)
      cases r1 with
      | none =>
        simp only [hq1, P.Wb, Option.some.injEq] at hr
        subst hr
        obtain rfl := hp6.2.1
        exact spentClose hx hp6 (by omega) (by omega)
      | some s3 =>
        obtain ⟨hf3, rfl, nm3, h3⟩ := hp6
        obtain ⟨l1, l2⟩ := (P.lenW hx.tok f).tm _ _ _ _ hx0 (by omega) (P.add_seen hsn) hq1
        simp only [hq1] at hr
        obtain ⟨ab3, cap3, cs3, u03, u13, q1, q2, q3, q4, q5, q6⟩ := hus w3 hf3
        have hph3 : s3.phi = s3.out.length + 60 * s3.fuel := rfl
        simp (disch := first | assumption | omega | ((simp only [size_alloc, sz_drew, size_upd, List.size_toArray, List.length_cons, List.length_nil]) <;> omega) | decide) only [sh_Pt_Writer_comp, Pr, PX, PC, NX, ends, fillL, wrL, sOf, Nat.reduceAdd, Nat.reduceMul, Nat.reduceLeDiff, Nat.reduceEqDiff, Int.reduceToNat, Int.reduceAdd, Int.reduceLT, Int.reduceLE, ↓reduceIte, forall_const, eq_self, zG1, zG2, ch_9, fa_121_0, fa_179_0, fa_179_1, ix_100, ld_100, ld_107, ld_9, ln_100]
        refine ⟨fun _ w' => WSx ρ n tr wb sb so T cs nm3 w' (s3.add op) ∧ WFr wb sb w3 w', ?_, ?_⟩
        · by_cases hmod : name = [109, 111, 100]
          · simp (disch := first | assumption | omega | ((simp only [size_alloc, sz_drew, size_upd, List.size_toArray, List.length_cons, List.length_nil]) <;> omega) | decide) only [sh_Pt_Writer_comp, Pr, PX, PC, NX, ends, fillL, wrL, sOf, Nat.reduceAdd, Nat.reduceMul, Nat.reduceLeDiff, Nat.reduceEqDiff, Int.reduceToNat, Int.reduceAdd, Int.reduceLT, Int.reduceLE, ↓reduceIte, forall_const, eq_self, zG1, zG2, ch_9, fa_121_0, fa_179_0, fa_179_1, ix_100, ld_100, ld_107, ld_9, ln_100, q1, hmod]
            rw [hop, if_pos hmod] at hopl ⊢
            refine (wWrite h3 hx _ (by simp; omega)).mono ?_
            rintro e w4 ⟨⟨v4, rfl⟩, h4, hf4⟩
            exact ⟨h4, hf4⟩
          · simp (disch := first | assumption | omega | ((simp only [size_alloc, sz_drew, size_upd, List.size_toArray, List.length_cons, List.length_nil]) <;> omega) | decide) only [sh_Pt_Writer_comp, Pr, PX, PC, NX, ends, fillL, wrL, sOf, Nat.reduceAdd, Nat.reduceMul, Nat.reduceLeDiff, Nat.reduceEqDiff, Int.reduceToNat, Int.reduceAdd, Int.reduceLT, Int.reduceLE, ↓reduceIte, forall_const, eq_self, zG1, zG2, ch_9, fa_121_0, fa_179_0, fa_179_1, ix_100, ld_100, ld_107, ld_9, ln_100, q1, hmod]
            rw [hop, if_neg hmod] at hopl ⊢
            have hdr3 : Ext w3 w3.drew := (FrM.refl _ _).drew
            refine (wWrite (h3.ext hdr3) hx _ (by omega)).mono ?_
            rintro e w4 ⟨⟨v4, rfl⟩, h4, hf4⟩
            exact ⟨h4, (FrM.toM hdr3).trans hf4⟩
        · rintro _ w4 ⟨h4, hf4⟩ d4
          have hf04 := hf3.trans hf4
          obtain ⟨ab4, cap4, cs4, u04, u14, q1, q2, q3, q4, q5, q6⟩ := hus w4 hf04
          have hpi : ((P.power name 2 : Nat) : Int) + 1 = ((P.power name 2 + 1 : Nat) : Int) := by omega
          simp (disch := first | assumption | omega | ((simp only [size_alloc, sz_drew, size_upd, List.size_toArray, List.length_cons, List.length_nil]) <;> omega) | decide) only [sh_Pt_Writer_comp, Pr, PX, PC, NX, ends, fillL, wrL, sOf, Nat.reduceAdd, Nat.reduceMul, Nat.reduceLeDiff, Nat.reduceEqDiff, Int.reduceToNat, Int.reduceAdd, Int.reduceLT, Int.reduceLE, ↓reduceIte, forall_const, eq_self, zG1, zG2, ch_9, fa_121_0, fa_179_0, fa_179_1, ix_100, ld_100, ld_107, ld_9, ln_100, q1, q2, q4, hpi]
          have hph4 : (s3.add op).phi = s3.phi + op.length := P.Ws.phi_add ..
          cases hq2 : P.wTm tr f y0 (P.power name 2 + 1) (s3.add op) with
          | none => simp [hq2, P.Wb] at hr
          | some r2 =>
          refine Calls.mono ((ih f (Nat.le_refl _)).tm hx ⟨_, h4⟩ q6 hy0 (by omega) (P.add_seen l2) hq2) ?_
          rintro e w5 hp7
          have hp8 := hp7.of (B' := s.phi + 1) hf04 (by omega)
          cases r2 with
          | none =>
            simp only [hq2, P.Wb, Option.some.injEq] at hr
            subst hr
            obtain rfl := hp8.2.1
            exact spentClose hx hp8 (by omega) (by omega)
          | some s5 =>
            obtain ⟨hf5, rfl, nm5, h5⟩ := hp8
            obtain ⟨l3, l4⟩ := (P.lenW hx.tok f).tm _ _ _ _ hy0 (by omega) (P.add_seen l2) hq2
            simp only [hq2, P.Wb, Option.some.injEq] at hr
            subst hr
            have hph5 : s5.phi = s5.out.length + 60 * s5.fuel := rfl
            refine lvRet h5.bu (by omega) fun w6 hb6 hf6 => ?_
            exact ⟨hf5.trans (hf6.toW sb), rfl, nm5, h5.wr hx hb6 hf6⟩
    · rw [if_neg hpl] at hr
      obtain ⟨ab, cap2, cs2, u0, u1, k1, k2, k3, k4, k5, k6⟩ := hus w.drew (FrM.toM hdr)
      simp (disch := first | assumption | omega | ((simp only [size_alloc, sz_drew, size_upd, List.size_toArray, List.length_cons, List.length_nil]) <;> omega) | decide) only [sh_Pt_Writer_comp, Pr, PX, PC, NX, ends, fillL, wrL, sOf, Nat.reduceAdd, Nat.reduceMul, Nat.reduceLeDiff, Nat.reduceEqDiff, Int.reduceToNat, Int.reduceAdd, Int.reduceLT, Int.reduceLE, ↓reduceIte, forall_const, eq_self, zG1, zG2, ch_9, fa_121_0, fa_179_0, fa_179_1, ix_100, ld_100, ld_107, ld_9, ln_100, k1, k2, k3]
      cases hq1 : P.wTm tr f x0 (P.power name 2) s with
      | none => simp [hq1, P.Wb] at hr
      | some r1 =>
      refine Calls.mono ((ih f (Nat.le_refl _)).tm hx ⟨_, hd⟩ k5 hx0 (by omega) hsn hq1) ?_
      rintro e w3 hp5
      have hp6 := hp5.of (B' := s.phi + 1) (FrM.toM (M := MW wb sb) hdr) (by omega)
      cases r1 with
      | none =>
        simp only [hq1, P.Wb, Option.some.injEq] at hr
        subst hr
        have hp7 := hp6.of (B' := s.phi + 30) (FrM.refl _ _) (by omega)
        obtain ⟨g1, rfl, g2⟩ := hp7
        exact ⟨g1, rfl, g2⟩
      | some s3 =>
        obtain ⟨hf3, rfl, nm3, h3⟩ := hp6
        obtain ⟨l1, l2⟩ := (P.lenW hx.tok f).tm _ _ _ _ hx0 (by omega) hsn hq1
        simp only [hq1] at hr
        obtain ⟨ab3, cap3, cs3, u03, u13, q1, q2, q3, q4, q5, q6⟩ := hus w3 hf3
        have hph3 : s3.phi = s3.out.length + 60 * s3.fuel := rfl
        simp (disch := first | assumption | omega | ((simp only [size_alloc, sz_drew, size_upd, List.size_toArray, List.length_cons, List.length_nil]) <;> omega) | decide) only [sh_Pt_Writer_comp, Pr, PX, PC, NX, ends, fillL, wrL, sOf, Nat.reduceAdd, Nat.reduceMul, Nat.reduceLeDiff, Nat.reduceEqDiff, Int.reduceToNat, Int.reduceAdd, Int.reduceLT, Int.reduceLE, ↓reduceIte, forall_const, eq_self, zG1, zG2, ch_9, fa_121_0, fa_179_0, fa_179_1, ix_100, ld_100, ld_107, ld_9, ln_100]
        refine ⟨fun _ w' => WSx ρ n tr wb sb so T cs nm3 w' (s3.add op) ∧ WFr wb sb w3 w', ?_, ?_⟩
        · by_cases hmod : name = [109, 111, 100]
          · simp (disch := first | assumption | omega | ((simp only [size_alloc, sz_drew, size_upd, List.size_toArray, List.length_cons, List.length_nil]) <;> omega) | decide) only [sh_Pt_Writer_comp, Pr, PX, PC, NX, ends, fillL, wrL, sOf, Nat.reduceAdd, Nat.reduceMul, Nat.reduceLeDiff, Nat.reduceEqDiff, Int.reduceToNat, Int.reduceAdd, Int.reduceLT, Int.reduceLE, ↓reduceIte, forall_const, eq_self, zG1, zG2, ch_9, fa_121_0, fa_179_0, fa_179_1, ix_100, ld_100, ld_107, ld_9, ln_100, q1, hmod]
            rw [hop, if_pos hmod] at hopl ⊢
            refine (wWrite h3 hx _ (by simp; omega)).mono ?_
            rintro e w4 ⟨⟨v4, rfl⟩, h4, hf4⟩
            exact ⟨h4, hf4⟩
          · simp (disch := first | assumption | omega | ((simp only [size_alloc, sz_drew, size_upd, List.size_toArray, List.length_cons, List.length_nil]) <;> omega) | decide) only [sh_Pt_Writer_comp, Pr, PX, PC, NX, ends, fillL, wrL, sOf, Nat.reduceAdd, Nat.reduceMul, Nat.reduceLeDiff, Nat.reduceEqDiff, Int.reduceToNat, Int.reduceAdd, Int.reduceLT, Int.reduceLE, ↓reduceIte, forall_const, eq_self, zG1, zG2, ch_9, fa_121_0, fa_179_0, fa_179_1, ix_100, ld_100, ld_107, ld_9, ln_100, q1, hmod]
            rw [hop, if_neg hmod] at hopl ⊢
            have hdr3 : Ext w3 w3.drew := (FrM.refl _ _).drew
            refine (wWrite (h3.ext hdr3) hx _ (by omega)).mono ?_
            rintro e w4 ⟨⟨v4, rfl⟩, h4, hf4⟩
            exact ⟨h4, (FrM.toM hdr3).trans hf4⟩
        · rintro _ w4 ⟨h4, hf4⟩ d4
          have hf04 := hf3.trans hf4
          obtain ⟨ab4, cap4, cs4, u04, u14, q1, q2, q3, q4, q5, q6⟩ := hus w4 hf04
          have hpi : ((P.power name 2 : Nat) : Int) + 1 = ((P.power name 2 + 1 : Nat) : Int) := by omega
          simp (disch := first | assumption | omega | ((simp only [size_alloc, sz_drew, size_upd, List.size_toArray, List.length_cons, List.length_nil]) <;> omega) | decide) only [sh_Pt_Writer_comp, Pr, PX, PC, NX, ends, fillL, wrL, sOf, Nat.reduceAdd, Nat.reduceMul, Nat.reduceLeDiff, Nat.reduceEqDiff, Int.reduceToNat, Int.reduceAdd, Int.reduceLT, Int.reduceLE, ↓reduceIte, forall_const, eq_self, zG1, zG2, ch_9, fa_121_0, fa_179_0, fa_179_1, ix_100, ld_100, ld_107, ld_9, ln_100, q1, q2, q4, hpi]
          have hph4 : (s3.add op).phi = s3.phi + op.length := P.Ws.phi_add ..
          cases hq2 : P.wTm tr f y0 (P.power name 2 + 1) (s3.add op) with
          | none => simp [hq2, P.Wb] at hr
          | some r2 =>
          simp only [hq2, P.Wb, Option.some.injEq] at hr
          refine Calls.mono ((ih f (Nat.le_refl _)).tm hx ⟨_, h4⟩ q6 hy0 (by omega) (P.add_seen l2) hq2) ?_
          rintro e w5 hp7
          have hp8 := hp7.of (B' := s.phi + 30) hf04 (by omega)
          subst hr
          cases r2 with
          | none =>
            obtain ⟨g1, rfl, g2⟩ := hp8
            exact ⟨g1, rfl, g2⟩
          | some s5 =>
            obtain ⟨g1, rfl, g2⟩ := hp8
            exact ⟨g1, rfl, g2⟩
end Go.Proofs.YtkmpelgfhjgddaaGreatDoor
namespace Go.Proofs.YtkmpelgfhjgddaaGreatDoor
open Go.RowKit Sx
set_option maxRecDepth 100000
theorem pairAt {ρ : Nat → Nat} {n : Nat} {w : World} {b : Nat} {name : P.Bs} {x0 y0 : P.Tm} (h : IsT ρ n w (.iface 174 (.pointer (some ⟨b, 0, none⟩))) (.comp name [x0, y0])) :
    ∃ ab cap cs0 u0 u1, w.heap[b]? = some (.cells #[.string (bs name), .slice (some ⟨ab, 0, none⟩) 2 cap] 179 (0, 0)) ∧ w.heap[ab]? = some (.cells cs0 107 (0, 0)) ∧ cs0[0]? = some u0 ∧ cs0[1]? = some u1 ∧ IsT ρ n w u0 x0 ∧ IsT ρ n w u1 y0 := by
  obtain ⟨ao, cap, k1, k2⟩ := compAt h
  obtain ⟨ab, cs0, u0, rfl, k3, k4, k5⟩ := k2 0 (by simp)
  obtain ⟨ab', cs1, u1, e, k6, k7, k8⟩ := k2 1 (by simp)
  injection e with e
  injection e with e _ _
  subst e
  rw [k3] at k6
  injection k6 with k6
  injection k6 with k6 _ _
  subst k6
  exact ⟨ab, cap, cs0, u0, u1, k1, k3, k4, k7, k5, k8⟩
set_option maxHeartbeats 2000000 in
theorem cwList {f : Nat} (ih : ∀ g, g ≤ f → CW g) {ρ : Nat → Nat} {n : Nat} {tr : P.Tr} {wb sb so T : Nat} {cs : Array Value} {w : World} {s : P.Ws} {name : P.Bs} {x y : P.Tm} {b : Nat} {r : Option P.Ws} (hx : WFix tr wb sb so T cs) (hs : WSt ρ n tr wb sb so T cs w s)
    (hu : IsT ρ n w (.iface 174 (.pointer (some ⟨b, 0, none⟩))) (.comp name [x, y])) (hok : P.TmOk (.comp name [x, y]))
    (hB : s.phi ≤ 900000100 - 60) (hsn : s.seen.length ≤ s.out.length) (hr : P.wList tr (f + 1) 91 x y s = some r) :
    Calls Tryz.prog 92 #[.pointer (some ⟨wb, 0, none⟩), .pointer (some ⟨b, 0, none⟩)] w (WPost ρ n tr wb sb so T cs w (s.phi + 30) r) := by
  obtain ⟨nm, h⟩ := hs
  refine sh_Pt_Writer_list_ok ?_
  refine ⟨fun m z w' => ∃ b' sj nm' sep name' x' y', z 1 = .pointer (some ⟨b', 0, none⟩) ∧ z 4 = .int .u8 (sep : UInt8).toNat ∧ WSx ρ n tr wb sb so T cs nm' w' sj ∧ WFr wb sb w w' ∧
    IsT ρ n w' (.iface 174 (.pointer (some ⟨b', 0, none⟩))) (.comp name' [x', y']) ∧ P.TmOk (.comp name' [x', y']) ∧ m ≤ f + 1 ∧ P.wList tr m sep x' y' sj = some r ∧ sj.phi ≤ s.phi ∧ sj.seen.length ≤ sj.out.length,
    ⟨f + 1, b, s, nm, 91, name, x, y, rfl, rfl, h, FrM.refl _ _, hu, hok, Nat.le_refl _, hr, Nat.le_refl _, hsn⟩, ?_⟩
  intro m z d w3 hI
  refine toPr ?_
  obtain ⟨b', sj, nm', sep, name', x', y', hz1, hz4, h3, hf3, hu3, hok3, hm, hq, hphj, hsnj⟩ := hI
  have hphj' : sj.phi = sj.out.length + 60 * sj.fuel := rfl
  obtain ⟨ad3, buf3, had3, hb3, hown3⟩ := id h3.bu
  have hok3' := hok3
  unfold P.TmOk at hok3'
  obtain ⟨hx0, hy0⟩ := P.tmsOk2 hok3'.2.2
  cases m with
  | zero => simp [P.wList] at hq
  | succ g =>
  rw [P.wList] at hq
  simp (disch := first | assumption | omega | ((simp only [size_alloc, sz_drew, size_upd, List.size_toArray, List.length_cons, List.length_nil]) <;> omega) | decide) only [sh_Pt_Writer_list, Pr, PX, PC, NX, ends, fillL, wrL, sOf, Nat.reduceAdd, Nat.reduceMul, Nat.reduceLeDiff, Nat.reduceEqDiff, Int.reduceToNat, Int.reduceAdd, Int.reduceLT, Int.reduceLE, ↓reduceIte, forall_const, eq_self, zG1, zG2, fa_121_0, fa_179_0, fa_179_1, ix_100, ld_100, ld_107, ld_9, ln_100, ta_107_168, ta_107_174, tn_107_168, tn_107_174, hz1, hz4]
  refine (wByte h3 hx sep (by omega) rfl).mono ?_
  rintro e w4 ⟨⟨v4, rfl⟩, h4, hf4⟩
  have hf34 := hf3.trans hf4
  have hu4 := hu3.keep (h3.kv hx hf4).toT
  obtain ⟨ab, cap, cs0, u0, u1, k1, k2, k3, k4, k5, k6⟩ := pairAt hu4
  simp (disch := first | assumption | omega | ((simp only [size_alloc, sz_drew, size_upd, List.size_toArray, List.length_cons, List.length_nil]) <;> omega) | decide) only [sh_Pt_Writer_list, Pr, PX, PC, NX, ends, fillL, wrL, sOf, Nat.reduceAdd, Nat.reduceMul, Nat.reduceLeDiff, Nat.reduceEqDiff, Int.reduceToNat, Int.reduceAdd, Int.reduceLT, Int.reduceLE, ↓reduceIte, forall_const, eq_self, zG1, zG2, fa_121_0, fa_179_0, fa_179_1, ix_100, ld_100, ld_107, ld_9, ln_100, ta_107_168, ta_107_174, tn_107_168, tn_107_174, hz1, k1, k2, k3]
  have hph4 : (sj.add [sep]).phi = sj.phi + 1 := P.Ws.phi_add ..
  cases hq1 : P.wTm tr g x' 0 (sj.add [sep]) with
  | none => simp [hq1, P.Wb] at hq
  | some r1 =>
  refine Calls.mono ((ih g (by omega)).tm (least := 0) hx ⟨_, h4⟩ k5 hx0 (by omega) (P.add_seen hsnj) hq1) ?_
  rintro e w5 hp5
  have hp6 := hp5.of (B' := s.phi + 30) hf34 (by omega)
  cases r1 with
  | none =>
    simp only [hq1, P.Wb, Option.some.injEq] at hq
    subst hq
    obtain ⟨g1, rfl, g2⟩ := hp6
    exact ⟨g1, rfl, g2⟩
  | some s5 =>
    obtain ⟨hf5, rfl, nm5, h5⟩ := hp6
    obtain ⟨l1, l2⟩ := (P.lenW hx.tok g).tm _ _ _ _ hx0 (by omega) (P.add_seen hsnj) hq1
    simp only [hq1, P.Wb] at hq
    have hf45 : WFr wb sb w4 w5 := hp5.1
    have hu5 := hu4.keep (h4.kv hx hf45).toT
    obtain ⟨ab, cap, cs0, u0, u1, k1, k2, k3, k4, k5, k6⟩ := pairAt hu5
    obtain ⟨ad5, buf5, had5, hb5, hown5⟩ := id h5.bu
    have hph5 : s5.phi = s5.out.length + 60 * s5.fuel := rfl
    simp (disch := first | assumption | omega | ((simp only [size_alloc, sz_drew, size_upd, List.size_toArray, List.length_cons, List.length_nil]) <;> omega) | decide) only [sh_Pt_Writer_list, Pr, PX, PC, NX, ends, fillL, wrL, sOf, Nat.reduceAdd, Nat.reduceMul, Nat.reduceLeDiff, Nat.reduceEqDiff, Int.reduceToNat, Int.reduceAdd, Int.reduceLT, Int.reduceLE, ↓reduceIte, forall_const, eq_self, zG1, zG2, fa_121_0, fa_179_0, fa_179_1, ix_100, ld_100, ld_107, ld_9, ln_100, ta_107_168, ta_107_174, tn_107_168, tn_107_174]
    refine ⟨fun z' w' => z' 1 = .pointer (some ⟨b', 0, none⟩) ∧ w' = w5 ∧ P.Wb (P.wTm tr g y' 0 (s5.add [124])) (fun s => some (some (s.add [93]))) = some r, ?_, ?_⟩
    · simp (disch := first | assumption | omega | ((simp only [size_alloc, sz_drew, size_upd, List.size_toArray, List.length_cons, List.length_nil]) <;> omega) | decide) only [sh_Pt_Writer_list, Pr, PX, PC, NX, ends, fillL, wrL, sOf, Nat.reduceAdd, Nat.reduceMul, Nat.reduceLeDiff, Nat.reduceEqDiff, Int.reduceToNat, Int.reduceAdd, Int.reduceLT, Int.reduceLE, ↓reduceIte, forall_const, eq_self, zG1, zG2, fa_121_0, fa_179_0, fa_179_1, ix_100, ld_100, ld_107, ld_9, ln_100, ta_107_168, ta_107_174, tn_107_168, tn_107_174, hz1, k1, k2, k4]
      cases hw : P.walkN tr g y' with
      | none => simp [hw] at hq
      | some t' =>
      rw [hw] at hq
      refine Calls.mono (tWalk h5.st k6 hw) ?_
      rintro e w6 ⟨rfl, u, rfl, hut⟩
      have hokt := P.walkN_ok hx.tok hy0 hw
      cases t' with
      | atom a =>
        unfold IsTm at hut
        subst hut
        simp (disch := first | assumption | omega | ((simp only [size_alloc, sz_drew, size_upd, List.size_toArray, List.length_cons, List.length_nil]) <;> omega) | decide) only [sh_Pt_Writer_list, Pr, PX, PC, NX, ends, fillL, wrL, sOf, Nat.reduceAdd, Nat.reduceMul, Nat.reduceLeDiff, Nat.reduceEqDiff, Int.reduceToNat, Int.reduceAdd, Int.reduceLT, Int.reduceLE, ↓reduceIte, forall_const, eq_self, zG1, zG2, fa_121_0, fa_179_0, fa_179_1, ix_100, ld_100, ld_107, ld_9, ln_100, ta_107_168, ta_107_174, tn_107_168, tn_107_174]
        dsimp only at hq
        by_cases ha : a = [91, 93]
        · rw [if_pos ha] at hq
          simp (disch := first | assumption | omega | ((simp only [size_alloc, sz_drew, size_upd, List.size_toArray, List.length_cons, List.length_nil]) <;> omega) | decide) only [sh_Pt_Writer_list, Pr, PX, PC, NX, ends, fillL, wrL, sOf, Nat.reduceAdd, Nat.reduceMul, Nat.reduceLeDiff, Nat.reduceEqDiff, Int.reduceToNat, Int.reduceAdd, Int.reduceLT, Int.reduceLE, ↓reduceIte, forall_const, eq_self, zG1, zG2, fa_121_0, fa_179_0, fa_179_1, ix_100, ld_100, ld_107, ld_9, ln_100, ta_107_168, ta_107_174, tn_107_168, tn_107_174, ha]
          refine (wByte h5 hx 93 (by omega) rfl).mono ?_
          rintro e w7 ⟨⟨v7, rfl⟩, h7, hf7⟩
          obtain rfl := Option.some.inj hq
          exact ⟨hf5.trans hf7, rfl, _, h7⟩
        · rw [if_neg ha] at hq
          simp (disch := first | assumption | omega | ((simp only [size_alloc, sz_drew, size_upd, List.size_toArray, List.length_cons, List.length_nil]) <;> omega) | decide) only [sh_Pt_Writer_list, Pr, PX, PC, NX, ends, fillL, wrL, sOf, Nat.reduceAdd, Nat.reduceMul, Nat.reduceLeDiff, Nat.reduceEqDiff, Int.reduceToNat, Int.reduceAdd, Int.reduceLT, Int.reduceLE, ↓reduceIte, forall_const, eq_self, zG1, zG2, fa_121_0, fa_179_0, fa_179_1, ix_100, ld_100, ld_107, ld_9, ln_100, ta_107_168, ta_107_174, tn_107_168, tn_107_174, ha]
          exact ⟨hz1, hq⟩
      | int a =>
        unfold IsTm at hut
        subst hut
        simp (disch := first | assumption | omega | ((simp only [size_alloc, sz_drew, size_upd, List.size_toArray, List.length_cons, List.length_nil]) <;> omega) | decide) only [sh_Pt_Writer_list, Pr, PX, PC, NX, ends, fillL, wrL, sOf, Nat.reduceAdd, Nat.reduceMul, Nat.reduceLeDiff, Nat.reduceEqDiff, Int.reduceToNat, Int.reduceAdd, Int.reduceLT, Int.reduceLE, ↓reduceIte, forall_const, eq_self, zG1, zG2, fa_121_0, fa_179_0, fa_179_1, ix_100, ld_100, ld_107, ld_9, ln_100, ta_107_168, ta_107_174, tn_107_168, tn_107_174]
        exact ⟨hz1, hq⟩
      | var i =>
        unfold IsTm at hut
        obtain ⟨hi, rfl⟩ := hut
        simp (disch := first | assumption | omega | ((simp only [size_alloc, sz_drew, size_upd, List.size_toArray, List.length_cons, List.length_nil]) <;> omega) | decide) only [sh_Pt_Writer_list, Pr, PX, PC, NX, ends, fillL, wrL, sOf, Nat.reduceAdd, Nat.reduceMul, Nat.reduceLeDiff, Nat.reduceEqDiff, Int.reduceToNat, Int.reduceAdd, Int.reduceLT, Int.reduceLE, ↓reduceIte, forall_const, eq_self, zG1, zG2, fa_121_0, fa_179_0, fa_179_1, ix_100, ld_100, ld_107, ld_9, ln_100, ta_107_168, ta_107_174, tn_107_168, tn_107_174]
        exact ⟨hz1, hq⟩
      | comp name2 args2 =>
        have hut' := hut
        unfold IsTm at hut
        obtain ⟨b2, av2, vs2, rfl, -⟩ := hut
        obtain ⟨ao2, cap2, q1, -⟩ := compAt hut'
        simp (disch := first | assumption | omega | ((simp only [size_alloc, sz_drew, size_upd, List.size_toArray, List.length_cons, List.length_nil]) <;> omega) | decide) only [sh_Pt_Writer_list, Pr, PX, PC, NX, ends, fillL, wrL, sOf, Nat.reduceAdd, Nat.reduceMul, Nat.reduceLeDiff, Nat.reduceEqDiff, Int.reduceToNat, Int.reduceAdd, Int.reduceLT, Int.reduceLE, ↓reduceIte, forall_const, eq_self, zG1, zG2, fa_121_0, fa_179_0, fa_179_1, ix_100, ld_100, ld_107, ld_9, ln_100, ta_107_168, ta_107_174, tn_107_168, tn_107_174, q1]
        refine ⟨fun z' w' => w' = w6 ∧ z' 42 = .bool (decide (name2 = [46] ∧ args2.length = 2)), ?_, ?_⟩
        · by_cases hn : name2 = [46]
          · simp (disch := first | assumption | omega | ((simp only [size_alloc, sz_drew, size_upd, List.size_toArray, List.length_cons, List.length_nil]) <;> omega) | decide) only [sh_Pt_Writer_list, Pr, PX, PC, NX, ends, fillL, wrL, sOf, Nat.reduceAdd, Nat.reduceMul, Nat.reduceLeDiff, Nat.reduceEqDiff, Int.reduceToNat, Int.reduceAdd, Int.reduceLT, Int.reduceLE, ↓reduceIte, forall_const, eq_self, zG1, zG2, fa_121_0, fa_179_0, fa_179_1, ix_100, ld_100, ld_107, ld_9, ln_100, ta_107_168, ta_107_174, tn_107_168, tn_107_174, q1, hn]
            simp [sOf]
            omega
          · simp (disch := first | assumption | omega | ((simp only [size_alloc, sz_drew, size_upd, List.size_toArray, List.length_cons, List.length_nil]) <;> omega) | decide) only [sh_Pt_Writer_list, Pr, PX, PC, NX, ends, fillL, wrL, sOf, Nat.reduceAdd, Nat.reduceMul, Nat.reduceLeDiff, Nat.reduceEqDiff, Int.reduceToNat, Int.reduceAdd, Int.reduceLT, Int.reduceLE, ↓reduceIte, forall_const, eq_self, zG1, zG2, fa_121_0, fa_179_0, fa_179_1, ix_100, ld_100, ld_107, ld_9, ln_100, ta_107_168, ta_107_174, tn_107_168, tn_107_174, q1, hn]
            simp [sOf, hn]
        · rintro z' w' ⟨rfl, hz42⟩ d2
          rw [hz42]
          dsimp only at hq
          by_cases hc : name2 = [46] ∧ args2.length = 2
          · rw [bs_pos _ _ hc]
            obtain ⟨x2, y2, rfl⟩ : ∃ x2 y2, args2 = [x2, y2] := by
              match args2, hc.2 with
              | [x2, y2], _ => exact ⟨x2, y2, rfl⟩
            dsimp only at hq
            rw [if_pos hc.1] at hq
            exact ⟨g, by omega, b2, s5, nm5, 44, name2, x2, y2, by simp [sOf], by simp [sOf], h5, hf5, hut', hokt, by omega, hq, by omega, l2⟩
          · rw [bs_neg _ _ hc]
            refine ⟨by simp [sOf, hz1], rfl, ?_⟩
            split at hq
            · rename_i c d'
              have hn2 : ¬ name2 = [46] := fun h => hc ⟨h, rfl⟩
              rw [if_neg hn2] at hq
              exact hq
            · exact hq
    · rintro z' w' ⟨hz1', rfl, hq2⟩ d2
      simp (disch := first | assumption | omega | ((simp only [size_alloc, sz_drew, size_upd, List.size_toArray, List.length_cons, List.length_nil]) <;> omega) | decide) only [sh_Pt_Writer_list, Pr, PX, PC, NX, ends, fillL, wrL, sOf, Nat.reduceAdd, Nat.reduceMul, Nat.reduceLeDiff, Nat.reduceEqDiff, Int.reduceToNat, Int.reduceAdd, Int.reduceLT, Int.reduceLE, ↓reduceIte, forall_const, eq_self, zG1, zG2, fa_121_0, fa_179_0, fa_179_1, ix_100, ld_100, ld_107, ld_9, ln_100, ta_107_168, ta_107_174, tn_107_168, tn_107_174, hz1']
      refine (wByte h5 hx 124 (by omega) rfl).mono ?_
      rintro e w7 ⟨⟨v7, rfl⟩, h7, hf7⟩
      have hf57 := hf5.trans hf7
      have hu7 := hu5.keep (h5.kv hx hf7).toT
      obtain ⟨ab, cap, cs0, u0, u1, k1, k2, k3, k4, k5, k6⟩ := pairAt hu7
      simp (disch := first | assumption | omega | ((simp only [size_alloc, sz_drew, size_upd, List.size_toArray, List.length_cons, List.length_nil]) <;> omega) | decide) only [sh_Pt_Writer_list, Pr, PX, PC, NX, ends, fillL, wrL, sOf, Nat.reduceAdd, Nat.reduceMul, Nat.reduceLeDiff, Nat.reduceEqDiff, Int.reduceToNat, Int.reduceAdd, Int.reduceLT, Int.reduceLE, ↓reduceIte, forall_const, eq_self, zG1, zG2, fa_121_0, fa_179_0, fa_179_1, ix_100, ld_100, ld_107, ld_9, ln_100, ta_107_168, ta_107_174, tn_107_168, tn_107_174, hz1', k1, k2, k4]
      have hph7 : (s5.add [124]).phi = s5.phi + 1 := P.Ws.phi_add ..
      cases hq3 : P.wTm tr g y' 0 (s5.add [124]) with
      | none => simp [hq3, P.Wb] at hq2
      | some r2 =>
      refine Calls.mono ((ih g (by omega)).tm (least := 0) hx ⟨_, h7⟩ k6 hy0 (by omega) (P.add_seen l2) hq3) ?_
      rintro e w8 hp8
      have hp9 := hp8.of (B' := s.phi + 30) hf57 (by omega)
      cases r2 with
      | none =>
        simp only [hq3, P.Wb, Option.some.injEq] at hq2
        subst hq2
        obtain ⟨g1, rfl, g2⟩ := hp9
        exact ⟨g1, rfl, g2⟩
      | some s8 =>
        obtain ⟨hf8, rfl, nm8, h8⟩ := hp9
        obtain ⟨l3, l4⟩ := (P.lenW hx.tok g).tm _ _ _ _ hy0 (by omega) (P.add_seen l2) hq3
        simp only [hq3, P.Wb, Option.some.injEq] at hq2
        subst hq2
        have hph8 : s8.phi = s8.out.length + 60 * s8.fuel := rfl
        obtain ⟨ad8, buf8, had8, hb8, hown8⟩ := id h8.bu
        simp (disch := first | assumption | omega | ((simp only [size_alloc, sz_drew, size_upd, List.size_toArray, List.length_cons, List.length_nil]) <;> omega) | decide) only [sh_Pt_Writer_list, Pr, PX, PC, NX, ends, fillL, wrL, sOf, Nat.reduceAdd, Nat.reduceMul, Nat.reduceLeDiff, Nat.reduceEqDiff, Int.reduceToNat, Int.reduceAdd, Int.reduceLT, Int.reduceLE, ↓reduceIte, forall_const, eq_self, zG1, zG2, fa_121_0, fa_179_0, fa_179_1, ix_100, ld_100, ld_107, ld_9, ln_100, ta_107_168, ta_107_174, tn_107_168, tn_107_174]
        refine (wByte h8 hx 93 (by omega) rfl).mono ?_
        rintro e w9 ⟨⟨v9, rfl⟩, h9, hf9⟩
        exact ⟨hf8.trans hf9, rfl, _, h9⟩
theorem cw : ∀ f, CW f := by
  intro f
  induction f using Nat.strongRecOn with
  | _ f ih =>
    cases f with
    | zero =>
      exact ⟨fun _ _ _ _ _ _ h => by simp [P.wTm] at h, fun _ _ _ _ _ _ h => by simp [P.wComp] at h, fun _ _ _ _ _ _ h => by simp [P.wList] at h⟩
    | succ f =>
      have ih' : ∀ g, g ≤ f → CW g := fun g hg => ih g (by omega)
      exact ⟨fun a b c d e g h => cwTm (ih' f (Nat.le_refl _)) a b c d e g h, fun a b c d e g h => cwComp ih' a b c d e g h, fun a b c d e g h => cwList ih' a b c d e g h⟩
end Go.Proofs.YtkmpelgfhjgddaaGreatDoor
