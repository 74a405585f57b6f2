/- A part of one proof (PureW2, RD5, PureE); no conditions beyond what each theorem names. -/
import Derived.Test.YtkmpelgfhjgddaaGreatDoorPkRAV
set_option linter.all false
set_option linter.unusedVariables false
set_option linter.unusedSimpArgs false
namespace Go.Proofs.YtkmpelgfhjgddaaGreatDoor.P
mutual
def TmOk : Tm → Prop
  | .atom s => s.length ≤ 20 ∧ s ≠ []
  | .int n => -9223372036854775808 ≤ n ∧ n ≤ 9223372036854775807
  | .var _ => True
  | .comp name args => name.length ≤ 20 ∧ args.length ≤ 100000 ∧ TmsOk args
  termination_by structural t => t
def TmsOk : List Tm → Prop
  | [] => True
  | t :: ts => TmOk t ∧ TmsOk ts
  termination_by structural t => t
end
def TrOk : Tr → Prop
  | [] => True
  | (_, t) :: r => TmOk t ∧ TrOk r
theorem look_ok : ∀ {tr : Tr} {i : Nat} {t : Tm}, TrOk tr → look i tr = some t → TmOk t
  | [], _, _, _, h => by cases h
  | (j, u) :: r, i, t, h, hl => by
    unfold look at hl
    split at hl
    · injection hl with hl; subst hl; exact h.1
    · exact look_ok h.2 hl
theorem walkN_ok {tr : Tr} (h : TrOk tr) : ∀ {f : Nat} {t t' : Tm}, TmOk t → walkN tr f t = some t' → TmOk t'
  | f, .atom s, t', ht, hw => by cases f <;> simp [walkN] at hw <;> subst hw <;> exact ht
  | f, .int s, t', ht, hw => by cases f <;> simp [walkN] at hw <;> subst hw <;> exact ht
  | f, .comp s l, t', ht, hw => by cases f <;> simp [walkN] at hw <;> subst hw <;> exact ht
  | 0, .var i, t', ht, hw => by
    simp only [walkN] at hw
    split at hw
    · injection hw with hw; subst hw; exact ht
    · cases hw
  | f + 1, .var i, t', ht, hw => by
    simp only [walkN] at hw
    split at hw
    · injection hw with hw; subst hw; exact ht
    · rename_i t hl
      exact walkN_ok h (look_ok h hl) hw
theorem decN_lenB (n : Nat) : ∀ k, n < 10 ^ (k + 1) → ∀ f, n < f → (digs f n).length ≤ k + 1 := by
  intro k
  induction k generalizing n with
  | zero =>
    intro h f hf
    cases f with
    | zero => omega
    | succ f => rw [digs, if_pos (by omega)]; simp
  | succ k ih =>
    intro h f hf
    cases f with
    | zero => omega
    | succ f =>
      rw [digs]
      split
      · simp
      · rw [List.length_append]
        have : n / 10 < 10 ^ (k + 1) := by rw [Nat.pow_succ] at h; omega
        have := ih (n / 10) this f (by omega)
        simp only [List.length_cons, List.length_nil]
        omega
theorem decN_len {n : Nat} (h : n < 10000000000000000000) : (decN n).length ≤ 19 := decN_lenB n 18 (by simpa using h) _ (by omega)
theorem decI_len' {n : Int} (h0 : -9223372036854775808 ≤ n) (h1 : n ≤ 9223372036854775807) : (decI n).length ≤ 20 := by
  have : (decN n.natAbs).length ≤ 19 := decN_len (by omega)
  unfold decI
  split
  · simp; omega
  · omega
def Ws.phi (s : Ws) : Nat := s.out.length + 60 * s.fuel
structure Ws.Ok (s : Ws) : Prop where
  big : s.phi ≤ 900000000
  seen : s.seen.length ≤ s.out.length
theorem Ws.phi_add (s : Ws) (x : Bs) : (s.add x).phi = s.phi + x.length := by simp [Ws.phi, Ws.add]; omega
theorem Wb_some {x : Option (Option Ws)} {k : Ws → Option (Option Ws)} {r : Ws} (h : Wb x k = some (some r)) : ∃ s, x = some (some s) ∧ k s = some (some r) := by
  unfold Wb at h
  split at h
  · cases h
  · cases h
  · exact ⟨_, rfl, h⟩
structure LenW (tr : Tr) (f : Nat) : Prop where
  tm : ∀ t least s r, TmOk t → s.phi ≤ 900000100 → s.seen.length ≤ s.out.length → wTm tr f t least s = some (some r) → r.phi + 30 ≤ s.phi ∧ r.seen.length ≤ r.out.length
  comp : ∀ name args least s r, TmOk (.comp name args) → s.phi ≤ 900000100 - 60 → s.seen.length ≤ s.out.length → wComp tr f name args least s = some (some r) → r.phi ≤ s.phi + 21 ∧ r.seen.length ≤ r.out.length
  args : ∀ c l s r, TmsOk l → s.phi ≤ 900000100 - 30 → s.seen.length ≤ s.out.length → wArgs tr f c l s = some (some r) → r.phi ≤ s.phi ∧ r.seen.length ≤ r.out.length
  list : ∀ c a b s r, TmOk a → TmOk b → s.phi ≤ 900000100 - 30 → s.seen.length ≤ s.out.length → wList tr f c a b s = some (some r) → r.phi ≤ s.phi ∧ r.seen.length ≤ r.out.length
theorem tmsOk2 {a b : Tm} (h : TmsOk [a, b]) : TmOk a ∧ TmOk b := by
  unfold TmsOk TmsOk at h; exact ⟨h.1, h.2.1⟩
theorem add_seen {s : Ws} {x : Bs} (h : s.seen.length ≤ s.out.length) : (s.add x).seen.length ≤ (s.add x).out.length := by simp [Ws.add]; omega
theorem lenW {tr : Tr} (ht : TrOk tr) : ∀ f, LenW tr f
  | 0 => ⟨fun _ _ _ _ _ _ _ h => by simp [wTm] at h, fun _ _ _ _ _ _ _ _ h => by simp [wComp] at h, fun _ _ _ _ _ _ _ h => by simp [wArgs] at h, fun _ _ _ _ _ _ _ _ _ h => by simp [wList] at h⟩
  | f + 1 => by
    have ih := lenW ht f
    refine ⟨?_, ?_, ?_, ?_⟩
    · intro t least s r hok hb hs h
      rw [wTm] at h
      split at h
      · simp at h
      rename_i hf
      have hp : ({ s with fuel := s.fuel - 1 } : Ws).phi + 60 = s.phi := by simp [Ws.phi]; omega
      split at h
      · cases h
      · rename_i a hw
        have := walkN_ok ht hok hw
        simp only [Option.some.injEq] at h
        subst h
        unfold TmOk at this
        refine ⟨?_, add_seen hs⟩
        rw [Ws.phi_add]; omega
      · rename_i a hw
        have := walkN_ok ht hok hw
        simp only [Option.some.injEq] at h
        subst h
        unfold TmOk at this
        have := decI_len' this.1 this.2
        refine ⟨?_, add_seen hs⟩
        rw [Ws.phi_add]; omega
      · rename_i i hw
        simp only [Option.some.injEq] at h
        subst h
        have hlen : s.out.length ≤ 900000100 := by unfold Ws.phi at hb; omega
        unfold varText
        split
        · rename_i k hk
          have hk2 : k < s.seen.length := by
            have := List.idxOf?_eq_some_iff.1 hk
            obtain ⟨h1, _⟩ := this
            exact h1
          have := decN_len (n := k + 1) (by omega)
          refine ⟨?_, add_seen hs⟩
          rw [Ws.phi_add]
          simp only [List.length_cons]
          omega
        · have h3 : (decN (s.seen.length + 1)).length ≤ 19 := decN_len (by omega)
          constructor
          · simp only [Ws.phi] at hp ⊢
            simp only [List.length_append, List.length_cons]
            omega
          · simp only [List.length_append, List.length_cons, List.length_nil]
            omega
      · rename_i name args hw
        have h1 := walkN_ok ht hok hw
        obtain ⟨h2, h3⟩ := ih.comp name args least { s with fuel := s.fuel - 1 } r h1 (by omega) hs h
        exact ⟨by omega, h3⟩
    · intro name args least s r hok hb hs h
      rw [wComp.eq_def] at h
      dsimp only at h
      unfold TmOk at hok
      obtain ⟨hn, hl, ha⟩ := hok
      have hd : ∀ l, TmsOk l → Wb (wArgs tr f 40 l (s.add name)) (fun s => some (some (s.add [41]))) = some (some r) → r.phi ≤ s.phi + 21 ∧ r.seen.length ≤ r.out.length := by
        intro l hl h
        obtain ⟨s1, h1, h2⟩ := Wb_some h
        obtain ⟨h3, h4⟩ := ih.args 40 l _ s1 hl (by rw [Ws.phi_add]; omega) (add_seen hs) h1
        simp only [Option.some.injEq] at h2
        subst h2
        rw [Ws.phi_add] at h3 ⊢
        exact ⟨by simp; omega, add_seen h4⟩
      split at h
      · rename_i a b
        obtain ⟨ha1, ha2⟩ := tmsOk2 ha
        have ho : (if name = [109, 111, 100] then ([32, 109, 111, 100, 32] : Bs) else name).length ≤ 20 := by split <;> simp_all
        split at h
        · split at h
          · obtain ⟨s1, h1, h2⟩ := Wb_some h
            obtain ⟨s2, h3, h4⟩ := Wb_some h2
            obtain ⟨g1, g2⟩ := ih.tm a _ _ s1 ha1 (by rw [Ws.phi_add]; simp; omega) (add_seen hs) h1
            rw [Ws.phi_add] at g1
            simp only [List.length_cons, List.length_nil] at g1
            obtain ⟨g3, g4⟩ := ih.tm b _ _ s2 ha2 (by rw [Ws.phi_add]; omega) (add_seen g2) h3
            rw [Ws.phi_add] at g3
            simp only [Option.some.injEq] at h4
            subst h4
            rw [Ws.phi_add]
            exact ⟨by simp; omega, add_seen g4⟩
          · obtain ⟨s1, h1, h2⟩ := Wb_some h
            obtain ⟨g1, g2⟩ := ih.tm a _ _ s1 ha1 (by omega) hs h1
            obtain ⟨g3, g4⟩ := ih.tm b _ _ r ha2 (by rw [Ws.phi_add]; omega) (add_seen g2) h2
            rw [Ws.phi_add] at g3
            exact ⟨by omega, g4⟩
        · split at h
          · obtain ⟨g1, g2⟩ := ih.list 91 a b s r ha1 ha2 (by omega) hs h
            exact ⟨by omega, g2⟩
          · exact hd _ ha h
      · exact hd _ ha h
    · intro c l s r hok hb hs h
      cases l with
      | nil =>
        simp only [wArgs, Option.some.injEq] at h
        subst h
        exact ⟨Nat.le_refl _, hs⟩
      | cons a l =>
        rw [wArgs] at h
        unfold TmsOk at hok
        obtain ⟨s1, h1, h2⟩ := Wb_some h
        obtain ⟨g1, g2⟩ := ih.tm a _ _ s1 hok.1 (by rw [Ws.phi_add]; simp; omega) (add_seen hs) h1
        rw [Ws.phi_add] at g1
        simp only [List.length_cons, List.length_nil] at g1
        obtain ⟨g3, g4⟩ := ih.args 44 l s1 r hok.2 (by omega) g2 h2
        exact ⟨by omega, g4⟩
    · intro c a b s r ha hb' hb hs h
      rw [wList] at h
      obtain ⟨s1, h1, h2⟩ := Wb_some h
      obtain ⟨g1, g2⟩ := ih.tm a _ _ s1 ha (by rw [Ws.phi_add]; simp; omega) (add_seen hs) h1
      rw [Ws.phi_add] at g1
      simp only [List.length_cons, List.length_nil] at g1
      have hbar : Wb (wTm tr f b 0 (s1.add [124])) (fun s => some (some (s.add [93]))) = some (some r) → r.phi ≤ s.phi ∧ r.seen.length ≤ r.out.length := by
        intro h
        obtain ⟨s2, h3, h4⟩ := Wb_some h
        obtain ⟨g3, g4⟩ := ih.tm b _ _ s2 hb' (by rw [Ws.phi_add]; simp; omega) (add_seen g2) h3
        rw [Ws.phi_add] at g3
        simp only [List.length_cons, List.length_nil] at g3
        simp only [Option.some.injEq] at h4
        subst h4
        rw [Ws.phi_add]
        exact ⟨by simp; omega, add_seen g4⟩
      split at h2
      · cases h2
      · rename_i name args hw
        have h5 := walkN_ok ht hb' hw
        unfold TmOk at h5
        split at h2
        · rename_i c d
          obtain ⟨k1, k2⟩ := tmsOk2 h5.2.2
          split at h2
          · obtain ⟨g3, g4⟩ := ih.list 44 c d s1 r k1 k2 (by omega) g2 h2
            exact ⟨by omega, g4⟩
          · exact hbar h2
        · exact hbar h2
      · split at h2
        · simp only [Option.some.injEq] at h2
          subst h2
          rw [Ws.phi_add]
          exact ⟨by simp; omega, add_seen g2⟩
        · exact hbar h2
      · exact hbar h2
end Go.Proofs.YtkmpelgfhjgddaaGreatDoor.P
namespace Go.Proofs.YtkmpelgfhjgddaaGreatDoor
open Go.RowKit Sx
set_option maxRecDepth 100000
theorem P.fresh_snoc : ∀ (n : Nat) (H : P.Hp), (H.fresh (n + 1)).1 = (H.fresh n).1.add ⟨118, [], 0, []⟩ ∧ (H.fresh (n + 1)).2 = (H.fresh n).2 ++ [(H.fresh n).1.nodes.length]
  | 0, H => by simp [P.Hp.fresh]
  | n + 1, H => by
    obtain ⟨h1, h2⟩ := P.fresh_snoc n (H.add ⟨118, [], 0, []⟩)
    rw [P.Hp.fresh]
    simp only [h1, h2]
    rw [P.Hp.fresh]
    simp
theorem P.fresh_len : ∀ (n : Nat) (H : P.Hp), (H.fresh n).1.nodes.length = H.nodes.length + n ∧ (H.fresh n).2.length = n
  | 0, H => by simp [P.Hp.fresh]
  | n + 1, H => by
    obtain ⟨h1, h2⟩ := P.fresh_len n (H.add ⟨118, [], 0, []⟩)
    rw [P.Hp.fresh]
    have e : (H.add ⟨118, [], 0, []⟩).nodes.length = H.nodes.length + 1 := by simp [P.Hp.add]
    exact ⟨by show ((H.add ⟨118, [], 0, []⟩).fresh n).1.nodes.length = _; omega, by show (_ :: ((H.add ⟨118, [], 0, []⟩).fresh n).2).length = _; rw [List.length_cons, h2]⟩
theorem wr_appI {A : Nat → Prop} {w : World} {hb : Nat} {H : P.Hp} {base n : Nat} {v : Value} {xs : List Value} (h : RHp (fun b => A b ∧ some b ≠ v.ownBlock) w hb H) (hown : w.ownsRow base 3 1 v n xs) (hno : ∀ k, v.ownBlock = some k → ¬ OwnOf w hb k) {b m : Nat} {a : Value}
    (hb2 : b = w.heap.size) (h1 : a.oneCell' = true) (hn : n ≤ 900000000) (hbase : base ≤ w.heap.size) {K : Value → World → Prop} {X : Value → World → Prop}
    (hk : ∀ v' w', w'.ownsRow base 3 1 v' (n + 1) (xs ++ [a]) → RHp (fun b => A b ∧ some b ≠ v'.ownBlock) w' hb H → (∀ k, v'.ownBlock = some k → ¬ OwnOf w' hb k) →
      (∀ w0, HFr hb w0 w → w0.heap.size ≤ base → HFr hb w0 w') → KeepT (fun _ => True) w w' → K v' w') :
    WR Tryz.prog (Builtin.append_ #[73, 73] 73 #[v, .slice (some ⟨b, 0, none⟩) 1 m]) (w.alloc (.cells #[a] 3 (0, 0))) K X := by
  have hE : Ext w (w.alloc (.cells #[a] 3 (0, 0))) := (FrM.refl _ _).alloc _
  have hl := h.lt
  refine wr_app1 (by kernel_rfl) Tryz.infoInt rfl (by decide) (hown.alloc _) (hp_alloc_new hb2) h1 hn (by rw [size_alloc]; omega) ?_
  intro v' w' ho hg hv
  have s1 := hg.size
  rw [size_alloc] at s1
  have hfA : HFr hb w (w.alloc (.cells #[a] 3 (0, 0))) := HFr.ofExt hE hl
  have lA : hb < (w.alloc (.cells #[a] 3 (0, 0))).heap.size := by rw [size_alloc]; omega
  have hnoA : ∀ k, v.ownBlock = some k → ¬ OwnOf (w.alloc (.cells #[a] 3 (0, 0))) hb k := fun k hk ho => by
    rcases hfA.own k ho with h | h
    · exact hno k hk h
    · have := (hown.lt k hk).2; omega
  have hR : RHp (fun b => A b ∧ some b ≠ v.ownBlock) w' hb H := (h.ext hE).grow hg fun k hk => ⟨hnoA k hk, fun h => h.2 hk.symm⟩
  have hnew : ∀ k, v'.ownBlock = some k → v.ownBlock = some k ∨ w.heap.size < k := fun k hk => by
    rcases hv with hv | hv
    · rw [hv] at hk; exact .inl hk
    · have := hv k hk
      rw [size_alloc] at this
      exact .inr (by omega)
  have hown2 := own_grown hg hnoA lA
  refine hk v' w' ho ?_ ?_ ?_ ?_
  · have hR2 := (h.ext hE).mono (B := fun b => (A b ∧ some b ≠ v.ownBlock) ∧ b < (w.alloc (.cells #[a] 3 (0, 0))).heap.size) fun b hb h => ⟨h, hb⟩
    refine (hR2.grow hg fun k hk => ⟨hnoA k hk, fun h => h.1.2 hk.symm⟩).mono fun b _ hbb => ⟨hbb.1.1, fun e => ?_⟩
    rcases hv with hv | hv
    · exact hbb.1.2 (by rw [e, hv])
    · have := hv b e.symm
      have := hbb.2
      omega
  · intro k hk ho2
    have h3 := hown2 k ho2
    rcases hfA.own k h3 with h4 | h4
    · rcases hnew k hk with h5 | h5
      · exact hno k h5 h4
      · rcases h4 with rfl | ⟨cs, T, g1, u, g2, g3⟩
        · omega
        · obtain ⟨kv, nv, iv, av, tv, rv, ars, hx⟩ := h
          rw [hx.q.cell] at g1
          injection g1 with g1
          injection g1 with g1 _ _
          subst g1
          simp only [List.mem_append, List.mem_map] at g2
          rcases g2 with ⟨r, hr, rfl⟩ | g2
          · have := ((hx.q.own r hr).lt k g3).2
            omega
          · rw [hx.q.tl u g2] at g3; cases g3
    · rcases hnew k hk with h5 | h5
      · have := (hown.lt k h5).2; omega
      · rcases h3 with rfl | ⟨cs, T, g1, u, g2, g3⟩
        · omega
        · obtain ⟨kv, nv, iv, av, tv, rv, ars, hx⟩ := h
          rw [(hx.q.ext hE).cell] at g1
          injection g1 with g1
          injection g1 with g1 _ _
          subst g1
          simp only [List.mem_append, List.mem_map] at g2
          rcases g2 with ⟨r, hr, rfl⟩ | g2
          · have := ((hx.q.own r hr).lt k g3).2
            omega
          · rw [hx.q.tl u g2] at g3; cases g3
  · intro w0 hf0 hs0
    refine (hf0.trans hfA).grow hg (fun k hk => ⟨by have := (hown.lt k hk).1; omega, hnoA k hk⟩) lA
  · intro c cs t _ ht hc
    have h2 := hE.ext _ _ hc
    rw [hg.block c (ltOf h2) (fun e => ?_)]
    · exact h2
    · rcases hown.2 with ⟨rfl, -⟩ | ⟨g, cap, cur, rfl, g1, g2, -⟩
      · cases e
      · simp only [Value.ownBlock, Option.some.injEq] at e
        subst e
        rw [hc] at g2
        injection g2 with g2
        injection g2 with _ g2 _
        rcases ht with ht | ht <;> · rw [ht] at g2; cases g2
theorem rFresh {A : Nat → Prop} {w : World} {hb : Nat} {H : P.Hp} (h : RHp A w hb H) (n : Nat) (hl : H.nodes.length + n ≤ 100000000) (hA : ∀ b, w.heap.size ≤ b → A b) :
    Calls Tryz.prog 25 #[.pointer (some ⟨hb, 0, none⟩), .int .i64 (n : Nat)] w fun e w' => ∃ v, e = .returned v ∧ RHp (fun b => A b ∧ some b ≠ v.ownBlock) w' hb (H.fresh n).1 ∧ HFr hb w w' ∧ KeepT (fun _ => True) w w' ∧
      w'.ownsRow w.heap.size 3 1 v n ((H.fresh n).2.map fun n => .int .i64 (n : Nat)) ∧ (∀ k, v.ownBlock = some k → ¬ OwnOf w' hb k) := by
  refine sh_Pr_Heap_fresh_ok ?_
  refine ⟨fun m x w' => ∃ j v, x 6 = .int .i64 (j : Nat) ∧ x 5 = v ∧ j ≤ n ∧ m = n - j ∧ RHp (fun b => A b ∧ some b ≠ v.ownBlock) w' hb (H.fresh j).1 ∧ HFr hb w w' ∧ KeepT (fun _ => True) w w' ∧
      w'.ownsRow w.heap.size 3 1 v j ((H.fresh j).2.map fun n => .int .i64 (n : Nat)) ∧ (∀ k, v.ownBlock = some k → ¬ OwnOf w' hb k),
    ⟨_, 0, .slice none 0 0, rfl, rfl, Nat.zero_le _, rfl, h.mono (fun b _ h => ⟨h, by simp [Value.ownBlock]⟩), HFr.refl _ _, fun _ _ _ _ _ h => h, World.ownsRow_nil _ _ _ _, fun k hk => by cases hk⟩, ?_⟩
  intro m x d w1 hI
  refine toPr ?_
  obtain ⟨j, v, h6, rfl, hj, rfl, h1, hf1, hk1, ho1, hn1⟩ := hI
  obtain ⟨l1, l2⟩ := P.fresh_len j H
  obtain ⟨e1, e2⟩ := P.fresh_snoc j H
  have s1 := hf1.fr.size
  by_cases hlt : j < n
  · simp (disch := first | assumption | omega | ((simp only [size_alloc, sz_drew, size_upd, List.size_toArray, List.length_cons, List.length_nil]) <;> omega) | decide) only [sh_Pr_Heap_fresh, Pr, PX, PC, NX, ends, fillL, wrL, sOf, Nat.reduceAdd, Nat.reduceMul, Nat.reduceLeDiff, Nat.reduceEqDiff, Int.reduceToNat, Int.reduceAdd, Int.reduceLT, Int.reduceLE, ↓reduceIte, forall_const, eq_self, zG1, zG2, br_73_1, h6]
    refine Calls.mono (rAdd (l := []) (G := fun _ => False) h1 (by omega) 118 [] 0 (fun _ h => h.elim) (.inl ⟨rfl, rfl⟩)) ?_
    rintro e w2 ⟨rfl, h2, hf2⟩
    have s2 := hf2.fr.size
    have ho2 : w2.ownsRow w.heap.size 3 1 (x 5) j ((H.fresh j).2.map fun n => .int .i64 (n : Nat)) := by
      obtain ⟨g0, g1⟩ := ho1
      refine ⟨g0, ?_⟩
      rcases g1 with g1 | ⟨g, cap, cur, q1, q2, q3, q4⟩
      · exact .inl g1
      · exact .inr ⟨g, cap, cur, q1, q2, hf2.fr.block _ _ q3 (hn1 g (by rw [q1]; rfl)), q4⟩
    have hn2 : ∀ k, (x 5).ownBlock = some k → ¬ OwnOf w2 hb k := fun k hk ho => by
      rcases hf2.own k ho with h | h
      · exact hn1 k hk h
      · have := (ho1.lt k hk).2; omega
    have hk2 : KeepT (fun _ => True) w1 w2 := fun b cs t _ ht hb => by
      refine hf2.fr.block b _ hb fun ho => ?_
      obtain ⟨kv, nv, iv, av, tv, rv, ars, hx⟩ := h1
      rcases ho with rfl | ⟨cs', T, g1, u, g2, g3⟩
      · rw [hx.q.cell] at hb
        injection hb with hb
        injection hb with _ hb _
        subst hb
        rcases ht with ht | ht <;> cases ht
      · rw [hx.q.cell] at g1
        injection g1 with g1
        injection g1 with g1 _ _
        subst g1
        simp only [List.mem_append, List.mem_map] at g2
        rcases g2 with ⟨r, hr, rfl⟩ | g2
        · have ho := hx.q.own r hr
          rcases ho.2 with ⟨h0, -⟩ | ⟨g, cap, cur, q1, q2, q3, -⟩
          · rw [h0] at g3; cases g3
          · rw [q1] at g3
            simp only [Value.ownBlock, Option.some.injEq] at g3
            subst g3
            rw [q3] at hb
            injection hb with hb
            injection hb with _ hb _
            simp only [List.mem_cons, List.not_mem_nil, or_false] at hr
            rcases hr with rfl | rfl | rfl | rfl | rfl | rfl <;> rcases ht with rfl | rfl <;> cases hb
        · rw [hx.q.tl u g2] at g3; cases g3
    simp (disch := first | assumption | omega | ((simp only [size_alloc, sz_drew, size_upd, List.size_toArray, List.length_cons, List.length_nil]) <;> omega) | decide) only [sh_Pr_Heap_fresh, Pr, PX, PC, NX, ends, fillL, wrL, sOf, Nat.reduceAdd, Nat.reduceMul, Nat.reduceLeDiff, Nat.reduceEqDiff, Int.reduceToNat, Int.reduceAdd, Int.reduceLT, Int.reduceLE, ↓reduceIte, forall_const, eq_self, zG1, zG2, br_73_1, h6]
    rw [← e1] at h2
    refine wr_appI (A := A) h2 ho2 hn2 rfl rfl (by omega) (by omega) ?_
    intro v' w3 ho3 h3 hn3 hf3 hk3
    obtain ⟨ra, rc, rfl⟩ := own_slice ho3
    simp (disch := first | assumption | omega | ((simp only [size_alloc, sz_drew, size_upd, List.size_toArray, List.length_cons, List.length_nil]) <;> omega) | decide) only [sh_Pr_Heap_fresh, Pr, PX, PC, NX, ends, fillL, wrL, sOf, Nat.reduceAdd, Nat.reduceMul, Nat.reduceLeDiff, Nat.reduceEqDiff, Int.reduceToNat, Int.reduceAdd, Int.reduceLT, Int.reduceLE, ↓reduceIte, forall_const, eq_self, zG1, zG2, br_73_1, h6]
    refine ⟨_, by omega, j + 1, _, by simp [sOf], by simp [sOf], by omega, rfl, h3, hf3 w (hf1.trans hf2) (Nat.le_refl _), fun b cs t hF ht hb => hk3 b cs t hF ht (hk2 b cs t hF ht (hk1 b cs t hF ht hb)), ?_, hn3⟩
    rw [e2, List.map_append]
    exact ho3
  · have hjn : j = n := by omega
    subst hjn
    simp (disch := first | assumption | omega | ((simp only [size_alloc, sz_drew, size_upd, List.size_toArray, List.length_cons, List.length_nil]) <;> omega) | decide) only [sh_Pr_Heap_fresh, Pr, PX, PC, NX, ends, fillL, wrL, sOf, Nat.reduceAdd, Nat.reduceMul, Nat.reduceLeDiff, Nat.reduceEqDiff, Int.reduceToNat, Int.reduceAdd, Int.reduceLT, Int.reduceLE, ↓reduceIte, forall_const, eq_self, zG1, zG2, br_73_1, h6]
    exact ⟨_, rfl, h1, hf1, hk1, ho1, hn1⟩
theorem P.decN_step {n : Nat} (h : ¬ n < 10) : P.decN n = P.decN (n / 10) ++ [UInt8.ofNat (48 + n % 10)] := by
  rw [decN_eq, decN_eq]
  rw [Lib.decDigits]
  rw [dif_neg h]
theorem P.decN_one {n : Nat} (h : n < 10) : P.decN n = [UInt8.ofNat (48 + n)] := by
  rw [decN_eq, Lib.decDigits, dif_pos h]
theorem digit_at (d : Nat) (h : d < 10) : List.drop d (List.take (d + 1) ([48, 49, 50, 51, 52, 53, 54, 55, 56, 57] : P.Bs)) = [UInt8.ofNat (48 + d)] := by
  have : ∀ d : Fin 10, List.drop d.val (List.take (d.val + 1) ([48, 49, 50, 51, 52, 53, 54, 55, 56, 57] : P.Bs)) = [UInt8.ofNat (48 + d.val)] := by decide
  exact this ⟨d, h⟩
theorem rDecimalN (w : World) : ∀ (n : Nat), n ≤ 9223372036854775807 → Calls Tryz.prog 45 #[.int .i64 (n : Nat)] w fun e w' => e = .returned (.string (bs (P.decN n))) ∧ w' = w := by
  intro n
  induction n using Nat.strongRecOn with
  | _ n ih =>
    intro hn
    refine sh_r_decimal_ok ?_
    have hm : ((n : Nat) : Int).tmod 10 = ((n % 10 : Nat) : Int) := by rw [Int.tmod_eq_emod_of_nonneg (by omega)]; omega
    have hq : ((n : Nat) : Int).tdiv 10 = ((n / 10 : Nat) : Int) := by rw [Int.tdiv_eq_ediv_of_nonneg (by omega)]; omega
    have e1 : ((n % 10 : Nat) : Int).toNat = n % 10 := by omega
    have e2 : (((n % 10 : Nat) : Int) + 1).toNat = n % 10 + 1 := by omega
    have hlt : n % 10 < 10 := Nat.mod_lt _ (by omega)
    have hd := digit_at (n % 10) hlt
    simp only [List.take_succ_cons] at hd
    by_cases h10 : n < 10
    · have h10' : ((n : Nat) : Int) < 10 := by omega
      simp (disch := first | assumption | omega | ((simp only [size_alloc, sz_drew, size_upd, List.size_toArray, List.length_cons, List.length_nil]) <;> omega) | decide) only [sh_r_decimal, Pr, PX, PC, NX, ends, fillL, wrL, sOf, Nat.reduceAdd, Nat.reduceMul, Nat.reduceLeDiff, Nat.reduceEqDiff, Int.reduceToNat, Int.reduceAdd, Int.reduceLT, Int.reduceLE, ↓reduceIte, forall_const, eq_self, zG1, zG2, slh_9, bo_rem, bo_quo, hm, hq, e1, e2, hd]
      rw [P.decN_one h10, Nat.mod_eq_of_lt h10]
    · have h10' : ¬ ((n : Nat) : Int) < 10 := by omega
      simp (disch := first | assumption | omega | ((simp only [size_alloc, sz_drew, size_upd, List.size_toArray, List.length_cons, List.length_nil]) <;> omega) | decide) only [sh_r_decimal, Pr, PX, PC, NX, ends, fillL, wrL, sOf, Nat.reduceAdd, Nat.reduceMul, Nat.reduceLeDiff, Nat.reduceEqDiff, Int.reduceToNat, Int.reduceAdd, Int.reduceLT, Int.reduceLE, ↓reduceIte, forall_const, eq_self, zG1, zG2, slh_9, bo_rem, bo_quo, hm, hq, e1, e2, hd]
      refine (ih (n / 10) (by omega) (by omega)).mono ?_
      rintro e w' ⟨rfl, rfl⟩
      simp (disch := first | assumption | omega | ((simp only [size_alloc, sz_drew, size_upd, List.size_toArray, List.length_cons, List.length_nil]) <;> omega) | decide) only [sh_r_decimal, Pr, PX, PC, NX, ends, fillL, wrL, sOf, Nat.reduceAdd, Nat.reduceMul, Nat.reduceLeDiff, Nat.reduceEqDiff, Int.reduceToNat, Int.reduceAdd, Int.reduceLT, Int.reduceLE, ↓reduceIte, forall_const, eq_self, zG1, zG2, slh_9]
      have hl : (P.decN (n / 10)).length ≤ 19 := P.decN_len (by omega)
      rw [bo_ads _ _ (by simp; omega), P.decN_step h10, e2, digit_at (n % 10) hlt]
      exact ⟨rfl, rfl⟩
theorem rDecimal (n : Int) (h0 : -9223372036854775808 ≤ n) (h1 : n ≤ 9223372036854775807) (w : World) : Calls Tryz.prog 45 #[.int .i64 n] w fun e w' => e = .returned (.string (bs (P.decI n))) ∧ w' = w := by
  by_cases hneg : n < 0
  · by_cases hmin : n = -9223372036854775808
    · subst hmin
      refine sh_r_decimal_ok ?_
      have hw : IntKind.i64.wrap (0 - -9223372036854775808) = -9223372036854775808 := by decide
      simp (disch := first | assumption | omega | ((simp only [size_alloc, sz_drew, size_upd, List.size_toArray, List.length_cons, List.length_nil]) <;> omega) | decide) only [sh_r_decimal, Pr, PX, PC, NX, ends, fillL, wrL, sOf, Nat.reduceAdd, Nat.reduceMul, Nat.reduceLeDiff, Nat.reduceEqDiff, Int.reduceToNat, Int.reduceAdd, Int.reduceLT, Int.reduceLE, ↓reduceIte, forall_const, eq_self, zG1, zG2, slh_9, hw]
      have : P.decI (-9223372036854775808) = [45, 57, 50, 50, 51, 51, 55, 50, 48, 51, 54, 56, 53, 52, 55, 55, 53, 56, 48, 56] := by
        unfold P.decI
        rw [if_pos (by decide)]
        congr 1
      rw [this]
    · refine sh_r_decimal_ok ?_
      have hw : IntKind.i64.wrap (0 - n) = ((n.natAbs : Nat) : Int) := by rw [i64w (by omega) (by omega)]; omega
      have hne : ¬ n = ((n.natAbs : Nat) : Int) := by omega
      simp (disch := first | assumption | omega | ((simp only [size_alloc, sz_drew, size_upd, List.size_toArray, List.length_cons, List.length_nil]) <;> omega) | decide) only [sh_r_decimal, Pr, PX, PC, NX, ends, fillL, wrL, sOf, Nat.reduceAdd, Nat.reduceMul, Nat.reduceLeDiff, Nat.reduceEqDiff, Int.reduceToNat, Int.reduceAdd, Int.reduceLT, Int.reduceLE, ↓reduceIte, forall_const, eq_self, zG1, zG2, slh_9, hw]
      refine (rDecimalN w n.natAbs (by omega)).mono ?_
      rintro e w' ⟨rfl, rfl⟩
      simp (disch := first | assumption | omega | ((simp only [size_alloc, sz_drew, size_upd, List.size_toArray, List.length_cons, List.length_nil]) <;> omega) | decide) only [sh_r_decimal, Pr, PX, PC, NX, ends, fillL, wrL, sOf, Nat.reduceAdd, Nat.reduceMul, Nat.reduceLeDiff, Nat.reduceEqDiff, Int.reduceToNat, Int.reduceAdd, Int.reduceLT, Int.reduceLE, ↓reduceIte, forall_const, eq_self, zG1, zG2, slh_9]
      have hl : (P.decN n.natAbs).length ≤ 19 := P.decN_len (by omega)
      rw [bo_ads _ _ (by simp; omega)]
      unfold P.decI
      rw [if_pos hneg]
      exact ⟨rfl, rfl⟩
  · have e : n = ((n.natAbs : Nat) : Int) := by omega
    have := rDecimalN w n.natAbs (by omega)
    rw [← e] at this
    refine this.mono ?_
    rintro e w' ⟨rfl, rfl⟩
    unfold P.decI
    rw [if_neg hneg]
    exact ⟨rfl, rfl⟩
end Go.Proofs.YtkmpelgfhjgddaaGreatDoor
namespace Go.Proofs.YtkmpelgfhjgddaaGreatDoor.P
theorem wordKind_len {w : Bs} (h : wordKind w ≠ 0) : w.length ≤ 9 := by
  unfold wordKind at h
  split at h
  · simp
  · split at h
    · split at h
      · omega
      · exact absurd rfl h
    · split at h
      · split at h
        · omega
        · exact absurd rfl h
      · split at h
        · rename_i h2; exact h2.1
        · exact absurd rfl h
theorem signs_len {s : Bs} (hm : s ∈ signs) : s.length ≤ 9 := by
  simp only [signs, List.mem_cons, List.not_mem_nil, or_false] at hm
  rcases hm with rfl | rfl | rfl | rfl | rfl | rfl | rfl | rfl | rfl | rfl | rfl | rfl | rfl | rfl | rfl | rfl | rfl | rfl | rfl | rfl | rfl | rfl | rfl <;> decide
theorem lexGo_len : ∀ (f : Nat) (r : Bs) (i : Nat) (T : List Tok), lexGo f r i = some (.inr T) → ∀ u ∈ T, u.text.length ≤ 9
  | 0, r, i, T, h => by rw [lexGo] at h; cases h
  | f + 1, [], i, T, h => by
    rw [lexGo] at h
    simp only [Option.some.injEq, Sum.inr.injEq] at h
    subst h
    intro u hu
    simp only [List.mem_cons, List.not_mem_nil, or_false] at hu
    subst hu
    simp
  | f + 1, c :: r, i, T, h => by
    have key : ∀ (x : Option (Sum Nat (List Tok))) (t : Tok), (∀ l, x = some (.inr l) → ∀ u ∈ l, u.text.length ≤ 9) → t.text.length ≤ 9 →
        (match x with | some (.inr l) => some (.inr (t :: l)) | y => y) = some (.inr T) → ∀ u ∈ T, u.text.length ≤ 9 := by
      intro x t hx ht h
      split at h
      · rename_i l
        simp only [Option.some.injEq, Sum.inr.injEq] at h
        rw [← h]
        intro u hu
        rcases List.mem_cons.1 hu with rfl | hu
        · exact ht
        · exact hx l rfl u hu
      · exact hx T h
    rw [lexGo] at h
    split at h
    · exact lexGo_len f r (i + 1) T h
    split at h
    · dsimp only at h
      split at h
      · cases h
      · rename_i hc hw
        exact key _ _ (fun l hl => lexGo_len f _ _ l hl) (wordKind_len hw) h
    split at h
    · exact key _ _ (fun l hl => lexGo_len f _ _ l hl) (by simp) h
    split at h
    · cases h
    · rename_i s hs
      exact key _ _ (fun l hl => lexGo_len f _ _ l hl) (signs_len (List.mem_of_find?_eq_some hs)) h
mutual
def exSz : Ex → Nat
  | .mk _ _ _ _ args => exSzs args + 1
  termination_by structural x => x
def exSzs : List Ex → Nat
  | [] => 0
  | x :: xs => exSz x + exSzs xs
  termination_by structural x => x
end
theorem exSzs_append : ∀ (a b : List Ex), exSzs (a ++ b) = exSzs a + exSzs b
  | [], b => by simp [exSzs]
  | x :: a, b => by simp [exSzs, exSzs_append a b]; omega
mutual
def ExOk (nv : Nat) : Ex → Prop
  | .mk kind name n k args => name.length ≤ 9 ∧ (-999999999 ≤ n ∧ n ≤ 999999999) ∧ (kind = 97 ∨ kind = 110 ∨ kind = 118 ∨ kind = 99) ∧ (kind = 118 → k < nv) ∧ (args.length ≤ 4 ∧ (kind = 99 → args ≠ [])) ∧ (kind = 97 → name ≠ []) ∧ (kind ≠ 99 → args = []) ∧ ExsOk nv args
  termination_by structural x => x
def ExsOk (nv : Nat) : List Ex → Prop
  | [] => True
  | x :: xs => ExOk nv x ∧ ExsOk nv xs
  termination_by structural x => x
end
mutual
theorem ExOk.mono {n m : Nat} (h : n ≤ m) : ∀ (x : Ex), ExOk n x → ExOk m x
  | .mk kind name k v args, hx => by
    unfold ExOk at hx ⊢
    obtain ⟨h1, h2, h3, h4, h5, h6, h7, h8⟩ := hx
    exact ⟨h1, h2, h3, fun e => Nat.lt_of_lt_of_le (h4 e) h, h5, h6, h7, ExsOk.mono h args h8⟩
  termination_by structural x => x
theorem ExsOk.mono {n m : Nat} (h : n ≤ m) : ∀ (l : List Ex), ExsOk n l → ExsOk m l
  | [], hx => by unfold ExsOk; trivial
  | x :: xs, hx => by
    unfold ExsOk at hx ⊢
    exact ⟨ExOk.mono h x hx.1, ExsOk.mono h xs hx.2⟩
  termination_by structural x => x
end
theorem ExsOk.append {n : Nat} : ∀ {a b : List Ex}, ExsOk n a → ExsOk n b → ExsOk n (a ++ b)
  | [], b, _, hb => hb
  | x :: a, b, ha, hb => by
    show ExsOk n (x :: (a ++ b))
    unfold ExsOk at ha ⊢
    exact ⟨ha.1, ExsOk.append ha.2 hb⟩
theorem ExsOk.snoc {n : Nat} {a : List Ex} {x : Ex} (ha : ExsOk n a) (hx : ExOk n x) : ExsOk n (a ++ [x]) := ha.append (by unfold ExsOk; exact ⟨hx, by unfold ExsOk; trivial⟩)
theorem ExsOk.nil {n : Nat} : ExsOk n [] := by unfold ExsOk; trivial
theorem ExsOk.at {n : Nat} : ∀ {l : List Ex} {j : Nat}, ExsOk n l → (hj : j < l.length) → ExOk n l[j]
  | x :: xs, 0, h, _ => by unfold ExsOk at h; exact h.1
  | x :: xs, j + 1, h, hj => by unfold ExsOk at h; exact ExsOk.at h.2 (by simpa using hj)
theorem ExOk.two {nv : Nat} {name : Bs} {a b : Ex} (hn : name.length ≤ 9) (ha : ExOk nv a) (hb : ExOk nv b) : ExOk nv (.mk 99 name 0 0 [a, b]) := by
  unfold ExOk
  refine ⟨hn, by omega, by simp, by simp, by simp, by simp, by simp, ?_⟩
  unfold ExsOk ExsOk
  exact ⟨ha, hb, ExsOk.nil⟩
theorem exSz_two {name : Bs} {a b : Ex} {k : Nat} : exSz (.mk k name 0 0 [a, b]) = exSz a + exSz b + 1 := by simp [exSz, exSzs]
theorem ops_len {l : Nat} {T : List Tok} {k : Nat} {o : Bs} (h : opAt T l k = some o) : o.length ≤ 9 := by
  have hm := List.mem_of_find?_eq_some h
  unfold ops at hm
  split at hm <;> simp only [List.mem_cons, List.not_mem_nil, or_false] at hm
  · rcases hm with rfl | rfl <;> decide
  · rcases hm with rfl | rfl | rfl <;> decide
structure TkOk (T : List Tok) : Prop where
  len : ∀ u ∈ T, u.text.length ≤ 9
  word : ∀ u ∈ T, u.kind = 1 → u.text ≠ []
  digits : ∀ u ∈ T, u.kind = 3 → u.text.all digit = true
theorem tk_in {T : List Tok} {k : Nat} (h : (tk T k).kind ≠ 0) : tk T k ∈ T := by
  have hk : k < T.length := by
    rcases Nat.lt_or_ge k T.length with h1 | h1
    · exact h1
    · exact absurd (by simp [tk, List.getD_eq_getElem?_getD, List.getElem?_eq_none h1]) h
  have : tk T k = T[k] := by simp [tk, List.getD_eq_getElem?_getD, List.getElem?_eq_getElem hk]
  rw [this]; exact List.getElem_mem hk
theorem pVar_E {t : Tok} {k k' : Nat} {v v' : List Bs} {x : Ex} (h : pVar t k v = .ok x k' v') : ExOk v'.length x ∧ v.length ≤ v'.length ∧ k' = k ∧ exSz x = 1 := by
  unfold pVar at h
  split at h
  · rename_i j hj
    injection h with h1 h2 h3
    subst h1 h2 h3
    have hj2 : j < v.length := by
      split at hj
      · cases hj
      · exact (List.idxOf?_eq_some_iff.1 hj).1
    refine ⟨?_, Nat.le_refl _, rfl, by simp [exSz, exSzs]⟩
    unfold ExOk
    exact ⟨by simp, by omega, by simp, fun _ => hj2, by simp, by simp, by simp, ExsOk.nil⟩
  · split at h
    · cases h
    · injection h with h1 h2 h3
      subst h1 h2 h3
      refine ⟨?_, by simp, rfl, by simp [exSz, exSzs]⟩
      unfold ExOk
      exact ⟨by simp, by omega, by simp, fun _ => by simp, by simp, by simp, by simp, ExsOk.nil⟩
theorem mkList_E {nv : Nat} {x : Ex} (hx : ExOk nv x) : ∀ {all : List Ex}, ExsOk nv all → ExOk nv (mkList all x) ∧ exSz (mkList all x) = exSzs all + all.length + exSz x
  | [], _ => ⟨hx, by simp [mkList, exSzs]⟩
  | a :: l, h => by
    unfold ExsOk at h
    obtain ⟨h1, h2⟩ := mkList_E hx h.2
    refine ⟨ExOk.two (by simp) h.1 h1, ?_⟩
    show exSz (.mk 99 [46] 0 0 [a, mkList l x]) = _
    rw [exSz_two, h2]
    simp [exSzs]
    omega
theorem nil_E {nv : Nat} : ExOk nv (.mk 97 [91, 93] 0 0 []) := by
  unfold ExOk
  exact ⟨by simp, by omega, by simp, by simp, by simp, by simp, by simp, ExsOk.nil⟩
structure EOk (T : List Tok) (f : Nat) : Prop where
  prim : ∀ k v d x k' v', pPrim T f k v d = some (.ok x k' v') → ExOk v'.length x ∧ v.length ≤ v'.length ∧ k + exSz x ≤ k'
  args : ∀ k v d a acc x k' v', ExsOk v.length acc → pArgs T f k v d a acc = some (.ok x k' v') → ExsOk v'.length x ∧ v.length ≤ v'.length ∧ k + exSzs x ≤ k' + exSzs acc ∧ x.length ≤ 4 ∧ x ≠ []
  list : ∀ k v d x k' v', pList T f k v d = some (.ok x k' v') → ExOk v'.length x ∧ v.length ≤ v'.length ∧ k + exSz x ≤ k' + 1
  elems : ∀ k v d acc x k' v', ExsOk v.length acc → pElems T f k v d acc = some (.ok x k' v') → ExsOk v'.length x ∧ v.length ≤ v'.length ∧ k + exSzs x + x.length ≤ k' + exSzs acc + acc.length + 1
  oper : ∀ l k v d x k' v', pOper T f l k v d = some (.ok x k' v') → ExOk v'.length x ∧ v.length ≤ v'.length ∧ k + exSz x ≤ k'
  more : ∀ l y k v d x k' v', ExOk v.length y → pMore T f l y k v d = some (.ok x k' v') → ExOk v'.length x ∧ v.length ≤ v'.length ∧ k + exSz x ≤ k' + exSz y
theorem eOk {T : List Tok} (hT : TkOk T) : ∀ f, EOk T f
  | 0 => ⟨by intros; simp [pPrim] at *, by intros; simp [pArgs] at *, by intros; simp [pList] at *, by intros; simp [pElems] at *, by intros; simp [pOper] at *, by intros; simp [pMore] at *⟩
  | f + 1 => by
    have ih := eOk hT f
    refine ⟨?_, ?_, ?_, ?_, ?_, ?_⟩
    · intro k v d x k' v' h
      rw [pPrim] at h
      split at h
      · simp at h
      split at h
      · rename_i hk
        simp only [Option.some.injEq, Res.ok.injEq] at h
        obtain ⟨rfl, rfl, rfl⟩ := h
        have hm := tk_in (T := T) (k := k) (by omega)
        obtain ⟨a, b⟩ := num_bound (hT.digits _ hm hk) (hT.len _ hm)
        refine ⟨?_, Nat.le_refl _, by simp [exSz, exSzs]⟩
        unfold ExOk
        exact ⟨by simp, by omega, by simp, by simp, by simp, by simp, by simp, ExsOk.nil⟩
      split at h
      · simp only [Option.some.injEq] at h
        obtain ⟨h1, h2, rfl, h4⟩ := pVar_E h
        exact ⟨h1, h2, by omega⟩
      split at h
      · rename_i hk
        have hm := tk_in (T := T) (k := k) (by omega)
        split at h
        · obtain ⟨a, k1, v1, h1, h2⟩ := bind_ok h
          obtain ⟨g1, g2, g3, g4⟩ := ih.args _ _ _ _ _ _ _ _ ExsOk.nil h1
          obtain ⟨rfl, rfl, rfl⟩ := musT_ok h2
          refine ⟨?_, g2, by simp [exSz, exSzs] at g3 ⊢; omega⟩
          unfold ExOk
          exact ⟨hT.len _ hm, by omega, by simp, by simp, ⟨g4.1, fun _ => g4.2⟩, by simp, by simp, g1⟩
        · simp only [Option.some.injEq, Res.ok.injEq] at h
          obtain ⟨rfl, rfl, rfl⟩ := h
          refine ⟨?_, Nat.le_refl _, by simp [exSz, exSzs]⟩
          unfold ExOk
          exact ⟨hT.len _ hm, by omega, by simp, by simp, by simp, fun _ => hT.word _ hm hk, by simp, ExsOk.nil⟩
      split at h
      · split at h
        · rename_i hk
          simp only [Option.some.injEq, Res.ok.injEq] at h
          obtain ⟨rfl, rfl, rfl⟩ := h
          have hm := tk_in (T := T) (k := k + 1) (by omega)
          obtain ⟨a, b⟩ := num_bound (hT.digits _ hm hk) (hT.len _ hm)
          refine ⟨?_, Nat.le_refl _, by simp [exSz, exSzs]⟩
          unfold ExOk
          exact ⟨by simp, by omega, by simp, by simp, by simp, by simp, by simp, ExsOk.nil⟩
        · simp at h
      split at h
      · obtain ⟨a, k1, v1, h1, h2⟩ := bind_ok h
        obtain ⟨g1, g2, g3⟩ := ih.oper _ _ _ _ _ _ _ h1
        obtain ⟨rfl, rfl, rfl⟩ := musT_ok h2
        exact ⟨g1, g2, by omega⟩
      split at h
      · obtain ⟨g1, g2, g3⟩ := ih.list _ _ _ _ _ _ h
        exact ⟨g1, g2, by omega⟩
      · simp at h
    · intro k v d a acc x k' v' ha h
      rw [pArgs] at h
      obtain ⟨y, k1, v1, h1, h2⟩ := bind_ok h
      obtain ⟨g1, g2, g3⟩ := ih.oper _ _ _ _ _ _ _ h1
      have hs := (ExsOk.mono g2 _ ha).snoc g1
      have hz : exSzs (acc ++ [y]) = exSzs acc + exSz y := by rw [exSzs_append]; simp [exSzs]
      split at h2
      · obtain ⟨q1, q2, q3, q4⟩ := ih.args _ _ _ _ _ _ _ _ hs h2
        exact ⟨q1, by omega, by omega, q4⟩
      · split at h2
        · simp at h2
        · rename_i hl
          simp only [Option.some.injEq, Res.ok.injEq] at h2
          obtain ⟨rfl, rfl, rfl⟩ := h2
          unfold maxArity at hl
          exact ⟨hs, g2, by omega, by omega, by simp⟩
    · intro k v d x k' v' h
      rw [pList] at h
      split at h
      · simp only [Option.some.injEq, Res.ok.injEq] at h
        obtain ⟨rfl, rfl, rfl⟩ := h
        exact ⟨nil_E, Nat.le_refl _, by simp [exSz, exSzs]⟩
      · obtain ⟨all, k1, v1, h1, h2⟩ := bind_ok h
        obtain ⟨g1, g2, g3⟩ := ih.elems _ _ _ _ _ _ _ ExsOk.nil h1
        simp [exSzs] at g3
        split at h2
        · obtain ⟨y, k2, v2, h3, h4⟩ := bind_ok h2
          obtain ⟨q1, q2, q3⟩ := ih.oper _ _ _ _ _ _ _ h3
          obtain ⟨rfl, rfl, rfl⟩ := musT_ok h4
          obtain ⟨m1, m2⟩ := mkList_E q1 (ExsOk.mono q2 _ g1)
          exact ⟨m1, by omega, by omega⟩
        · obtain ⟨rfl, rfl, rfl⟩ := musT_ok h2
          obtain ⟨m1, m2⟩ := mkList_E (nil_E (nv := v'.length)) g1
          have : exSz (.mk 97 [91, 93] 0 0 []) = 1 := by simp [exSz, exSzs]
          exact ⟨m1, by omega, by omega⟩
    · intro k v d acc x k' v' ha h
      rw [pElems] at h
      obtain ⟨y, k1, v1, h1, h2⟩ := bind_ok h
      obtain ⟨g1, g2, g3⟩ := ih.oper _ _ _ _ _ _ _ h1
      have hs := (ExsOk.mono g2 _ ha).snoc g1
      have hz : exSzs (acc ++ [y]) = exSzs acc + exSz y := by rw [exSzs_append]; simp [exSzs]
      have hl : (acc ++ [y]).length = acc.length + 1 := by simp
      split at h2
      · obtain ⟨q1, q2, q3⟩ := ih.elems _ _ _ _ _ _ _ hs h2
        exact ⟨q1, by omega, by omega⟩
      · simp only [Option.some.injEq, Res.ok.injEq] at h2
        obtain ⟨rfl, rfl, rfl⟩ := h2
        exact ⟨hs, g2, by omega⟩
    · intro l k v d x k' v' h
      rw [pOper] at h
      split at h
      · exact ih.prim _ _ _ _ _ _ h
      · obtain ⟨y, k1, v1, h1, h2⟩ := bind_ok h
        obtain ⟨g1, g2, g3⟩ := ih.oper _ _ _ _ _ _ _ h1
        obtain ⟨q1, q2, q3⟩ := ih.more _ _ _ _ _ _ _ _ g1 h2
        exact ⟨q1, by omega, by omega⟩
    · intro l y k v d x k' v' hy h
      rw [pMore] at h
      split at h
      · simp only [Option.some.injEq, Res.ok.injEq] at h
        obtain ⟨rfl, rfl, rfl⟩ := h
        exact ⟨hy, Nat.le_refl _, by omega⟩
      · rename_i o ho
        obtain ⟨z, k1, v1, h1, h2⟩ := bind_ok h
        obtain ⟨g1, g2, g3⟩ := ih.oper _ _ _ _ _ _ _ h1
        obtain ⟨q1, q2, q3⟩ := ih.more _ _ _ _ _ _ _ _ (ExOk.two (ops_len ho) (ExOk.mono g2 _ hy) g1) h2
        rw [exSz_two] at q3
        exact ⟨q1, by omega, by omega⟩
mutual
theorem made_ok {nv : Nat} (vs : List Nat) : ∀ (x : Ex), ExOk nv x → TmOk (made vs x)
  | .mk kind name n k args, h => by
    unfold ExOk at h
    obtain ⟨h1, h2, h3, h4, h5, h6, h7, h8⟩ := h
    unfold made
    split
    · rename_i e; unfold TmOk; exact ⟨by omega, h6 e⟩
    · split
      · unfold TmOk; omega
      · split
        · unfold TmOk; trivial
        · unfold TmOk
          have := mades_ok vs args h8
          exact ⟨by omega, by rw [this.2]; omega, this.1⟩
  termination_by structural x => x
theorem mades_ok {nv : Nat} (vs : List Nat) : ∀ (l : List Ex), ExsOk nv l → TmsOk (mades vs l) ∧ (mades vs l).length = l.length
  | [], _ => by unfold mades TmsOk; exact ⟨trivial, rfl⟩
  | x :: xs, h => by
    unfold ExsOk at h
    have h1 := made_ok vs x h.1
    have h2 := mades_ok vs xs h.2
    unfold mades
    refine ⟨?_, by simp [h2.2]⟩
    unfold TmsOk
    exact ⟨h1, h2.1⟩
  termination_by structural x => x
end
end Go.Proofs.YtkmpelgfhjgddaaGreatDoor.P
