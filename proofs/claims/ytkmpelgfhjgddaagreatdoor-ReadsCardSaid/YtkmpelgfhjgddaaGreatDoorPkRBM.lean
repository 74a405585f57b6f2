/- A part of one proof (PureJ, RD11, RD12, RL2, RL3); no conditions beyond what each theorem names. -/
import Derived.Test.YtkmpelgfhjgddaaGreatDoorPkRBL
import Derived.Lib.LaidTab
import Derived.ProofKit
import Derived.LaidMore
import Derived.OpenShut
import Derived.LaidHandle
import Derived.LaidSub
import Derived.MakeChecks
import Derived.Stop.Joined
import Derived.Test.YtkmpelgfhjgddaaGreatDoorRows
import Derived.Lay
set_option linter.all false
set_option linter.unusedVariables false
set_option linter.unusedSimpArgs false
namespace Go.Proofs.YtkmpelgfhjgddaaGreatDoor.P
theorem Hp.walk_un {H : Hp} {t : Nat} (h : ¬ ((H.nd t).kind = 118 ∧ 0 ≤ H.toOf t)) : ∀ g, H.walk g t = some t
  | 0 => by rw [Hp.walk, if_neg h]
  | g + 1 => by rw [Hp.walk, if_neg h]
theorem Rep.walk {H : Hp} {t : Nat} {T : Tm} (h : Rep H t T) (g : Nat) : H.walk g t = some t := by
  refine Hp.walk_un ?_ g
  rintro ⟨h1, h2⟩
  cases T <;> unfold Rep at h <;> omega
theorem over_no {H : Hp} {c : Nat} (h : c ≤ H.most) (he : H.err = 0) : H.over c = false := by
  unfold Hp.over
  simp [he]
  omega
theorem Reps.two {H : Hp} {l : List Nat} {a b : Tm} (h : Reps H l [a, b]) : ∃ x y, l = [x, y] ∧ Rep H x a ∧ Rep H y b := by
  unfold Reps Reps Reps at h
  obtain ⟨x, l', rfl, h1, y, l'', rfl, h2, rfl⟩ := h
  exact ⟨x, y, rfl, h1, h2⟩
theorem Reps.length {H : Hp} : ∀ {L : List Tm} {l : List Nat}, Reps H l L → l.length = L.length
  | [], l, h => by unfold Reps at h; subst h; rfl
  | T :: r, l, h => by
    unfold Reps at h
    obtain ⟨t, l', rfl, -, h⟩ := h
    simp [Reps.length h]
def Hp.compD (H : Hp) (g t least c : Nat) (seen : List Nat) : Option Xr :=
  if H.power t ≠ 0 then
    Xb (H.text g ((H.nd t).args.getD 0 0) (H.power t) c seen) fun a c seen => Xb (H.text g ((H.nd t).args.getD 1 0) (H.power t + 1) c seen) fun b c seen =>
      let op := if (H.nd t).name = [109, 111, 100] then [32, 109, 111, 100, 32] else (H.nd t).name
      some (if H.power t < least then 40 :: (a ++ op ++ b ++ [41]) else a ++ op ++ b, c, seen)
  else if (H.nd t).name = [46] ∧ (H.nd t).args.length = 2 then H.list g t [91] c seen
  else H.targs g (H.nd t).args true ((H.nd t).name ++ [40]) c seen
theorem Xb_of {x : Option Xr} {k : Bs → Nat → List Nat → Option Xr} {s : Bs} {c : Nat} {l : List Nat} (h : x = some (s, c, l)) : Xb x k = k s c l := by rw [h]; rfl
structure EqW (H : Hp) (f : Nat) : Prop where
  tm : ∀ t T least s r, Rep H t T → wTm [] f T least s = some (some r) → ∃ out k, r.out = s.out ++ out ∧ s.fuel = r.fuel + k ∧ ∀ c g, c + k ≤ H.most → f ≤ g → H.text g t least c s.seen = some (out, c + k, r.seen)
  comp : ∀ t name args least s r, Rep H t (.comp name args) → wComp [] f name args least s = some (some r) → ∃ out k, r.out = s.out ++ out ∧ s.fuel = r.fuel + k ∧ ∀ c g, c + k ≤ H.most → f ≤ g → H.compD g t least c s.seen = some (out, c + k, r.seen)
  args : ∀ l L s r, Reps H l L → wArgs [] f 44 L s = some (some r) → ∃ out k, r.out = s.out ++ out ∧ s.fuel = r.fuel + k ∧ ∀ c g o, c + k ≤ H.most → f ≤ g → H.targs g l false o c s.seen = some (o ++ out ++ [41], c + k, r.seen)
  args0 : ∀ l L s r, Reps H l L → L ≠ [] → wArgs [] f 40 L s = some (some r) → ∃ out k, r.out = s.out ++ 40 :: out ∧ s.fuel = r.fuel + k ∧ ∀ c g o, c + k ≤ H.most → f ≤ g → H.targs g l true o c s.seen = some (o ++ out ++ [41], c + k, r.seen)
  list : ∀ t a b sep s r, Rep H t (.comp [46] [a, b]) → wList [] f sep a b s = some (some r) → ∃ out k, r.out = s.out ++ sep :: out ∧ s.fuel = r.fuel + k ∧ ∀ c g o, c + k ≤ H.most → f ≤ g → H.list g t o c s.seen = some (o ++ out, c + k, r.seen)
theorem eqW {H : Hp} (he : H.err = 0) : ∀ f, EqW H f
  | 0 => ⟨by intros; simp [wTm] at *, by intros; simp [wComp] at *, by intros; simp [wArgs] at *, by intros; simp [wArgs] at *, by intros; simp [wList] at *⟩
  | f + 1 => by
    have ih := eqW he f
    refine ⟨?_, ?_, ?_, ?_, ?_⟩
    · intro t T least s r hT h
      have hT0 := hT
      rw [wTm, walk_nil] at h
      split at h
      · cases h
      rename_i hfu
      have one : ∀ (out : Bs) (sn : List Nat), (∀ c g, H.over (c + 1) = false → H.text (g + 1) t least c s.seen = some (out, c + 1, sn)) → ∀ c g, c + 1 ≤ H.most → f + 1 ≤ g → H.text g t least c s.seen = some (out, c + 1, sn) := by
        intro out sn hh c g hc hg
        obtain ⟨g', rfl⟩ : ∃ g', g = g' + 1 := ⟨g - 1, by omega⟩
        exact hh c g' (over_no hc he)
      cases T with
      | atom a =>
        unfold Rep at hT
        simp only [Option.some.injEq] at h
        subst h
        refine ⟨a, 1, rfl, by simp [Ws.add]; omega, one _ _ fun c g ho => ?_⟩
        rw [Hp.text, ho, hT0.walk]
        simp [hT.2.1, hT.2.2, Ws.add]
      | int a =>
        unfold Rep at hT
        simp only [Option.some.injEq] at h
        subst h
        refine ⟨decI a, 1, rfl, by simp [Ws.add]; omega, one _ _ fun c g ho => ?_⟩
        rw [Hp.text, ho, hT0.walk]
        simp [hT.2.1, hT.2.2, Ws.add]
      | var i =>
        unfold Rep at hT
        obtain ⟨q1, rfl, q2, q3⟩ := hT
        simp only [Option.some.injEq] at h
        subst h
        unfold varText
        dsimp only
        cases hx : s.seen.idxOf? t with
        | some j =>
          refine ⟨95 :: decN (j + 1), 1, rfl, by simp [Ws.add]; omega, one _ _ fun c g ho => ?_⟩
          rw [Hp.text, ho, hT0.walk]
          simp [q2, hx, Ws.add]
        | none =>
          refine ⟨95 :: decN (s.seen.length + 1), 1, rfl, by simp; omega, one _ _ fun c g ho => ?_⟩
          rw [Hp.text, ho, hT0.walk]
          simp [q2, hx]
      | comp name args =>
        obtain ⟨out, k, h1, h2, h3⟩ := ih.comp t name args least _ r hT h
        simp only at h1 h2 h3
        refine ⟨out, k + 1, h1, by omega, fun c g hc hg => ?_⟩
        obtain ⟨g', rfl⟩ : ∃ g', g = g' + 1 := ⟨g - 1, by omega⟩
        have h4 := h3 (c + 1) g' (by omega) (by omega)
        rw [Hp.text, over_no (c := c + 1) (by omega) he, hT0.walk]
        unfold Rep at hT
        have e1 : ¬ (H.nd t).kind = 97 := by omega
        have e2 : ¬ (H.nd t).kind = 110 := by omega
        have e3 : ¬ (H.nd t).kind = 118 := by omega
        simp only [Bool.false_eq_true, if_false, if_neg e1, if_neg e2, if_neg e3]
        rw [show c + (k + 1) = c + 1 + k by omega]
        exact h4
    · intro t name args least s r hT h
      have hT0 := hT
      unfold Rep at hT
      obtain ⟨q1, q2, q3, q4, q5⟩ := hT
      have hpw : H.power t = power name args.length := by unfold Hp.power; rw [if_neg (by omega), q3, q5.length]
      have hd : H.power t = 0 → ¬ (name = [46] ∧ args.length = 2) → ∀ r, Wb (wArgs [] f 40 args (s.add name)) (fun s => some (some (s.add [41]))) = some (some r) → ∃ out k, r.out = s.out ++ out ∧ s.fuel = r.fuel + k ∧ ∀ c g, c + k ≤ H.most → f + 1 ≤ g → H.compD g t least c s.seen = some (out, c + k, r.seen) := by
        intro hp hn r h
        obtain ⟨r1, h1, h2⟩ := Wb_some h
        simp only [Option.some.injEq] at h2
        subst h2
        obtain ⟨out, k, g1, g2, g3⟩ := ih.args0 _ _ _ _ q5 q4 h1
        refine ⟨name ++ 40 :: out ++ [41], k, by simp [Ws.add, g1], g2, fun c g hc hg => ?_⟩
        unfold Hp.compD
        have g4 := g3 c g (name ++ [40]) hc (by omega)
        simp only [Ws.add] at g4
        rw [if_neg (by omega), q3, q5.length, if_neg hn, g4]
        simp [Ws.add]
      rw [wComp.eq_def] at h
      dsimp only at h
      split at h
      · rename_i a b
        obtain ⟨x, y, hxy, rx, ry⟩ := q5.two
        have hlen : [a, b].length = 2 := rfl
        rw [hlen] at hpw
        have e0 : (H.nd t).args.getD 0 0 = x := by rw [hxy]; rfl
        have e1 : (H.nd t).args.getD 1 0 = y := by rw [hxy]; rfl
        split at h
        · rename_i hp
          have hp' : H.power t ≠ 0 := by rw [hpw]; exact hp
          split at h
          · rename_i hlt
            obtain ⟨s1, h1, h2⟩ := Wb_some h
            obtain ⟨s2, h3, h4⟩ := Wb_some h2
            simp only [Option.some.injEq] at h4
            subst h4
            obtain ⟨o1, k1, a1, a2, a3⟩ := ih.tm _ _ _ _ _ rx h1
            obtain ⟨o2, k2, b1, b2, b3⟩ := ih.tm _ _ _ _ _ ry h3
            simp only [Ws.add] at a1 a2 a3 b1 b2 b3
            refine ⟨40 :: (o1 ++ (if name = [109, 111, 100] then [32, 109, 111, 100, 32] else name) ++ o2 ++ [41]), k1 + k2, by simp [Ws.add, b1, a1], by simp only [Ws.add]; omega, fun c g hc hg => ?_⟩
            unfold Hp.compD
            rw [if_pos hp', e0, e1, q3, hpw, Xb_of (a3 c g (by omega) (by omega)), Xb_of (b3 (c + k1) g (by omega) (by omega))]
            simp only [if_pos hlt, Ws.add, Nat.add_assoc]
          · rename_i hlt
            obtain ⟨s1, h1, h2⟩ := Wb_some h
            obtain ⟨o1, k1, a1, a2, a3⟩ := ih.tm _ _ _ _ _ rx h1
            obtain ⟨o2, k2, b1, b2, b3⟩ := ih.tm _ _ _ _ _ ry h2
            simp only [Ws.add] at a1 a2 a3 b1 b2 b3
            refine ⟨o1 ++ (if name = [109, 111, 100] then [32, 109, 111, 100, 32] else name) ++ o2, k1 + k2, by simp [b1, a1], by omega, fun c g hc hg => ?_⟩
            unfold Hp.compD
            rw [if_pos hp', e0, e1, q3, hpw, Xb_of (a3 c g (by omega) (by omega)), Xb_of (b3 (c + k1) g (by omega) (by omega))]
            simp only [if_neg hlt, Nat.add_assoc]
        · rename_i hp
          have hp' : H.power t = 0 := by rw [hpw]; simpa using hp
          split at h
          · rename_i hn
            subst hn
            obtain ⟨out, k, g1, g2, g3⟩ := ih.list _ _ _ _ _ _ hT0 h
            refine ⟨91 :: out, k, g1, g2, fun c g hc hg => ?_⟩
            unfold Hp.compD
            rw [if_neg (by omega), q3, q5.length, if_pos ⟨rfl, rfl⟩, g3 c g _ hc (by omega)]
            rfl
          · rename_i hn
            exact hd hp' (fun hh => hn hh.1) r h
      · rename_i hne
        have hl2 : args.length ≠ 2 := fun hl => by
          match args, hl with
          | [a, b], _ => exact hne a b rfl
        have hp0 : H.power t = 0 := by rw [hpw]; unfold power; rw [if_pos hl2]
        exact hd hp0 (fun hh => hl2 hh.2) r h
    · intro l L s r hL h
      cases L with
      | nil =>
        unfold Reps at hL
        subst hL
        simp only [wArgs, Option.some.injEq] at h
        subst h
        refine ⟨[], 0, by simp, rfl, fun c g o hc hg => ?_⟩
        obtain ⟨g', rfl⟩ : ∃ g', g = g' + 1 := ⟨g - 1, by omega⟩
        rw [Hp.targs]
        simp
      | cons T R =>
        unfold Reps at hL
        obtain ⟨t, l', rfl, rT, rR⟩ := hL
        rw [wArgs] at h
        obtain ⟨s1, h1, h2⟩ := Wb_some h
        obtain ⟨o1, k1, a1, a2, a3⟩ := ih.tm _ _ _ _ _ rT h1
        obtain ⟨o2, k2, b1, b2, b3⟩ := ih.args _ _ _ _ rR h2
        simp only [Ws.add] at a1 a2 a3
        refine ⟨44 :: (o1 ++ o2), k1 + k2, by simp [b1, a1], by omega, fun c g o hc hg => ?_⟩
        obtain ⟨g', rfl⟩ : ∃ g', g = g' + 1 := ⟨g - 1, by omega⟩
        rw [Hp.targs, Xb_of (a3 c g' (by omega) (by omega)), b3 (c + k1) g' _ (by omega) (by omega)]
        simp [Nat.add_assoc]
    · intro l L s r hL hne h
      cases L with
      | nil => exact absurd rfl hne
      | cons T R =>
        unfold Reps at hL
        obtain ⟨t, l', rfl, rT, rR⟩ := hL
        rw [wArgs] at h
        obtain ⟨s1, h1, h2⟩ := Wb_some h
        obtain ⟨o1, k1, a1, a2, a3⟩ := ih.tm _ _ _ _ _ rT h1
        obtain ⟨o2, k2, b1, b2, b3⟩ := ih.args _ _ _ _ rR h2
        simp only [Ws.add] at a1 a2 a3
        refine ⟨o1 ++ o2, k1 + k2, by simp [b1, a1], by omega, fun c g o hc hg => ?_⟩
        obtain ⟨g', rfl⟩ : ∃ g', g = g' + 1 := ⟨g - 1, by omega⟩
        rw [Hp.targs, Xb_of (a3 c g' (by omega) (by omega)), b3 (c + k1) g' _ (by omega) (by omega)]
        simp [Nat.add_assoc]
    · intro t a b sep s r hT h
      unfold Rep at hT
      obtain ⟨q1, q2, q3, q4, q5⟩ := hT
      obtain ⟨x, y, hxy, rx, ry⟩ := q5.two
      have e0 : (H.nd t).args.getD 0 0 = x := by rw [hxy]; rfl
      have e1 : (H.nd t).args.getD 1 0 = y := by rw [hxy]; rfl
      rw [wList] at h
      obtain ⟨s1, h1, h2⟩ := Wb_some h
      obtain ⟨o1, k1, a1, a2, a3⟩ := ih.tm _ _ _ _ _ rx h1
      simp only [Ws.add] at a1 a2 a3
      rw [walk_nil] at h2
      have hbar : ¬ ((H.nd y).kind = 97 ∧ (H.nd y).name = [91, 93]) → ¬ ((H.nd y).kind = 99 ∧ (H.nd y).name = [46] ∧ (H.nd y).args.length = 2) → Wb (wTm [] f b 0 (s1.add [124])) (fun s => some (some (s.add [93]))) = some (some r) →
          ∃ out k, r.out = s.out ++ sep :: out ∧ s.fuel = r.fuel + k ∧ ∀ c g o, c + k ≤ H.most → f + 1 ≤ g → H.list g t o c s.seen = some (o ++ out, c + k, r.seen) := by
        intro n1 n2 h
        obtain ⟨s2, h3, h4⟩ := Wb_some h
        simp only [Option.some.injEq] at h4
        subst h4
        obtain ⟨o2, k2, b1, b2, b3⟩ := ih.tm _ _ _ _ _ ry h3
        simp only [Ws.add] at b1 b2 b3
        refine ⟨o1 ++ 124 :: (o2 ++ [93]), k1 + k2, by simp [Ws.add, b1, a1], by simp only [Ws.add]; omega, fun c g o hc hg => ?_⟩
        obtain ⟨g', rfl⟩ : ∃ g', g = g' + 1 := ⟨g - 1, by omega⟩
        rw [Hp.list, e0, e1, Xb_of (a3 c g' (by omega) (by omega)), ry.walk]
        dsimp only
        rw [over_no (c := c + k1) (by omega) he, if_neg (by simp), if_neg n1, if_neg n2, Xb_of (b3 (c + k1) g' (by omega) (by omega))]
        simp [Ws.add, Nat.add_assoc]
      have ry0 := ry
      cases b with
      | atom z =>
        unfold Rep at ry
        dsimp only at h2
        split at h2
        · rename_i hz
          subst hz
          simp only [Option.some.injEq] at h2
          subst h2
          refine ⟨o1 ++ [93], k1, by simp [Ws.add, a1], by simp only [Ws.add]; omega, fun c g o hc hg => ?_⟩
          obtain ⟨g', rfl⟩ : ∃ g', g = g' + 1 := ⟨g - 1, by omega⟩
          rw [Hp.list, e0, e1, Xb_of (a3 c g' (by omega) (by omega)), ry0.walk]
          dsimp only
          rw [over_no (c := c + k1) (by omega) he, if_neg (by simp), if_pos ⟨ry.2.1, ry.2.2⟩]
          simp [Ws.add]
        · rename_i hz
          exact hbar (fun hh => hz (by rw [← ry.2.2]; exact hh.2)) (fun hh => by omega) h2
      | int z =>
        unfold Rep at ry
        exact hbar (fun hh => by omega) (fun hh => by omega) h2
      | var z =>
        unfold Rep at ry
        exact hbar (fun hh => by omega) (fun hh => by omega) h2
      | comp nm zs =>
        unfold Rep at ry
        dsimp only at h2
        split at h2
        · rename_i u v
          split at h2
          · rename_i hn
            subst hn
            obtain ⟨o2, k2, b1, b2, b3⟩ := ih.list _ _ _ _ _ _ ry0 h2
            refine ⟨o1 ++ 44 :: o2, k1 + k2, by simp [b1, a1], by omega, fun c g o hc hg => ?_⟩
            obtain ⟨g', rfl⟩ : ∃ g', g = g' + 1 := ⟨g - 1, by omega⟩
            rw [Hp.list, e0, e1, Xb_of (a3 c g' (by omega) (by omega)), ry0.walk]
            dsimp only
            rw [over_no (c := c + k1) (by omega) he, if_neg (by simp), if_neg (fun hh => by omega), if_pos ⟨ry.2.1, ry.2.2.1, ry.2.2.2.2.length⟩, b3 (c + k1) g' _ (by omega) (by omega)]
            simp [Nat.add_assoc]
          · rename_i hn
            exact hbar (fun hh => by omega) (fun hh => hn (by rw [← ry.2.2.1]; exact hh.2.1)) h2
        · rename_i hne
          have hl2 : zs.length ≠ 2 := fun hl => by
            match zs, hl with
            | [a, b], _ => exact hne a b rfl
          exact hbar (fun hh => by omega) (fun hh => hl2 (by rw [← ry.2.2.2.2.length]; exact hh.2.2)) h2
theorem canonD {nv : Nat} {x : Ex} (h : ExOk nv x) (hs : exSz x ≤ 2001) : ∃ H H' t k l, (Hp.new 1073741824).fresh nv = (H, List.range nv) ∧ H.made (List.range nv) x = (H', t) ∧ H.Ok ∧ H'.Ok ∧ t < H'.nodes.length ∧ k ≤ 1000000 ∧ H.nodes.length = nv ∧ H'.cost = 0 ∧
    H'.text (4 * exSz x) t 0 0 [] = some ((canonS nv x).out, k, l) := by
  obtain ⟨g1, g2, g3, g4, g5⟩ := fresh_rep nv (Hp.new 1073741824) (new_good _) ⟨Nat.le_refl _, fun i hi => by simp [Hp.new] at hi⟩
  have e0 : (Hp.new 1073741824).nodes.length = 0 := rfl
  rw [e0, Nat.zero_add] at g3 g4
  rw [e0, ← List.range_eq_range'] at g5
  obtain ⟨q1, q2, q3, q4⟩ := made_rep x ((Hp.new 1073741824).fresh nv).1 h g1 g4
  obtain ⟨c1, c2⟩ := canonS_eq h (by omega)
  have co := g2.trans q3
  obtain ⟨out, k, a1, a2, a3⟩ := (eqW (H := (((Hp.new 1073741824).fresh nv).1.made (List.range nv) x).1) (by rw [co.err]; rfl) _).tm _ _ _ _ _ q4 c1
  simp only [List.nil_append] at a1 a2 a3
  refine ⟨_, _, _, k, (canonS nv x).seen, Prod.ext rfl g5, rfl, g1.1, q1.1, q4.lt, by omega, g3, by rw [co.cost]; rfl, ?_⟩
  have hm : (((Hp.new 1073741824).fresh nv).1.made (List.range nv) x).1.most = 1073741824 := by rw [co.most]; rfl
  rw [a1]
  have := a3 0 _ (by rw [hm]; omega) (Nat.le_refl _)
  rw [Nat.zero_add] at this
  exact this
end Go.Proofs.YtkmpelgfhjgddaaGreatDoor.P
namespace Go.Proofs.YtkmpelgfhjgddaaGreatDoor
open Go.RowKit Sx
set_option maxRecDepth 100000
theorem RHp.ownLt {A : Nat → Prop} {w : World} {hb : Nat} {H : P.Hp} (h : RHp A w hb H) {b : Nat} (hb' : OwnOf w hb b) : b < w.heap.size := by
  obtain ⟨kv, nv, iv, av, tv, rv, ars, h⟩ := h
  rcases hb' with rfl | ⟨cs, T, q1, v, q2, q3⟩
  · exact ltOf h.cell
  · rw [h.q.cell] at q1
    injection q1 with q1
    injection q1 with q1 _ _
    subst q1
    simp only [List.mem_append, List.mem_map] at q2
    rcases q2 with ⟨r, hr, rfl⟩ | hv
    · exact ((h.q.own r hr).lt _ q3).2
    · rw [h.q.tl v hv] at q3
      cases q3
theorem rNew (m : Nat) (w : World) : Calls Tryz.prog 24 #[.int .i64 (m : Nat)] w fun e w' => e = .returned (.pointer (some ⟨w.heap.size, 0, none⟩)) ∧ RHp (fun _ => True) w' w.heap.size (P.Hp.new m) ∧ Ext w w' ∧ ∀ b, OwnOf w' w.heap.size b → b = w.heap.size := by
  refine sh_r_New_ok ?_
  simp (disch := first | assumption | omega | ((simp only [size_alloc, sz_drew, size_upd, List.size_toArray, List.length_cons, List.length_nil]) <;> omega) | decide) only [sh_r_New, Pr, PX, PC, NX, ends, fillL, wrL, sOf, Nat.reduceAdd, Nat.reduceMul, Nat.reduceLeDiff, Nat.reduceEqDiff, Int.reduceToNat, Int.reduceAdd, Int.reduceLT, Int.reduceLE, ↓reduceIte, forall_const, eq_self, zG1, zG2, bd_129]
  refine ⟨⟨.slice none 0 0, .slice none 0 0, .slice none 0 0, .slice none 0 0, .slice none 0 0, .slice none 0 0, [], ⟨⟨hp_alloc_new rfl, ?_, ?_, ?_⟩, rfl, rfl⟩⟩, (FrM.refl _ _).alloc _, ?_⟩
  · intro r hr
    simp only [List.mem_cons, List.not_mem_nil, or_false] at hr
    rcases hr with rfl | rfl | rfl | rfl | rfl | rfl <;> exact World.ownsRow_nil _ _ _ _
  · intro i j a b _ ha hb
    have := List.mem_of_getElem? ha
    simp only [List.mem_cons, List.not_mem_nil, or_false] at this
    rcases this with rfl | rfl | rfl | rfl | rfl | rfl <;> exact .inl rfl
  · intro v hv
    simp only [List.mem_cons, List.not_mem_nil, or_false] at hv
    rcases hv with rfl | rfl | rfl <;> rfl
  · intro b hb
    rcases hb with h | ⟨cs, T, h1, v, h2, h3⟩
    · exact h
    · rw [hp_alloc_new rfl] at h1
      injection h1 with h1
      injection h1 with h1 _ _
      subst h1
      simp only [List.mem_cons, List.not_mem_nil, or_false] at h2
      rcases h2 with rfl | rfl | rfl | rfl | rfl | rfl | rfl | rfl | rfl <;> cases h3
set_option maxHeartbeats 1000000 in
theorem rCanon {w : World} {x : P.Ex} {nv b va vc : _} {us : List Value} (hok : P.ExOk nv x) (hsz : P.exSz x ≤ 2001) (hn : nv ≤ 12) (hb : w.heap[b]? = some (.cells us.toArray 69 (0, 0))) {F : Nat → Prop} (hx : IsRx F w us x) :
    Calls Tryz.prog 12 #[.agg #[.string (bs []), .slice (some ⟨b, 0, none⟩) 1 1, .int .u8 0, .string (bs []), .slice none 0 0, .slice none 0 0, .slice va nv vc]] w fun e w' => e = .returned (.string (bs (P.canonS nv x).out)) ∧ Ext w w' := by
  obtain ⟨H, H', t, k, l, c1, c2, c3, c4, c5, c6, c7, c8, c9⟩ := P.canonD hok hsz
  obtain ⟨kind, name, n, kk, args⟩ := x
  have hx0 := hx
  unfold IsRx at hx0
  obtain ⟨av, us5, rfl, -, -⟩ := hx0
  refine sh_r_Canon_ok ?_
  have lb := ltOf hb
  obtain ⟨w1, hw1⟩ : ∃ y, y = w.alloc (.cells #[.string (bs []), .slice (some ⟨b, 0, none⟩) 1 1, .int .u8 0, .string (bs []), .slice none 0 0, .slice none 0 0, .slice va nv vc] 40 (0, 0)) := ⟨_, rfl⟩
  have hE1 : Ext w w1 := by rw [hw1]; exact (FrM.refl _ _).alloc _
  have g1 : w1.heap[w.heap.size]? = some (.cells #[.string (bs []), .slice (some ⟨b, 0, none⟩) 1 1, .int .u8 0, .string (bs []), .slice none 0 0, .slice none 0 0, .slice va nv vc] 40 (0, 0)) := by rw [hw1]; exact hp_alloc_new rfl
  simp (disch := first | assumption | omega | ((simp only [size_alloc, sz_drew, size_upd, List.size_toArray, List.length_cons, List.length_nil]) <;> omega) | decide) only [sh_r_Canon, Pr, PX, PC, NX, ends, fillL, wrL, sOf, Nat.reduceAdd, Nat.reduceMul, Nat.reduceLeDiff, Nat.reduceEqDiff, Int.reduceToNat, Int.reduceAdd, Int.reduceLT, Int.reduceLE, ↓reduceIte, forall_const, eq_self, zG1, zG2, bd_78, fa_40_1, fa_40_3, ix_34, ld_34, ld_38, ld_69, ln_38, ← hw1]
  refine Calls.mono (rNew 1073741824 w1) ?_
  rintro e w2 ⟨rfl, hR2, hE2, hO2⟩
  have g2 := hE2.ext _ _ g1
  have hE12 := hE1.trans hE2
  have b2 := hE12.ext _ _ hb
  have hx2 : IsRx F w2 [.int .u8 kind, .string (bs name), .int .i64 n, .int .i64 kk, av] (.mk kind name n kk args) := hx.mono (fun _ h => h) (fun bb cs _ ho => hE12.ext _ _ ho)
  have l2 := ltOf g2
  simp (disch := first | assumption | omega | ((simp only [size_alloc, sz_drew, size_upd, List.size_toArray, List.length_cons, List.length_nil]) <;> omega) | decide) only [sh_r_Canon, Pr, PX, PC, NX, ends, fillL, wrL, sOf, Nat.reduceAdd, Nat.reduceMul, Nat.reduceLeDiff, Nat.reduceEqDiff, Int.reduceToNat, Int.reduceAdd, Int.reduceLT, Int.reduceLE, ↓reduceIte, forall_const, eq_self, zG1, zG2, bd_78, fa_40_1, fa_40_3, ix_34, ld_34, ld_38, ld_69, ln_38, g2]
  refine Calls.mono (rFresh hR2 nv (by show 0 + nv ≤ _; omega) (fun _ _ => trivial)) ?_
  rintro e w3 ⟨vv, rfl, hR3, hF3, hK3, hown3, hno3⟩
  rw [c1] at hR3 hown3
  have hR3' := hR3.mono (B := fun _ => True) (fun _ _ _ => trivial)
  have g3 : w3.heap[w.heap.size]? = some (.cells #[.string (bs []), .slice (some ⟨b, 0, none⟩) 1 1, .int .u8 0, .string (bs []), .slice none 0 0, .slice none 0 0, .slice va nv vc] 40 (0, 0)) := hF3.fr.block _ _ g2 (hR2.ty g2 (by decide))
  have b3 : w3.heap[b]? = _ := hF3.fr.block _ _ b2 (hR2.ty b2 (by decide))
  have hx3 := hx2.mono (F' := F) (fun _ h => h) (hR2.keepE hF3 F)
  have l3 := ltOf g3
  have l4 := ltOf b3
  simp (disch := first | assumption | omega | ((simp only [size_alloc, sz_drew, size_upd, List.size_toArray, List.length_cons, List.length_nil]) <;> omega) | decide) only [sh_r_Canon, Pr, PX, PC, NX, ends, fillL, wrL, sOf, Nat.reduceAdd, Nat.reduceMul, Nat.reduceLeDiff, Nat.reduceEqDiff, Int.reduceToNat, Int.reduceAdd, Int.reduceLT, Int.reduceLE, ↓reduceIte, forall_const, eq_self, zG1, zG2, bd_78, fa_40_1, fa_40_3, ix_34, ld_34, ld_38, ld_69, ln_38, g3, b3]
  have hnodes : H.nodes.length + P.exSz (.mk kind name n kk args) ≤ 100000000 := by omega
  have hw1 : w1.heap.size < w3.heap.size := hR3.lt
  refine Calls.mono (rMadeN (vs := List.range nv) 2001 _ hsz (by simpa using hok) hR3' (fun _ _ => trivial) hnodes hx3 (own_IsSl (F := fun b => vv.ownBlock = some b) hown3 (fun _ h => h)) (fun b hb => hno3 b hb)) ?_
  rintro e w4 ⟨rfl, hR4, hF4⟩
  rw [c2] at hR4 ⊢
  have hlen : H'.nodes.length ≤ 1000000000 := by
    have := P.made_len (List.range nv) (.mk kind name n kk args) H
    rw [c2] at this
    simp only at this
    omega
  simp (disch := first | assumption | omega | ((simp only [size_alloc, sz_drew, size_upd, List.size_toArray, List.length_cons, List.length_nil]) <;> omega) | decide) only [sh_r_Canon, Pr, PX, PC, NX, ends, fillL, wrL, sOf, Nat.reduceAdd, Nat.reduceMul, Nat.reduceLeDiff, Nat.reduceEqDiff, Int.reduceToNat, Int.reduceAdd, Int.reduceLT, Int.reduceLE, ↓reduceIte, forall_const, eq_self, zG1, zG2, bd_78, fa_40_1, fa_40_3, ix_34, ld_34, ld_38, ld_69, ln_38]
  have hR5 := (hR4.mono (B := fun b => b < w4.heap.size) (fun b hb _ => hb)).ext (w' := w4.alloc (.cells #[.pointer (some ⟨w1.heap.size, 0, none⟩), .slice none 0 0] 78)) ((FrM.refl _ _).alloc _)
  have hT : TSt (w4.alloc (.cells #[.pointer (some ⟨w1.heap.size, 0, none⟩), .slice none 0 0] 78)) w1.heap.size w4.heap.size H' 0 [] := by
    obtain ⟨kv, nv', iv, av', tv, rv, ars, h⟩ := hR5
    have hH : { H' with cost := 0 } = H' := by rw [← c8]
    refine ⟨kv, nv', iv, av', tv, rv, ars, .slice none 0 0, ⟨by rw [hH]; exact h, ?_, hp_alloc_new rfl, World.ownsRow_nil _ _ _ _⟩⟩
    intro b hb
    refine hR4.ownLt ?_
    rcases hb with rfl | ⟨cs, T, q1, q2⟩
    · exact .inl rfl
    · refine .inr ⟨cs, T, ?_, q2⟩
      rw [hp_alloc_old hR4.lt] at q1
      exact q1
  have e0 : (0 : Int) = ((0 : Nat) : Int) := rfl
  rw [e0]
  refine Calls.mono ((cx _).text c4 hlen hT c5 (by simp) (by simp only; omega) c9) ?_
  rintro e w6 ⟨rfl, -, hF6⟩
  simp (disch := first | assumption | omega | ((simp only [size_alloc, sz_drew, size_upd, List.size_toArray, List.length_cons, List.length_nil]) <;> omega) | decide) only [sh_r_Canon, Pr, PX, PC, NX, ends, fillL, wrL, sOf, Nat.reduceAdd, Nat.reduceMul, Nat.reduceLeDiff, Nat.reduceEqDiff, Int.reduceToNat, Int.reduceAdd, Int.reduceLT, Int.reduceLE, ↓reduceIte, forall_const, eq_self, zG1, zG2, bd_78, fa_40_1, fa_40_3, ix_34, ld_34, ld_38, ld_69, ln_38]
  have hF24 := hF3.trans hF4
  have hE5 : Ext w4 (w4.alloc (.cells #[.pointer (some ⟨w1.heap.size, 0, none⟩), .slice none 0 0] 78)) := (FrM.refl _ _).alloc _
  have s12 := hE1.size
  have s24 := hF24.fr.size
  have s2 := hE2.size
  refine ⟨((hF6.os.trans hE5.os).trans hF24.fr.os).trans hE12.os, ((hF6.tape.trans hE5.tape).trans hF24.fr.tape).trans hE12.tape, ((hF6.output.trans hE5.output).trans hF24.fr.output).trans hE12.output,
    Nat.le_trans hE12.size (Nat.le_trans hF24.fr.size (Nat.le_trans hE5.size hF6.size)), fun b o hb _ => ?_⟩
  have lb := ltOf hb
  refine hF6.block _ _ (hE5.ext _ _ (hF24.fr.block _ _ (hE12.ext _ _ hb) fun ho => ?_)) ?_
  · have := hO2 b ho; omega
  · rintro (h | h) <;> omega
end Go.Proofs.YtkmpelgfhjgddaaGreatDoor
namespace Go.Proofs.YtkmpelgfhjgddaaGreatDoor
open Go.RowKit Sx
set_option maxRecDepth 100000
theorem lRead (s : P.Bs) (w : World) (hl : s.length ≤ 100000) (hT : STabs2 w) (hP : TabP w) (hE0 : TabE w) : Calls Tryz.prog 6 #[.string (bs s)] w fun e w' => Ext w w' ∧ e = .returned (.bool true) := by
  refine sh_l_read_ok ?_
  refine (pRead s w hl hT hP hE0).mono ?_
  rintro e w1 ⟨hE1, hp⟩
  have s1 := hE1.size
  cases hr : P.term s with
  | err c a =>
    rw [hr] at hp
    subst hp
    simp (disch := first | assumption | omega | ((simp only [size_alloc, sz_drew, size_upd, List.size_toArray, List.length_cons, List.length_nil]) <;> omega) | decide) only [sh_l_read, Pr, PX, PC, NX, ends, fillL, wrL, sOf, Nat.reduceAdd, Nat.reduceMul, Nat.reduceLeDiff, Nat.reduceEqDiff, Int.reduceToNat, Int.reduceAdd, Int.reduceLT, Int.reduceLE, ↓reduceIte, forall_const, eq_self, zG1, zG2, al_40, ld_40, st_40]
    refine Calls.mono (rTerm s w1 hl) ?_
    rintro e w2 ⟨hE2, hq⟩
    have s2 := hE2.size
    rw [hr] at hq
    obtain ⟨hc, rfl⟩ := hq
    have hc' : ¬ ((c : Nat) : Int) = 0 := by omega
    have hE12 := hE1.trans hE2
    simp (disch := first | assumption | omega | ((simp only [size_alloc, sz_drew, size_upd, List.size_toArray, List.length_cons, List.length_nil]) <;> omega) | decide) only [sh_l_read, Pr, PX, PC, NX, ends, fillL, wrL, sOf, Nat.reduceAdd, Nat.reduceMul, Nat.reduceLeDiff, Nat.reduceEqDiff, Int.reduceToNat, Int.reduceAdd, Int.reduceLT, Int.reduceLE, ↓reduceIte, forall_const, eq_self, zG1, zG2, al_40, ld_40, st_40]
    exact (by (repeat (first | assumption | exact FrM.refl _ _ | (refine FrM.upd ?_ (.inr (by (try simp only [size_alloc, sz_drew, size_upd, List.size_toArray, List.length_cons, List.length_nil]) <;> omega))) | refine FrM.alloc ?_ _ | refine FrM.drew ?_)))
  | ok x k vs =>
    rw [hr] at hp
    subst hp
    obtain ⟨hok, hsz⟩ := P.term_ok hr
    simp (disch := first | assumption | omega | ((simp only [size_alloc, sz_drew, size_upd, List.size_toArray, List.length_cons, List.length_nil]) <;> omega) | decide) only [sh_l_read, Pr, PX, PC, NX, ends, fillL, wrL, sOf, Nat.reduceAdd, Nat.reduceMul, Nat.reduceLeDiff, Nat.reduceEqDiff, Int.reduceToNat, Int.reduceAdd, Int.reduceLT, Int.reduceLE, ↓reduceIte, forall_const, eq_self, zG1, zG2, al_40, ld_40, st_40]
    refine Calls.mono (rTerm s w1 hl) ?_
    rintro e w2 ⟨hE2, hq⟩
    have s2 := hE2.size
    rw [hr] at hq
    obtain ⟨av, va, vc, us, rfl, ⟨b, rfl, hb1, hb2, hul⟩, hx, h12⟩ := hq
    have l2 := ltOf hb2
    simp (disch := first | assumption | omega | ((simp only [size_alloc, sz_drew, size_upd, List.size_toArray, List.length_cons, List.length_nil]) <;> omega) | decide) only [sh_l_read, Pr, PX, PC, NX, ends, fillL, wrL, sOf, Nat.reduceAdd, Nat.reduceMul, Nat.reduceLeDiff, Nat.reduceEqDiff, Int.reduceToNat, Int.reduceAdd, Int.reduceLT, Int.reduceLE, ↓reduceIte, forall_const, eq_self, zG1, zG2, al_40, ld_40, st_40]
    obtain ⟨w3, hw3⟩ : ∃ y, y = upd (w2.alloc (.cells #[.string (bs []), .slice none 0 0, .int .u8 0, .string (bs []), .slice none 0 0, .slice none 0 0, .slice none 0 0] 40)) w2.heap.size
      (.cells #[.string (bs []), .slice (some ⟨b, 0, none⟩) 1 1, .int .u8 0, .string (bs []), .slice none 0 0, .slice none 0 0, .slice va vs.length vc] 40) := ⟨_, rfl⟩
    have hE3 : Ext w2 w3 := by rw [hw3]; (repeat (first | assumption | exact FrM.refl _ _ | (refine FrM.upd ?_ (.inr (by (try simp only [size_alloc, sz_drew, size_upd, List.size_toArray, List.length_cons, List.length_nil]) <;> omega))) | refine FrM.alloc ?_ _ | refine FrM.drew ?_))
    rw [← hw3]
    refine Calls.mono (rCanon hok hsz h12 (hE3.ext _ _ hb2) (hx.mono (F' := fun _ => True) (fun _ _ => trivial) fun _ _ _ ho => hE3.ext _ _ ho)) ?_
    rintro e w4 ⟨rfl, hE4⟩
    simp (disch := first | assumption | omega | ((simp only [size_alloc, sz_drew, size_upd, List.size_toArray, List.length_cons, List.length_nil]) <;> omega) | decide) only [sh_l_read, Pr, PX, PC, NX, ends, fillL, wrL, sOf, Nat.reduceAdd, Nat.reduceMul, Nat.reduceLeDiff, Nat.reduceEqDiff, Int.reduceToNat, Int.reduceAdd, Int.reduceLT, Int.reduceLE, ↓reduceIte, forall_const, eq_self, zG1, zG2, al_40, ld_40, st_40]
    exact ((hE1.trans hE2).trans hE3).trans hE4
theorem lReads (s : P.Bs) (w : World) (hT : STabs2 w) (hP : TabP w) (hE0 : TabE w) (hs : s.length ≤ 9223372036854775807) : Calls Tryz.prog 4 #[.string (bs s)] w fun e w' => Ext w w' ∧ e = .returned (.bool true) := by
  refine sh_l_Reads_ok ?_
  by_cases h : 32768 < s.length
  · simp (disch := first | assumption | omega | ((simp only [size_alloc, sz_drew, size_upd, List.size_toArray, List.length_cons, List.length_nil]) <;> omega) | decide) only [sh_l_Reads, Pr, PX, PC, NX, ends, fillL, wrL, sOf, Nat.reduceAdd, Nat.reduceMul, Nat.reduceLeDiff, Nat.reduceEqDiff, Int.reduceToNat, Int.reduceAdd, Int.reduceLT, Int.reduceLE, ↓reduceIte, forall_const, eq_self, zG1, zG2, ln_9]
    exact FrM.refl _ _
  · simp (disch := first | assumption | omega | ((simp only [size_alloc, sz_drew, size_upd, List.size_toArray, List.length_cons, List.length_nil]) <;> omega) | decide) only [sh_l_Reads, Pr, PX, PC, NX, ends, fillL, wrL, sOf, Nat.reduceAdd, Nat.reduceMul, Nat.reduceLeDiff, Nat.reduceEqDiff, Int.reduceToNat, Int.reduceAdd, Int.reduceLT, Int.reduceLE, ↓reduceIte, forall_const, eq_self, zG1, zG2, ln_9]
    refine (lRead s w (by omega) hT hP hE0).mono ?_
    rintro e w1 ⟨hE, rfl⟩
    simp (disch := first | assumption | omega | ((simp only [size_alloc, sz_drew, size_upd, List.size_toArray, List.length_cons, List.length_nil]) <;> omega) | decide) only [sh_l_Reads, Pr, PX, PC, NX, ends, fillL, wrL, sOf, Nat.reduceAdd, Nat.reduceMul, Nat.reduceLeDiff, Nat.reduceEqDiff, Int.reduceToNat, Int.reduceAdd, Int.reduceLT, Int.reduceLE, ↓reduceIte, forall_const, eq_self, zG1, zG2, ln_9]
    exact hE
end Go.Proofs.YtkmpelgfhjgddaaGreatDoor
namespace Go.Proofs.YtkmpelgfhjgddaaGreatDoor
open Go.ChangeShapes Go.WideShapes Go.ChangeAt Go.WideMaps Go.WideElems Go.RowKit
set_option maxRecDepth 100000
theorem strs_of {P : Program} {name : String} {W : World} {g t e n : Nat} {ss : List (List UInt8)} (hg : P.globalNamed name = some g) (ht : (P.globals[g]?).map (·.type) = some t)
    (hu : P.underlying t = some (.array n e)) (he : P.underlying e = some .string) (hc : P.cellsOf e = 1) (hct : P.cellsOf t = n)
    (h : laidMet P [(name, .agg (ss.map fun s => .lit (.string s)))] W) : ∃ cs T z, W.heap[g]? = some (.cells cs T z) ∧ cs.toList = ss.map fun s => .string ⟨s.toArray⟩ := by
  obtain ⟨ps, ⟨g', t', cs, f, p, q, hg', ht', hv, hd, -, -⟩, -, -⟩ := h
  obtain rfl := Option.some.inj (hg.symm.trans hg')
  obtain rfl := Option.some.inj (ht.symm.trans ht')
  have hcell : ∃ T z, W.heap[g]? = some (.cells cs T z) := by
    simp only [World.var?, hg, Option.bind_some] at hv
    split at hv
    · simp only [Option.some.injEq] at hv; subst hv; exact ⟨_, _, by assumption⟩
    · cases hv
  obtain ⟨T, z, hT⟩ := hcell
  obtain ⟨xs, m, rfl, hx, hl, hn, hel⟩ := DataW.trod_array hu hd
  simp only [Prod.mk.injEq, DataW.agg.injEq] at hx
  have hlen : ss.length = xs.length := by have := congrArg List.length hx.1; simpa using this
  refine ⟨cs, T, z, hT, ?_⟩
  refine List.ext_getElem (by simp [hl, hct, hlen, hn]) fun i h1 h2 => ?_
  have hi : i < n := by rw [← hct, ← hl]; exact h1
  have h3 := hel i hi
  have h4 : (cs.toList.drop (i * P.cellsOf e)).take (P.cellsOf e) = [cs.toList[i]] := by
    rw [hc, Nat.mul_one, List.drop_eq_getElem_cons h1]; rfl
  rw [h4, List.getElem?_eq_getElem (by omega)] at h3
  obtain ⟨s, e1, e2, -⟩ := DataW.trod_string he h3
  simp only [List.cons.injEq, and_true] at e1
  have h5 : (ss.map fun s => (DataW.lit (.string s) : DataW Unit))[i]'(by simpa [hlen, hn] using hi) = (xs.map (·.1))[i]'(by simpa [hn] using hi) := by
    simp only [hx.1]
  simp only [List.getElem_map, e2, DataW.lit.injEq, Lit.string.injEq] at h5
  rw [e1, List.getElem_map, h5]
theorem one_of {P : Program} {W : World} {l : List (String × DataW Unit)} {name : String} {d : DataW Unit} (h : laidMetH P l W) (hf : (l.filter fun x => x.1 == name) = [(name, d)]) (hd : d.handleName?.isNone = true) :
    laidMet P [(name, d)] W := by
  have h1 := h.filter fun x => x.1 == name
  rw [hf, MakeChecks.laidMetH_plain _ _ _ (by simp [hd])] at h1
  exact h1
theorem Tryz.gSigns : Tryz.prog.globalNamed "horn/syntax.signs" = some 1 := by kernel_rfl
theorem Tryz.gLevels : Tryz.prog.globalNamed "horn/syntax.levels" = some 2 := by kernel_rfl
theorem Tryz.gErr : Tryz.prog.globalNamed "errors.errorType" = some 0 := by kernel_rfl
theorem Tryz.rt : (Tryz.prog.cutTypes.find? (·.1 == "internal/reflectlite.rtype")).map (·.2) = some 185 := by kernel_rfl
theorem Tryz.oneRow : ((List.range (398 - 100)).filter fun t => Tryz.prog.rowNamed t [101, 114, 114, 111, 114]) = [48] := by kernel_rfl
theorem Tryz.size : Tryz.prog.types.size = 398 - 100 := by kernel_rfl
theorem errs_of {W : World} {l : List (String × DataW Unit)} (h : laidMetH Tryz.prog l W) (hf : (l.filter fun x => x.1 == "errors.errorType") = [("errors.errorType", Rows.laid_errors_errorType)]) : TabE W := by
  have h1 := h.filter fun x => x.1 == "errors.errorType"
  rw [hf] at h1
  have h' : laidMet Tryz.prog [] W ∧ handlesMet Tryz.prog [("errors.errorType", Rows.laid_errors_errorType)] W := h1
  obtain ⟨name, u, ty, e1, e2, e3, e4, e5⟩ := h'.2 _ (List.mem_singleton.2 rfl)
  have en : name = [101, 114, 114, 111, 114] := (Option.some.inj e1).symm
  subst en
  obtain rfl := Option.some.inj (Tryz.rt.symm.trans e2)
  have hm : ty ∈ (List.range (398 - 100)).filter fun t => Tryz.prog.rowNamed t [101, 114, 114, 111, 114] := List.mem_filter.2 ⟨List.mem_range.2 (by rw [← Tryz.size]; exact e3), e4⟩
  rw [Tryz.oneRow] at hm
  obtain rfl := List.mem_singleton.1 hm
  have hh : typeHandle Tryz.prog 48 = .pointer (some ⟨12, 48, none⟩) := by kernel_rfl
  rw [hh] at e5
  unfold TabE
  simpa using World.var?_cell Tryz.gErr e5 0
theorem signs_of {W : World} {l : List (String × DataW Unit)} (h : laidMetH Tryz.prog l W) (hf : (l.filter fun x => x.1 == "horn/syntax.signs") = [("horn/syntax.signs", Rows.laid_horn_syntax_signs)]) : STabS W := by
  have h1 := one_of h hf rfl
  obtain ⟨cs, T, z, h2, h3⟩ := strs_of (ss := P.signs) Tryz.gSigns (t := _) (e := 9) (n := 23) rfl rfl Tryz.underlying9 (by kernel_rfl) (by kernel_rfl) h1
  refine ⟨cs, T, z, h2, ?_, ?_⟩
  · rw [← Array.length_toList, h3]; decide
  · rw [h3]; rfl
theorem row_of {P : Program} {W : World} {t e f : Nat} {v : Value} {ss : List (List UInt8)} {x : List MemPlace} (hu : P.underlying t = some (.slice e)) (he : P.underlying e = some .string) (hc : P.cellsOf e = 1) (h0 : 0 < ss.length)
    (h : DataW.trod (fun _ => ()) P W 0 (fun _ => true) false f t [v] = some (.slice (ss.map fun s => .lit (.string s)) [], x)) :
    ∃ b o c, b < W.heap.size ∧ v = .slice (some ⟨b, o, none⟩) ss.length c ∧ ∀ j, j < ss.length → W.cell? ⟨b, o + j, none⟩ = some (.string ⟨(ss.getD j []).toArray⟩) := by
  obtain ⟨a, cap, e1, -, e3⟩ := open_row hu hc h
  simp only [List.cons.injEq, and_true, List.length_map] at e1
  have key : ∀ j, j < ss.length → W.cell? (a.add j) = some (.string ⟨(ss.getD j []).toArray⟩) := fun j hj => by
    obtain ⟨u, n, q, c1, c2⟩ := e3 j (.lit (.string ss[j])) (by rw [List.getElem?_map, List.getElem?_eq_getElem hj]; rfl)
    obtain ⟨s, d1, d2, -⟩ := DataW.trod_string he c2
    simp only [List.cons.injEq, and_true] at d1
    simp only [Prod.mk.injEq, DataW.lit.injEq, Lit.string.injEq] at d2
    rw [c1, d1, List.getD_eq_getElem?_getD, List.getElem?_eq_getElem hj, Option.getD_some, d2.1]
  have k0 := key 0 h0
  obtain ⟨b, o, sp⟩ := a
  have hsp : sp = none := by
    cases sp with
    | none => rfl
    | some y =>
      simp only [World.cell?, Addr.add] at k0
      split at k0
      · simp at k0
      · cases k0
  subst hsp
  have addE : ∀ j, (⟨b, o, none⟩ : Addr).add j = ⟨b, o + j, none⟩ := fun j => by
    unfold Addr.add
    by_cases hj : j = 0
    · subst hj; simp
    · simp [hj]
  have hb : b < W.heap.size := by
    rw [addE] at k0
    simp only [World.cell?] at k0
    cases hh : W.heap[b]? with
    | none => rw [hh] at k0; simp at k0
    | some o' => exact (Array.getElem?_eq_some_iff.1 hh).1
  exact ⟨b, o, cap, hb, e1, fun j hj => addE j ▸ key j hj⟩
theorem lev_of {W : World} {l : List (String × DataW Unit)} (h : laidMetH Tryz.prog l W) (hf : (l.filter fun x => x.1 == "horn/syntax.levels") = [("horn/syntax.levels", Rows.laid_horn_syntax_levels)]) : STab W W.heap.size := by
  obtain ⟨ps, ⟨g', t', cs, f, p, q, hg', ht', hv, hd, -, -⟩, -, -⟩ := one_of h hf rfl
  obtain rfl := Option.some.inj (Tryz.gLevels.symm.trans hg')
  obtain rfl := Option.some.inj ((show (Tryz.prog.globals[2]?).map (·.type) = some _ from rfl).symm.trans ht')
  obtain ⟨xs, m, rfl, hx, hl, hn, hel⟩ := DataW.trod_array (n := 2) (e := 38) rfl hd
  have hcell : ∃ T z, W.heap[2]? = some (.cells cs T z) := by
    simp only [World.var?, Tryz.gLevels, Option.bind_some] at hv
    split at hv
    · simp only [Option.some.injEq] at hv; subst hv; exact ⟨_, _, by assumption⟩
    · cases hv
  obtain ⟨T, z, hT⟩ := hcell
  have hc : Tryz.prog.cellsOf 38 = 1 := by kernel_rfl
  have hsz : cs.toList.length = 2 := by rw [hl]; kernel_rfl
  simp only [Prod.mk.injEq, Rows.laid_horn_syntax_levels, DataW.agg.injEq] at hx
  refine ⟨ltOf hT, fun i hi => ?_⟩
  have h3 := hel i hi
  have h4 : (cs.toList.drop (i * Tryz.prog.cellsOf 38)).take (Tryz.prog.cellsOf 38) = [cs.toList[i]] := by
    rw [hc, Nat.mul_one, List.drop_eq_getElem_cons (by omega)]; rfl
  rw [h4, List.getElem?_eq_getElem (by omega)] at h3
  have h5 : xs[i].1 = .slice ((P.ops i).map fun s => .lit (.string s)) [] := by
    have : (xs.map (·.1))[i]'(by simpa [hn] using hi) = xs[i].1 := by simp
    rw [← this]
    simp only [← hx.1]
    match i, hi with
    | 0, _ => rfl
    | 1, _ => rfl
  obtain ⟨b, o, c, k1, k2, k3⟩ := row_of (ss := P.ops i) (x := xs[i].2) (t := 38) (e := 9) Tryz.underlying38 Tryz.underlying9 (by kernel_rfl) (by unfold P.ops; split <;> simp) (by rw [h3, ← h5])
  refine ⟨b, o, c, k1, ?_, k3⟩
  simp only [World.cell?, hT]
  rw [if_neg (by simp), ← Array.getElem?_toList, List.getElem?_eq_getElem (by omega), k2]
theorem tabs2_of {W : World} {l : List (String × DataW Unit)} (h : laidMetH Tryz.prog l W) (h1 : (l.filter fun x => x.1 == "horn/syntax.signs") = [("horn/syntax.signs", Rows.laid_horn_syntax_signs)])
    (h2 : (l.filter fun x => x.1 == "horn/syntax.levels") = [("horn/syntax.levels", Rows.laid_horn_syntax_levels)]) : STabs2 W :=
  ⟨lev_of h h2, signs_of h h1⟩
theorem pow_of {W : World} {l : List (String × DataW Unit)} (h : laidMetH Tryz.prog l W) (hf : (l.filter fun x => x.1 == "internal/strconv.uint64pow10") = [("internal/strconv.uint64pow10", Rows.laid_internal_strconv_uint64pow10)]) : TabP W := by
  have h1 := one_of h hf rfl
  exact Lib.tabIs_of_head (zs := Lib.pow10Tab) (k := .u64) (n := 20) Tryz.gPow (t := _) (e := 212) rfl rfl rfl (by kernel_rfl) (by kernel_rfl) h1
end Go.Proofs.YtkmpelgfhjgddaaGreatDoor
namespace Go.Proofs.YtkmpelgfhjgddaaGreatDoor
open Go.ChangeShapes Go.WideShapes Go.RowKit
set_option maxRecDepth 100000
theorem Tryz.own : ownKnob Tryz.prog.godebug = none := by kernel_rfl
theorem keptExt {w w' : World} (h : Ext w w') (may : MemPlace → Prop) : w.keptBut w' may := by
  refine ⟨h.os, h.output, fun i hi => ?_⟩
  have e := h.ext i _ (Array.getElem?_eq_getElem hi)
  rw [e, Array.getElem?_eq_getElem hi]
  cases w.heap[i] with
  | cells c t fr => exact ⟨rfl, rfl, rfl, fun _ _ => rfl⟩
  | map es clock => exact .inr ⟨rfl, rfl⟩
  | _ => rfl
theorem laidMet_layAll {P : Program} {w0 w' : World} {laid : List (String × DataW Unit)} (hh : w'.heap = (w0.layVars P laid).heap) (hf : w0.layFits P laid [] = true) (hi : w0.layIfaces P laid w' = true) : laidMet P laid w' := by
  have e1 : (laid.filter fun x => (laid.map (·.1)).contains x.1) = laid := List.filter_eq_self.2 fun x hx => List.contains_iff_mem.2 (List.mem_map.2 ⟨x, hx, rfl⟩)
  have e2 : (laid.filter fun x => !(laid.map (·.1)).contains x.1) = [] := List.filter_eq_nil_iff.2 fun x hx => by rw [List.contains_iff_mem.2 (List.mem_map.2 ⟨x, hx, rfl⟩)]; simp
  exact laidMet_layVars (w0 := w0) (laid.map (·.1)) [] (by rw [e1]; exact hh) (by rw [e1]; exact hf) (by rw [e1]; exact hi) (by rw [e2]; exact LaidIn.none)
noncomputable def wH (os : Os) : World :=
  let w0 := World.holding Tryz.prog os ⟨#[], #[], []⟩
  { w0 with heap := w0.heap.modify 0 fun
      | .cells _ t frozen => .cells #[.iface 185 (.agg #[.pointer (some ⟨12, 48, none⟩)])] t frozen
      | o => o }
noncomputable def wLd (l : List (String × DataW Unit)) (os : Os) : World := (wH os).layVars Tryz.prog (l.filter fun x => x.2.handleName?.isNone)
theorem wLd_os (l : List (String × DataW Unit)) (os : Os) : (wLd l os).os = os := World.layVars_os _ _ _
theorem reads_door (os : Os) (args : Array Value) : laidMetH Tryz.prog Rows.readsRow.laid ((wLd Rows.readsRow.laid os).forCall (fun _ _ => 0) ⟨#[], args, []⟩).memory :=
  laidMetH_of_parts (laidMet_layAll (w0 := wH os) (by simp [World.memory, World.forCall, Input.heap, wLd]) (by kernel_rfl) (by kernel_rfl)) (by kernel_rfl)
end Go.Proofs.YtkmpelgfhjgddaaGreatDoor
