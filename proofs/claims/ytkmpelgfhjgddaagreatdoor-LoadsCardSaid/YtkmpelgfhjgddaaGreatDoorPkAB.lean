/- A part of one proof (RW20); no conditions beyond what each theorem names. -/
import Derived.Test.YtkmpelgfhjgddaaGreatDoorPkZ
import Derived.Test.YtkmpelgfhjgddaaGreatDoorPkA
set_option linter.all false
set_option linter.unusedVariables false
set_option linter.unusedSimpArgs false
namespace Go.Proofs.YtkmpelgfhjgddaaGreatDoor
open Go.RowKit Sx
set_option maxRecDepth 100000
def IsRc (F : Nat → Prop) (w : World) (l : List Value) (c : P.Cl) : Prop := ∃ av vs b0 b1 b2 b3 va vc, l = [.string (bs c.name), av, b0, b1, b2, b3, .slice va c.vars.length vc] ∧
  IsRw F w 69 5 av c.args.length vs ∧ IsRxs F w vs c.args ∧ IsRb F w [b0, b1, b2, b3] c.body
def RStC (pb tb : Nat) (T : List P.Tok) (w w' : World) (l : List Value) : P.Res P.Cl → Prop
  | .ok x k vs => IsRc (Nu w w') w' l x ∧ RP w' pb tb T k vs 0 0 0
  | .err c a => c ≠ 0 ∧ ∃ k vs, RP w' pb tb T k vs 0 c a
def One7 (l : List Value) : Prop := l.length = 7 ∧ ∀ u ∈ l, u.oneCell' = true
def RPostC (pb tb : Nat) (T : List P.Tok) (w : World) (r : P.Res P.Cl) (e : Ending) (w' : World) : Prop :=
  ∃ l, e = .returned (.agg l.toArray) ∧ One7 l ∧ RFr pb w w' ∧ RStC pb tb T w w' l r
theorem one7 {a b c d e f g : Value} (h0 : a.oneCell' = true) (h1 : b.oneCell' = true) (h2 : c.oneCell' = true) (h3 : d.oneCell' = true) (h4 : e.oneCell' = true) (h5 : f.oneCell' = true) (h6 : g.oneCell' = true) : One7 [a, b, c, d, e, f, g] :=
  ⟨rfl, fun u hu => by
    simp only [List.mem_cons, List.not_mem_nil, or_false] at hu
    rcases hu with rfl | rfl | rfl | rfl | rfl | rfl | rfl <;> assumption⟩
structure ClSt (pb tb : Nat) (T : List P.Tok) (w : World) (q3 q : Nat) (nm : P.Bs) (at_ : Nat) (r : P.Res P.Cl) (cont : List P.Ex → P.Bd → Nat → List P.Bs → Option (P.Res P.Cl)) (w' : World) : Prop where
  fr : RFr pb w w'
  z2 : w'.heap[w.heap.size]? = some (.cells #[.string (bs []), .slice none 0 0, .int .u8 0, .string (bs []), .slice none 0 0, .slice none 0 0, .slice none 0 0] 40 (0, 0))
  t3 : w'.heap[q3]? = some (.cells #[.int .u8 97, .string (bs nm), .int .i64 at_] 60 (0, 0))
  st : ∃ av b0 b1 b2 b3, w'.heap[q]? = some (.cells #[.string (bs nm), av, b0, b1, b2, b3, .slice none 0 0] 40 (0, 0)) ∧
    (av.oneCell' = true ∧ b0.oneCell' = true ∧ b1.oneCell' = true ∧ b2.oneCell' = true ∧ b3.oneCell' = true) ∧
    ((∃ us l bd k vs, IsRw (fun b => q < b ∧ b < w'.heap.size) w' 69 5 av l.length us ∧ IsRxs (fun b => q < b ∧ b < w'.heap.size) w' us l ∧ IsRb (fun b => q < b ∧ b < w'.heap.size) w' [b0, b1, b2, b3] bd ∧
        RP w' pb tb T k vs 0 0 0 ∧ cont l bd k vs = some r) ∨
      (∃ c a k vs, c ≠ 0 ∧ r = .err c a ∧ RP w' pb tb T k vs 0 c a))
theorem ClSt.mono {pb tb : Nat} {T : List P.Tok} {w : World} {q3 q : Nat} {nm : P.Bs} {at_ : Nat} {r : P.Res P.Cl} {cont cont' : List P.Ex → P.Bd → Nat → List P.Bs → Option (P.Res P.Cl)} {w' : World} (h : ClSt pb tb T w q3 q nm at_ r cont w')
    (hc : ∀ l bd k vs, cont l bd k vs = some r → cont' l bd k vs = some r) : ClSt pb tb T w q3 q nm at_ r cont' w' := by
  obtain ⟨h1, h2, h3, av, b0, b1, b2, b3, g1, g2, g3⟩ := h
  refine ⟨h1, h2, h3, av, b0, b1, b2, b3, g1, g2, ?_⟩
  rcases g3 with ⟨us, l, bd, k, vs, e1, e2, e3, e4, e5⟩ | g3
  · exact .inl ⟨us, l, bd, k, vs, e1, e2, e3, e4, hc _ _ _ _ e5⟩
  · exact .inr g3
theorem ClSt.step {pb tb : Nat} {T : List P.Tok} {w : World} {q3 q : Nat} {nm : P.Bs} {at_ : Nat} {r : P.Res P.Cl} {cont' : List P.Ex → P.Bd → Nat → List P.Bs → Option (P.Res P.Cl)} {w1 w2 : World} (h1 : RFr pb w w1) (hF : RFr pb w1 w2)
    (hl : pb < w.heap.size ∧ w.heap.size < q3 ∧ q3 < q)
    (z2 : w1.heap[w.heap.size]? = some (.cells #[.string (bs []), .slice none 0 0, .int .u8 0, .string (bs []), .slice none 0 0, .slice none 0 0, .slice none 0 0] 40 (0, 0)))
    (t3 : w1.heap[q3]? = some (.cells #[.int .u8 97, .string (bs nm), .int .i64 at_] 60 (0, 0))) {av b0 b1 b2 b3 : Value}
    (g1 : w1.heap[q]? = some (.cells #[.string (bs nm), av, b0, b1, b2, b3, .slice none 0 0] 40 (0, 0)))
    (g2 : av.oneCell' = true ∧ b0.oneCell' = true ∧ b1.oneCell' = true ∧ b2.oneCell' = true ∧ b3.oneCell' = true)
    (g3 : (∃ us l bd k vs, IsRw (fun b => q < b ∧ b < w1.heap.size) w1 69 5 av l.length us ∧ IsRxs (fun b => q < b ∧ b < w1.heap.size) w1 us l ∧ IsRb (fun b => q < b ∧ b < w1.heap.size) w1 [b0, b1, b2, b3] bd ∧
        RP w2 pb tb T k vs 0 0 0 ∧ cont' l bd k vs = some r) ∨
      (∃ c a k vs, c ≠ 0 ∧ r = .err c a ∧ RP w2 pb tb T k vs 0 c a)) : ClSt pb tb T w q3 q nm at_ r cont' w2 := by
  have := hF.size
  refine ⟨h1.trans hF, SFr.keep hF z2 (by omega) (by decide), SFr.keep hF t3 (by omega) (by decide), av, b0, b1, b2, b3, SFr.keep hF g1 (by omega) (by decide), g2, ?_⟩
  rcases g3 with ⟨us, l, bd, k, vs, e1, e2, e3, e4, e5⟩ | g3
  · have hm : ∀ b, (fun b => q < b ∧ b < w1.heap.size) b → (fun b => q < b ∧ b < w2.heap.size) b := fun b hb => ⟨hb.1, by have := hb.2; omega⟩
    have hn : ∀ b, (fun b => q < b ∧ b < w1.heap.size) b → b ≠ pb := fun b hb => by have := hb.1; omega
    exact .inl ⟨us, l, bd, k, vs, e1.mono hm (RFr.keeps hF hn (by decide)), IsRxs.mono hm (RFr.keeps hF hn (by decide)) _ _ e2, IsRb.fr e3 hF hn hm, e4, e5⟩
  · exact .inr g3
theorem rIsB {pb tb : Nat} {T : List P.Tok} {k : Nat} {vars : List P.Bs} {d : Int} {at_ : Nat} {w : World} (h : RP w pb tb T k vars d 0 at_) (s : P.Bs) :
    Calls Tryz.prog 32 #[.pointer (some ⟨pb, 0, none⟩), .string (bs s)] w fun e w' => e = .returned (.bool (P.isT T k s)) ∧ RP w' pb tb T (if P.isT T k s = true then k + 1 else k) vars d 0 at_ ∧ RFr pb w w' := by
  by_cases hs : P.isT T k s = true
  · refine Calls.mono (rIs_yes h s hs) ?_
    rintro e w' ⟨rfl, h1, h2⟩
    rw [if_pos hs, hs]
    exact ⟨rfl, h1, h2⟩
  · refine Calls.mono (rIs_no h s (.inr (by simpa using hs))) ?_
    rintro e w' ⟨rfl, h1, h2⟩
    have hs' : P.isT T k s = false := by simpa using hs
    rw [if_neg hs, hs']
    exact ⟨rfl, h1, h2⟩
theorem ClSt.at {pb tb : Nat} {T : List P.Tok} {w : World} {q3 q : Nat} {nm : P.Bs} {at_ : Nat} {r : P.Res P.Cl} {cont : List P.Ex → P.Bd → Nat → List P.Bs → Option (P.Res P.Cl)} {w' : World} (h : ClSt pb tb T w q3 q nm at_ r cont w') :
    ∃ av b0 b1 b2 b3 k vs er a, w'.heap[q]? = some (.cells #[.string (bs nm), av, b0, b1, b2, b3, .slice none 0 0] 40 (0, 0)) ∧
    (av.oneCell' = true ∧ b0.oneCell' = true ∧ b1.oneCell' = true ∧ b2.oneCell' = true ∧ b3.oneCell' = true) ∧ RP w' pb tb T k vs 0 er a ∧
    ((er = 0 ∧ a = 0 ∧ ∃ us l bd, IsRw (fun b => q < b ∧ b < w'.heap.size) w' 69 5 av l.length us ∧ IsRxs (fun b => q < b ∧ b < w'.heap.size) w' us l ∧ IsRb (fun b => q < b ∧ b < w'.heap.size) w' [b0, b1, b2, b3] bd ∧ cont l bd k vs = some r) ∨
      (er ≠ 0 ∧ r = .err er a)) := by
  obtain ⟨h1, h2, h3, av, b0, b1, b2, b3, g1, g2, g3⟩ := h
  rcases g3 with ⟨us, l, bd, k, vs, e1, e2, e3, e4, e5⟩ | ⟨c, a, k, vs, e1, e2, e3⟩
  · exact ⟨av, b0, b1, b2, b3, k, vs, 0, 0, g1, g2, e4, .inl ⟨rfl, rfl, us, l, bd, e1, e2, e3, e5⟩⟩
  · exact ⟨av, b0, b1, b2, b3, k, vs, c, a, g1, g2, e3, .inr ⟨e1, e2⟩⟩
theorem isRb_true (F : Nat → Prop) (w : World) : IsRb F w [.int .u8 103, .string (bs [116, 114, 117, 101]), .slice none 0 0, .slice none 0 0] P.trueB := by
  unfold P.trueB IsRb
  exact ⟨_, _, [], [], rfl, .inl ⟨rfl, rfl, rfl⟩, by unfold IsRxs; rfl, .inl ⟨rfl, rfl, rfl⟩, isRbs_nil⟩
theorem RPx.noVars {w : World} {pb tb : Nat} {T : List P.Tok} {k : Nat} {vars : List P.Bs} {d : Int} {er at_ lc : Nat} {vv : Value} (h : RPx w pb tb T k vars d er at_ lc vv) :
    RP (upd w pb (.cells #[.slice (some ⟨tb, 0, none⟩) T.length lc, .int .i64 k, .slice none 0 0, .int .i64 d, .int .i64 er, .int .i64 at_] 58 (0, 0))) pb tb T k [] d er at_ := by
  obtain ⟨tw, lt, kt, nv, dp, ⟨cs, c1, c2⟩, h1, h2, h3, g⟩ := h
  refine ⟨lc, .slice none 0 0, tw, lt, kt, ⟨by simp, fun _ => by simp⟩, dp, ⟨cs, ?_, c2⟩, h1, h2, hp_upd_same rfl (ltOf h3), World.ownsRow_nil _ _ _ _⟩
  rw [hp_upd_other (by omega)]; exact c1
set_option maxHeartbeats 1000000 in
theorem rClause {f : Nat} {pb tb : Nat} {T : List P.Tok} {k : Nat} {vars : List P.Bs} {w : World} {r : P.Res P.Cl} (h : RP w pb tb T k vars 0 0 0) (hr : P.pClause T f k = some r) :
    Calls Tryz.prog 18 #[.pointer (some ⟨pb, 0, none⟩)] w (RPostC pb tb T w r) := by
  obtain ⟨l1, hkt, hlT, h4⟩ := h.cs
  obtain ⟨lc, vv, hx⟩ := id h
  have h3 := hx.cell
  have htw := hx.tw
  refine sh_Pr_parser_clause_ok ?_
  simp (disch := first | assumption | omega | ((simp only [size_alloc, sz_drew, size_upd, List.size_toArray, List.length_cons, List.length_nil]) <;> omega) | decide) only [sh_Pr_parser_clause, Pr, PX, PC, NX, ends, fillL, wrL, sOf, Nat.reduceAdd, Nat.reduceMul, Nat.reduceLeDiff, Nat.reduceEqDiff, Int.reduceToNat, Int.reduceAdd, Int.reduceLT, Int.reduceLE, ↓reduceIte, forall_const, eq_self, zG1, zG2, al_40, al_60, bd_37, bd_40, fa_40_1, fa_40_2, fa_40_3, fa_58_1, fa_58_2, fa_58_4, fa_60_0, fa_60_1, fa_60_2, ld_29, ld_3, ld_38, ld_40, ld_5, ld_9, st_3, st_34, st_37, st_38, st_40, st_60, h3]
  have hZ : Ext w (w.alloc (.cells #[.string (bs []), .slice none 0 0, .int .u8 0, .string (bs []), .slice none 0 0, .slice none 0 0, .slice none 0 0] 40)) := by (repeat (first | assumption | exact FrM.refl _ _ | (refine FrM.upd ?_ (.inr (by (try simp only [size_alloc, sz_drew, size_upd, List.size_toArray, List.length_cons, List.length_nil]) <;> omega))) | refine FrM.alloc ?_ _ | refine FrM.drew ?_))
  have hP0 := (hx.ext hZ).noVars
  have hF0 : RFr pb w (upd (w.alloc (.cells #[.string (bs []), .slice none 0 0, .int .u8 0, .string (bs []), .slice none 0 0, .slice none 0 0, .slice none 0 0] 40)) pb (.cells #[.slice (some ⟨tb, 0, none⟩) T.length lc, .int .i64 k, .slice none 0 0, .int .i64 0, .int .i64 0, .int .i64 0] 58 (0, 0))) := hZ.toM.upd (.inl fun _ => .inl rfl)
  have z0 : (upd (w.alloc (.cells #[.string (bs []), .slice none 0 0, .int .u8 0, .string (bs []), .slice none 0 0, .slice none 0 0, .slice none 0 0] 40)) pb (.cells #[.slice (some ⟨tb, 0, none⟩) T.length lc, .int .i64 k, .slice none 0 0, .int .i64 0, .int .i64 0, .int .i64 0] 58 (0, 0))).heap[w.heap.size]? = some (.cells #[.string (bs []), .slice none 0 0, .int .u8 0, .string (bs []), .slice none 0 0, .slice none 0 0, .slice none 0 0] 40 (0, 0)) := by rw [hp_upd_other (by omega)]; exact hp_alloc_new rfl
  refine Calls.mono (rNext hP0) ?_
  rintro e w1 ⟨rfl, hE1⟩
  have z1 := hE1.ext _ _ z0
  have hP1 := hP0.ext hE1
  have hF1 := hF0.trans hE1.toM
  have lz1 := ltOf z1
  clear hP0 hF0 z0 hE1 hZ h3 hx h
  by_cases hk1 : (P.tk T k).kind = 1
  · have hrk : rk (P.tk T k).kind = 97 := (rk_atom h4).2 hk1
    rw [hrk]
    obtain ⟨lc, vv, hx1⟩ := id hP1
    have h3 := hx1.cell
    simp (disch := first | assumption | omega | ((simp only [size_alloc, sz_drew, size_upd, List.size_toArray, List.length_cons, List.length_nil]) <;> omega) | decide) only [sh_Pr_parser_clause, Pr, PX, PC, NX, ends, fillL, wrL, sOf, Nat.reduceAdd, Nat.reduceMul, Nat.reduceLeDiff, Nat.reduceEqDiff, Int.reduceToNat, Int.reduceAdd, Int.reduceLT, Int.reduceLE, ↓reduceIte, forall_const, eq_self, zG1, zG2, al_40, al_60, bd_37, bd_40, fa_40_1, fa_40_2, fa_40_3, fa_58_1, fa_58_2, fa_58_4, fa_60_0, fa_60_1, fa_60_2, ld_29, ld_3, ld_38, ld_40, ld_5, ld_9, st_3, st_34, st_37, st_38, st_40, st_60, h3]
    have hnx := hx1.tw.toTW.next hkt (by omega)
    rw [P.pClause, if_pos hk1] at hr
    generalize hnm : (P.tk T k).text = nm at *
    generalize hps : (P.tk T k).pos = pos at *
    have hXa : Ext w1 (upd (w1.alloc (.cells #[.int .u8 0, .string (bs []), .int .i64 0] 60)) w1.heap.size (.cells #[.int .u8 ((97 : Nat) : Int), .string (bs nm), .int .i64 pos] 60)) := by (repeat (first | assumption | exact FrM.refl _ _ | (refine FrM.upd ?_ (.inr (by (try simp only [size_alloc, sz_drew, size_upd, List.size_toArray, List.length_cons, List.length_nil]) <;> omega))) | refine FrM.alloc ?_ _ | refine FrM.drew ?_))
    have hPb := RP.of ((hx1.ext hXa).set (k' := k + 1) (kz := (k : Int) + 1) (d' := 0) (er' := 0) (at' := 0) hnx (by omega) (by omega) (fun h => h))
    have e4 : (upd (upd (w1.alloc (.cells #[.int .u8 0, .string (bs []), .int .i64 0] 60)) w1.heap.size (.cells #[.int .u8 ((97 : Nat) : Int), .string (bs nm), .int .i64 pos] 60)) pb
      (.cells #[.slice (some ⟨tb, 0, none⟩) T.length lc, .int .i64 (↑k + 1), vv, .int .i64 0, .int .i64 ((0 : Nat) : Int), .int .i64 ((0 : Nat) : Int)] 58)).heap.size = w1.heap.size + 1 := by simp only [size_upd, size_alloc]
    rw [e4]
    have hXb : Ext (upd (upd (w1.alloc (.cells #[.int .u8 0, .string (bs []), .int .i64 0] 60)) w1.heap.size (.cells #[.int .u8 ((97 : Nat) : Int), .string (bs nm), .int .i64 pos] 60)) pb
      (.cells #[.slice (some ⟨tb, 0, none⟩) T.length lc, .int .i64 (↑k + 1), vv, .int .i64 0, .int .i64 ((0 : Nat) : Int), .int .i64 ((0 : Nat) : Int)] 58)) (upd ((upd (upd (w1.alloc (.cells #[.int .u8 0, .string (bs []), .int .i64 0] 60)) w1.heap.size (.cells #[.int .u8 ((97 : Nat) : Int), .string (bs nm), .int .i64 pos] 60)) pb
      (.cells #[.slice (some ⟨tb, 0, none⟩) T.length lc, .int .i64 (↑k + 1), vv, .int .i64 0, .int .i64 ((0 : Nat) : Int), .int .i64 ((0 : Nat) : Int)] 58)).alloc (.cells #[.string (bs []), .slice none 0 0, .int .u8 0, .string (bs []), .slice none 0 0, .slice none 0 0, .slice none 0 0] 40)) (w1.heap.size + 1)
      (.cells #[.string (bs nm), .slice none 0 0, .int .u8 103, .string (bs [116, 114, 117, 101]), .slice none 0 0, .slice none 0 0, .slice none 0 0] 40)) := (FrM.alloc (FrM.refl _ _) _).upd (.inr (by rw [e4]; exact Nat.le_refl _))
    have hP4 := hPb.ext hXb
    have hF4 := ((hF1.trans hXa.toM).upd (p := pb) (o := .cells #[.slice (some ⟨tb, 0, none⟩) T.length lc, .int .i64 (↑k + 1), vv, .int .i64 0, .int .i64 ((0 : Nat) : Int), .int .i64 ((0 : Nat) : Int)] 58) (.inl fun _ => .inl rfl)).trans hXb.toM
    have z4 := hXb.ext _ _ (show _ = _ by rw [hp_upd_other (show ¬ w.heap.size = pb by omega)]; exact hXa.ext _ _ z1)
    have t4 := hXb.ext _ _ (show _ = some (.cells #[.int .u8 ((97 : Nat) : Int), .string (bs nm), .int .i64 pos] 60) by rw [hp_upd_other (show ¬ w1.heap.size = pb by omega)]; exact hp_upd_same rfl (by rw [size_alloc]; omega))
    have g4 : (upd ((upd (upd (w1.alloc (.cells #[.int .u8 0, .string (bs []), .int .i64 0] 60)) w1.heap.size (.cells #[.int .u8 ((97 : Nat) : Int), .string (bs nm), .int .i64 pos] 60)) pb
      (.cells #[.slice (some ⟨tb, 0, none⟩) T.length lc, .int .i64 (↑k + 1), vv, .int .i64 0, .int .i64 ((0 : Nat) : Int), .int .i64 ((0 : Nat) : Int)] 58)).alloc (.cells #[.string (bs []), .slice none 0 0, .int .u8 0, .string (bs []), .slice none 0 0, .slice none 0 0, .slice none 0 0] 40)) (w1.heap.size + 1)
      (.cells #[.string (bs nm), .slice none 0 0, .int .u8 103, .string (bs [116, 114, 117, 101]), .slice none 0 0, .slice none 0 0, .slice none 0 0] 40)).heap[w1.heap.size + 1]? = some (.cells #[.string (bs nm), .slice none 0 0, .int .u8 103, .string (bs [116, 114, 117, 101]), .slice none 0 0, .slice none 0 0, .slice none 0 0] 40 (0, 0)) :=
      hp_upd_same rfl (by rw [size_alloc, e4]; omega)
    have s4 : (upd ((upd (upd (w1.alloc (.cells #[.int .u8 0, .string (bs []), .int .i64 0] 60)) w1.heap.size (.cells #[.int .u8 ((97 : Nat) : Int), .string (bs nm), .int .i64 pos] 60)) pb
      (.cells #[.slice (some ⟨tb, 0, none⟩) T.length lc, .int .i64 (↑k + 1), vv, .int .i64 0, .int .i64 ((0 : Nat) : Int), .int .i64 ((0 : Nat) : Int)] 58)).alloc (.cells #[.string (bs []), .slice none 0 0, .int .u8 0, .string (bs []), .slice none 0 0, .slice none 0 0, .slice none 0 0] 40)) (w1.heap.size + 1)
      (.cells #[.string (bs nm), .slice none 0 0, .int .u8 103, .string (bs [116, 114, 117, 101]), .slice none 0 0, .slice none 0 0, .slice none 0 0] 40)).heap.size = w1.heap.size + 2 := by rw [size_upd, size_alloc, e4]
    generalize (upd ((upd (upd (w1.alloc (.cells #[.int .u8 0, .string (bs []), .int .i64 0] 60)) w1.heap.size (.cells #[.int .u8 ((97 : Nat) : Int), .string (bs nm), .int .i64 pos] 60)) pb
      (.cells #[.slice (some ⟨tb, 0, none⟩) T.length lc, .int .i64 (↑k + 1), vv, .int .i64 0, .int .i64 ((0 : Nat) : Int), .int .i64 ((0 : Nat) : Int)] 58)).alloc (.cells #[.string (bs []), .slice none 0 0, .int .u8 0, .string (bs []), .slice none 0 0, .slice none 0 0, .slice none 0 0] 40)) (w1.heap.size + 1)
      (.cells #[.string (bs nm), .slice none 0 0, .int .u8 103, .string (bs [116, 114, 117, 101]), .slice none 0 0, .slice none 0 0, .slice none 0 0] 40)) = w4 at *
    clear hXb e4 hPb hXa h3 hx1 hF1 hP1 z1
    generalize hq3 : w1.heap.size = q3 at *
    have hqq : pb < w.heap.size ∧ w.heap.size < q3 ∧ q3 < q3 + 1 := ⟨l1, by omega, by omega⟩
    have hnilx : ∀ (F : Nat → Prop) (w : World), IsRw F w 69 5 (.slice none 0 0) ([] : List P.Ex).length [] := fun _ _ => .inl ⟨rfl, rfl, rfl⟩
    refine Calls.mono (rIsB hP4 [40]) ?_
    rintro e w5 ⟨rfl, hP5, hF5⟩
    simp (disch := first | assumption | omega | ((simp only [size_alloc, sz_drew, size_upd, List.size_toArray, List.length_cons, List.length_nil]) <;> omega) | decide) only [sh_Pr_parser_clause, Pr, PX, PC, NX, ends, fillL, wrL, sOf, Nat.reduceAdd, Nat.reduceMul, Nat.reduceLeDiff, Nat.reduceEqDiff, Int.reduceToNat, Int.reduceAdd, Int.reduceLT, Int.reduceLE, ↓reduceIte, forall_const, eq_self, zG1, zG2, al_40, al_60, bd_37, bd_40, fa_40_1, fa_40_2, fa_40_3, fa_58_1, fa_58_2, fa_58_4, fa_60_0, fa_60_1, fa_60_2, ld_29, ld_3, ld_38, ld_40, ld_5, ld_9, st_3, st_34, st_37, st_38, st_40, st_60]
    refine ⟨fun s w' => ClSt pb tb T w q3 (q3 + 1) nm pos r (pTail1 T f nm pos) w', ?_, ?_⟩
    · by_cases ho : P.isT T (k + 1) [40] = true
      · rw [if_pos ho] at hr hP5
        rw [ho]
        have z5 := SFr.keep hF5 z4 (by omega) (by decide)
        have t5 := SFr.keep hF5 t4 (by omega) (by decide)
        have g5 := SFr.keep hF5 g4 (by omega) (by decide)
        simp (disch := first | assumption | omega | ((simp only [size_alloc, sz_drew, size_upd, List.size_toArray, List.length_cons, List.length_nil]) <;> omega) | decide) only [sh_Pr_parser_clause, Pr, PX, PC, NX, ends, fillL, wrL, sOf, Nat.reduceAdd, Nat.reduceMul, Nat.reduceLeDiff, Nat.reduceEqDiff, Int.reduceToNat, Int.reduceAdd, Int.reduceLT, Int.reduceLE, ↓reduceIte, forall_const, eq_self, zG1, zG2, al_40, al_60, bd_37, bd_40, fa_40_1, fa_40_2, fa_40_3, fa_58_1, fa_58_2, fa_58_4, fa_60_0, fa_60_1, fa_60_2, ld_29, ld_3, ld_38, ld_40, ld_5, ld_9, st_3, st_34, st_37, st_38, st_40, st_60, t5]
        cases hq : P.pArgs T f (k + 2) [] 0 pos [] with
        | none => rw [hq] at hr; simp [P.Res.bind] at hr
        | some qa =>
        rw [hq] at hr
        refine Calls.mono ((rTerms f).2.2.2.1.go (d := 0) pos hP5 (by omega) hq) ?_
        rintro e w6 ⟨av, an, ac, rfl, hF6, hst⟩
        have s5 := hF5.size
        have s6 := hF6.size
        have z6 := SFr.keep hF6 z5 (by omega) (by decide)
        have t6 := SFr.keep hF6 t5 (by omega) (by decide)
        have g6 := SFr.keep hF6 g5 (by omega) (by decide)
        have lg6 := ltOf g6
        simp (disch := first | assumption | omega | ((simp only [size_alloc, sz_drew, size_upd, List.size_toArray, List.length_cons, List.length_nil]) <;> omega) | decide) only [sh_Pr_parser_clause, Pr, PX, PC, NX, ends, fillL, wrL, sOf, Nat.reduceAdd, Nat.reduceMul, Nat.reduceLeDiff, Nat.reduceEqDiff, Int.reduceToNat, Int.reduceAdd, Int.reduceLT, Int.reduceLE, ↓reduceIte, forall_const, eq_self, zG1, zG2, al_40, al_60, bd_37, bd_40, fa_40_1, fa_40_2, fa_40_3, fa_58_1, fa_58_2, fa_58_4, fa_60_0, fa_60_1, fa_60_2, ld_29, ld_3, ld_38, ld_40, ld_5, ld_9, st_3, st_34, st_37, st_38, st_40, st_60, g6]
        have hF06 := ((hF4.trans hF5).trans hF6).upd (p := q3 + 1) (o := .cells #[.string (bs nm), .slice av an ac, .int .u8 103, .string (bs [116, 114, 117, 101]), .slice none 0 0, .slice none 0 0, .slice none 0 0] 40 (0, 0)) (.inr (by omega))
        have z7 : (upd w6 (q3 + 1) (.cells #[.string (bs nm), .slice av an ac, .int .u8 103, .string (bs [116, 114, 117, 101]), .slice none 0 0, .slice none 0 0, .slice none 0 0] 40 (0, 0))).heap[w.heap.size]? = some _ := (hp_upd_other (by omega)).trans z6
        have t7 : (upd w6 (q3 + 1) (.cells #[.string (bs nm), .slice av an ac, .int .u8 103, .string (bs [116, 114, 117, 101]), .slice none 0 0, .slice none 0 0, .slice none 0 0] 40 (0, 0))).heap[q3]? = some _ := (hp_upd_other (by omega)).trans t6
        have g7 : (upd w6 (q3 + 1) (.cells #[.string (bs nm), .slice av an ac, .int .u8 103, .string (bs [116, 114, 117, 101]), .slice none 0 0, .slice none 0 0, .slice none 0 0] 40 (0, 0))).heap[q3 + 1]? = some _ := hp_upd_same rfl lg6
        cases qa with
        | err c a =>
          obtain ⟨hc, k2, vs2, hP6⟩ := hst
          simp only [P.Res.bind, Option.some.injEq] at hr
          refine Calls.mono (rMustE (hP6.updT (by omega) g6 (by decide)) [41] hc) ?_
          rintro e w8 ⟨rfl, hP8, hF8⟩
          simp (disch := first | assumption | omega | ((simp only [size_alloc, sz_drew, size_upd, List.size_toArray, List.length_cons, List.length_nil]) <;> omega) | decide) only [sh_Pr_parser_clause, Pr, PX, PC, NX, ends, fillL, wrL, sOf, Nat.reduceAdd, Nat.reduceMul, Nat.reduceLeDiff, Nat.reduceEqDiff, Int.reduceToNat, Int.reduceAdd, Int.reduceLT, Int.reduceLE, ↓reduceIte, forall_const, eq_self, zG1, zG2, al_40, al_60, bd_37, bd_40, fa_40_1, fa_40_2, fa_40_3, fa_58_1, fa_58_2, fa_58_4, fa_60_0, fa_60_1, fa_60_2, ld_29, ld_3, ld_38, ld_40, ld_5, ld_9, st_3, st_34, st_37, st_38, st_40, st_60]
          exact ClSt.step hF06 hF8 hqq z7 t7 g7 ⟨rfl, rfl, rfl, rfl, rfl⟩ (.inr ⟨c, a, k2, vs2, hc, hr.symm, hP8⟩)
        | ok l k2 vs2 =>
          obtain ⟨⟨us, hu1, hu2⟩, hP6⟩ := hst
          simp only [P.Res.bind] at hr
          have hm : ∀ b, Nu w5 w6 b → q3 + 1 < b ∧ b < (upd w6 (q3 + 1) (.cells #[.string (bs nm), .slice av an ac, .int .u8 103, .string (bs [116, 114, 117, 101]), .slice none 0 0, .slice none 0 0, .slice none 0 0] 40 (0, 0))).heap.size := fun b hb => ⟨by have := hb.1; omega, by rw [size_upd]; exact hb.2⟩
          have hk : Keeps (Nu w5 w6) 69 w6 (upd w6 (q3 + 1) (.cells #[.string (bs nm), .slice av an ac, .int .u8 103, .string (bs [116, 114, 117, 101]), .slice none 0 0, .slice none 0 0, .slice none 0 0] 40 (0, 0))) := fun b cs hb hc => by
            rw [hp_upd_other (by have := hb.1; omega)]; exact hc
          cases hmu : P.musT T [41] l k2 vs2 with
          | none => rw [hmu] at hr; cases hr
          | some qm =>
          rw [hmu] at hr
          refine rMustX (hP6.updT (by omega) g6 (by decide)) [41] l hmu ?_ ?_
          · intro w8 hrm hP8 hF8
            rw [hrm] at hr
            simp (disch := first | assumption | omega | ((simp only [size_alloc, sz_drew, size_upd, List.size_toArray, List.length_cons, List.length_nil]) <;> omega) | decide) only [sh_Pr_parser_clause, Pr, PX, PC, NX, ends, fillL, wrL, sOf, Nat.reduceAdd, Nat.reduceMul, Nat.reduceLeDiff, Nat.reduceEqDiff, Int.reduceToNat, Int.reduceAdd, Int.reduceLT, Int.reduceLE, ↓reduceIte, forall_const, eq_self, zG1, zG2, al_40, al_60, bd_37, bd_40, fa_40_1, fa_40_2, fa_40_3, fa_58_1, fa_58_2, fa_58_4, fa_60_0, fa_60_1, fa_60_2, ld_29, ld_3, ld_38, ld_40, ld_5, ld_9, st_3, st_34, st_37, st_38, st_40, st_60]
            exact ClSt.step hF06 hF8 hqq z7 t7 g7 ⟨rfl, rfl, rfl, rfl, rfl⟩ (.inl ⟨us, l, P.trueB, _, _, hu1.mono hm hk, IsRxs.mono hm hk _ _ hu2, isRb_true _ _, hP8, hr⟩)
          · intro w8 a hrm hP8 hF8
            rw [hrm] at hr
            simp only [Option.some.injEq] at hr
            simp (disch := first | assumption | omega | ((simp only [size_alloc, sz_drew, size_upd, List.size_toArray, List.length_cons, List.length_nil]) <;> omega) | decide) only [sh_Pr_parser_clause, Pr, PX, PC, NX, ends, fillL, wrL, sOf, Nat.reduceAdd, Nat.reduceMul, Nat.reduceLeDiff, Nat.reduceEqDiff, Int.reduceToNat, Int.reduceAdd, Int.reduceLT, Int.reduceLE, ↓reduceIte, forall_const, eq_self, zG1, zG2, al_40, al_60, bd_37, bd_40, fa_40_1, fa_40_2, fa_40_3, fa_58_1, fa_58_2, fa_58_4, fa_60_0, fa_60_1, fa_60_2, ld_29, ld_3, ld_38, ld_40, ld_5, ld_9, st_3, st_34, st_37, st_38, st_40, st_60]
            exact ClSt.step hF06 hF8 hqq z7 t7 g7 ⟨rfl, rfl, rfl, rfl, rfl⟩ (.inr ⟨2, a, _, _, by decide, hr.symm, hP8⟩)
      · rw [if_neg ho] at hr hP5
        have ho' : P.isT T (k + 1) [40] = false := by simpa using ho
        rw [ho', bs_false]
        exact ClSt.step hF4 hF5 hqq z4 t4 g4 ⟨rfl, rfl, rfl, rfl, rfl⟩ (.inl ⟨[], [], P.trueB, _, _, hnilx _ _, by unfold IsRxs; rfl, isRb_true _ _, hP5, hr⟩)
    · rintro s w6 hS dd
      have z6 := hS.z2
      have t6 := hS.t3
      have hF6 := hS.fr
      obtain ⟨av, b0, b1, b2, b3, k6, vs6, er, a6, g6, ⟨o0, o1, o2, o3, o4⟩, hP6, hq6⟩ := hS.at
      simp (disch := first | assumption | omega | ((simp only [size_alloc, sz_drew, size_upd, List.size_toArray, List.length_cons, List.length_nil]) <;> omega) | decide) only [sh_Pr_parser_clause, Pr, PX, PC, NX, ends, fillL, wrL, sOf, Nat.reduceAdd, Nat.reduceMul, Nat.reduceLeDiff, Nat.reduceEqDiff, Int.reduceToNat, Int.reduceAdd, Int.reduceLT, Int.reduceLE, ↓reduceIte, forall_const, eq_self, zG1, zG2, al_40, al_60, bd_37, bd_40, fa_40_1, fa_40_2, fa_40_3, fa_58_1, fa_58_2, fa_58_4, fa_60_0, fa_60_1, fa_60_2, ld_29, ld_3, ld_38, ld_40, ld_5, ld_9, st_3, st_34, st_37, st_38, st_40, st_60, t6]
      refine (rTests _ _).mono ?_
      rintro e w7 ⟨rfl, rfl⟩
      obtain ⟨lc6, vv6, hx6⟩ := id hP6
      have h36 := hx6.cell
      simp (disch := first | assumption | omega | ((simp only [size_alloc, sz_drew, size_upd, List.size_toArray, List.length_cons, List.length_nil]) <;> omega) | decide) only [sh_Pr_parser_clause, Pr, PX, PC, NX, ends, fillL, wrL, sOf, Nat.reduceAdd, Nat.reduceMul, Nat.reduceLeDiff, Nat.reduceEqDiff, Int.reduceToNat, Int.reduceAdd, Int.reduceLT, Int.reduceLE, ↓reduceIte, forall_const, eq_self, zG1, zG2, al_40, al_60, bd_37, bd_40, fa_40_1, fa_40_2, fa_40_3, fa_58_1, fa_58_2, fa_58_4, fa_60_0, fa_60_1, fa_60_2, ld_29, ld_3, ld_38, ld_40, ld_5, ld_9, st_3, st_34, st_37, st_38, st_40, st_60]
      refine ⟨fun s w' => ClSt pb tb T w q3 (q3 + 1) nm pos r (pTail2 T f nm) w', ?_, ?_⟩
      · refine ⟨fun s w' => w' = w7 ∧ s 56 = .bool (decide (er = 0 ∧ (0 ≤ P.tests nm ∨ nm = [109, 111, 100]))), ?_, ?_⟩
        · simp (disch := first | assumption | omega | ((simp only [size_alloc, sz_drew, size_upd, List.size_toArray, List.length_cons, List.length_nil]) <;> omega) | decide) only [sh_Pr_parser_clause, Pr, PX, PC, NX, ends, fillL, wrL, sOf, Nat.reduceAdd, Nat.reduceMul, Nat.reduceLeDiff, Nat.reduceEqDiff, Int.reduceToNat, Int.reduceAdd, Int.reduceLT, Int.reduceLE, ↓reduceIte, forall_const, eq_self, zG1, zG2, al_40, al_60, bd_37, bd_40, fa_40_1, fa_40_2, fa_40_3, fa_58_1, fa_58_2, fa_58_4, fa_60_0, fa_60_1, fa_60_2, ld_29, ld_3, ld_38, ld_40, ld_5, ld_9, st_3, st_34, st_37, st_38, st_40, st_60, h36, t6, bs_dec]
          by_cases b1 : er = 0 <;> by_cases b2 : 0 ≤ P.tests nm <;> by_cases b3 : nm = [109, 111, 100] <;> simp [b1, b2, b3]
        · rintro s8 w8 ⟨rfl, hs8⟩ dd8
          rw [hs8]
          by_cases hb : er = 0 ∧ (0 ≤ P.tests nm ∨ nm = [109, 111, 100])
          · rw [bs_pos _ _ hb]
            obtain ⟨rfl, hb⟩ := hb
            obtain ⟨-, rfl, us, l, bd, e1, e2, e3, e5⟩ := hq6.resolve_right (by simp)
            rw [pTail1, if_pos hb] at e5
            simp (disch := first | assumption | omega | ((simp only [size_alloc, sz_drew, size_upd, List.size_toArray, List.length_cons, List.length_nil]) <;> omega) | decide) only [sh_Pr_parser_clause, Pr, PX, PC, NX, ends, fillL, wrL, sOf, Nat.reduceAdd, Nat.reduceMul, Nat.reduceLeDiff, Nat.reduceEqDiff, Int.reduceToNat, Int.reduceAdd, Int.reduceLT, Int.reduceLE, ↓reduceIte, forall_const, eq_self, zG1, zG2, al_40, al_60, bd_37, bd_40, fa_40_1, fa_40_2, fa_40_3, fa_58_1, fa_58_2, fa_58_4, fa_60_0, fa_60_1, fa_60_2, ld_29, ld_3, ld_38, ld_40, ld_5, ld_9, st_3, st_34, st_37, st_38, st_40, st_60, t6]
            refine Calls.mono (rFault hP6 3 _) ?_
            rintro e w9 ⟨rfl, hP9, hF9⟩
            rw [if_pos rfl, if_pos rfl] at hP9
            simp (disch := first | assumption | omega | ((simp only [size_alloc, sz_drew, size_upd, List.size_toArray, List.length_cons, List.length_nil]) <;> omega) | decide) only [sh_Pr_parser_clause, Pr, PX, PC, NX, ends, fillL, wrL, sOf, Nat.reduceAdd, Nat.reduceMul, Nat.reduceLeDiff, Nat.reduceEqDiff, Int.reduceToNat, Int.reduceAdd, Int.reduceLT, Int.reduceLE, ↓reduceIte, forall_const, eq_self, zG1, zG2, al_40, al_60, bd_37, bd_40, fa_40_1, fa_40_2, fa_40_3, fa_58_1, fa_58_2, fa_58_4, fa_60_0, fa_60_1, fa_60_2, ld_29, ld_3, ld_38, ld_40, ld_5, ld_9, st_3, st_34, st_37, st_38, st_40, st_60]
            exact ClSt.step hF6 hF9 hqq z6 t6 g6 ⟨o0, o1, o2, o3, o4⟩ (.inr ⟨3, pos, _, _, by decide, (Option.some.inj e5).symm, hP9⟩)
          · rw [bs_neg _ _ hb]
            refine ClSt.step hF6 (FrM.refl _ _) hqq z6 t6 g6 ⟨o0, o1, o2, o3, o4⟩ ?_
            rcases hq6 with ⟨rfl, rfl, us, l, bd, e1, e2, e3, e5⟩ | ⟨h1, h2⟩
            · rw [pTail1, if_neg (fun h => hb ⟨rfl, h⟩)] at e5
              exact .inl ⟨us, l, bd, _, _, e1, e2, e3, hP6, e5⟩
            · exact .inr ⟨er, a6, _, _, h1, h2, hP6⟩
      · clear hq6 hP6 g6 o0 o1 o2 o3 o4 h36 hx6 t6 z6 hF6 hS
        rintro s8 w8 hS dd8
        have z6 := hS.z2
        have t6 := hS.t3
        have hF6 := hS.fr
        obtain ⟨av, b0, b1, b2, b3, k6, vs6, er, a6, g6, ⟨o0, o1, o2, o3, o4⟩, hP6, hq6⟩ := hS.at
        obtain ⟨lc6, vv6, hx6⟩ := id hP6
        have h36 := hx6.cell
        have lz6 := ltOf z6
        by_cases he : er = 0
        · subst he
          obtain ⟨-, rfl, us, l, bd, e1, e2, e3, e5⟩ := hq6.resolve_right (by simp)
          simp (disch := first | assumption | omega | ((simp only [size_alloc, sz_drew, size_upd, List.size_toArray, List.length_cons, List.length_nil]) <;> omega) | decide) only [sh_Pr_parser_clause, Pr, PX, PC, NX, ends, fillL, wrL, sOf, Nat.reduceAdd, Nat.reduceMul, Nat.reduceLeDiff, Nat.reduceEqDiff, Int.reduceToNat, Int.reduceAdd, Int.reduceLT, Int.reduceLE, ↓reduceIte, forall_const, eq_self, zG1, zG2, al_40, al_60, bd_37, bd_40, fa_40_1, fa_40_2, fa_40_3, fa_58_1, fa_58_2, fa_58_4, fa_60_0, fa_60_1, fa_60_2, ld_29, ld_3, ld_38, ld_40, ld_5, ld_9, st_3, st_34, st_37, st_38, st_40, st_60, h36]
          refine Calls.mono (rIsB hP6 [58, 45]) ?_
          rintro e w9 ⟨rfl, hP9, hF9⟩
          have z9 := SFr.keep hF9 z6 (by omega) (by decide)
          have t9 := SFr.keep hF9 t6 (by omega) (by decide)
          have g9 := SFr.keep hF9 g6 (by omega) (by decide)
          simp (disch := first | assumption | omega | ((simp only [size_alloc, sz_drew, size_upd, List.size_toArray, List.length_cons, List.length_nil]) <;> omega) | decide) only [sh_Pr_parser_clause, Pr, PX, PC, NX, ends, fillL, wrL, sOf, Nat.reduceAdd, Nat.reduceMul, Nat.reduceLeDiff, Nat.reduceEqDiff, Int.reduceToNat, Int.reduceAdd, Int.reduceLT, Int.reduceLE, ↓reduceIte, forall_const, eq_self, zG1, zG2, al_40, al_60, bd_37, bd_40, fa_40_1, fa_40_2, fa_40_3, fa_58_1, fa_58_2, fa_58_4, fa_60_0, fa_60_1, fa_60_2, ld_29, ld_3, ld_38, ld_40, ld_5, ld_9, st_3, st_34, st_37, st_38, st_40, st_60]
          refine ⟨fun s w' => ClSt pb tb T w q3 (q3 + 1) nm pos r (fun l bd k vs => P.musT T [46] ⟨nm, l, bd, vs⟩ k vs) w', ?_, ?_⟩
          · by_cases ho : P.isT T k6 [58, 45] = true
            · rw [pTail2, if_pos ho] at e5
              rw [if_pos ho] at hP9
              rw [ho]
              simp (disch := first | assumption | omega | ((simp only [size_alloc, sz_drew, size_upd, List.size_toArray, List.length_cons, List.length_nil]) <;> omega) | decide) only [sh_Pr_parser_clause, Pr, PX, PC, NX, ends, fillL, wrL, sOf, Nat.reduceAdd, Nat.reduceMul, Nat.reduceLeDiff, Nat.reduceEqDiff, Int.reduceToNat, Int.reduceAdd, Int.reduceLT, Int.reduceLE, ↓reduceIte, forall_const, eq_self, zG1, zG2, al_40, al_60, bd_37, bd_40, fa_40_1, fa_40_2, fa_40_3, fa_58_1, fa_58_2, fa_58_4, fa_60_0, fa_60_1, fa_60_2, ld_29, ld_3, ld_38, ld_40, ld_5, ld_9, st_3, st_34, st_37, st_38, st_40, st_60]
              cases hb : P.pBody T f (k6 + 1) vs6 0 with
              | none => rw [hb] at e5; simp [P.Res.bind] at e5
              | some qb =>
              rw [hb] at e5
              refine Calls.mono ((rBodies f).go (d := 0) hP9 (by omega) hb) ?_
              rintro e wA ⟨c0, c1, c2, c3, rfl, ⟨p0, p1, p2, p3⟩, hFA, hst⟩
              have s9 := hF9.size
              have sA := hFA.size
              have zA := SFr.keep hFA z9 (by omega) (by decide)
              have tA := SFr.keep hFA t9 (by omega) (by decide)
              have gA := SFr.keep hFA g9 (by omega) (by decide)
              have lgA := ltOf gA
              have lg6 := ltOf g6
              simp (disch := first | assumption | omega | ((simp only [size_alloc, sz_drew, size_upd, List.size_toArray, List.length_cons, List.length_nil]) <;> omega) | decide) only [sh_Pr_parser_clause, Pr, PX, PC, NX, ends, fillL, wrL, sOf, Nat.reduceAdd, Nat.reduceMul, Nat.reduceLeDiff, Nat.reduceEqDiff, Int.reduceToNat, Int.reduceAdd, Int.reduceLT, Int.reduceLE, ↓reduceIte, forall_const, eq_self, zG1, zG2, al_40, al_60, bd_37, bd_40, fa_40_1, fa_40_2, fa_40_3, fa_58_1, fa_58_2, fa_58_4, fa_60_0, fa_60_1, fa_60_2, ld_29, ld_3, ld_38, ld_40, ld_5, ld_9, st_3, st_34, st_37, st_38, st_40, st_60, gA, p0, p1, p2, p3]
              have hFn := ((hF6.trans hF9).trans hFA).upd (p := q3 + 1) (o := .cells #[.string (bs nm), av, c0, c1, c2, c3, .slice none 0 0] 40 (0, 0)) (.inr (by omega))
              have zn : (upd wA (q3 + 1) (.cells #[.string (bs nm), av, c0, c1, c2, c3, .slice none 0 0] 40 (0, 0))).heap[w.heap.size]? = some _ := (hp_upd_other (by omega)).trans zA
              have tn : (upd wA (q3 + 1) (.cells #[.string (bs nm), av, c0, c1, c2, c3, .slice none 0 0] 40 (0, 0))).heap[q3]? = some _ := (hp_upd_other (by omega)).trans tA
              have gn : (upd wA (q3 + 1) (.cells #[.string (bs nm), av, c0, c1, c2, c3, .slice none 0 0] 40 (0, 0))).heap[q3 + 1]? = some _ := hp_upd_same rfl lgA
              refine ClSt.step hFn (FrM.refl _ _) hqq zn tn gn ⟨o0, p0, p1, p2, p3⟩ ?_
              cases qb with
              | err c a =>
                obtain ⟨hc, k2, vs2, hP⟩ := hst
                simp only [P.Res.bind, Option.some.injEq] at e5
                exact .inr ⟨c, a, k2, vs2, hc, e5.symm, hP.updT (by omega) gA (by decide)⟩
              | ok bd2 k2 vs2 =>
                obtain ⟨hb2, hP⟩ := hst
                simp only [P.Res.bind] at e5
                have hm : ∀ b, (q3 + 1 < b ∧ b < w8.heap.size) → q3 + 1 < b ∧ b < (upd wA (q3 + 1) (.cells #[.string (bs nm), av, c0, c1, c2, c3, .slice none 0 0] 40 (0, 0))).heap.size := fun b hb => ⟨hb.1, by rw [size_upd]; have := hb.2; omega⟩
                have hk : Keeps (fun b => q3 + 1 < b ∧ b < w8.heap.size) 69 w8 (upd wA (q3 + 1) (.cells #[.string (bs nm), av, c0, c1, c2, c3, .slice none 0 0] 40 (0, 0))) := fun b cs hb hc => by
                  rw [hp_upd_other (by have := hb.1; omega)]
                  exact SFr.keep hFA (SFr.keep hF9 hc (by have := hb.1; omega) (by decide)) (by have := hb.1; omega) (by decide)
                exact .inl ⟨us, l, bd2, k2, vs2, e1.mono hm hk, IsRxs.mono hm hk _ _ e2, hb2.updT (fun b hb => by have := hb.1; omega) (fun b hb => ⟨by have := hb.1; omega, by rw [size_upd]; exact hb.2⟩), hP.updT (by omega) gA (by decide), e5⟩
            · rw [pTail2, if_neg ho] at e5
              rw [if_neg ho] at hP9
              have ho' : P.isT T k6 [58, 45] = false := by simpa using ho
              rw [ho', bs_false]
              exact ClSt.step hF6 hF9 hqq z6 t6 g6 ⟨o0, o1, o2, o3, o4⟩ (.inl ⟨us, l, bd, _, _, e1, e2, e3, hP9, e5⟩)
          · clear e5 e3 e2 e1 hq6 hP6 g6 o0 o1 o2 o3 o4 h36 hx6 t6 z6 hF6 hS z9 t9 g9 hP9 hF9 lz6
            rintro s9 wB hS dd9
            have z6 := hS.z2
            have t6 := hS.t3
            have hF6 := hS.fr
            obtain ⟨av, b0, b1, b2, b3, k6, vs6, er, a6, g6, ⟨o0, o1, o2, o3, o4⟩, hP6, hq6⟩ := hS.at
            obtain ⟨lc6, vv6, hx6⟩ := id hP6
            have h36 := hx6.cell
            refine ⟨fun s w' => ClSt pb tb T w q3 (q3 + 1) nm pos r (fun l bd k vs => some (.ok ⟨nm, l, bd, vs⟩ k vs)) w', ?_, ?_⟩
            · by_cases he : er = 0
              · subst he
                obtain ⟨-, rfl, us, l, bd, e1, e2, e3, e5⟩ := hq6.resolve_right (by simp)
                simp (disch := first | assumption | omega | ((simp only [size_alloc, sz_drew, size_upd, List.size_toArray, List.length_cons, List.length_nil]) <;> omega) | decide) only [sh_Pr_parser_clause, Pr, PX, PC, NX, ends, fillL, wrL, sOf, Nat.reduceAdd, Nat.reduceMul, Nat.reduceLeDiff, Nat.reduceEqDiff, Int.reduceToNat, Int.reduceAdd, Int.reduceLT, Int.reduceLE, ↓reduceIte, forall_const, eq_self, zG1, zG2, al_40, al_60, bd_37, bd_40, fa_40_1, fa_40_2, fa_40_3, fa_58_1, fa_58_2, fa_58_4, fa_60_0, fa_60_1, fa_60_2, ld_29, ld_3, ld_38, ld_40, ld_5, ld_9, st_3, st_34, st_37, st_38, st_40, st_60, h36]
                refine rMustX hP6 [46] _ e5 ?_ ?_
                · intro wC hrm hPC hFC
                  simp (disch := first | assumption | omega | ((simp only [size_alloc, sz_drew, size_upd, List.size_toArray, List.length_cons, List.length_nil]) <;> omega) | decide) only [sh_Pr_parser_clause, Pr, PX, PC, NX, ends, fillL, wrL, sOf, Nat.reduceAdd, Nat.reduceMul, Nat.reduceLeDiff, Nat.reduceEqDiff, Int.reduceToNat, Int.reduceAdd, Int.reduceLT, Int.reduceLE, ↓reduceIte, forall_const, eq_self, zG1, zG2, al_40, al_60, bd_37, bd_40, fa_40_1, fa_40_2, fa_40_3, fa_58_1, fa_58_2, fa_58_4, fa_60_0, fa_60_1, fa_60_2, ld_29, ld_3, ld_38, ld_40, ld_5, ld_9, st_3, st_34, st_37, st_38, st_40, st_60]
                  exact ClSt.step hF6 hFC hqq z6 t6 g6 ⟨o0, o1, o2, o3, o4⟩ (.inl ⟨us, l, bd, _, _, e1, e2, e3, hPC, by rw [hrm]⟩)
                · intro wC a hrm hPC hFC
                  simp (disch := first | assumption | omega | ((simp only [size_alloc, sz_drew, size_upd, List.size_toArray, List.length_cons, List.length_nil]) <;> omega) | decide) only [sh_Pr_parser_clause, Pr, PX, PC, NX, ends, fillL, wrL, sOf, Nat.reduceAdd, Nat.reduceMul, Nat.reduceLeDiff, Nat.reduceEqDiff, Int.reduceToNat, Int.reduceAdd, Int.reduceLT, Int.reduceLE, ↓reduceIte, forall_const, eq_self, zG1, zG2, al_40, al_60, bd_37, bd_40, fa_40_1, fa_40_2, fa_40_3, fa_58_1, fa_58_2, fa_58_4, fa_60_0, fa_60_1, fa_60_2, ld_29, ld_3, ld_38, ld_40, ld_5, ld_9, st_3, st_34, st_37, st_38, st_40, st_60]
                  exact ClSt.step hF6 hFC hqq z6 t6 g6 ⟨o0, o1, o2, o3, o4⟩ (.inr ⟨2, a, _, _, by decide, hrm, hPC⟩)
              · obtain ⟨h1, h2⟩ := hq6.resolve_left (fun h => he h.1)
                have he' : ¬ (er : Int) = 0 := by omega
                simp (disch := first | assumption | omega | ((simp only [size_alloc, sz_drew, size_upd, List.size_toArray, List.length_cons, List.length_nil]) <;> omega) | decide) only [sh_Pr_parser_clause, Pr, PX, PC, NX, ends, fillL, wrL, sOf, Nat.reduceAdd, Nat.reduceMul, Nat.reduceLeDiff, Nat.reduceEqDiff, Int.reduceToNat, Int.reduceAdd, Int.reduceLT, Int.reduceLE, ↓reduceIte, forall_const, eq_self, zG1, zG2, al_40, al_60, bd_37, bd_40, fa_40_1, fa_40_2, fa_40_3, fa_58_1, fa_58_2, fa_58_4, fa_60_0, fa_60_1, fa_60_2, ld_29, ld_3, ld_38, ld_40, ld_5, ld_9, st_3, st_34, st_37, st_38, st_40, st_60, h36]
                exact ClSt.step hF6 (FrM.refl _ _) hqq z6 t6 g6 ⟨o0, o1, o2, o3, o4⟩ (.inr ⟨er, a6, _, _, h1, h2, hP6⟩)
            · clear hq6 hP6 g6 o0 o1 o2 o3 o4 h36 hx6 t6 z6 hF6 hS
              rintro s10 wD hS dd10
              have z6 := hS.z2
              have hF6 := hS.fr
              obtain ⟨av, b0, b1, b2, b3, k6, vs6, er, a6, g6, ⟨o0, o1, o2, o3, o4⟩, hP6, hq6⟩ := hS.at
              obtain ⟨lc6, vv6, hx6⟩ := id hP6
              have h36 := hx6.cell
              have lz6 := ltOf z6
              have lg6 := ltOf g6
              obtain ⟨va, vc, rfl⟩ := own_slice hx6.own
              simp (disch := first | assumption | omega | ((simp only [size_alloc, sz_drew, size_upd, List.size_toArray, List.length_cons, List.length_nil]) <;> omega) | decide) only [sh_Pr_parser_clause, Pr, PX, PC, NX, ends, fillL, wrL, sOf, Nat.reduceAdd, Nat.reduceMul, Nat.reduceLeDiff, Nat.reduceEqDiff, Int.reduceToNat, Int.reduceAdd, Int.reduceLT, Int.reduceLE, ↓reduceIte, forall_const, eq_self, zG1, zG2, al_40, al_60, bd_37, bd_40, fa_40_1, fa_40_2, fa_40_3, fa_58_1, fa_58_2, fa_58_4, fa_60_0, fa_60_1, fa_60_2, ld_29, ld_3, ld_38, ld_40, ld_5, ld_9, st_3, st_34, st_37, st_38, st_40, st_60, h36, g6, z6, o0, o1, o2, o3, o4]
              have hPn := hP6.updT (q := q3 + 1) (o := .cells #[.string (bs nm), av, b0, b1, b2, b3, .slice va vs6.length vc] 40 (0, 0)) (by omega) g6 (by decide)
              have zn : (upd wD (q3 + 1) (.cells #[.string (bs nm), av, b0, b1, b2, b3, .slice va vs6.length vc] 40 (0, 0))).heap[w.heap.size]? = some _ := (hp_upd_other (by omega)).trans z6
              refine ⟨[.string (bs nm), av, b0, b1, b2, b3, .slice va vs6.length vc], rfl, one7 rfl o0 o1 o2 o3 o4 rfl, (hF6.upd (.inr (by omega))).upd (.inr (Nat.le_refl _)), ?_⟩
              rcases hq6 with ⟨rfl, rfl, us, l, bd, e1, e2, e3, e5⟩ | ⟨h1, rfl⟩
              · simp only [Option.some.injEq] at e5
                rw [← e5]
                refine ⟨?_, hPn.updT (by omega) zn (by decide)⟩
                have hm : ∀ b, (q3 + 1 < b ∧ b < wD.heap.size) → Nu w (upd (upd wD (q3 + 1) (.cells #[.string (bs nm), av, b0, b1, b2, b3, .slice va vs6.length vc] 40 (0, 0))) w.heap.size (.cells #[.string (bs nm), av, b0, b1, b2, b3, .slice va vs6.length vc] 40 (0, 0))) b := fun b hb => ⟨by have := hb.1; omega, by rw [size_upd, size_upd]; exact hb.2⟩
                have hk : ∀ t, Keeps (fun b => q3 + 1 < b ∧ b < wD.heap.size) t wD (upd (upd wD (q3 + 1) (.cells #[.string (bs nm), av, b0, b1, b2, b3, .slice va vs6.length vc] 40 (0, 0))) w.heap.size (.cells #[.string (bs nm), av, b0, b1, b2, b3, .slice va vs6.length vc] 40 (0, 0))) := fun t b cs hb hc => by
                  rw [hp_upd_other (by have := hb.1; omega), hp_upd_other (by have := hb.1; omega)]; exact hc
                exact ⟨_, us, _, _, _, _, _, _, rfl, e1.mono hm (hk _), IsRxs.mono hm (hk _) _ _ e2, IsRb.mono hm (hk _) (hk _) _ _ e3⟩
              · exact ⟨h1, _, _, hPn.updT (by omega) zn (by decide)⟩
        · obtain ⟨-, rfl⟩ := hq6.resolve_left (fun h => he h.1)
          have he' : ¬ (er : Int) = 0 := by omega
          simp (disch := first | assumption | omega | ((simp only [size_alloc, sz_drew, size_upd, List.size_toArray, List.length_cons, List.length_nil]) <;> omega) | decide) only [sh_Pr_parser_clause, Pr, PX, PC, NX, ends, fillL, wrL, sOf, Nat.reduceAdd, Nat.reduceMul, Nat.reduceLeDiff, Nat.reduceEqDiff, Int.reduceToNat, Int.reduceAdd, Int.reduceLT, Int.reduceLE, ↓reduceIte, forall_const, eq_self, zG1, zG2, al_40, al_60, bd_37, bd_40, fa_40_1, fa_40_2, fa_40_3, fa_58_1, fa_58_2, fa_58_4, fa_60_0, fa_60_1, fa_60_2, ld_29, ld_3, ld_38, ld_40, ld_5, ld_9, st_3, st_34, st_37, st_38, st_40, st_60, h36, g6, z6, o0, o1, o2, o3, o4]
          exact ⟨[.string (bs nm), av, b0, b1, b2, b3, .slice none 0 0], rfl, one7 rfl o0 o1 o2 o3 o4 rfl, hF6.upd (.inr (Nat.le_refl _)), he, _, _, hP6.updT (by omega) z6 (by decide)⟩
  · rw [P.pClause, if_neg hk1] at hr
    obtain rfl := (Option.some.inj hr).symm
    have hrk : ¬ ((rk (P.tk T k).kind : Nat) : Int) = 97 := by have := rk_atom h4; omega
    simp (disch := first | assumption | omega | ((simp only [size_alloc, sz_drew, size_upd, List.size_toArray, List.length_cons, List.length_nil]) <;> omega) | decide) only [sh_Pr_parser_clause, Pr, PX, PC, NX, ends, fillL, wrL, sOf, Nat.reduceAdd, Nat.reduceMul, Nat.reduceLeDiff, Nat.reduceEqDiff, Int.reduceToNat, Int.reduceAdd, Int.reduceLT, Int.reduceLE, ↓reduceIte, forall_const, eq_self, zG1, zG2, al_40, al_60, bd_37, bd_40, fa_40_1, fa_40_2, fa_40_3, fa_58_1, fa_58_2, fa_58_4, fa_60_0, fa_60_1, fa_60_2, ld_29, ld_3, ld_38, ld_40, ld_5, ld_9, st_3, st_34, st_37, st_38, st_40, st_60]
    refine Calls.mono (rNone (hP1.ext (by (repeat (first | assumption | exact FrM.refl _ _ | (refine FrM.upd ?_ (.inr (by (try simp only [size_alloc, sz_drew, size_upd, List.size_toArray, List.length_cons, List.length_nil]) <;> omega))) | refine FrM.alloc ?_ _ | refine FrM.drew ?_))))) ?_
    rintro e w2 ⟨rfl, hP2, hF2⟩
    have z2 := SFr.keep hF2 (by rw [hp_upd_other (show ¬ w.heap.size = w1.heap.size by omega), hp_alloc_old (by omega)]; exact z1) (by omega) (by decide)
    have lz2 := ltOf z2
    simp (disch := first | assumption | omega | ((simp only [size_alloc, sz_drew, size_upd, List.size_toArray, List.length_cons, List.length_nil]) <;> omega) | decide) only [sh_Pr_parser_clause, Pr, PX, PC, NX, ends, fillL, wrL, sOf, Nat.reduceAdd, Nat.reduceMul, Nat.reduceLeDiff, Nat.reduceEqDiff, Int.reduceToNat, Int.reduceAdd, Int.reduceLT, Int.reduceLE, ↓reduceIte, forall_const, eq_self, zG1, zG2, al_40, al_60, bd_37, bd_40, fa_40_1, fa_40_2, fa_40_3, fa_58_1, fa_58_2, fa_58_4, fa_60_0, fa_60_1, fa_60_2, ld_29, ld_3, ld_38, ld_40, ld_5, ld_9, st_3, st_34, st_37, st_38, st_40, st_60, z2]
    exact ⟨_, rfl, ⟨rfl, by decide⟩, ((hF1.trans (FrM.upd (FrM.alloc (FrM.refl _ _) _) (.inr (Nat.le_refl _)))).trans hF2).upd (.inr (Nat.le_refl _)), by decide, _, _, hP2.updT l1 z2 (by decide)⟩
end Go.Proofs.YtkmpelgfhjgddaaGreatDoor
