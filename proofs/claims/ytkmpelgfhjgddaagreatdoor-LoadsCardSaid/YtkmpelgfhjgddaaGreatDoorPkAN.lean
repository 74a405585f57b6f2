/- A part of one proof (LL5); no conditions beyond what each theorem names. -/
import Derived.Test.YtkmpelgfhjgddaaGreatDoorPkAM
import Derived.Test.YtkmpelgfhjgddaaGreatDoorTie
import Derived.Test.YtkmpelgfhjgddaaGreatDoorCards
import Derived.SevenTiedAt
set_option linter.all false
set_option linter.unusedVariables false
set_option linter.unusedSimpArgs false
namespace Go.Proofs.YtkmpelgfhjgddaaGreatDoor
open Go
set_option maxRecDepth 100000
theorem loads_card : Rows.LoadsCardSaid :=
  Claim7.holds_tied_plain_at .later [] [.data, .data, .data, .data, .handle, .sentinel, .sentinel, .data, .data, .data, .pinned] true (true, "d62f0eed13dfbf11fc30bc7b25877884bf9adf96b28145ec7fce9fc72a38e71b") true
    loads_holds (fun _ h => by cases h) (by kernel_rfl) (fun _ h => by cases h) loads_row_tie rfl ⟨rfl, rfl⟩ (by kernel_rfl) rfl
    (fun f fn hf hfn => by
      obtain rfl : f = 3 := Option.some.inj ((show Tryz.prog.funcNamed "horn/hornlaw.Loads" = some 3 by kernel_rfl).symm.trans hf) |>.symm
      obtain rfl : fn = Tryz.f3 := (Option.some.inj (Tryz.func3.symm.trans hfn)).symm
      exact ⟨by kernel_rfl, fun j t ht => by
        rw [Tryz.params3] at ht
        have h3 : t = 9 := by
          rcases j with _ | j
          · simpa using ht.symm
          · simp at ht
        subst h3
        exact (show Tryz.prog.wantsStandIn 9 = false by kernel_rfl)⟩)
    (by kernel_rfl)
#print axioms loads_card
end Go.Proofs.YtkmpelgfhjgddaaGreatDoor
