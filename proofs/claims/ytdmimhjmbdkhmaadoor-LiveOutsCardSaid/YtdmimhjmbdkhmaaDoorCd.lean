/- Part of a proof about the Go function named in the last text of this claim. -/
import Derived.Test.YtdmimhjmbdkhmaaDoorRw
import Derived.Test.YtdmimhjmbdkhmaaDoorTie
import Derived.Test.YtdmimhjmbdkhmaaDoorCards
import Derived.SevenTiedAt
set_option linter.unusedVariables false
set_option linter.unusedSimpArgs false
/-
  'portolanlaw11.LiveOuts' returns true for every program that can be read as data, and the program reads behind the call as it did; the table of the operations' parts (portolan/code.parts) is what the program's text lays (tied).
  CONDITIONS: those of the card alone; no further premise.
-/
namespace Go.Proofs.YtdmimhjmbdkhmaaDoor
open Go
theorem liveOuts_card : Rows.LiveOutsCardSaid :=
  Claim7.holds_tied_plain_at .later [] [.data] true Rows.liveOutsCard.stood.harness false
    X.liveOuts_over (fun _ h => by cases h) (by kernel_rfl) (fun _ h => by cases h) liveOuts_row_tie rfl ⟨rfl, rfl⟩ (by kernel_rfl) rfl
    (fun f fn hf hfn => by
      obtain rfl : f = 3 := Option.some.inj ((show Tryd.prog.funcNamed "portolan/portolanlaw11.LiveOuts" = some 3 by kernel_rfl).symm.trans hf) |>.symm
      obtain rfl : fn = Tryd.f3 := (Option.some.inj (Tryd.func3.symm.trans hfn)).symm
      exact ⟨by kernel_rfl, fun j t ht => by
        rw [Tryd.params3] at ht
        have h3 : t = 24 := by
          rcases j with _ | j
          · simpa using ht.symm
          · simp at ht
        subst h3
        exact (show Tryd.prog.wantsStandIn 24 = false by kernel_rfl)⟩)
    (by kernel_rfl)
#print axioms liveOuts_card
end Go.Proofs.YtdmimhjmbdkhmaaDoor
