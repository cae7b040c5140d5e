/- Part of a proof about the Go function named in the last text of this claim. -/
import Derived.Test.YtdmimhjmbdkhmaaDoorRv
import Derived.Test.YtdmimhjmbdkhmaaDoorTie
import Derived.Test.YtdmimhjmbdkhmaaDoorCards
import Derived.SevenTiedAt
set_option linter.unusedVariables false
set_option linter.unusedSimpArgs false
/-
  'portolanlaw11.LiveWays' returns true for every program and every list of bytes that can be read as data, and both read behind the call as they did; the table of the operations' parts (portolan/code.parts) is what the program's text lays (tied).
  CONDITIONS: those of the card alone; no further premise.
-/
namespace Go.Proofs.YtdmimhjmbdkhmaaDoor
open Go
theorem liveWays_card : Rows.LiveWaysCardSaid :=
  Claim7.holds_tied_plain_at .later [] [.data] true Rows.liveWaysCard.stood.harness false
    X.liveWays_over (fun _ h => by cases h) (by kernel_rfl) (fun _ h => by cases h) liveWays_row_tie rfl ⟨rfl, rfl⟩ (by kernel_rfl) rfl
    (fun f fn hf hfn => by
      obtain rfl : f = 4 := Option.some.inj ((show Tryd.prog.funcNamed "portolan/portolanlaw11.LiveWays" = some 4 by kernel_rfl).symm.trans hf) |>.symm
      obtain rfl : fn = Tryd.f4 := (Option.some.inj (Tryd.func4.symm.trans hfn)).symm
      exact ⟨by kernel_rfl, fun j t ht => by
        rw [Tryd.params4] at ht
        have h3 : t = 24 ∨ t = 36 := by
          rcases j with _ | _ | j
          · exact .inl (by simpa using ht.symm)
          · exact .inr (by simpa using ht.symm)
          · simp at ht
        rcases h3 with rfl | rfl
        · exact (show Tryd.prog.wantsStandIn 24 = false by kernel_rfl)
        · exact (show Tryd.prog.wantsStandIn 36 = false by kernel_rfl)⟩)
    (by kernel_rfl)
#print axioms liveWays_card
end Go.Proofs.YtdmimhjmbdkhmaaDoor
