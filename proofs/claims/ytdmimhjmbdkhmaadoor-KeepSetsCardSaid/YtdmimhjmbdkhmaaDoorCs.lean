/- Part of a proof about the Go function named in the last text of this claim. -/
import Derived.Test.YtdmimhjmbdkhmaaDoorRs
import Derived.Test.YtdmimhjmbdkhmaaDoorTie
import Derived.Test.YtdmimhjmbdkhmaaDoorCards
import Derived.SevenTiedAt
set_option linter.unusedVariables false
set_option linter.unusedSimpArgs false
/-
  'portolanlaw12.KeepSets' returns true for every program and every list of words that can be read as data, and both read behind the call as they did; the tables portolan/code.parts and math/bits.deBruijn64tab are what the program's text lays (tied).
  CONDITIONS: those of the card alone; no further premise.
-/
namespace Go.Proofs.YtdmimhjmbdkhmaaDoor
open Go
theorem keepSets_card : Rows.KeepSetsCardSaid :=
  Claim7.holds_tied_plain_at .later [] [.data, .data] true Rows.keepSetsCard.stood.harness false
    X.keepSets_over (fun _ h => by cases h) (by kernel_rfl) (fun _ h => by cases h) keepSets_row_tie rfl ⟨rfl, rfl⟩ (by kernel_rfl) rfl
    (fun f fn hf hfn => by
      obtain rfl : f = 5 := Option.some.inj ((show Tryd.prog.funcNamed "portolan/portolanlaw12.KeepSets" = some 5 by kernel_rfl).symm.trans hf) |>.symm
      obtain rfl : fn = Tryd.f5 := (Option.some.inj (Tryd.func5.symm.trans hfn)).symm
      exact ⟨by kernel_rfl, fun j t ht => by
        rw [Tryd.params5] at ht
        have h3 : t = 24 ∨ t = 31 := by
          rcases j with _ | _ | j
          · exact .inl (by simpa using ht.symm)
          · exact .inr (by simpa using ht.symm)
          · simp at ht
        rcases h3 with rfl | rfl
        · exact (show Tryd.prog.wantsStandIn 24 = false by kernel_rfl)
        · exact (show Tryd.prog.wantsStandIn 31 = false by kernel_rfl)⟩)
    (by kernel_rfl)
#print axioms keepSets_card
end Go.Proofs.YtdmimhjmbdkhmaaDoor
