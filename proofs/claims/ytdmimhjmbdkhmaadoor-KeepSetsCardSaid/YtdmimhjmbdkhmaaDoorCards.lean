/-
  DERIVED. GIVEN WITH THE SEED: THE CARDS: each row of YtdmimhjmbdkhmaaDoorRows.lean that lists a variable, with what it lists TIED to the program's text (the seventh form; the later family's looks); each row that meets fmt, with fmt's text TOLD by the authors' own Lean function (tested against real Go, not proved from fmt's source: count such statements apart). THE CARD IS WHAT COUNTS. Prove the row's statement (the work); the ties are given (YtdmimhjmbdkhmaaDoorTie.lean); close each card by the builder's one call (the guide's Derived/Test/ToyasCard.lean, 'card_holds'). Laid BY PROGRAM, IN A SANDBOX (cutbox-door.mjs). By AI agents, Wed Nov 11 2026. No macro, syntax, notation, axiom, sorry.
-/
import Derived.Test.YtdmimhjmbdkhmaaDoorRows
import GoSem.ClaimSeven
namespace Go.Proofs.YtdmimhjmbdkhmaaDoor
namespace Rows

/-- THE TIED CARD OF 'portolanlaw11.LiveOuts'. -/
def liveOutsCard : Claim7 := { stood := { row := liveOutsRow, standIns := [], harness := (true, "0e2a5a56c0d54ce94d928f9954285bf1d6a99216ee978c460a5846896aef4262"), looks := false }, kinds := [], alts := [], laidByText := true, laidKinds := [.data], laidTests := true, laidLooks := .later }
def LiveOutsCardSaid : Prop := Claim7.holds Tryd.pinned (.plain (OpenSpec.ofChange liveOutsSpec)) liveOutsCard

/-- THE TIED CARD OF 'portolanlaw11.LiveWays'. -/
def liveWaysCard : Claim7 := { stood := { row := liveWaysRow, standIns := [], harness := (true, "0e2a5a56c0d54ce94d928f9954285bf1d6a99216ee978c460a5846896aef4262"), looks := false }, kinds := [], alts := [], laidByText := true, laidKinds := [.data], laidTests := true, laidLooks := .later }
def LiveWaysCardSaid : Prop := Claim7.holds Tryd.pinned (.plain (OpenSpec.ofChange liveWaysSpec)) liveWaysCard

/-- THE TIED CARD OF 'portolanlaw12.KeepSets'. -/
def keepSetsCard : Claim7 := { stood := { row := keepSetsRow, standIns := [], harness := (true, "0e2a5a56c0d54ce94d928f9954285bf1d6a99216ee978c460a5846896aef4262"), looks := false }, kinds := [], alts := [], laidByText := true, laidKinds := [.data, .data], laidTests := true, laidLooks := .later }
def KeepSetsCardSaid : Prop := Claim7.holds Tryd.pinned (.plain (OpenSpec.ofChange keepSetsSpec)) keepSetsCard

/-- THE TIED CARD OF 'portolanlaw12.KeepCloses'. -/
def keepClosesCard : Claim7 := { stood := { row := keepClosesRow, standIns := [], harness := (true, "0e2a5a56c0d54ce94d928f9954285bf1d6a99216ee978c460a5846896aef4262"), looks := false }, kinds := [], alts := [], laidByText := true, laidKinds := [.data, .data], laidTests := true, laidLooks := .later }
def KeepClosesCardSaid : Prop := Claim7.holds Tryd.pinned (.plain (OpenSpec.ofChange keepClosesSpec)) keepClosesCard

/-- THE SECOND FORM's CARD OF 'portolanlaw11.LiveOuts'. -/
def liveOutsUptoCard : Claim7 := { stood := { row := liveOutsUptoRow, standIns := [], harness := (true, "0e2a5a56c0d54ce94d928f9954285bf1d6a99216ee978c460a5846896aef4262"), looks := false }, kinds := [], alts := [], laidByText := true, laidKinds := [.data], laidTests := true, laidLooks := .later }
def LiveOutsUptoCardSaid : Prop := Claim7.holds Tryd.pinned (.plain (OpenSpec.upto liveOutsSpec)) liveOutsUptoCard

/-- THE SECOND FORM's CARD OF 'portolanlaw11.LiveWays'. -/
def liveWaysUptoCard : Claim7 := { stood := { row := liveWaysUptoRow, standIns := [], harness := (true, "0e2a5a56c0d54ce94d928f9954285bf1d6a99216ee978c460a5846896aef4262"), looks := false }, kinds := [], alts := [], laidByText := true, laidKinds := [.data], laidTests := true, laidLooks := .later }
def LiveWaysUptoCardSaid : Prop := Claim7.holds Tryd.pinned (.plain (OpenSpec.upto liveWaysSpec)) liveWaysUptoCard

/-- THE SECOND FORM's CARD OF 'portolanlaw12.KeepSets'. -/
def keepSetsUptoCard : Claim7 := { stood := { row := keepSetsUptoRow, standIns := [], harness := (true, "0e2a5a56c0d54ce94d928f9954285bf1d6a99216ee978c460a5846896aef4262"), looks := false }, kinds := [], alts := [], laidByText := true, laidKinds := [.data, .data], laidTests := true, laidLooks := .later }
def KeepSetsUptoCardSaid : Prop := Claim7.holds Tryd.pinned (.plain (OpenSpec.upto keepSetsSpec)) keepSetsUptoCard

/-- THE SECOND FORM's CARD OF 'portolanlaw12.KeepCloses'. -/
def keepClosesUptoCard : Claim7 := { stood := { row := keepClosesUptoRow, standIns := [], harness := (true, "0e2a5a56c0d54ce94d928f9954285bf1d6a99216ee978c460a5846896aef4262"), looks := false }, kinds := [], alts := [], laidByText := true, laidKinds := [.data, .data], laidTests := true, laidLooks := .later }
def KeepClosesUptoCardSaid : Prop := Claim7.holds Tryd.pinned (.plain (OpenSpec.upto keepClosesSpec)) keepClosesUptoCard
end Rows
end Go.Proofs.YtdmimhjmbdkhmaaDoor
