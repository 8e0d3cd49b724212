/-
  DERIVED. GIVEN WITH THE SEED: THE CARDS: each row of YtbigljebnajniaaGreatDoorRows.lean that lists a variable, with what it lists TIED to the program's text (the seventh form; the later family's looks); each row that meets fmt, with fmt's text TOLD by the authors' own Lean function (tested against real Go, not proved from fmt's source: count such statements apart). THE CARD IS WHAT COUNTS. Prove the row's statement (the work); the ties are given (YtbigljebnajniaaGreatDoorTie.lean); close each card by the builder's one call (the guide's Derived/Test/ToyasCard.lean, 'card_holds'). Laid BY PROGRAM, IN A SANDBOX (cutbox-door.mjs). By AI agents, Wed Nov 11 2026. No macro, syntax, notation, axiom, sorry.
-/
import Derived.Test.YtbigljebnajniaaGreatDoorRows
import GoSem.ClaimSeven
namespace Go.Proofs.YtbigljebnajniaaGreatDoor
namespace Rows

/-- THE TIED CARD OF 'grommetlaw25.CheckNone'. -/
def checkNoneCard : Claim7 := { stood := { row := checkNoneRow, standIns := [], harness := (true, "2410a4c61887397ee036a014291172726911a8abf2960c948b1719128b57764a"), looks := true }, kinds := [], alts := [], laidByText := true, laidKinds := [.data], laidTests := true, laidLooks := .later }
def CheckNoneCardSaid : Prop := Claim7.holds Tryz.pinned (.plain (OpenSpec.ofChange checkNoneSpec)) checkNoneCard

/-- THE SECOND FORM's CARD OF 'grommetlaw25.CheckNone'. -/
def checkNoneUptoCard : Claim7 := { stood := { row := checkNoneUptoRow, standIns := [], harness := (true, "2410a4c61887397ee036a014291172726911a8abf2960c948b1719128b57764a"), looks := true }, kinds := [], alts := [], laidByText := true, laidKinds := [.data], laidTests := true, laidLooks := .later }
def CheckNoneUptoCardSaid : Prop := Claim7.holds Tryz.pinned (.plain (OpenSpec.upto checkNoneSpec)) checkNoneUptoCard
end Rows
end Go.Proofs.YtbigljebnajniaaGreatDoor
