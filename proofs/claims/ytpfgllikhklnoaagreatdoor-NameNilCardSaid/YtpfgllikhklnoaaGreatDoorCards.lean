/-
  DERIVED. GIVEN WITH THE SEED: THE CARDS: each row of YtpfgllikhklnoaaGreatDoorRows.lean that lists a variable, with what it lists TIED to the program's text (the seventh form; the later family's looks); each row that meets fmt, with fmt's text TOLD by the authors' own Lean function (tested against real Go, not proved from fmt's source: count such statements apart). THE CARD IS WHAT COUNTS. Prove the row's statement (the work); the ties are given (YtpfgllikhklnoaaGreatDoorTie.lean); close each card by the builder's one call (the guide's Derived/Test/ToyasCard.lean, 'card_holds'). Laid BY PROGRAM, IN A SANDBOX (cutbox-door.mjs). By AI agents, Wed Nov 11 2026. No macro, syntax, notation, axiom, sorry.
-/
import Derived.Test.YtpfgllikhklnoaaGreatDoorRows
import GoSem.ClaimSeven
namespace Go.Proofs.YtpfgllikhklnoaaGreatDoor
namespace Rows

/-- THE TIED CARD OF 'grommetlaw17.NameNil'. -/
def nameNilCard : Claim7 := { stood := { row := nameNilRow, standIns := [], harness := (true, "cd26734ad4ee4c94408561f38d51c8d03885413efc1aa29ece7d6ea1b123188d"), looks := false }, kinds := [], alts := [], laidByText := true, laidKinds := [.data], laidTests := true, laidLooks := .later }
def NameNilCardSaid : Prop := Claim7.holds Tryz.pinned (.plain (OpenSpec.ofChange nameNilSpec)) nameNilCard

/-- THE TIED CARD OF 'grommetlaw18.RenameNil'. -/
def renameNilCard : Claim7 := { stood := { row := renameNilRow, standIns := [], harness := (true, "cd26734ad4ee4c94408561f38d51c8d03885413efc1aa29ece7d6ea1b123188d"), looks := false }, kinds := [], alts := [], laidByText := true, laidKinds := [.data], laidTests := true, laidLooks := .later }
def RenameNilCardSaid : Prop := Claim7.holds Tryz.pinned (.plain (OpenSpec.ofChange renameNilSpec)) renameNilCard

/-- THE TIED CARD OF 'grommetlaw19.FdNil'. -/
def fdNilCard : Claim7 := { stood := { row := fdNilRow, standIns := [], harness := (true, "cd26734ad4ee4c94408561f38d51c8d03885413efc1aa29ece7d6ea1b123188d"), looks := false }, kinds := [], alts := [], laidByText := true, laidKinds := [.data, .data], laidTests := true, laidLooks := .later }
def FdNilCardSaid : Prop := Claim7.holds Tryz.pinned (.plain (OpenSpec.ofChange fdNilSpec)) fdNilCard

/-- THE SECOND FORM's CARD OF 'grommetlaw17.NameNil'. -/
def nameNilUptoCard : Claim7 := { stood := { row := nameNilUptoRow, standIns := [], harness := (true, "cd26734ad4ee4c94408561f38d51c8d03885413efc1aa29ece7d6ea1b123188d"), looks := false }, kinds := [], alts := [], laidByText := true, laidKinds := [.data], laidTests := true, laidLooks := .later }
def NameNilUptoCardSaid : Prop := Claim7.holds Tryz.pinned (.plain (OpenSpec.upto nameNilSpec)) nameNilUptoCard

/-- THE SECOND FORM's CARD OF 'grommetlaw18.RenameNil'. -/
def renameNilUptoCard : Claim7 := { stood := { row := renameNilUptoRow, standIns := [], harness := (true, "cd26734ad4ee4c94408561f38d51c8d03885413efc1aa29ece7d6ea1b123188d"), looks := false }, kinds := [], alts := [], laidByText := true, laidKinds := [.data], laidTests := true, laidLooks := .later }
def RenameNilUptoCardSaid : Prop := Claim7.holds Tryz.pinned (.plain (OpenSpec.upto renameNilSpec)) renameNilUptoCard

/-- THE SECOND FORM's CARD OF 'grommetlaw19.FdNil'. -/
def fdNilUptoCard : Claim7 := { stood := { row := fdNilUptoRow, standIns := [], harness := (true, "cd26734ad4ee4c94408561f38d51c8d03885413efc1aa29ece7d6ea1b123188d"), looks := false }, kinds := [], alts := [], laidByText := true, laidKinds := [.data, .data], laidTests := true, laidLooks := .later }
def FdNilUptoCardSaid : Prop := Claim7.holds Tryz.pinned (.plain (OpenSpec.upto fdNilSpec)) fdNilUptoCard
end Rows
end Go.Proofs.YtpfgllikhklnoaaGreatDoor
