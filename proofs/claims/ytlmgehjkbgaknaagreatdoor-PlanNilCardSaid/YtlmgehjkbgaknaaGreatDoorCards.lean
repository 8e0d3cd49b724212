/-
  DERIVED. GIVEN WITH THE SEED: THE CARDS: each row of YtlmgehjkbgaknaaGreatDoorRows.lean that lists a variable, with what it lists TIED to the program's text (the seventh form; the later family's looks); each row that meets fmt, with fmt's text TOLD by the authors' own Lean function (tested against real Go, not proved from fmt's source: count such statements apart). THE CARD IS WHAT COUNTS. Prove the row's statement (the work); the ties are given (YtlmgehjkbgaknaaGreatDoorTie.lean); close each card by the builder's one call (the guide's Derived/Test/ToyasCard.lean, 'card_holds'). Laid BY PROGRAM, IN A SANDBOX (cutbox-door.mjs). By AI agents, Wed Nov 11 2026. No macro, syntax, notation, axiom, sorry.
-/
import Derived.Test.YtlmgehjkbgaknaaGreatDoorRows
import GoSem.ClaimSeven
namespace Go.Proofs.YtlmgehjkbgaknaaGreatDoor
namespace Rows

/-- THE TIED CARD OF 'grommetlaw21.PlanNil'. -/
def planNilCard : Claim7 := { stood := { row := planNilRow, standIns := [], harness := (true, "5f6b0b15437993909f1c3ad3b6d8ad905471b184c916c710d6e35ec3d52cec05"), looks := false }, kinds := [], alts := [], laidByText := true, laidKinds := [.data, .data, .data], laidTests := true, laidLooks := .later }
def PlanNilCardSaid : Prop := Claim7.holds Tryz.pinned (.plain (OpenSpec.ofChange planNilSpec)) planNilCard

/-- THE TIED CARD OF 'grommetlaw23.WorkerNil'. -/
def workerNilCard : Claim7 := { stood := { row := workerNilRow, standIns := [], harness := (true, "5f6b0b15437993909f1c3ad3b6d8ad905471b184c916c710d6e35ec3d52cec05"), looks := false }, kinds := [], alts := [], laidByText := true, laidKinds := [.data, .data, .data], laidTests := true, laidLooks := .later }
def WorkerNilCardSaid : Prop := Claim7.holds Tryz.pinned (.plain (OpenSpec.ofChange workerNilSpec)) workerNilCard

/-- THE SECOND FORM's CARD OF 'grommetlaw21.PlanNil'. -/
def planNilUptoCard : Claim7 := { stood := { row := planNilUptoRow, standIns := [], harness := (true, "5f6b0b15437993909f1c3ad3b6d8ad905471b184c916c710d6e35ec3d52cec05"), looks := false }, kinds := [], alts := [], laidByText := true, laidKinds := [.data, .data, .data], laidTests := true, laidLooks := .later }
def PlanNilUptoCardSaid : Prop := Claim7.holds Tryz.pinned (.plain (OpenSpec.upto planNilSpec)) planNilUptoCard

/-- THE SECOND FORM's CARD OF 'grommetlaw23.WorkerNil'. -/
def workerNilUptoCard : Claim7 := { stood := { row := workerNilUptoRow, standIns := [], harness := (true, "5f6b0b15437993909f1c3ad3b6d8ad905471b184c916c710d6e35ec3d52cec05"), looks := false }, kinds := [], alts := [], laidByText := true, laidKinds := [.data, .data, .data], laidTests := true, laidLooks := .later }
def WorkerNilUptoCardSaid : Prop := Claim7.holds Tryz.pinned (.plain (OpenSpec.upto workerNilSpec)) workerNilUptoCard
end Rows
end Go.Proofs.YtlmgehjkbgaknaaGreatDoor
