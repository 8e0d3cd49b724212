/-
  DERIVED. GIVEN WITH THE SEED: THE CARDS: each row of YthlpjeoddenioaaGreatDoorRows.lean that lists a variable, with what it lists TIED to the program's text (the seventh form; the later family's looks); each row that meets fmt, with fmt's text TOLD by the authors' own Lean function (tested against real Go, not proved from fmt's source: count such statements apart). THE CARD IS WHAT COUNTS. Prove the row's statement (the work); the ties are given (YthlpjeoddenioaaGreatDoorTie.lean); close each card by the builder's one call (the guide's Derived/Test/ToyasCard.lean, 'card_holds'). Laid BY PROGRAM, IN A SANDBOX (cutbox-door.mjs). By AI agents, Wed Nov 11 2026. No macro, syntax, notation, axiom, sorry.
-/
import Derived.Test.YthlpjeoddenioaaGreatDoorRows
import GoSem.ClaimSeven
namespace Go.Proofs.YthlpjeoddenioaaGreatDoor
namespace Rows

/-- THE TIED CARD OF 'grommetlaw26.ServerFirst'. -/
def serverFirstCard : Claim7 := { stood := { row := serverFirstRow, standIns := [], harness := (true, "a4794839c605b725f1d6df540cb8c2711e7ad398a3116735bb6e87c7304daf78"), looks := false }, kinds := [], alts := [], laidByText := true, laidKinds := [.data, .data, .data], laidTests := true, laidLooks := .later }
def ServerFirstCardSaid : Prop := Claim7.holds Tryz.pinned (.plain (OpenSpec.ofChange serverFirstSpec)) serverFirstCard

/-- THE SECOND FORM's CARD OF 'grommetlaw26.ServerFirst'. -/
def serverFirstUptoCard : Claim7 := { stood := { row := serverFirstUptoRow, standIns := [], harness := (true, "a4794839c605b725f1d6df540cb8c2711e7ad398a3116735bb6e87c7304daf78"), looks := false }, kinds := [], alts := [], laidByText := true, laidKinds := [.data, .data, .data], laidTests := true, laidLooks := .later }
def ServerFirstUptoCardSaid : Prop := Claim7.holds Tryz.pinned (.plain (OpenSpec.upto serverFirstSpec)) serverFirstUptoCard
end Rows
end Go.Proofs.YthlpjeoddenioaaGreatDoor
