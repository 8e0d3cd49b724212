import Derived.Test.YtlmgehjkbgaknaaGreatDoorRows
import Derived.Test.YtlmgehjkbgaknaaGreatDoorCards
import Derived.ProofKit
import Derived.SevenTiedAt
import Derived.Lib.SmallJoins
import Derived.Carry
import Derived.LaidLaws
import Derived.Stop.Joined
namespace Go.Proofs.YtlmgehjkbgaknaaGreatDoor
open Go Go.ChangeShapes Go.WideShapes Go.ChangeAt Go.RowKit Go.Joins
set_option maxRecDepth 1000000
theorem planNil_f5 : OpenClaim.wfByText (OpenSpec.ofChange Rows.planNilSpec) Rows.planNilRow = true := by kernel_rfl
theorem planNil_f6 : Tryz.pinned.checked.prog.mainIs = some (true, Rows.planNilCard.stood.harness.2.toList) := by kernel_rfl
end Go.Proofs.YtlmgehjkbgaknaaGreatDoor
