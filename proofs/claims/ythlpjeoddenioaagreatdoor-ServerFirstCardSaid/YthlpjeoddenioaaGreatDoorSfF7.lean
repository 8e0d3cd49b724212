import Derived.Test.YthlpjeoddenioaaGreatDoorRows
import Derived.Test.YthlpjeoddenioaaGreatDoorCards
import Derived.ProofKit
import Derived.SevenTiedAt
import Derived.Lib.SmallJoins
import Derived.Carry
import Derived.LaidLaws
import Derived.Stop.Joined
namespace Go.Proofs.YthlpjeoddenioaaGreatDoor
open Go Go.ChangeShapes Go.WideShapes Go.ChangeAt Go.RowKit Go.Joins
set_option maxRecDepth 1000000
theorem serverFirst_f5 : OpenClaim.wfByText (OpenSpec.ofChange Rows.serverFirstSpec) Rows.serverFirstRow = true := by kernel_rfl
theorem serverFirst_f6 : Tryz.pinned.checked.prog.mainIs = some (true, Rows.serverFirstCard.stood.harness.2.toList) := by kernel_rfl
end Go.Proofs.YthlpjeoddenioaaGreatDoor
