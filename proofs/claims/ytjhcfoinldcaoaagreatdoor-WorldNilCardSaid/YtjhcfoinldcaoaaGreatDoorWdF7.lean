import Derived.Test.YtjhcfoinldcaoaaGreatDoorRows
import Derived.Test.YtjhcfoinldcaoaaGreatDoorCards
import Derived.ProofKit
import Derived.SevenTiedAt
import Derived.Lib.SmallJoins
import Derived.Carry
import Derived.LaidLaws
import Derived.Stop.Joined
namespace Go.Proofs.YtjhcfoinldcaoaaGreatDoor
open Go Go.ChangeShapes Go.WideShapes Go.ChangeAt Go.RowKit Go.Joins
set_option maxRecDepth 1000000
theorem worldNil_f5 : OpenClaim.wfByText (OpenSpec.ofChange Rows.worldNilSpec) Rows.worldNilRow = true := by kernel_rfl
theorem worldNil_f6 : Tryz.pinned.checked.prog.mainIs = some (true, Rows.worldNilCard.stood.harness.2.toList) := by kernel_rfl
end Go.Proofs.YtjhcfoinldcaoaaGreatDoor
