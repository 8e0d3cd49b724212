import Derived.Test.YtjhcfoinldcaoaaGreatDoorRows
import Derived.Test.YtjhcfoinldcaoaaGreatDoorCards
import Derived.ProofKit
import Derived.SevenTiedAt
import Derived.Lib.SmallJoins
import Derived.Carry
import Derived.LaidLaws
import Derived.Stop.Joined
namespace Go.Proofs.YtjhcfoinldcaoaaGreatDoor
open Go Go.ChangeShapes Go.WideShapes Go.ChangeAt Go.RowKit Go.Joins
set_option maxRecDepth 1000000
theorem serverNil_f5 : OpenClaim.wfByText (OpenSpec.ofChange Rows.serverNilSpec) Rows.serverNilRow = true := by kernel_rfl
theorem serverNil_f6 : Tryz.pinned.checked.prog.mainIs = some (true, Rows.serverNilCard.stood.harness.2.toList) := by kernel_rfl
end Go.Proofs.YtjhcfoinldcaoaaGreatDoor
