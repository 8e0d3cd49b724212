import Derived.Test.YtjhcfoinldcaoaaGreatDoorRows
import Derived.Test.YtjhcfoinldcaoaaGreatDoorCards
import Derived.ProofKit
import Derived.SevenTiedAt
import Derived.Lib.SmallJoins
import Derived.Carry
import Derived.LaidLaws
import Derived.Stop.Joined
namespace Go.Proofs.YtjhcfoinldcaoaaGreatDoor
open Go Go.ChangeShapes Go.WideShapes Go.ChangeAt Go.RowKit Go.Joins
set_option maxRecDepth 1000000
theorem worldNil_j9 : ((Rows.worldNilRow.inPlace == Tryz.pinned.checked.prog.inPlace 4)) = true := by kernel_rfl
end Go.Proofs.YtjhcfoinldcaoaaGreatDoor
