import Derived.Test.YtlmgehjkbgaknaaGreatDoorPlF8
import Derived.Test.YtlmgehjkbgaknaaGreatDoorPlF7
import Derived.Test.YtlmgehjkbgaknaaGreatDoorPlF6
import Derived.Test.YtlmgehjkbgaknaaGreatDoorPlF5
import Derived.Test.YtlmgehjkbgaknaaGreatDoorPlF4
import Derived.Test.YtlmgehjkbgaknaaGreatDoorPlF3
import Derived.Test.YtlmgehjkbgaknaaGreatDoorPlF2
import Derived.Test.YtlmgehjkbgaknaaGreatDoorPlF1
import Derived.Test.YtlmgehjkbgaknaaGreatDoorPlF0
import Derived.Test.YtlmgehjkbgaknaaGreatDoorRows
import Derived.Test.YtlmgehjkbgaknaaGreatDoorCards
import Derived.ProofKit
import Derived.SevenTiedAt
import Derived.Lib.SmallJoins
import Derived.Carry
import Derived.LaidLaws
import Derived.Stop.Joined
namespace Go.Proofs.YtlmgehjkbgaknaaGreatDoor
open Go Go.ChangeShapes Go.WideShapes Go.ChangeAt Go.RowKit Go.Joins
set_option maxRecDepth 1000000
theorem and_mk {a b : Bool} (h1 : a = true) (h2 : b = true) : (a && b) = true := by rw [h1, h2]; rfl
theorem planNil_f1 : joinedFacts Tryz.pinned.checked.prog 3 Tryz.f3 Rows.planNilSpec Rows.planNilRow = true := by
  unfold joinedFacts
  exact (and_mk (and_mk (and_mk (and_mk (and_mk (and_mk (and_mk (and_mk (and_mk (and_mk (and_mk (and_mk (and_mk (and_mk (and_mk (and_mk (and_mk (and_mk (and_mk (and_mk (and_mk (and_mk (and_mk (and_mk (and_mk (and_mk (and_mk (and_mk (and_mk (and_mk (and_mk planNil_j0 planNil_j1) planNil_j2) planNil_j3) planNil_j4) planNil_j5) planNil_j6) planNil_j7) planNil_j8) planNil_j9) planNil_j10) planNil_j11) planNil_j12) planNil_j13) planNil_j14) planNil_j15) planNil_j16) planNil_j17) planNil_j18) planNil_j19) planNil_j20) planNil_j21) planNil_j22) planNil_j23) planNil_j24) planNil_j25) planNil_j26) planNil_j27) planNil_j28) planNil_j29) planNil_j30) planNil_j31)
end Go.Proofs.YtlmgehjkbgaknaaGreatDoor
