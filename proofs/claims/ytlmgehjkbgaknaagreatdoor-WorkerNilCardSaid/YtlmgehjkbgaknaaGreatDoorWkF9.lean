import Derived.Test.YtlmgehjkbgaknaaGreatDoorWkF8
import Derived.Test.YtlmgehjkbgaknaaGreatDoorWkF7
import Derived.Test.YtlmgehjkbgaknaaGreatDoorWkF6
import Derived.Test.YtlmgehjkbgaknaaGreatDoorWkF5
import Derived.Test.YtlmgehjkbgaknaaGreatDoorWkF4
import Derived.Test.YtlmgehjkbgaknaaGreatDoorWkF3
import Derived.Test.YtlmgehjkbgaknaaGreatDoorWkF2
import Derived.Test.YtlmgehjkbgaknaaGreatDoorWkF1
import Derived.Test.YtlmgehjkbgaknaaGreatDoorWkF0
import Derived.Test.YtlmgehjkbgaknaaGreatDoorRows
import Derived.Test.YtlmgehjkbgaknaaGreatDoorCards
import Derived.ProofKit
import Derived.SevenTiedAt
import Derived.Lib.SmallJoins
import Derived.Carry
import Derived.LaidLaws
import Derived.Stop.Joined
namespace Go.Proofs.YtlmgehjkbgaknaaGreatDoor
open Go Go.ChangeShapes Go.WideShapes Go.ChangeAt Go.RowKit Go.Joins
set_option maxRecDepth 1000000
theorem and_mk {a b : Bool} (h1 : a = true) (h2 : b = true) : (a && b) = true := by rw [h1, h2]; rfl
theorem workerNil_f1 : joinedFacts Tryz.pinned.checked.prog 4 Tryz.f4 Rows.workerNilSpec Rows.workerNilRow = true := by
  unfold joinedFacts
  exact (and_mk (and_mk (and_mk (and_mk (and_mk (and_mk (and_mk (and_mk (and_mk (and_mk (and_mk (and_mk (and_mk (and_mk (and_mk (and_mk (and_mk (and_mk (and_mk (and_mk (and_mk (and_mk (and_mk (and_mk (and_mk (and_mk (and_mk (and_mk (and_mk (and_mk (and_mk workerNil_j0 workerNil_j1) workerNil_j2) workerNil_j3) workerNil_j4) workerNil_j5) workerNil_j6) workerNil_j7) workerNil_j8) workerNil_j9) workerNil_j10) workerNil_j11) workerNil_j12) workerNil_j13) workerNil_j14) workerNil_j15) workerNil_j16) workerNil_j17) workerNil_j18) workerNil_j19) workerNil_j20) workerNil_j21) workerNil_j22) workerNil_j23) workerNil_j24) workerNil_j25) workerNil_j26) workerNil_j27) workerNil_j28) workerNil_j29) workerNil_j30) workerNil_j31)
end Go.Proofs.YtlmgehjkbgaknaaGreatDoor
