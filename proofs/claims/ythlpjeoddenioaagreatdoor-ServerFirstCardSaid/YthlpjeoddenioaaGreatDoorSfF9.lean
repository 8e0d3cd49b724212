import Derived.Test.YthlpjeoddenioaaGreatDoorSfF8
import Derived.Test.YthlpjeoddenioaaGreatDoorSfF7
import Derived.Test.YthlpjeoddenioaaGreatDoorSfF6
import Derived.Test.YthlpjeoddenioaaGreatDoorSfF5
import Derived.Test.YthlpjeoddenioaaGreatDoorSfF4
import Derived.Test.YthlpjeoddenioaaGreatDoorSfF3
import Derived.Test.YthlpjeoddenioaaGreatDoorSfF2
import Derived.Test.YthlpjeoddenioaaGreatDoorSfF1
import Derived.Test.YthlpjeoddenioaaGreatDoorSfF0
import Derived.Test.YthlpjeoddenioaaGreatDoorRows
import Derived.Test.YthlpjeoddenioaaGreatDoorCards
import Derived.ProofKit
import Derived.SevenTiedAt
import Derived.Lib.SmallJoins
import Derived.Carry
import Derived.LaidLaws
import Derived.Stop.Joined
namespace Go.Proofs.YthlpjeoddenioaaGreatDoor
open Go Go.ChangeShapes Go.WideShapes Go.ChangeAt Go.RowKit Go.Joins
set_option maxRecDepth 1000000
theorem and_mk {a b : Bool} (h1 : a = true) (h2 : b = true) : (a && b) = true := by rw [h1, h2]; rfl
theorem serverFirst_f1 : joinedFacts Tryz.pinned.checked.prog 3 Tryz.f3 Rows.serverFirstSpec Rows.serverFirstRow = true := by
  unfold joinedFacts
  exact (and_mk (and_mk (and_mk (and_mk (and_mk (and_mk (and_mk (and_mk (and_mk (and_mk (and_mk (and_mk (and_mk (and_mk (and_mk (and_mk (and_mk (and_mk (and_mk (and_mk (and_mk (and_mk (and_mk (and_mk (and_mk (and_mk (and_mk (and_mk (and_mk (and_mk (and_mk serverFirst_j0 serverFirst_j1) serverFirst_j2) serverFirst_j3) serverFirst_j4) serverFirst_j5) serverFirst_j6) serverFirst_j7) serverFirst_j8) serverFirst_j9) serverFirst_j10) serverFirst_j11) serverFirst_j12) serverFirst_j13) serverFirst_j14) serverFirst_j15) serverFirst_j16) serverFirst_j17) serverFirst_j18) serverFirst_j19) serverFirst_j20) serverFirst_j21) serverFirst_j22) serverFirst_j23) serverFirst_j24) serverFirst_j25) serverFirst_j26) serverFirst_j27) serverFirst_j28) serverFirst_j29) serverFirst_j30) serverFirst_j31)
end Go.Proofs.YthlpjeoddenioaaGreatDoor
