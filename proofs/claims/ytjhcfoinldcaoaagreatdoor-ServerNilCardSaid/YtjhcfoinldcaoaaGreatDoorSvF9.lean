import Derived.Test.YtjhcfoinldcaoaaGreatDoorSvF8
import Derived.Test.YtjhcfoinldcaoaaGreatDoorSvF7
import Derived.Test.YtjhcfoinldcaoaaGreatDoorSvF6
import Derived.Test.YtjhcfoinldcaoaaGreatDoorSvF5
import Derived.Test.YtjhcfoinldcaoaaGreatDoorSvF4
import Derived.Test.YtjhcfoinldcaoaaGreatDoorSvF3
import Derived.Test.YtjhcfoinldcaoaaGreatDoorSvF2
import Derived.Test.YtjhcfoinldcaoaaGreatDoorSvF1
import Derived.Test.YtjhcfoinldcaoaaGreatDoorSvF0
import Derived.Test.YtjhcfoinldcaoaaGreatDoorRows
import Derived.Test.YtjhcfoinldcaoaaGreatDoorCards
import Derived.ProofKit
import Derived.SevenTiedAt
import Derived.Lib.SmallJoins
import Derived.Carry
import Derived.LaidLaws
import Derived.Stop.Joined
namespace Go.Proofs.YtjhcfoinldcaoaaGreatDoor
open Go Go.ChangeShapes Go.WideShapes Go.ChangeAt Go.RowKit Go.Joins
set_option maxRecDepth 1000000
theorem and_mk {a b : Bool} (h1 : a = true) (h2 : b = true) : (a && b) = true := by rw [h1, h2]; rfl
theorem serverNil_f1 : joinedFacts Tryz.pinned.checked.prog 3 Tryz.f3 Rows.serverNilSpec Rows.serverNilRow = true := by
  unfold joinedFacts
  exact (and_mk (and_mk (and_mk (and_mk (and_mk (and_mk (and_mk (and_mk (and_mk (and_mk (and_mk (and_mk (and_mk (and_mk (and_mk (and_mk (and_mk (and_mk (and_mk (and_mk (and_mk (and_mk (and_mk (and_mk (and_mk (and_mk (and_mk (and_mk (and_mk (and_mk (and_mk serverNil_j0 serverNil_j1) serverNil_j2) serverNil_j3) serverNil_j4) serverNil_j5) serverNil_j6) serverNil_j7) serverNil_j8) serverNil_j9) serverNil_j10) serverNil_j11) serverNil_j12) serverNil_j13) serverNil_j14) serverNil_j15) serverNil_j16) serverNil_j17) serverNil_j18) serverNil_j19) serverNil_j20) serverNil_j21) serverNil_j22) serverNil_j23) serverNil_j24) serverNil_j25) serverNil_j26) serverNil_j27) serverNil_j28) serverNil_j29) serverNil_j30) serverNil_j31)
end Go.Proofs.YtjhcfoinldcaoaaGreatDoor
