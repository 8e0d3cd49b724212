import Derived.Test.YtjhcfoinldcaoaaGreatDoorWdF8
import Derived.Test.YtjhcfoinldcaoaaGreatDoorWdF7
import Derived.Test.YtjhcfoinldcaoaaGreatDoorWdF6
import Derived.Test.YtjhcfoinldcaoaaGreatDoorWdF5
import Derived.Test.YtjhcfoinldcaoaaGreatDoorWdF4
import Derived.Test.YtjhcfoinldcaoaaGreatDoorWdF3
import Derived.Test.YtjhcfoinldcaoaaGreatDoorWdF2
import Derived.Test.YtjhcfoinldcaoaaGreatDoorWdF1
import Derived.Test.YtjhcfoinldcaoaaGreatDoorWdF0
import Derived.Test.YtjhcfoinldcaoaaGreatDoorRows
import Derived.Test.YtjhcfoinldcaoaaGreatDoorCards
import Derived.ProofKit
import Derived.SevenTiedAt
import Derived.Lib.SmallJoins
import Derived.Carry
import Derived.LaidLaws
import Derived.Stop.Joined
namespace Go.Proofs.YtjhcfoinldcaoaaGreatDoor
open Go Go.ChangeShapes Go.WideShapes Go.ChangeAt Go.RowKit Go.Joins
set_option maxRecDepth 1000000
theorem and_mk {a b : Bool} (h1 : a = true) (h2 : b = true) : (a && b) = true := by rw [h1, h2]; rfl
theorem worldNil_f1 : joinedFacts Tryz.pinned.checked.prog 4 Tryz.f4 Rows.worldNilSpec Rows.worldNilRow = true := by
  unfold joinedFacts
  exact (and_mk (and_mk (and_mk (and_mk (and_mk (and_mk (and_mk (and_mk (and_mk (and_mk (and_mk (and_mk (and_mk (and_mk (and_mk (and_mk (and_mk (and_mk (and_mk (and_mk (and_mk (and_mk (and_mk (and_mk (and_mk (and_mk (and_mk (and_mk (and_mk (and_mk (and_mk worldNil_j0 worldNil_j1) worldNil_j2) worldNil_j3) worldNil_j4) worldNil_j5) worldNil_j6) worldNil_j7) worldNil_j8) worldNil_j9) worldNil_j10) worldNil_j11) worldNil_j12) worldNil_j13) worldNil_j14) worldNil_j15) worldNil_j16) worldNil_j17) worldNil_j18) worldNil_j19) worldNil_j20) worldNil_j21) worldNil_j22) worldNil_j23) worldNil_j24) worldNil_j25) worldNil_j26) worldNil_j27) worldNil_j28) worldNil_j29) worldNil_j30) worldNil_j31)
end Go.Proofs.YtjhcfoinldcaoaaGreatDoor
