import Derived.Test.YthlpjeoddenioaaGreatDoorRows
import Derived.Test.YthlpjeoddenioaaGreatDoorCards
import Derived.ProofKit
import Derived.SevenTiedAt
import Derived.Lib.SmallJoins
import Derived.Carry
import Derived.LaidLaws
import Derived.Stop.Joined
namespace Go.Proofs.YthlpjeoddenioaaGreatDoor
open Go Go.ChangeShapes Go.WideShapes Go.ChangeAt Go.RowKit Go.Joins
set_option maxRecDepth 1000000
theorem serverFirst_f2 : Tryz.pinned.checked.prog.funcNamed Rows.serverFirstRow.func = some 3 := by kernel_rfl
theorem serverFirst_f3 : Func.isInstance Tryz.pinned.checked.prog Tryz.f3 Rows.serverFirstRow.origin Rows.serverFirstRow.targs := (of_decide_eq_true (by kernel_rfl))
theorem serverFirst_f4 : Func.isWrapper Tryz.pinned.checked.prog Tryz.f3 Rows.serverFirstRow.wrapper Rows.serverFirstRow.mainSum := (by unfold Func.isWrapper; first | (rw [if_pos (by decide +kernel)]; kernel_rfl) | (rw [if_neg (by decide +kernel)]; exact ⟨rfl, rfl⟩))
theorem serverFirst_f7 : false = Tryz.pinned.checked.prog.looks [] := by kernel_rfl
end Go.Proofs.YthlpjeoddenioaaGreatDoor
