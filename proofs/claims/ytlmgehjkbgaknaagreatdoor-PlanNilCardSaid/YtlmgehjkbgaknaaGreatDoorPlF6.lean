import Derived.Test.YtlmgehjkbgaknaaGreatDoorRows
import Derived.Test.YtlmgehjkbgaknaaGreatDoorCards
import Derived.ProofKit
import Derived.SevenTiedAt
import Derived.Lib.SmallJoins
import Derived.Carry
import Derived.LaidLaws
import Derived.Stop.Joined
namespace Go.Proofs.YtlmgehjkbgaknaaGreatDoor
open Go Go.ChangeShapes Go.WideShapes Go.ChangeAt Go.RowKit Go.Joins
set_option maxRecDepth 1000000
theorem planNil_f2 : Tryz.pinned.checked.prog.funcNamed Rows.planNilRow.func = some 3 := by kernel_rfl
theorem planNil_f3 : Func.isInstance Tryz.pinned.checked.prog Tryz.f3 Rows.planNilRow.origin Rows.planNilRow.targs := (of_decide_eq_true (by kernel_rfl))
theorem planNil_f4 : Func.isWrapper Tryz.pinned.checked.prog Tryz.f3 Rows.planNilRow.wrapper Rows.planNilRow.mainSum := (by unfold Func.isWrapper; first | (rw [if_pos (by decide +kernel)]; kernel_rfl) | (rw [if_neg (by decide +kernel)]; exact ⟨rfl, rfl⟩))
theorem planNil_f7 : false = Tryz.pinned.checked.prog.looks [] := by kernel_rfl
end Go.Proofs.YtlmgehjkbgaknaaGreatDoor
