import Derived.Test.YtjhcfoinldcaoaaGreatDoorRows
import Derived.Test.YtjhcfoinldcaoaaGreatDoorCards
import Derived.ProofKit
import Derived.SevenTiedAt
import Derived.Lib.SmallJoins
import Derived.Carry
import Derived.LaidLaws
import Derived.Stop.Joined
namespace Go.Proofs.YtjhcfoinldcaoaaGreatDoor
open Go Go.ChangeShapes Go.WideShapes Go.ChangeAt Go.RowKit Go.Joins
set_option maxRecDepth 1000000
theorem worldNil_f2 : Tryz.pinned.checked.prog.funcNamed Rows.worldNilRow.func = some 4 := by kernel_rfl
theorem worldNil_f3 : Func.isInstance Tryz.pinned.checked.prog Tryz.f4 Rows.worldNilRow.origin Rows.worldNilRow.targs := (of_decide_eq_true (by kernel_rfl))
theorem worldNil_f4 : Func.isWrapper Tryz.pinned.checked.prog Tryz.f4 Rows.worldNilRow.wrapper Rows.worldNilRow.mainSum := (by unfold Func.isWrapper; first | (rw [if_pos (by decide +kernel)]; kernel_rfl) | (rw [if_neg (by decide +kernel)]; exact ⟨rfl, rfl⟩))
theorem worldNil_f7 : false = Tryz.pinned.checked.prog.looks [] := by kernel_rfl
end Go.Proofs.YtjhcfoinldcaoaaGreatDoor
