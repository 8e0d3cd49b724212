import Derived.Test.YtjhcfoinldcaoaaGreatDoorRows
import Derived.Test.YtjhcfoinldcaoaaGreatDoorCards
import Derived.ProofKit
import Derived.SevenTiedAt
import Derived.Lib.SmallJoins
import Derived.Carry
import Derived.LaidLaws
import Derived.Stop.Joined
namespace Go.Proofs.YtjhcfoinldcaoaaGreatDoor
open Go Go.ChangeShapes Go.WideShapes Go.ChangeAt Go.RowKit Go.Joins
set_option maxRecDepth 1000000
theorem serverNil_f2 : Tryz.pinned.checked.prog.funcNamed Rows.serverNilRow.func = some 3 := by kernel_rfl
theorem serverNil_f3 : Func.isInstance Tryz.pinned.checked.prog Tryz.f3 Rows.serverNilRow.origin Rows.serverNilRow.targs := (of_decide_eq_true (by kernel_rfl))
theorem serverNil_f4 : Func.isWrapper Tryz.pinned.checked.prog Tryz.f3 Rows.serverNilRow.wrapper Rows.serverNilRow.mainSum := (by unfold Func.isWrapper; first | (rw [if_pos (by decide +kernel)]; kernel_rfl) | (rw [if_neg (by decide +kernel)]; exact ⟨rfl, rfl⟩))
theorem serverNil_f7 : false = Tryz.pinned.checked.prog.looks [] := by kernel_rfl
end Go.Proofs.YtjhcfoinldcaoaaGreatDoor
