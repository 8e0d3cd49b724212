import Derived.Test.YthlpjeoddenioaaGreatDoorRows
import Derived.Test.YthlpjeoddenioaaGreatDoorCards
import Derived.ProofKit
import Derived.SevenTiedAt
import Derived.Lib.SmallJoins
import Derived.Carry
import Derived.LaidLaws
import Derived.Stop.Joined
namespace Go.Proofs.YthlpjeoddenioaaGreatDoor
open Go Go.ChangeShapes Go.WideShapes Go.ChangeAt Go.RowKit Go.Joins
set_option maxRecDepth 1000000
theorem goes_all {P : Program} (h : (P.funcs.toList.all fun f => !f.goes) = true) (g : FuncId) : P.goes g = false := by
  have key : ∀ fn ∈ P.funcs.toList, fn.goes = false := fun fn hf => by simpa using List.all_eq_true.1 h fn hf
  have k1 : ∀ g : FuncId, (P.funcs[g]?).any Func.goes = false := fun g => by
    cases hg : P.funcs[g]? with
    | none => rfl
    | some fn =>
      obtain ⟨i, hi⟩ := Array.getElem?_eq_some_iff.1 hg
      exact key fn (by rw [← hi]; simp)
  have k2 : P.funcs.any Func.goes = false := by
    rw [← Array.any_toList]
    exact List.any_eq_false.2 fun fn hf => by rw [key fn hf]; simp
  unfold Program.goes
  rw [k2, Bool.and_false, Bool.or_false]
  exact List.any_eq_false.2 fun g _ => by rw [k1 g]; simp
theorem goes_none {P : Program} (h : (P.funcs.toList.all fun f => !f.goes) = true) (c : OpenClaim) : false = c.goesBy P := by
  unfold OpenClaim.goesBy Program.goesAt Program.goesFrom
  have k3 : (P.funcNamed c.func).any P.goes = false := by
    cases P.funcNamed c.func with
    | none => rfl
    | some g => exact goes_all h g
  have k4 : P.inits.toList.any P.goes = false := List.any_eq_false.2 fun g _ => by rw [goes_all h g]; simp
  rw [k3, k4]
  cases c.start <;> rfl
theorem serverFirst_f8 : false = Rows.serverFirstRow.goesBy Tryz.pinned.checked.prog := goes_none (by kernel_rfl) _
end Go.Proofs.YthlpjeoddenioaaGreatDoor
