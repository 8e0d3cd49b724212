import Derived.Test.YtlmgehjkbgaknaaGreatDoorRows
import Derived.Test.YtlmgehjkbgaknaaGreatDoorCards
import Derived.ProofKit
import Derived.SevenTiedAt
import Derived.Lib.SmallJoins
import Derived.Carry
import Derived.LaidLaws
import Derived.Stop.Joined
namespace Go.Proofs.YtlmgehjkbgaknaaGreatDoor
open Go Go.ChangeShapes Go.WideShapes Go.ChangeAt Go.RowKit Go.Joins
set_option maxRecDepth 1000000
theorem planNil_j0 : (Rows.planNilRow.wf (OpenSpec.ofChange Rows.planNilSpec)) = true := by kernel_rfl
theorem planNil_j2 : (mapsRowed Tryz.pinned.checked.prog) = true := by kernel_rfl
theorem planNil_j3 : (Tryz.f3.params.all (Tryz.pinned.checked.prog.readableRec ·)) = true := by kernel_rfl
theorem planNil_j4 : (namedTie Tryz.pinned.checked.prog Rows.planNilRow.named Rows.planNilSpec.vars) = true := by kernel_rfl
theorem planNil_j5 : ((Rows.planNilRow.stops == [])) = true := by kernel_rfl
theorem planNil_j6 : ((Tryz.pinned.checked.prog.stops == [])) = true := by kernel_rfl
theorem planNil_j7 : ((Rows.planNilRow.knobs == [])) = true := by kernel_rfl
theorem planNil_j8 : ((Tryz.pinned.checked.prog.stopKnobs == [])) = true := by kernel_rfl
theorem planNil_j13 : ((Rows.planNilRow.maps == (Tryz.f3.params.toList ++ Rows.planNilSpec.plain.varTypes Tryz.pinned.checked.prog).any (Tryz.pinned.checked.prog.mapsRec ·))) = true := by kernel_rfl
theorem planNil_j14 : ((Rows.planNilRow.ifaces == (Tryz.f3.params.toList ++ Rows.planNilSpec.plain.varTypes Tryz.pinned.checked.prog).any (Tryz.pinned.checked.prog.ifacesRec ·))) = true := by kernel_rfl
theorem planNil_j15 : ((Rows.planNilRow.mapsOut == Tryz.pinned.checked.prog.mapsAmong Tryz.f3.resultTypes.toList)) = true := by kernel_rfl
theorem planNil_j16 : ((Rows.planNilRow.loops == (Tryz.f3.params.toList ++ Rows.planNilSpec.plain.varTypes Tryz.pinned.checked.prog).any (Tryz.pinned.checked.prog.loopsFrom ·))) = true := by kernel_rfl
theorem planNil_j17 : ((Rows.planNilRow.wideKeys == (Tryz.f3.params.toList ++ Rows.planNilSpec.plain.varTypes Tryz.pinned.checked.prog ++ Tryz.f3.resultTypes.toList).any (Tryz.pinned.checked.prog.wideKeysFrom ·))) = true := by kernel_rfl
theorem planNil_j18 : (Rows.planNilSpec.vars.all (Tryz.pinned.checked.prog.varReadable ·)) = true := by kernel_rfl
theorem planNil_j19 : (Tryz.f3.resultTypes.all (fun t => Tryz.pinned.checked.prog.readableRec t && decide (t < Tryz.pinned.checked.prog.types.size))) = true := by kernel_rfl
theorem planNil_j20 : ((Rows.planNilRow.ifacesOut == Tryz.f3.resultTypes.toList.any (Tryz.pinned.checked.prog.ifacesRec ·))) = true := by kernel_rfl
theorem planNil_j21 : ((Rows.planNilRow.loopsOut == Tryz.f3.resultTypes.toList.any (Tryz.pinned.checked.prog.loopsFrom ·))) = true := by kernel_rfl
theorem planNil_j22 : ((Rows.planNilRow.plainKeys == Tryz.pinned.checked.prog.plainKeys)) = true := by kernel_rfl
theorem planNil_j23 : (Rows.planNilRow.shortTexts.isNone) = true := by kernel_rfl
theorem planNil_j24 : (Tryz.pinned.checked.prog.stopsHeard) = true := by kernel_rfl
theorem planNil_j25 : (Tryz.pinned.checked.prog.mayEnter) = true := by kernel_rfl
theorem planNil_j26 : ((Rows.planNilRow.lifted == Tryz.pinned.checked.prog.liftsFinal)) = true := by kernel_rfl
theorem planNil_j27 : ((Tryz.pinned.checked.prog.make == some Rows.planNilRow.make)) = true := by kernel_rfl
theorem planNil_j28 : ((Rows.planNilRow.kinds == (if Rows.planNilRow.domain.isEmpty then [] else Tryz.f3.params.toList.map fun t => match Tryz.pinned.checked.prog.underlying t with | some (.int k) => some k | _ => none))) = true := by kernel_rfl
theorem planNil_j29 : ((Rows.planNilRow.pinned == Rows.planNilRow.pinnedBy)) = true := by kernel_rfl
theorem planNil_j30 : ((Rows.planNilRow.veiled == (Tryz.f3.params.toList ++ Rows.planNilSpec.plain.varTypes Tryz.pinned.checked.prog ++ Tryz.f3.resultTypes.toList).any (Tryz.pinned.checked.prog.veiledRec ·))) = true := by kernel_rfl
theorem planNil_j31 : (Rows.planNilRow.veiledFits Tryz.pinned.checked.prog Tryz.f3.params.toList (Tryz.f3.params.toList ++ Rows.planNilSpec.plain.varTypes Tryz.pinned.checked.prog ++ Tryz.f3.resultTypes.toList)) = true := by kernel_rfl
end Go.Proofs.YtlmgehjkbgaknaaGreatDoor
