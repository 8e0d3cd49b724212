import Derived.Test.YtlmgehjkbgaknaaGreatDoorRows
import Derived.Test.YtlmgehjkbgaknaaGreatDoorCards
import Derived.ProofKit
import Derived.SevenTiedAt
import Derived.Lib.SmallJoins
import Derived.Carry
import Derived.LaidLaws
import Derived.Stop.Joined
namespace Go.Proofs.YtlmgehjkbgaknaaGreatDoor
open Go Go.ChangeShapes Go.WideShapes Go.ChangeAt Go.RowKit Go.Joins
set_option maxRecDepth 1000000
theorem workerNil_j0 : (Rows.workerNilRow.wf (OpenSpec.ofChange Rows.workerNilSpec)) = true := by kernel_rfl
theorem workerNil_j2 : (mapsRowed Tryz.pinned.checked.prog) = true := by kernel_rfl
theorem workerNil_j3 : (Tryz.f4.params.all (Tryz.pinned.checked.prog.readableRec ·)) = true := by kernel_rfl
theorem workerNil_j4 : (namedTie Tryz.pinned.checked.prog Rows.workerNilRow.named Rows.workerNilSpec.vars) = true := by kernel_rfl
theorem workerNil_j5 : ((Rows.workerNilRow.stops == [])) = true := by kernel_rfl
theorem workerNil_j6 : ((Tryz.pinned.checked.prog.stops == [])) = true := by kernel_rfl
theorem workerNil_j7 : ((Rows.workerNilRow.knobs == [])) = true := by kernel_rfl
theorem workerNil_j8 : ((Tryz.pinned.checked.prog.stopKnobs == [])) = true := by kernel_rfl
theorem workerNil_j13 : ((Rows.workerNilRow.maps == (Tryz.f4.params.toList ++ Rows.workerNilSpec.plain.varTypes Tryz.pinned.checked.prog).any (Tryz.pinned.checked.prog.mapsRec ·))) = true := by kernel_rfl
theorem workerNil_j14 : ((Rows.workerNilRow.ifaces == (Tryz.f4.params.toList ++ Rows.workerNilSpec.plain.varTypes Tryz.pinned.checked.prog).any (Tryz.pinned.checked.prog.ifacesRec ·))) = true := by kernel_rfl
theorem workerNil_j15 : ((Rows.workerNilRow.mapsOut == Tryz.pinned.checked.prog.mapsAmong Tryz.f4.resultTypes.toList)) = true := by kernel_rfl
theorem workerNil_j16 : ((Rows.workerNilRow.loops == (Tryz.f4.params.toList ++ Rows.workerNilSpec.plain.varTypes Tryz.pinned.checked.prog).any (Tryz.pinned.checked.prog.loopsFrom ·))) = true := by kernel_rfl
theorem workerNil_j17 : ((Rows.workerNilRow.wideKeys == (Tryz.f4.params.toList ++ Rows.workerNilSpec.plain.varTypes Tryz.pinned.checked.prog ++ Tryz.f4.resultTypes.toList).any (Tryz.pinned.checked.prog.wideKeysFrom ·))) = true := by kernel_rfl
theorem workerNil_j18 : (Rows.workerNilSpec.vars.all (Tryz.pinned.checked.prog.varReadable ·)) = true := by kernel_rfl
theorem workerNil_j19 : (Tryz.f4.resultTypes.all (fun t => Tryz.pinned.checked.prog.readableRec t && decide (t < Tryz.pinned.checked.prog.types.size))) = true := by kernel_rfl
theorem workerNil_j20 : ((Rows.workerNilRow.ifacesOut == Tryz.f4.resultTypes.toList.any (Tryz.pinned.checked.prog.ifacesRec ·))) = true := by kernel_rfl
theorem workerNil_j21 : ((Rows.workerNilRow.loopsOut == Tryz.f4.resultTypes.toList.any (Tryz.pinned.checked.prog.loopsFrom ·))) = true := by kernel_rfl
theorem workerNil_j22 : ((Rows.workerNilRow.plainKeys == Tryz.pinned.checked.prog.plainKeys)) = true := by kernel_rfl
theorem workerNil_j23 : (Rows.workerNilRow.shortTexts.isNone) = true := by kernel_rfl
theorem workerNil_j24 : (Tryz.pinned.checked.prog.stopsHeard) = true := by kernel_rfl
theorem workerNil_j25 : (Tryz.pinned.checked.prog.mayEnter) = true := by kernel_rfl
theorem workerNil_j26 : ((Rows.workerNilRow.lifted == Tryz.pinned.checked.prog.liftsFinal)) = true := by kernel_rfl
theorem workerNil_j27 : ((Tryz.pinned.checked.prog.make == some Rows.workerNilRow.make)) = true := by kernel_rfl
theorem workerNil_j28 : ((Rows.workerNilRow.kinds == (if Rows.workerNilRow.domain.isEmpty then [] else Tryz.f4.params.toList.map fun t => match Tryz.pinned.checked.prog.underlying t with | some (.int k) => some k | _ => none))) = true := by kernel_rfl
theorem workerNil_j29 : ((Rows.workerNilRow.pinned == Rows.workerNilRow.pinnedBy)) = true := by kernel_rfl
theorem workerNil_j30 : ((Rows.workerNilRow.veiled == (Tryz.f4.params.toList ++ Rows.workerNilSpec.plain.varTypes Tryz.pinned.checked.prog ++ Tryz.f4.resultTypes.toList).any (Tryz.pinned.checked.prog.veiledRec ·))) = true := by kernel_rfl
theorem workerNil_j31 : (Rows.workerNilRow.veiledFits Tryz.pinned.checked.prog Tryz.f4.params.toList (Tryz.f4.params.toList ++ Rows.workerNilSpec.plain.varTypes Tryz.pinned.checked.prog ++ Tryz.f4.resultTypes.toList)) = true := by kernel_rfl
end Go.Proofs.YtlmgehjkbgaknaaGreatDoor
