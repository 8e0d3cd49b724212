import Derived.Test.YthlpjeoddenioaaGreatDoorRows
import Derived.Test.YthlpjeoddenioaaGreatDoorCards
import Derived.ProofKit
import Derived.SevenTiedAt
import Derived.Lib.SmallJoins
import Derived.Carry
import Derived.LaidLaws
import Derived.Stop.Joined
namespace Go.Proofs.YthlpjeoddenioaaGreatDoor
open Go Go.ChangeShapes Go.WideShapes Go.ChangeAt Go.RowKit Go.Joins
set_option maxRecDepth 1000000
theorem serverFirst_j0 : (Rows.serverFirstRow.wf (OpenSpec.ofChange Rows.serverFirstSpec)) = true := by kernel_rfl
theorem serverFirst_j2 : (mapsRowed Tryz.pinned.checked.prog) = true := by kernel_rfl
theorem serverFirst_j3 : (Tryz.f3.params.all (Tryz.pinned.checked.prog.readableRec ·)) = true := by kernel_rfl
theorem serverFirst_j4 : (namedTie Tryz.pinned.checked.prog Rows.serverFirstRow.named Rows.serverFirstSpec.vars) = true := by kernel_rfl
theorem serverFirst_j5 : ((Rows.serverFirstRow.stops == [])) = true := by kernel_rfl
theorem serverFirst_j6 : ((Tryz.pinned.checked.prog.stops == [])) = true := by kernel_rfl
theorem serverFirst_j7 : ((Rows.serverFirstRow.knobs == [])) = true := by kernel_rfl
theorem serverFirst_j8 : ((Tryz.pinned.checked.prog.stopKnobs == [])) = true := by kernel_rfl
theorem serverFirst_j13 : ((Rows.serverFirstRow.maps == (Tryz.f3.params.toList ++ Rows.serverFirstSpec.plain.varTypes Tryz.pinned.checked.prog).any (Tryz.pinned.checked.prog.mapsRec ·))) = true := by kernel_rfl
theorem serverFirst_j14 : ((Rows.serverFirstRow.ifaces == (Tryz.f3.params.toList ++ Rows.serverFirstSpec.plain.varTypes Tryz.pinned.checked.prog).any (Tryz.pinned.checked.prog.ifacesRec ·))) = true := by kernel_rfl
theorem serverFirst_j15 : ((Rows.serverFirstRow.mapsOut == Tryz.pinned.checked.prog.mapsAmong Tryz.f3.resultTypes.toList)) = true := by kernel_rfl
theorem serverFirst_j16 : ((Rows.serverFirstRow.loops == (Tryz.f3.params.toList ++ Rows.serverFirstSpec.plain.varTypes Tryz.pinned.checked.prog).any (Tryz.pinned.checked.prog.loopsFrom ·))) = true := by kernel_rfl
theorem serverFirst_j17 : ((Rows.serverFirstRow.wideKeys == (Tryz.f3.params.toList ++ Rows.serverFirstSpec.plain.varTypes Tryz.pinned.checked.prog ++ Tryz.f3.resultTypes.toList).any (Tryz.pinned.checked.prog.wideKeysFrom ·))) = true := by kernel_rfl
theorem serverFirst_j18 : (Rows.serverFirstSpec.vars.all (Tryz.pinned.checked.prog.varReadable ·)) = true := by kernel_rfl
theorem serverFirst_j19 : (Tryz.f3.resultTypes.all (fun t => Tryz.pinned.checked.prog.readableRec t && decide (t < Tryz.pinned.checked.prog.types.size))) = true := by kernel_rfl
theorem serverFirst_j20 : ((Rows.serverFirstRow.ifacesOut == Tryz.f3.resultTypes.toList.any (Tryz.pinned.checked.prog.ifacesRec ·))) = true := by kernel_rfl
theorem serverFirst_j21 : ((Rows.serverFirstRow.loopsOut == Tryz.f3.resultTypes.toList.any (Tryz.pinned.checked.prog.loopsFrom ·))) = true := by kernel_rfl
theorem serverFirst_j22 : ((Rows.serverFirstRow.plainKeys == Tryz.pinned.checked.prog.plainKeys)) = true := by kernel_rfl
theorem serverFirst_j23 : (Rows.serverFirstRow.shortTexts.isNone) = true := by kernel_rfl
theorem serverFirst_j24 : (Tryz.pinned.checked.prog.stopsHeard) = true := by kernel_rfl
theorem serverFirst_j25 : (Tryz.pinned.checked.prog.mayEnter) = true := by kernel_rfl
theorem serverFirst_j26 : ((Rows.serverFirstRow.lifted == Tryz.pinned.checked.prog.liftsFinal)) = true := by kernel_rfl
theorem serverFirst_j27 : ((Tryz.pinned.checked.prog.make == some Rows.serverFirstRow.make)) = true := by kernel_rfl
theorem serverFirst_j28 : ((Rows.serverFirstRow.kinds == (if Rows.serverFirstRow.domain.isEmpty then [] else Tryz.f3.params.toList.map fun t => match Tryz.pinned.checked.prog.underlying t with | some (.int k) => some k | _ => none))) = true := by kernel_rfl
theorem serverFirst_j29 : ((Rows.serverFirstRow.pinned == Rows.serverFirstRow.pinnedBy)) = true := by kernel_rfl
theorem serverFirst_j30 : ((Rows.serverFirstRow.veiled == (Tryz.f3.params.toList ++ Rows.serverFirstSpec.plain.varTypes Tryz.pinned.checked.prog ++ Tryz.f3.resultTypes.toList).any (Tryz.pinned.checked.prog.veiledRec ·))) = true := by kernel_rfl
theorem serverFirst_j31 : (Rows.serverFirstRow.veiledFits Tryz.pinned.checked.prog Tryz.f3.params.toList (Tryz.f3.params.toList ++ Rows.serverFirstSpec.plain.varTypes Tryz.pinned.checked.prog ++ Tryz.f3.resultTypes.toList)) = true := by kernel_rfl
end Go.Proofs.YthlpjeoddenioaaGreatDoor
