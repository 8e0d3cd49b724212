import Derived.Test.YtjhcfoinldcaoaaGreatDoorRows
import Derived.Test.YtjhcfoinldcaoaaGreatDoorCards
import Derived.ProofKit
import Derived.SevenTiedAt
import Derived.Lib.SmallJoins
import Derived.Carry
import Derived.LaidLaws
import Derived.Stop.Joined
namespace Go.Proofs.YtjhcfoinldcaoaaGreatDoor
open Go Go.ChangeShapes Go.WideShapes Go.ChangeAt Go.RowKit Go.Joins
set_option maxRecDepth 1000000
theorem worldNil_j0 : (Rows.worldNilRow.wf (OpenSpec.ofChange Rows.worldNilSpec)) = true := by kernel_rfl
theorem worldNil_j2 : (mapsRowed Tryz.pinned.checked.prog) = true := by kernel_rfl
theorem worldNil_j3 : (Tryz.f4.params.all (Tryz.pinned.checked.prog.readableRec ·)) = true := by kernel_rfl
theorem worldNil_j4 : (namedTie Tryz.pinned.checked.prog Rows.worldNilRow.named Rows.worldNilSpec.vars) = true := by kernel_rfl
theorem worldNil_j5 : ((Rows.worldNilRow.stops == [])) = true := by kernel_rfl
theorem worldNil_j6 : ((Tryz.pinned.checked.prog.stops == [])) = true := by kernel_rfl
theorem worldNil_j7 : ((Rows.worldNilRow.knobs == [])) = true := by kernel_rfl
theorem worldNil_j8 : ((Tryz.pinned.checked.prog.stopKnobs == [])) = true := by kernel_rfl
theorem worldNil_j13 : ((Rows.worldNilRow.maps == (Tryz.f4.params.toList ++ Rows.worldNilSpec.plain.varTypes Tryz.pinned.checked.prog).any (Tryz.pinned.checked.prog.mapsRec ·))) = true := by kernel_rfl
theorem worldNil_j14 : ((Rows.worldNilRow.ifaces == (Tryz.f4.params.toList ++ Rows.worldNilSpec.plain.varTypes Tryz.pinned.checked.prog).any (Tryz.pinned.checked.prog.ifacesRec ·))) = true := by kernel_rfl
theorem worldNil_j15 : ((Rows.worldNilRow.mapsOut == Tryz.pinned.checked.prog.mapsAmong Tryz.f4.resultTypes.toList)) = true := by kernel_rfl
theorem worldNil_j16 : ((Rows.worldNilRow.loops == (Tryz.f4.params.toList ++ Rows.worldNilSpec.plain.varTypes Tryz.pinned.checked.prog).any (Tryz.pinned.checked.prog.loopsFrom ·))) = true := by kernel_rfl
theorem worldNil_j17 : ((Rows.worldNilRow.wideKeys == (Tryz.f4.params.toList ++ Rows.worldNilSpec.plain.varTypes Tryz.pinned.checked.prog ++ Tryz.f4.resultTypes.toList).any (Tryz.pinned.checked.prog.wideKeysFrom ·))) = true := by kernel_rfl
theorem worldNil_j18 : (Rows.worldNilSpec.vars.all (Tryz.pinned.checked.prog.varReadable ·)) = true := by kernel_rfl
theorem worldNil_j19 : (Tryz.f4.resultTypes.all (fun t => Tryz.pinned.checked.prog.readableRec t && decide (t < Tryz.pinned.checked.prog.types.size))) = true := by kernel_rfl
theorem worldNil_j20 : ((Rows.worldNilRow.ifacesOut == Tryz.f4.resultTypes.toList.any (Tryz.pinned.checked.prog.ifacesRec ·))) = true := by kernel_rfl
theorem worldNil_j21 : ((Rows.worldNilRow.loopsOut == Tryz.f4.resultTypes.toList.any (Tryz.pinned.checked.prog.loopsFrom ·))) = true := by kernel_rfl
theorem worldNil_j22 : ((Rows.worldNilRow.plainKeys == Tryz.pinned.checked.prog.plainKeys)) = true := by kernel_rfl
theorem worldNil_j23 : (Rows.worldNilRow.shortTexts.isNone) = true := by kernel_rfl
theorem worldNil_j24 : (Tryz.pinned.checked.prog.stopsHeard) = true := by kernel_rfl
theorem worldNil_j25 : (Tryz.pinned.checked.prog.mayEnter) = true := by kernel_rfl
theorem worldNil_j26 : ((Rows.worldNilRow.lifted == Tryz.pinned.checked.prog.liftsFinal)) = true := by kernel_rfl
theorem worldNil_j27 : ((Tryz.pinned.checked.prog.make == some Rows.worldNilRow.make)) = true := by kernel_rfl
theorem worldNil_j28 : ((Rows.worldNilRow.kinds == (if Rows.worldNilRow.domain.isEmpty then [] else Tryz.f4.params.toList.map fun t => match Tryz.pinned.checked.prog.underlying t with | some (.int k) => some k | _ => none))) = true := by kernel_rfl
theorem worldNil_j29 : ((Rows.worldNilRow.pinned == Rows.worldNilRow.pinnedBy)) = true := by kernel_rfl
theorem worldNil_j30 : ((Rows.worldNilRow.veiled == (Tryz.f4.params.toList ++ Rows.worldNilSpec.plain.varTypes Tryz.pinned.checked.prog ++ Tryz.f4.resultTypes.toList).any (Tryz.pinned.checked.prog.veiledRec ·))) = true := by kernel_rfl
theorem worldNil_j31 : (Rows.worldNilRow.veiledFits Tryz.pinned.checked.prog Tryz.f4.params.toList (Tryz.f4.params.toList ++ Rows.worldNilSpec.plain.varTypes Tryz.pinned.checked.prog ++ Tryz.f4.resultTypes.toList)) = true := by kernel_rfl
end Go.Proofs.YtjhcfoinldcaoaaGreatDoor
