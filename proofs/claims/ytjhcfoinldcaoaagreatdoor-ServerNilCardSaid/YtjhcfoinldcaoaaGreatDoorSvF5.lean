import Derived.Test.YtjhcfoinldcaoaaGreatDoorRows
import Derived.Test.YtjhcfoinldcaoaaGreatDoorCards
import Derived.ProofKit
import Derived.SevenTiedAt
import Derived.Lib.SmallJoins
import Derived.Carry
import Derived.LaidLaws
import Derived.Stop.Joined
namespace Go.Proofs.YtjhcfoinldcaoaaGreatDoor
open Go Go.ChangeShapes Go.WideShapes Go.ChangeAt Go.RowKit Go.Joins
set_option maxRecDepth 1000000
theorem serverNil_j0 : (Rows.serverNilRow.wf (OpenSpec.ofChange Rows.serverNilSpec)) = true := by kernel_rfl
theorem serverNil_j2 : (mapsRowed Tryz.pinned.checked.prog) = true := by kernel_rfl
theorem serverNil_j3 : (Tryz.f3.params.all (Tryz.pinned.checked.prog.readableRec ·)) = true := by kernel_rfl
theorem serverNil_j4 : (namedTie Tryz.pinned.checked.prog Rows.serverNilRow.named Rows.serverNilSpec.vars) = true := by kernel_rfl
theorem serverNil_j5 : ((Rows.serverNilRow.stops == [])) = true := by kernel_rfl
theorem serverNil_j6 : ((Tryz.pinned.checked.prog.stops == [])) = true := by kernel_rfl
theorem serverNil_j7 : ((Rows.serverNilRow.knobs == [])) = true := by kernel_rfl
theorem serverNil_j8 : ((Tryz.pinned.checked.prog.stopKnobs == [])) = true := by kernel_rfl
theorem serverNil_j13 : ((Rows.serverNilRow.maps == (Tryz.f3.params.toList ++ Rows.serverNilSpec.plain.varTypes Tryz.pinned.checked.prog).any (Tryz.pinned.checked.prog.mapsRec ·))) = true := by kernel_rfl
theorem serverNil_j14 : ((Rows.serverNilRow.ifaces == (Tryz.f3.params.toList ++ Rows.serverNilSpec.plain.varTypes Tryz.pinned.checked.prog).any (Tryz.pinned.checked.prog.ifacesRec ·))) = true := by kernel_rfl
theorem serverNil_j15 : ((Rows.serverNilRow.mapsOut == Tryz.pinned.checked.prog.mapsAmong Tryz.f3.resultTypes.toList)) = true := by kernel_rfl
theorem serverNil_j16 : ((Rows.serverNilRow.loops == (Tryz.f3.params.toList ++ Rows.serverNilSpec.plain.varTypes Tryz.pinned.checked.prog).any (Tryz.pinned.checked.prog.loopsFrom ·))) = true := by kernel_rfl
theorem serverNil_j17 : ((Rows.serverNilRow.wideKeys == (Tryz.f3.params.toList ++ Rows.serverNilSpec.plain.varTypes Tryz.pinned.checked.prog ++ Tryz.f3.resultTypes.toList).any (Tryz.pinned.checked.prog.wideKeysFrom ·))) = true := by kernel_rfl
theorem serverNil_j18 : (Rows.serverNilSpec.vars.all (Tryz.pinned.checked.prog.varReadable ·)) = true := by kernel_rfl
theorem serverNil_j19 : (Tryz.f3.resultTypes.all (fun t => Tryz.pinned.checked.prog.readableRec t && decide (t < Tryz.pinned.checked.prog.types.size))) = true := by kernel_rfl
theorem serverNil_j20 : ((Rows.serverNilRow.ifacesOut == Tryz.f3.resultTypes.toList.any (Tryz.pinned.checked.prog.ifacesRec ·))) = true := by kernel_rfl
theorem serverNil_j21 : ((Rows.serverNilRow.loopsOut == Tryz.f3.resultTypes.toList.any (Tryz.pinned.checked.prog.loopsFrom ·))) = true := by kernel_rfl
theorem serverNil_j22 : ((Rows.serverNilRow.plainKeys == Tryz.pinned.checked.prog.plainKeys)) = true := by kernel_rfl
theorem serverNil_j23 : (Rows.serverNilRow.shortTexts.isNone) = true := by kernel_rfl
theorem serverNil_j24 : (Tryz.pinned.checked.prog.stopsHeard) = true := by kernel_rfl
theorem serverNil_j25 : (Tryz.pinned.checked.prog.mayEnter) = true := by kernel_rfl
theorem serverNil_j26 : ((Rows.serverNilRow.lifted == Tryz.pinned.checked.prog.liftsFinal)) = true := by kernel_rfl
theorem serverNil_j27 : ((Tryz.pinned.checked.prog.make == some Rows.serverNilRow.make)) = true := by kernel_rfl
theorem serverNil_j28 : ((Rows.serverNilRow.kinds == (if Rows.serverNilRow.domain.isEmpty then [] else Tryz.f3.params.toList.map fun t => match Tryz.pinned.checked.prog.underlying t with | some (.int k) => some k | _ => none))) = true := by kernel_rfl
theorem serverNil_j29 : ((Rows.serverNilRow.pinned == Rows.serverNilRow.pinnedBy)) = true := by kernel_rfl
theorem serverNil_j30 : ((Rows.serverNilRow.veiled == (Tryz.f3.params.toList ++ Rows.serverNilSpec.plain.varTypes Tryz.pinned.checked.prog ++ Tryz.f3.resultTypes.toList).any (Tryz.pinned.checked.prog.veiledRec ·))) = true := by kernel_rfl
theorem serverNil_j31 : (Rows.serverNilRow.veiledFits Tryz.pinned.checked.prog Tryz.f3.params.toList (Tryz.f3.params.toList ++ Rows.serverNilSpec.plain.varTypes Tryz.pinned.checked.prog ++ Tryz.f3.resultTypes.toList)) = true := by kernel_rfl
end Go.Proofs.YtjhcfoinldcaoaaGreatDoor
