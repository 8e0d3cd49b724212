/- PRINTED BY mkmemo.py (own): calls of flat arguments that are run ahead. -/
import Derived.Test.YtlmgehjkbgaknaaGreatDoorWkOk

import Derived.Test.YtlmgehjkbgaknaaGreatDoorA4
namespace YtlmgehjkbgaknaaGreatDoorWkM
open Go Am
set_option maxRecDepth 100000
noncomputable def mL53 : List (List AV × AV) := [([(.agg [(.int .i64 (.ofNat 1)), (.int .i64 (.ofNat 11)), (.int .i64 (.ofNat 22))])], (.bool true)), ([(.agg [(.int .i64 (.ofNat 1)), (.int .i64 (.ofNat 2)), (.int .i64 (.ofNat 2))])], (.bool true))]
noncomputable def mT53 : T (List AV × AV) := ⟨.yes none .e .e ⟨.no (some ([(.agg [(.int .i64 (.ofNat 1)), (.int .i64 (.ofNat 2)), (.int .i64 (.ofNat 2))])], (.bool true)))⟩ .e .e ⟨.yes none .e .e .e .e ⟨.yes none .e .e .e ⟨.no (some ([(.agg [(.int .i64 (.ofNat 1)), (.int .i64 (.ofNat 11)), (.int .i64 (.ofNat 22))])], (.bool true)))⟩ .e .e .e .e⟩ .e .e .e⟩ .e .e⟩
theorem mt53 : mT53 = ofPairs (mL53.map fun e => (keyOf e.1, e)) := by kernel_rfl
theorem mk53 : memoOk tb ty 60 53 mL53 = true := by kernel_rfl
noncomputable def mL54 : List (List AV × AV) := [([(.agg [(.int .i64 (.ofNat 1)), (.int .i64 (.ofNat 11)), (.int .i64 (.ofNat 22))])], (.int .i64 (.ofNat 840))), ([(.agg [(.int .i64 (.ofNat 1)), (.int .i64 (.ofNat 2)), (.int .i64 (.ofNat 2))])], (.int .i64 (.ofNat 536)))]
noncomputable def mT54 : T (List AV × AV) := ⟨.yes none .e .e ⟨.no (some ([(.agg [(.int .i64 (.ofNat 1)), (.int .i64 (.ofNat 2)), (.int .i64 (.ofNat 2))])], (.int .i64 (.ofNat 536))))⟩ .e .e ⟨.yes none .e .e .e .e ⟨.yes none .e .e .e ⟨.no (some ([(.agg [(.int .i64 (.ofNat 1)), (.int .i64 (.ofNat 11)), (.int .i64 (.ofNat 22))])], (.int .i64 (.ofNat 840))))⟩ .e .e .e .e⟩ .e .e .e⟩ .e .e⟩
theorem mt54 : mT54 = ofPairs (mL54.map fun e => (keyOf e.1, e)) := by kernel_rfl
theorem mk54 : memoOk tb ty 60 54 mL54 = true := by kernel_rfl
noncomputable def mL78 : List (List AV × AV) := [([(.int .i64 (.ofNat 0))], (.int .i64 (.ofNat 8)))]
noncomputable def mT78 : T (List AV × AV) := ⟨.no (some ([(.int .i64 (.ofNat 0))], (.int .i64 (.ofNat 8))))⟩
theorem mt78 : mT78 = ofPairs (mL78.map fun e => (keyOf e.1, e)) := by kernel_rfl
theorem mk78 : memoOk tb ty 60 78 mL78 = true := by kernel_rfl
noncomputable def mL103 : List (List AV × AV) := [([(.agg [(.int .i64 (.ofNat 1)), (.int .i64 (.ofNat 11)), (.int .i64 (.ofNat 22))]), (.int .u8 (.ofNat 6)), (.int .i64 (.ofNat 0))], (.int .i64 (.ofNat 472))), ([(.agg [(.int .i64 (.ofNat 1)), (.int .i64 (.ofNat 11)), (.int .i64 (.ofNat 22))]), (.int .u8 (.ofNat 7)), (.int .i64 (.ofNat 0))], (.int .i64 (.ofNat 480))), ([(.agg [(.int .i64 (.ofNat 1)), (.int .i64 (.ofNat 11)), (.int .i64 (.ofNat 22))]), (.int .u8 (.ofNat 8)), (.int .i64 (.ofNat 1))], (.int .i64 (.ofNat 504))), ([(.agg [(.int .i64 (.ofNat 1)), (.int .i64 (.ofNat 11)), (.int .i64 (.ofNat 22))]), (.int .u8 (.ofNat 5)), (.int .i64 (.ofNat 1))], (.int .i64 (.negSucc 0))), ([(.agg [(.int .i64 (.ofNat 1)), (.int .i64 (.ofNat 11)), (.int .i64 (.ofNat 22))]), (.int .u8 (.ofNat 5)), (.int .i64 (.ofNat 0))], (.int .i64 (.ofNat 264))), ([(.agg [(.int .i64 (.ofNat 1)), (.int .i64 (.ofNat 2)), (.int .i64 (.ofNat 2))]), (.int .u8 (.ofNat 5)), (.int .i64 (.ofNat 0))], (.int .i64 (.ofNat 264))), ([(.agg [(.int .i64 (.ofNat 1)), (.int .i64 (.ofNat 2)), (.int .i64 (.ofNat 2))]), (.int .u8 (.ofNat 2)), (.int .i64 (.ofNat 0))], (.int .i64 (.ofNat 8)))]
noncomputable def mT103 : T (List AV × AV) := ⟨.yes none ⟨.yes none .e .e .e .e .e .e .e ⟨.yes none ⟨.no (some ([(.agg [(.int .i64 (.ofNat 1)), (.int .i64 (.ofNat 11)), (.int .i64 (.ofNat 22))]), (.int .u8 (.ofNat 5)), (.int .i64 (.ofNat 0))], (.int .i64 (.ofNat 264))))⟩ .e .e .e .e .e .e .e⟩⟩ ⟨.yes none .e .e .e .e .e .e .e ⟨.yes none ⟨.no (some ([(.agg [(.int .i64 (.ofNat 1)), (.int .i64 (.ofNat 11)), (.int .i64 (.ofNat 22))]), (.int .u8 (.ofNat 5)), (.int .i64 (.ofNat 1))], (.int .i64 (.negSucc 0))))⟩ .e .e .e .e .e .e .e⟩⟩ ⟨.yes none .e .e .e ⟨.yes none .e .e .e .e .e .e ⟨.no (some ([(.agg [(.int .i64 (.ofNat 1)), (.int .i64 (.ofNat 2)), (.int .i64 (.ofNat 2))]), (.int .u8 (.ofNat 5)), (.int .i64 (.ofNat 0))], (.int .i64 (.ofNat 264))))⟩ .e⟩ .e .e .e .e⟩ .e .e ⟨.yes none .e .e .e .e .e .e .e ⟨.yes none .e .e .e .e ⟨.no (some ([(.agg [(.int .i64 (.ofNat 1)), (.int .i64 (.ofNat 2)), (.int .i64 (.ofNat 2))]), (.int .u8 (.ofNat 2)), (.int .i64 (.ofNat 0))], (.int .i64 (.ofNat 8))))⟩ .e .e .e⟩⟩ ⟨.yes none .e .e ⟨.yes none .e .e ⟨.no (some ([(.agg [(.int .i64 (.ofNat 1)), (.int .i64 (.ofNat 11)), (.int .i64 (.ofNat 22))]), (.int .u8 (.ofNat 8)), (.int .i64 (.ofNat 1))], (.int .i64 (.ofNat 504))))⟩ .e .e .e .e .e⟩ .e .e .e ⟨.yes none .e ⟨.no (some ([(.agg [(.int .i64 (.ofNat 1)), (.int .i64 (.ofNat 11)), (.int .i64 (.ofNat 22))]), (.int .u8 (.ofNat 7)), (.int .i64 (.ofNat 0))], (.int .i64 (.ofNat 480))))⟩ .e .e .e .e .e .e⟩ .e⟩ ⟨.yes none .e .e ⟨.yes none .e ⟨.no (some ([(.agg [(.int .i64 (.ofNat 1)), (.int .i64 (.ofNat 11)), (.int .i64 (.ofNat 22))]), (.int .u8 (.ofNat 6)), (.int .i64 (.ofNat 0))], (.int .i64 (.ofNat 472))))⟩ .e .e .e .e .e .e⟩ .e .e .e .e .e⟩⟩
theorem mt103 : mT103 = ofPairs (mL103.map fun e => (keyOf e.1, e)) := by kernel_rfl
theorem mk103 : memoOk tb ty 60 103 mL103 = true := by kernel_rfl
noncomputable def seL : List SE := [⟨53, 1, r53, memoS mT53⟩, ⟨54, 1, r54, memoS mT54⟩, ⟨78, 1, r78, memoS mT78⟩, ⟨103, 3, r103, memoS mT103⟩]
noncomputable def sumT : T Sum := ⟨.yes none .e .e .e .e ⟨.yes none .e .e .e .e .e ⟨.no (some (memoS mT53))⟩ .e .e⟩ ⟨.yes none ⟨.yes none ⟨.no (some (memoS mT78))⟩ .e .e .e .e .e .e .e⟩ .e .e .e .e ⟨.no (some (memoS mT54))⟩ .e .e⟩ ⟨.yes none .e .e .e ⟨.yes none ⟨.no (some (memoS mT103))⟩ .e .e .e .e .e .e .e⟩ .e .e .e .e⟩ .e⟩
noncomputable def tbS : T K.FnC := ⟨.yes none ⟨.yes none ⟨.yes (some ⟨r9⟩) ⟨.no (some ⟨K.fnK ctx 73 2⟩)⟩ .e .e ⟨.no (some ⟨r265⟩)⟩ ⟨.no (some ⟨r329⟩)⟩ .e .e .e⟩ ⟨.no (some ⟨r17⟩)⟩ ⟨.yes (some ⟨K.fnK ctx 25 0⟩) .e ⟨.no (some ⟨r153⟩)⟩ .e .e .e .e .e .e⟩ ⟨.yes (some ⟨r33⟩) ⟨.no (some ⟨r97⟩)⟩ ⟨.no (some ⟨r161⟩)⟩ .e .e .e .e .e .e⟩ ⟨.yes (some ⟨r41⟩) ⟨.no (some ⟨r105⟩)⟩ ⟨.no (some ⟨r169⟩)⟩ .e .e ⟨.no (some ⟨r361⟩)⟩ .e .e .e⟩ ⟨.yes (some ⟨r49⟩) ⟨.no (some ⟨r113⟩)⟩ .e .e .e .e .e .e .e⟩ ⟨.yes (some ⟨r57⟩) ⟨.no (some ⟨r121⟩)⟩ .e .e .e .e .e .e .e⟩ ⟨.yes none .e .e ⟨.no (some ⟨r257⟩)⟩ ⟨.no (some ⟨r321⟩)⟩ .e .e .e .e⟩⟩ ⟨.yes none ⟨.yes (some ⟨r10⟩) .e .e .e .e ⟨.no (some ⟨r330⟩)⟩ .e .e .e⟩ ⟨.no (some ⟨K.fnK ctx 18 1⟩)⟩ ⟨.yes (some ⟨r26⟩) .e ⟨.no (some ⟨r154⟩)⟩ .e .e .e .e .e .e⟩ ⟨.yes none ⟨.no (some ⟨r98⟩)⟩ ⟨.no (some ⟨r162⟩)⟩ .e .e .e .e .e .e⟩ ⟨.yes (some ⟨r42⟩) .e ⟨.no (some ⟨r170⟩)⟩ .e .e ⟨.no (some ⟨r362⟩)⟩ .e .e .e⟩ ⟨.yes (some ⟨r50⟩) ⟨.no (some ⟨r114⟩)⟩ .e .e .e .e .e .e .e⟩ ⟨.yes (some ⟨r58⟩) ⟨.no (some ⟨r122⟩)⟩ .e ⟨.no (some ⟨r250⟩)⟩ .e .e .e .e .e⟩ ⟨.yes none .e .e ⟨.no (some ⟨r258⟩)⟩ ⟨.no (some ⟨r322⟩)⟩ .e .e .e .e⟩⟩ ⟨.yes none ⟨.yes none .e .e .e .e ⟨.no (some ⟨r331⟩)⟩ .e .e .e⟩ ⟨.no (some ⟨r19⟩)⟩ .e ⟨.yes none ⟨.no (some ⟨r99⟩)⟩ ⟨.no (some ⟨r163⟩)⟩ .e .e .e .e .e .e⟩ ⟨.yes none ⟨.no (some ⟨r107⟩)⟩ ⟨.no (some ⟨r171⟩)⟩ .e .e ⟨.no (some ⟨r363⟩)⟩ .e .e .e⟩ ⟨.no (some ⟨r51⟩)⟩ ⟨.yes (some ⟨r59⟩) ⟨.no (some ⟨r123⟩)⟩ .e .e .e .e .e .e .e⟩ ⟨.yes none .e .e ⟨.no (some ⟨r259⟩)⟩ ⟨.no (some ⟨r323⟩)⟩ .e .e .e .e⟩⟩ ⟨.yes (some ⟨K.fnK ctx 4 3⟩) ⟨.yes (some ⟨r12⟩) .e .e .e .e ⟨.no (some ⟨r332⟩)⟩ .e .e .e⟩ ⟨.no (some ⟨r20⟩)⟩ .e ⟨.yes none ⟨.no (some ⟨r100⟩)⟩ .e .e .e .e .e .e .e⟩ ⟨.yes none ⟨.no (some ⟨r108⟩)⟩ ⟨.no (some ⟨r172⟩)⟩ .e .e .e .e .e .e⟩ ⟨.no (some ⟨r52⟩)⟩ ⟨.yes (some ⟨r60⟩) ⟨.no (some ⟨r124⟩)⟩ .e ⟨.no (some ⟨r252⟩)⟩ .e .e .e .e .e⟩ ⟨.yes (some ⟨r68⟩) .e .e ⟨.no (some ⟨r260⟩)⟩ ⟨.no (some ⟨r324⟩)⟩ ⟨.no (some ⟨K.extK' ctx 388⟩)⟩ .e .e .e⟩⟩ ⟨.yes none ⟨.yes none ⟨.no (some ⟨r77⟩)⟩ .e .e .e .e .e .e .e⟩ ⟨.no (some ⟨r21⟩)⟩ ⟨.yes none ⟨.no (some ⟨r93⟩)⟩ ⟨.no (some ⟨r157⟩)⟩ .e .e .e .e .e .e⟩ ⟨.yes (some ⟨r37⟩) ⟨.no (some ⟨r101⟩)⟩ ⟨.no (some ⟨r165⟩)⟩ .e .e .e .e .e .e⟩ ⟨.yes (some ⟨r45⟩) ⟨.no (some ⟨r109⟩)⟩ ⟨.no (some ⟨r173⟩)⟩ .e .e .e .e .e .e⟩ ⟨.no (some ⟨K.sumFK (memoS mT53) r53⟩)⟩ ⟨.yes none .e .e ⟨.no (some ⟨r253⟩)⟩ ⟨.no (some ⟨r317⟩)⟩ .e .e .e .e⟩ ⟨.yes none ⟨.no (some ⟨r133⟩)⟩ .e ⟨.no (some ⟨r261⟩)⟩ ⟨.no (some ⟨r325⟩)⟩ .e .e .e .e⟩⟩ ⟨.yes (some ⟨r6⟩) ⟨.yes (some ⟨r14⟩) ⟨.no (some ⟨K.sumFK (memoS mT78) r78⟩)⟩ .e .e .e .e .e .e .e⟩ ⟨.yes (some ⟨r22⟩) .e ⟨.no (some ⟨r150⟩)⟩ .e .e .e .e .e .e⟩ ⟨.yes none ⟨.no (some ⟨r94⟩)⟩ ⟨.no (some ⟨r158⟩)⟩ .e .e .e .e .e .e⟩ ⟨.yes (some ⟨r38⟩) ⟨.no (some ⟨r102⟩)⟩ ⟨.no (some ⟨r166⟩)⟩ .e .e .e .e .e .e⟩ ⟨.yes none ⟨.no (some ⟨r110⟩)⟩ ⟨.no (some ⟨r174⟩)⟩ .e .e .e .e .e .e⟩ ⟨.no (some ⟨K.sumFK (memoS mT54) r54⟩)⟩ ⟨.yes none .e ⟨.no (some ⟨r190⟩)⟩ ⟨.no (some ⟨r254⟩)⟩ .e .e .e .e .e⟩ ⟨.yes (some ⟨r70⟩) .e .e ⟨.no (some ⟨r262⟩)⟩ ⟨.no (some ⟨r326⟩)⟩ .e .e .e .e⟩⟩ ⟨.yes none ⟨.yes (some ⟨r15⟩) ⟨.no (some ⟨r79⟩)⟩ .e .e .e .e .e .e .e⟩ ⟨.yes (some ⟨r23⟩) .e ⟨.no (some ⟨r151⟩)⟩ .e .e .e .e .e .e⟩ ⟨.yes (some ⟨r31⟩) ⟨.no (some ⟨r95⟩)⟩ ⟨.no (some ⟨r159⟩)⟩ .e .e .e .e .e .e⟩ ⟨.yes (some ⟨r39⟩) ⟨.no (some ⟨K.sumFK (memoS mT103) r103⟩)⟩ ⟨.no (some ⟨r167⟩)⟩ .e .e .e .e .e .e⟩ ⟨.yes none ⟨.no (some ⟨r111⟩)⟩ .e .e .e .e .e .e .e⟩ ⟨.yes (some ⟨r55⟩) ⟨.no (some ⟨r119⟩)⟩ .e .e ⟨.no (some ⟨r311⟩)⟩ .e .e .e .e⟩ ⟨.yes (some ⟨r63⟩) ⟨.no (some ⟨r127⟩)⟩ ⟨.no (some ⟨r191⟩)⟩ ⟨.no (some ⟨r255⟩)⟩ .e .e .e .e .e⟩ ⟨.yes (some ⟨r71⟩) .e .e ⟨.no (some ⟨r263⟩)⟩ ⟨.no (some ⟨r327⟩)⟩ .e .e .e .e⟩⟩ ⟨.yes none ⟨.yes (some ⟨r16⟩) .e .e .e ⟨.no (some ⟨r272⟩)⟩ .e .e .e .e⟩ ⟨.yes (some ⟨r24⟩) .e ⟨.no (some ⟨r152⟩)⟩ .e .e .e .e .e .e⟩ ⟨.yes (some ⟨r32⟩) ⟨.no (some ⟨r96⟩)⟩ ⟨.no (some ⟨r160⟩)⟩ .e .e .e .e .e .e⟩ ⟨.yes (some ⟨r40⟩) ⟨.no (some ⟨r104⟩)⟩ ⟨.no (some ⟨r168⟩)⟩ .e .e .e .e .e .e⟩ ⟨.yes (some ⟨r48⟩) ⟨.no (some ⟨r112⟩)⟩ .e .e .e .e .e .e .e⟩ ⟨.no (some ⟨r56⟩)⟩ ⟨.yes none .e ⟨.no (some ⟨r192⟩)⟩ ⟨.no (some ⟨r256⟩)⟩ .e .e .e .e .e⟩ ⟨.yes (some ⟨r72⟩) .e .e .e ⟨.no (some ⟨r328⟩)⟩ .e .e .e .e⟩⟩⟩
theorem sumEq : sumT = sumOf seL := by kernel_rfl
theorem tbSEq : tbS = tbOf tb seL := by kernel_rfl
theorem seG : ∀ x ∈ seL, K.fnK ctx x.f x.n = x.g := by
  intro x hx
  unfold seL at hx
  simp only [List.mem_cons, List.not_mem_nil, or_false] at hx
  rcases hx with rfl | rfl | rfl | rfl
  · dsimp only; exact r53_eq
  · dsimp only; exact r54_eq
  · dsimp only; exact r78_eq
  · dsimp only; exact r103_eq
theorem tbokS : K.TbOkS (ctx.with sumT) tbS := by rw [sumEq]; exact tbOkS_of tbok tbSEq seG
theorem sumOk0 (G : Gd) : SumOk ctx Go.Proofs.Tryz.prog G := fun f s args h v h' hs => by
  have hs : (T.e : T Sum).get f = some s := hs
  rw [T.get_e] at hs; cases hs

theorem ext53 : ctx.ext.get 53 = none := by kernel_rfl
theorem sok53 (hX : ExtOk ctx Go.Proofs.Tryz.prog) (G : Gd) : SOk ctx Go.Proofs.Tryz.prog G ⟨53, 1, r53, memoS mT53⟩ := memo_sok (tb := tb) (ty := ty) (n := 60) (L := mL53) cok hX (sumOk0 G) (K.run_le nosum tbok tyok 60) mt53 mk53 ext53
theorem ext54 : ctx.ext.get 54 = none := by kernel_rfl
theorem sok54 (hX : ExtOk ctx Go.Proofs.Tryz.prog) (G : Gd) : SOk ctx Go.Proofs.Tryz.prog G ⟨54, 1, r54, memoS mT54⟩ := memo_sok (tb := tb) (ty := ty) (n := 60) (L := mL54) cok hX (sumOk0 G) (K.run_le nosum tbok tyok 60) mt54 mk54 ext54
theorem ext78 : ctx.ext.get 78 = none := by kernel_rfl
theorem sok78 (hX : ExtOk ctx Go.Proofs.Tryz.prog) (G : Gd) : SOk ctx Go.Proofs.Tryz.prog G ⟨78, 1, r78, memoS mT78⟩ := memo_sok (tb := tb) (ty := ty) (n := 60) (L := mL78) cok hX (sumOk0 G) (K.run_le nosum tbok tyok 60) mt78 mk78 ext78
theorem ext103 : ctx.ext.get 103 = none := by kernel_rfl
theorem sok103 (hX : ExtOk ctx Go.Proofs.Tryz.prog) (G : Gd) : SOk ctx Go.Proofs.Tryz.prog G ⟨103, 3, r103, memoS mT103⟩ := memo_sok (tb := tb) (ty := ty) (n := 60) (L := mL103) cok hX (sumOk0 G) (K.run_le nosum tbok tyok 60) mt103 mk103 ext103
theorem sokAll (hX : ExtOk ctx Go.Proofs.Tryz.prog) (G : Gd) : ∀ x ∈ seL, SOk ctx Go.Proofs.Tryz.prog G x := by
  intro x hx
  unfold seL at hx
  simp only [List.mem_cons, List.not_mem_nil, or_false] at hx
  rcases hx with rfl | rfl | rfl | rfl
  · exact sok53 hX G
  · exact sok54 hX G
  · exact sok78 hX G
  · exact sok103 hX G
theorem sumOkS (hX : ExtOk ctx Go.Proofs.Tryz.prog) (G : Gd) : SumOk (ctx.with sumT) Go.Proofs.Tryz.prog G := by
  rw [sumEq]
  exact sumOk_of (sokAll hX G)
end YtlmgehjkbgaknaaGreatDoorWkM
