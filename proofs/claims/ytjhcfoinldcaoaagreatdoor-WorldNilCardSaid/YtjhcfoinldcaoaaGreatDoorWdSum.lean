/- PRINTED BY mkmemo.py (own): calls of flat arguments that are run ahead. -/
import Derived.Test.YtjhcfoinldcaoaaGreatDoorWdOk
import Derived.Test.YtjhcfoinldcaoaaGreatDoorWdSeen
import Derived.Test.YtjhcfoinldcaoaaGreatDoorA4
namespace YtjhcfoinldcaoaaGreatDoorWdM
open Go Am
set_option maxRecDepth 100000
noncomputable def mL41 : List (List AV × AV) := [([(.agg [(.int .i64 (.ofNat 0)), (.int .i64 (.ofNat 0)), (.int .i64 (.ofNat 0))])], (.bool false)), ([(.agg [(.int .i64 (.ofNat 1)), (.int .i64 (.ofNat 11)), (.int .i64 (.ofNat 22))])], (.bool true)), ([(.agg [(.int .i64 (.ofNat 1)), (.int .i64 (.ofNat 2)), (.int .i64 (.ofNat 2))])], (.bool true))]
noncomputable def mT41 : T (List AV × AV) := ⟨.yes (some ([(.agg [(.int .i64 (.ofNat 0)), (.int .i64 (.ofNat 0)), (.int .i64 (.ofNat 0))])], (.bool false))) .e .e ⟨.no (some ([(.agg [(.int .i64 (.ofNat 1)), (.int .i64 (.ofNat 2)), (.int .i64 (.ofNat 2))])], (.bool true)))⟩ .e .e ⟨.yes none .e .e .e .e ⟨.yes none .e .e .e ⟨.no (some ([(.agg [(.int .i64 (.ofNat 1)), (.int .i64 (.ofNat 11)), (.int .i64 (.ofNat 22))])], (.bool true)))⟩ .e .e .e .e⟩ .e .e .e⟩ .e .e⟩
theorem mt41 : mT41 = ofPairs (mL41.map fun e => (keyOf e.1, e)) := by kernel_rfl
theorem mk41 : memoOk tb ty 60 41 mL41 = true := by kernel_rfl
noncomputable def mL42 : List (List AV × AV) := [([(.agg [(.int .i64 (.ofNat 1)), (.int .i64 (.ofNat 11)), (.int .i64 (.ofNat 22))])], (.int .i64 (.ofNat 840))), ([(.agg [(.int .i64 (.ofNat 1)), (.int .i64 (.ofNat 2)), (.int .i64 (.ofNat 2))])], (.int .i64 (.ofNat 536)))]
noncomputable def mT42 : T (List AV × AV) := ⟨.yes none .e .e ⟨.no (some ([(.agg [(.int .i64 (.ofNat 1)), (.int .i64 (.ofNat 2)), (.int .i64 (.ofNat 2))])], (.int .i64 (.ofNat 536))))⟩ .e .e ⟨.yes none .e .e .e .e ⟨.yes none .e .e .e ⟨.no (some ([(.agg [(.int .i64 (.ofNat 1)), (.int .i64 (.ofNat 11)), (.int .i64 (.ofNat 22))])], (.int .i64 (.ofNat 840))))⟩ .e .e .e .e⟩ .e .e .e⟩ .e .e⟩
theorem mt42 : mT42 = ofPairs (mL42.map fun e => (keyOf e.1, e)) := by kernel_rfl
theorem mk42 : memoOk tb ty 60 42 mL42 = true := by kernel_rfl
noncomputable def mL53 : List (List AV × AV) := [([(.agg [(.int .i64 (.ofNat 1)), (.int .i64 (.ofNat 11)), (.int .i64 (.ofNat 22))]), (.int .u8 (.ofNat 6)), (.int .i64 (.ofNat 0))], (.int .i64 (.ofNat 472))), ([(.agg [(.int .i64 (.ofNat 1)), (.int .i64 (.ofNat 11)), (.int .i64 (.ofNat 22))]), (.int .u8 (.ofNat 7)), (.int .i64 (.ofNat 0))], (.int .i64 (.ofNat 480))), ([(.agg [(.int .i64 (.ofNat 1)), (.int .i64 (.ofNat 11)), (.int .i64 (.ofNat 22))]), (.int .u8 (.ofNat 8)), (.int .i64 (.ofNat 1))], (.int .i64 (.ofNat 504))), ([(.agg [(.int .i64 (.ofNat 1)), (.int .i64 (.ofNat 11)), (.int .i64 (.ofNat 22))]), (.int .u8 (.ofNat 5)), (.int .i64 (.ofNat 0))], (.int .i64 (.ofNat 264))), ([(.agg [(.int .i64 (.ofNat 1)), (.int .i64 (.ofNat 2)), (.int .i64 (.ofNat 2))]), (.int .u8 (.ofNat 6)), (.int .i64 (.ofNat 0))], (.int .i64 (.ofNat 472))), ([(.agg [(.int .i64 (.ofNat 1)), (.int .i64 (.ofNat 2)), (.int .i64 (.ofNat 2))]), (.int .u8 (.ofNat 7)), (.int .i64 (.ofNat 0))], (.int .i64 (.ofNat 480))), ([(.agg [(.int .i64 (.ofNat 1)), (.int .i64 (.ofNat 2)), (.int .i64 (.ofNat 2))]), (.int .u8 (.ofNat 8)), (.int .i64 (.ofNat 1))], (.int .i64 (.ofNat 504))), ([(.agg [(.int .i64 (.ofNat 1)), (.int .i64 (.ofNat 2)), (.int .i64 (.ofNat 2))]), (.int .u8 (.ofNat 5)), (.int .i64 (.ofNat 0))], (.int .i64 (.ofNat 264))), ([(.agg [(.int .i64 (.ofNat 1)), (.int .i64 (.ofNat 2)), (.int .i64 (.ofNat 2))]), (.int .u8 (.ofNat 2)), (.int .i64 (.ofNat 0))], (.int .i64 (.ofNat 8)))]
noncomputable def mT53 : T (List AV × AV) := ⟨.yes none ⟨.yes none .e .e .e .e .e .e .e ⟨.yes none ⟨.no (some ([(.agg [(.int .i64 (.ofNat 1)), (.int .i64 (.ofNat 11)), (.int .i64 (.ofNat 22))]), (.int .u8 (.ofNat 5)), (.int .i64 (.ofNat 0))], (.int .i64 (.ofNat 264))))⟩ .e .e .e .e .e .e .e⟩⟩ ⟨.yes none .e .e .e ⟨.no (some ([(.agg [(.int .i64 (.ofNat 1)), (.int .i64 (.ofNat 2)), (.int .i64 (.ofNat 2))]), (.int .u8 (.ofNat 7)), (.int .i64 (.ofNat 0))], (.int .i64 (.ofNat 480))))⟩ .e .e .e ⟨.no (some ([(.agg [(.int .i64 (.ofNat 1)), (.int .i64 (.ofNat 2)), (.int .i64 (.ofNat 2))]), (.int .u8 (.ofNat 8)), (.int .i64 (.ofNat 1))], (.int .i64 (.ofNat 504))))⟩⟩ ⟨.yes (some ([(.agg [(.int .i64 (.ofNat 1)), (.int .i64 (.ofNat 2)), (.int .i64 (.ofNat 2))]), (.int .u8 (.ofNat 6)), (.int .i64 (.ofNat 0))], (.int .i64 (.ofNat 472)))) .e .e .e ⟨.yes none .e .e .e .e .e .e ⟨.no (some ([(.agg [(.int .i64 (.ofNat 1)), (.int .i64 (.ofNat 2)), (.int .i64 (.ofNat 2))]), (.int .u8 (.ofNat 5)), (.int .i64 (.ofNat 0))], (.int .i64 (.ofNat 264))))⟩ .e⟩ .e .e .e .e⟩ .e .e ⟨.yes none .e .e .e .e .e .e .e ⟨.yes none .e .e .e .e ⟨.no (some ([(.agg [(.int .i64 (.ofNat 1)), (.int .i64 (.ofNat 2)), (.int .i64 (.ofNat 2))]), (.int .u8 (.ofNat 2)), (.int .i64 (.ofNat 0))], (.int .i64 (.ofNat 8))))⟩ .e .e .e⟩⟩ ⟨.yes none .e .e ⟨.yes none .e .e ⟨.no (some ([(.agg [(.int .i64 (.ofNat 1)), (.int .i64 (.ofNat 11)), (.int .i64 (.ofNat 22))]), (.int .u8 (.ofNat 8)), (.int .i64 (.ofNat 1))], (.int .i64 (.ofNat 504))))⟩ .e .e .e .e .e⟩ .e .e .e ⟨.yes none .e ⟨.no (some ([(.agg [(.int .i64 (.ofNat 1)), (.int .i64 (.ofNat 11)), (.int .i64 (.ofNat 22))]), (.int .u8 (.ofNat 7)), (.int .i64 (.ofNat 0))], (.int .i64 (.ofNat 480))))⟩ .e .e .e .e .e .e⟩ .e⟩ ⟨.yes none .e .e ⟨.yes none .e ⟨.no (some ([(.agg [(.int .i64 (.ofNat 1)), (.int .i64 (.ofNat 11)), (.int .i64 (.ofNat 22))]), (.int .u8 (.ofNat 6)), (.int .i64 (.ofNat 0))], (.int .i64 (.ofNat 472))))⟩ .e .e .e .e .e .e⟩ .e .e .e .e .e⟩⟩
theorem mt53 : mT53 = ofPairs (mL53.map fun e => (keyOf e.1, e)) := by kernel_rfl
theorem mk53 : memoOk tb ty 60 53 mL53 = true := by kernel_rfl
noncomputable def mL98 : List (List AV × AV) := [([.nilSlice, (.int .i64 (.ofNat 0))], (.bool false))]
noncomputable def mT98 : T (List AV × AV) := ⟨.no (some ([.nilSlice, (.int .i64 (.ofNat 0))], (.bool false)))⟩
theorem mt98 : mT98 = ofPairs (mL98.map fun e => (keyOf e.1, e)) := by kernel_rfl
theorem mk98 : memoOk tb ty 60 98 mL98 = true := by kernel_rfl
noncomputable def mL130 : List (List AV × AV) := [([.nilSlice], .nilSlice)]
noncomputable def mT130 : T (List AV × AV) := ⟨.no (some ([.nilSlice], .nilSlice))⟩
theorem mt130 : mT130 = ofPairs (mL130.map fun e => (keyOf e.1, e)) := by kernel_rfl
theorem mk130 : memoOk tb ty 60 130 mL130 = true := by kernel_rfl
noncomputable def seL : List SE := [⟨25, 1, r25, seenS⟩, ⟨41, 1, r41, memoS mT41⟩, ⟨42, 1, r42, memoS mT42⟩, ⟨53, 3, r53, memoS mT53⟩, ⟨98, 2, r98, memoS mT98⟩, ⟨130, 1, r130, memoS mT130⟩]
noncomputable def sumT : T Sum := ⟨.yes none ⟨.yes none .e .e ⟨.no (some (seenS))⟩ .e ⟨.no (some (memoS mT41))⟩ .e .e .e⟩ ⟨.yes none .e .e .e ⟨.yes none ⟨.no (some (memoS mT98))⟩ .e .e .e .e .e .e .e⟩ ⟨.no (some (memoS mT42))⟩ .e .e ⟨.yes none ⟨.no (some (memoS mT130))⟩ .e .e .e .e .e .e .e⟩⟩ .e .e ⟨.yes none .e .e .e .e .e ⟨.no (some (memoS mT53))⟩ .e .e⟩ .e .e .e⟩
noncomputable def tbS : T K.FnC := ⟨.yes none ⟨.yes none ⟨.yes (some ⟨r9⟩) .e ⟨.no (some ⟨r137⟩)⟩ ⟨.no (some ⟨r201⟩)⟩ .e .e .e .e .e⟩ ⟨.yes none ⟨.no (some ⟨r81⟩)⟩ ⟨.no (some ⟨r145⟩)⟩ .e .e .e .e .e .e⟩ ⟨.no (some ⟨K.sumFK (seenS) r25⟩)⟩ ⟨.yes none ⟨.no (some ⟨r97⟩)⟩ .e .e .e .e .e .e .e⟩ ⟨.no (some ⟨K.sumFK (memoS mT41) r41⟩)⟩ ⟨.yes (some ⟨r49⟩) ⟨.no (some ⟨r113⟩)⟩ .e ⟨.no (some ⟨r241⟩)⟩ .e .e .e .e .e⟩ ⟨.yes (some ⟨r57⟩) ⟨.no (some ⟨r121⟩)⟩ ⟨.no (some ⟨r185⟩)⟩ ⟨.no (some ⟨r249⟩)⟩ .e .e .e .e .e⟩ ⟨.yes (some ⟨r65⟩) ⟨.no (some ⟨r129⟩)⟩ .e .e .e .e .e .e .e⟩⟩ ⟨.yes none ⟨.yes (some ⟨r10⟩) .e ⟨.no (some ⟨r138⟩)⟩ .e .e .e .e .e .e⟩ ⟨.yes (some ⟨r18⟩) ⟨.no (some ⟨r82⟩)⟩ ⟨.no (some ⟨r146⟩)⟩ .e .e .e .e .e .e⟩ ⟨.yes (some ⟨r26⟩) ⟨.no (some ⟨r90⟩)⟩ ⟨.no (some ⟨r154⟩)⟩ .e .e .e .e .e .e⟩ ⟨.yes (some ⟨r34⟩) ⟨.no (some ⟨K.sumFK (memoS mT98) r98⟩)⟩ ⟨.no (some ⟨r162⟩)⟩ .e ⟨.no (some ⟨r290⟩)⟩ .e .e .e .e⟩ ⟨.yes (some ⟨K.sumFK (memoS mT42) r42⟩) ⟨.no (some ⟨r106⟩)⟩ .e ⟨.no (some ⟨r234⟩)⟩ .e .e .e .e .e⟩ ⟨.yes none ⟨.no (some ⟨r114⟩)⟩ .e ⟨.no (some ⟨K.fnK ctx 242 2⟩)⟩ .e .e .e .e .e⟩ ⟨.yes (some ⟨r58⟩) ⟨.no (some ⟨r122⟩)⟩ .e ⟨.no (some ⟨r250⟩)⟩ ⟨.no (some ⟨r314⟩)⟩ .e .e .e .e⟩ ⟨.yes (some ⟨r66⟩) ⟨.no (some ⟨K.sumFK (memoS mT130) r130⟩)⟩ .e .e .e .e .e .e .e⟩⟩ ⟨.yes none ⟨.yes none .e ⟨.no (some ⟨r139⟩)⟩ .e .e .e .e .e .e⟩ ⟨.yes (some ⟨r19⟩) ⟨.no (some ⟨r83⟩)⟩ ⟨.no (some ⟨r147⟩)⟩ .e .e .e .e .e .e⟩ ⟨.yes (some ⟨r27⟩) .e ⟨.no (some ⟨r155⟩)⟩ .e ⟨.no (some ⟨r283⟩)⟩ .e .e .e .e⟩ ⟨.yes none ⟨.no (some ⟨r99⟩)⟩ ⟨.no (some ⟨r163⟩)⟩ .e .e .e .e .e .e⟩ ⟨.yes (some ⟨r43⟩) .e .e .e .e .e ⟨.no (some ⟨K.extK' ctx 427⟩)⟩ .e .e⟩ ⟨.yes (some ⟨r51⟩) ⟨.no (some ⟨r115⟩)⟩ .e .e .e .e .e .e .e⟩ ⟨.yes (some ⟨r59⟩) ⟨.no (some ⟨r123⟩)⟩ .e ⟨.no (some ⟨r251⟩)⟩ .e .e .e .e .e⟩ ⟨.yes (some ⟨r67⟩) ⟨.no (some ⟨r131⟩)⟩ ⟨.no (some ⟨r195⟩)⟩ .e .e .e .e .e .e⟩⟩ ⟨.yes (some ⟨K.fnK ctx 4 2⟩) ⟨.no (some ⟨r12⟩)⟩ ⟨.yes (some ⟨r20⟩) ⟨.no (some ⟨r84⟩)⟩ ⟨.no (some ⟨r148⟩)⟩ .e .e .e .e .e .e⟩ ⟨.yes (some ⟨r28⟩) ⟨.no (some ⟨r92⟩)⟩ ⟨.no (some ⟨r156⟩)⟩ .e ⟨.no (some ⟨r284⟩)⟩ .e .e .e .e⟩ ⟨.yes none ⟨.no (some ⟨r100⟩)⟩ ⟨.no (some ⟨r164⟩)⟩ .e .e .e .e .e .e⟩ ⟨.yes (some ⟨r44⟩) ⟨.no (some ⟨r108⟩)⟩ .e .e .e .e .e .e .e⟩ ⟨.yes (some ⟨r52⟩) .e ⟨.no (some ⟨r180⟩)⟩ .e .e .e .e .e .e⟩ ⟨.yes (some ⟨r60⟩) ⟨.no (some ⟨r124⟩)⟩ .e ⟨.no (some ⟨r252⟩)⟩ .e .e .e .e .e⟩ ⟨.yes none ⟨.no (some ⟨r132⟩)⟩ ⟨.no (some ⟨r196⟩)⟩ .e .e .e .e .e .e⟩⟩ ⟨.yes (some ⟨r5⟩) ⟨.yes (some ⟨r13⟩) .e .e ⟨.no (some ⟨r205⟩)⟩ .e .e .e .e .e⟩ ⟨.yes (some ⟨r21⟩) ⟨.no (some ⟨r85⟩)⟩ .e .e .e .e .e .e .e⟩ ⟨.yes (some ⟨r29⟩) ⟨.no (some ⟨r93⟩)⟩ ⟨.no (some ⟨r157⟩)⟩ .e .e .e .e .e .e⟩ ⟨.yes (some ⟨r37⟩) ⟨.no (some ⟨r101⟩)⟩ ⟨.no (some ⟨r165⟩)⟩ .e .e .e .e .e .e⟩ ⟨.yes (some ⟨r45⟩) ⟨.no (some ⟨r109⟩)⟩ ⟨.no (some ⟨r173⟩)⟩ .e .e .e .e .e .e⟩ ⟨.yes (some ⟨K.sumFK (memoS mT53) r53⟩) .e .e ⟨.no (some ⟨r245⟩)⟩ .e .e .e .e .e⟩ ⟨.yes (some ⟨r61⟩) ⟨.no (some ⟨r125⟩)⟩ ⟨.no (some ⟨r189⟩)⟩ ⟨.no (some ⟨r253⟩)⟩ .e .e .e .e .e⟩ ⟨.yes (some ⟨r69⟩) ⟨.no (some ⟨r133⟩)⟩ ⟨.no (some ⟨r197⟩)⟩ .e .e .e .e .e .e⟩⟩ ⟨.yes (some ⟨r6⟩) ⟨.yes (some ⟨r14⟩) ⟨.no (some ⟨r78⟩)⟩ .e ⟨.no (some ⟨r206⟩)⟩ .e .e .e .e .e⟩ ⟨.yes (some ⟨r22⟩) ⟨.no (some ⟨K.fnK ctx 86 2⟩)⟩ .e .e .e .e .e .e .e⟩ ⟨.yes (some ⟨r30⟩) .e ⟨.no (some ⟨r158⟩)⟩ .e .e .e .e .e .e⟩ ⟨.yes (some ⟨r38⟩) ⟨.no (some ⟨r102⟩)⟩ .e .e .e .e .e .e .e⟩ ⟨.yes (some ⟨r46⟩) ⟨.no (some ⟨r110⟩)⟩ ⟨.no (some ⟨r174⟩)⟩ ⟨.no (some ⟨r238⟩)⟩ .e .e .e .e .e⟩ ⟨.yes (some ⟨r54⟩) .e .e ⟨.no (some ⟨r246⟩)⟩ .e .e .e .e .e⟩ ⟨.yes (some ⟨r62⟩) ⟨.no (some ⟨r126⟩)⟩ .e .e .e .e .e .e .e⟩ ⟨.yes (some ⟨r70⟩) ⟨.no (some ⟨r134⟩)⟩ ⟨.no (some ⟨r198⟩)⟩ .e .e .e .e .e .e⟩⟩ ⟨.yes (some ⟨r7⟩) ⟨.yes (some ⟨r15⟩) ⟨.no (some ⟨r79⟩)⟩ .e .e .e .e .e .e .e⟩ ⟨.yes (some ⟨r23⟩) ⟨.no (some ⟨r87⟩)⟩ .e .e .e .e .e .e .e⟩ ⟨.yes (some ⟨r31⟩) ⟨.no (some ⟨r95⟩)⟩ ⟨.no (some ⟨r159⟩)⟩ .e .e .e .e .e .e⟩ ⟨.yes (some ⟨r39⟩) ⟨.no (some ⟨r103⟩)⟩ .e .e .e .e .e .e .e⟩ ⟨.yes none ⟨.no (some ⟨r111⟩)⟩ .e .e .e .e .e .e .e⟩ ⟨.yes (some ⟨r55⟩) ⟨.no (some ⟨r119⟩)⟩ .e ⟨.no (some ⟨r247⟩)⟩ .e .e .e .e .e⟩ ⟨.yes (some ⟨r63⟩) ⟨.no (some ⟨r127⟩)⟩ ⟨.no (some ⟨r191⟩)⟩ ⟨.no (some ⟨r255⟩)⟩ .e .e .e .e .e⟩ ⟨.yes (some ⟨r71⟩) .e ⟨.no (some ⟨r199⟩)⟩ .e .e .e .e .e .e⟩⟩ ⟨.yes none ⟨.yes (some ⟨r16⟩) ⟨.no (some ⟨r80⟩)⟩ ⟨.no (some ⟨r144⟩)⟩ .e .e .e .e .e .e⟩ ⟨.yes (some ⟨K.fnK ctx 24 0⟩) ⟨.no (some ⟨r88⟩)⟩ ⟨.no (some ⟨r152⟩)⟩ .e .e .e .e .e .e⟩ ⟨.yes (some ⟨r32⟩) ⟨.no (some ⟨r96⟩)⟩ ⟨.no (some ⟨r160⟩)⟩ .e .e .e .e .e .e⟩ ⟨.yes (some ⟨r40⟩) ⟨.no (some ⟨r104⟩)⟩ .e .e .e .e .e .e .e⟩ ⟨.yes (some ⟨r48⟩) ⟨.no (some ⟨r112⟩)⟩ .e ⟨.no (some ⟨r240⟩)⟩ .e .e .e .e .e⟩ ⟨.yes (some ⟨r56⟩) ⟨.no (some ⟨r120⟩)⟩ ⟨.no (some ⟨r184⟩)⟩ ⟨.no (some ⟨r248⟩)⟩ .e .e .e .e .e⟩ ⟨.yes (some ⟨r64⟩) ⟨.no (some ⟨r128⟩)⟩ ⟨.no (some ⟨r192⟩)⟩ .e .e .e .e .e .e⟩ ⟨.yes (some ⟨r72⟩) ⟨.no (some ⟨r136⟩)⟩ ⟨.no (some ⟨r200⟩)⟩ .e .e .e .e .e .e⟩⟩⟩
theorem sumEq : sumT = sumOf seL := by kernel_rfl
theorem tbSEq : tbS = tbOf tb seL := by kernel_rfl
theorem seG : ∀ x ∈ seL, K.fnK ctx x.f x.n = x.g := by
  intro x hx
  unfold seL at hx
  simp only [List.mem_cons, List.not_mem_nil, or_false] at hx
  rcases hx with rfl | rfl | rfl | rfl | rfl | rfl
  · dsimp only; exact r25_eq
  · dsimp only; exact r41_eq
  · dsimp only; exact r42_eq
  · dsimp only; exact r53_eq
  · dsimp only; exact r98_eq
  · dsimp only; exact r130_eq
theorem tbokS : K.TbOkS (ctx.with sumT) tbS := by rw [sumEq]; exact tbOkS_of tbok tbSEq seG
theorem sumOk0 (G : Gd) : SumOk ctx Go.Proofs.Tryz.prog G := fun f s args h v h' hs => by
  have hs : (T.e : T Sum).get f = some s := hs
  rw [T.get_e] at hs; cases hs

theorem ext25 : ctx.ext.get 25 = none := by kernel_rfl
theorem sok25 (hX : ExtOk ctx Go.Proofs.Tryz.prog) (G : Gd) : SOk ctx Go.Proofs.Tryz.prog G ⟨25, 1, r25, seenS⟩ := sokSeen cok hX (sumOk0 G) (K.run_le nosum tbok tyok 5) ext25 1 r25
theorem ext41 : ctx.ext.get 41 = none := by kernel_rfl
theorem sok41 (hX : ExtOk ctx Go.Proofs.Tryz.prog) (G : Gd) : SOk ctx Go.Proofs.Tryz.prog G ⟨41, 1, r41, memoS mT41⟩ := memo_sok (tb := tb) (ty := ty) (n := 60) (L := mL41) cok hX (sumOk0 G) (K.run_le nosum tbok tyok 60) mt41 mk41 ext41
theorem ext42 : ctx.ext.get 42 = none := by kernel_rfl
theorem sok42 (hX : ExtOk ctx Go.Proofs.Tryz.prog) (G : Gd) : SOk ctx Go.Proofs.Tryz.prog G ⟨42, 1, r42, memoS mT42⟩ := memo_sok (tb := tb) (ty := ty) (n := 60) (L := mL42) cok hX (sumOk0 G) (K.run_le nosum tbok tyok 60) mt42 mk42 ext42
theorem ext53 : ctx.ext.get 53 = none := by kernel_rfl
theorem sok53 (hX : ExtOk ctx Go.Proofs.Tryz.prog) (G : Gd) : SOk ctx Go.Proofs.Tryz.prog G ⟨53, 3, r53, memoS mT53⟩ := memo_sok (tb := tb) (ty := ty) (n := 60) (L := mL53) cok hX (sumOk0 G) (K.run_le nosum tbok tyok 60) mt53 mk53 ext53
theorem ext98 : ctx.ext.get 98 = none := by kernel_rfl
theorem sok98 (hX : ExtOk ctx Go.Proofs.Tryz.prog) (G : Gd) : SOk ctx Go.Proofs.Tryz.prog G ⟨98, 2, r98, memoS mT98⟩ := memo_sok (tb := tb) (ty := ty) (n := 60) (L := mL98) cok hX (sumOk0 G) (K.run_le nosum tbok tyok 60) mt98 mk98 ext98
theorem ext130 : ctx.ext.get 130 = none := by kernel_rfl
theorem sok130 (hX : ExtOk ctx Go.Proofs.Tryz.prog) (G : Gd) : SOk ctx Go.Proofs.Tryz.prog G ⟨130, 1, r130, memoS mT130⟩ := memo_sok (tb := tb) (ty := ty) (n := 60) (L := mL130) cok hX (sumOk0 G) (K.run_le nosum tbok tyok 60) mt130 mk130 ext130
theorem sokAll (hX : ExtOk ctx Go.Proofs.Tryz.prog) (G : Gd) : ∀ x ∈ seL, SOk ctx Go.Proofs.Tryz.prog G x := by
  intro x hx
  unfold seL at hx
  simp only [List.mem_cons, List.not_mem_nil, or_false] at hx
  rcases hx with rfl | rfl | rfl | rfl | rfl | rfl
  · exact sok25 hX G
  · exact sok41 hX G
  · exact sok42 hX G
  · exact sok53 hX G
  · exact sok98 hX G
  · exact sok130 hX G
theorem sumOkS (hX : ExtOk ctx Go.Proofs.Tryz.prog) (G : Gd) : SumOk (ctx.with sumT) Go.Proofs.Tryz.prog G := by
  rw [sumEq]
  exact sumOk_of (sokAll hX G)
end YtjhcfoinldcaoaaGreatDoorWdM
