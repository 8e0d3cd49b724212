/- PRINTED BY Gen2.lean (own): the plain texts' table is the machine's. -/
import Derived.Test.YtbigljebnajniabGreatMfE0
import Derived.Test.YtbigljebnajniabGreatMfE1
import Derived.Test.YtbigljebnajniabGreatMfE2
import Derived.Test.YtbigljebnajniabGreatMfTb
import Derived.Test.YtbigljebnajniabGreatMfCok
import Derived.Test.YtbigljebnajniabGreatA5
namespace YtbigljebnajniabGreatMfM
open Go Am
set_option maxRecDepth 100000
noncomputable def tbL : List (Nat × K.FnC × Option Nat) := [(111, ⟨r111⟩, some 1), (105, ⟨r105⟩, some 1), (101, ⟨r101⟩, some 2), (95, ⟨r95⟩, some 3), (94, ⟨r94⟩, some 1), (93, ⟨r93⟩, some 4), (92, ⟨r92⟩, some 2), (91, ⟨r91⟩, some 2), (90, ⟨r90⟩, some 0), (89, ⟨r89⟩, some 2), (88, ⟨r88⟩, some 1), (87, ⟨r87⟩, some 1), (86, ⟨r86⟩, some 2), (85, ⟨r85⟩, some 3), (84, ⟨r84⟩, some 1), (83, ⟨r83⟩, some 1), (82, ⟨r82⟩, some 2), (81, ⟨r81⟩, some 0), (79, ⟨r79⟩, some 2), (78, ⟨r78⟩, some 1), (77, ⟨r77⟩, some 1), (76, ⟨r76⟩, some 3), (75, ⟨r75⟩, some 3), (74, ⟨r74⟩, some 1), (73, ⟨r73⟩, some 2), (72, ⟨r72⟩, some 1), (71, ⟨r71⟩, some 2), (70, ⟨r70⟩, some 1), (69, ⟨r69⟩, some 1), (68, ⟨r68⟩, some 2), (67, ⟨r67⟩, some 1), (66, ⟨r66⟩, some 2), (65, ⟨r65⟩, some 3), (64, ⟨r64⟩, some 2), (63, ⟨r63⟩, some 1), (62, ⟨r62⟩, some 3), (61, ⟨r61⟩, some 2), (60, ⟨r60⟩, some 1), (59, ⟨r59⟩, some 1), (58, ⟨r58⟩, some 1), (57, ⟨r57⟩, some 1), (56, ⟨r56⟩, some 2), (55, ⟨r55⟩, some 2), (54, ⟨r54⟩, some 3), (53, ⟨r53⟩, some 1), (52, ⟨r52⟩, some 2), (51, ⟨r51⟩, some 1), (50, ⟨r50⟩, some 3), (49, ⟨r49⟩, some 4), (48, ⟨r48⟩, some 1), (47, ⟨r47⟩, some 2), (46, ⟨r46⟩, some 2), (45, ⟨r45⟩, some 1), (44, ⟨r44⟩, some 1), (43, ⟨r43⟩, some 2), (42, ⟨r42⟩, some 1), (41, ⟨r41⟩, some 1), (40, ⟨r40⟩, some 1), (39, ⟨r39⟩, some 1), (38, ⟨r38⟩, some 2), (37, ⟨r37⟩, some 2), (36, ⟨r36⟩, some 1), (35, ⟨r35⟩, some 1), (34, ⟨r34⟩, some 1), (33, ⟨r33⟩, some 2), (32, ⟨r32⟩, some 2), (31, ⟨r31⟩, some 1), (30, ⟨r30⟩, some 1), (29, ⟨r29⟩, some 1), (28, ⟨r28⟩, some 2), (27, ⟨r27⟩, some 3), (26, ⟨r26⟩, some 1), (25, ⟨r25⟩, some 1), (24, ⟨r24⟩, some 2), (23, ⟨r23⟩, some 1), (22, ⟨r22⟩, some 1), (21, ⟨r21⟩, some 1), (20, ⟨r20⟩, some 2), (19, ⟨r19⟩, some 2), (18, ⟨r18⟩, some 1), (17, ⟨r17⟩, some 3), (16, ⟨r16⟩, some 1), (15, ⟨r15⟩, some 1), (14, ⟨r14⟩, some 1), (13, ⟨r13⟩, some 1), (12, ⟨r12⟩, some 1), (11, ⟨r11⟩, some 1), (10, ⟨r10⟩, some 1), (9, ⟨r9⟩, some 1), (8, ⟨r8⟩, some 2), (6, ⟨r6⟩, some 3), (5, ⟨r5⟩, some 2), (3, ⟨r3⟩, some 3), (7, ⟨K.fnK ctx 7 1⟩, some 1), (4, ⟨K.fnK ctx 4 0⟩, some 0)]
noncomputable def tyLs : List (Nat × K.RnC) := [(1, ⟨y1⟩), (2, ⟨y2⟩), (3, ⟨y3⟩), (4, ⟨y4⟩), (5, ⟨y5⟩)]
theorem tbEq : tb = ofPairs (tbL.map fun x => (x.1, x.2.1)) := by kernel_rfl
theorem tyEq : ty = ofPairs tyLs := by kernel_rfl
theorem tbAll : TbAll ctx tbL := ⟨r111_eq, r105_eq, r101_eq, r95_eq, r94_eq, r93_eq, r92_eq, r91_eq, r90_eq, r89_eq, r88_eq, r87_eq, r86_eq, r85_eq, r84_eq, r83_eq, r82_eq, r81_eq, r79_eq, r78_eq, r77_eq, r76_eq, r75_eq, r74_eq, r73_eq, r72_eq, r71_eq, r70_eq, r69_eq, r68_eq, r67_eq, r66_eq, r65_eq, r64_eq, r63_eq, r62_eq, r61_eq, r60_eq, r59_eq, r58_eq, r57_eq, r56_eq, r55_eq, r54_eq, r53_eq, r52_eq, r51_eq, r50_eq, r49_eq, r48_eq, r47_eq, r46_eq, r45_eq, r44_eq, r43_eq, r42_eq, r41_eq, r40_eq, r39_eq, r38_eq, r37_eq, r36_eq, r35_eq, r34_eq, r33_eq, r32_eq, r31_eq, r30_eq, r29_eq, r28_eq, r27_eq, r26_eq, r25_eq, r24_eq, r23_eq, r22_eq, r21_eq, r20_eq, r19_eq, r18_eq, r17_eq, r16_eq, r15_eq, r14_eq, r13_eq, r12_eq, r11_eq, r10_eq, r9_eq, r8_eq, r6_eq, r5_eq, r3_eq, rfl, rfl, trivial⟩
theorem tyAll : TyAll ctx tyLs := ⟨y1_eq, y2_eq, y3_eq, y4_eq, y5_eq, trivial⟩
theorem tbok : K.TbOk ctx tb := tbOk_of tbEq tbAll
theorem tyok : K.TyOk ctx ty := tyOk_of tyEq tyAll
theorem nosum : K.NoSum ctx := fun f => T.get_e f
end YtbigljebnajniabGreatMfM
