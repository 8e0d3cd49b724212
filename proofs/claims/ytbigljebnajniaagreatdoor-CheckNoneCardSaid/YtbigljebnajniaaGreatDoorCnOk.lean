/- PRINTED BY Gen2.lean (own): the plain texts' table is the machine's. -/
import Derived.Test.YtbigljebnajniaaGreatDoorCnE0
import Derived.Test.YtbigljebnajniaaGreatDoorCnE1
import Derived.Test.YtbigljebnajniaaGreatDoorCnE2
import Derived.Test.YtbigljebnajniaaGreatDoorCnTb
import Derived.Test.YtbigljebnajniaaGreatDoorCnCok
import Derived.Test.YtbigljebnajniaaGreatDoorA4
namespace YtbigljebnajniaaGreatDoorCnM
open Go Am
set_option maxRecDepth 100000
noncomputable def tbL : List (Nat × K.FnC × Option Nat) := [(92, ⟨r92⟩, some 1), (91, ⟨r91⟩, some 2), (89, ⟨r89⟩, some 2), (88, ⟨r88⟩, some 2), (86, ⟨r86⟩, some 2), (84, ⟨r84⟩, some 2), (83, ⟨r83⟩, some 2), (82, ⟨r82⟩, some 5), (81, ⟨r81⟩, some 1), (80, ⟨r80⟩, some 1), (79, ⟨r79⟩, some 2), (78, ⟨r78⟩, some 2), (77, ⟨r77⟩, some 3), (76, ⟨r76⟩, some 2), (75, ⟨r75⟩, some 1), (74, ⟨r74⟩, some 3), (73, ⟨r73⟩, some 2), (70, ⟨r70⟩, some 3), (69, ⟨r69⟩, some 2), (68, ⟨r68⟩, some 2), (67, ⟨r67⟩, some 2), (66, ⟨r66⟩, some 2), (65, ⟨r65⟩, some 2), (64, ⟨r64⟩, some 1), (63, ⟨r63⟩, some 3), (62, ⟨r62⟩, some 3), (61, ⟨r61⟩, some 1), (60, ⟨r60⟩, some 1), (57, ⟨r57⟩, some 3), (55, ⟨r55⟩, some 3), (54, ⟨r54⟩, some 4), (53, ⟨r53⟩, some 3), (52, ⟨r52⟩, some 3), (50, ⟨r50⟩, some 3), (49, ⟨r49⟩, some 2), (48, ⟨r48⟩, some 2), (46, ⟨r46⟩, some 3), (45, ⟨r45⟩, some 3), (44, ⟨r44⟩, some 2), (43, ⟨r43⟩, some 3), (42, ⟨r42⟩, some 2), (41, ⟨r41⟩, some 3), (40, ⟨r40⟩, some 1), (39, ⟨r39⟩, some 1), (38, ⟨r38⟩, some 3), (37, ⟨r37⟩, some 1), (36, ⟨r36⟩, some 4), (35, ⟨r35⟩, some 0), (34, ⟨r34⟩, some 1), (33, ⟨r33⟩, some 1), (32, ⟨r32⟩, some 1), (31, ⟨r31⟩, some 1), (30, ⟨r30⟩, some 2), (29, ⟨r29⟩, some 1), (28, ⟨r28⟩, some 1), (27, ⟨r27⟩, some 1), (26, ⟨r26⟩, some 1), (25, ⟨r25⟩, some 1), (24, ⟨r24⟩, some 1), (23, ⟨r23⟩, some 2), (22, ⟨r22⟩, some 1), (21, ⟨r21⟩, some 3), (20, ⟨r20⟩, some 1), (19, ⟨r19⟩, some 1), (18, ⟨r18⟩, some 1), (17, ⟨r17⟩, some 1), (16, ⟨r16⟩, some 4), (15, ⟨r15⟩, some 2), (14, ⟨r14⟩, some 1), (13, ⟨r13⟩, some 1), (12, ⟨r12⟩, some 1), (11, ⟨r11⟩, some 2), (10, ⟨r10⟩, some 2), (9, ⟨r9⟩, some 1), (8, ⟨r8⟩, some 1), (7, ⟨r7⟩, some 1), (6, ⟨r6⟩, some 1), (5, ⟨r5⟩, some 1), (4, ⟨K.fnK ctx 4 0⟩, some 0), (3, ⟨K.fnK ctx 3 1⟩, some 1), (102, ⟨K.extK' ctx 102⟩, none)]
noncomputable def tyLs : List (Nat × K.RnC) := [(1, ⟨y1⟩)]
theorem tbEq : tb = ofPairs (tbL.map fun x => (x.1, x.2.1)) := by kernel_rfl
theorem tyEq : ty = ofPairs tyLs := by kernel_rfl
theorem tbAll : TbAll ctx tbL := ⟨r92_eq, r91_eq, r89_eq, r88_eq, r86_eq, r84_eq, r83_eq, r82_eq, r81_eq, r80_eq, r79_eq, r78_eq, r77_eq, r76_eq, r75_eq, r74_eq, r73_eq, r70_eq, r69_eq, r68_eq, r67_eq, r66_eq, r65_eq, r64_eq, r63_eq, r62_eq, r61_eq, r60_eq, r57_eq, r55_eq, r54_eq, r53_eq, r52_eq, r50_eq, r49_eq, r48_eq, r46_eq, r45_eq, r44_eq, r43_eq, r42_eq, r41_eq, r40_eq, r39_eq, r38_eq, r37_eq, r36_eq, r35_eq, r34_eq, r33_eq, r32_eq, r31_eq, r30_eq, r29_eq, r28_eq, r27_eq, r26_eq, r25_eq, r24_eq, r23_eq, r22_eq, r21_eq, r20_eq, r19_eq, r18_eq, r17_eq, r16_eq, r15_eq, r14_eq, r13_eq, r12_eq, r11_eq, r10_eq, r9_eq, r8_eq, r7_eq, r6_eq, r5_eq, rfl, rfl, rfl, trivial⟩
theorem tyAll : TyAll ctx tyLs := ⟨y1_eq, trivial⟩
theorem tbok : K.TbOk ctx tb := tbOk_of tbEq tbAll
theorem tyok : K.TyOk ctx ty := tyOk_of tyEq tyAll
theorem nosum : K.NoSum ctx := fun f => T.get_e f
end YtbigljebnajniaaGreatDoorCnM
