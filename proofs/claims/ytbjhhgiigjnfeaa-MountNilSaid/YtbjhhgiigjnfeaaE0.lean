/- PRINTED BY Gen2.lean (own): the plain texts are what the machine comes to, part 0. -/
import Derived.Test.YtbjhhgiigjnfeaaR0
import Derived.KernelRfl
namespace YtbjhhgiigjnfeaaM
open Go Am
set_option maxRecDepth 100000
theorem r3_eq : K.fnK ctx 3 1 = r3 := by kernel_rfl
theorem r4_eq : K.fnK ctx 4 1 = r4 := by kernel_rfl
theorem r5_eq : K.fnK ctx 5 1 = r5 := by kernel_rfl
theorem r6_eq : K.fnK ctx 6 1 = r6 := by kernel_rfl
theorem r7_eq : K.fnK ctx 7 2 = r7 := by kernel_rfl
theorem r8_eq : K.fnK ctx 8 1 = r8 := by kernel_rfl
theorem r9_eq : K.fnK ctx 9 1 = r9 := by kernel_rfl
theorem r10_eq : K.fnK ctx 10 1 = r10 := by kernel_rfl
theorem r11_eq : K.fnK ctx 11 2 = r11 := by kernel_rfl
theorem r12_eq : K.fnK ctx 12 0 = r12 := by kernel_rfl
theorem r13_eq : K.fnK ctx 13 1 = r13 := by kernel_rfl
theorem r14_eq : K.fnK ctx 14 1 = r14 := by kernel_rfl
theorem r15_eq : K.fnK ctx 15 2 = r15 := by kernel_rfl
theorem r16_eq : K.fnK ctx 16 1 = r16 := by kernel_rfl
theorem r17_eq : K.fnK ctx 17 1 = r17 := by kernel_rfl
theorem r18_eq : K.fnK ctx 18 1 = r18 := by kernel_rfl
theorem r19_eq : K.fnK ctx 19 1 = r19 := by kernel_rfl
theorem r20_eq : K.fnK ctx 20 1 = r20 := by kernel_rfl
theorem r21_eq : K.fnK ctx 21 1 = r21 := by kernel_rfl
theorem r22_eq : K.fnK ctx 22 1 = r22 := by kernel_rfl
theorem r23_eq : K.fnK ctx 23 1 = r23 := by kernel_rfl
theorem r24_eq : K.fnK ctx 24 3 = r24 := by kernel_rfl
theorem r25_eq : K.fnK ctx 25 2 = r25 := by kernel_rfl
theorem r26_eq : K.fnK ctx 26 2 = r26 := by kernel_rfl
theorem r27_eq : K.fnK ctx 27 1 = r27 := by kernel_rfl
theorem r28_eq : K.fnK ctx 28 3 = r28 := by kernel_rfl
theorem r29_eq : K.fnK ctx 29 2 = r29 := by kernel_rfl
theorem r30_eq : K.fnK ctx 30 2 = r30 := by kernel_rfl
theorem r31_eq : K.fnK ctx 31 1 = r31 := by kernel_rfl
theorem r32_eq : K.fnK ctx 32 2 = r32 := by kernel_rfl
theorem r33_eq : K.fnK ctx 33 1 = r33 := by kernel_rfl
theorem r34_eq : K.fnK ctx 34 2 = r34 := by kernel_rfl
theorem r35_eq : K.fnK ctx 35 1 = r35 := by kernel_rfl
theorem r36_eq : K.fnK ctx 36 1 = r36 := by kernel_rfl
theorem r37_eq : K.fnK ctx 37 2 = r37 := by kernel_rfl
theorem r38_eq : K.fnK ctx 38 3 = r38 := by kernel_rfl
theorem r39_eq : K.fnK ctx 39 1 = r39 := by kernel_rfl
theorem r40_eq : K.fnK ctx 40 1 = r40 := by kernel_rfl
theorem r41_eq : K.fnK ctx 41 1 = r41 := by kernel_rfl
theorem r42_eq : K.fnK ctx 42 2 = r42 := by kernel_rfl
theorem r43_eq : K.fnK ctx 43 2 = r43 := by kernel_rfl
theorem r44_eq : K.fnK ctx 44 2 = r44 := by kernel_rfl
theorem r45_eq : K.fnK ctx 45 3 = r45 := by kernel_rfl
theorem r46_eq : K.fnK ctx 46 1 = r46 := by kernel_rfl
theorem r47_eq : K.fnK ctx 47 1 = r47 := by kernel_rfl
theorem r48_eq : K.fnK ctx 48 2 = r48 := by kernel_rfl
theorem r49_eq : K.fnK ctx 49 2 = r49 := by kernel_rfl
theorem r50_eq : K.fnK ctx 50 2 = r50 := by kernel_rfl
theorem r51_eq : K.fnK ctx 51 1 = r51 := by kernel_rfl
theorem r52_eq : K.fnK ctx 52 4 = r52 := by kernel_rfl
theorem r53_eq : K.fnK ctx 53 3 = r53 := by kernel_rfl
theorem r54_eq : K.fnK ctx 54 1 = r54 := by kernel_rfl
theorem r55_eq : K.fnK ctx 55 2 = r55 := by kernel_rfl
theorem r56_eq : K.fnK ctx 56 1 = r56 := by kernel_rfl
theorem r57_eq : K.fnK ctx 57 3 = r57 := by kernel_rfl
theorem r58_eq : K.fnK ctx 58 2 = r58 := by kernel_rfl
theorem r59_eq : K.fnK ctx 59 2 = r59 := by kernel_rfl
theorem r60_eq : K.fnK ctx 60 2 = r60 := by kernel_rfl
theorem r61_eq : K.fnK ctx 61 1 = r61 := by kernel_rfl
theorem r62_eq : K.fnK ctx 62 2 = r62 := by kernel_rfl
theorem r63_eq : K.fnK ctx 63 1 = r63 := by kernel_rfl
theorem r64_eq : K.fnK ctx 64 3 = r64 := by kernel_rfl
theorem r65_eq : K.fnK ctx 65 3 = r65 := by kernel_rfl
theorem r66_eq : K.fnK ctx 66 1 = r66 := by kernel_rfl
theorem r67_eq : K.fnK ctx 67 2 = r67 := by kernel_rfl
theorem r69_eq : K.fnK ctx 69 0 = r69 := by kernel_rfl
theorem r70_eq : K.fnK ctx 70 2 = r70 := by kernel_rfl
theorem r71_eq : K.fnK ctx 71 1 = r71 := by kernel_rfl
theorem r72_eq : K.fnK ctx 72 1 = r72 := by kernel_rfl
theorem r73_eq : K.fnK ctx 73 3 = r73 := by kernel_rfl
theorem r74_eq : K.fnK ctx 74 2 = r74 := by kernel_rfl
theorem r75_eq : K.fnK ctx 75 1 = r75 := by kernel_rfl
theorem r76_eq : K.fnK ctx 76 1 = r76 := by kernel_rfl
theorem r77_eq : K.fnK ctx 77 2 = r77 := by kernel_rfl
theorem r78_eq : K.fnK ctx 78 2 = r78 := by kernel_rfl
theorem r79_eq : K.fnK ctx 79 4 = r79 := by kernel_rfl
theorem r80_eq : K.fnK ctx 80 1 = r80 := by kernel_rfl
theorem r81_eq : K.fnK ctx 81 3 = r81 := by kernel_rfl
theorem r87_eq : K.fnK ctx 87 2 = r87 := by kernel_rfl
theorem r91_eq : K.fnK ctx 91 1 = r91 := by kernel_rfl
theorem r97_eq : K.fnK ctx 97 1 = r97 := by kernel_rfl
theorem y1_eq : K.rndK ctx 1 = y1 := by kernel_rfl
theorem y2_eq : K.rndK ctx 2 = y2 := by kernel_rfl
theorem y3_eq : K.rndK ctx 3 = y3 := by kernel_rfl
theorem y4_eq : K.rndK ctx 4 = y4 := by kernel_rfl
theorem y5_eq : K.rndK ctx 5 = y5 := by kernel_rfl
end YtbjhhgiigjnfeaaM
