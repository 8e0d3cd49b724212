/- PRINTED BY Gen2.lean (own): the plain texts are what the machine comes to, part 0. -/
import Derived.Test.YtbigljebnajniabGreatMfR0
import Derived.KernelRfl
namespace YtbigljebnajniabGreatMfM
open Go Am
set_option maxRecDepth 100000
theorem r3_eq : K.fnK ctx 3 3 = r3 := by kernel_rfl
theorem r5_eq : K.fnK ctx 5 2 = r5 := by kernel_rfl
theorem r6_eq : K.fnK ctx 6 3 = r6 := by kernel_rfl
theorem r8_eq : K.fnK ctx 8 2 = r8 := by kernel_rfl
theorem r9_eq : K.fnK ctx 9 1 = r9 := by kernel_rfl
theorem r10_eq : K.fnK ctx 10 1 = r10 := by kernel_rfl
theorem r11_eq : K.fnK ctx 11 1 = r11 := by kernel_rfl
theorem r12_eq : K.fnK ctx 12 1 = r12 := by kernel_rfl
theorem r13_eq : K.fnK ctx 13 1 = r13 := by kernel_rfl
theorem r14_eq : K.fnK ctx 14 1 = r14 := by kernel_rfl
theorem r15_eq : K.fnK ctx 15 1 = r15 := by kernel_rfl
theorem r16_eq : K.fnK ctx 16 1 = r16 := by kernel_rfl
theorem r17_eq : K.fnK ctx 17 3 = r17 := by kernel_rfl
theorem r18_eq : K.fnK ctx 18 1 = r18 := by kernel_rfl
theorem r19_eq : K.fnK ctx 19 2 = r19 := by kernel_rfl
theorem r20_eq : K.fnK ctx 20 2 = r20 := by kernel_rfl
theorem r21_eq : K.fnK ctx 21 1 = r21 := by kernel_rfl
theorem r22_eq : K.fnK ctx 22 1 = r22 := by kernel_rfl
theorem r23_eq : K.fnK ctx 23 1 = r23 := by kernel_rfl
theorem r24_eq : K.fnK ctx 24 2 = r24 := by kernel_rfl
theorem r25_eq : K.fnK ctx 25 1 = r25 := by kernel_rfl
theorem r26_eq : K.fnK ctx 26 1 = r26 := by kernel_rfl
theorem r27_eq : K.fnK ctx 27 3 = r27 := by kernel_rfl
theorem r28_eq : K.fnK ctx 28 2 = r28 := by kernel_rfl
theorem r29_eq : K.fnK ctx 29 1 = r29 := by kernel_rfl
theorem r30_eq : K.fnK ctx 30 1 = r30 := by kernel_rfl
theorem r31_eq : K.fnK ctx 31 1 = r31 := by kernel_rfl
theorem r32_eq : K.fnK ctx 32 2 = r32 := by kernel_rfl
theorem r33_eq : K.fnK ctx 33 2 = r33 := by kernel_rfl
theorem r34_eq : K.fnK ctx 34 1 = r34 := by kernel_rfl
theorem r35_eq : K.fnK ctx 35 1 = r35 := by kernel_rfl
theorem r36_eq : K.fnK ctx 36 1 = r36 := by kernel_rfl
theorem r37_eq : K.fnK ctx 37 2 = r37 := by kernel_rfl
theorem r38_eq : K.fnK ctx 38 2 = r38 := by kernel_rfl
theorem r39_eq : K.fnK ctx 39 1 = r39 := by kernel_rfl
theorem r40_eq : K.fnK ctx 40 1 = r40 := by kernel_rfl
theorem r41_eq : K.fnK ctx 41 1 = r41 := by kernel_rfl
theorem r42_eq : K.fnK ctx 42 1 = r42 := by kernel_rfl
theorem r43_eq : K.fnK ctx 43 2 = r43 := by kernel_rfl
theorem r44_eq : K.fnK ctx 44 1 = r44 := by kernel_rfl
end YtbigljebnajniabGreatMfM
