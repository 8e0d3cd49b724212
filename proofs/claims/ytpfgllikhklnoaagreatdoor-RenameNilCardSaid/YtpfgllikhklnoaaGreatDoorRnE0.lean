/- PRINTED BY Gen2.lean (own): the plain texts are what the machine comes to, part 0. -/
import Derived.Test.YtpfgllikhklnoaaGreatDoorRnR0
import Derived.KernelRfl
namespace YtpfgllikhklnoaaGreatDoorRnM
open Go Am
set_option maxRecDepth 100000
theorem r4_eq : K.fnK ctx 4 3 = r4 := by kernel_rfl
theorem r6_eq : K.fnK ctx 6 4 = r6 := by kernel_rfl
theorem r7_eq : K.fnK ctx 7 2 = r7 := by kernel_rfl
theorem r8_eq : K.fnK ctx 8 1 = r8 := by kernel_rfl
theorem r9_eq : K.fnK ctx 9 1 = r9 := by kernel_rfl
theorem r15_eq : K.fnK ctx 15 1 = r15 := by kernel_rfl
theorem r17_eq : K.fnK ctx 17 4 = r17 := by kernel_rfl
theorem r18_eq : K.fnK ctx 18 0 = r18 := by kernel_rfl
theorem r25_eq : K.fnK ctx 25 3 = r25 := by kernel_rfl
theorem r26_eq : K.fnK ctx 26 2 = r26 := by kernel_rfl
theorem r27_eq : K.fnK ctx 27 1 = r27 := by kernel_rfl
theorem r28_eq : K.fnK ctx 28 1 = r28 := by kernel_rfl
theorem r29_eq : K.fnK ctx 29 4 = r29 := by kernel_rfl
theorem r30_eq : K.fnK ctx 30 4 = r30 := by kernel_rfl
theorem r31_eq : K.fnK ctx 31 5 = r31 := by kernel_rfl
theorem r32_eq : K.fnK ctx 32 4 = r32 := by kernel_rfl
theorem r33_eq : K.fnK ctx 33 1 = r33 := by kernel_rfl
theorem r34_eq : K.fnK ctx 34 1 = r34 := by kernel_rfl
theorem r35_eq : K.fnK ctx 35 1 = r35 := by kernel_rfl
theorem r36_eq : K.fnK ctx 36 1 = r36 := by kernel_rfl
theorem r37_eq : K.fnK ctx 37 1 = r37 := by kernel_rfl
theorem r38_eq : K.fnK ctx 38 2 = r38 := by kernel_rfl
theorem r39_eq : K.fnK ctx 39 3 = r39 := by kernel_rfl
theorem r40_eq : K.fnK ctx 40 3 = r40 := by kernel_rfl
theorem r43_eq : K.fnK ctx 43 3 = r43 := by kernel_rfl
theorem r44_eq : K.fnK ctx 44 2 = r44 := by kernel_rfl
theorem r51_eq : K.fnK ctx 51 3 = r51 := by kernel_rfl
theorem r58_eq : K.fnK ctx 58 3 = r58 := by kernel_rfl
theorem r59_eq : K.fnK ctx 59 1 = r59 := by kernel_rfl
theorem r60_eq : K.fnK ctx 60 1 = r60 := by kernel_rfl
end YtpfgllikhklnoaaGreatDoorRnM
