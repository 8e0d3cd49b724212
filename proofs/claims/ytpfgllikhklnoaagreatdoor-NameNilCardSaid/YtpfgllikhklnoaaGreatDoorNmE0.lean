/- PRINTED BY Gen2.lean (own): the plain texts are what the machine comes to, part 0. -/
import Derived.Test.YtpfgllikhklnoaaGreatDoorNmR0
import Derived.KernelRfl
namespace YtpfgllikhklnoaaGreatDoorNmM
open Go Am
set_option maxRecDepth 100000
theorem r3_eq : K.fnK ctx 3 4 = r3 := by kernel_rfl
theorem r6_eq : K.fnK ctx 6 4 = r6 := by kernel_rfl
theorem r7_eq : K.fnK ctx 7 2 = r7 := by kernel_rfl
theorem r8_eq : K.fnK ctx 8 1 = r8 := by kernel_rfl
theorem r9_eq : K.fnK ctx 9 1 = r9 := by kernel_rfl
theorem r10_eq : K.fnK ctx 10 4 = r10 := by kernel_rfl
theorem r11_eq : K.fnK ctx 11 3 = r11 := by kernel_rfl
theorem r12_eq : K.fnK ctx 12 3 = r12 := by kernel_rfl
theorem r13_eq : K.fnK ctx 13 3 = r13 := by kernel_rfl
theorem r14_eq : K.fnK ctx 14 3 = r14 := by kernel_rfl
theorem r15_eq : K.fnK ctx 15 1 = r15 := by kernel_rfl
theorem r16_eq : K.fnK ctx 16 0 = r16 := by kernel_rfl
theorem r25_eq : K.fnK ctx 25 3 = r25 := by kernel_rfl
theorem r26_eq : K.fnK ctx 26 2 = r26 := by kernel_rfl
theorem r27_eq : K.fnK ctx 27 1 = r27 := by kernel_rfl
theorem r28_eq : K.fnK ctx 28 1 = r28 := by kernel_rfl
theorem r29_eq : K.fnK ctx 29 4 = r29 := by kernel_rfl
theorem r30_eq : K.fnK ctx 30 4 = r30 := by kernel_rfl
theorem r31_eq : K.fnK ctx 31 5 = r31 := by kernel_rfl
theorem r32_eq : K.fnK ctx 32 4 = r32 := by kernel_rfl
theorem r33_eq : K.fnK ctx 33 1 = r33 := by kernel_rfl
theorem r34_eq : K.fnK ctx 34 1 = r34 := by kernel_rfl
theorem r35_eq : K.fnK ctx 35 1 = r35 := by kernel_rfl
theorem r36_eq : K.fnK ctx 36 1 = r36 := by kernel_rfl
theorem r37_eq : K.fnK ctx 37 1 = r37 := by kernel_rfl
theorem r38_eq : K.fnK ctx 38 2 = r38 := by kernel_rfl
end YtpfgllikhklnoaaGreatDoorNmM
