/- PRINTED BY Gen2.lean (own): the plain texts are what the machine comes to, part 0. -/
import Derived.Test.YtbigljebnajniaaGreatDoorCnR0
import Derived.KernelRfl
namespace YtbigljebnajniaaGreatDoorCnM
open Go Am
set_option maxRecDepth 100000
theorem r5_eq : K.fnK ctx 5 1 = r5 := by kernel_rfl
theorem r6_eq : K.fnK ctx 6 1 = r6 := by kernel_rfl
theorem r7_eq : K.fnK ctx 7 1 = r7 := by kernel_rfl
theorem r8_eq : K.fnK ctx 8 1 = r8 := by kernel_rfl
theorem r9_eq : K.fnK ctx 9 1 = r9 := by kernel_rfl
theorem r10_eq : K.fnK ctx 10 2 = r10 := by kernel_rfl
theorem r11_eq : K.fnK ctx 11 2 = r11 := by kernel_rfl
theorem r12_eq : K.fnK ctx 12 1 = r12 := by kernel_rfl
theorem r13_eq : K.fnK ctx 13 1 = r13 := by kernel_rfl
theorem r14_eq : K.fnK ctx 14 1 = r14 := by kernel_rfl
theorem r15_eq : K.fnK ctx 15 2 = r15 := by kernel_rfl
theorem r16_eq : K.fnK ctx 16 4 = r16 := by kernel_rfl
theorem r17_eq : K.fnK ctx 17 1 = r17 := by kernel_rfl
theorem r18_eq : K.fnK ctx 18 1 = r18 := by kernel_rfl
theorem r19_eq : K.fnK ctx 19 1 = r19 := by kernel_rfl
theorem r20_eq : K.fnK ctx 20 1 = r20 := by kernel_rfl
theorem r21_eq : K.fnK ctx 21 3 = r21 := by kernel_rfl
theorem r22_eq : K.fnK ctx 22 1 = r22 := by kernel_rfl
theorem r23_eq : K.fnK ctx 23 2 = r23 := by kernel_rfl
theorem r24_eq : K.fnK ctx 24 1 = r24 := by kernel_rfl
theorem r25_eq : K.fnK ctx 25 1 = r25 := by kernel_rfl
theorem r26_eq : K.fnK ctx 26 1 = r26 := by kernel_rfl
theorem r27_eq : K.fnK ctx 27 1 = r27 := by kernel_rfl
end YtbigljebnajniaaGreatDoorCnM
