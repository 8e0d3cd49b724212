/- PRINTED BY Gen2.lean (own): the plain texts are what the machine comes to, part 0. -/
import Derived.Test.YtpfgllikhklnoaaGreatDoorFdR0
import Derived.KernelRfl
namespace YtpfgllikhklnoaaGreatDoorFdM
open Go Am
set_option maxRecDepth 100000
theorem r5_eq : K.fnK ctx 5 5 = r5 := by kernel_rfl
theorem r6_eq : K.fnK ctx 6 4 = r6 := by kernel_rfl
theorem r7_eq : K.fnK ctx 7 2 = r7 := by kernel_rfl
theorem r8_eq : K.fnK ctx 8 1 = r8 := by kernel_rfl
theorem r9_eq : K.fnK ctx 9 1 = r9 := by kernel_rfl
theorem r11_eq : K.fnK ctx 11 3 = r11 := by kernel_rfl
theorem r13_eq : K.fnK ctx 13 3 = r13 := by kernel_rfl
theorem r14_eq : K.fnK ctx 14 3 = r14 := by kernel_rfl
theorem r15_eq : K.fnK ctx 15 1 = r15 := by kernel_rfl
theorem r19_eq : K.fnK ctx 19 4 = r19 := by kernel_rfl
theorem r20_eq : K.fnK ctx 20 4 = r20 := by kernel_rfl
theorem r21_eq : K.fnK ctx 21 5 = r21 := by kernel_rfl
theorem r22_eq : K.fnK ctx 22 4 = r22 := by kernel_rfl
theorem r23_eq : K.fnK ctx 23 3 = r23 := by kernel_rfl
theorem r24_eq : K.fnK ctx 24 0 = r24 := by kernel_rfl
theorem r25_eq : K.fnK ctx 25 3 = r25 := by kernel_rfl
theorem r26_eq : K.fnK ctx 26 2 = r26 := by kernel_rfl
theorem r27_eq : K.fnK ctx 27 1 = r27 := by kernel_rfl
theorem r28_eq : K.fnK ctx 28 1 = r28 := by kernel_rfl
end YtpfgllikhklnoaaGreatDoorFdM
