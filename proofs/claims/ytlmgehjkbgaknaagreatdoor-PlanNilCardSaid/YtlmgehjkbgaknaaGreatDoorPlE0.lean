/- PRINTED BY Gen2.lean (own): the plain texts are what the machine comes to, part 0. -/
import Derived.Test.YtlmgehjkbgaknaaGreatDoorPlR0
import Derived.KernelRfl
namespace YtlmgehjkbgaknaaGreatDoorPlM
open Go Am
set_option maxRecDepth 100000
theorem r5_eq : K.fnK ctx 5 5 = r5 := by kernel_rfl
theorem r6_eq : K.fnK ctx 6 3 = r6 := by kernel_rfl
theorem r7_eq : K.fnK ctx 7 3 = r7 := by kernel_rfl
theorem r8_eq : K.fnK ctx 8 4 = r8 := by kernel_rfl
theorem r9_eq : K.fnK ctx 9 1 = r9 := by kernel_rfl
theorem r10_eq : K.fnK ctx 10 1 = r10 := by kernel_rfl
theorem r11_eq : K.fnK ctx 11 4 = r11 := by kernel_rfl
theorem r12_eq : K.fnK ctx 12 1 = r12 := by kernel_rfl
theorem r26_eq : K.fnK ctx 26 1 = r26 := by kernel_rfl
theorem r27_eq : K.fnK ctx 27 1 = r27 := by kernel_rfl
theorem r28_eq : K.fnK ctx 28 4 = r28 := by kernel_rfl
theorem r29_eq : K.fnK ctx 29 1 = r29 := by kernel_rfl
theorem r30_eq : K.fnK ctx 30 5 = r30 := by kernel_rfl
theorem r31_eq : K.fnK ctx 31 1 = r31 := by kernel_rfl
theorem r32_eq : K.fnK ctx 32 3 = r32 := by kernel_rfl
theorem r33_eq : K.fnK ctx 33 3 = r33 := by kernel_rfl
theorem r37_eq : K.fnK ctx 37 2 = r37 := by kernel_rfl
theorem r38_eq : K.fnK ctx 38 1 = r38 := by kernel_rfl
theorem r39_eq : K.fnK ctx 39 1 = r39 := by kernel_rfl
theorem r40_eq : K.fnK ctx 40 1 = r40 := by kernel_rfl
theorem r41_eq : K.fnK ctx 41 1 = r41 := by kernel_rfl
theorem r42_eq : K.fnK ctx 42 2 = r42 := by kernel_rfl
theorem r43_eq : K.fnK ctx 43 2 = r43 := by kernel_rfl
theorem r44_eq : K.fnK ctx 44 1 = r44 := by kernel_rfl
theorem r45_eq : K.fnK ctx 45 1 = r45 := by kernel_rfl
theorem r47_eq : K.fnK ctx 47 2 = r47 := by kernel_rfl
theorem r53_eq : K.fnK ctx 53 1 = r53 := by kernel_rfl
theorem r54_eq : K.fnK ctx 54 1 = r54 := by kernel_rfl
end YtlmgehjkbgaknaaGreatDoorPlM
