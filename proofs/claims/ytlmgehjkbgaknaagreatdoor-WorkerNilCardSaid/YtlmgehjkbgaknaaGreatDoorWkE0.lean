/- PRINTED BY Gen2.lean (own): the plain texts are what the machine comes to, part 0. -/
import Derived.Test.YtlmgehjkbgaknaaGreatDoorWkR0
import Derived.KernelRfl
namespace YtlmgehjkbgaknaaGreatDoorWkM
open Go Am
set_option maxRecDepth 100000
theorem r6_eq : K.fnK ctx 6 3 = r6 := by kernel_rfl
theorem r9_eq : K.fnK ctx 9 1 = r9 := by kernel_rfl
theorem r10_eq : K.fnK ctx 10 1 = r10 := by kernel_rfl
theorem r12_eq : K.fnK ctx 12 1 = r12 := by kernel_rfl
theorem r14_eq : K.fnK ctx 14 4 = r14 := by kernel_rfl
theorem r15_eq : K.fnK ctx 15 1 = r15 := by kernel_rfl
theorem r16_eq : K.fnK ctx 16 1 = r16 := by kernel_rfl
theorem r17_eq : K.fnK ctx 17 2 = r17 := by kernel_rfl
theorem r19_eq : K.fnK ctx 19 1 = r19 := by kernel_rfl
theorem r20_eq : K.fnK ctx 20 1 = r20 := by kernel_rfl
theorem r21_eq : K.fnK ctx 21 2 = r21 := by kernel_rfl
theorem r22_eq : K.fnK ctx 22 2 = r22 := by kernel_rfl
theorem r23_eq : K.fnK ctx 23 1 = r23 := by kernel_rfl
theorem r24_eq : K.fnK ctx 24 2 = r24 := by kernel_rfl
theorem r26_eq : K.fnK ctx 26 1 = r26 := by kernel_rfl
theorem r31_eq : K.fnK ctx 31 1 = r31 := by kernel_rfl
theorem r32_eq : K.fnK ctx 32 3 = r32 := by kernel_rfl
theorem r33_eq : K.fnK ctx 33 3 = r33 := by kernel_rfl
theorem r37_eq : K.fnK ctx 37 2 = r37 := by kernel_rfl
theorem r38_eq : K.fnK ctx 38 1 = r38 := by kernel_rfl
theorem r39_eq : K.fnK ctx 39 1 = r39 := by kernel_rfl
theorem r40_eq : K.fnK ctx 40 1 = r40 := by kernel_rfl
theorem r41_eq : K.fnK ctx 41 1 = r41 := by kernel_rfl
theorem r42_eq : K.fnK ctx 42 2 = r42 := by kernel_rfl
theorem r45_eq : K.fnK ctx 45 1 = r45 := by kernel_rfl
theorem r48_eq : K.fnK ctx 48 3 = r48 := by kernel_rfl
theorem r49_eq : K.fnK ctx 49 2 = r49 := by kernel_rfl
theorem r50_eq : K.fnK ctx 50 1 = r50 := by kernel_rfl
theorem r51_eq : K.fnK ctx 51 3 = r51 := by kernel_rfl
theorem r52_eq : K.fnK ctx 52 2 = r52 := by kernel_rfl
theorem r53_eq : K.fnK ctx 53 1 = r53 := by kernel_rfl
theorem r54_eq : K.fnK ctx 54 1 = r54 := by kernel_rfl
theorem r55_eq : K.fnK ctx 55 1 = r55 := by kernel_rfl
theorem r56_eq : K.fnK ctx 56 1 = r56 := by kernel_rfl
theorem r57_eq : K.fnK ctx 57 2 = r57 := by kernel_rfl
theorem r58_eq : K.fnK ctx 58 1 = r58 := by kernel_rfl
theorem r59_eq : K.fnK ctx 59 2 = r59 := by kernel_rfl
end YtlmgehjkbgaknaaGreatDoorWkM
