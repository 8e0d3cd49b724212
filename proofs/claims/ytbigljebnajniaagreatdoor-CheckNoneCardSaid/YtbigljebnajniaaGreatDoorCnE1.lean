/- PRINTED BY Gen2.lean (own): the plain texts are what the machine comes to, part 1. -/
import Derived.Test.YtbigljebnajniaaGreatDoorCnR1
import Derived.KernelRfl
namespace YtbigljebnajniaaGreatDoorCnM
open Go Am
set_option maxRecDepth 100000
theorem r28_eq : K.fnK ctx 28 1 = r28 := by kernel_rfl
theorem r29_eq : K.fnK ctx 29 1 = r29 := by kernel_rfl
theorem r30_eq : K.fnK ctx 30 2 = r30 := by kernel_rfl
theorem r31_eq : K.fnK ctx 31 1 = r31 := by kernel_rfl
theorem r32_eq : K.fnK ctx 32 1 = r32 := by kernel_rfl
theorem r33_eq : K.fnK ctx 33 1 = r33 := by kernel_rfl
theorem r34_eq : K.fnK ctx 34 1 = r34 := by kernel_rfl
theorem r35_eq : K.fnK ctx 35 0 = r35 := by kernel_rfl
theorem r36_eq : K.fnK ctx 36 4 = r36 := by kernel_rfl
theorem r37_eq : K.fnK ctx 37 1 = r37 := by kernel_rfl
theorem r38_eq : K.fnK ctx 38 3 = r38 := by kernel_rfl
theorem r39_eq : K.fnK ctx 39 1 = r39 := by kernel_rfl
theorem r40_eq : K.fnK ctx 40 1 = r40 := by kernel_rfl
theorem r41_eq : K.fnK ctx 41 3 = r41 := by kernel_rfl
theorem r42_eq : K.fnK ctx 42 2 = r42 := by kernel_rfl
theorem r43_eq : K.fnK ctx 43 3 = r43 := by kernel_rfl
theorem r44_eq : K.fnK ctx 44 2 = r44 := by kernel_rfl
theorem r45_eq : K.fnK ctx 45 3 = r45 := by kernel_rfl
theorem r46_eq : K.fnK ctx 46 3 = r46 := by kernel_rfl
theorem r48_eq : K.fnK ctx 48 2 = r48 := by kernel_rfl
theorem r49_eq : K.fnK ctx 49 2 = r49 := by kernel_rfl
theorem r50_eq : K.fnK ctx 50 3 = r50 := by kernel_rfl
theorem r52_eq : K.fnK ctx 52 3 = r52 := by kernel_rfl
theorem r53_eq : K.fnK ctx 53 3 = r53 := by kernel_rfl
theorem r54_eq : K.fnK ctx 54 4 = r54 := by kernel_rfl
theorem r55_eq : K.fnK ctx 55 3 = r55 := by kernel_rfl
theorem r57_eq : K.fnK ctx 57 3 = r57 := by kernel_rfl
theorem r60_eq : K.fnK ctx 60 1 = r60 := by kernel_rfl
theorem r61_eq : K.fnK ctx 61 1 = r61 := by kernel_rfl
theorem r62_eq : K.fnK ctx 62 3 = r62 := by kernel_rfl
theorem r63_eq : K.fnK ctx 63 3 = r63 := by kernel_rfl
theorem r64_eq : K.fnK ctx 64 1 = r64 := by kernel_rfl
end YtbigljebnajniaaGreatDoorCnM
