/- PRINTED BY Gen2.lean (own): the plain texts are what the machine comes to, part 1. -/
import Derived.Test.YtpfgllikhklnoaaGreatDoorFdR1
import Derived.KernelRfl
namespace YtpfgllikhklnoaaGreatDoorFdM
open Go Am
set_option maxRecDepth 100000
theorem r29_eq : K.fnK ctx 29 4 = r29 := by kernel_rfl
theorem r30_eq : K.fnK ctx 30 4 = r30 := by kernel_rfl
theorem r31_eq : K.fnK ctx 31 5 = r31 := by kernel_rfl
theorem r32_eq : K.fnK ctx 32 4 = r32 := by kernel_rfl
theorem r33_eq : K.fnK ctx 33 1 = r33 := by kernel_rfl
theorem r34_eq : K.fnK ctx 34 1 = r34 := by kernel_rfl
theorem r35_eq : K.fnK ctx 35 1 = r35 := by kernel_rfl
theorem r36_eq : K.fnK ctx 36 1 = r36 := by kernel_rfl
theorem r37_eq : K.fnK ctx 37 1 = r37 := by kernel_rfl
theorem r38_eq : K.fnK ctx 38 2 = r38 := by kernel_rfl
theorem r40_eq : K.fnK ctx 40 3 = r40 := by kernel_rfl
theorem r43_eq : K.fnK ctx 43 3 = r43 := by kernel_rfl
theorem r44_eq : K.fnK ctx 44 2 = r44 := by kernel_rfl
theorem r45_eq : K.fnK ctx 45 2 = r45 := by kernel_rfl
theorem r46_eq : K.fnK ctx 46 2 = r46 := by kernel_rfl
theorem r49_eq : K.fnK ctx 49 4 = r49 := by kernel_rfl
theorem r50_eq : K.fnK ctx 50 3 = r50 := by kernel_rfl
theorem r51_eq : K.fnK ctx 51 3 = r51 := by kernel_rfl
theorem r52_eq : K.fnK ctx 52 1 = r52 := by kernel_rfl
theorem r53_eq : K.fnK ctx 53 2 = r53 := by kernel_rfl
theorem r54_eq : K.fnK ctx 54 3 = r54 := by kernel_rfl
theorem r55_eq : K.fnK ctx 55 3 = r55 := by kernel_rfl
theorem r56_eq : K.fnK ctx 56 3 = r56 := by kernel_rfl
theorem r57_eq : K.fnK ctx 57 2 = r57 := by kernel_rfl
theorem r70_eq : K.fnK ctx 70 3 = r70 := by kernel_rfl
theorem r71_eq : K.fnK ctx 71 2 = r71 := by kernel_rfl
theorem r72_eq : K.fnK ctx 72 2 = r72 := by kernel_rfl
theorem r73_eq : K.fnK ctx 73 2 = r73 := by kernel_rfl
theorem r74_eq : K.fnK ctx 74 4 = r74 := by kernel_rfl
theorem r75_eq : K.fnK ctx 75 3 = r75 := by kernel_rfl
theorem r76_eq : K.fnK ctx 76 4 = r76 := by kernel_rfl
theorem r77_eq : K.fnK ctx 77 1 = r77 := by kernel_rfl
theorem r78_eq : K.fnK ctx 78 1 = r78 := by kernel_rfl
theorem r79_eq : K.fnK ctx 79 1 = r79 := by kernel_rfl
theorem r80_eq : K.fnK ctx 80 3 = r80 := by kernel_rfl
theorem r81_eq : K.fnK ctx 81 1 = r81 := by kernel_rfl
theorem r82_eq : K.fnK ctx 82 1 = r82 := by kernel_rfl
theorem r83_eq : K.fnK ctx 83 3 = r83 := by kernel_rfl
theorem r84_eq : K.fnK ctx 84 3 = r84 := by kernel_rfl
theorem r85_eq : K.fnK ctx 85 2 = r85 := by kernel_rfl
theorem r86_eq : K.fnK ctx 86 3 = r86 := by kernel_rfl
theorem r87_eq : K.fnK ctx 87 1 = r87 := by kernel_rfl
end YtpfgllikhklnoaaGreatDoorFdM
