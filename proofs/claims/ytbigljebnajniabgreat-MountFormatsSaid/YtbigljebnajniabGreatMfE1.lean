/- PRINTED BY Gen2.lean (own): the plain texts are what the machine comes to, part 1. -/
import Derived.Test.YtbigljebnajniabGreatMfR1
import Derived.KernelRfl
namespace YtbigljebnajniabGreatMfM
open Go Am
set_option maxRecDepth 100000
theorem r45_eq : K.fnK ctx 45 1 = r45 := by kernel_rfl
theorem r46_eq : K.fnK ctx 46 2 = r46 := by kernel_rfl
theorem r47_eq : K.fnK ctx 47 2 = r47 := by kernel_rfl
theorem r48_eq : K.fnK ctx 48 1 = r48 := by kernel_rfl
theorem r49_eq : K.fnK ctx 49 4 = r49 := by kernel_rfl
theorem r50_eq : K.fnK ctx 50 3 = r50 := by kernel_rfl
theorem r51_eq : K.fnK ctx 51 1 = r51 := by kernel_rfl
theorem r52_eq : K.fnK ctx 52 2 = r52 := by kernel_rfl
theorem r53_eq : K.fnK ctx 53 1 = r53 := by kernel_rfl
theorem r54_eq : K.fnK ctx 54 3 = r54 := by kernel_rfl
theorem r55_eq : K.fnK ctx 55 2 = r55 := by kernel_rfl
theorem r56_eq : K.fnK ctx 56 2 = r56 := by kernel_rfl
theorem r57_eq : K.fnK ctx 57 1 = r57 := by kernel_rfl
theorem r58_eq : K.fnK ctx 58 1 = r58 := by kernel_rfl
theorem r59_eq : K.fnK ctx 59 1 = r59 := by kernel_rfl
theorem r60_eq : K.fnK ctx 60 1 = r60 := by kernel_rfl
theorem r61_eq : K.fnK ctx 61 2 = r61 := by kernel_rfl
theorem r62_eq : K.fnK ctx 62 3 = r62 := by kernel_rfl
theorem r63_eq : K.fnK ctx 63 1 = r63 := by kernel_rfl
theorem r64_eq : K.fnK ctx 64 2 = r64 := by kernel_rfl
theorem r65_eq : K.fnK ctx 65 3 = r65 := by kernel_rfl
theorem r66_eq : K.fnK ctx 66 2 = r66 := by kernel_rfl
theorem r67_eq : K.fnK ctx 67 1 = r67 := by kernel_rfl
theorem r68_eq : K.fnK ctx 68 2 = r68 := by kernel_rfl
theorem r69_eq : K.fnK ctx 69 1 = r69 := by kernel_rfl
theorem r70_eq : K.fnK ctx 70 1 = r70 := by kernel_rfl
theorem r71_eq : K.fnK ctx 71 2 = r71 := by kernel_rfl
theorem r72_eq : K.fnK ctx 72 1 = r72 := by kernel_rfl
theorem r73_eq : K.fnK ctx 73 2 = r73 := by kernel_rfl
theorem r74_eq : K.fnK ctx 74 1 = r74 := by kernel_rfl
theorem r75_eq : K.fnK ctx 75 3 = r75 := by kernel_rfl
theorem r76_eq : K.fnK ctx 76 3 = r76 := by kernel_rfl
theorem r77_eq : K.fnK ctx 77 1 = r77 := by kernel_rfl
theorem r78_eq : K.fnK ctx 78 1 = r78 := by kernel_rfl
theorem r79_eq : K.fnK ctx 79 2 = r79 := by kernel_rfl
theorem r81_eq : K.fnK ctx 81 0 = r81 := by kernel_rfl
theorem r82_eq : K.fnK ctx 82 2 = r82 := by kernel_rfl
theorem r83_eq : K.fnK ctx 83 1 = r83 := by kernel_rfl
theorem r84_eq : K.fnK ctx 84 1 = r84 := by kernel_rfl
theorem r85_eq : K.fnK ctx 85 3 = r85 := by kernel_rfl
theorem r86_eq : K.fnK ctx 86 2 = r86 := by kernel_rfl
theorem r87_eq : K.fnK ctx 87 1 = r87 := by kernel_rfl
end YtbigljebnajniabGreatMfM
