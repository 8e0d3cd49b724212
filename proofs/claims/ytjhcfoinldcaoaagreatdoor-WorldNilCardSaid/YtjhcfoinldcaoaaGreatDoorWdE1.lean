/- PRINTED BY Gen2.lean (own): the plain texts are what the machine comes to, part 1. -/
import Derived.Test.YtjhcfoinldcaoaaGreatDoorWdR1
import Derived.KernelRfl
namespace YtjhcfoinldcaoaaGreatDoorWdM
open Go Am
set_option maxRecDepth 100000
theorem r49_eq : K.fnK ctx 49 1 = r49 := by kernel_rfl
theorem r51_eq : K.fnK ctx 51 2 = r51 := by kernel_rfl
theorem r52_eq : K.fnK ctx 52 1 = r52 := by kernel_rfl
theorem r53_eq : K.fnK ctx 53 3 = r53 := by kernel_rfl
theorem r54_eq : K.fnK ctx 54 3 = r54 := by kernel_rfl
theorem r55_eq : K.fnK ctx 55 1 = r55 := by kernel_rfl
theorem r56_eq : K.fnK ctx 56 2 = r56 := by kernel_rfl
theorem r57_eq : K.fnK ctx 57 2 = r57 := by kernel_rfl
theorem r58_eq : K.fnK ctx 58 2 = r58 := by kernel_rfl
theorem r59_eq : K.fnK ctx 59 2 = r59 := by kernel_rfl
theorem r60_eq : K.fnK ctx 60 1 = r60 := by kernel_rfl
theorem r61_eq : K.fnK ctx 61 2 = r61 := by kernel_rfl
theorem r62_eq : K.fnK ctx 62 3 = r62 := by kernel_rfl
theorem r63_eq : K.fnK ctx 63 3 = r63 := by kernel_rfl
theorem r64_eq : K.fnK ctx 64 3 = r64 := by kernel_rfl
theorem r65_eq : K.fnK ctx 65 1 = r65 := by kernel_rfl
theorem r66_eq : K.fnK ctx 66 2 = r66 := by kernel_rfl
theorem r67_eq : K.fnK ctx 67 3 = r67 := by kernel_rfl
theorem r69_eq : K.fnK ctx 69 2 = r69 := by kernel_rfl
theorem r70_eq : K.fnK ctx 70 3 = r70 := by kernel_rfl
theorem r71_eq : K.fnK ctx 71 1 = r71 := by kernel_rfl
theorem r72_eq : K.fnK ctx 72 2 = r72 := by kernel_rfl
theorem r78_eq : K.fnK ctx 78 1 = r78 := by kernel_rfl
theorem r79_eq : K.fnK ctx 79 1 = r79 := by kernel_rfl
theorem r80_eq : K.fnK ctx 80 2 = r80 := by kernel_rfl
theorem r81_eq : K.fnK ctx 81 2 = r81 := by kernel_rfl
theorem r82_eq : K.fnK ctx 82 1 = r82 := by kernel_rfl
theorem r83_eq : K.fnK ctx 83 2 = r83 := by kernel_rfl
theorem r84_eq : K.fnK ctx 84 2 = r84 := by kernel_rfl
theorem r85_eq : K.fnK ctx 85 2 = r85 := by kernel_rfl
theorem r87_eq : K.fnK ctx 87 2 = r87 := by kernel_rfl
theorem r88_eq : K.fnK ctx 88 2 = r88 := by kernel_rfl
theorem r90_eq : K.fnK ctx 90 2 = r90 := by kernel_rfl
theorem r92_eq : K.fnK ctx 92 1 = r92 := by kernel_rfl
theorem r93_eq : K.fnK ctx 93 2 = r93 := by kernel_rfl
theorem r95_eq : K.fnK ctx 95 1 = r95 := by kernel_rfl
theorem r96_eq : K.fnK ctx 96 1 = r96 := by kernel_rfl
end YtjhcfoinldcaoaaGreatDoorWdM
