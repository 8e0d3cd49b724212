/- PRINTED BY Gen2.lean (own): the plain texts are what the machine comes to, part 1. -/
import Derived.Test.YtlmgehjkbgaknaaGreatDoorPlR1
import Derived.KernelRfl
namespace YtlmgehjkbgaknaaGreatDoorPlM
open Go Am
set_option maxRecDepth 100000
theorem r55_eq : K.fnK ctx 55 1 = r55 := by kernel_rfl
theorem r56_eq : K.fnK ctx 56 1 = r56 := by kernel_rfl
theorem r57_eq : K.fnK ctx 57 2 = r57 := by kernel_rfl
theorem r61_eq : K.fnK ctx 61 1 = r61 := by kernel_rfl
theorem r62_eq : K.fnK ctx 62 1 = r62 := by kernel_rfl
theorem r63_eq : K.fnK ctx 63 3 = r63 := by kernel_rfl
theorem r64_eq : K.fnK ctx 64 3 = r64 := by kernel_rfl
theorem r65_eq : K.fnK ctx 65 3 = r65 := by kernel_rfl
theorem r66_eq : K.fnK ctx 66 3 = r66 := by kernel_rfl
theorem r67_eq : K.fnK ctx 67 1 = r67 := by kernel_rfl
theorem r68_eq : K.fnK ctx 68 2 = r68 := by kernel_rfl
theorem r69_eq : K.fnK ctx 69 1 = r69 := by kernel_rfl
theorem r70_eq : K.fnK ctx 70 2 = r70 := by kernel_rfl
theorem r71_eq : K.fnK ctx 71 2 = r71 := by kernel_rfl
theorem r72_eq : K.fnK ctx 72 3 = r72 := by kernel_rfl
theorem r74_eq : K.fnK ctx 74 3 = r74 := by kernel_rfl
theorem r75_eq : K.fnK ctx 75 2 = r75 := by kernel_rfl
theorem r77_eq : K.fnK ctx 77 1 = r77 := by kernel_rfl
theorem r78_eq : K.fnK ctx 78 1 = r78 := by kernel_rfl
theorem r79_eq : K.fnK ctx 79 1 = r79 := by kernel_rfl
theorem r80_eq : K.fnK ctx 80 2 = r80 := by kernel_rfl
theorem r87_eq : K.fnK ctx 87 2 = r87 := by kernel_rfl
theorem r101_eq : K.fnK ctx 101 3 = r101 := by kernel_rfl
theorem r102_eq : K.fnK ctx 102 1 = r102 := by kernel_rfl
theorem r103_eq : K.fnK ctx 103 3 = r103 := by kernel_rfl
theorem r115_eq : K.fnK ctx 115 1 = r115 := by kernel_rfl
theorem r116_eq : K.fnK ctx 116 1 = r116 := by kernel_rfl
theorem r117_eq : K.fnK ctx 117 0 = r117 := by kernel_rfl
theorem r118_eq : K.fnK ctx 118 1 = r118 := by kernel_rfl
theorem r119_eq : K.fnK ctx 119 2 = r119 := by kernel_rfl
theorem r120_eq : K.fnK ctx 120 2 = r120 := by kernel_rfl
theorem r121_eq : K.fnK ctx 121 2 = r121 := by kernel_rfl
theorem r122_eq : K.fnK ctx 122 2 = r122 := by kernel_rfl
theorem r123_eq : K.fnK ctx 123 3 = r123 := by kernel_rfl
end YtlmgehjkbgaknaaGreatDoorPlM
