/- PRINTED BY Gen2.lean (own): the plain texts are what the machine comes to, part 1. -/
import Derived.Test.YtlmgehjkbgaknaaGreatDoorWkR1
import Derived.KernelRfl
namespace YtlmgehjkbgaknaaGreatDoorWkM
open Go Am
set_option maxRecDepth 100000
theorem r60_eq : K.fnK ctx 60 1 = r60 := by kernel_rfl
theorem r63_eq : K.fnK ctx 63 3 = r63 := by kernel_rfl
theorem r68_eq : K.fnK ctx 68 2 = r68 := by kernel_rfl
theorem r70_eq : K.fnK ctx 70 2 = r70 := by kernel_rfl
theorem r71_eq : K.fnK ctx 71 2 = r71 := by kernel_rfl
theorem r72_eq : K.fnK ctx 72 3 = r72 := by kernel_rfl
theorem r77_eq : K.fnK ctx 77 1 = r77 := by kernel_rfl
theorem r78_eq : K.fnK ctx 78 1 = r78 := by kernel_rfl
theorem r79_eq : K.fnK ctx 79 1 = r79 := by kernel_rfl
theorem r93_eq : K.fnK ctx 93 2 = r93 := by kernel_rfl
theorem r94_eq : K.fnK ctx 94 1 = r94 := by kernel_rfl
theorem r95_eq : K.fnK ctx 95 2 = r95 := by kernel_rfl
theorem r96_eq : K.fnK ctx 96 2 = r96 := by kernel_rfl
theorem r97_eq : K.fnK ctx 97 2 = r97 := by kernel_rfl
theorem r98_eq : K.fnK ctx 98 3 = r98 := by kernel_rfl
theorem r99_eq : K.fnK ctx 99 1 = r99 := by kernel_rfl
theorem r100_eq : K.fnK ctx 100 2 = r100 := by kernel_rfl
theorem r101_eq : K.fnK ctx 101 3 = r101 := by kernel_rfl
theorem r102_eq : K.fnK ctx 102 1 = r102 := by kernel_rfl
theorem r103_eq : K.fnK ctx 103 3 = r103 := by kernel_rfl
theorem r104_eq : K.fnK ctx 104 1 = r104 := by kernel_rfl
theorem r105_eq : K.fnK ctx 105 2 = r105 := by kernel_rfl
theorem r107_eq : K.fnK ctx 107 1 = r107 := by kernel_rfl
theorem r108_eq : K.fnK ctx 108 1 = r108 := by kernel_rfl
theorem r109_eq : K.fnK ctx 109 1 = r109 := by kernel_rfl
theorem r110_eq : K.fnK ctx 110 2 = r110 := by kernel_rfl
theorem r111_eq : K.fnK ctx 111 1 = r111 := by kernel_rfl
theorem r112_eq : K.fnK ctx 112 3 = r112 := by kernel_rfl
theorem r113_eq : K.fnK ctx 113 2 = r113 := by kernel_rfl
theorem r114_eq : K.fnK ctx 114 1 = r114 := by kernel_rfl
theorem r119_eq : K.fnK ctx 119 2 = r119 := by kernel_rfl
theorem r121_eq : K.fnK ctx 121 2 = r121 := by kernel_rfl
theorem r122_eq : K.fnK ctx 122 2 = r122 := by kernel_rfl
theorem r123_eq : K.fnK ctx 123 3 = r123 := by kernel_rfl
theorem r124_eq : K.fnK ctx 124 3 = r124 := by kernel_rfl
theorem r127_eq : K.fnK ctx 127 2 = r127 := by kernel_rfl
theorem r133_eq : K.fnK ctx 133 0 = r133 := by kernel_rfl
theorem r150_eq : K.fnK ctx 150 2 = r150 := by kernel_rfl
theorem r151_eq : K.fnK ctx 151 2 = r151 := by kernel_rfl
theorem r152_eq : K.fnK ctx 152 1 = r152 := by kernel_rfl
theorem r153_eq : K.fnK ctx 153 1 = r153 := by kernel_rfl
theorem r154_eq : K.fnK ctx 154 3 = r154 := by kernel_rfl
theorem r157_eq : K.fnK ctx 157 1 = r157 := by kernel_rfl
theorem r158_eq : K.fnK ctx 158 1 = r158 := by kernel_rfl
theorem r159_eq : K.fnK ctx 159 2 = r159 := by kernel_rfl
theorem r160_eq : K.fnK ctx 160 2 = r160 := by kernel_rfl
theorem r161_eq : K.fnK ctx 161 1 = r161 := by kernel_rfl
end YtlmgehjkbgaknaaGreatDoorWkM
