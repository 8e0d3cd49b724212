/- PRINTED BY Gen2.lean (own): the plain texts are what the machine comes to, part 2. -/
import Derived.Test.YtpfgllikhklnoaaGreatDoorNmR2
import Derived.KernelRfl
namespace YtpfgllikhklnoaaGreatDoorNmM
open Go Am
set_option maxRecDepth 100000
theorem r93_eq : K.fnK ctx 93 2 = r93 := by kernel_rfl
theorem r94_eq : K.fnK ctx 94 1 = r94 := by kernel_rfl
theorem r95_eq : K.fnK ctx 95 2 = r95 := by kernel_rfl
theorem r96_eq : K.fnK ctx 96 3 = r96 := by kernel_rfl
theorem r97_eq : K.fnK ctx 97 1 = r97 := by kernel_rfl
theorem r98_eq : K.fnK ctx 98 3 = r98 := by kernel_rfl
theorem r99_eq : K.fnK ctx 99 3 = r99 := by kernel_rfl
theorem r100_eq : K.fnK ctx 100 3 = r100 := by kernel_rfl
theorem r101_eq : K.fnK ctx 101 3 = r101 := by kernel_rfl
theorem r102_eq : K.fnK ctx 102 4 = r102 := by kernel_rfl
theorem r103_eq : K.fnK ctx 103 2 = r103 := by kernel_rfl
theorem r104_eq : K.fnK ctx 104 1 = r104 := by kernel_rfl
theorem r105_eq : K.fnK ctx 105 2 = r105 := by kernel_rfl
theorem r106_eq : K.fnK ctx 106 1 = r106 := by kernel_rfl
theorem r107_eq : K.fnK ctx 107 2 = r107 := by kernel_rfl
theorem r108_eq : K.fnK ctx 108 2 = r108 := by kernel_rfl
theorem r115_eq : K.fnK ctx 115 2 = r115 := by kernel_rfl
theorem r117_eq : K.fnK ctx 117 3 = r117 := by kernel_rfl
theorem r118_eq : K.fnK ctx 118 1 = r118 := by kernel_rfl
theorem r119_eq : K.fnK ctx 119 1 = r119 := by kernel_rfl
theorem r120_eq : K.fnK ctx 120 3 = r120 := by kernel_rfl
theorem r121_eq : K.fnK ctx 121 2 = r121 := by kernel_rfl
theorem r122_eq : K.fnK ctx 122 1 = r122 := by kernel_rfl
theorem r123_eq : K.fnK ctx 123 1 = r123 := by kernel_rfl
theorem r124_eq : K.fnK ctx 124 1 = r124 := by kernel_rfl
theorem r125_eq : K.fnK ctx 125 2 = r125 := by kernel_rfl
theorem r126_eq : K.fnK ctx 126 2 = r126 := by kernel_rfl
theorem r127_eq : K.fnK ctx 127 1 = r127 := by kernel_rfl
theorem r128_eq : K.fnK ctx 128 2 = r128 := by kernel_rfl
theorem r129_eq : K.fnK ctx 129 0 = r129 := by kernel_rfl
theorem r130_eq : K.fnK ctx 130 2 = r130 := by kernel_rfl
theorem r131_eq : K.fnK ctx 131 1 = r131 := by kernel_rfl
theorem r132_eq : K.fnK ctx 132 2 = r132 := by kernel_rfl
theorem r133_eq : K.fnK ctx 133 2 = r133 := by kernel_rfl
theorem r134_eq : K.fnK ctx 134 2 = r134 := by kernel_rfl
theorem r135_eq : K.fnK ctx 135 2 = r135 := by kernel_rfl
theorem r136_eq : K.fnK ctx 136 3 = r136 := by kernel_rfl
theorem r137_eq : K.fnK ctx 137 1 = r137 := by kernel_rfl
end YtpfgllikhklnoaaGreatDoorNmM
