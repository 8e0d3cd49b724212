/- PRINTED BY Gen2.lean (own): the plain texts are what the machine comes to, part 2. -/
import Derived.Test.YtpfgllikhklnoaaGreatDoorFdR2
import Derived.KernelRfl
namespace YtpfgllikhklnoaaGreatDoorFdM
open Go Am
set_option maxRecDepth 100000
theorem r88_eq : K.fnK ctx 88 3 = r88 := by kernel_rfl
theorem r89_eq : K.fnK ctx 89 3 = r89 := by kernel_rfl
theorem r90_eq : K.fnK ctx 90 2 = r90 := by kernel_rfl
theorem r91_eq : K.fnK ctx 91 2 = r91 := by kernel_rfl
theorem r92_eq : K.fnK ctx 92 1 = r92 := by kernel_rfl
theorem r93_eq : K.fnK ctx 93 2 = r93 := by kernel_rfl
theorem r94_eq : K.fnK ctx 94 1 = r94 := by kernel_rfl
theorem r95_eq : K.fnK ctx 95 2 = r95 := by kernel_rfl
theorem r97_eq : K.fnK ctx 97 1 = r97 := by kernel_rfl
theorem r98_eq : K.fnK ctx 98 3 = r98 := by kernel_rfl
theorem r99_eq : K.fnK ctx 99 3 = r99 := by kernel_rfl
theorem r100_eq : K.fnK ctx 100 3 = r100 := by kernel_rfl
theorem r101_eq : K.fnK ctx 101 3 = r101 := by kernel_rfl
theorem r102_eq : K.fnK ctx 102 4 = r102 := by kernel_rfl
theorem r103_eq : K.fnK ctx 103 2 = r103 := by kernel_rfl
theorem r104_eq : K.fnK ctx 104 1 = r104 := by kernel_rfl
theorem r105_eq : K.fnK ctx 105 2 = r105 := by kernel_rfl
theorem r106_eq : K.fnK ctx 106 1 = r106 := by kernel_rfl
theorem r107_eq : K.fnK ctx 107 2 = r107 := by kernel_rfl
theorem r108_eq : K.fnK ctx 108 2 = r108 := by kernel_rfl
theorem r113_eq : K.fnK ctx 113 1 = r113 := by kernel_rfl
theorem r114_eq : K.fnK ctx 114 5 = r114 := by kernel_rfl
theorem r115_eq : K.fnK ctx 115 2 = r115 := by kernel_rfl
theorem r116_eq : K.fnK ctx 116 3 = r116 := by kernel_rfl
theorem r117_eq : K.fnK ctx 117 3 = r117 := by kernel_rfl
theorem r118_eq : K.fnK ctx 118 1 = r118 := by kernel_rfl
theorem r119_eq : K.fnK ctx 119 1 = r119 := by kernel_rfl
theorem r120_eq : K.fnK ctx 120 3 = r120 := by kernel_rfl
theorem r121_eq : K.fnK ctx 121 2 = r121 := by kernel_rfl
theorem r122_eq : K.fnK ctx 122 1 = r122 := by kernel_rfl
theorem r123_eq : K.fnK ctx 123 1 = r123 := by kernel_rfl
theorem r124_eq : K.fnK ctx 124 1 = r124 := by kernel_rfl
theorem r125_eq : K.fnK ctx 125 2 = r125 := by kernel_rfl
theorem r126_eq : K.fnK ctx 126 2 = r126 := by kernel_rfl
end YtpfgllikhklnoaaGreatDoorFdM
