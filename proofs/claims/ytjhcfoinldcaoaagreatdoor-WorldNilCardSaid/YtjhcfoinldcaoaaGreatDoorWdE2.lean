/- PRINTED BY Gen2.lean (own): the plain texts are what the machine comes to, part 2. -/
import Derived.Test.YtjhcfoinldcaoaaGreatDoorWdR2
import Derived.KernelRfl
namespace YtjhcfoinldcaoaaGreatDoorWdM
open Go Am
set_option maxRecDepth 100000
theorem r97_eq : K.fnK ctx 97 1 = r97 := by kernel_rfl
theorem r98_eq : K.fnK ctx 98 2 = r98 := by kernel_rfl
theorem r99_eq : K.fnK ctx 99 2 = r99 := by kernel_rfl
theorem r100_eq : K.fnK ctx 100 2 = r100 := by kernel_rfl
theorem r101_eq : K.fnK ctx 101 2 = r101 := by kernel_rfl
theorem r102_eq : K.fnK ctx 102 2 = r102 := by kernel_rfl
theorem r103_eq : K.fnK ctx 103 3 = r103 := by kernel_rfl
theorem r104_eq : K.fnK ctx 104 2 = r104 := by kernel_rfl
theorem r106_eq : K.fnK ctx 106 1 = r106 := by kernel_rfl
theorem r108_eq : K.fnK ctx 108 2 = r108 := by kernel_rfl
theorem r109_eq : K.fnK ctx 109 1 = r109 := by kernel_rfl
theorem r110_eq : K.fnK ctx 110 2 = r110 := by kernel_rfl
theorem r111_eq : K.fnK ctx 111 1 = r111 := by kernel_rfl
theorem r112_eq : K.fnK ctx 112 1 = r112 := by kernel_rfl
theorem r113_eq : K.fnK ctx 113 1 = r113 := by kernel_rfl
theorem r114_eq : K.fnK ctx 114 2 = r114 := by kernel_rfl
theorem r115_eq : K.fnK ctx 115 3 = r115 := by kernel_rfl
theorem r119_eq : K.fnK ctx 119 1 = r119 := by kernel_rfl
theorem r120_eq : K.fnK ctx 120 1 = r120 := by kernel_rfl
theorem r121_eq : K.fnK ctx 121 2 = r121 := by kernel_rfl
theorem r122_eq : K.fnK ctx 122 2 = r122 := by kernel_rfl
theorem r123_eq : K.fnK ctx 123 1 = r123 := by kernel_rfl
theorem r124_eq : K.fnK ctx 124 3 = r124 := by kernel_rfl
theorem r125_eq : K.fnK ctx 125 2 = r125 := by kernel_rfl
theorem r126_eq : K.fnK ctx 126 2 = r126 := by kernel_rfl
theorem r127_eq : K.fnK ctx 127 1 = r127 := by kernel_rfl
theorem r128_eq : K.fnK ctx 128 2 = r128 := by kernel_rfl
theorem r129_eq : K.fnK ctx 129 2 = r129 := by kernel_rfl
theorem r130_eq : K.fnK ctx 130 1 = r130 := by kernel_rfl
theorem r131_eq : K.fnK ctx 131 2 = r131 := by kernel_rfl
theorem r132_eq : K.fnK ctx 132 2 = r132 := by kernel_rfl
theorem r133_eq : K.fnK ctx 133 2 = r133 := by kernel_rfl
theorem r134_eq : K.fnK ctx 134 2 = r134 := by kernel_rfl
theorem r136_eq : K.fnK ctx 136 2 = r136 := by kernel_rfl
theorem r137_eq : K.fnK ctx 137 1 = r137 := by kernel_rfl
theorem r138_eq : K.fnK ctx 138 1 = r138 := by kernel_rfl
theorem r139_eq : K.fnK ctx 139 1 = r139 := by kernel_rfl
theorem r144_eq : K.fnK ctx 144 2 = r144 := by kernel_rfl
end YtjhcfoinldcaoaaGreatDoorWdM
