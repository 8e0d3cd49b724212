/- PRINTED BY Gen2.lean (own): the plain texts are what the machine comes to, part 2. -/
import Derived.Test.YtpfgllikhklnoaaGreatDoorRnR2
import Derived.KernelRfl
namespace YtpfgllikhklnoaaGreatDoorRnM
open Go Am
set_option maxRecDepth 100000
theorem r102_eq : K.fnK ctx 102 4 = r102 := by kernel_rfl
theorem r104_eq : K.fnK ctx 104 1 = r104 := by kernel_rfl
theorem r105_eq : K.fnK ctx 105 2 = r105 := by kernel_rfl
theorem r107_eq : K.fnK ctx 107 2 = r107 := by kernel_rfl
theorem r108_eq : K.fnK ctx 108 2 = r108 := by kernel_rfl
theorem r109_eq : K.fnK ctx 109 4 = r109 := by kernel_rfl
theorem r115_eq : K.fnK ctx 115 2 = r115 := by kernel_rfl
theorem r117_eq : K.fnK ctx 117 3 = r117 := by kernel_rfl
theorem r118_eq : K.fnK ctx 118 1 = r118 := by kernel_rfl
theorem r119_eq : K.fnK ctx 119 1 = r119 := by kernel_rfl
theorem r120_eq : K.fnK ctx 120 3 = r120 := by kernel_rfl
theorem r121_eq : K.fnK ctx 121 2 = r121 := by kernel_rfl
theorem r122_eq : K.fnK ctx 122 1 = r122 := by kernel_rfl
theorem r123_eq : K.fnK ctx 123 1 = r123 := by kernel_rfl
theorem r124_eq : K.fnK ctx 124 1 = r124 := by kernel_rfl
theorem r125_eq : K.fnK ctx 125 2 = r125 := by kernel_rfl
theorem r126_eq : K.fnK ctx 126 2 = r126 := by kernel_rfl
theorem r127_eq : K.fnK ctx 127 1 = r127 := by kernel_rfl
theorem r128_eq : K.fnK ctx 128 2 = r128 := by kernel_rfl
theorem r129_eq : K.fnK ctx 129 0 = r129 := by kernel_rfl
theorem r130_eq : K.fnK ctx 130 2 = r130 := by kernel_rfl
theorem r131_eq : K.fnK ctx 131 1 = r131 := by kernel_rfl
theorem r132_eq : K.fnK ctx 132 2 = r132 := by kernel_rfl
theorem r133_eq : K.fnK ctx 133 2 = r133 := by kernel_rfl
theorem r135_eq : K.fnK ctx 135 2 = r135 := by kernel_rfl
theorem r136_eq : K.fnK ctx 136 3 = r136 := by kernel_rfl
theorem r137_eq : K.fnK ctx 137 1 = r137 := by kernel_rfl
theorem r138_eq : K.fnK ctx 138 2 = r138 := by kernel_rfl
theorem r139_eq : K.fnK ctx 139 2 = r139 := by kernel_rfl
theorem r140_eq : K.fnK ctx 140 2 = r140 := by kernel_rfl
theorem r141_eq : K.fnK ctx 141 1 = r141 := by kernel_rfl
theorem r142_eq : K.fnK ctx 142 1 = r142 := by kernel_rfl
theorem r143_eq : K.fnK ctx 143 2 = r143 := by kernel_rfl
theorem r144_eq : K.fnK ctx 144 2 = r144 := by kernel_rfl
theorem r145_eq : K.fnK ctx 145 2 = r145 := by kernel_rfl
theorem r146_eq : K.fnK ctx 146 1 = r146 := by kernel_rfl
theorem r147_eq : K.fnK ctx 147 1 = r147 := by kernel_rfl
theorem r148_eq : K.fnK ctx 148 2 = r148 := by kernel_rfl
theorem r149_eq : K.fnK ctx 149 2 = r149 := by kernel_rfl
theorem r150_eq : K.fnK ctx 150 2 = r150 := by kernel_rfl
end YtpfgllikhklnoaaGreatDoorRnM
