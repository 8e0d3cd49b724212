/- PRINTED BY Gen2.lean (own): the plain texts are what the machine comes to, part 3. -/
import Derived.Test.YthlpjeoddenioaaGreatDoorSfR3
import Derived.Test.YthlpjeoddenioaaGreatDoorA5
import Derived.KernelRfl
namespace YthlpjeoddenioaaGreatDoorSfM
open Go Am
set_option maxRecDepth 100000
theorem r109_eq : K.fnK ctx 109 2 = r109 := by kernel_rfl
theorem r110_eq : K.fnK ctx 110 1 = r110 := by kernel_rfl
theorem r111_eq : K.fnK ctx 111 4 = r111 := by kernel_rfl
theorem r112_eq : K.fnK ctx 112 3 = r112 := by kernel_rfl
theorem r113_eq : K.fnK ctx 113 1 = r113 := by kernel_rfl
theorem r114_eq : K.fnK ctx 114 2 = r114 := by kernel_rfl
theorem r115_eq : K.fnK ctx 115 1 = r115 := by kernel_rfl
theorem r116_eq : K.fnK ctx 116 1 = r116 := by kernel_rfl
theorem r117_eq : K.fnK ctx 117 1 = r117 := by kernel_rfl
theorem r118_eq : K.fnK ctx 118 2 = r118 := by kernel_rfl
theorem r123_eq : K.fnK ctx 123 2 = r123 := by kernel_rfl
theorem r124_eq : K.fnK ctx 124 4 = r124 := by kernel_rfl
theorem r125_eq : K.fnK ctx 125 1 = r125 := by kernel_rfl
theorem r126_eq : K.fnK ctx 126 1 = r126 := by kernel_rfl
theorem r127_eq : K.fnK ctx 127 1 = r127 := by kernel_rfl
theorem r128_eq : K.fnK ctx 128 5 = r128 := by kernel_rfl
theorem r129_eq : K.fnK ctx 129 2 = r129 := by kernel_rfl
theorem r133_eq : K.fnK ctx 133 1 = r133 := by kernel_rfl
theorem r135_eq : K.fnK ctx 135 3 = r135 := by kernel_rfl
theorem r136_eq : K.fnK ctx 136 3 = r136 := by kernel_rfl
theorem r139_eq : K.fnK ctx 139 2 = r139 := by kernel_rfl
theorem r140_eq : K.fnK ctx 140 1 = r140 := by kernel_rfl
theorem r141_eq : K.fnK ctx 141 2 = r141 := by kernel_rfl
theorem r142_eq : K.fnK ctx 142 1 = r142 := by kernel_rfl
theorem r143_eq : K.fnK ctx 143 3 = r143 := by kernel_rfl
theorem r144N_eq (N : Nat) : K.fnKN N ctx 144 3 = r144N N := by kernel_rfl
theorem r144_eq : K.fnK ctx 144 3 = r144 := (K.fnKN_eq ctx 144 3).trans (r144N_eq 1000000)
theorem r145_eq : K.fnK ctx 145 1 = r145 := by kernel_rfl
theorem r146_eq : K.fnK ctx 146 2 = r146 := by kernel_rfl
theorem r148_eq : K.fnK ctx 148 1 = r148 := by kernel_rfl
theorem r156_eq : K.fnK ctx 156 2 = r156 := by kernel_rfl
theorem r157N_eq (N : Nat) : K.fnKN N ctx 157 3 = r157N N := by kernel_rfl
theorem r157_eq : K.fnK ctx 157 3 = r157 := (K.fnKN_eq ctx 157 3).trans (r157N_eq 1000000)
theorem r163_eq : K.fnK ctx 163 2 = r163 := by kernel_rfl
end YthlpjeoddenioaaGreatDoorSfM
