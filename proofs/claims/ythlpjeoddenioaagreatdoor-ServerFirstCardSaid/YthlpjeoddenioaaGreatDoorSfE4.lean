/- PRINTED BY Gen2.lean (own): the plain texts are what the machine comes to, part 4. -/
import Derived.Test.YthlpjeoddenioaaGreatDoorSfR4
import Derived.Test.YthlpjeoddenioaaGreatDoorA5
import Derived.KernelRfl
namespace YthlpjeoddenioaaGreatDoorSfM
open Go Am
set_option maxRecDepth 100000
theorem r167_eq : K.fnK ctx 167 1 = r167 := by kernel_rfl
theorem r171_eq : K.fnK ctx 171 2 = r171 := by kernel_rfl
theorem r173_eq : K.fnK ctx 173 2 = r173 := by kernel_rfl
theorem r174_eq : K.fnK ctx 174 3 = r174 := by kernel_rfl
theorem r175N_eq (N : Nat) : K.fnKN N ctx 175 2 = r175N N := by kernel_rfl
theorem r175_eq : K.fnK ctx 175 2 = r175 := (K.fnKN_eq ctx 175 2).trans (r175N_eq 1000000)
theorem r178_eq : K.fnK ctx 178 2 = r178 := by kernel_rfl
theorem r179_eq : K.fnK ctx 179 0 = r179 := by kernel_rfl
theorem r180_eq : K.fnK ctx 180 2 = r180 := by kernel_rfl
theorem r181_eq : K.fnK ctx 181 1 = r181 := by kernel_rfl
theorem r182_eq : K.fnK ctx 182 1 = r182 := by kernel_rfl
theorem r183_eq : K.fnK ctx 183 3 = r183 := by kernel_rfl
theorem r184_eq : K.fnK ctx 184 2 = r184 := by kernel_rfl
theorem r185N_eq (N : Nat) : K.fnKN N ctx 185 1 = r185N N := by kernel_rfl
theorem r185_eq : K.fnK ctx 185 1 = r185 := (K.fnKN_eq ctx 185 1).trans (r185N_eq 1000000)
theorem r186_eq : K.fnK ctx 186 2 = r186 := by kernel_rfl
theorem r187_eq : K.fnK ctx 187 2 = r187 := by kernel_rfl
theorem r188_eq : K.fnK ctx 188 1 = r188 := by kernel_rfl
theorem r189_eq : K.fnK ctx 189 2 = r189 := by kernel_rfl
theorem r217_eq : K.fnK ctx 217 1 = r217 := by kernel_rfl
theorem r231_eq : K.fnK ctx 231 3 = r231 := by kernel_rfl
theorem r232_eq : K.fnK ctx 232 3 = r232 := by kernel_rfl
theorem r239_eq : K.fnK ctx 239 2 = r239 := by kernel_rfl
theorem r240_eq : K.fnK ctx 240 1 = r240 := by kernel_rfl
theorem r270_eq : K.fnK ctx 270 3 = r270 := by kernel_rfl
theorem y1_eq : K.rndK ctx 1 = y1 := by kernel_rfl
theorem y2_eq : K.rndK ctx 2 = y2 := by kernel_rfl
theorem y3_eq : K.rndK ctx 3 = y3 := by kernel_rfl
theorem y4_eq : K.rndK ctx 4 = y4 := by kernel_rfl
theorem y5_eq : K.rndK ctx 5 = y5 := by kernel_rfl
end YthlpjeoddenioaaGreatDoorSfM
