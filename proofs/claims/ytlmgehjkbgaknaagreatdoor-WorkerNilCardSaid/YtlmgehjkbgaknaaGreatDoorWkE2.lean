/- PRINTED BY Gen2.lean (own): the plain texts are what the machine comes to, part 2. -/
import Derived.Test.YtlmgehjkbgaknaaGreatDoorWkR2
import Derived.KernelRfl
namespace YtlmgehjkbgaknaaGreatDoorWkM
open Go Am
set_option maxRecDepth 100000
theorem r162_eq : K.fnK ctx 162 3 = r162 := by kernel_rfl
theorem r163_eq : K.fnK ctx 163 2 = r163 := by kernel_rfl
theorem r165_eq : K.fnK ctx 165 2 = r165 := by kernel_rfl
theorem r166_eq : K.fnK ctx 166 1 = r166 := by kernel_rfl
theorem r167_eq : K.fnK ctx 167 4 = r167 := by kernel_rfl
theorem r168_eq : K.fnK ctx 168 3 = r168 := by kernel_rfl
theorem r169_eq : K.fnK ctx 169 1 = r169 := by kernel_rfl
theorem r170_eq : K.fnK ctx 170 2 = r170 := by kernel_rfl
theorem r171_eq : K.fnK ctx 171 1 = r171 := by kernel_rfl
theorem r172_eq : K.fnK ctx 172 1 = r172 := by kernel_rfl
theorem r173_eq : K.fnK ctx 173 1 = r173 := by kernel_rfl
theorem r174_eq : K.fnK ctx 174 2 = r174 := by kernel_rfl
theorem r190_eq : K.fnK ctx 190 2 = r190 := by kernel_rfl
theorem r191_eq : K.fnK ctx 191 5 = r191 := by kernel_rfl
theorem r192_eq : K.fnK ctx 192 3 = r192 := by kernel_rfl
theorem r250_eq : K.fnK ctx 250 2 = r250 := by kernel_rfl
theorem r252_eq : K.fnK ctx 252 2 = r252 := by kernel_rfl
theorem r253_eq : K.fnK ctx 253 4 = r253 := by kernel_rfl
theorem r254_eq : K.fnK ctx 254 1 = r254 := by kernel_rfl
theorem r255_eq : K.fnK ctx 255 2 = r255 := by kernel_rfl
theorem r256_eq : K.fnK ctx 256 2 = r256 := by kernel_rfl
theorem r257_eq : K.fnK ctx 257 1 = r257 := by kernel_rfl
theorem r258_eq : K.fnK ctx 258 2 = r258 := by kernel_rfl
theorem r259_eq : K.fnK ctx 259 1 = r259 := by kernel_rfl
theorem r260_eq : K.fnK ctx 260 3 = r260 := by kernel_rfl
theorem r261_eq : K.fnK ctx 261 3 = r261 := by kernel_rfl
theorem r262_eq : K.fnK ctx 262 1 = r262 := by kernel_rfl
theorem r263_eq : K.fnK ctx 263 2 = r263 := by kernel_rfl
theorem r265_eq : K.fnK ctx 265 1 = r265 := by kernel_rfl
theorem r272_eq : K.fnK ctx 272 1 = r272 := by kernel_rfl
end YtlmgehjkbgaknaaGreatDoorWkM
