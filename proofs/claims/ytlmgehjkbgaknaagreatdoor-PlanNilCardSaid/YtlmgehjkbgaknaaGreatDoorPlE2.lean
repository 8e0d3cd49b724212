/- PRINTED BY Gen2.lean (own): the plain texts are what the machine comes to, part 2. -/
import Derived.Test.YtlmgehjkbgaknaaGreatDoorPlR2
import Derived.KernelRfl
namespace YtlmgehjkbgaknaaGreatDoorPlM
open Go Am
set_option maxRecDepth 100000
theorem r124_eq : K.fnK ctx 124 3 = r124 := by kernel_rfl
theorem r125_eq : K.fnK ctx 125 2 = r125 := by kernel_rfl
theorem r126_eq : K.fnK ctx 126 1 = r126 := by kernel_rfl
theorem r127_eq : K.fnK ctx 127 2 = r127 := by kernel_rfl
theorem r128_eq : K.fnK ctx 128 3 = r128 := by kernel_rfl
theorem r130_eq : K.fnK ctx 130 3 = r130 := by kernel_rfl
theorem r131_eq : K.fnK ctx 131 4 = r131 := by kernel_rfl
theorem r133_eq : K.fnK ctx 133 0 = r133 := by kernel_rfl
theorem r134_eq : K.fnK ctx 134 3 = r134 := by kernel_rfl
theorem r135_eq : K.fnK ctx 135 4 = r135 := by kernel_rfl
theorem r137_eq : K.fnK ctx 137 4 = r137 := by kernel_rfl
theorem r175_eq : K.fnK ctx 175 1 = r175 := by kernel_rfl
theorem r176_eq : K.fnK ctx 176 2 = r176 := by kernel_rfl
theorem r177_eq : K.fnK ctx 177 1 = r177 := by kernel_rfl
theorem r178_eq : K.fnK ctx 178 2 = r178 := by kernel_rfl
theorem r179_eq : K.fnK ctx 179 1 = r179 := by kernel_rfl
theorem r182_eq : K.fnK ctx 182 1 = r182 := by kernel_rfl
theorem r183_eq : K.fnK ctx 183 1 = r183 := by kernel_rfl
theorem r186_eq : K.fnK ctx 186 2 = r186 := by kernel_rfl
theorem r187_eq : K.fnK ctx 187 2 = r187 := by kernel_rfl
theorem r188_eq : K.fnK ctx 188 2 = r188 := by kernel_rfl
theorem r189_eq : K.fnK ctx 189 1 = r189 := by kernel_rfl
theorem r190_eq : K.fnK ctx 190 2 = r190 := by kernel_rfl
theorem r191_eq : K.fnK ctx 191 5 = r191 := by kernel_rfl
theorem r192_eq : K.fnK ctx 192 3 = r192 := by kernel_rfl
theorem r193_eq : K.fnK ctx 193 3 = r193 := by kernel_rfl
theorem r194_eq : K.fnK ctx 194 2 = r194 := by kernel_rfl
theorem r195_eq : K.fnK ctx 195 3 = r195 := by kernel_rfl
theorem r196_eq : K.fnK ctx 196 1 = r196 := by kernel_rfl
theorem r197_eq : K.fnK ctx 197 2 = r197 := by kernel_rfl
theorem r198_eq : K.fnK ctx 198 3 = r198 := by kernel_rfl
theorem r199_eq : K.fnK ctx 199 1 = r199 := by kernel_rfl
theorem r205_eq : K.fnK ctx 205 2 = r205 := by kernel_rfl
theorem r207_eq : K.fnK ctx 207 2 = r207 := by kernel_rfl
theorem r208_eq : K.fnK ctx 208 1 = r208 := by kernel_rfl
theorem r209_eq : K.fnK ctx 209 2 = r209 := by kernel_rfl
theorem r210_eq : K.fnK ctx 210 3 = r210 := by kernel_rfl
theorem r211_eq : K.fnK ctx 211 3 = r211 := by kernel_rfl
theorem r212_eq : K.fnK ctx 212 1 = r212 := by kernel_rfl
theorem r213_eq : K.fnK ctx 213 4 = r213 := by kernel_rfl
end YtlmgehjkbgaknaaGreatDoorPlM
