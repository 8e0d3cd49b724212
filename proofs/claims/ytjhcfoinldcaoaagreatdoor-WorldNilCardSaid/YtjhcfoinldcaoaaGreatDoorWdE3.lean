/- PRINTED BY Gen2.lean (own): the plain texts are what the machine comes to, part 3. -/
import Derived.Test.YtjhcfoinldcaoaaGreatDoorWdR3
import Derived.KernelRfl
namespace YtjhcfoinldcaoaaGreatDoorWdM
open Go Am
set_option maxRecDepth 100000
theorem r145_eq : K.fnK ctx 145 4 = r145 := by kernel_rfl
theorem r146_eq : K.fnK ctx 146 1 = r146 := by kernel_rfl
theorem r147_eq : K.fnK ctx 147 3 = r147 := by kernel_rfl
theorem r148_eq : K.fnK ctx 148 2 = r148 := by kernel_rfl
theorem r152_eq : K.fnK ctx 152 3 = r152 := by kernel_rfl
theorem r154_eq : K.fnK ctx 154 2 = r154 := by kernel_rfl
theorem r155_eq : K.fnK ctx 155 1 = r155 := by kernel_rfl
theorem r156_eq : K.fnK ctx 156 4 = r156 := by kernel_rfl
theorem r157_eq : K.fnK ctx 157 3 = r157 := by kernel_rfl
theorem r158_eq : K.fnK ctx 158 1 = r158 := by kernel_rfl
theorem r159_eq : K.fnK ctx 159 2 = r159 := by kernel_rfl
theorem r160_eq : K.fnK ctx 160 1 = r160 := by kernel_rfl
theorem r162_eq : K.fnK ctx 162 1 = r162 := by kernel_rfl
theorem r163_eq : K.fnK ctx 163 1 = r163 := by kernel_rfl
theorem r164_eq : K.fnK ctx 164 5 = r164 := by kernel_rfl
theorem r165_eq : K.fnK ctx 165 1 = r165 := by kernel_rfl
theorem r173_eq : K.fnK ctx 173 2 = r173 := by kernel_rfl
theorem r174_eq : K.fnK ctx 174 3 = r174 := by kernel_rfl
theorem r180_eq : K.fnK ctx 180 2 = r180 := by kernel_rfl
theorem r184_eq : K.fnK ctx 184 1 = r184 := by kernel_rfl
theorem r185_eq : K.fnK ctx 185 2 = r185 := by kernel_rfl
theorem r189_eq : K.fnK ctx 189 1 = r189 := by kernel_rfl
theorem r191_eq : K.fnK ctx 191 3 = r191 := by kernel_rfl
theorem r192_eq : K.fnK ctx 192 3 = r192 := by kernel_rfl
theorem r195_eq : K.fnK ctx 195 2 = r195 := by kernel_rfl
theorem r196_eq : K.fnK ctx 196 1 = r196 := by kernel_rfl
theorem r197_eq : K.fnK ctx 197 2 = r197 := by kernel_rfl
theorem r198_eq : K.fnK ctx 198 1 = r198 := by kernel_rfl
theorem r199_eq : K.fnK ctx 199 3 = r199 := by kernel_rfl
theorem r200_eq : K.fnK ctx 200 3 = r200 := by kernel_rfl
theorem r201_eq : K.fnK ctx 201 1 = r201 := by kernel_rfl
theorem r205_eq : K.fnK ctx 205 2 = r205 := by kernel_rfl
theorem r206_eq : K.fnK ctx 206 2 = r206 := by kernel_rfl
end YtjhcfoinldcaoaaGreatDoorWdM
