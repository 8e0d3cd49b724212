/- PRINTED BY Gen2.lean (own): the plain texts are what the machine comes to, part 3. -/
import Derived.Test.YtjhcfoinldcaoaaGreatDoorSvR3
import Derived.KernelRfl
namespace YtjhcfoinldcaoaaGreatDoorSvM
open Go Am
set_option maxRecDepth 100000
theorem r157_eq : K.fnK ctx 157 3 = r157 := by kernel_rfl
theorem r158_eq : K.fnK ctx 158 1 = r158 := by kernel_rfl
theorem r159_eq : K.fnK ctx 159 2 = r159 := by kernel_rfl
theorem r160_eq : K.fnK ctx 160 1 = r160 := by kernel_rfl
theorem r161_eq : K.fnK ctx 161 2 = r161 := by kernel_rfl
theorem r162_eq : K.fnK ctx 162 1 = r162 := by kernel_rfl
theorem r163_eq : K.fnK ctx 163 1 = r163 := by kernel_rfl
theorem r164_eq : K.fnK ctx 164 5 = r164 := by kernel_rfl
theorem r173_eq : K.fnK ctx 173 2 = r173 := by kernel_rfl
theorem r174_eq : K.fnK ctx 174 3 = r174 := by kernel_rfl
theorem r180_eq : K.fnK ctx 180 2 = r180 := by kernel_rfl
theorem r184_eq : K.fnK ctx 184 1 = r184 := by kernel_rfl
theorem r185_eq : K.fnK ctx 185 2 = r185 := by kernel_rfl
theorem r189_eq : K.fnK ctx 189 1 = r189 := by kernel_rfl
theorem r191_eq : K.fnK ctx 191 3 = r191 := by kernel_rfl
theorem r192_eq : K.fnK ctx 192 3 = r192 := by kernel_rfl
theorem r195_eq : K.fnK ctx 195 2 = r195 := by kernel_rfl
theorem r196_eq : K.fnK ctx 196 1 = r196 := by kernel_rfl
theorem r197_eq : K.fnK ctx 197 2 = r197 := by kernel_rfl
theorem r198_eq : K.fnK ctx 198 1 = r198 := by kernel_rfl
theorem r199_eq : K.fnK ctx 199 3 = r199 := by kernel_rfl
theorem r200_eq : K.fnK ctx 200 3 = r200 := by kernel_rfl
theorem r201_eq : K.fnK ctx 201 1 = r201 := by kernel_rfl
theorem r202_eq : K.fnK ctx 202 2 = r202 := by kernel_rfl
theorem r204_eq : K.fnK ctx 204 1 = r204 := by kernel_rfl
theorem r234_eq : K.fnK ctx 234 1 = r234 := by kernel_rfl
theorem r238_eq : K.fnK ctx 238 2 = r238 := by kernel_rfl
theorem r240_eq : K.fnK ctx 240 2 = r240 := by kernel_rfl
theorem r241_eq : K.fnK ctx 241 3 = r241 := by kernel_rfl
theorem r245_eq : K.fnK ctx 245 2 = r245 := by kernel_rfl
theorem r246_eq : K.fnK ctx 246 0 = r246 := by kernel_rfl
theorem r247_eq : K.fnK ctx 247 2 = r247 := by kernel_rfl
theorem r248_eq : K.fnK ctx 248 1 = r248 := by kernel_rfl
theorem r249_eq : K.fnK ctx 249 1 = r249 := by kernel_rfl
theorem r250_eq : K.fnK ctx 250 3 = r250 := by kernel_rfl
theorem r251_eq : K.fnK ctx 251 2 = r251 := by kernel_rfl
theorem r252_eq : K.fnK ctx 252 1 = r252 := by kernel_rfl
theorem r253_eq : K.fnK ctx 253 2 = r253 := by kernel_rfl
theorem r254_eq : K.fnK ctx 254 2 = r254 := by kernel_rfl
theorem r283_eq : K.fnK ctx 283 3 = r283 := by kernel_rfl
end YtjhcfoinldcaoaaGreatDoorSvM
