/- PRINTED BY Gen2.lean (own): the plain texts are what the machine comes to, part 4. -/
import Derived.Test.YtjhcfoinldcaoaaGreatDoorWdR4
import Derived.KernelRfl
namespace YtjhcfoinldcaoaaGreatDoorWdM
open Go Am
set_option maxRecDepth 100000
theorem r234_eq : K.fnK ctx 234 1 = r234 := by kernel_rfl
theorem r238_eq : K.fnK ctx 238 2 = r238 := by kernel_rfl
theorem r240_eq : K.fnK ctx 240 2 = r240 := by kernel_rfl
theorem r241_eq : K.fnK ctx 241 3 = r241 := by kernel_rfl
theorem r245_eq : K.fnK ctx 245 2 = r245 := by kernel_rfl
theorem r246_eq : K.fnK ctx 246 0 = r246 := by kernel_rfl
theorem r247_eq : K.fnK ctx 247 2 = r247 := by kernel_rfl
theorem r248_eq : K.fnK ctx 248 1 = r248 := by kernel_rfl
theorem r249_eq : K.fnK ctx 249 1 = r249 := by kernel_rfl
theorem r250_eq : K.fnK ctx 250 3 = r250 := by kernel_rfl
theorem r251_eq : K.fnK ctx 251 2 = r251 := by kernel_rfl
theorem r252_eq : K.fnK ctx 252 1 = r252 := by kernel_rfl
theorem r253_eq : K.fnK ctx 253 2 = r253 := by kernel_rfl
theorem r255_eq : K.fnK ctx 255 2 = r255 := by kernel_rfl
theorem r283_eq : K.fnK ctx 283 3 = r283 := by kernel_rfl
theorem r284_eq : K.fnK ctx 284 3 = r284 := by kernel_rfl
theorem r290_eq : K.fnK ctx 290 2 = r290 := by kernel_rfl
theorem r314_eq : K.fnK ctx 314 3 = r314 := by kernel_rfl
theorem y1_eq : K.rndK ctx 1 = y1 := by kernel_rfl
theorem y2_eq : K.rndK ctx 2 = y2 := by kernel_rfl
theorem y3_eq : K.rndK ctx 3 = y3 := by kernel_rfl
theorem y4_eq : K.rndK ctx 4 = y4 := by kernel_rfl
theorem y5_eq : K.rndK ctx 5 = y5 := by kernel_rfl
theorem y6_eq : K.rndK ctx 6 = y6 := by kernel_rfl
end YtjhcfoinldcaoaaGreatDoorWdM
