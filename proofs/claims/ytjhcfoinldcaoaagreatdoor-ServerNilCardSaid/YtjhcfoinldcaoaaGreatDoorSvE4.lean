/- PRINTED BY Gen2.lean (own): the plain texts are what the machine comes to, part 4. -/
import Derived.Test.YtjhcfoinldcaoaaGreatDoorSvR4
import Derived.KernelRfl
namespace YtjhcfoinldcaoaaGreatDoorSvM
open Go Am
set_option maxRecDepth 100000
theorem r284_eq : K.fnK ctx 284 3 = r284 := by kernel_rfl
theorem r290_eq : K.fnK ctx 290 2 = r290 := by kernel_rfl
theorem r314_eq : K.fnK ctx 314 3 = r314 := by kernel_rfl
theorem y1_eq : K.rndK ctx 1 = y1 := by kernel_rfl
theorem y2_eq : K.rndK ctx 2 = y2 := by kernel_rfl
theorem y3_eq : K.rndK ctx 3 = y3 := by kernel_rfl
theorem y4_eq : K.rndK ctx 4 = y4 := by kernel_rfl
theorem y5_eq : K.rndK ctx 5 = y5 := by kernel_rfl
end YtjhcfoinldcaoaaGreatDoorSvM
