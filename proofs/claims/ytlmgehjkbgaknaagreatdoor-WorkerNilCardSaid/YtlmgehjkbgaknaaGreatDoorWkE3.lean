/- PRINTED BY Gen2.lean (own): the plain texts are what the machine comes to, part 3. -/
import Derived.Test.YtlmgehjkbgaknaaGreatDoorWkR3
import Derived.KernelRfl
namespace YtlmgehjkbgaknaaGreatDoorWkM
open Go Am
set_option maxRecDepth 100000
theorem r311_eq : K.fnK ctx 311 3 = r311 := by kernel_rfl
theorem r317_eq : K.fnK ctx 317 2 = r317 := by kernel_rfl
theorem r321_eq : K.fnK ctx 321 2 = r321 := by kernel_rfl
theorem r322_eq : K.fnK ctx 322 0 = r322 := by kernel_rfl
theorem r323_eq : K.fnK ctx 323 2 = r323 := by kernel_rfl
theorem r324_eq : K.fnK ctx 324 1 = r324 := by kernel_rfl
theorem r325_eq : K.fnK ctx 325 1 = r325 := by kernel_rfl
theorem r326_eq : K.fnK ctx 326 3 = r326 := by kernel_rfl
theorem r327_eq : K.fnK ctx 327 2 = r327 := by kernel_rfl
theorem r328_eq : K.fnK ctx 328 1 = r328 := by kernel_rfl
theorem r329_eq : K.fnK ctx 329 2 = r329 := by kernel_rfl
theorem r330_eq : K.fnK ctx 330 2 = r330 := by kernel_rfl
theorem r331_eq : K.fnK ctx 331 1 = r331 := by kernel_rfl
theorem r332_eq : K.fnK ctx 332 2 = r332 := by kernel_rfl
theorem r361_eq : K.fnK ctx 361 1 = r361 := by kernel_rfl
theorem r362_eq : K.fnK ctx 362 2 = r362 := by kernel_rfl
theorem r363_eq : K.fnK ctx 363 1 = r363 := by kernel_rfl
theorem y1_eq : K.rndK ctx 1 = y1 := by kernel_rfl
theorem y2_eq : K.rndK ctx 2 = y2 := by kernel_rfl
theorem y3_eq : K.rndK ctx 3 = y3 := by kernel_rfl
theorem y4_eq : K.rndK ctx 4 = y4 := by kernel_rfl
theorem y5_eq : K.rndK ctx 5 = y5 := by kernel_rfl
end YtlmgehjkbgaknaaGreatDoorWkM
