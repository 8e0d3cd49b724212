/- PRINTED BY Gen2.lean (own): the plain texts are what the machine comes to, part 3. -/
import Derived.Test.YtlmgehjkbgaknaaGreatDoorPlR3
import Derived.KernelRfl
namespace YtlmgehjkbgaknaaGreatDoorPlM
open Go Am
set_option maxRecDepth 100000
theorem r214_eq : K.fnK ctx 214 4 = r214 := by kernel_rfl
theorem r215_eq : K.fnK ctx 215 5 = r215 := by kernel_rfl
theorem r216_eq : K.fnK ctx 216 4 = r216 := by kernel_rfl
theorem r221_eq : K.fnK ctx 221 2 = r221 := by kernel_rfl
theorem r225_eq : K.fnK ctx 225 2 = r225 := by kernel_rfl
theorem r227_eq : K.fnK ctx 227 2 = r227 := by kernel_rfl
theorem r245_eq : K.fnK ctx 245 3 = r245 := by kernel_rfl
theorem r246_eq : K.fnK ctx 246 1 = r246 := by kernel_rfl
theorem r247_eq : K.fnK ctx 247 2 = r247 := by kernel_rfl
theorem r259_eq : K.fnK ctx 259 1 = r259 := by kernel_rfl
theorem r266_eq : K.fnK ctx 266 3 = r266 := by kernel_rfl
theorem r267_eq : K.fnK ctx 267 2 = r267 := by kernel_rfl
theorem r268_eq : K.fnK ctx 268 4 = r268 := by kernel_rfl
theorem r269_eq : K.fnK ctx 269 2 = r269 := by kernel_rfl
theorem r270_eq : K.fnK ctx 270 3 = r270 := by kernel_rfl
theorem r271_eq : K.fnK ctx 271 3 = r271 := by kernel_rfl
theorem r272_eq : K.fnK ctx 272 1 = r272 := by kernel_rfl
theorem r273_eq : K.fnK ctx 273 2 = r273 := by kernel_rfl
theorem r274_eq : K.fnK ctx 274 1 = r274 := by kernel_rfl
theorem r275_eq : K.fnK ctx 275 1 = r275 := by kernel_rfl
theorem r278_eq : K.fnK ctx 278 3 = r278 := by kernel_rfl
theorem r279_eq : K.fnK ctx 279 3 = r279 := by kernel_rfl
theorem r281_eq : K.fnK ctx 281 2 = r281 := by kernel_rfl
theorem r282_eq : K.fnK ctx 282 1 = r282 := by kernel_rfl
theorem r283_eq : K.fnK ctx 283 1 = r283 := by kernel_rfl
theorem r284_eq : K.fnK ctx 284 4 = r284 := by kernel_rfl
theorem r285_eq : K.fnK ctx 285 3 = r285 := by kernel_rfl
theorem r286_eq : K.fnK ctx 286 3 = r286 := by kernel_rfl
theorem r287_eq : K.fnK ctx 287 1 = r287 := by kernel_rfl
theorem r288_eq : K.fnK ctx 288 3 = r288 := by kernel_rfl
theorem r289_eq : K.fnK ctx 289 2 = r289 := by kernel_rfl
theorem r290_eq : K.fnK ctx 290 2 = r290 := by kernel_rfl
theorem r291_eq : K.fnK ctx 291 2 = r291 := by kernel_rfl
end YtlmgehjkbgaknaaGreatDoorPlM
