/- PRINTED BY Gen2.lean (own): the plain texts are what the machine comes to, part 4. -/
import Derived.Test.YtlmgehjkbgaknaaGreatDoorPlR4
import Derived.KernelRfl
namespace YtlmgehjkbgaknaaGreatDoorPlM
open Go Am
set_option maxRecDepth 100000
theorem r293_eq : K.fnK ctx 293 1 = r293 := by kernel_rfl
theorem r295_eq : K.fnK ctx 295 2 = r295 := by kernel_rfl
theorem r296_eq : K.fnK ctx 296 2 = r296 := by kernel_rfl
theorem r297_eq : K.fnK ctx 297 2 = r297 := by kernel_rfl
theorem r307_eq : K.fnK ctx 307 2 = r307 := by kernel_rfl
theorem r322_eq : K.fnK ctx 322 0 = r322 := by kernel_rfl
theorem r323_eq : K.fnK ctx 323 2 = r323 := by kernel_rfl
theorem r324_eq : K.fnK ctx 324 1 = r324 := by kernel_rfl
theorem r325_eq : K.fnK ctx 325 1 = r325 := by kernel_rfl
theorem r333_eq : K.fnK ctx 333 2 = r333 := by kernel_rfl
theorem r334_eq : K.fnK ctx 334 2 = r334 := by kernel_rfl
theorem r337_eq : K.fnK ctx 337 1 = r337 := by kernel_rfl
theorem r340_eq : K.fnK ctx 340 3 = r340 := by kernel_rfl
theorem r341_eq : K.fnK ctx 341 2 = r341 := by kernel_rfl
theorem r342_eq : K.fnK ctx 342 2 = r342 := by kernel_rfl
theorem r343_eq : K.fnK ctx 343 2 = r343 := by kernel_rfl
theorem r344_eq : K.fnK ctx 344 2 = r344 := by kernel_rfl
theorem r345_eq : K.fnK ctx 345 1 = r345 := by kernel_rfl
theorem r346_eq : K.fnK ctx 346 2 = r346 := by kernel_rfl
theorem r347_eq : K.fnK ctx 347 1 = r347 := by kernel_rfl
theorem r348_eq : K.fnK ctx 348 2 = r348 := by kernel_rfl
theorem r349_eq : K.fnK ctx 349 2 = r349 := by kernel_rfl
theorem r350_eq : K.fnK ctx 350 1 = r350 := by kernel_rfl
theorem r352_eq : K.fnK ctx 352 1 = r352 := by kernel_rfl
theorem r362_eq : K.fnK ctx 362 2 = r362 := by kernel_rfl
theorem r365_eq : K.fnK ctx 365 2 = r365 := by kernel_rfl
theorem r366_eq : K.fnK ctx 366 2 = r366 := by kernel_rfl
theorem r367_eq : K.fnK ctx 367 2 = r367 := by kernel_rfl
theorem r369_eq : K.fnK ctx 369 1 = r369 := by kernel_rfl
theorem r370_eq : K.fnK ctx 370 1 = r370 := by kernel_rfl
theorem r371_eq : K.fnK ctx 371 1 = r371 := by kernel_rfl
theorem r372_eq : K.fnK ctx 372 2 = r372 := by kernel_rfl
theorem r375_eq : K.fnK ctx 375 2 = r375 := by kernel_rfl
theorem r377_eq : K.fnK ctx 377 1 = r377 := by kernel_rfl
theorem r380_eq : K.fnK ctx 380 2 = r380 := by kernel_rfl
theorem r381_eq : K.fnK ctx 381 1 = r381 := by kernel_rfl
theorem r382_eq : K.fnK ctx 382 2 = r382 := by kernel_rfl
theorem r386_eq : K.fnK ctx 386 2 = r386 := by kernel_rfl
theorem y1_eq : K.rndK ctx 1 = y1 := by kernel_rfl
theorem y2_eq : K.rndK ctx 2 = y2 := by kernel_rfl
theorem y3_eq : K.rndK ctx 3 = y3 := by kernel_rfl
theorem y4_eq : K.rndK ctx 4 = y4 := by kernel_rfl
theorem y5_eq : K.rndK ctx 5 = y5 := by kernel_rfl
theorem y6_eq : K.rndK ctx 6 = y6 := by kernel_rfl
theorem y7_eq : K.rndK ctx 7 = y7 := by kernel_rfl
end YtlmgehjkbgaknaaGreatDoorPlM
