/- PRINTED BY Gen2.lean (own): the plain texts are what the machine comes to, part 5. -/
import Derived.Test.YtlmgehjkbgaknaaGreatDoorPlR5
import Derived.KernelRfl
namespace YtlmgehjkbgaknaaGreatDoorPlM
open Go Am
set_option maxRecDepth 100000
theorem y8_eq : K.rndK ctx 8 = y8 := by kernel_rfl
theorem y9_eq : K.rndK ctx 9 = y9 := by kernel_rfl
theorem y10_eq : K.rndK ctx 10 = y10 := by kernel_rfl
end YtlmgehjkbgaknaaGreatDoorPlM
