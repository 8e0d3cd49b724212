/- PRINTED BY Gen2.lean (own): the plain texts are what the machine comes to, part 4. -/
import Derived.Test.YtpfgllikhklnoaaGreatDoorFdR4
import Derived.KernelRfl
namespace YtpfgllikhklnoaaGreatDoorFdM
open Go Am
set_option maxRecDepth 100000
theorem y2_eq : K.rndK ctx 2 = y2 := by kernel_rfl
theorem y3_eq : K.rndK ctx 3 = y3 := by kernel_rfl
theorem y4_eq : K.rndK ctx 4 = y4 := by kernel_rfl
theorem y5_eq : K.rndK ctx 5 = y5 := by kernel_rfl
theorem y6_eq : K.rndK ctx 6 = y6 := by kernel_rfl
theorem y7_eq : K.rndK ctx 7 = y7 := by kernel_rfl
theorem y8_eq : K.rndK ctx 8 = y8 := by kernel_rfl
theorem y9_eq : K.rndK ctx 9 = y9 := by kernel_rfl
theorem y10_eq : K.rndK ctx 10 = y10 := by kernel_rfl
theorem y11_eq : K.rndK ctx 11 = y11 := by kernel_rfl
end YtpfgllikhklnoaaGreatDoorFdM
