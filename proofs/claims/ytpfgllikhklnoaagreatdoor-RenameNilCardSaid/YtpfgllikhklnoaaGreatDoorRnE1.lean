/- PRINTED BY Gen2.lean (own): the plain texts are what the machine comes to, part 1. -/
import Derived.Test.YtpfgllikhklnoaaGreatDoorRnR1
import Derived.KernelRfl
namespace YtpfgllikhklnoaaGreatDoorRnM
open Go Am
set_option maxRecDepth 100000
theorem r61_eq : K.fnK ctx 61 1 = r61 := by kernel_rfl
theorem r62_eq : K.fnK ctx 62 1 = r62 := by kernel_rfl
theorem r63_eq : K.fnK ctx 63 1 = r63 := by kernel_rfl
theorem r64_eq : K.fnK ctx 64 1 = r64 := by kernel_rfl
theorem r65_eq : K.fnK ctx 65 1 = r65 := by kernel_rfl
theorem r66_eq : K.fnK ctx 66 1 = r66 := by kernel_rfl
theorem r67_eq : K.fnK ctx 67 1 = r67 := by kernel_rfl
theorem r68_eq : K.fnK ctx 68 1 = r68 := by kernel_rfl
theorem r69_eq : K.fnK ctx 69 1 = r69 := by kernel_rfl
theorem r72_eq : K.fnK ctx 72 2 = r72 := by kernel_rfl
theorem r75_eq : K.fnK ctx 75 3 = r75 := by kernel_rfl
theorem r76_eq : K.fnK ctx 76 4 = r76 := by kernel_rfl
theorem r77_eq : K.fnK ctx 77 1 = r77 := by kernel_rfl
theorem r78_eq : K.fnK ctx 78 1 = r78 := by kernel_rfl
theorem r79_eq : K.fnK ctx 79 1 = r79 := by kernel_rfl
theorem r80_eq : K.fnK ctx 80 3 = r80 := by kernel_rfl
theorem r81_eq : K.fnK ctx 81 1 = r81 := by kernel_rfl
theorem r82_eq : K.fnK ctx 82 1 = r82 := by kernel_rfl
theorem r83_eq : K.fnK ctx 83 3 = r83 := by kernel_rfl
theorem r84_eq : K.fnK ctx 84 3 = r84 := by kernel_rfl
theorem r85_eq : K.fnK ctx 85 2 = r85 := by kernel_rfl
theorem r86_eq : K.fnK ctx 86 3 = r86 := by kernel_rfl
theorem r87_eq : K.fnK ctx 87 1 = r87 := by kernel_rfl
theorem r88_eq : K.fnK ctx 88 3 = r88 := by kernel_rfl
theorem r89_eq : K.fnK ctx 89 3 = r89 := by kernel_rfl
theorem r90_eq : K.fnK ctx 90 2 = r90 := by kernel_rfl
theorem r91_eq : K.fnK ctx 91 2 = r91 := by kernel_rfl
theorem r92_eq : K.fnK ctx 92 1 = r92 := by kernel_rfl
theorem r93_eq : K.fnK ctx 93 2 = r93 := by kernel_rfl
theorem r94_eq : K.fnK ctx 94 1 = r94 := by kernel_rfl
theorem r95_eq : K.fnK ctx 95 2 = r95 := by kernel_rfl
theorem r96_eq : K.fnK ctx 96 3 = r96 := by kernel_rfl
theorem r97_eq : K.fnK ctx 97 1 = r97 := by kernel_rfl
theorem r98_eq : K.fnK ctx 98 3 = r98 := by kernel_rfl
theorem r99_eq : K.fnK ctx 99 3 = r99 := by kernel_rfl
end YtpfgllikhklnoaaGreatDoorRnM
