/- PRINTED BY Gen2.lean (own): the plain texts are what the machine comes to, part 1. -/
import Derived.Test.YtpfgllikhklnoaaGreatDoorNmR1
import Derived.KernelRfl
namespace YtpfgllikhklnoaaGreatDoorNmM
open Go Am
set_option maxRecDepth 100000
theorem r39_eq : K.fnK ctx 39 3 = r39 := by kernel_rfl
theorem r40_eq : K.fnK ctx 40 3 = r40 := by kernel_rfl
theorem r41_eq : K.fnK ctx 41 5 = r41 := by kernel_rfl
theorem r42_eq : K.fnK ctx 42 4 = r42 := by kernel_rfl
theorem r43_eq : K.fnK ctx 43 3 = r43 := by kernel_rfl
theorem r44_eq : K.fnK ctx 44 2 = r44 := by kernel_rfl
theorem r45_eq : K.fnK ctx 45 2 = r45 := by kernel_rfl
theorem r46_eq : K.fnK ctx 46 2 = r46 := by kernel_rfl
theorem r47_eq : K.fnK ctx 47 4 = r47 := by kernel_rfl
theorem r48_eq : K.fnK ctx 48 3 = r48 := by kernel_rfl
theorem r49_eq : K.fnK ctx 49 4 = r49 := by kernel_rfl
theorem r50_eq : K.fnK ctx 50 3 = r50 := by kernel_rfl
theorem r51_eq : K.fnK ctx 51 3 = r51 := by kernel_rfl
theorem r52_eq : K.fnK ctx 52 1 = r52 := by kernel_rfl
theorem r53_eq : K.fnK ctx 53 2 = r53 := by kernel_rfl
theorem r54_eq : K.fnK ctx 54 3 = r54 := by kernel_rfl
theorem r55_eq : K.fnK ctx 55 3 = r55 := by kernel_rfl
theorem r56_eq : K.fnK ctx 56 3 = r56 := by kernel_rfl
theorem r57_eq : K.fnK ctx 57 2 = r57 := by kernel_rfl
theorem r72_eq : K.fnK ctx 72 2 = r72 := by kernel_rfl
theorem r75_eq : K.fnK ctx 75 3 = r75 := by kernel_rfl
theorem r76_eq : K.fnK ctx 76 4 = r76 := by kernel_rfl
theorem r77_eq : K.fnK ctx 77 1 = r77 := by kernel_rfl
theorem r78_eq : K.fnK ctx 78 1 = r78 := by kernel_rfl
theorem r79_eq : K.fnK ctx 79 1 = r79 := by kernel_rfl
theorem r80_eq : K.fnK ctx 80 3 = r80 := by kernel_rfl
theorem r81_eq : K.fnK ctx 81 1 = r81 := by kernel_rfl
theorem r82_eq : K.fnK ctx 82 1 = r82 := by kernel_rfl
theorem r83_eq : K.fnK ctx 83 3 = r83 := by kernel_rfl
theorem r84_eq : K.fnK ctx 84 3 = r84 := by kernel_rfl
theorem r85_eq : K.fnK ctx 85 2 = r85 := by kernel_rfl
theorem r86_eq : K.fnK ctx 86 3 = r86 := by kernel_rfl
theorem r87_eq : K.fnK ctx 87 1 = r87 := by kernel_rfl
theorem r88_eq : K.fnK ctx 88 3 = r88 := by kernel_rfl
theorem r89_eq : K.fnK ctx 89 3 = r89 := by kernel_rfl
theorem r90_eq : K.fnK ctx 90 2 = r90 := by kernel_rfl
theorem r91_eq : K.fnK ctx 91 2 = r91 := by kernel_rfl
theorem r92_eq : K.fnK ctx 92 1 = r92 := by kernel_rfl
end YtpfgllikhklnoaaGreatDoorNmM
