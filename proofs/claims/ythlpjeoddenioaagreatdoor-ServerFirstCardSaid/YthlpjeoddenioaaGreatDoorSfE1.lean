/- PRINTED BY Gen2.lean (own): the plain texts are what the machine comes to, part 1. -/
import Derived.Test.YthlpjeoddenioaaGreatDoorSfR1
import Derived.Test.YthlpjeoddenioaaGreatDoorA5
import Derived.KernelRfl
namespace YthlpjeoddenioaaGreatDoorSfM
open Go Am
set_option maxRecDepth 100000
theorem r26_eq : K.fnK ctx 26 1 = r26 := by kernel_rfl
theorem r27_eq : K.fnK ctx 27 3 = r27 := by kernel_rfl
theorem r28_eq : K.fnK ctx 28 2 = r28 := by kernel_rfl
theorem r29_eq : K.fnK ctx 29 1 = r29 := by kernel_rfl
theorem r30_eq : K.fnK ctx 30 1 = r30 := by kernel_rfl
theorem r31_eq : K.fnK ctx 31 1 = r31 := by kernel_rfl
theorem r32_eq : K.fnK ctx 32 1 = r32 := by kernel_rfl
theorem r33_eq : K.fnK ctx 33 2 = r33 := by kernel_rfl
theorem r34_eq : K.fnK ctx 34 2 = r34 := by kernel_rfl
theorem r35_eq : K.fnK ctx 35 1 = r35 := by kernel_rfl
theorem r36_eq : K.fnK ctx 36 1 = r36 := by kernel_rfl
theorem r37_eq : K.fnK ctx 37 2 = r37 := by kernel_rfl
theorem r38_eq : K.fnK ctx 38 2 = r38 := by kernel_rfl
theorem r39_eq : K.fnK ctx 39 2 = r39 := by kernel_rfl
theorem r40_eq : K.fnK ctx 40 4 = r40 := by kernel_rfl
theorem r41_eq : K.fnK ctx 41 1 = r41 := by kernel_rfl
theorem r43_eq : K.fnK ctx 43 2 = r43 := by kernel_rfl
theorem r44_eq : K.fnK ctx 44 3 = r44 := by kernel_rfl
theorem r45_eq : K.fnK ctx 45 1 = r45 := by kernel_rfl
theorem r46_eq : K.fnK ctx 46 2 = r46 := by kernel_rfl
theorem r47_eq : K.fnK ctx 47 1 = r47 := by kernel_rfl
theorem r48_eq : K.fnK ctx 48 3 = r48 := by kernel_rfl
theorem r49_eq : K.fnK ctx 49 2 = r49 := by kernel_rfl
theorem r50_eq : K.fnK ctx 50 3 = r50 := by kernel_rfl
theorem r51_eq : K.fnK ctx 51 1 = r51 := by kernel_rfl
theorem r52_eq : K.fnK ctx 52 2 = r52 := by kernel_rfl
theorem r53_eq : K.fnK ctx 53 1 = r53 := by kernel_rfl
theorem r54_eq : K.fnK ctx 54 2 = r54 := by kernel_rfl
theorem r55_eq : K.fnK ctx 55 2 = r55 := by kernel_rfl
theorem r56_eq : K.fnK ctx 56 1 = r56 := by kernel_rfl
theorem r57_eq : K.fnK ctx 57 2 = r57 := by kernel_rfl
theorem r58_eq : K.fnK ctx 58 2 = r58 := by kernel_rfl
theorem r59N_eq (N : Nat) : K.fnKN N ctx 59 1 = r59N N := by kernel_rfl
theorem r59_eq : K.fnK ctx 59 1 = r59 := (K.fnKN_eq ctx 59 1).trans (r59N_eq 1000000)
theorem r60_eq : K.fnK ctx 60 2 = r60 := by kernel_rfl
theorem r61_eq : K.fnK ctx 61 3 = r61 := by kernel_rfl
theorem r62_eq : K.fnK ctx 62 3 = r62 := by kernel_rfl
end YthlpjeoddenioaaGreatDoorSfM
