/- PRINTED BY Gen2.lean (own): the plain texts are what the machine comes to, part 3. -/
import Derived.Test.YtbigljebnajniabGreatMfR3
import Derived.Test.YtbigljebnajniabGreatA5
import Derived.KernelRfl
namespace YtbigljebnajniabGreatMfM
open Go Am
set_option maxRecDepth 100000
theorem r7N_eq (N : Nat) : K.fnKN N ctx 7 1 = r7N N := by kernel_rfl
theorem r7_eq : K.fnK ctx 7 1 = r7 := (K.fnKN_eq ctx 7 1).trans (r7N_eq 1000000)
end YtbigljebnajniabGreatMfM
