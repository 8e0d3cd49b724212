/- ServerNil: the run, by the kernel on the abstract machine, the arguments left open. -/
import Derived.Test.YtjhcfoinldcaoaaGreatDoorSvSum
import Derived.KernelRfl
namespace YtjhcfoinldcaoaaGreatDoorSvM
open Go Am
set_option maxRecDepth 1000000
theorem anch (x1 : Int) (x2 : Int) (x3 : Int) (x4 : Int) (x5 : Int) (x6 : Int) (x7 : Int) (x8 : Int) (x9 : Int) (x10 : Int) (x11 : List Nat) (x12 : List Nat) (x13 : List Nat) (x14 : Int) (x15 : Int) : K.isTrue (K.run tbS ty (nat_lit 200) (.fn (nat_lit 3)) [.int .i64 x1, .agg [.int .u8 x2, .int .i64 x3, .int .u64 x4, .int .u64 x5, .int .u8 x6, .int .u8 x7, .int .u64 x8, .int .u64 x9, .int .u64 x10, .str x11, .str x12, .str x13], .int .u64 x14, .int .u64 x15] ⟨nat_lit 0, .e⟩) = true := by kernel_rfl
end YtjhcfoinldcaoaaGreatDoorSvM
