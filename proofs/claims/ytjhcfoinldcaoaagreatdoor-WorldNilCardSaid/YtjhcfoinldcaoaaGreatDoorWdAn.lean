/- WorldNil: the run, by the kernel on the abstract machine, the arguments left open. -/
import Derived.Test.YtjhcfoinldcaoaaGreatDoorWdSum
import Derived.KernelRfl
namespace YtjhcfoinldcaoaaGreatDoorWdM
open Go Am
set_option maxRecDepth 1000000
theorem anch (x1 : Int) (x2 : Int) (x3 : Int) (x4 : Int) (x5 : Int) (x6 : Int) (x7 : Int) (x8 : Int) (x9 : Int) (x10 : Int) (x11 : Int) (x12 : List Nat) (x13 : List Nat) (x14 : List Nat) (x16 : Int) : K.isTrue (K.run tbS ty (nat_lit 200) (.fn (nat_lit 4)) [.agg [.int .u8 x1, .int .i64 x2, .int .u8 x3, .int .i64 x4, .int .u64 x5, .int .u64 x6, .int .u8 x7, .int .u8 x8, .int .u64 x9, .int .u64 x10, .int .u64 x11, .str x12, .str x13, .str x14, .unk], .int .i64 x16] ⟨nat_lit 0, .e⟩) = true := by kernel_rfl
end YtjhcfoinldcaoaaGreatDoorWdM
