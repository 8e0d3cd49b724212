/- WorkerNil: the run, by the kernel on the abstract machine, the arguments left open. -/
import Derived.Test.YtlmgehjkbgaknaaGreatDoorWkSum
import Derived.KernelRfl
namespace YtlmgehjkbgaknaaGreatDoorWkM
open Go Am
set_option maxRecDepth 1000000
theorem anch (x1 : Int) (x2 : Int) (x3 : Int) (x4 : Int) (x5 : Int) (x6 : Int) (x7 : Int) (x8 : Int) (x9 : Int) (x10 : Int) (x11 : Int) (x12 : Int) (x13 : Int) (x14 : List Nat) (x15 : List Nat) (x16 : List Nat) : K.isTrue (K.run tbS ty (nat_lit 200) (.fn (nat_lit 4)) [.agg [.int .i64 x1, .int .i64 x2, .int .i64 x3], .int .i64 x4, .agg [.int .u8 x5, .int .i64 x6, .int .u64 x7, .int .u64 x8, .int .u8 x9, .int .u8 x10, .int .u64 x11, .int .u64 x12, .int .u64 x13, .str x14, .str x15, .str x16]] ⟨nat_lit 0, .e⟩) = true := by kernel_rfl
end YtlmgehjkbgaknaaGreatDoorWkM
