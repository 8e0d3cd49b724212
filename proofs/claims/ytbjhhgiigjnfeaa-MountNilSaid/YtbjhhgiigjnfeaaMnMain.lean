import Derived.Test.YtbjhhgiigjnfeaaOk
import Derived.Test.YtbjhhgiigjnfeaaRows
import Derived.ProofKit
import Derived.Lib.SmallJoins
import Derived.Carry
namespace YtbjhhgiigjnfeaaM
open Go Am Go.Proofs Go.RowKit
set_option maxRecDepth 1000000
theorem anch (a b c : Int) : K.isTrue (K.run tb ty (nat_lit 200) (.fn (nat_lit 3)) [.agg [.int .i64 a, .int .i64 b, .int .i64 c]] ⟨nat_lit 0, .e⟩) = true := by kernel_rfl
theorem extOk : ExtOk ctx Try.prog := fun f e h => by
  have h : (T.e : T Ext).get f = some e := h
  rw [T.get_e] at h; cases h
theorem sumOk (G : Gd) : SumOk ctx Try.prog G := fun f s args h v h' hs => by
  have hs : (T.e : T Sum).get f = some s := hs
  rw [T.get_e] at hs; cases hs
theorem gOk (w : World) : GOk ctx ⟨0, rngT⟩ w := ⟨rfl, Nat.zero_le _, fun g n t h => by
  have h : (T.e : T (Nat × T AV)).get g = some (n, t) := h
  rw [T.get_e] at h; cases h⟩
theorem mn_calls (a b c : Int) (w : World) : Calls Try.prog 3 #[.agg #[.int .i64 a, .int .i64 b, .int .i64 c]] w fun e w' => ∃ x, e = .returned x ∧ x = .bool true ∧ Below w.heap.size w w' :=
  calls_all (calls_of (vs := [.agg #[.int .i64 a, .int .i64 b, .int .i64 c]]) cok extOk (sumOk ⟨0, rngT⟩) (K.run_le nosum tbok tyok 200) (anch a b c) (T.get_e (α := Ext) 3) (gOk w) (.cons _ _ _ _ (.agg _ _ (.cons _ _ _ _ (.int _ _) (.cons _ _ _ _ (.int _ _) (.cons _ _ _ _ (.int _ _) .nil)))) .nil))
end YtbjhhgiigjnfeaaM
