/- Facts of the types, and the functions as they are run. -/
import Derived.Test.YtbigljebnajniabGreatMfTg
import Derived.Test.YtbigljebnajniabGreatA5
import Derived.Test.YtbigljebnajniabGreatMfE3
import Derived.KernelRfl
namespace YtbigljebnajniabGreatMfM
open Go Am
set_option maxRecDepth 100000
instance zl25 : ZL ctx 25 [wi 0, wi 0, wi 0] := ⟨by kernel_rfl⟩
instance zl3 : ZL ctx 3 [wi 0] := ⟨by kernel_rfl⟩
instance zl78 : ZL ctx 78 [w64 0, w64 0, .bool false, .bool false, .bool false, w64 0] := ⟨by kernel_rfl⟩
instance zl37 : ZL ctx 37 [w64 0] := ⟨by kernel_rfl⟩
instance zl32 : ZL ctx 32 [wi 0] := ⟨by kernel_rfl⟩
instance zl76 : ZL ctx 76 [.bool false, .bool false, .bool false, w64 0] := ⟨by kernel_rfl⟩
instance zl85 : ZL ctx 85 [.nilSlice] := ⟨by kernel_rfl⟩
instance zl89 : ZL ctx 89 [.nilPtr, wi 0, wi 0, wi 0, wi 0, .nilPtr] := ⟨by kernel_rfl⟩
instance zl98 : ZL ctx 98 [.nilPtr, wi 0, wi 0, wi 0, wi 0, .nilSlice] := ⟨by kernel_rfl⟩
instance zl93 : ZL ctx 93 [w8 0, wi 0, wi 0] := ⟨by kernel_rfl⟩
instance zl94 : ZL ctx 94 (repl 7 [w8 0, wi 0, wi 0]) := ⟨by kernel_rfl⟩
instance fs93 : FS ctx 93 [(0, 91, 1, false), (1, 3, 1, false), (2, 3, 1, false)] := ⟨by kernel_rfl⟩
instance ts93 : TS ctx 93 3 true := .of (by kernel_rfl)
instance fs76 : FS ctx 76 [(0, 4, 1, false), (1, 4, 1, false), (2, 4, 1, false), (3, 37, 1, false)] := ⟨by kernel_rfl⟩
instance fs85 : FS ctx 85 [(0, 83, 1, false)] := ⟨by kernel_rfl⟩
instance fs89 : FS ctx 89 [(0, 30, 1, false), (1, 25, 3, false), (4, 3, 1, false), (5, 46, 1, false)] := ⟨by kernel_rfl⟩
instance fs98 : FS ctx 98 [(0, 30, 1, false), (1, 25, 3, false), (4, 3, 1, false), (5, 96, 1, false)] := ⟨by kernel_rfl⟩
instance fs25 : FS ctx 25 [(0, 3, 1, false), (1, 3, 1, false), (2, 3, 1, false)] := ⟨by kernel_rfl⟩
instance by78 : BY ctx 78 32 := ⟨by kernel_rfl⟩
instance by37 : BY ctx 37 8 := ⟨by kernel_rfl⟩
instance pt30 : Pt ctx 30 := .of (by kernel_rfl)
instance pt38 : Pt ctx 38 := .of (by kernel_rfl)
instance pt46 : Pt ctx 46 := .of (by kernel_rfl)
instance sc83 : Sc ctx 83 6 := .of (by kernel_rfl)
instance sc27 : Sc ctx 27 1 := .of (by kernel_rfl)
instance cv29_3 : Cv ctx 29 3 .i64 := ⟨fun k n h => by kernel_rfl⟩
instance cv3_37 : Cv ctx 3 37 .u64 := ⟨fun k n h => by kernel_rfl⟩
instance cv37_3 : Cv ctx 37 3 .i64 := ⟨fun k n h => by kernel_rfl⟩
instance cv5_3 : Cv ctx 5 3 .i64 := ⟨fun k n h => by kernel_rfl⟩
section
variable {W B : Nat}
theorem u3 (n : Nat) (args : List AV) (h : H) : K.run (tbG W B) ty (n + 1) (.fn 3) args h = r3 (K.run (tbG W B) ty n) args h := by kernel_rfl
theorem u5 (n : Nat) (args : List AV) (h : H) : K.run (tbG W B) ty (n + 1) (.fn 5) args h = r5 (K.run (tbG W B) ty n) args h := by kernel_rfl
theorem u6 (n : Nat) (args : List AV) (h : H) : K.run (tbG W B) ty (n + 1) (.fn 6) args h = r6 (K.run (tbG W B) ty n) args h := by kernel_rfl
theorem u8 (n : Nat) (args : List AV) (h : H) : K.run (tbG W B) ty (n + 1) (.fn 8) args h = r8 (K.run (tbG W B) ty n) args h := by kernel_rfl
theorem u10 (n : Nat) (args : List AV) (h : H) : K.run (tbG W B) ty (n + 1) (.fn 10) args h = r10 (K.run (tbG W B) ty n) args h := by kernel_rfl
theorem u11 (n : Nat) (args : List AV) (h : H) : K.run (tbG W B) ty (n + 1) (.fn 11) args h = r11 (K.run (tbG W B) ty n) args h := by kernel_rfl
theorem u12 (n : Nat) (args : List AV) (h : H) : K.run (tbG W B) ty (n + 1) (.fn 12) args h = r12 (K.run (tbG W B) ty n) args h := by kernel_rfl
theorem u13 (n : Nat) (args : List AV) (h : H) : K.run (tbG W B) ty (n + 1) (.fn 13) args h = r13 (K.run (tbG W B) ty n) args h := by kernel_rfl
theorem u14 (n : Nat) (args : List AV) (h : H) : K.run (tbG W B) ty (n + 1) (.fn 14) args h = r14 (K.run (tbG W B) ty n) args h := by kernel_rfl
theorem u15 (n : Nat) (args : List AV) (h : H) : K.run (tbG W B) ty (n + 1) (.fn 15) args h = r15 (K.run (tbG W B) ty n) args h := by kernel_rfl
theorem u17 (n : Nat) (args : List AV) (h : H) : K.run (tbG W B) ty (n + 1) (.fn 17) args h = r17 (K.run (tbG W B) ty n) args h := by kernel_rfl
theorem u18 (n : Nat) (args : List AV) (h : H) : K.run (tbG W B) ty (n + 1) (.fn 18) args h = r18 (K.run (tbG W B) ty n) args h := by kernel_rfl
theorem u19 (n : Nat) (args : List AV) (h : H) : K.run (tbG W B) ty (n + 1) (.fn 19) args h = r19 (K.run (tbG W B) ty n) args h := by kernel_rfl
theorem u20 (n : Nat) (args : List AV) (h : H) : K.run (tbG W B) ty (n + 1) (.fn 20) args h = r20 (K.run (tbG W B) ty n) args h := by kernel_rfl
theorem u21 (n : Nat) (args : List AV) (h : H) : K.run (tbG W B) ty (n + 1) (.fn 21) args h = r21 (K.run (tbG W B) ty n) args h := by kernel_rfl
theorem u22 (n : Nat) (args : List AV) (h : H) : K.run (tbG W B) ty (n + 1) (.fn 22) args h = r22 (K.run (tbG W B) ty n) args h := by kernel_rfl
theorem u23 (n : Nat) (args : List AV) (h : H) : K.run (tbG W B) ty (n + 1) (.fn 23) args h = r23 (K.run (tbG W B) ty n) args h := by kernel_rfl
theorem u24 (n : Nat) (args : List AV) (h : H) : K.run (tbG W B) ty (n + 1) (.fn 24) args h = r24 (K.run (tbG W B) ty n) args h := by kernel_rfl
theorem u25 (n : Nat) (args : List AV) (h : H) : K.run (tbG W B) ty (n + 1) (.fn 25) args h = r25 (K.run (tbG W B) ty n) args h := by kernel_rfl
theorem u27 (n : Nat) (args : List AV) (h : H) : K.run (tbG W B) ty (n + 1) (.fn 27) args h = r27 (K.run (tbG W B) ty n) args h := by kernel_rfl
theorem u28 (n : Nat) (args : List AV) (h : H) : K.run (tbG W B) ty (n + 1) (.fn 28) args h = r28 (K.run (tbG W B) ty n) args h := by kernel_rfl
theorem u30 (n : Nat) (args : List AV) (h : H) : K.run (tbG W B) ty (n + 1) (.fn 30) args h = r30 (K.run (tbG W B) ty n) args h := by kernel_rfl
theorem u31 (n : Nat) (args : List AV) (h : H) : K.run (tbG W B) ty (n + 1) (.fn 31) args h = r31 (K.run (tbG W B) ty n) args h := by kernel_rfl
theorem u32 (n : Nat) (args : List AV) (h : H) : K.run (tbG W B) ty (n + 1) (.fn 32) args h = r32 (K.run (tbG W B) ty n) args h := by kernel_rfl
theorem u33 (n : Nat) (args : List AV) (h : H) : K.run (tbG W B) ty (n + 1) (.fn 33) args h = r33 (K.run (tbG W B) ty n) args h := by kernel_rfl
theorem u34 (n : Nat) (args : List AV) (h : H) : K.run (tbG W B) ty (n + 1) (.fn 34) args h = r34 (K.run (tbG W B) ty n) args h := by kernel_rfl
theorem u38 (n : Nat) (args : List AV) (h : H) : K.run (tbG W B) ty (n + 1) (.fn 38) args h = r38 (K.run (tbG W B) ty n) args h := by kernel_rfl
theorem u39 (n : Nat) (args : List AV) (h : H) : K.run (tbG W B) ty (n + 1) (.fn 39) args h = r39 (K.run (tbG W B) ty n) args h := by kernel_rfl
theorem u40 (n : Nat) (args : List AV) (h : H) : K.run (tbG W B) ty (n + 1) (.fn 40) args h = r40 (K.run (tbG W B) ty n) args h := by kernel_rfl
theorem u41 (n : Nat) (args : List AV) (h : H) : K.run (tbG W B) ty (n + 1) (.fn 41) args h = r41 (K.run (tbG W B) ty n) args h := by kernel_rfl
theorem u42 (n : Nat) (args : List AV) (h : H) : K.run (tbG W B) ty (n + 1) (.fn 42) args h = r42 (K.run (tbG W B) ty n) args h := by kernel_rfl
theorem u43 (n : Nat) (args : List AV) (h : H) : K.run (tbG W B) ty (n + 1) (.fn 43) args h = r43 (K.run (tbG W B) ty n) args h := by kernel_rfl
theorem u44 (n : Nat) (args : List AV) (h : H) : K.run (tbG W B) ty (n + 1) (.fn 44) args h = r44 (K.run (tbG W B) ty n) args h := by kernel_rfl
theorem u45 (n : Nat) (args : List AV) (h : H) : K.run (tbG W B) ty (n + 1) (.fn 45) args h = r45 (K.run (tbG W B) ty n) args h := by kernel_rfl
theorem u46 (n : Nat) (args : List AV) (h : H) : K.run (tbG W B) ty (n + 1) (.fn 46) args h = r46 (K.run (tbG W B) ty n) args h := by kernel_rfl
theorem u47 (n : Nat) (args : List AV) (h : H) : K.run (tbG W B) ty (n + 1) (.fn 47) args h = r47 (K.run (tbG W B) ty n) args h := by kernel_rfl
theorem u48 (n : Nat) (args : List AV) (h : H) : K.run (tbG W B) ty (n + 1) (.fn 48) args h = r48 (K.run (tbG W B) ty n) args h := by kernel_rfl
theorem u49 (n : Nat) (args : List AV) (h : H) : K.run (tbG W B) ty (n + 1) (.fn 49) args h = r49 (K.run (tbG W B) ty n) args h := by kernel_rfl
theorem u50 (n : Nat) (args : List AV) (h : H) : K.run (tbG W B) ty (n + 1) (.fn 50) args h = r50 (K.run (tbG W B) ty n) args h := by kernel_rfl
theorem u51 (n : Nat) (args : List AV) (h : H) : K.run (tbG W B) ty (n + 1) (.fn 51) args h = r51 (K.run (tbG W B) ty n) args h := by kernel_rfl
theorem u52 (n : Nat) (args : List AV) (h : H) : K.run (tbG W B) ty (n + 1) (.fn 52) args h = r52 (K.run (tbG W B) ty n) args h := by kernel_rfl
theorem u53 (n : Nat) (args : List AV) (h : H) : K.run (tbG W B) ty (n + 1) (.fn 53) args h = r53 (K.run (tbG W B) ty n) args h := by kernel_rfl
theorem u54 (n : Nat) (args : List AV) (h : H) : K.run (tbG W B) ty (n + 1) (.fn 54) args h = r54 (K.run (tbG W B) ty n) args h := by kernel_rfl
theorem u55 (n : Nat) (args : List AV) (h : H) : K.run (tbG W B) ty (n + 1) (.fn 55) args h = r55 (K.run (tbG W B) ty n) args h := by kernel_rfl
theorem u56 (n : Nat) (args : List AV) (h : H) : K.run (tbG W B) ty (n + 1) (.fn 56) args h = r56 (K.run (tbG W B) ty n) args h := by kernel_rfl
theorem u62 (n : Nat) (args : List AV) (h : H) : K.run (tbG W B) ty (n + 1) (.fn 62) args h = r62 (K.run (tbG W B) ty n) args h := by kernel_rfl
theorem u63 (n : Nat) (args : List AV) (h : H) : K.run (tbG W B) ty (n + 1) (.fn 63) args h = r63 (K.run (tbG W B) ty n) args h := by kernel_rfl
theorem u64 (n : Nat) (args : List AV) (h : H) : K.run (tbG W B) ty (n + 1) (.fn 64) args h = r64 (K.run (tbG W B) ty n) args h := by kernel_rfl
theorem u65 (n : Nat) (args : List AV) (h : H) : K.run (tbG W B) ty (n + 1) (.fn 65) args h = r65 (K.run (tbG W B) ty n) args h := by kernel_rfl
theorem u66 (n : Nat) (args : List AV) (h : H) : K.run (tbG W B) ty (n + 1) (.fn 66) args h = r66 (K.run (tbG W B) ty n) args h := by kernel_rfl
theorem u67 (n : Nat) (args : List AV) (h : H) : K.run (tbG W B) ty (n + 1) (.fn 67) args h = r67 (K.run (tbG W B) ty n) args h := by kernel_rfl
theorem u68 (n : Nat) (args : List AV) (h : H) : K.run (tbG W B) ty (n + 1) (.fn 68) args h = r68 (K.run (tbG W B) ty n) args h := by kernel_rfl
theorem u69 (n : Nat) (args : List AV) (h : H) : K.run (tbG W B) ty (n + 1) (.fn 69) args h = r69 (K.run (tbG W B) ty n) args h := by kernel_rfl
theorem u70 (n : Nat) (args : List AV) (h : H) : K.run (tbG W B) ty (n + 1) (.fn 70) args h = r70 (K.run (tbG W B) ty n) args h := by kernel_rfl
theorem u71 (n : Nat) (args : List AV) (h : H) : K.run (tbG W B) ty (n + 1) (.fn 71) args h = r71 (K.run (tbG W B) ty n) args h := by kernel_rfl
theorem u72 (n : Nat) (args : List AV) (h : H) : K.run (tbG W B) ty (n + 1) (.fn 72) args h = r72 (K.run (tbG W B) ty n) args h := by kernel_rfl
theorem u73 (n : Nat) (args : List AV) (h : H) : K.run (tbG W B) ty (n + 1) (.fn 73) args h = r73 (K.run (tbG W B) ty n) args h := by kernel_rfl
theorem u74 (n : Nat) (args : List AV) (h : H) : K.run (tbG W B) ty (n + 1) (.fn 74) args h = r74 (K.run (tbG W B) ty n) args h := by kernel_rfl
theorem u75 (n : Nat) (args : List AV) (h : H) : K.run (tbG W B) ty (n + 1) (.fn 75) args h = r75 (K.run (tbG W B) ty n) args h := by kernel_rfl
theorem u76 (n : Nat) (args : List AV) (h : H) : K.run (tbG W B) ty (n + 1) (.fn 76) args h = r76 (K.run (tbG W B) ty n) args h := by kernel_rfl
theorem u77 (n : Nat) (args : List AV) (h : H) : K.run (tbG W B) ty (n + 1) (.fn 77) args h = r77 (K.run (tbG W B) ty n) args h := by kernel_rfl
theorem u78 (n : Nat) (args : List AV) (h : H) : K.run (tbG W B) ty (n + 1) (.fn 78) args h = r78 (K.run (tbG W B) ty n) args h := by kernel_rfl
theorem u79 (n : Nat) (args : List AV) (h : H) : K.run (tbG W B) ty (n + 1) (.fn 79) args h = r79 (K.run (tbG W B) ty n) args h := by kernel_rfl
theorem u81 (n : Nat) (args : List AV) (h : H) : K.run (tbG W B) ty (n + 1) (.fn 81) args h = r81 (K.run (tbG W B) ty n) args h := by kernel_rfl
theorem u82 (n : Nat) (args : List AV) (h : H) : K.run (tbG W B) ty (n + 1) (.fn 82) args h = r82 (K.run (tbG W B) ty n) args h := by kernel_rfl
theorem u83 (n : Nat) (args : List AV) (h : H) : K.run (tbG W B) ty (n + 1) (.fn 83) args h = r83 (K.run (tbG W B) ty n) args h := by kernel_rfl
theorem u84 (n : Nat) (args : List AV) (h : H) : K.run (tbG W B) ty (n + 1) (.fn 84) args h = r84 (K.run (tbG W B) ty n) args h := by kernel_rfl
theorem u85 (n : Nat) (args : List AV) (h : H) : K.run (tbG W B) ty (n + 1) (.fn 85) args h = r85 (K.run (tbG W B) ty n) args h := by kernel_rfl
theorem u86 (n : Nat) (args : List AV) (h : H) : K.run (tbG W B) ty (n + 1) (.fn 86) args h = r86 (K.run (tbG W B) ty n) args h := by kernel_rfl
theorem u87 (n : Nat) (args : List AV) (h : H) : K.run (tbG W B) ty (n + 1) (.fn 87) args h = r87 (K.run (tbG W B) ty n) args h := by kernel_rfl
theorem u88 (n : Nat) (args : List AV) (h : H) : K.run (tbG W B) ty (n + 1) (.fn 88) args h = r88 (K.run (tbG W B) ty n) args h := by kernel_rfl
theorem u89 (n : Nat) (args : List AV) (h : H) : K.run (tbG W B) ty (n + 1) (.fn 89) args h = r89 (K.run (tbG W B) ty n) args h := by kernel_rfl
theorem u90 (n : Nat) (args : List AV) (h : H) : K.run (tbG W B) ty (n + 1) (.fn 90) args h = r90 (K.run (tbG W B) ty n) args h := by kernel_rfl
theorem u91 (n : Nat) (args : List AV) (h : H) : K.run (tbG W B) ty (n + 1) (.fn 91) args h = r91 (K.run (tbG W B) ty n) args h := by kernel_rfl
theorem u92 (n : Nat) (args : List AV) (h : H) : K.run (tbG W B) ty (n + 1) (.fn 92) args h = r92 (K.run (tbG W B) ty n) args h := by kernel_rfl
theorem u93 (n : Nat) (args : List AV) (h : H) : K.run (tbG W B) ty (n + 1) (.fn 93) args h = r93 (K.run (tbG W B) ty n) args h := by kernel_rfl
theorem u94 (n : Nat) (args : List AV) (h : H) : K.run (tbG W B) ty (n + 1) (.fn 94) args h = r94 (K.run (tbG W B) ty n) args h := by kernel_rfl
theorem u95 (n : Nat) (args : List AV) (h : H) : K.run (tbG W B) ty (n + 1) (.fn 95) args h = r95 (K.run (tbG W B) ty n) args h := by kernel_rfl
theorem u101 (n : Nat) (args : List AV) (h : H) : K.run (tbG W B) ty (n + 1) (.fn 101) args h = r101 (K.run (tbG W B) ty n) args h := by kernel_rfl
theorem u105 (n : Nat) (args : List AV) (h : H) : K.run (tbG W B) ty (n + 1) (.fn 105) args h = r105 (K.run (tbG W B) ty n) args h := by kernel_rfl
theorem u111 (n : Nat) (args : List AV) (h : H) : K.run (tbG W B) ty (n + 1) (.fn 111) args h = r111 (K.run (tbG W B) ty n) args h := by kernel_rfl
theorem u7 (n : Nat) (args : List AV) (h : H) : K.run (tbG W B) ty (n + 1) (.fn 7) args h = r7N 1000000 (K.run (tbG W B) ty n) args h := by
  have e : K.run (tbG W B) ty (n + 1) (.fn 7) args h = K.fnK ctx 7 1 (K.run (tbG W B) ty n) args h := by kernel_rfl
  rw [e, r7_eq]; rfl
theorem u9 (n : Nat) (args : List AV) (h : H) : K.run (tbG W B) ty (n + 1) (.fn 9) args h = r9 (K.run (tbG W B) ty n) args h := ug9 W B n args h
theorem u26 (n : Nat) (args : List AV) (h : H) : K.run (tbG W B) ty (n + 1) (.fn 26) args h = r26 (K.run (tbG W B) ty n) args h := ug26 W B n args h
theorem yy1 : ty.get 1 = some ⟨y1⟩ := by kernel_rfl
theorem yy2 : ty.get 2 = some ⟨y2⟩ := by kernel_rfl
theorem yy3 : ty.get 3 = some ⟨y3⟩ := by kernel_rfl
theorem yy4 : ty.get 4 = some ⟨y4⟩ := by kernel_rfl
theorem yy5 : ty.get 5 = some ⟨y5⟩ := by kernel_rfl
theorem noext (f : Nat) (h : f = 66 ∨ f = 68 := by decide) : ctx.ext.get f = none := by rcases h with rfl | rfl <;> kernel_rfl
variable {h : H} {Q : AV → H → Prop} {f : AV → H → K.KR} {N : Nat}
instance c16 {a b c : Int} {s1 s2 s3 : Prop} {m : Nat} [na : NN a W s1] [nb : NN b m s2] [nc : NN c B s3] : Stp (K.callFK (K.run (tbG W B) ty N) 16 [.agg [.int .i64 a, .int .i64 b, .int .i64 c]] h f) Q (Sd (s1 ∧ s2 ∧ s3 ∧ m = 11 ∧ 1 ≤ N) (Ok (f (.int .i64 (.ofNat (456 + 208 * W + 8 * B))) h) Q)) := ⟨fun p => by
  obtain ⟨⟨p1, p2, p3, rfl, p5⟩, p⟩ := p
  rw [na.eq p1, nb.eq p2, nc.eq p3]
  obtain ⟨N, rfl⟩ : ∃ m, N = m + 1 := ⟨N - 1, by omega⟩
  exact .eq (K.callFK_of (kg16 W B N h)) p⟩
instance c29 {a b c : Int} {s1 s2 s3 : Prop} {m : Nat} [na : NN a W s1] [nb : NN b m s2] [nc : NN c B s3] : Stp (K.callFK (K.run (tbG W B) ty N) 29 [.agg [.int .i64 a, .int .i64 b, .int .i64 c]] h f) Q (Sd (s1 ∧ s2 ∧ s3 ∧ m = 11 ∧ 1 ≤ N) (Ok (f (.bool true) h) Q)) := ⟨fun p => by
  obtain ⟨⟨p1, p2, p3, rfl, p5⟩, p⟩ := p
  rw [na.eq p1, nb.eq p2, nc.eq p3]
  obtain ⟨N, rfl⟩ : ∃ m, N = m + 1 := ⟨N - 1, by omega⟩
  exact .eq (K.callFK_of (kg29 W B N h)) p⟩
instance c35 {a b c : Int} {s1 s2 s3 : Prop} {m : Nat} [na : NN a W s1] [nb : NN b m s2] [nc : NN c B s3] : Stp (K.callFK (K.run (tbG W B) ty N) 35 [.agg [.int .i64 a, .int .i64 b, .int .i64 c]] h f) Q (Sd (s1 ∧ s2 ∧ s3 ∧ m = 11 ∧ 1 ≤ N) (Ok (f (.int .i64 (.ofNat (264 + 208 * W))) h) Q)) := ⟨fun p => by
  obtain ⟨⟨p1, p2, p3, rfl, p5⟩, p⟩ := p
  rw [na.eq p1, nb.eq p2, nc.eq p3]
  obtain ⟨N, rfl⟩ : ∃ m, N = m + 1 := ⟨N - 1, by omega⟩
  exact .eq (K.callFK_of (kg35 W B N h)) p⟩
instance c36 {a b c : Int} {s1 s2 s3 : Prop} {m : Nat} [na : NN a W s1] [nb : NN b m s2] [nc : NN c B s3] : Stp (K.callFK (K.run (tbG W B) ty N) 36 [.agg [.int .i64 a, .int .i64 b, .int .i64 c]] h f) Q (Sd (s1 ∧ s2 ∧ s3 ∧ m = 11 ∧ 1 ≤ N) (Ok (f (.int .i64 (.ofNat (272 + 208 * W))) h) Q)) := ⟨fun p => by
  obtain ⟨⟨p1, p2, p3, rfl, p5⟩, p⟩ := p
  rw [na.eq p1, nb.eq p2, nc.eq p3]
  obtain ⟨N, rfl⟩ : ∃ m, N = m + 1 := ⟨N - 1, by omega⟩
  exact .eq (K.callFK_of (kg36 W B N h)) p⟩
instance c57 {a b c : Int} {s1 s2 s3 : Prop} {m : Nat} [na : NN a W s1] [nb : NN b m s2] [nc : NN c B s3] : Stp (K.callFK (K.run (tbG W B) ty N) 57 [.agg [.int .i64 a, .int .i64 b, .int .i64 c]] h f) Q (Sd (s1 ∧ s2 ∧ s3 ∧ m = 11 ∧ 1 ≤ N) (Ok (f (.bool true) h) Q)) := ⟨fun p => by
  obtain ⟨⟨p1, p2, p3, rfl, p5⟩, p⟩ := p
  rw [na.eq p1, nb.eq p2, nc.eq p3]
  obtain ⟨N, rfl⟩ : ∃ m, N = m + 1 := ⟨N - 1, by omega⟩
  exact .eq (K.callFK_of (kg57 W B N h)) p⟩
instance c58 {a b c : Int} {s1 s2 s3 : Prop} {m : Nat} [na : NN a W s1] [nb : NN b m s2] [nc : NN c B s3] : Stp (K.callFK (K.run (tbG W B) ty N) 58 [.agg [.int .i64 a, .int .i64 b, .int .i64 c]] h f) Q (Sd (s1 ∧ s2 ∧ s3 ∧ m = 11 ∧ 1 ≤ N) (Ok (f (.int .i64 (.ofNat (456 + 208 * W + 8 * B))) h) Q)) := ⟨fun p => by
  obtain ⟨⟨p1, p2, p3, rfl, p5⟩, p⟩ := p
  rw [na.eq p1, nb.eq p2, nc.eq p3]
  obtain ⟨N, rfl⟩ : ∃ m, N = m + 1 := ⟨N - 1, by omega⟩
  exact .eq (K.callFK_of (kg58 W B N h)) p⟩
instance c59 {a b c : Int} {s1 s2 s3 : Prop} {m : Nat} [na : NN a W s1] [nb : NN b m s2] [nc : NN c B s3] : Stp (K.callFK (K.run (tbG W B) ty N) 59 [.agg [.int .i64 a, .int .i64 b, .int .i64 c]] h f) Q (Sd (s1 ∧ s2 ∧ s3 ∧ m = 11 ∧ 1 ≤ N) (Ok (f (.int .i64 (.ofNat (264 + 208 * W))) h) Q)) := ⟨fun p => by
  obtain ⟨⟨p1, p2, p3, rfl, p5⟩, p⟩ := p
  rw [na.eq p1, nb.eq p2, nc.eq p3]
  obtain ⟨N, rfl⟩ : ∃ m, N = m + 1 := ⟨N - 1, by omega⟩
  exact .eq (K.callFK_of (kg59 W B N h)) p⟩
instance c60 {a b c : Int} {s1 s2 s3 : Prop} {m : Nat} [na : NN a W s1] [nb : NN b m s2] [nc : NN c B s3] : Stp (K.callFK (K.run (tbG W B) ty N) 60 [.agg [.int .i64 a, .int .i64 b, .int .i64 c]] h f) Q (Sd (s1 ∧ s2 ∧ s3 ∧ m = 11 ∧ 1 ≤ N) (Ok (f (.int .i64 (.ofNat (272 + 208 * W))) h) Q)) := ⟨fun p => by
  obtain ⟨⟨p1, p2, p3, rfl, p5⟩, p⟩ := p
  rw [na.eq p1, nb.eq p2, nc.eq p3]
  obtain ⟨N, rfl⟩ : ∃ m, N = m + 1 := ⟨N - 1, by omega⟩
  exact .eq (K.callFK_of (kg60 W B N h)) p⟩
instance c37 : Stp (K.callFK (K.run (tbG W B) ty N) 37 [.agg [.int .i64 (.ofNat W), .int .i64 (.ofNat 11), .int .i64 (.ofNat B)], .int .i64 (.ofNat 1)] h f) Q (Sd (1 ≤ N) (Ok (f (.int .i64 (.ofNat (296 + 208 * W))) h) Q)) := ⟨fun p => by
  obtain ⟨N, rfl⟩ : ∃ m, N = m + 1 := ⟨N - 1, by have := p.s; omega⟩
  exact .eq (K.callFK_of (kg37 W B N h)) p.p⟩
instance c61 : Stp (K.callFK (K.run (tbG W B) ty N) 61 [.agg [.int .i64 (.ofNat W), .int .i64 (.ofNat 11), .int .i64 (.ofNat B)], .int .i64 (.ofNat 1)] h f) Q (Sd (1 ≤ N) (Ok (f (.int .i64 (.ofNat (296 + 208 * W))) h) Q)) := ⟨fun p => by
  obtain ⟨N, rfl⟩ : ∃ m, N = m + 1 := ⟨N - 1, by have := p.s; omega⟩
  exact .eq (K.callFK_of (kg61 W B N h)) p.p⟩
theorem cp9a (run : K.KRun) (a b : AV) (h : H) (g : AV → H → K.KR) : K.slowK ctx run (K.opAt Go.Proofs.Tryz.f9 4 11) [10, 20] [a, b] h g = K.rK (copyA 1 a b h) g := by kernel_rfl
theorem cp9b (run : K.KRun) (a b : AV) (h : H) (g : AV → H → K.KR) : K.slowK ctx run (K.opAt Go.Proofs.Tryz.f9 7 5) [33, 34] [a, b] h g = K.rK (copyA 1 a b h) g := by kernel_rfl
def mxI (a b : Int) : Int := match ltI a b with | true => b | false => a
theorem mx41 (run : K.KRun) (a b c : Nat) (h : H) (g : AV → H → K.KR) : K.slowK ctx run (K.opAt Go.Proofs.Tryz.f41 1 19) [16, 19, 22] [w64 a, w64 b, w64 c] h g = g (.int .u64 (mxI (mxI a b) c)) h := by
  have e : K.slowK ctx run (K.opAt Go.Proofs.Tryz.f41 1 19) [16, 19, 22] [w64 a, w64 b, w64 c] h g = K.rK (.ok (.int .u64 (mxI (mxI a b) c), h)) g := by kernel_rfl
  rw [e, K.rK_of]
theorem mxI_eq (a b : Int) : mxI a b = max a b := by
  unfold mxI
  cases h : ltI a b with
  | true => have := ltI_iff.1 h; simp only; omega
  | false => have : ¬ a < b := fun e => by rw [ltI_iff.2 e] at h; cases h
             simp only; omega
theorem mn6z (run : K.KRun) (n : Nat) (h : H) (g : AV → H → K.KR) : K.slowK ctx run (K.opAt Go.Proofs.Tryz.f6 6 7) [42, 44] [.int .i64 ((0 : Nat) : Int), .int .i64 (.ofNat n)] h g = g (.int .i64 (.ofNat 0)) h := by
  have e : K.slowK ctx run (K.opAt Go.Proofs.Tryz.f6 6 7) [42, 44] [.int .i64 ((0 : Nat) : Int), .int .i64 (.ofNat n)] h g = K.rK (.ok (.int .i64 (.ofNat 0), h)) g := by kernel_rfl
  rw [e, K.rK_of]
end
end YtbigljebnajniabGreatMfM
