/- PRINTED BY gen_fa.py (own): facts of the types, and the functions as they are run. -/
import Derived.Test.YthlpjeoddenioaaGreatDoorSfTs
import Derived.Test.YthlpjeoddenioaaGreatDoorA5
import Derived.KernelRfl
namespace YthlpjeoddenioaaGreatDoorSfM
open Go Am
set_option maxRecDepth 100000
instance zl3 : ZL ctx 3 [.int .i64 (.ofNat 0)] := ⟨by kernel_rfl⟩
instance zl23 : ZL ctx 23 [.int .u64 (.ofNat 0)] := ⟨by kernel_rfl⟩
instance zl26 : ZL ctx 26 [.int .i64 (.ofNat 0), .int .i64 (.ofNat 0), .int .i64 (.ofNat 0)] := ⟨by kernel_rfl⟩
instance zl28 : ZL ctx 28 [.nilSlice] := ⟨by kernel_rfl⟩
instance zl57 : ZL ctx 57 [.int .i64 (.ofNat 0), .int .u64 (.ofNat 0), .int .u64 (.ofNat 0), .str []] := ⟨by kernel_rfl⟩
instance zl61 : ZL ctx 61 [.int .u8 (.ofNat 0), .int .i64 (.ofNat 0), .int .u64 (.ofNat 0), .int .i64 (.ofNat 0), .int .u64 (.ofNat 0), .int .u64 (.ofNat 0), .str []] := ⟨by kernel_rfl⟩
instance zl75 : ZL ctx 75 [.nilSlice] := ⟨by kernel_rfl⟩
instance zl79 : ZL ctx 79 [.nilPtr, .nilSlice, .nilSlice, .nilSlice, .nilMap, .int .i64 (.ofNat 0)] := ⟨by kernel_rfl⟩
instance zl80 : ZL ctx 80 [.nilPtr] := ⟨by kernel_rfl⟩
instance zl88 : ZL ctx 88 [.int .i64 (.ofNat 0), .int .u8 (.ofNat 0), .int .i64 (.ofNat 0), .int .u64 (.ofNat 0), .int .u64 (.ofNat 0), .int .u8 (.ofNat 0), .int .u8 (.ofNat 0), .int .u64 (.ofNat 0), .int .u64 (.ofNat 0), .int .u64 (.ofNat 0), .str [], .str [], .str []] := ⟨by kernel_rfl⟩
instance zl95 : ZL ctx 95 [.nilSlice] := ⟨by kernel_rfl⟩
instance zl105 : ZL ctx 105 [.int .u8 (.ofNat 0), .int .i64 (.ofNat 0), .int .i64 (.ofNat 0)] := ⟨by kernel_rfl⟩
instance zl106 : ZL ctx 106 (repl 7 [.int .u8 (.ofNat 0), .int .i64 (.ofNat 0), .int .i64 (.ofNat 0)]) := ⟨by kernel_rfl⟩
instance zl110 : ZL ctx 110 [.bool false, .bool false, .bool false, .int .u64 (.ofNat 0)] := ⟨by kernel_rfl⟩
instance zl112 : ZL ctx 112 [.int .u64 (.ofNat 0), .int .u64 (.ofNat 0), .bool false, .bool false, .bool false, .int .u64 (.ofNat 0)] := ⟨by kernel_rfl⟩
instance zl118 : ZL ctx 118 [.int .i64 (.ofNat 0), .int .i64 (.ofNat 0), .nilSlice, .int .i64 (.ofNat 0), .nilSlice, .int .i64 (.ofNat 0), .nilSlice, .int .i64 (.ofNat 0), .nilSlice, .int .i64 (.ofNat 0), .nilSlice, .int .i64 (.ofNat 0), .nilSlice, .int .i64 (.ofNat 0), .nilSlice, .int .i64 (.ofNat 0), .nilSlice, .int .i64 (.ofNat 0), .nilSlice, .int .i64 (.ofNat 0), .nilSlice, .int .i64 (.ofNat 0), .nilSlice, .int .i64 (.ofNat 0), .nilSlice, .int .i64 (.ofNat 0), .nilSlice, .int .i64 (.ofNat 0), .nilSlice, .int .i64 (.ofNat 0), .nilSlice, .int .i64 (.ofNat 0), .nilSlice, .int .i64 (.ofNat 0), .nilSlice, .int .i64 (.ofNat 0), .nilSlice, .int .i64 (.ofNat 0), .nilSlice, .int .i64 (.ofNat 0), .nilSlice, .int .i64 (.ofNat 0), .nilSlice, .int .i64 (.ofNat 0), .nilSlice, .int .i64 (.ofNat 0), .nilSlice, .int .i64 (.ofNat 0), .nilSlice, .int .i64 (.ofNat 0), .nilSlice, .int .i64 (.ofNat 0), .nilSlice, .int .i64 (.ofNat 0), .nilSlice, .int .i64 (.ofNat 0), .nilSlice, .int .i64 (.ofNat 0), .nilSlice, .int .i64 (.ofNat 0), .nilSlice, .int .i64 (.ofNat 0), .nilSlice, .int .i64 (.ofNat 0), .nilSlice, .int .i64 (.ofNat 0), .nilSlice, .int .i64 (.ofNat 0), .nilSlice, .int .i64 (.ofNat 0), .nilSlice, .int .i64 (.ofNat 0), .nilSlice, .int .i64 (.ofNat 0), .nilSlice, .int .i64 (.ofNat 0), .nilSlice, .int .i64 (.ofNat 0), .nilSlice, .int .i64 (.ofNat 0), .nilSlice, .int .i64 (.ofNat 0), .nilSlice, .int .i64 (.ofNat 0), .nilSlice, .int .i64 (.ofNat 0), .nilSlice, .int .i64 (.ofNat 0), .nilSlice, .int .i64 (.ofNat 0), .nilSlice, .int .i64 (.ofNat 0), .nilSlice, .int .i64 (.ofNat 0), .nilSlice, .int .i64 (.ofNat 0), .nilSlice, .int .i64 (.ofNat 0), .nilSlice, .int .i64 (.ofNat 0), .nilSlice, .int .i64 (.ofNat 0), .nilSlice, .int .i64 (.ofNat 0), .nilSlice, .int .i64 (.ofNat 0), .nilSlice, .int .i64 (.ofNat 0), .nilSlice, .int .i64 (.ofNat 0), .nilSlice, .int .i64 (.ofNat 0), .nilSlice, .int .i64 (.ofNat 0), .nilSlice, .int .i64 (.ofNat 0), .nilSlice, .int .i64 (.ofNat 0), .nilSlice, .int .i64 (.ofNat 0), .nilSlice, .int .i64 (.ofNat 0), .nilSlice, .int .i64 (.ofNat 0), .nilSlice, .int .i64 (.ofNat 0), .nilSlice, .int .i64 (.ofNat 0), .nilSlice, .int .i64 (.ofNat 0), .nilSlice, .int .i64 (.ofNat 0), .nilSlice, .int .i64 (.ofNat 0), .nilSlice, .int .i64 (.ofNat 0), .nilSlice, .int .i64 (.ofNat 0), .nilSlice, .int .i64 (.ofNat 0), .nilSlice] := ⟨by kernel_rfl⟩
instance zl124 : ZL ctx 124 [.nilPtr, .nilPtr, .int .i64 (.ofNat 0), .nilPtr, .int .u8 (.ofNat 0), .int .i64 (.ofNat 0), .int .u64 (.ofNat 0), .int .u64 (.ofNat 0), .int .u8 (.ofNat 0), .int .u8 (.ofNat 0), .int .u64 (.ofNat 0), .int .u64 (.ofNat 0), .int .u64 (.ofNat 0), .str [], .str [], .str [], .nilFunc, .int .u8 (.ofNat 0), .int .i64 (.ofNat 0), .int .u64 (.ofNat 0), .int .i64 (.ofNat 0), .int .u64 (.ofNat 0), .int .u64 (.ofNat 0), .str [], .bool false] := ⟨by kernel_rfl⟩
instance zl127 : ZL ctx 127 [.nilSlice] := ⟨by kernel_rfl⟩
instance zl132 : ZL ctx 132 [.nilFunc] := ⟨by kernel_rfl⟩
instance zl143 : ZL ctx 143 [.bool false, .int .u64 (.ofNat 0), .int .u64 (.ofNat 0)] := ⟨by kernel_rfl⟩
instance zl151 : ZL ctx 151 [.nilSlice, .nilMap, .nilSlice] := ⟨by kernel_rfl⟩
instance zl154 : ZL ctx 154 [.nilPtr, .int .i64 (.ofNat 0), .int .i64 (.ofNat 0), .int .i64 (.ofNat 0), .int .i64 (.ofNat 0), .nilSlice] := ⟨by kernel_rfl⟩
instance zl162 : ZL ctx 162 [.bool false, .bool false, .nilSlice] := ⟨by kernel_rfl⟩
instance zl164 : ZL ctx 164 [.nilPtr, .int .i64 (.ofNat 0), .int .i64 (.ofNat 0), .int .i64 (.ofNat 0), .int .i64 (.ofNat 0)] := ⟨by kernel_rfl⟩
instance zl212 : ZL ctx 212 [.int .i64 (.ofNat 0), .int .u64 (.ofNat 0)] := ⟨by kernel_rfl⟩
instance zl254 : ZL ctx 254 [.int .u8 (.ofNat 0), .nilFunc] := ⟨by kernel_rfl⟩
instance zl297 : ZL ctx 297 [.nilFunc] := ⟨by kernel_rfl⟩
instance zl357 : ZL ctx 357 [.int .u64 (.ofNat 0)] := ⟨by kernel_rfl⟩
instance fs26 : FS ctx 26 [(0, 3, 1, false), (1, 3, 1, false), (2, 3, 1, false)] := ⟨by kernel_rfl⟩
instance fs57 : FS ctx 57 [(0, 35, 1, false), (1, 23, 1, false), (2, 23, 1, false), (3, 9, 1, false)] := ⟨by kernel_rfl⟩
instance fs61 : FS ctx 61 [(0, 55, 1, false), (1, 35, 1, false), (2, 23, 1, false), (3, 57, 4, false)] := ⟨by kernel_rfl⟩
instance fs79 : FS ctx 79 [(0, 38, 1, false), (1, 77, 1, false), (2, 75, 1, false), (3, 75, 1, false), (4, 76, 1, false), (5, 3, 1, false)] := ⟨by kernel_rfl⟩
instance fs88 : FS ctx 88 [(0, 3, 1, false), (1, 54, 12, false)] := ⟨by kernel_rfl⟩
instance fs105 : FS ctx 105 [(0, 70, 1, false), (1, 3, 1, false), (2, 3, 1, false)] := ⟨by kernel_rfl⟩
instance fs110 : FS ctx 110 [(0, 4, 1, false), (1, 4, 1, false), (2, 4, 1, false), (3, 23, 1, false)] := ⟨by kernel_rfl⟩
instance fs118 : FS ctx 118 [(0, 3, 1, false), (1, 116, 140, false)] := ⟨by kernel_rfl⟩
instance fs124 : FS ctx 124 [(0, 38, 1, false), (1, 72, 1, false), (2, 3, 1, false), (3, 119, 1, false), (4, 54, 12, false), (16, 122, 1, false), (17, 61, 7, false), (24, 4, 1, false)] := ⟨by kernel_rfl⟩
instance fs127 : FS ctx 127 [(0, 125, 1, false)] := ⟨by kernel_rfl⟩
instance fs143 : FS ctx 143 [(0, 4, 1, false), (1, 23, 1, false), (2, 23, 1, false)] := ⟨by kernel_rfl⟩
instance fs151 : FS ctx 151 [(0, 28, 1, false), (1, 149, 1, false), (2, 95, 1, false)] := ⟨by kernel_rfl⟩
instance fs154 : FS ctx 154 [(0, 38, 1, false), (1, 26, 3, false), (4, 3, 1, false), (5, 152, 1, false)] := ⟨by kernel_rfl⟩
instance fs162 : FS ctx 162 [(0, 4, 1, false), (1, 4, 1, false), (2, 95, 1, false)] := ⟨by kernel_rfl⟩
instance fs164 : FS ctx 164 [(0, 101, 1, false), (1, 26, 3, false), (4, 3, 1, false)] := ⟨by kernel_rfl⟩
instance fs212 : FS ctx 212 [(0, 3, 1, false), (1, 23, 1, false)] := ⟨by kernel_rfl⟩
instance fs254 : FS ctx 254 [(0, 214, 1, false), (1, 252, 1, false)] := ⟨by kernel_rfl⟩
instance fs357 : FS ctx 357 [(0, 23, 1, false)] := ⟨by kernel_rfl⟩
instance by3 : BY ctx 3 8 := ⟨by kernel_rfl⟩
instance by23 : BY ctx 23 8 := ⟨by kernel_rfl⟩
instance by75 : BY ctx 75 24 := ⟨by kernel_rfl⟩
instance by80 : BY ctx 80 8 := ⟨by kernel_rfl⟩
instance by88 : BY ctx 88 120 := ⟨by kernel_rfl⟩
instance by112 : BY ctx 112 32 := ⟨by kernel_rfl⟩
instance by212 : BY ctx 212 16 := ⟨by kernel_rfl⟩
instance by254 : BY ctx 254 16 := ⟨by kernel_rfl⟩
instance by297 : BY ctx 297 8 := ⟨by kernel_rfl⟩
instance pt34 : Pt ctx 34 := .of (by kernel_rfl)
instance pt38 : Pt ctx 38 := .of (by kernel_rfl)
instance pt72 : Pt ctx 72 := .of (by kernel_rfl)
instance pt80 : Pt ctx 80 := .of (by kernel_rfl)
instance pt101 : Pt ctx 101 := .of (by kernel_rfl)
instance pt119 : Pt ctx 119 := .of (by kernel_rfl)
instance pt187 : Pt ctx 187 := .of (by kernel_rfl)
instance pt309 : Pt ctx 309 := .of (by kernel_rfl)
instance sc28 : Sc ctx 28 1 := .of (by kernel_rfl)
instance sc75 : Sc ctx 75 13 := .of (by kernel_rfl)
instance sc95 : Sc ctx 95 1 := .of (by kernel_rfl)
instance sc125 : Sc ctx 125 6 := .of (by kernel_rfl)
instance sc152 : Sc ctx 152 2 := .of (by kernel_rfl)
instance cv3_23 : Cv ctx 3 23 .u64 := ⟨fun k n h => by kernel_rfl⟩
instance cv3_232 : Cv ctx 3 232 .u64 := ⟨fun k n h => by kernel_rfl⟩
instance cv5_3 : Cv ctx 5 3 .i64 := ⟨fun k n h => by kernel_rfl⟩
instance cv23_3 : Cv ctx 23 3 .i64 := ⟨fun k n h => by kernel_rfl⟩
instance cv23_5 : Cv ctx 23 5 .u8 := ⟨fun k n h => by kernel_rfl⟩
instance cv23_35 : Cv ctx 23 35 .i64 := ⟨fun k n h => by kernel_rfl⟩
instance cv30_3 : Cv ctx 30 3 .i64 := ⟨fun k n h => by kernel_rfl⟩
instance cv232_285 : Cv ctx 232 285 .u32 := ⟨fun k n h => by kernel_rfl⟩
instance ts105 : TS ctx 105 3 true := .of (by kernel_rfl)
section
theorem u3 (n : Nat) (args : List AV) (h : H) : K.run tbS ty (n + 1) (.fn 3) args h = r3 (K.run tbS ty n) args h := by kernel_rfl
theorem u5 (n : Nat) (args : List AV) (h : H) : K.run tbS ty (n + 1) (.fn 5) args h = r5 (K.run tbS ty n) args h := by kernel_rfl
theorem u6 (n : Nat) (args : List AV) (h : H) : K.run tbS ty (n + 1) (.fn 6) args h = r6 (K.run tbS ty n) args h := by kernel_rfl
theorem u7 (n : Nat) (args : List AV) (h : H) : K.run tbS ty (n + 1) (.fn 7) args h = r7 (K.run tbS ty n) args h := by kernel_rfl
theorem u8 (n : Nat) (args : List AV) (h : H) : K.run tbS ty (n + 1) (.fn 8) args h = r8 (K.run tbS ty n) args h := by kernel_rfl
theorem u9 (n : Nat) (args : List AV) (h : H) : K.run tbS ty (n + 1) (.fn 9) args h = r9 (K.run tbS ty n) args h := by kernel_rfl
theorem u10 (n : Nat) (args : List AV) (h : H) : K.run tbS ty (n + 1) (.fn 10) args h = r10 (K.run tbS ty n) args h := by kernel_rfl
theorem u11 (n : Nat) (args : List AV) (h : H) : K.run tbS ty (n + 1) (.fn 11) args h = r11 (K.run tbS ty n) args h := by kernel_rfl
theorem u12 (n : Nat) (args : List AV) (h : H) : K.run tbS ty (n + 1) (.fn 12) args h = r12 (K.run tbS ty n) args h := by kernel_rfl
theorem u13 (n : Nat) (args : List AV) (h : H) : K.run tbS ty (n + 1) (.fn 13) args h = r13 (K.run tbS ty n) args h := by kernel_rfl
theorem u14 (n : Nat) (args : List AV) (h : H) : K.run tbS ty (n + 1) (.fn 14) args h = r14 (K.run tbS ty n) args h := by kernel_rfl
theorem u15 (n : Nat) (args : List AV) (h : H) : K.run tbS ty (n + 1) (.fn 15) args h = r15 (K.run tbS ty n) args h := by kernel_rfl
theorem u16 (n : Nat) (args : List AV) (h : H) : K.run tbS ty (n + 1) (.fn 16) args h = r16 (K.run tbS ty n) args h := by kernel_rfl
theorem u17 (n : Nat) (args : List AV) (h : H) : K.run tbS ty (n + 1) (.fn 17) args h = r17 (K.run tbS ty n) args h := by kernel_rfl
theorem u18 (n : Nat) (args : List AV) (h : H) : K.run tbS ty (n + 1) (.fn 18) args h = r18 (K.run tbS ty n) args h := by kernel_rfl
theorem u19 (n : Nat) (args : List AV) (h : H) : K.run tbS ty (n + 1) (.fn 19) args h = r19 (K.run tbS ty n) args h := by kernel_rfl
theorem u20 (n : Nat) (args : List AV) (h : H) : K.run tbS ty (n + 1) (.fn 20) args h = r20 (K.run tbS ty n) args h := by kernel_rfl
theorem u21 (n : Nat) (args : List AV) (h : H) : K.run tbS ty (n + 1) (.fn 21) args h = r21 (K.run tbS ty n) args h := by kernel_rfl
theorem u22 (n : Nat) (args : List AV) (h : H) : K.run tbS ty (n + 1) (.fn 22) args h = r22 (K.run tbS ty n) args h := by kernel_rfl
theorem u23 (n : Nat) (args : List AV) (h : H) : K.run tbS ty (n + 1) (.fn 23) args h = r23 (K.run tbS ty n) args h := by kernel_rfl
theorem u24 (n : Nat) (args : List AV) (h : H) : K.run tbS ty (n + 1) (.fn 24) args h = r24 (K.run tbS ty n) args h := by kernel_rfl
theorem u25 (n : Nat) (args : List AV) (h : H) : K.run tbS ty (n + 1) (.fn 25) args h = r25 (K.run tbS ty n) args h := by kernel_rfl
theorem u26 (n : Nat) (args : List AV) (h : H) : K.run tbS ty (n + 1) (.fn 26) args h = r26 (K.run tbS ty n) args h := by kernel_rfl
theorem u27 (n : Nat) (args : List AV) (h : H) : K.run tbS ty (n + 1) (.fn 27) args h = r27 (K.run tbS ty n) args h := by kernel_rfl
theorem u28 (n : Nat) (args : List AV) (h : H) : K.run tbS ty (n + 1) (.fn 28) args h = r28 (K.run tbS ty n) args h := by kernel_rfl
theorem u29 (n : Nat) (args : List AV) (h : H) : K.run tbS ty (n + 1) (.fn 29) args h = r29 (K.run tbS ty n) args h := by kernel_rfl
theorem u30 (n : Nat) (args : List AV) (h : H) : K.run tbS ty (n + 1) (.fn 30) args h = r30 (K.run tbS ty n) args h := by kernel_rfl
theorem u31 (n : Nat) (args : List AV) (h : H) : K.run tbS ty (n + 1) (.fn 31) args h = r31 (K.run tbS ty n) args h := by kernel_rfl
theorem u32 (n : Nat) (args : List AV) (h : H) : K.run tbS ty (n + 1) (.fn 32) args h = r32 (K.run tbS ty n) args h := by kernel_rfl
theorem u33 (n : Nat) (args : List AV) (h : H) : K.run tbS ty (n + 1) (.fn 33) args h = r33 (K.run tbS ty n) args h := by kernel_rfl
theorem u34 (n : Nat) (args : List AV) (h : H) : K.run tbS ty (n + 1) (.fn 34) args h = r34 (K.run tbS ty n) args h := by kernel_rfl
theorem u35 (n : Nat) (args : List AV) (h : H) : K.run tbS ty (n + 1) (.fn 35) args h = r35 (K.run tbS ty n) args h := by kernel_rfl
theorem u36 (n : Nat) (args : List AV) (h : H) : K.run tbS ty (n + 1) (.fn 36) args h = r36 (K.run tbS ty n) args h := by kernel_rfl
theorem u37 (n : Nat) (args : List AV) (h : H) : K.run tbS ty (n + 1) (.fn 37) args h = r37 (K.run tbS ty n) args h := by kernel_rfl
theorem u38 (n : Nat) (args : List AV) (h : H) : K.run tbS ty (n + 1) (.fn 38) args h = r38 (K.run tbS ty n) args h := by kernel_rfl
theorem u39 (n : Nat) (args : List AV) (h : H) : K.run tbS ty (n + 1) (.fn 39) args h = r39 (K.run tbS ty n) args h := by kernel_rfl
theorem u40 (n : Nat) (args : List AV) (h : H) : K.run tbS ty (n + 1) (.fn 40) args h = r40 (K.run tbS ty n) args h := by kernel_rfl
theorem u41 (n : Nat) (args : List AV) (h : H) : K.run tbS ty (n + 1) (.fn 41) args h = r41 (K.run tbS ty n) args h := by kernel_rfl
theorem u43 (n : Nat) (args : List AV) (h : H) : K.run tbS ty (n + 1) (.fn 43) args h = r43 (K.run tbS ty n) args h := by kernel_rfl
theorem u44 (n : Nat) (args : List AV) (h : H) : K.run tbS ty (n + 1) (.fn 44) args h = r44 (K.run tbS ty n) args h := by kernel_rfl
theorem u45 (n : Nat) (args : List AV) (h : H) : K.run tbS ty (n + 1) (.fn 45) args h = r45 (K.run tbS ty n) args h := by kernel_rfl
theorem u46 (n : Nat) (args : List AV) (h : H) : K.run tbS ty (n + 1) (.fn 46) args h = r46 (K.run tbS ty n) args h := by kernel_rfl
theorem u47 (n : Nat) (args : List AV) (h : H) : K.run tbS ty (n + 1) (.fn 47) args h = r47 (K.run tbS ty n) args h := by kernel_rfl
theorem u48 (n : Nat) (args : List AV) (h : H) : K.run tbS ty (n + 1) (.fn 48) args h = r48 (K.run tbS ty n) args h := by kernel_rfl
theorem u49 (n : Nat) (args : List AV) (h : H) : K.run tbS ty (n + 1) (.fn 49) args h = r49 (K.run tbS ty n) args h := by kernel_rfl
theorem u50 (n : Nat) (args : List AV) (h : H) : K.run tbS ty (n + 1) (.fn 50) args h = r50 (K.run tbS ty n) args h := by kernel_rfl
theorem u51 (n : Nat) (args : List AV) (h : H) : K.run tbS ty (n + 1) (.fn 51) args h = r51 (K.run tbS ty n) args h := by kernel_rfl
theorem u52 (n : Nat) (args : List AV) (h : H) : K.run tbS ty (n + 1) (.fn 52) args h = r52 (K.run tbS ty n) args h := by kernel_rfl
theorem u53 (n : Nat) (args : List AV) (h : H) : K.run tbS ty (n + 1) (.fn 53) args h = r53 (K.run tbS ty n) args h := by kernel_rfl
theorem u54 (n : Nat) (args : List AV) (h : H) : K.run tbS ty (n + 1) (.fn 54) args h = r54 (K.run tbS ty n) args h := by kernel_rfl
theorem u55 (n : Nat) (args : List AV) (h : H) : K.run tbS ty (n + 1) (.fn 55) args h = r55 (K.run tbS ty n) args h := by kernel_rfl
theorem u56 (n : Nat) (args : List AV) (h : H) : K.run tbS ty (n + 1) (.fn 56) args h = r56 (K.run tbS ty n) args h := by kernel_rfl
theorem u57 (n : Nat) (args : List AV) (h : H) : K.run tbS ty (n + 1) (.fn 57) args h = r57 (K.run tbS ty n) args h := by kernel_rfl
theorem u58 (n : Nat) (args : List AV) (h : H) : K.run tbS ty (n + 1) (.fn 58) args h = r58 (K.run tbS ty n) args h := by kernel_rfl
theorem u59 (n : Nat) (args : List AV) (h : H) : K.run tbS ty (n + 1) (.fn 59) args h = r59 (K.run tbS ty n) args h := by kernel_rfl
theorem u60 (n : Nat) (args : List AV) (h : H) : K.run tbS ty (n + 1) (.fn 60) args h = r60 (K.run tbS ty n) args h := by kernel_rfl
theorem u61 (n : Nat) (args : List AV) (h : H) : K.run tbS ty (n + 1) (.fn 61) args h = r61 (K.run tbS ty n) args h := by kernel_rfl
theorem u62 (n : Nat) (args : List AV) (h : H) : K.run tbS ty (n + 1) (.fn 62) args h = r62 (K.run tbS ty n) args h := by kernel_rfl
theorem u63 (n : Nat) (args : List AV) (h : H) : K.run tbS ty (n + 1) (.fn 63) args h = r63 (K.run tbS ty n) args h := by kernel_rfl
theorem u64 (n : Nat) (args : List AV) (h : H) : K.run tbS ty (n + 1) (.fn 64) args h = r64 (K.run tbS ty n) args h := by kernel_rfl
theorem u65 (n : Nat) (args : List AV) (h : H) : K.run tbS ty (n + 1) (.fn 65) args h = r65 (K.run tbS ty n) args h := by kernel_rfl
theorem u66 (n : Nat) (args : List AV) (h : H) : K.run tbS ty (n + 1) (.fn 66) args h = r66 (K.run tbS ty n) args h := by kernel_rfl
theorem u67 (n : Nat) (args : List AV) (h : H) : K.run tbS ty (n + 1) (.fn 67) args h = r67 (K.run tbS ty n) args h := by kernel_rfl
theorem u68 (n : Nat) (args : List AV) (h : H) : K.run tbS ty (n + 1) (.fn 68) args h = r68 (K.run tbS ty n) args h := by kernel_rfl
theorem u69 (n : Nat) (args : List AV) (h : H) : K.run tbS ty (n + 1) (.fn 69) args h = r69 (K.run tbS ty n) args h := by kernel_rfl
theorem u70 (n : Nat) (args : List AV) (h : H) : K.run tbS ty (n + 1) (.fn 70) args h = r70 (K.run tbS ty n) args h := by kernel_rfl
theorem u71 (n : Nat) (args : List AV) (h : H) : K.run tbS ty (n + 1) (.fn 71) args h = r71 (K.run tbS ty n) args h := by kernel_rfl
theorem u72 (n : Nat) (args : List AV) (h : H) : K.run tbS ty (n + 1) (.fn 72) args h = r72 (K.run tbS ty n) args h := by kernel_rfl
theorem u74 (n : Nat) (args : List AV) (h : H) : K.run tbS ty (n + 1) (.fn 74) args h = r74 (K.run tbS ty n) args h := by kernel_rfl
theorem u75 (n : Nat) (args : List AV) (h : H) : K.run tbS ty (n + 1) (.fn 75) args h = r75 (K.run tbS ty n) args h := by kernel_rfl
theorem u76 (n : Nat) (args : List AV) (h : H) : K.run tbS ty (n + 1) (.fn 76) args h = r76 (K.run tbS ty n) args h := by kernel_rfl
theorem u77 (n : Nat) (args : List AV) (h : H) : K.run tbS ty (n + 1) (.fn 77) args h = r77 (K.run tbS ty n) args h := by kernel_rfl
theorem u78 (n : Nat) (args : List AV) (h : H) : K.run tbS ty (n + 1) (.fn 78) args h = r78 (K.run tbS ty n) args h := by kernel_rfl
theorem u79 (n : Nat) (args : List AV) (h : H) : K.run tbS ty (n + 1) (.fn 79) args h = r79 (K.run tbS ty n) args h := by kernel_rfl
theorem u80 (n : Nat) (args : List AV) (h : H) : K.run tbS ty (n + 1) (.fn 80) args h = r80 (K.run tbS ty n) args h := by kernel_rfl
theorem u82 (n : Nat) (args : List AV) (h : H) : K.run tbS ty (n + 1) (.fn 82) args h = r82 (K.run tbS ty n) args h := by kernel_rfl
theorem u83 (n : Nat) (args : List AV) (h : H) : K.run tbS ty (n + 1) (.fn 83) args h = r83 (K.run tbS ty n) args h := by kernel_rfl
theorem u84 (n : Nat) (args : List AV) (h : H) : K.run tbS ty (n + 1) (.fn 84) args h = r84 (K.run tbS ty n) args h := by kernel_rfl
theorem u85 (n : Nat) (args : List AV) (h : H) : K.run tbS ty (n + 1) (.fn 85) args h = r85 (K.run tbS ty n) args h := by kernel_rfl
theorem u86 (n : Nat) (args : List AV) (h : H) : K.run tbS ty (n + 1) (.fn 86) args h = r86 (K.run tbS ty n) args h := by kernel_rfl
theorem u87 (n : Nat) (args : List AV) (h : H) : K.run tbS ty (n + 1) (.fn 87) args h = r87 (K.run tbS ty n) args h := by kernel_rfl
theorem u88 (n : Nat) (args : List AV) (h : H) : K.run tbS ty (n + 1) (.fn 88) args h = r88 (K.run tbS ty n) args h := by kernel_rfl
theorem u89 (n : Nat) (args : List AV) (h : H) : K.run tbS ty (n + 1) (.fn 89) args h = r89 (K.run tbS ty n) args h := by kernel_rfl
theorem u90 (n : Nat) (args : List AV) (h : H) : K.run tbS ty (n + 1) (.fn 90) args h = r90 (K.run tbS ty n) args h := by kernel_rfl
theorem u91 (n : Nat) (args : List AV) (h : H) : K.run tbS ty (n + 1) (.fn 91) args h = r91 (K.run tbS ty n) args h := by kernel_rfl
theorem u92 (n : Nat) (args : List AV) (h : H) : K.run tbS ty (n + 1) (.fn 92) args h = r92 (K.run tbS ty n) args h := by kernel_rfl
theorem u96 (n : Nat) (args : List AV) (h : H) : K.run tbS ty (n + 1) (.fn 96) args h = r96 (K.run tbS ty n) args h := by kernel_rfl
theorem u97 (n : Nat) (args : List AV) (h : H) : K.run tbS ty (n + 1) (.fn 97) args h = r97 (K.run tbS ty n) args h := by kernel_rfl
theorem u98 (n : Nat) (args : List AV) (h : H) : K.run tbS ty (n + 1) (.fn 98) args h = r98 (K.run tbS ty n) args h := by kernel_rfl
theorem u99 (n : Nat) (args : List AV) (h : H) : K.run tbS ty (n + 1) (.fn 99) args h = r99 (K.run tbS ty n) args h := by kernel_rfl
theorem u100 (n : Nat) (args : List AV) (h : H) : K.run tbS ty (n + 1) (.fn 100) args h = r100 (K.run tbS ty n) args h := by kernel_rfl
theorem u101 (n : Nat) (args : List AV) (h : H) : K.run tbS ty (n + 1) (.fn 101) args h = r101 (K.run tbS ty n) args h := by kernel_rfl
theorem u102 (n : Nat) (args : List AV) (h : H) : K.run tbS ty (n + 1) (.fn 102) args h = r102 (K.run tbS ty n) args h := by kernel_rfl
theorem u103 (n : Nat) (args : List AV) (h : H) : K.run tbS ty (n + 1) (.fn 103) args h = r103 (K.run tbS ty n) args h := by kernel_rfl
theorem u107 (n : Nat) (args : List AV) (h : H) : K.run tbS ty (n + 1) (.fn 107) args h = r107 (K.run tbS ty n) args h := by kernel_rfl
theorem u109 (n : Nat) (args : List AV) (h : H) : K.run tbS ty (n + 1) (.fn 109) args h = r109 (K.run tbS ty n) args h := by kernel_rfl
theorem u110 (n : Nat) (args : List AV) (h : H) : K.run tbS ty (n + 1) (.fn 110) args h = r110 (K.run tbS ty n) args h := by kernel_rfl
theorem u111 (n : Nat) (args : List AV) (h : H) : K.run tbS ty (n + 1) (.fn 111) args h = r111 (K.run tbS ty n) args h := by kernel_rfl
theorem u112 (n : Nat) (args : List AV) (h : H) : K.run tbS ty (n + 1) (.fn 112) args h = r112 (K.run tbS ty n) args h := by kernel_rfl
theorem u113 (n : Nat) (args : List AV) (h : H) : K.run tbS ty (n + 1) (.fn 113) args h = r113 (K.run tbS ty n) args h := by kernel_rfl
theorem u114 (n : Nat) (args : List AV) (h : H) : K.run tbS ty (n + 1) (.fn 114) args h = r114 (K.run tbS ty n) args h := by kernel_rfl
theorem u115 (n : Nat) (args : List AV) (h : H) : K.run tbS ty (n + 1) (.fn 115) args h = r115 (K.run tbS ty n) args h := by kernel_rfl
theorem u116 (n : Nat) (args : List AV) (h : H) : K.run tbS ty (n + 1) (.fn 116) args h = r116 (K.run tbS ty n) args h := by kernel_rfl
theorem u117 (n : Nat) (args : List AV) (h : H) : K.run tbS ty (n + 1) (.fn 117) args h = r117 (K.run tbS ty n) args h := by kernel_rfl
theorem u118 (n : Nat) (args : List AV) (h : H) : K.run tbS ty (n + 1) (.fn 118) args h = r118 (K.run tbS ty n) args h := by kernel_rfl
theorem u123 (n : Nat) (args : List AV) (h : H) : K.run tbS ty (n + 1) (.fn 123) args h = r123 (K.run tbS ty n) args h := by kernel_rfl
theorem u124 (n : Nat) (args : List AV) (h : H) : K.run tbS ty (n + 1) (.fn 124) args h = r124 (K.run tbS ty n) args h := by kernel_rfl
theorem u125 (n : Nat) (args : List AV) (h : H) : K.run tbS ty (n + 1) (.fn 125) args h = r125 (K.run tbS ty n) args h := by kernel_rfl
theorem u126 (n : Nat) (args : List AV) (h : H) : K.run tbS ty (n + 1) (.fn 126) args h = r126 (K.run tbS ty n) args h := by kernel_rfl
theorem u127 (n : Nat) (args : List AV) (h : H) : K.run tbS ty (n + 1) (.fn 127) args h = r127 (K.run tbS ty n) args h := by kernel_rfl
theorem u128 (n : Nat) (args : List AV) (h : H) : K.run tbS ty (n + 1) (.fn 128) args h = r128 (K.run tbS ty n) args h := by kernel_rfl
theorem u129 (n : Nat) (args : List AV) (h : H) : K.run tbS ty (n + 1) (.fn 129) args h = r129 (K.run tbS ty n) args h := by kernel_rfl
theorem u133 (n : Nat) (args : List AV) (h : H) : K.run tbS ty (n + 1) (.fn 133) args h = r133 (K.run tbS ty n) args h := by kernel_rfl
theorem u135 (n : Nat) (args : List AV) (h : H) : K.run tbS ty (n + 1) (.fn 135) args h = r135 (K.run tbS ty n) args h := by kernel_rfl
theorem u136 (n : Nat) (args : List AV) (h : H) : K.run tbS ty (n + 1) (.fn 136) args h = r136 (K.run tbS ty n) args h := by kernel_rfl
theorem u139 (n : Nat) (args : List AV) (h : H) : K.run tbS ty (n + 1) (.fn 139) args h = r139 (K.run tbS ty n) args h := by kernel_rfl
theorem u140 (n : Nat) (args : List AV) (h : H) : K.run tbS ty (n + 1) (.fn 140) args h = r140 (K.run tbS ty n) args h := by kernel_rfl
theorem u141 (n : Nat) (args : List AV) (h : H) : K.run tbS ty (n + 1) (.fn 141) args h = r141 (K.run tbS ty n) args h := by kernel_rfl
theorem u142 (n : Nat) (args : List AV) (h : H) : K.run tbS ty (n + 1) (.fn 142) args h = r142 (K.run tbS ty n) args h := by kernel_rfl
theorem u143 (n : Nat) (args : List AV) (h : H) : K.run tbS ty (n + 1) (.fn 143) args h = r143 (K.run tbS ty n) args h := by kernel_rfl
theorem u144 (n : Nat) (args : List AV) (h : H) : K.run tbS ty (n + 1) (.fn 144) args h = r144 (K.run tbS ty n) args h := by kernel_rfl
theorem u145 (n : Nat) (args : List AV) (h : H) : K.run tbS ty (n + 1) (.fn 145) args h = r145 (K.run tbS ty n) args h := by kernel_rfl
theorem u146 (n : Nat) (args : List AV) (h : H) : K.run tbS ty (n + 1) (.fn 146) args h = r146 (K.run tbS ty n) args h := by kernel_rfl
theorem u148 (n : Nat) (args : List AV) (h : H) : K.run tbS ty (n + 1) (.fn 148) args h = r148 (K.run tbS ty n) args h := by kernel_rfl
theorem u156 (n : Nat) (args : List AV) (h : H) : K.run tbS ty (n + 1) (.fn 156) args h = r156 (K.run tbS ty n) args h := by kernel_rfl
theorem u157 (n : Nat) (args : List AV) (h : H) : K.run tbS ty (n + 1) (.fn 157) args h = r157 (K.run tbS ty n) args h := by kernel_rfl
theorem u163 (n : Nat) (args : List AV) (h : H) : K.run tbS ty (n + 1) (.fn 163) args h = r163 (K.run tbS ty n) args h := by kernel_rfl
theorem u167 (n : Nat) (args : List AV) (h : H) : K.run tbS ty (n + 1) (.fn 167) args h = r167 (K.run tbS ty n) args h := by kernel_rfl
theorem u171 (n : Nat) (args : List AV) (h : H) : K.run tbS ty (n + 1) (.fn 171) args h = r171 (K.run tbS ty n) args h := by kernel_rfl
theorem u173 (n : Nat) (args : List AV) (h : H) : K.run tbS ty (n + 1) (.fn 173) args h = r173 (K.run tbS ty n) args h := by kernel_rfl
theorem u174 (n : Nat) (args : List AV) (h : H) : K.run tbS ty (n + 1) (.fn 174) args h = r174 (K.run tbS ty n) args h := by kernel_rfl
theorem u175 (n : Nat) (args : List AV) (h : H) : K.run tbS ty (n + 1) (.fn 175) args h = r175 (K.run tbS ty n) args h := by kernel_rfl
theorem u178 (n : Nat) (args : List AV) (h : H) : K.run tbS ty (n + 1) (.fn 178) args h = r178 (K.run tbS ty n) args h := by kernel_rfl
theorem u179 (n : Nat) (args : List AV) (h : H) : K.run tbS ty (n + 1) (.fn 179) args h = r179 (K.run tbS ty n) args h := by kernel_rfl
theorem u180 (n : Nat) (args : List AV) (h : H) : K.run tbS ty (n + 1) (.fn 180) args h = r180 (K.run tbS ty n) args h := by kernel_rfl
theorem u181 (n : Nat) (args : List AV) (h : H) : K.run tbS ty (n + 1) (.fn 181) args h = r181 (K.run tbS ty n) args h := by kernel_rfl
theorem u182 (n : Nat) (args : List AV) (h : H) : K.run tbS ty (n + 1) (.fn 182) args h = r182 (K.run tbS ty n) args h := by kernel_rfl
theorem u183 (n : Nat) (args : List AV) (h : H) : K.run tbS ty (n + 1) (.fn 183) args h = r183 (K.run tbS ty n) args h := by kernel_rfl
theorem u184 (n : Nat) (args : List AV) (h : H) : K.run tbS ty (n + 1) (.fn 184) args h = r184 (K.run tbS ty n) args h := by kernel_rfl
theorem u185 (n : Nat) (args : List AV) (h : H) : K.run tbS ty (n + 1) (.fn 185) args h = r185 (K.run tbS ty n) args h := by kernel_rfl
theorem u186 (n : Nat) (args : List AV) (h : H) : K.run tbS ty (n + 1) (.fn 186) args h = r186 (K.run tbS ty n) args h := by kernel_rfl
theorem u187 (n : Nat) (args : List AV) (h : H) : K.run tbS ty (n + 1) (.fn 187) args h = r187 (K.run tbS ty n) args h := by kernel_rfl
theorem u188 (n : Nat) (args : List AV) (h : H) : K.run tbS ty (n + 1) (.fn 188) args h = r188 (K.run tbS ty n) args h := by kernel_rfl
theorem u189 (n : Nat) (args : List AV) (h : H) : K.run tbS ty (n + 1) (.fn 189) args h = r189 (K.run tbS ty n) args h := by kernel_rfl
theorem u217 (n : Nat) (args : List AV) (h : H) : K.run tbS ty (n + 1) (.fn 217) args h = r217 (K.run tbS ty n) args h := by kernel_rfl
theorem u231 (n : Nat) (args : List AV) (h : H) : K.run tbS ty (n + 1) (.fn 231) args h = r231 (K.run tbS ty n) args h := by kernel_rfl
theorem u232 (n : Nat) (args : List AV) (h : H) : K.run tbS ty (n + 1) (.fn 232) args h = r232 (K.run tbS ty n) args h := by kernel_rfl
theorem u239 (n : Nat) (args : List AV) (h : H) : K.run tbS ty (n + 1) (.fn 239) args h = r239 (K.run tbS ty n) args h := by kernel_rfl
theorem u240 (n : Nat) (args : List AV) (h : H) : K.run tbS ty (n + 1) (.fn 240) args h = r240 (K.run tbS ty n) args h := by kernel_rfl
theorem u270 (n : Nat) (args : List AV) (h : H) : K.run tbS ty (n + 1) (.fn 270) args h = r270 (K.run tbS ty n) args h := by kernel_rfl
theorem yy1 : ty.get 1 = some ⟨y1⟩ := by kernel_rfl
theorem yy2 : ty.get 2 = some ⟨y2⟩ := by kernel_rfl
theorem yy3 : ty.get 3 = some ⟨y3⟩ := by kernel_rfl
theorem yy4 : ty.get 4 = some ⟨y4⟩ := by kernel_rfl
theorem yy5 : ty.get 5 = some ⟨y5⟩ := by kernel_rfl
end
end YthlpjeoddenioaaGreatDoorSfM
