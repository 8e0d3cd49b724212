/- WorldNil holds of the given program: for every input the law returns true and leaves its arguments as they were; the listed package-level variables hold what the program's text lays (the card ties them); no other condition. The run is computed by the kernel on the abstract machine, with the arguments left open. -/
import Derived.Test.YtjhcfoinldcaoaaGreatDoorWdAn
import Derived.Test.YtjhcfoinldcaoaaGreatDoorWdF9
import Derived.Test.YtjhcfoinldcaoaaGreatDoorRows
import Derived.Test.YtjhcfoinldcaoaaGreatDoorCards
import Derived.Test.YtjhcfoinldcaoaaGreatDoorTie
import Derived.Test.YtjhcfoinldcaoaaGreatDoorA4
import Derived.Test.YtjhcfoinldcaoaaGreatDoorA4
import Derived.SevenTiedAt
import Derived.LaidMore
namespace YtjhcfoinldcaoaaGreatDoorWdM
open Go Am Go.Proofs Go.Proofs.YtjhcfoinldcaoaaGreatDoor Go.RowKit
set_option maxRecDepth 1000000
theorem extEq : ctx.ext = ofPairs [(427, .indexByteString)] := by kernel_rfl
theorem extOk : ExtOk ctx Tryz.prog := extOk_index (f := 427) (fun g e h => by
  rw [extEq] at h
  have := ofPairs_get h
  simp only [List.mem_singleton, Prod.mk.injEq] at this
  exact this.1) Tryz.func427 (by kernel_rfl) (by kernel_rfl) (by kernel_rfl) (by kernel_rfl)
theorem extNo : ctx.ext.get 4 = none := by kernel_rfl
noncomputable def glL : List GlE := [⟨3, ⟨.yes (some (.int .u8 (.ofNat 0))) ⟨.yes (some (.int .u8 (.ofNat 1))) ⟨.no (some (.int .u8 (.ofNat 58)))⟩ ⟨.no (some (.int .u8 (.ofNat 47)))⟩ ⟨.no (some (.int .u8 (.ofNat 39)))⟩ ⟨.no (some (.int .u8 (.ofNat 55)))⟩ ⟨.no (some (.int .u8 (.ofNat 35)))⟩ ⟨.no (some (.int .u8 (.ofNat 26)))⟩ ⟨.no (some (.int .u8 (.ofNat 14)))⟩ .e⟩ ⟨.yes (some (.int .u8 (.ofNat 56))) ⟨.no (some (.int .u8 (.ofNat 42)))⟩ ⟨.no (some (.int .u8 (.ofNat 59)))⟩ ⟨.no (some (.int .u8 (.ofNat 33)))⟩ ⟨.no (some (.int .u8 (.ofNat 48)))⟩ ⟨.no (some (.int .u8 (.ofNat 44)))⟩ ⟨.no (some (.int .u8 (.ofNat 40)))⟩ ⟨.no (some (.int .u8 (.ofNat 19)))⟩ .e⟩ ⟨.yes (some (.int .u8 (.ofNat 2))) ⟨.no (some (.int .u8 (.ofNat 50)))⟩ ⟨.no (some (.int .u8 (.ofNat 36)))⟩ ⟨.no (some (.int .u8 (.ofNat 30)))⟩ ⟨.no (some (.int .u8 (.ofNat 27)))⟩ ⟨.no (some (.int .u8 (.ofNat 21)))⟩ ⟨.no (some (.int .u8 (.ofNat 15)))⟩ ⟨.no (some (.int .u8 (.ofNat 9)))⟩ .e⟩ ⟨.yes (some (.int .u8 (.ofNat 57))) ⟨.no (some (.int .u8 (.ofNat 38)))⟩ ⟨.no (some (.int .u8 (.ofNat 45)))⟩ ⟨.no (some (.int .u8 (.ofNat 24)))⟩ ⟨.no (some (.int .u8 (.ofNat 60)))⟩ ⟨.no (some (.int .u8 (.ofNat 52)))⟩ ⟨.no (some (.int .u8 (.ofNat 34)))⟩ ⟨.no (some (.int .u8 (.ofNat 13)))⟩ .e⟩ ⟨.yes (some (.int .u8 (.ofNat 49))) ⟨.no (some (.int .u8 (.ofNat 29)))⟩ ⟨.no (some (.int .u8 (.ofNat 43)))⟩ ⟨.no (some (.int .u8 (.ofNat 18)))⟩ ⟨.no (some (.int .u8 (.ofNat 41)))⟩ ⟨.no (some (.int .u8 (.ofNat 32)))⟩ ⟨.no (some (.int .u8 (.ofNat 20)))⟩ ⟨.no (some (.int .u8 (.ofNat 8)))⟩ .e⟩ ⟨.yes (some (.int .u8 (.ofNat 28))) ⟨.no (some (.int .u8 (.ofNat 17)))⟩ ⟨.no (some (.int .u8 (.ofNat 51)))⟩ ⟨.no (some (.int .u8 (.ofNat 12)))⟩ ⟨.no (some (.int .u8 (.ofNat 37)))⟩ ⟨.no (some (.int .u8 (.ofNat 23)))⟩ ⟨.no (some (.int .u8 (.ofNat 31)))⟩ ⟨.no (some (.int .u8 (.ofNat 7)))⟩ .e⟩ ⟨.yes (some (.int .u8 (.ofNat 3))) ⟨.no (some (.int .u8 (.ofNat 4)))⟩ ⟨.no (some (.int .u8 (.ofNat 22)))⟩ ⟨.no (some (.int .u8 (.ofNat 5)))⟩ ⟨.no (some (.int .u8 (.ofNat 16)))⟩ ⟨.no (some (.int .u8 (.ofNat 11)))⟩ ⟨.no (some (.int .u8 (.ofNat 10)))⟩ ⟨.no (some (.int .u8 (.ofNat 6)))⟩ .e⟩ ⟨.yes (some (.int .u8 (.ofNat 61))) ⟨.no (some (.int .u8 (.ofNat 62)))⟩ ⟨.no (some (.int .u8 (.ofNat 53)))⟩ ⟨.no (some (.int .u8 (.ofNat 63)))⟩ ⟨.no (some (.int .u8 (.ofNat 46)))⟩ ⟨.no (some (.int .u8 (.ofNat 54)))⟩ ⟨.no (some (.int .u8 (.ofNat 25)))⟩ .e .e⟩⟩, [.int .u8 0, .int .u8 1, .int .u8 56, .int .u8 2, .int .u8 57, .int .u8 49, .int .u8 28, .int .u8 3, .int .u8 61, .int .u8 58, .int .u8 42, .int .u8 50, .int .u8 38, .int .u8 29, .int .u8 17, .int .u8 4, .int .u8 62, .int .u8 47, .int .u8 59, .int .u8 36, .int .u8 45, .int .u8 43, .int .u8 51, .int .u8 22, .int .u8 53, .int .u8 39, .int .u8 33, .int .u8 30, .int .u8 24, .int .u8 18, .int .u8 12, .int .u8 5, .int .u8 63, .int .u8 55, .int .u8 48, .int .u8 27, .int .u8 60, .int .u8 41, .int .u8 37, .int .u8 16, .int .u8 46, .int .u8 35, .int .u8 44, .int .u8 21, .int .u8 52, .int .u8 32, .int .u8 23, .int .u8 11, .int .u8 54, .int .u8 26, .int .u8 40, .int .u8 15, .int .u8 34, .int .u8 20, .int .u8 31, .int .u8 10, .int .u8 25, .int .u8 14, .int .u8 19, .int .u8 9, .int .u8 13, .int .u8 8, .int .u8 7, .int .u8 6]⟩, ⟨1, ⟨.yes (some (.int .i64 (.ofNat 1))) ⟨.no (some (.int .i64 (.ofNat 2)))⟩ ⟨.no (some (.int .i64 (.ofNat 2)))⟩ .e .e .e .e .e .e⟩, [.int .i64 1, .int .i64 2, .int .i64 2]⟩, ⟨0, ⟨.yes (some (.int .i64 (.ofNat 0))) ⟨.no (some (.int .u64 (.ofNat 0)))⟩ ⟨.no (some (.int .u64 (.ofNat 0)))⟩ ⟨.no (some (.str []))⟩ .e .e .e .e .e⟩, [.int .i64 0, .int .u64 0, .int .u64 0, .str []]⟩]
theorem gOk {w : World} (h : laidMet Tryz.prog Rows.worldNilRow.laid w) : GOk ctx ⟨4, rngT⟩ w :=
  gOk_of (L := glL) (by kernel_rfl) (by kernel_rfl) (by kernel_rfl) (by kernel_rfl) rfl (by kernel_rfl) (.inr ⟨_, .head _, rfl⟩) h
theorem calls (x1 : Int) (x2 : Int) (x3 : Int) (x4 : Int) (x5 : Int) (x6 : Int) (x7 : Int) (x8 : Int) (x9 : Int) (x10 : Int) (x11 : Int) (x12 : ByteArray) (x13 : ByteArray) (x14 : ByteArray) (x15 : Value) (x16 : Int) (w : World) (h : laidMet Tryz.prog Rows.worldNilRow.laid w) : Calls Tryz.prog 4 #[.agg #[.int .u8 x1, .int .i64 x2, .int .u8 x3, .int .i64 x4, .int .u64 x5, .int .u64 x6, .int .u8 x7, .int .u8 x8, .int .u64 x9, .int .u64 x10, .int .u64 x11, .string x12, .string x13, .string x14, x15], .int .i64 x16] w fun e w' => ∃ x, e = .returned x ∧ x = .bool true ∧ Below w.heap.size w w' :=
  calls_all (calls_of (c := ctx.with sumT) (cok.with _) (extOk.with _) (sumOkS extOk ⟨4, rngT⟩) (K.run_leS tbokS (TyOk.with tyok _) 200) (anch x1 x2 x3 x4 x5 x6 x7 x8 x9 x10 x11 (ofBytes x12) (ofBytes x13) (ofBytes x14) x16) extNo ((gOk h).with _) (.cons _ _ _ _ (.agg _ _ (.cons _ _ _ _ (.int _ _) (.cons _ _ _ _ (.int _ _) (.cons _ _ _ _ (.int _ _) (.cons _ _ _ _ (.int _ _) (.cons _ _ _ _ (.int _ _) (.cons _ _ _ _ (.int _ _) (.cons _ _ _ _ (.int _ _) (.cons _ _ _ _ (.int _ _) (.cons _ _ _ _ (.int _ _) (.cons _ _ _ _ (.int _ _) (.cons _ _ _ _ (.int _ _) (.cons _ _ _ _ (.str _) (.cons _ _ _ _ (.str _) (.cons _ _ _ _ (.str _) (.cons _ _ _ _ (.unk _) .nil)))))))))))))))) (.cons _ _ _ _ (.int _ _) .nil)))
end YtjhcfoinldcaoaaGreatDoorWdM
namespace Go.Proofs.YtjhcfoinldcaoaaGreatDoor
open Go.ChangeShapes Go.WideShapes Go.ChangeAt Go.RowKit Go.Joins
set_option maxRecDepth 1000000
theorem Tryz.own : ownKnob Tryz.prog.godebug = none := by kernel_rfl
theorem Tryz.laidOut : laidOutB Tryz.prog = true := by kernel_rfl
theorem door_met (os : Os) (args : Array Value) : laidMetH Tryz.prog Rows.worldNilRow.laid ((World.doorLaid Tryz.prog 400 os).forCall (fun _ _ => 0) ⟨#[], args, []⟩).memory :=
  laidMet_of_run' 8 (by kernel_rfl) (by kernel_rfl)
set_option maxRecDepth 100000 in
theorem lifted (os : Os) (started : os.Started) (H : Type) (enc : TypeId × Value → H) :
    ReturnsInHanded {} Tryz.checked os 4 .any (fun w args => (Rows.worldNilSpec.pre enc Tryz.prog Tryz.f4 [] false w args ∧ laidMetH Tryz.prog Rows.worldNilRow.laid w) ∧ sizedMet enc Tryz.prog Tryz.f4 (OpenSpec.ofChange Rows.worldNilSpec) false w args)
      (Rows.worldNilSpec.post enc Tryz.prog Tryz.f4 false true false false) := by
  refine returnsInHanded_of_change_and (C := Tryz.checked) (X := fun w _ => laidMetH Tryz.prog Rows.worldNilRow.laid w) (fun _ _ _ hh h => h.of_heap hh) Tryz.own started (by kernel_rfl) Tryz.func4
    (ChangeSpec.witness_shaped (enc := enc) (C := Tryz.checked) (os := os) (X := fun w _ => laidMetH Tryz.prog Rows.worldNilRow.laid w) false (World.doorLaid Tryz.prog 400 os) #[.agg #[.int .u8 0, .int .i64 0, .int .u8 0, .int .i64 0, .int .u64 0, .int .u64 0, .int .u8 0, .int .u8 0, .int .u64 0, .int .u64 0, .int .u64 0, .string .empty, .string .empty, .string .empty, .slice none 0 0], .int .i64 0] 8 rfl (World.shaped_of_RefB (by kernel_rfl) (by kernel_rfl)) (by kernel_rfl) (by kernel_rfl) (by kernel_rfl) (door_met os _)) ?_
  intro W base args ds gs before hval0 hW _ _ hL _
  have hval : ∀ (j : Nat) t v, Tryz.f4.params[j]? = some t → args[j]? = some v → Value.okWide Tryz.prog W .any base t v := hval0
  refine Am.row_contract (P := Tryz.prog) (fn := Tryz.f4) (t4 := 4) Tryz.laidOut (by kernel_rfl) (by kernel_rfl) Tryz.underlying4 rfl (fun ds h => ?_) hW ?_
  · match ds, h with
    | [d0, d1], _ => rfl
  obtain ⟨p, q, hA0, _, _, _, _⟩ := hW
  have hA : DataW.TrodAll enc Tryz.prog W 0 (fun _ => true) true Tryz.f4.params.toList args.toList ds p := hA0
  rw [Tryz.params4] at hA hval
  obtain ⟨al⟩ := args
  replace hA : DataW.TrodAll enc Tryz.prog W 0 (fun _ => true) true [62, 3] al ds p := hA
  obtain ⟨v0, l0, d0, m0, p0, q0, e0, _, _, h0, g0⟩ := trodAll_cons hA
  subst e0
  obtain ⟨v1, l1, d1, m1, p1, q1, e1, _, _, h1, g1⟩ := trodAll_cons g0
  subst e1
  obtain ⟨rfl, _, _⟩ := trodAll_nil g1
  obtain ⟨cs0, rfl, k0⟩ := Am.open_leaves (ks := [.int .u8, .int .i64, .int .u8, .int .i64, .int .u64, .int .u64, .int .u8, .int .u8, .int .u64, .int .u64, .int .u64, .str, .str, .str, .any]) Tryz.underlying62 (by kernel_rfl) (hval 0 62 _ rfl rfl) h0
  obtain ⟨_, _, rfl, ⟨x1, rfl⟩, ⟨_, _, rfl, ⟨x2, rfl⟩, ⟨_, _, rfl, ⟨x3, rfl⟩, ⟨_, _, rfl, ⟨x4, rfl⟩, ⟨_, _, rfl, ⟨x5, rfl⟩, ⟨_, _, rfl, ⟨x6, rfl⟩, ⟨_, _, rfl, ⟨x7, rfl⟩, ⟨_, _, rfl, ⟨x8, rfl⟩, ⟨_, _, rfl, ⟨x9, rfl⟩, ⟨_, _, rfl, ⟨x10, rfl⟩, ⟨_, _, rfl, ⟨x11, rfl⟩, ⟨_, _, rfl, ⟨x12, rfl⟩, ⟨_, _, rfl, ⟨x13, rfl⟩, ⟨_, _, rfl, ⟨x14, rfl⟩, ⟨x15, _, rfl, _, rfl⟩⟩⟩⟩⟩⟩⟩⟩⟩⟩⟩⟩⟩⟩⟩ := k0
  obtain ⟨x16, rfl, _, _, _⟩ := open_int Tryz.underlying3 (hval 1 3 _ rfl rfl) h1
  exact YtjhcfoinldcaoaaGreatDoorWdM.calls x1 x2 x3 x4 x5 x6 x7 x8 x9 x10 x11 x12 x13 x14 x15 x16 W hL
theorem row_holds : Rows.WorldNilSaid :=
  OpenClaim.holds_of_wide 4 Tryz.f4 rfl rfl rfl rfl rfl rfl rfl ⟨rfl, rfl, rfl, rfl, rfl⟩ rfl rfl rfl rfl rfl worldNil_f2 Tryz.func4 worldNil_f1
    worldNil_f3 worldNil_f4
    (fun os started H enc _ => lifted os started H enc)
theorem worldNil_card : Rows.WorldNilCardSaid :=
  Claim7.holds_tied_plain_at .later [] [.data, .data, .data] true (true, Rows.worldNilCard.stood.harness.2) false
    row_holds (fun _ h => by cases h) worldNil_f5 (fun _ h => by cases h) worldNil_row_tie rfl ⟨rfl, rfl⟩ worldNil_f6 rfl
    (fun f fn hf hfn => by
      obtain rfl : f = 4 := Option.some.inj ((show Tryz.prog.funcNamed "grommet/grommetlaw27.WorldNil" = some 4 from worldNil_f2).symm.trans hf) |>.symm
      obtain rfl : fn = Tryz.f4 := (Option.some.inj (Tryz.func4.symm.trans hfn)).symm
      exact ⟨worldNil_f7, fun j t ht => by
        rw [Tryz.params4] at ht
        have hm : t ∈ [62, 3] := by simpa using Array.mem_of_getElem? ht
        have hall : ([62, 3].all fun u => !Tryz.prog.wantsStandIn u) = true := by kernel_rfl
        exact (show Tryz.prog.wantsStandIn t = false by simpa using List.all_eq_true.1 hall t hm)⟩)
    worldNil_f8
end Go.Proofs.YtjhcfoinldcaoaaGreatDoor
