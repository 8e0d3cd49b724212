/- CheckNone holds of the given program: for every input the law returns true and leaves its arguments as they were; the listed package-level variables hold what the program's text lays (the card ties them); no other condition. The run is computed by the kernel on the abstract machine, with the arguments left open. -/
import Derived.Test.YtbigljebnajniaaGreatDoorCnFin
import Derived.Test.YtbigljebnajniaaGreatDoorA4
import Derived.Test.YtbigljebnajniaaGreatDoorRows
import Derived.Test.YtbigljebnajniaaGreatDoorCards
import Derived.Test.YtbigljebnajniaaGreatDoorTie
import Derived.Test.YtbigljebnajniaaGreatDoorA4

import Derived.SevenTiedAt
import Derived.LaidMore
namespace YtbigljebnajniaaGreatDoorCnM
open Go Am Go.Proofs Go.Proofs.YtbigljebnajniaaGreatDoor Go.RowKit Go.ChangeShapes Go.WideShapes Go.ChangeAt Go.Joins
set_option maxRecDepth 1000000
theorem extEq : ctx.ext = ofPairs [(102, .indexByteString)] := by kernel_rfl
theorem extOk : ExtOk ctx Tryz.prog := extOk_index (f := 102) (fun g e h => by
  rw [extEq] at h
  have := ofPairs_get h
  simp only [List.mem_singleton, Prod.mk.injEq] at this
  exact this.1) Tryz.func102 (by kernel_rfl) (by kernel_rfl) (by kernel_rfl) (by kernel_rfl)
noncomputable def glL : List GlE := [⟨0, ⟨.yes (some (.int .i64 (.ofNat 1))) ⟨.no (some (.int .i64 (.ofNat 2)))⟩ ⟨.no (some (.int .i64 (.ofNat 2)))⟩ .e .e .e .e .e .e⟩, [.int .i64 1, .int .i64 2, .int .i64 2]⟩]
theorem gOk {w : World} (h : laidMet Tryz.prog Rows.checkNoneRow.laid w) : GOk ctx ⟨1, rngT⟩ w :=
  gOk_of (L := glL) (by kernel_rfl) (by kernel_rfl) (by kernel_rfl) (by kernel_rfl) rfl (by kernel_rfl) (.inr ⟨_, .head _, rfl⟩) h
theorem l37 : leavesOf Tryz.prog 8 37 = some [.int .u64] := by kernel_rfl
theorem z37 : Tryz.prog.cellsOf 37 = 1 := by kernel_rfl
theorem l25 : leavesOf Tryz.prog 8 25 = some [.int .i64, .int .i64, .int .i64] := by kernel_rfl
theorem low0 {W : World} (h : laidMet Tryz.prog Rows.checkNoneRow.laid W) : ∃ cs e fr, W.heap[0]? = some (.cells cs e fr) ∧ LeafAll [.int .i64, .int .i64, .int .i64] cs.toList := by
  obtain ⟨ps, hv, _⟩ := h
  obtain ⟨g, t, cs, fuel, p, q, hg, ht, hvar, htr, _⟩ := hv
  have hg0 : Tryz.prog.globalNamed "grommet/layout.least" = some 0 := by kernel_rfl
  have hg' : Tryz.prog.globalNamed "grommet/layout.least" = some g := hg
  rw [hg0] at hg'
  cases hg'
  have ht0 : (Tryz.prog.globals[0]?).map (·.type) = some 25 := by kernel_rfl
  rw [ht0] at ht
  cases ht
  obtain ⟨e, fr, hh⟩ := var_heap hg0 hvar
  exact ⟨cs, e, fr, hh, trod_leaves 8 fuel 25 cs.toList _ _ l25 htr⟩
def wOf (l : List AV) (k : Nat) : Int := match l[k]? with | some (.int _ x) => x | _ => 0
theorem leaf1 {l : List Value} (h : LeafAll [.int .u64] l) : ∃ x, l = [.int .u64 x] := by
  obtain ⟨v, r, rfl, ⟨x, rfl⟩, h⟩ := h
  have h : r = [] := h
  subst h
  exact ⟨x, rfl⟩
theorem leaf3 {l : List Value} (h : LeafAll [.int .i64, .int .i64, .int .i64] l) (k : Nat) (v : Value) (hk : l[k]? = some v) : ∃ x, v = .int .i64 x := by
  obtain ⟨_, r, rfl, ⟨x, rfl⟩, h⟩ := h
  obtain ⟨_, r, rfl, ⟨y, rfl⟩, h⟩ := h
  obtain ⟨_, r, rfl, ⟨z, rfl⟩, h⟩ := h
  have h : r = [] := h
  subst h
  match k, hk with
  | 0, hk => exact ⟨x, by simpa using hk.symm⟩
  | 1, hk => exact ⟨y, by simpa using hk.symm⟩
  | 2, hk => exact ⟨z, by simpa using hk.symm⟩
  | k + 3, hk => simp at hk
theorem calls {Hh : Type} {enc : TypeId × Value → Hh} (v : Value) (b0 : Nat) (W : World) {d : DataW Hh} {p : List MemPlace} (hL : laidMet Tryz.prog Rows.checkNoneRow.laid W) (hval : Value.okWide Tryz.prog W .any b0 22 v) (ht : DataW.Trod enc Tryz.prog W 0 (fun _ => true) true 22 v d p)
    (hfz : ∀ b off, MemPlace.cell b off ∈ p → W.frozen? ⟨b, off, none⟩ = false) : Calls Tryz.prog 3 #[v] W fun e w' => ∃ x, e = .returned x ∧ x = .bool true ∧ Below W.heap.size W w' := by
  have gk := gOk hL
  rcases slice_arg (z := 1) (ks := [.int .u64]) Tryz.underlying22 z37 Nat.zero_lt_one (fun fuel cs x h => trod_leaves 8 fuel 37 cs x _ l37 h) hval ht hfz with rfl | ⟨a, rfl⟩ | ⟨a, len, cap, arr, elem, fr, rfl, hpos, hle, _, hsp, hh, hsz, hfr, hel⟩
  · exact calls_all (calls_of (c := ctx.with (sumOf (seL3 sNo s14))) (COk.with cok _) (extOk.with _) (sumOk3 extOk ⟨1, rngT⟩ sokNo (sok14 extOk _)) (K.run_leS (tbok3 _ _) (TyOk.with tyok _) 200) nilA (ex3 _) (gk.with _) (.cons _ _ _ _ .nilSlice .nil))
  · obtain ⟨hf, e⟩ := cap0A
    have e0 : (⟨1, .e⟩ : Am.H).ph = fun _ => none := by funext id; exact T.get_e _
    refine calls_all (calls_heap (c := ctx.with (sumOf (seL3 sNo s14))) (ρ := argR ⟨0, 0, 0⟩) (COk.with cok _) (extOk.with _) (sumOk3 extOk ⟨1, rngT⟩ sokNo (sok14 extOk _)) (K.run_leS (tbok3 _ _) (TyOk.with tyok _) 200) e (fun id o ho => ?_) (ex3 _) (gk.with _)
      (.cons _ _ _ _ (.slice 0 0 0 2 ⟨0, 0, 0⟩ a 0 rfl (Nat.le_refl _) (.inl rfl) (fun h => by cases h) (Nat.le_refl _)) .nil) (by rw [e0]; exact HRel.empty _ _ _) (fun id hid => ?_) (fun id o l ho _ => ?_))
    · have : (T.e : T AObj).get id = some o := ho
      rw [T.get_e] at this; cases this
    · have hid : 1 ≤ id := hid
      unfold argR
      rw [if_neg (by omega)]
    · have : (T.e : T AObj).get id = some o := ho
      rw [T.get_e] at this; cases this
  · rw [Nat.mul_one] at hsz hfr
    obtain ⟨blk, off, spot⟩ := a
    have hsp : spot = none := hsp
    subst hsp
    have hsz : off + cap ≤ arr.size := hsz
    have hel' : ∀ i, i < cap → ∃ x, arr[off + i]? = some (.int .u64 x) := fun i hi => by
      obtain ⟨x, hx⟩ := leaf1 (hel i hi)
      rw [Nat.mul_one] at hx
      have hx : (arr.toList.drop (off + i)).take 1 = [.int .u64 x] := hx
      refine ⟨x, ?_⟩
      have := congrArg (·[0]?) hx
      simp only [List.getElem?_take, List.getElem?_drop, Nat.zero_lt_one, if_true, Nat.add_zero, List.getElem?_cons_zero, Array.getElem?_toList] at this
      exact this
    have hb : 1 ≤ blk := by
      rcases Nat.eq_zero_or_pos blk with h0 | h0
      · subst h0
        obtain ⟨cs, e, fr', q1, q2⟩ := low0 hL
        have hh : W.heap[0]? = some (.cells arr elem fr) := hh
        rw [hh] at q1
        cases q1
        obtain ⟨x, hx⟩ := hel' 0 hpos
        obtain ⟨y, hy⟩ := leaf3 q2 (off + 0) _ (by rw [Array.getElem?_toList]; exact hx)
        cases hy
      · exact h0
    have hln : (((arr.toList.drop off).take cap).map ofValue).length = cap := by
      simp only [List.length_map, List.length_take, List.length_drop, Array.length_toList]
      omega
    have hget : ∀ k, k < cap → (T.ofList (((arr.toList.drop off).take cap).map ofValue)).get k = some (.int .u64 (wOf (((arr.toList.drop off).take cap).map ofValue) k)) := fun k hk => by
      obtain ⟨x, hx⟩ := hel' k hk
      have e1 : (((arr.toList.drop off).take cap).map ofValue)[k]? = some (.int .u64 x) := by
        rw [List.getElem?_map, List.getElem?_take, if_pos hk, List.getElem?_drop, Array.getElem?_toList, hx]
        rfl
      rw [T.get_ofList, e1]
      unfold wOf
      rw [e1]
    have rel := argRel (G := ⟨1, rngT⟩) (W := W) (b := blk) (off := off) (m := cap) hh hsz hfr hb
    generalize hl : ((arr.toList.drop off).take cap).map ofValue = l at hln hget rel
    subst hln
    obtain ⟨s5, s14', hf, e1, e2, e3⟩ := runW extOk ⟨1, rngT⟩ l.length len 2 (T.ofList l) (wOf l) hle rfl hget
    refine calls_all (calls_heap (c := ctx.with (sumOf (seL3 s5 s14'))) (h0 := argH l) (ρ := argR ⟨blk, off, l.length⟩) (COk.with cok _) (extOk.with _) e3 (K.run_leS (tbok3 _ _) (TyOk.with tyok _) 200) e1 (fun id o ho => ?_) (ex3 _) (gk.with _)
      (.cons _ _ _ _ (.slice 0 0 len 2 ⟨blk, off, l.length⟩ _ l.length rfl hle (.inr rfl) (fun h => by cases h) (by show 0 + l.length * 1 ≤ l.length; omega)) .nil) rel (fun id hid => ?_) (fun id o l' ho hl' => ?_))
    · rw [argH_obj] at ho
      split at ho
      · rename_i h0
        cases ho
        subst h0
        exact e2
      · cases ho
    · have hid : 1 ≤ id := hid
      unfold argR
      rw [if_neg (by omega)]
    · rw [argH_obj] at ho
      unfold argR at hl'
      split at ho
      · rename_i h0
        cases ho
        rw [if_pos h0] at hl'
        cases hl'
        exact ⟨_, rfl, fun k v hk hv => by
          have hk : k < l.length := hk
          rw [hget k hk] at hv; cases hv; rfl⟩
      · cases ho
end YtbigljebnajniaaGreatDoorCnM
namespace Go.Proofs.YtbigljebnajniaaGreatDoor
open Go.ChangeShapes Go.WideShapes Go.ChangeAt Go.RowKit Go.Joins
set_option maxRecDepth 1000000
theorem Tryz.own : ownKnob Tryz.prog.godebug = none := by kernel_rfl
theorem Tryz.laidOut : laidOutB Tryz.prog = true := by kernel_rfl
theorem door_met (os : Os) (args : Array Value) : laidMetH Tryz.prog Rows.checkNoneRow.laid ((World.doorLaid Tryz.prog 400 os).forCall (fun _ _ => 0) ⟨#[], args, []⟩).memory :=
  laidMet_of_run' 8 (by kernel_rfl) (by kernel_rfl)
set_option maxRecDepth 100000 in
theorem lifted (os : Os) (started : os.Started) (H : Type) (enc : TypeId × Value → H) :
    ReturnsInHanded {} Tryz.checked os 3 .any (fun w args => (Rows.checkNoneSpec.pre enc Tryz.prog Tryz.f3 [] false w args ∧ laidMetH Tryz.prog Rows.checkNoneRow.laid w) ∧ sizedMet enc Tryz.prog Tryz.f3 (OpenSpec.ofChange Rows.checkNoneSpec) false w args)
      (Rows.checkNoneSpec.post enc Tryz.prog Tryz.f3 false true false false) := by
  refine returnsInHanded_of_change_and (C := Tryz.checked) (X := fun w _ => laidMetH Tryz.prog Rows.checkNoneRow.laid w) (fun _ _ _ hh h => h.of_heap hh) Tryz.own started (by kernel_rfl) Tryz.func3
    (ChangeSpec.witness_shaped (enc := enc) (C := Tryz.checked) (os := os) (X := fun w _ => laidMetH Tryz.prog Rows.checkNoneRow.laid w) false (World.doorLaid Tryz.prog 400 os) #[.slice none 0 0] 8 rfl (World.shaped_of_RefB (by kernel_rfl) (by kernel_rfl)) (by kernel_rfl) (by kernel_rfl) (by kernel_rfl) (door_met os _)) ?_
  intro W base args ds gs before hval0 hW _ _ hL _
  have hval : ∀ (j : Nat) t v, Tryz.f3.params[j]? = some t → args[j]? = some v → Value.okWide Tryz.prog W .any base t v := hval0
  refine Am.row_contract (P := Tryz.prog) (fn := Tryz.f3) (t4 := 4) Tryz.laidOut (by kernel_rfl) (by kernel_rfl) Tryz.underlying4 rfl (fun ds h => ?_) hW ?_
  · match ds, h with
    | [d0], _ => rfl
  obtain ⟨p, q, hA0, _, hbef, hfz, _⟩ := hW
  have hA : DataW.TrodAll enc Tryz.prog W 0 (fun _ => true) true Tryz.f3.params.toList args.toList ds p := hA0
  rw [Tryz.params3] at hA hval
  obtain ⟨al⟩ := args
  replace hA : DataW.TrodAll enc Tryz.prog W 0 (fun _ => true) true [22] al ds p := hA
  obtain ⟨v0, l0, d0, m0, p0, q0, e0, _, hp0, h0, g0⟩ := trodAll_cons hA
  subst e0
  obtain ⟨rfl, _, hq0⟩ := trodAll_nil g0
  exact YtbigljebnajniaaGreatDoorCnM.calls v0 base W hL (hval 0 22 _ rfl rfl) h0 (fun b off hm => hfz b off (by rw [hbef, hp0]; exact List.mem_append_left _ (List.mem_append_left _ hm)))
theorem row_holds : Rows.CheckNoneSaid :=
  OpenClaim.holds_of_wide 3 Tryz.f3 rfl rfl rfl rfl rfl rfl rfl ⟨rfl, rfl, rfl, rfl, rfl⟩ rfl rfl rfl rfl rfl (by kernel_rfl) Tryz.func3 (by kernel_rfl)
    (of_decide_eq_true (by kernel_rfl)) (by unfold Func.isWrapper; first | (rw [if_pos (by decide +kernel)]; kernel_rfl) | (rw [if_neg (by decide +kernel)]; exact ⟨rfl, rfl⟩))
    (fun os started H enc _ => lifted os started H enc)
theorem checkNone_card : Rows.CheckNoneCardSaid :=
  Claim7.holds_tied_plain_at .later [] [.data] true (true, Rows.checkNoneCard.stood.harness.2) true
    row_holds (fun _ h => by cases h) (by kernel_rfl) (fun _ h => by cases h) checkNone_row_tie rfl ⟨rfl, rfl⟩ (by kernel_rfl) rfl
    (fun f fn hf hfn => by
      obtain rfl : f = 3 := Option.some.inj ((show Tryz.prog.funcNamed "grommet/grommetlaw25.CheckNone" = some 3 by kernel_rfl).symm.trans hf) |>.symm
      obtain rfl : fn = Tryz.f3 := (Option.some.inj (Tryz.func3.symm.trans hfn)).symm
      exact ⟨by kernel_rfl, fun j t ht => by
        rw [Tryz.params3] at ht
        have hm : t ∈ [22] := by simpa using Array.mem_of_getElem? ht
        have hall : ([22].all fun u => !Tryz.prog.wantsStandIn u) = true := by kernel_rfl
        exact (show Tryz.prog.wantsStandIn t = false by simpa using List.all_eq_true.1 hall t hm)⟩)
    (by kernel_rfl)
end Go.Proofs.YtbigljebnajniaaGreatDoor
