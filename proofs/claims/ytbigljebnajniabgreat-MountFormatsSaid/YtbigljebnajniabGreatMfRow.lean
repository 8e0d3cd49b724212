/- MountFormats holds of the given program: for every input the law returns true and leaves its arguments as they were; no condition. The law's run is shown by a program logic over the abstract machine (device, format, mount), its anchor by the kernel. -/
import Derived.Test.YtbigljebnajniabGreatMfW14
import Derived.Test.YtbigljebnajniabGreatA5
import Derived.Test.YtbigljebnajniabGreatRows
import Derived.ProofKit
import Derived.Lib.SmallJoins
import Derived.Carry
namespace YtbigljebnajniabGreatMfM
open Go Am Go.Proofs Go.Proofs.YtbigljebnajniabGreat Go.RowKit Go.ChangeShapes Go.WideShapes Go.ChangeAt Go.Joins
set_option maxRecDepth 1000000
theorem extOk : ExtOk ctx Tryz.prog := fun f e h => by
  have h : (⟨.no none⟩ : T Ext).get f = some e := h
  have e0 : (⟨.no none⟩ : T Ext) = .e := rfl
  rw [e0, T.get_e] at h; cases h
theorem gOk (w : World) : GOk ctx ⟨0, rngT⟩ w := ⟨rfl, Nat.zero_le _, fun g n t h => by
  have h : (⟨.no none⟩ : T (Nat × T AV)).get g = some (n, t) := h
  have e0 : (⟨.no none⟩ : T (Nat × T AV)) = .e := rfl
  rw [e0, T.get_e] at h; cases h⟩
theorem ex3 (s : T Sum) : (ctx.with s).ext.get 3 = none := by kernel_rfl
theorem l65 : leavesOf Tryz.prog 8 65 = some [.int .u16, .int .u64] := by kernel_rfl
theorem z65 : Tryz.prog.cellsOf 65 = 2 := by kernel_rfl
theorem sumOkG (W B : Nat) (hg : Geo W B) (G : Gd) : SumOk (ctx.with (sumOf (seG W B))) Tryz.prog G := sumOk_of (sokG hg extOk G)
def tnOf (cs : List Value) : Tn := match cs with | [.int _ x, .int _ y] => ⟨x.toNat, y.toNat⟩ | _ => default
def TnV (cs : List Value) : Prop := ∃ x y : Nat, x < 65536 ∧ y < 18446744073709551616 ∧ cs = [.int .u16 x, .int .u64 y]
theorem leafT {cs : List Value} (h : LeafAllR [.int .u16, .int .u64] cs) : TnV cs := by
  obtain ⟨_, r, rfl, ⟨x, rfl, hx1, hx2⟩, h⟩ := h
  obtain ⟨_, r, rfl, ⟨y, rfl, hy1, hy2⟩, h⟩ := h
  have h : r = [] := h
  subst h
  have hx1 : (0 : Int) ≤ x := hx1
  have hx2 : x ≤ 65535 := hx2
  have hy1 : (0 : Int) ≤ y := hy1
  have hy2 : y ≤ 18446744073709551615 := hy2
  refine ⟨x.toNat, y.toNat, by omega, by omega, ?_⟩
  rw [Int.toNat_of_nonneg hx1, Int.toNat_of_nonneg hy1]
def tns (l : List Value) (n : Nat) : List Tn := (List.range n).map fun i => tnOf ((l.drop (i * 2)).take 2)
theorem tns_length (l : List Value) (n : Nat) : (tns l n).length = n := by simp [tns]
theorem tns_ok {l : List Value} {n : Nat} (h : ∀ i, i < n → TnV ((l.drop (i * 2)).take 2)) : ∀ t ∈ tns l n, t.ok := by
  intro t ht
  obtain ⟨i, hi, rfl⟩ := List.mem_map.1 ht
  obtain ⟨x, y, hx, hy, e⟩ := h i (List.mem_range.1 hi)
  simp only [e, tnOf]
  exact ⟨by simpa using hx, by simpa using hy⟩
theorem tns_row {l : List Value} : ∀ {n : Nat}, (∀ i, i < n → TnV ((l.drop (i * 2)).take 2)) → (l.take (n * 2)).map ofValue = (tns l n).flatMap eT
  | 0, _ => by simp [tns]
  | n + 1, h => by
    have ih := tns_row (l := l) (n := n) fun i hi => h i (by omega)
    obtain ⟨x, y, hx, hy, e⟩ := h n (by omega)
    have e2 : l.take ((n + 1) * 2) = l.take (n * 2) ++ (l.drop (n * 2)).take 2 := by rw [Nat.succ_mul, List.take_add]
    rw [e2, List.map_append, ih, e]
    unfold tns
    rw [List.range_succ, List.map_append, List.flatMap_append]
    simp only [List.map_cons, List.map_nil, List.flatMap_cons, List.flatMap_nil, e, tnOf, Int.toNat_natCast]
    rfl
theorem calls {Hh : Type} {enc : TypeId × Value → Hh} (a b : Nat) (ha : a < 256) (hb : b < 256) (v : Value) (b0 : Nat) (W : World) {d : DataW Hh} {p : List MemPlace} (hval : Value.okWide Tryz.prog W .any b0 22 v) (ht : DataW.Trod enc Tryz.prog W 0 (fun _ => true) true 22 v d p)
    (hfz : ∀ b off, MemPlace.cell b off ∈ p → W.frozen? ⟨b, off, none⟩ = false) : Calls Tryz.prog 3 #[.int .u8 (.ofNat a), .int .u8 (.ofNat b), v] W fun e w' => ∃ x, e = .returned x ∧ x = .bool true ∧ Below W.heap.size W w' := by
  have gk := gOk W
  have hg := geoOf a b
  rcases slice_argR (z := 2) (ks := [.int .u16, .int .u64]) Tryz.underlying22 z65 (by omega) (fun fuel cs x h => trod_leavesR 8 fuel 65 cs x _ l65 h) hval ht hfz with rfl | ⟨s, rfl⟩ | ⟨s, len, cap, arr, elem, fr, rfl, hpos, hle, hmax, hsp, hh, hsz, hfr, hel⟩
  · haveI := hp_nil
    have e := (law_none (N := 188) (F := []) (v := .nilSlice) (h := ⟨0, .e⟩) ha hb (.inl rfl)).isTrue
    exact calls_all (calls_of (c := ctx.with (sumOf (seG (wOfA a) (bOfB b)))) (COk.with cok _) (extOk.with _) (sumOkG _ _ hg ⟨0, rngT⟩) (K.run_leS (tbokG _ _) (TyOk.with tyok _) 200) e (ex3 _) (gk.with _)
      (.cons _ _ _ _ (.int _ _) (.cons _ _ _ _ (.int _ _) (.cons _ _ _ _ .nilSlice .nil))))
  · have hp1 : Hp ⟨1, .e⟩ [] := ⟨[], .nil, fun q hq => (by cases hq), List.nodup_nil, fun q hq => (by cases hq)⟩
    haveI := hp1
    obtain ⟨_, hf, e, rfl, _⟩ := law_none (N := 188) (F := []) (v := .slice 0 0 0 4) (h := ⟨1, .e⟩) ha hb (.inr ⟨_, _, _, rfl⟩)
    have e0 : (⟨1, .e⟩ : Am.H).ph = fun _ => none := by funext id; exact T.get_e _
    refine calls_all (calls_heap' (c := ctx.with (sumOf (seG (wOfA a) (bOfB b)))) (ρ := argR ⟨0, 0, 0⟩) (COk.with cok _) (extOk.with _) (sumOkG _ _ hg ⟨0, rngT⟩) (K.run_leS (tbokG _ _) (TyOk.with tyok _) 200) e (fun id n t ho => ?_) (ex3 _) (gk.with _)
      (.cons _ _ _ _ (.int _ _) (.cons _ _ _ _ (.int _ _) (.cons _ _ _ _ (.slice 0 0 0 4 ⟨0, 0, 0⟩ s 0 rfl (Nat.le_refl _) (.inl rfl) (fun h => by cases h) (by show 0 + 0 * (4 / 2) ≤ 0; omega)) .nil))) (by rw [e0]; exact HRel.empty _ _ _) (fun id hid => ?_) (fun id o l ho _ => ?_))
    · have : (T.e : T AObj).get id = some _ := ho
      rw [T.get_e] at this; cases this
    · have hid : 1 ≤ id := hid
      unfold argR
      rw [if_neg (by omega)]
    · have : (T.e : T AObj).get id = some o := ho
      rw [T.get_e] at this; cases this
  · obtain ⟨blk, off, spot⟩ := s
    have hsp : spot = none := hsp
    subst hsp
    have hsz : off + cap * 2 ≤ arr.size := hsz
    have hel' : ∀ i, i < cap → TnV (((arr.toList.drop off).drop (i * 2)).take 2) := fun i hi => by
      rw [List.drop_drop]
      exact leafT (hel i hi)
    have hrow := tns_row hel'
    have hok := tns_ok hel'
    have hlen := tns_length (arr.toList.drop off) cap
    have rel := argRel (G := ⟨0, rngT⟩) (W := W) (b := blk) (off := off) (m := cap * 2) hh hsz hfr (Nat.zero_le _)
    rw [hrow] at rel
    generalize hts : tns (arr.toList.drop off) cap = ts at hok hlen rel
    haveI := hp_argH (ts.flatMap eT)
    have hfl : (ts.flatMap eT).length = cap * 2 := by rw [fm_len fun a => (es_T.len.2 a).1, hlen]
    have hmx : cap ≤ 9223372036854775807 := by
      have : cap ≤ maxLen := hmax
      unfold maxLen at this
      omega
    obtain ⟨_, hf, e, rfl, hq⟩ := law_row (N := 188) (F := []) (ts := ts) (tid := 0) (m := len) (tg := 4) (h := argH (ts.flatMap eT)) ha hb hok (by omega) (by omega) rfl
    obtain ⟨t1, q1, q2⟩ := hq.head.1
    refine calls_all (calls_heap' (c := ctx.with (sumOf (seG (wOfA a) (bOfB b)))) (h0 := argH (ts.flatMap eT)) (ρ := argR ⟨blk, off, cap * 2⟩) (COk.with cok _) (extOk.with _) (sumOkG _ _ hg ⟨0, rngT⟩) (K.run_leS (tbokG _ _) (TyOk.with tyok _) 200) e (fun id n t ho => ?_) (ex3 _) (gk.with _)
      (.cons _ _ _ _ (.int _ _) (.cons _ _ _ _ (.int _ _) (.cons _ _ _ _ (.slice 0 0 len 4 ⟨blk, off, cap * 2⟩ _ cap rfl hle (.inr rfl) (fun h => by cases h) (by show 0 + cap * (4 / 2) ≤ cap * 2; omega)) .nil))) rel (fun id hid => ?_) (fun id o l' ho hl' => ?_))
    · rw [argH_obj] at ho
      split at ho
      · rename_i h0
        cases ho
        subst h0
        exact ⟨t1, q1, fun k hk => by rw [q2 k hk, T.get_ofList]⟩
      · cases ho
    · have hid : 1 ≤ id := hid
      unfold argR
      rw [if_neg (by omega)]
    · rw [argH_obj] at ho
      unfold argR at hl'
      split at ho
      · rename_i h0
        cases ho
        rw [if_pos h0] at hl'
        cases hl'
        refine ⟨_, by rw [hfl], fun k v hk hv => ?_⟩
        rw [T.get_ofList] at hv
        have hm := List.mem_of_getElem? hv
        obtain ⟨t, _, ht⟩ := List.mem_flatMap.1 hm
        simp only [eT, List.mem_cons, List.not_mem_nil, or_false] at ht
        rcases ht with rfl | rfl <;> rfl
      · cases ho
end YtbigljebnajniabGreatMfM
namespace Go.Proofs.YtbigljebnajniabGreat
open Go.ChangeShapes Go.WideShapes Go.ChangeAt Go.RowKit Go.Joins
set_option maxRecDepth 1000000
theorem Tryz.own : ownKnob Tryz.prog.godebug = none := by kernel_rfl
theorem Tryz.laidOut : laidOutB Tryz.prog = true := by kernel_rfl
set_option maxRecDepth 100000 in
theorem mf_lifted (os : Os) (started : os.Started) (H : Type) (enc : TypeId × Value → H) :
    ReturnsInHanded {} Tryz.checked os 3 .any (Rows.mountFormatsSpec.pre6 enc Tryz.prog Tryz.f3 Rows.mountFormatsRow.domain false) (Rows.mountFormatsSpec.post enc Tryz.prog Tryz.f3 false true false false) := by
  refine returnsInHanded_of_change (C := Tryz.checked) Tryz.own started (by kernel_rfl) Tryz.func3
    (ChangeSpec.witness6 (enc := enc) (C := Tryz.checked) false ⟨#[], #[.int .u8 0, .int .u8 0, .slice none 0 0], []⟩ 8 (by kernel_rfl) (by kernel_rfl) (by kernel_rfl) (by kernel_rfl)) ?_
  intro W base args ds gs before hval0 hW hcnd _
  have hval : ∀ (j : Nat) t v, Tryz.f3.params[j]? = some t → args[j]? = some v → Value.okWide Tryz.prog W .any base t v := hval0
  refine Am.row_contract (P := Tryz.prog) (fn := Tryz.f3) (t4 := 4) Tryz.laidOut (by kernel_rfl) (by kernel_rfl) Tryz.underlying4 rfl (fun ds h => ?_) hW ?_
  · match ds, h with
    | [d0, d1, d2], _ => rfl
  obtain ⟨p, q, hA0, _, hbef, hfz, _⟩ := hW
  have hA : DataW.TrodAll enc Tryz.prog W 0 (fun _ => true) true Tryz.f3.params.toList args.toList ds p := hA0
  rw [Tryz.params3] at hA hval
  obtain ⟨al⟩ := args
  replace hA : DataW.TrodAll enc Tryz.prog W 0 (fun _ => true) true [5, 5, 22] al ds p := hA
  obtain ⟨v0, l0, d0, m0, p0, q0, e0, _, hp0, h0, g0⟩ := trodAll_cons hA
  subst e0
  obtain ⟨v1, l1, d1, m1, p1, q1, e1, _, hp1, h1, g1⟩ := trodAll_cons g0
  subst e1
  obtain ⟨v2, l2, d2, m2, p2, q2, e2, _, hp2, h2, g2⟩ := trodAll_cons g1
  subst e2
  obtain ⟨rfl, _, hq0⟩ := trodAll_nil g2
  obtain ⟨x, rfl, _, _, wx⟩ := open_int Tryz.underlying5 (hval 0 5 _ rfl rfl) h0
  obtain ⟨y, rfl, _, _, wy⟩ := open_int Tryz.underlying5 (hval 1 5 _ rfl rfl) h1
  have wx : (decide ((0 : Int) ≤ x) && decide (x ≤ 255)) = true := wx
  have wy : (decide ((0 : Int) ≤ y) && decide (y ≤ 255)) = true := wy
  rw [Bool.and_eq_true, decide_eq_true_eq, decide_eq_true_eq] at wx wy
  obtain ⟨a, rfl⟩ := Int.eq_ofNat_of_zero_le wx.1
  obtain ⟨b, rfl⟩ := Int.eq_ofNat_of_zero_le wy.1
  exact YtbigljebnajniabGreatMfM.calls a b (by omega) (by omega) v2 base W (hval 2 22 _ rfl rfl) h2 (fun c off hm => hfz c off (by rw [hbef, hp0, hp1, hp2]; simp [hm]))
theorem mountFormats_holds : Rows.MountFormatsSaid :=
  OpenClaim.holds_of_wide 3 Tryz.f3 rfl rfl rfl rfl rfl rfl rfl ⟨rfl, rfl, rfl, rfl, rfl⟩ rfl rfl rfl rfl rfl (by kernel_rfl) Tryz.func3 (by kernel_rfl)
    (of_decide_eq_true (by kernel_rfl)) (by unfold Func.isWrapper; first | (rw [if_pos (by decide +kernel)]; kernel_rfl) | (rw [if_neg (by decide +kernel)]; exact ⟨rfl, rfl⟩))
    (fun os started H enc _ => mf_lifted os started H enc)
end Go.Proofs.YtbigljebnajniabGreat
#print axioms Go.Proofs.YtbigljebnajniabGreat.mountFormats_holds
