/- ServerFirst holds of the given program: for every input the law returns true and leaves its arguments as they were; the listed package-level variables hold what the program's text lays (the card ties them); no other condition. The law's run is shown by a program logic over the abstract machine (device, format, server), its anchor by the kernel. -/
import Derived.Test.YthlpjeoddenioaaGreatDoorSfFst
import Derived.Test.YthlpjeoddenioaaGreatDoorSfTg
import Derived.Test.YthlpjeoddenioaaGreatDoorSfF9
import Derived.Test.YthlpjeoddenioaaGreatDoorA5
import Derived.Test.YthlpjeoddenioaaGreatDoorRows
import Derived.Test.YthlpjeoddenioaaGreatDoorCards
import Derived.Test.YthlpjeoddenioaaGreatDoorTie
import Derived.Test.YthlpjeoddenioaaGreatDoorA5
import Derived.ProofKit
import Derived.SevenTiedAt
import Derived.LaidMore
namespace YthlpjeoddenioaaGreatDoorSfM
open Go Am Go.Proofs Go.Proofs.YthlpjeoddenioaaGreatDoor Go.RowKit Go.ChangeShapes Go.WideShapes Go.ChangeAt Go.Joins
set_option maxRecDepth 1000000
theorem extEq : ctx.ext = ofPairs [(398, .indexByteString)] := by kernel_rfl
theorem extOk : ExtOk ctx Tryz.prog := extOk_index (f := 398) (fun g e h => by
  rw [extEq] at h
  have := ofPairs_get h
  simp only [List.mem_singleton, Prod.mk.injEq] at this
  exact this.1) Tryz.func398 (by kernel_rfl) (by kernel_rfl) (by kernel_rfl) (by kernel_rfl)
noncomputable def glL : List GlE := [⟨3, ⟨.yes (some (.int .u8 (.ofNat 0))) ⟨.yes (some (.int .u8 (.ofNat 1))) ⟨.no (some (.int .u8 (.ofNat 58)))⟩ ⟨.no (some (.int .u8 (.ofNat 47)))⟩ ⟨.no (some (.int .u8 (.ofNat 39)))⟩ ⟨.no (some (.int .u8 (.ofNat 55)))⟩ ⟨.no (some (.int .u8 (.ofNat 35)))⟩ ⟨.no (some (.int .u8 (.ofNat 26)))⟩ ⟨.no (some (.int .u8 (.ofNat 14)))⟩ .e⟩ ⟨.yes (some (.int .u8 (.ofNat 56))) ⟨.no (some (.int .u8 (.ofNat 42)))⟩ ⟨.no (some (.int .u8 (.ofNat 59)))⟩ ⟨.no (some (.int .u8 (.ofNat 33)))⟩ ⟨.no (some (.int .u8 (.ofNat 48)))⟩ ⟨.no (some (.int .u8 (.ofNat 44)))⟩ ⟨.no (some (.int .u8 (.ofNat 40)))⟩ ⟨.no (some (.int .u8 (.ofNat 19)))⟩ .e⟩ ⟨.yes (some (.int .u8 (.ofNat 2))) ⟨.no (some (.int .u8 (.ofNat 50)))⟩ ⟨.no (some (.int .u8 (.ofNat 36)))⟩ ⟨.no (some (.int .u8 (.ofNat 30)))⟩ ⟨.no (some (.int .u8 (.ofNat 27)))⟩ ⟨.no (some (.int .u8 (.ofNat 21)))⟩ ⟨.no (some (.int .u8 (.ofNat 15)))⟩ ⟨.no (some (.int .u8 (.ofNat 9)))⟩ .e⟩ ⟨.yes (some (.int .u8 (.ofNat 57))) ⟨.no (some (.int .u8 (.ofNat 38)))⟩ ⟨.no (some (.int .u8 (.ofNat 45)))⟩ ⟨.no (some (.int .u8 (.ofNat 24)))⟩ ⟨.no (some (.int .u8 (.ofNat 60)))⟩ ⟨.no (some (.int .u8 (.ofNat 52)))⟩ ⟨.no (some (.int .u8 (.ofNat 34)))⟩ ⟨.no (some (.int .u8 (.ofNat 13)))⟩ .e⟩ ⟨.yes (some (.int .u8 (.ofNat 49))) ⟨.no (some (.int .u8 (.ofNat 29)))⟩ ⟨.no (some (.int .u8 (.ofNat 43)))⟩ ⟨.no (some (.int .u8 (.ofNat 18)))⟩ ⟨.no (some (.int .u8 (.ofNat 41)))⟩ ⟨.no (some (.int .u8 (.ofNat 32)))⟩ ⟨.no (some (.int .u8 (.ofNat 20)))⟩ ⟨.no (some (.int .u8 (.ofNat 8)))⟩ .e⟩ ⟨.yes (some (.int .u8 (.ofNat 28))) ⟨.no (some (.int .u8 (.ofNat 17)))⟩ ⟨.no (some (.int .u8 (.ofNat 51)))⟩ ⟨.no (some (.int .u8 (.ofNat 12)))⟩ ⟨.no (some (.int .u8 (.ofNat 37)))⟩ ⟨.no (some (.int .u8 (.ofNat 23)))⟩ ⟨.no (some (.int .u8 (.ofNat 31)))⟩ ⟨.no (some (.int .u8 (.ofNat 7)))⟩ .e⟩ ⟨.yes (some (.int .u8 (.ofNat 3))) ⟨.no (some (.int .u8 (.ofNat 4)))⟩ ⟨.no (some (.int .u8 (.ofNat 22)))⟩ ⟨.no (some (.int .u8 (.ofNat 5)))⟩ ⟨.no (some (.int .u8 (.ofNat 16)))⟩ ⟨.no (some (.int .u8 (.ofNat 11)))⟩ ⟨.no (some (.int .u8 (.ofNat 10)))⟩ ⟨.no (some (.int .u8 (.ofNat 6)))⟩ .e⟩ ⟨.yes (some (.int .u8 (.ofNat 61))) ⟨.no (some (.int .u8 (.ofNat 62)))⟩ ⟨.no (some (.int .u8 (.ofNat 53)))⟩ ⟨.no (some (.int .u8 (.ofNat 63)))⟩ ⟨.no (some (.int .u8 (.ofNat 46)))⟩ ⟨.no (some (.int .u8 (.ofNat 54)))⟩ ⟨.no (some (.int .u8 (.ofNat 25)))⟩ .e .e⟩⟩, [.int .u8 0, .int .u8 1, .int .u8 56, .int .u8 2, .int .u8 57, .int .u8 49, .int .u8 28, .int .u8 3, .int .u8 61, .int .u8 58, .int .u8 42, .int .u8 50, .int .u8 38, .int .u8 29, .int .u8 17, .int .u8 4, .int .u8 62, .int .u8 47, .int .u8 59, .int .u8 36, .int .u8 45, .int .u8 43, .int .u8 51, .int .u8 22, .int .u8 53, .int .u8 39, .int .u8 33, .int .u8 30, .int .u8 24, .int .u8 18, .int .u8 12, .int .u8 5, .int .u8 63, .int .u8 55, .int .u8 48, .int .u8 27, .int .u8 60, .int .u8 41, .int .u8 37, .int .u8 16, .int .u8 46, .int .u8 35, .int .u8 44, .int .u8 21, .int .u8 52, .int .u8 32, .int .u8 23, .int .u8 11, .int .u8 54, .int .u8 26, .int .u8 40, .int .u8 15, .int .u8 34, .int .u8 20, .int .u8 31, .int .u8 10, .int .u8 25, .int .u8 14, .int .u8 19, .int .u8 9, .int .u8 13, .int .u8 8, .int .u8 7, .int .u8 6]⟩, ⟨1, ⟨.yes (some (.int .i64 (.ofNat 1))) ⟨.no (some (.int .i64 (.ofNat 2)))⟩ ⟨.no (some (.int .i64 (.ofNat 2)))⟩ .e .e .e .e .e .e⟩, [.int .i64 1, .int .i64 2, .int .i64 2]⟩, ⟨0, ⟨.yes (some (.int .i64 (.ofNat 0))) ⟨.no (some (.int .u64 (.ofNat 0)))⟩ ⟨.no (some (.int .u64 (.ofNat 0)))⟩ ⟨.no (some (.str []))⟩ .e .e .e .e .e⟩, [.int .i64 0, .int .u64 0, .int .u64 0, .str []]⟩]
theorem h3L : laidB Tryz.prog Rows.serverFirstRow.laid glL = true := by kernel_rfl
theorem h4L : (Rows.serverFirstRow.laid : List (String × DataW Unit)).map (fun x => flatD x.2) = glL.map (fun x => some x.l) := by kernel_rfl
theorem gOk {w : World} (h : laidMet Tryz.prog Rows.serverFirstRow.laid w) : GOk ctx ⟨4, rngT⟩ w :=
  gOk_of (L := glL) (by kernel_rfl) (by kernel_rfl) h3L h4L rfl (by kernel_rfl) (.inr ⟨_, .head _, rfl⟩) h
theorem ex3 (s : T Sum) : (ctx.with s).ext.get 3 = none := by kernel_rfl
theorem l66 : leavesOf Tryz.prog 8 66 = some [.int .u16, .int .u64] := by kernel_rfl
theorem z66 : Tryz.prog.cellsOf 66 = 2 := by kernel_rfl
theorem sumOkG (G : Gd) : SumOk (ctx.with (sumOf seS)) Tryz.prog G := sumOk_of (sokS extOk G)
/- the argument's block is none of the listed variables' -/
def no16 : AV → Bool
  | .int .u16 _ => false
  | .int _ _ => true
  | .str _ => true
  | _ => false
theorem no16_rel {ρ : Rho} {v : AV} {x : Int} (h : no16 v = true) (hr : VRel ρ v (.int .u16 x)) : False := by
  cases hr <;> simp [no16] at h
theorem glNo : (glL.all fun x => x.l.all no16) = true := by kernel_rfl
noncomputable def W0 : World := (begin Tryz.prog (fun _ _ => 0) default).world
theorem w0s : ((List.range 4).map fun g => ((W0.heap[g]?).bind Obj.row?).map (·.1.size)) = [some 4, some 3, some 1, some 64] := by kernel_rfl
theorem gsz : Nat.ble 4 Tryz.prog.globals.size = true := by kernel_rfl
theorem size_of {W : World} (hs : W.ShapedOpen Tryz.prog) {g n : Nat} (hg : g < 4) (h0 : ((W0.heap[g]?).bind Obj.row?).map (·.1.size) = some n) : ∃ cs t, W.heap[g]? = some (.cells cs t) ∧ cs.size = n := by
  cases hr : (W0.heap[g]?).bind Obj.row? with
  | none => rw [hr] at h0; cases h0
  | some p =>
    obtain ⟨zero, t⟩ := p
    rw [hr] at h0
    have h0 : some zero.size = some n := h0
    obtain ⟨cs, h1, h2, _⟩ := hs.1 g zero t (Nat.lt_of_lt_of_le hg (Nat.le_of_ble_eq_true gsz)) hr
    exact ⟨cs, t, h1, by rw [h2]; exact Option.some.inj h0⟩
def tnOf (cs : List Value) : Tn := match cs with | [.int _ x, .int _ y] => ⟨x.toNat, y.toNat⟩ | _ => default
def TnV (cs : List Value) : Prop := ∃ x y : Nat, x < 65536 ∧ y < 18446744073709551616 ∧ cs = [.int .u16 x, .int .u64 y]
theorem leafT {cs : List Value} (h : LeafAllR [.int .u16, .int .u64] cs) : TnV cs := by
  obtain ⟨_, r, rfl, ⟨x, rfl, hx1, hx2⟩, h⟩ := h
  obtain ⟨_, r, rfl, ⟨y, rfl, hy1, hy2⟩, h⟩ := h
  have h : r = [] := h
  subst h
  have hx1 : (0 : Int) ≤ x := hx1
  have hx2 : x ≤ 65535 := hx2
  have hy1 : (0 : Int) ≤ y := hy1
  have hy2 : y ≤ 18446744073709551615 := hy2
  refine ⟨x.toNat, y.toNat, by omega, by omega, ?_⟩
  rw [Int.toNat_of_nonneg hx1, Int.toNat_of_nonneg hy1]
def tns (l : List Value) (n : Nat) : List Tn := (List.range n).map fun i => tnOf ((l.drop (i * 2)).take 2)
theorem tns_length (l : List Value) (n : Nat) : (tns l n).length = n := by simp [tns]
theorem tns_ok {l : List Value} {n : Nat} (h : ∀ i, i < n → TnV ((l.drop (i * 2)).take 2)) : ∀ t ∈ tns l n, t.ok := by
  intro t ht
  obtain ⟨i, hi, rfl⟩ := List.mem_map.1 ht
  obtain ⟨x, y, hx, hy, e⟩ := h i (List.mem_range.1 hi)
  simp only [e, tnOf]
  exact ⟨by simpa using hx, by simpa using hy⟩
theorem tns_row {l : List Value} : ∀ {n : Nat}, (∀ i, i < n → TnV ((l.drop (i * 2)).take 2)) → (l.take (n * 2)).map ofValue = (tns l n).flatMap eT
  | 0, _ => by simp [tns]
  | n + 1, h => by
    have ih := tns_row (l := l) (n := n) fun i hi => h i (by omega)
    obtain ⟨x, y, hx, hy, e⟩ := h n (by omega)
    have e2 : l.take ((n + 1) * 2) = l.take (n * 2) ++ (l.drop (n * 2)).take 2 := by rw [Nat.succ_mul, List.take_add]
    rw [e2, List.map_append, ih, e]
    unfold tns
    rw [List.range_succ, List.map_append, List.flatMap_append]
    simp only [List.map_cons, List.map_nil, List.flatMap_cons, List.flatMap_nil, e, tnOf, Int.toNat_natCast]
    rfl

theorem high {W : World} (hs : W.ShapedOpen Tryz.prog) (hL : laidMet Tryz.prog Rows.serverFirstRow.laid W) {b off m : Nat} {arr : Array Value} {e : TypeId} {fr : Nat × Nat} (hh : W.heap[b]? = some (.cells arr e fr)) (hsz : off + m ≤ arr.size) (h2 : 2 ≤ m) {x : Int} (hx : arr[off]? = some (.int .u16 x)) : 4 ≤ b := by
  rcases Nat.lt_or_ge b 4 with hb | hb
  · exfalso
    have e4 := w0s
    have eb : ((W0.heap[b]?).bind Obj.row?).map (·.1.size) = [some 4, some 3, some 1, some 64][b]'(by simpa using hb) := by
      have := congrArg (fun l => l[b]?) e4
      simp only [List.getElem?_map, List.getElem?_range hb, Option.map_some] at this
      rw [List.getElem?_eq_getElem (by simpa using hb)] at this
      exact Option.some.inj this
    obtain ⟨ps, hv, _⟩ := hL
    have hall := vars_of_laid h3L h4L hv
    have hvar : ∀ y ∈ glL, y.g = b → (∃ n, ((W0.heap[b]?).bind Obj.row?).map (·.1.size) = some n ∧ n ≤ y.l.length) → False := by
      rintro y hy rfl ⟨n, hn, hnl⟩
      obtain ⟨cs, t, k1, k2⟩ := size_of hs hb hn
      rw [hh] at k1
      cases k1
      obtain ⟨arr', e', fr', q1, q2⟩ := hall y hy
      rw [hh] at q1
      cases q1
      have ho : off < y.l.length := by omega
      obtain ⟨z, z1, z2⟩ := q2 off y.l[off] (List.getElem?_eq_getElem ho)
      rw [hx] at z1
      cases z1
      have hall16 := List.all_eq_true.1 glNo y hy
      exact no16_rel (ρ := fun _ => none) (List.all_eq_true.1 hall16 _ (List.getElem_mem ho)) (z2 _)
    have h4 : b = 0 ∨ b = 1 ∨ b = 2 ∨ b = 3 := by omega
    rcases h4 with h4 | h4 | h4 | h4
    · subst h4
      exact hvar _ (.tail _ (.tail _ (.head _))) rfl ⟨4, eb, Nat.le_refl _⟩
    · subst h4
      exact hvar _ (.tail _ (.head _)) rfl ⟨3, eb, Nat.le_refl _⟩
    · subst h4
      obtain ⟨cs, t, k1, k2⟩ := size_of hs hb eb
      rw [hh] at k1
      cases k1
      omega
    · subst h4
      exact hvar _ (.head _) rfl ⟨64, eb, Nat.le_refl _⟩
  · exact hb
theorem calls {Hh : Type} {enc : TypeId × Value → Hh} (a b c e : Nat) (ha : a < 256) (hb : b < 256) (hc : c < 256) (he : e < 18446744073709551616) (v : Value) (b0 : Nat) (W : World) (hs : W.ShapedOpen Tryz.prog) (hL : laidMet Tryz.prog Rows.serverFirstRow.laid W) {d : DataW Hh} {p : List MemPlace} (hval : Value.okWide Tryz.prog W .any b0 22 v) (ht : DataW.Trod enc Tryz.prog W 0 (fun _ => true) true 22 v d p)
    (hfz : ∀ b off, MemPlace.cell b off ∈ p → W.frozen? ⟨b, off, none⟩ = false) : Calls Tryz.prog 3 #[.int .u8 (.ofNat a), .int .u8 (.ofNat b), v, .int .u8 (.ofNat c), .int .u64 (.ofNat e)] W fun e w' => ∃ x, e = .returned x ∧ x = .bool true ∧ Below W.heap.size W w' := by
  have gk := gOk hL
  rcases slice_argR (z := 2) (ks := [.int .u16, .int .u64]) Tryz.underlying22 z66 (by omega) (fun fuel cs x h => trod_leavesR 8 fuel 66 cs x _ l66 h) hval ht hfz with rfl | ⟨s, rfl⟩ | ⟨s, len, cap, arr, elem, fr, rfl, hpos, hle, hmax, hsp, hh, hsz, hfr, hel⟩
  · haveI := hp_nil
    have ee := (law_none (N := 190) (F := []) (v := .nilSlice) (h := ⟨0, .e⟩) ha hb hc he (.inl rfl)).isTrue
    exact calls_all (calls_of (c := ctx.with (sumOf seS)) (COk.with cok _) (extOk.with _) (sumOkG ⟨4, rngT⟩) (K.run_leS tbokS (TyOk.with tyok _) 200) ee (ex3 _) (gk.with _)
      (.cons _ _ _ _ (.int _ _) (.cons _ _ _ _ (.int _ _) (.cons _ _ _ _ .nilSlice (.cons _ _ _ _ (.int _ _) (.cons _ _ _ _ (.int _ _) .nil))))))
  · have hp1 : Hp ⟨1, .e⟩ [] := ⟨[], .nil, fun q hq => (by cases hq), List.nodup_nil, fun q hq => (by cases hq)⟩
    haveI := hp1
    obtain ⟨_, hf, ee, rfl, _⟩ := law_none (N := 190) (F := []) (v := .slice 0 0 0 4) (h := ⟨1, .e⟩) ha hb hc he (.inr ⟨_, _, _, rfl⟩)
    have e0 : (⟨1, .e⟩ : Am.H).ph = fun _ => none := by funext id; exact T.get_e _
    refine calls_all (calls_heap' (c := ctx.with (sumOf seS)) (ρ := argR ⟨0, 0, 0⟩) (COk.with cok _) (extOk.with _) (sumOkG ⟨4, rngT⟩) (K.run_leS tbokS (TyOk.with tyok _) 200) ee (fun id n t ho => ?_) (ex3 _) (gk.with _)
      (.cons _ _ _ _ (.int _ _) (.cons _ _ _ _ (.int _ _) (.cons _ _ _ _ (.slice 0 0 0 4 ⟨0, 0, 0⟩ s 0 rfl (Nat.le_refl _) (.inl rfl) (fun h => by cases h) (by show 0 + 0 * (4 / 2) ≤ 0; omega)) (.cons _ _ _ _ (.int _ _) (.cons _ _ _ _ (.int _ _) .nil))))) (by rw [e0]; exact HRel.empty _ _ _) (fun id hid => ?_) (fun id o l ho _ => ?_))
    · have : (T.e : T AObj).get id = some _ := ho
      rw [T.get_e] at this; cases this
    · have hid : 1 ≤ id := hid
      unfold argR
      rw [if_neg (by omega)]
    · have : (T.e : T AObj).get id = some o := ho
      rw [T.get_e] at this; cases this
  · obtain ⟨blk, off, spot⟩ := s
    have hsp : spot = none := hsp
    subst hsp
    have hsz : off + cap * 2 ≤ arr.size := hsz
    have hel' : ∀ i, i < cap → TnV (((arr.toList.drop off).drop (i * 2)).take 2) := fun i hi => by
      rw [List.drop_drop]
      exact leafT (hel i hi)
    have hlow : 4 ≤ blk := by
      obtain ⟨x, y, _, _, exy⟩ := hel' 0 hpos
      have exy := congrArg (·[0]?) exy
      simp only [Nat.zero_mul, List.drop_zero, List.getElem?_take, List.getElem?_drop, Nat.add_zero, List.getElem?_cons_zero, Array.getElem?_toList] at exy
      exact high hs hL hh hsz (by omega) (x := (x : Int)) (by simpa using exy)
    have hrow := tns_row hel'
    have hok := tns_ok hel'
    have hlen := tns_length (arr.toList.drop off) cap
    have rel := argRel (G := ⟨4, rngT⟩) (W := W) (b := blk) (off := off) (m := cap * 2) hh hsz hfr hlow
    rw [hrow] at rel
    generalize hts : tns (arr.toList.drop off) cap = ts at hok hlen rel
    haveI := hp_argH (ts.flatMap eT)
    have hfl : (ts.flatMap eT).length = cap * 2 := by rw [fm_len fun a => (es_T.len.2 a).1, hlen]
    have hmx : cap ≤ 9223372036854775807 := by
      have : cap ≤ maxLen := hmax
      unfold maxLen at this
      omega
    obtain ⟨_, hf, ee, rfl, hq⟩ := law_row (N := 190) (F := []) (ts := ts) (tid := 0) (m := len) (tg := 4) (h := argH (ts.flatMap eT)) ha hb hc he hok (by omega) (by omega) rfl
    obtain ⟨t1, q1, q2⟩ := hq.head.1
    refine calls_all (calls_heap' (c := ctx.with (sumOf seS)) (h0 := argH (ts.flatMap eT)) (ρ := argR ⟨blk, off, cap * 2⟩) (COk.with cok _) (extOk.with _) (sumOkG ⟨4, rngT⟩) (K.run_leS tbokS (TyOk.with tyok _) 200) ee (fun id n t ho => ?_) (ex3 _) (gk.with _)
      (.cons _ _ _ _ (.int _ _) (.cons _ _ _ _ (.int _ _) (.cons _ _ _ _ (.slice 0 0 len 4 ⟨blk, off, cap * 2⟩ _ cap rfl hle (.inr rfl) (fun h => by cases h) (by show 0 + cap * (4 / 2) ≤ cap * 2; omega)) (.cons _ _ _ _ (.int _ _) (.cons _ _ _ _ (.int _ _) .nil))))) rel (fun id hid => ?_) (fun id o l' ho hl' => ?_))
    · rw [argH_obj] at ho
      split at ho
      · rename_i h0
        cases ho
        subst h0
        exact ⟨t1, q1, fun k hk => by rw [q2 k hk, T.get_ofList]⟩
      · cases ho
    · have hid : 1 ≤ id := hid
      unfold argR
      rw [if_neg (by omega)]
    · rw [argH_obj] at ho
      unfold argR at hl'
      split at ho
      · rename_i h0
        cases ho
        rw [if_pos h0] at hl'
        cases hl'
        refine ⟨_, by rw [hfl], fun k v hk hv => ?_⟩
        rw [T.get_ofList] at hv
        have hm := List.mem_of_getElem? hv
        obtain ⟨t, _, ht⟩ := List.mem_flatMap.1 hm
        simp only [eT, List.mem_cons, List.not_mem_nil, or_false] at ht
        rcases ht with rfl | rfl <;> rfl
      · cases ho
end YthlpjeoddenioaaGreatDoorSfM
namespace Go.Proofs.YthlpjeoddenioaaGreatDoor
open Go.ChangeShapes Go.WideShapes Go.ChangeAt Go.RowKit Go.Joins
set_option maxRecDepth 1000000
theorem Tryz.own : ownKnob Tryz.prog.godebug = none := by kernel_rfl
theorem Tryz.laidOut : laidOutB Tryz.prog = true := by kernel_rfl
theorem door_met (os : Os) (args : Array Value) : laidMetH Tryz.prog Rows.serverFirstRow.laid ((World.doorLaid Tryz.prog 400 os).forCall (fun _ _ => 0) ⟨#[], args, []⟩).memory :=
  laidMet_of_run' 8 (by kernel_rfl) (by kernel_rfl)
set_option maxRecDepth 100000 in
theorem lifted (os : Os) (started : os.Started) (H : Type) (enc : TypeId × Value → H) :
    ReturnsInHanded {} Tryz.checked os 3 .any (fun w args => (Rows.serverFirstSpec.pre enc Tryz.prog Tryz.f3 [] false w args ∧ laidMetH Tryz.prog Rows.serverFirstRow.laid w) ∧ sizedMet enc Tryz.prog Tryz.f3 (OpenSpec.ofChange Rows.serverFirstSpec) false w args)
      (Rows.serverFirstSpec.post enc Tryz.prog Tryz.f3 false true false false) := by
  refine returnsInHanded_of_calls (C := Tryz.checked) Tryz.own started (by kernel_rfl)
    (ChangeSpec.witness_shaped (enc := enc) (C := Tryz.checked) (os := os) (X := fun w _ => laidMetH Tryz.prog Rows.serverFirstRow.laid w) false (World.doorLaid Tryz.prog 400 os) #[.int .u8 0, .int .u8 0, .slice none 0 0, .int .u8 0, .int .u64 0] 8 rfl (World.shaped_of_RefB (by kernel_rfl) (by kernel_rfl)) (by kernel_rfl) (by kernel_rfl) (by kernel_rfl) (door_met os _)) ?_
  intro w tape i _ hsh _ hok hpre hholds
  obtain ⟨_, _, _, fn', hfn', _, _, _, _, hval0⟩ := hok
  obtain rfl : fn' = Tryz.f3 := Option.some.inj (hfn'.symm.trans Tryz.func3)
  obtain ⟨⟨⟨ds, gs, before, hw0, _⟩, hL0⟩, _⟩ := hpre
  have hW := DataW.Whole.of_heap (w' := w.forCall tape i) (by rfl) hw0
  have hL : laidMet Tryz.prog Rows.serverFirstRow.laid (w.forCall tape i) := laidMetH.of_heap (by rfl) hL0
  generalize w.forCall tape i = W at hsh hval0 hW hL
  have hval : ∀ (j : Nat) t v, Tryz.f3.params[j]? = some t → i.args[j]? = some v → Value.okWide Tryz.prog W .any w.heap.size t v := hval0
  generalize w.heap.size = base at hval
  generalize i.args = args at hval hW
  suffices hC : Calls Tryz.prog 3 args W fun e W' => ∃ v, e = .returned v ∧ Rows.serverFirstSpec.post enc Tryz.prog Tryz.f3 false true false false W args v W' by
    refine hC.mono fun e W' ⟨v, he, hp⟩ => ?_
    subst he
    exact ChangeSpec.post_blind hp
  refine Am.row_contract (P := Tryz.prog) (fn := Tryz.f3) (t4 := 4) Tryz.laidOut (by kernel_rfl) (by kernel_rfl) Tryz.underlying4 rfl (fun ds h => ?_) hW ?_
  · match ds, h with
    | [d0, d1, d2, d3, d4], _ => rfl
  obtain ⟨p, q, hA0, _, hbef, hfz, _⟩ := hW
  have hA : DataW.TrodAll enc Tryz.prog W 0 (fun _ => true) true Tryz.f3.params.toList args.toList ds p := hA0
  rw [Tryz.params3] at hA hval
  obtain ⟨al⟩ := args
  replace hA : DataW.TrodAll enc Tryz.prog W 0 (fun _ => true) true [5, 5, 22, 5, 23] al ds p := hA
  obtain ⟨v0, l0, d0, m0, p0, q0, e0, _, hp0, h0, g0⟩ := trodAll_cons hA
  subst e0
  obtain ⟨v1, l1, d1, m1, p1, q1, e1, _, hp1, h1, g1⟩ := trodAll_cons g0
  subst e1
  obtain ⟨v2, l2, d2, m2, p2, q2, e2, _, hp2, h2, g2⟩ := trodAll_cons g1
  subst e2
  obtain ⟨v3, l3, d3, m3, p3, q3, e3, _, hp3, h3, g3⟩ := trodAll_cons g2
  subst e3
  obtain ⟨v4, l4, d4, m4, p4, q4, e4, _, hp4, h4, g4⟩ := trodAll_cons g3
  subst e4
  obtain ⟨rfl, _, hq0⟩ := trodAll_nil g4
  obtain ⟨x, rfl, _, _, wx⟩ := open_int Tryz.underlying5 (hval 0 5 _ rfl rfl) h0
  obtain ⟨y, rfl, _, _, wy⟩ := open_int Tryz.underlying5 (hval 1 5 _ rfl rfl) h1
  obtain ⟨z, rfl, _, _, wz⟩ := open_int Tryz.underlying5 (hval 3 5 _ rfl rfl) h3
  obtain ⟨u, rfl, _, _, wu⟩ := open_int Tryz.underlying23 (hval 4 23 _ rfl rfl) h4
  have wx : (decide ((0 : Int) ≤ x) && decide (x ≤ 255)) = true := wx
  have wy : (decide ((0 : Int) ≤ y) && decide (y ≤ 255)) = true := wy
  have wz : (decide ((0 : Int) ≤ z) && decide (z ≤ 255)) = true := wz
  have wu : (decide ((0 : Int) ≤ u) && decide (u ≤ 18446744073709551615)) = true := wu
  rw [Bool.and_eq_true, decide_eq_true_eq, decide_eq_true_eq] at wx wy wz wu
  obtain ⟨a, rfl⟩ := Int.eq_ofNat_of_zero_le wx.1
  obtain ⟨b, rfl⟩ := Int.eq_ofNat_of_zero_le wy.1
  obtain ⟨c, rfl⟩ := Int.eq_ofNat_of_zero_le wz.1
  obtain ⟨e, rfl⟩ := Int.eq_ofNat_of_zero_le wu.1
  exact YthlpjeoddenioaaGreatDoorSfM.calls a b c e (by omega) (by omega) (by omega) (by omega) v2 base W hsh hL (hval 2 22 _ rfl rfl) h2 (fun c off hm => hfz c off (by rw [hbef, hp0, hp1, hp2]; simp [hm]))
theorem row_holds : Rows.ServerFirstSaid :=
  OpenClaim.holds_of_wide 3 Tryz.f3 rfl rfl rfl rfl rfl rfl rfl ⟨rfl, rfl, rfl, rfl, rfl⟩ rfl rfl rfl rfl rfl serverFirst_f2 Tryz.func3 serverFirst_f1
    serverFirst_f3 serverFirst_f4
    (fun os started H enc _ => lifted os started H enc)
theorem serverFirst_card : Rows.ServerFirstCardSaid :=
  Claim7.holds_tied_plain_at .later [] [.data, .data, .data] true (true, Rows.serverFirstCard.stood.harness.2) false
    row_holds (fun _ h => by cases h) serverFirst_f5 (fun _ h => by cases h) serverFirst_row_tie rfl ⟨rfl, rfl⟩ serverFirst_f6 rfl
    (fun f fn hf hfn => by
      obtain rfl : f = 3 := Option.some.inj ((show Tryz.prog.funcNamed "grommet/grommetlaw26.ServerFirst" = some 3 from serverFirst_f2).symm.trans hf) |>.symm
      obtain rfl : fn = Tryz.f3 := (Option.some.inj (Tryz.func3.symm.trans hfn)).symm
      exact ⟨serverFirst_f7, fun j t ht => by
        rw [Tryz.params3] at ht
        have hm : t ∈ [5, 5, 22, 5, 23] := by simpa using Array.mem_of_getElem? ht
        have hall : ([5, 5, 22, 5, 23].all fun u => !Tryz.prog.wantsStandIn u) = true := by kernel_rfl
        exact (show Tryz.prog.wantsStandIn t = false by simpa using List.all_eq_true.1 hall t hm)⟩)
    serverFirst_f8
end Go.Proofs.YthlpjeoddenioaaGreatDoor
#print axioms Go.Proofs.YthlpjeoddenioaaGreatDoor.serverFirst_card
