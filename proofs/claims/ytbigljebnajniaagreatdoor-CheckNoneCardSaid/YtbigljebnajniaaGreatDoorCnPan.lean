import Derived.Test.YtbigljebnajniaaGreatDoorCnL2
import Derived.Test.YtbigljebnajniaaGreatDoorA4
namespace YtbigljebnajniaaGreatDoorCnM
open Go Am
set_option maxRecDepth 100000
def badR : Run := fun _ _ _ => .bad ""
noncomputable def flt : AV := .iface 29 (.agg [.int .i64 (.ofNat 1), .int .i64 (.ofNat 0), .int .i64 (.ofNat 0)])
theorem p36 (h : H) : stepA ctx badR (.fn 36) [.bool false, .int .i64 (.ofNat 1), .int .i64 (.ofNat 0), .int .i64 (.ofNat 0)] h = .pan flt h := by kernel_rfl
def cOf (f : Func) : Code := match f.body with | some c => c | none => .skip
-- looked, up to the call
noncomputable def c14 : Code := cOf Go.Proofs.Tryz.f14
noncomputable def pre14 (n : Nat) (t : T AV) (len tag : Nat) := recPre ctx badR 14 [.slice 0 0 len tag] (hW n t)
noncomputable def s14p (n : Nat) (t : T AV) (len tag : Nat) : S := match pre14 n t len tag with | some (_, _, s, _, _) => s | none => ⟨.e, [], ⟨0, .e⟩⟩
noncomputable def cap14 (n : Nat) (t : T AV) (len tag : Nat) : List AV := match pre14 n t len tag with | some (_, _, _, _, c) => c | none => []
noncomputable def A14 : Code := .region 2 ⟨cOps (cL (cR (cR c14)))⟩ false
noncomputable def B14 : Code := cR (cR (cR c14))
theorem pre14_eq (R : Run) (n : Nat) (t : T AV) (len tag : Nat) : recPre ctx R 14 [.slice 0 0 len tag] (hW n t) = some (Go.Proofs.Tryz.f14, .seq A14 B14, s14p n t len tag, 23, cap14 n t len tag) := by kernel_rfl
noncomputable def hX (n : Nat) (t : T AV) (len tag : Nat) : H := (s14p n t len tag).h
-- looked: the call panics
noncomputable def an14 : An := (anOf ctx 14).r.r
noncomputable def o14 : List Oper := cOps (cL (cR (cR c14)))
noncomputable def e14 (n : Nat) (t : T AV) (len tag : Nat) : T AV × H := outE (opsA ctx badR o14 (o14.take 1) (((s14p n t len tag).keep an14).keep an14.l).env (hX n t len tag))
noncomputable def q14 (n : Nat) (t : T AV) (len tag : Nat) : S := ⟨dropD o14 (((s14p n t len tag).keep an14).keep an14.l).env, (((s14p n t len tag).keep an14).keep an14.l).marks, hX n t len tag⟩
noncomputable def x14 : Oper := match o14.drop 1 with | o :: _ => o | [] => default
noncomputable def l14 : List Oper := o14.drop 2
theorem ex14 (R : Run) (n : Nat) (t : T AV) (len tag : Nat) (h' : H) (hR : R (.fn 24) [.slice 0 0 len tag] (hX n t len tag) = .pan flt h') :
    execA ctx R none (.seq A14 B14) an14 (s14p n t len tag) = .ok (.pan flt, ⟨(q14 n t len tag).env, (q14 n t len tag).marks, h'⟩) := by
  refine seq_pan (region_pan (opsA_pan (k := 1) (o := x14) (l2 := l14) (env1 := (e14 n t len tag).1) (h1 := hX n t len tag) ?_ ?_ ?_ ?_))
  · kernel_rfl
  · kernel_rfl
  · kernel_rfl
  · rw [← hR]; kernel_rfl
-- begin
noncomputable def c24 : Code := cOf Go.Proofs.Tryz.f24
noncomputable def an24 : An := anOf ctx 24
noncomputable def A24 : Code := cL c24
noncomputable def o24 : List Oper := cOps (cL (cR c24))
noncomputable def m24 : List Oper := cOps (cL (cR (cR c24)))
noncomputable def B24 : Code := cR (cR (cR c24))
theorem b24 : Go.Proofs.Tryz.f24.body = some (.seq A24 (.seq (.region 1 ⟨o24⟩ false) (.seq (.region 2 ⟨m24⟩ false) B24))) := by kernel_rfl
noncomputable def g0 : AV := .agg [.int .i64 (.ofNat 0), .int .i64 (.ofNat 0), .int .i64 (.ofNat 0)]
noncomputable def z5 : AV := .tup [g0, .bool false]
noncomputable def s24 (n : Nat) (t : T AV) (len tag : Nat) : S := outS (execA ctx badR none A24 an24.l (S.keep an24 ⟨T.ofList [.slice 0 0 len tag], [], hX n t len tag⟩))
theorem ea24 (R : Run) (n : Nat) (t : T AV) (len tag : Nat) : execA ctx R none A24 an24.l (S.keep an24 ⟨T.ofList [.slice 0 0 len tag], [], hX n t len tag⟩) = .ok (.norm, s24 n t len tag) := by kernel_rfl
noncomputable def e24 (n : Nat) (t : T AV) (len tag : Nat) : T AV × H := outE (opsA ctx badR o24 (o24.take 1) (((s24 n t len tag).keep an24.r).keep an24.r.l).env (hX n t len tag))
noncomputable def x24 : Oper := match o24.drop 1 with | o :: _ => o | [] => default
noncomputable def f24 (n : Nat) (t : T AV) (len tag : Nat) : T AV × H := outE (opsA ctx badR o24 (o24.drop 2) (dstPut (e24 n t len tag).1 x24.dst z5) (hX n t len tag))
noncomputable def hP (n : Nat) (t : T AV) (len tag : Nat) : H := (f24 n t len tag).2
theorem eb24 (R : Run) (n : Nat) (t : T AV) (len tag : Nat) (hR : R (.fn 5) [.slice 0 0 len tag] (hX n t len tag) = .ok (z5, hX n t len tag)) :
    execA ctx R none (.region 1 ⟨o24⟩ false) an24.r.l ((s24 n t len tag).keep an24.r) = .ok (.norm, ⟨(f24 n t len tag).1, (((s24 n t len tag).keep an24.r).keep an24.r.l).marks, hP n t len tag⟩) := by
  refine region_ok (opsA_ok (k := 1) (o := x24) (l2 := o24.drop 2) (env1 := (e24 n t len tag).1) (h1 := hX n t len tag) (h2 := hX n t len tag) (v := z5) ?_ ?_ ?_ ?_ ?_)
  · kernel_rfl
  · kernel_rfl
  · kernel_rfl
  · rw [← hR]; kernel_rfl
  · kernel_rfl
noncomputable def s24b (n : Nat) (t : T AV) (len tag : Nat) : S := ⟨(f24 n t len tag).1, (((s24 n t len tag).keep an24.r).keep an24.r.l).marks, hP n t len tag⟩
noncomputable def g24 (n : Nat) (t : T AV) (len tag : Nat) : T AV × H := outE (opsA ctx badR m24 (m24.take 1) (((s24b n t len tag).keep an24.r.r).keep an24.r.r.l).env (hP n t len tag))
noncomputable def y24 : Oper := match m24.drop 1 with | o :: _ => o | [] => default
theorem ec24 (R : Run) (n : Nat) (t : T AV) (len tag : Nat) (hR : R (.fn 36) [.bool false, .int .i64 (.ofNat 1), .int .i64 (.ofNat 0), .int .i64 (.ofNat 0)] (hP n t len tag) = .pan flt (hP n t len tag)) :
    execA ctx R none (.region 2 ⟨m24⟩ false) an24.r.r.l ((s24b n t len tag).keep an24.r.r) = .ok (.pan flt, ⟨dropD m24 (((s24b n t len tag).keep an24.r.r).keep an24.r.r.l).env, (((s24b n t len tag).keep an24.r.r).keep an24.r.r.l).marks, hP n t len tag⟩) := by
  refine region_pan (opsA_pan (k := 1) (o := y24) (l2 := m24.drop 2) (env1 := (g24 n t len tag).1) (h1 := hP n t len tag) (h2 := hP n t len tag) ?_ ?_ ?_ ?_)
  · kernel_rfl
  · kernel_rfl
  · kernel_rfl
  · rw [← hR]; kernel_rfl
theorem p24 (R : Run) (n : Nat) (t : T AV) (len tag : Nat) (h5 : R (.fn 5) [.slice 0 0 len tag] (hX n t len tag) = .ok (z5, hX n t len tag))
    (h36 : R (.fn 36) [.bool false, .int .i64 (.ofNat 1), .int .i64 (.ofNat 0), .int .i64 (.ofNat 0)] (hP n t len tag) = .pan flt (hP n t len tag)) :
    stepA ctx R (.fn 24) [.slice 0 0 len tag] (hX n t len tag) = .pan flt (hP n t len tag) := by
  refine step_of_pan (fn := Go.Proofs.Tryz.f24) (s := ⟨dropD m24 (((s24b n t len tag).keep an24.r.r).keep an24.r.r.l).env, (((s24b n t len tag).keep an24.r.r).keep an24.r.r.l).marks, hP n t len tag⟩) ?_ ?_ b24 (seq_ok (ea24 R n t len tag) (seq_ok (eb24 R n t len tag h5) (seq_pan (ec24 R n t len tag h36)))) ?_ ?_
  all_goals kernel_rfl
noncomputable def hZ (n : Nat) (t : T AV) (len tag : Nat) : H := match recRun ctx badR 23 flt (cap14 n t len tag) (hP n t len tag) with | some h => h | none => hP n t len tag
noncomputable def z14 : AV := .tup [.nilPtr, .agg [.int .i64 (.ofNat 1), .int .i64 (.ofNat 0), .int .i64 (.ofNat 0)], .bool false]
theorem a14 (R : Run) (n : Nat) (t : T AV) (len tag : Nat) (hR : R (.fn 24) [.slice 0 0 len tag] (hX n t len tag) = .pan flt (hP n t len tag)) : recA ctx R 14 [.slice 0 0 len tag] (hW n t) = some (z14, hZ n t len tag) := by
  refine recA_of (vs := [.nilPtr, .agg [.int .i64 (.ofNat 1), .int .i64 (.ofNat 0), .int .i64 (.ofNat 0)], .bool false]) (pre14_eq R n t len tag) (ex14 R n t len tag _ hR) ?_ ?_ ?_
  all_goals kernel_rfl
theorem k14 (n : Nat) (t : T AV) (len tag : Nat) : (hZ n t len tag).obj 0 = some (.cells n t) := by kernel_rfl
-- as known calls
section
open Classical
noncomputable def sW (z : AV) (n : Nat) (t : T AV) (len tag : Nat) : Sum := fun args h => if args = [.slice 0 0 len tag] ∧ h.obj 0 = some (.cells n t) then some (z, h) else none
theorem sW_eq {z : AV} {n : Nat} {t : T AV} {len tag : Nat} {h : H} (e : h.obj 0 = some (.cells n t)) : sW z n t len tag [.slice 0 0 len tag] h = some (z, h) := if_pos ⟨rfl, e⟩
theorem sW_inv {z : AV} {n : Nat} {t : T AV} {len tag : Nat} {args : List AV} {h h' : H} {v : AV} (e : sW z n t len tag args h = some (v, h')) : args = [.slice 0 0 len tag] ∧ h.obj 0 = some (.cells n t) ∧ v = z ∧ h' = h := by
  unfold sW at e
  split at e
  · rename_i hh
    cases e
    exact ⟨hh.1, hh.2, rfl, rfl⟩
  · cases e
variable {P : Program} {G : Gd}
theorem sokW {f j n len tag : Nat} {t : T AV} {g : K.KRun → List AV → H → K.KR} {z : AV} {hf : H}
    (hq : ∀ (ρ : Rho) (w : World) (vs : List Value), VRels ρ [.slice 0 0 len tag] vs → HRel G ρ (hW n t).ph w → GOk ctx G w → Free ρ 1 hf.next → FnOk ctx P f ⟨vs⟩ w (Ret G ρ (hW n t) w z hf))
    (hv : z.flat = true) (hkeep : hf.obj 0 = some (.cells n t)) (hrig : ∀ k x, k < n → t.get k = some x → rigid x = true) (hx : ctx.ext.get f = none) : SOk ctx P G ⟨f, j, g, sW z n t len tag⟩ := fun args h v h' e => by
  obtain ⟨rfl, e2, rfl, rfl⟩ := sW_inv e
  exact ⟨Nat.le_refl _, fun ρ w vs p1 p2 p3 _ => known_words hq hv hkeep hrig hx h' ρ w vs e2 p1 p2 p3⟩
noncomputable def Rg (s : Sum) : Run := fun t args h => match t with
  | .fn f => if f = 5 then (match s args h with | some r => .ok r | none => .bad "") else if f = 36 then stepA ctx badR (.fn 36) args h else .bad ""
  | .yield _ => .bad ""
theorem Rg_ok {s : Sum} {j : Nat} {g : K.KRun → List AV → H → K.KR} (hc : COk ctx P) (hX : ExtOk ctx P) (hS : SumOk ctx P G) (h5 : SOk ctx P G ⟨5, j, g, s⟩) : RunOk ctx P G (Rg s) ∧ RunPan ctx P G (Rg s) := by
  have s1 := step_ok (G := G) hc hX hS bad_ok.1 bad_ok.2
  have s2 := step_pan (G := G) hc bad_ok.1 bad_ok.2
  refine ⟨fun tgt args h v h' e => ?_, fun l args h v h' e => (nomatch e), fun f args h v h' e => ?_⟩
  · cases tgt with
    | yield l => cases e
    | fn f =>
      unfold Rg at e
      simp only at e
      split at e
      · rename_i hf
        subst hf
        split at e
        · rename_i r hr
          cases e
          exact h5 args h v h' hr
        · cases e
      · split at e
        · rename_i hf
          subst hf
          exact s1 _ _ _ _ _ e
        · cases e
  · unfold Rg at e
    simp only at e
    split at e
    · split at e <;> cases e
    · split at e
      · rename_i hf
        subst hf
        exact s2.2 _ _ _ _ _ e
      · cases e
theorem sok14W {n len tag j k : Nat} {t : T AV} {g g' : K.KRun → List AV → H → K.KR} (hc : COk ctx P) (hX : ExtOk ctx P) (hS : SumOk ctx P G) (h5 : SOk ctx P G ⟨5, j, g, sW z5 n t len tag⟩) (hrig : ∀ k x, k < n → t.get k = some x → rigid x = true) :
    SOk ctx P G ⟨14, k, g', sW z14 n t len tag⟩ := by
  obtain ⟨r1, r2⟩ := Rg_ok hc hX hS h5
  have hx5 : (YtbigljebnajniaaGreatDoorCnM.hX n t len tag).obj 0 = some (.cells n t) := by kernel_rfl
  have q5 : Rg (sW z5 n t len tag) (.fn 5) [.slice 0 0 len tag] (YtbigljebnajniaaGreatDoorCnM.hX n t len tag) = .ok (z5, YtbigljebnajniaaGreatDoorCnM.hX n t len tag) := by
    unfold Rg
    simp only [if_true]
    rw [sW_eq hx5]
  have q36 : Rg (sW z5 n t len tag) (.fn 36) [.bool false, .int .i64 (.ofNat 1), .int .i64 (.ofNat 0), .int .i64 (.ofNat 0)] (hP n t len tag) = .pan flt (hP n t len tag) := p36 _
  obtain ⟨_, b2⟩ := fn_rec (G := G) hc (step_ok hc hX hS r1 r2) (step_pan hc r1 r2) (a14 (stepA ctx (Rg (sW z5 n t len tag))) n t len tag (p24 _ n t len tag q5 q36))
  exact sokW (fun ρ w vs p1 p2 p3 p4 => .inr (b2 ρ w vs p1 p2 p3 p4)) (by kernel_rfl) (k14 n t len tag) hrig (by kernel_rfl)
end
end YtbigljebnajniaaGreatDoorCnM
