/- The abstract machine of this claim, and its soundness against the model, part 4: proved once, for any program. Merged by a script out of the prover's texts AmKG, AmChk, AmFin, AmRow, AmSum, AmSym, AmSim, AmArg, AmDev, AmRowF, AmWp, AmWp2, AmWp3, AmWp4, AmWp5, AmWp6, AmWp7, AmWp8. -/
import Derived.Test.YthlpjeoddenioaaGreatDoorA3
import Derived.Below
import Derived.ProofKit
import Derived.Lib.SmallJoins
import Derived.Carry
import Derived.LaidLaws
import Derived.ChangeCalls
import Derived.Stop.Joined
import Derived.Lib.Bytealg
import Derived.KernelRfl
namespace Am
open Go
namespace K
section
variable {c : Ctx} {kr : KRun} {ar : Run} {r : AV} {hh : H} {rd : Option Nat}
theorem keepF_congr {env env' : T AV} : ∀ {l : List Nat} {acc : T AV}, (∀ t ∈ l, env.get t = env'.get t) → keepF l env acc = keepF l env' acc
  | [], acc, h => rfl
  | t :: l, acc, h => by
    unfold keepF
    rw [h t List.mem_cons_self]
    exact keepF_congr fun s hs => h s (List.mem_cons_of_mem _ hs)
theorem keepT_keepT {env : T AV} {l : List Nat} {vs : List AV} (h : Picks env l vs) : keepT l (keepT l env) = keepT l env :=
  keepF_congr fun t ht => (keepF_keeps h t).1 ht
theorem keepK_ok {an : An} {env : T AV} {k : T AV → KR} (ms : List Nat) (h : H) (e : keepK an env k = .ok r hh) : k ((S.mk env ms h).keep an).env = .ok r hh := by
  cases an with
  | no => exact e
  | n k' id a b =>
    cases k' with
    | none => exact e
    | some l =>
      obtain ⟨vs, h1, e⟩ := pick_ok e
      exact mkEnv_ok (k := k) h1 e
theorem keep_eq (s : S) (an : An) : s.keep an = ⟨(s.keep an).env, s.marks, s.h⟩ := by
  cases an with
  | no => rfl
  | n k id a b => cases k <;> rfl
theorem execA_keep {code : Code} {an : An} {s1 s2 : S} (h : s1.keep an = s2.keep an) : execA c ar rd code an s1 = execA c ar rd code an s2 := by
  have hm : s1.marks = s2.marks := by rw [← keep_marks s1 an, h, keep_marks]
  have hh : s1.h = s2.h := by rw [← keep_h s1 an, h, keep_h]
  cases code <;> (unfold execA; simp only [h, hm, hh])
def Post (x : X) (s : S) (ret : Cont) (ex : Nat → Cont) (k : Cont) (r : AV) (hh : H) : Prop := match x with
  | .norm => k s.env s.marks s.h = .ok r hh
  | .ret => ret s.env s.marks s.h = .ok r hh
  | .exit i => ex i s.env s.marks s.h = .ok r hh
  | _ => False
def ExOk (c : Ctx) (kr : KRun) (ar : Run) (rd : Option Nat) (code : Code) (f : ExF) : Prop := ∀ (an : An) (env : T AV) (ms : List Nat) (h : H) (ret : Cont) (ex : Nat → Cont) (k : Cont) (r : AV) (hh : H),
  f an kr ret ex env ms h k = .ok r hh → ∃ x s', execA c ar rd code an ⟨env, ms, h⟩ = .ok (x, s') ∧ Post x s' ret ex k r hh
theorem kept_eq {an : An} {l : List Nat} (h : kept an = some l) (s : S) : s.keep an = ⟨keepT l s.env, s.marks, s.h⟩ := by
  cases an with
  | no => cases h
  | n k id a b => cases k with
    | none => cases h
    | some m => cases h; rfl
theorem kept_none {an : An} (h : kept an = none) (s : S) : s.keep an = s := by
  cases an with
  | no => rfl
  | n k id a b => cases k with
    | none => rfl
    | some m => cases h
theorem seq_ok {a b : Code} {fa fb : ExF} (ha : ExOk c kr ar rd a fa) (hb : ExOk c kr ar rd b fb) : ExOk c kr ar rd (.seq a b) (seqK fa fb) := by
  intro an env ms h ret ex k r hh e
  have e := keepK_ok ms h e
  have go : ∀ (K : Cont), (∀ env ms h, K env ms h = .ok r hh → ∃ x s', execA c ar rd b an.r ⟨env, ms, h⟩ = .ok (x, s') ∧ Post x s' ret ex k r hh) →
      fa an.l kr ret ex ((S.mk env ms h).keep an).env ms h K = .ok r hh → ∃ x s', execA c ar rd (.seq a b) an ⟨env, ms, h⟩ = .ok (x, s') ∧ Post x s' ret ex k r hh := by
    intro K hK e
    obtain ⟨x, s', h1, h2⟩ := ha _ _ _ _ _ _ _ _ _ e
    unfold execA
    rw [keep_eq (S.mk env ms h) an, h1]
    cases x with
    | norm =>
      obtain ⟨x, s'', h3, h4⟩ := hK _ _ _ h2
      exact ⟨x, s'', h3, h4⟩
    | ret => exact ⟨_, _, rfl, h2⟩
    | exit i => exact ⟨_, _, rfl, h2⟩
    | goto => exact h2.elim
    | pan => exact h2.elim
  cases hk : kept an.r with
  | none =>
    rw [hk] at e
    exact go _ (fun env ms h e => hb _ _ _ _ _ _ _ _ _ e) e
  | some l =>
    rw [hk] at e
    refine go (fun env ms h => pick l env fun vs => mkEnv l vs .e fun env => fb an.r kr ret ex env ms h k) (fun env ms h e => ?_) e
    obtain ⟨vs, h1, e⟩ := pick_ok e
    have e : fb an.r kr ret ex (keepT l env) ms h k = .ok r hh := mkEnv_ok (k := fun env => fb an.r kr ret ex env ms h k) h1 e
    obtain ⟨x, s', h2, h3⟩ := hb _ _ _ _ _ _ _ _ _ e
    refine ⟨x, s', ?_, h3⟩
    rw [← h2]
    refine execA_keep ?_
    rw [kept_eq hk, kept_eq hk]
    simp only [keepT_keepT h1]
theorem loop_ok {b : Code} {f : ExF} (hb : ExOk c kr ar rd b f) : ExOk c kr ar rd (.loop b) (loopE f) := by
  intro an env ms h ret ex k r hh e
  have e := keepK_ok ms h e
  obtain ⟨l, hl, e⟩ := optS_ok e
  obtain ⟨vs, hp, e⟩ := pick_ok e
  have main : ∀ (n : Nat) (env : T AV) (vs : List AV) (ms : List Nat) (h : H), Picks env l vs → loopV n (fun self vs ms h => mkEnv l vs .e fun env => f an.l kr ret ex env ms h fun env ms h => pick l env fun vs => self vs ms h) vs ms h = .ok r hh →
      ∃ x s', loopA (execA c ar rd b an.l) n ⟨env, ms, h⟩ = .ok (x, s') ∧ Post x s' ret ex k r hh := by
    intro n
    induction n with
    | zero => intro env vs ms h hp e; cases e
    | succ n ih =>
      intro env vs ms h hp e
      have e : mkEnv l vs .e (fun env => f an.l kr ret ex env ms h fun env ms h => pick l env fun vs => loopV n (fun self vs ms h => mkEnv l vs .e fun env => f an.l kr ret ex env ms h fun env ms h => pick l env fun vs => self vs ms h) vs ms h) = .ok r hh := e
      have e := mkEnv_ok hp e
      obtain ⟨x, s', h1, h2⟩ := hb _ _ _ _ _ _ _ _ _ e
      have h1 : execA c ar rd b an.l ⟨env, ms, h⟩ = .ok (x, s') := by
        rw [← h1]
        refine execA_keep ?_
        rw [kept_eq hl, kept_eq hl]
        exact congrArg (fun e => S.mk e ms h) (keepT_keepT hp).symm
      unfold loopA
      rw [h1]
      cases x with
      | norm =>
        have h2 : pick l s'.env (fun vs => loopV n (fun self vs ms h => mkEnv l vs .e fun env => f an.l kr ret ex env ms h fun env ms h => pick l env fun vs => self vs ms h) vs s'.marks s'.h) = .ok r hh := h2
        obtain ⟨vs', hp', e⟩ := pick_ok h2
        exact ih s'.env vs' s'.marks s'.h hp' e
      | ret => exact ⟨_, _, rfl, h2⟩
      | exit i => exact ⟨_, _, rfl, h2⟩
      | goto => exact h2.elim
      | pan => exact h2.elim
  obtain ⟨x, s', h1, h2⟩ := main _ _ vs ms h hp e
  refine ⟨x, s', ?_, h2⟩
  unfold execA
  rw [keep_eq (S.mk env ms h) an]
  exact h1
def endA (c : Ctx) (ar : Run) (gv : AV) (env : T AV) (marks : List Nat) (l : Nat) (h : H) : R (X × S) := match rangeA c ar gv l h with
  | .ok (_, h) => match h.obj l with
    | some (.loop st pend en r d) => match st with
      | .busy => .bad "rangeFunc: busy"
      | _ =>
        let h := h.upd l (.loop .exhausted pend en r d)
        match pend with
        | none => .ok (.norm, ⟨env, marks, h⟩)
        | some .ret => .ok (.ret, ⟨env, marks, h⟩)
        | some (.exit i) => .ok (.exit i, ⟨env, marks, h⟩)
        | some _ => .bad "rangeFunc: jump"
    | _ => .bad "rangeFunc: loop gone"
  | .pan _ _ => .bad "rangeFunc: panics"
  | .bad w => .bad w
theorem execA_range {g : Operand} {ps : Array Nat} {as body : Code} {an : An} {s : S} : execA c ar rd (.rangeFunc g ps as body) an s = match enterA rd (s.keep an) with
    | none => .bad "rangeFunc: loop"
    | some (d, marks, h) => endA c ar (evalO (s.keep an).env g) (s.keep an).env marks (h.new (.loop .ready none (s.keep an).env an.id d)).1 (h.new (.loop .ready none (s.keep an).env an.id d)).2 := by
  unfold execA
  simp only
  cases enterA rd (s.keep an) with
  | none => rfl
  | some q => obtain ⟨d, marks, h⟩ := q; rfl
theorem endA_ok (hr : KLe kr ar) {gv : AV} {env : T AV} {marks : List Nat} {l : Nat} {h : H} {kn krr : H → KR} {ke : Nat → H → KR} (e : rngK c kr gv l h kn krr ke = .ok r hh) :
    ∃ x h3, endA c ar gv env marks l h = .ok (x, ⟨env, marks, h3⟩) ∧ (match x with | .norm => kn h3 = .ok r hh | .ret => krr h3 = .ok r hh | .exit i => ke i h3 = .ok r hh | _ => False) := by
  cases gv with
  | func fn first cap =>
    cases fn with
    | func f =>
      have e : Option.rec (motive := fun _ => KR) (retK (kr (.fn f) (app first (.yield l :: cap)) h) fun _ h => endK l h kn krr ke) (fun _ => .bad) (c.ext.get f) = .ok r hh := e
      cases hx : c.ext.get f with
      | some x => rw [hx] at e; cases e
      | none =>
        rw [hx] at e
        obtain ⟨v, h2, h1, e⟩ := retK_ok e
        have h1 := hr _ _ _ _ _ h1
        rw [app_eq] at h1
        have hra : rangeA c ar (.func (.func f) first cap) l h = .ok (v, h2) := by
          unfold rangeA
          simp only [hx]
          rw [← h1]
          simp
        obtain ⟨o, ho, e⟩ := opt_ok e
        rw [hObj_eq] at ho
        obtain ⟨st, pend, en, rn, d, rfl, e⟩ := asLoop_ok e
        have fin : st ≠ .busy → hUpd h2 l (some (.loop .exhausted pend en rn d)) (fun h => Option.rec (motive := fun _ => KR) (kn h) (fun j => Code.rec (motive := fun _ => KR) .bad (fun _ _ _ => .bad) (fun _ _ _ _ => .bad) (fun _ _ _ _ _ => .bad) (fun _ _ _ => .bad) (fun _ _ => .bad) (fun _ _ _ _ _ _ => .bad) (fun i => ke i h) (fun _ _ => .bad) (fun _ => .bad) (fun _ => .bad) (krr h) (fun _ => .bad) j) pend) = .ok r hh →
            ∃ x h3, endA c ar (.func (.func f) first cap) env marks l h = .ok (x, ⟨env, marks, h3⟩) ∧ (match x with | .norm => kn h3 = .ok r hh | .ret => krr h3 = .ok r hh | .exit i => ke i h3 = .ok r hh | _ => False) := by
          intro hst e
          rw [hUpd_eq] at e
          unfold endA
          rw [hra]
          simp only [ho]
          cases pend with
          | none => exact ⟨.norm, _, by cases st <;> first | rfl | exact absurd rfl hst, e⟩
          | some j =>
            cases j with
            | exit i => exact ⟨.exit i, _, by cases st <;> first | rfl | exact absurd rfl hst, e⟩
            | ret => exact ⟨.ret, _, by cases st <;> first | rfl | exact absurd rfl hst, e⟩
            | _ => cases e
        cases st with
        | busy => cases e
        | ready => exact fin (by simp) e
        | done => exact fin (by simp) e
        | exhausted => exact fin (by simp) e
    | _ => cases e
  | yield l => cases e
  | _ => cases e
theorem enterK_ok {ms : List Nat} {h : H} {k : Nat → List Nat → H → KR} (env : T AV) (e : enterK rd ms h k = .ok r hh) : ∃ d ms' h', enterA rd ⟨env, ms, h⟩ = some (d, ms', h') ∧ k d ms' h' = .ok r hh := by
  cases rd with
  | none =>
    have e : hNew h .marks (fun r h => k r (r :: ms) h) = .ok r hh := e
    rw [hNew_eq] at e
    exact ⟨_, _, _, rfl, e⟩
  | some l =>
    obtain ⟨o, ho, e⟩ := opt_ok e
    rw [hObj_eq] at ho
    obtain ⟨a, b, cc, d, n, rfl, e⟩ := asLoop_ok e
    exact ⟨n, ms, h, by simp only [enterA, ho], e⟩
theorem range_ok (hr : KLe kr ar) {g : Operand} {ps : Array Nat} {as body : Code} : ExOk c kr ar rd (.rangeFunc g ps as body) (rangeK c rd g ps as body) := by
  intro an env ms h ret ex k r hh e
  have e := keepK_ok ms h e
  rw [execA_range, keep_eq (S.mk env ms h) an]
  generalize ((S.mk env ms h).keep an).env = E at e
  have e := ev_ok (x := g) (k := fun gv => enterK rd ms h fun d ms h => hNew h (.loop .ready none E an.id d) fun l h => rngK c kr gv l h (fun h => k E ms h) (fun h => ret E ms h) fun i h => ex i E ms h) e
  obtain ⟨d, ms', h', h1, e⟩ := enterK_ok E e
  rw [hNew_eq] at e
  obtain ⟨x, h3, h2, h4⟩ := endA_ok hr (env := E) (marks := ms') e
  refine ⟨x, ⟨E, ms', h3⟩, ?_, ?_⟩
  · rw [h1]
    exact h2
  · cases x <;> exact h4
theorem exec_ok (hr : KLe kr ar) : ∀ (code : Code), ExOk c kr ar rd code (exec c rd code)
  | .skip => fun an env ms h ret ex k r hh e => by
    have e := keepK_ok (an := an) (k := fun env => k env ms h) ms h e
    exact ⟨.norm, ⟨((S.mk env ms h).keep an).env, ms, h⟩, by unfold execA; rw [keep_eq (S.mk env ms h) an], e⟩
  | .label _ => fun an env ms h ret ex k r hh e => by
    have e := keepK_ok (an := an) (k := fun env => k env ms h) ms h e
    exact ⟨.norm, ⟨((S.mk env ms h).keep an).env, ms, h⟩, by unfold execA; rw [keep_eq (S.mk env ms h) an], e⟩
  | .exit i => fun an env ms h ret ex k r hh e => by
    have e := keepK_ok (an := an) (k := fun env => ex i env ms h) ms h e
    exact ⟨.exit i, ⟨((S.mk env ms h).keep an).env, ms, h⟩, by unfold execA; rw [keep_eq (S.mk env ms h) an], e⟩
  | .ret => fun an env ms h ret ex k r hh e => by
    have e := keepK_ok (an := an) (k := fun env => ret env ms h) ms h e
    exact ⟨.ret, ⟨((S.mk env ms h).keep an).env, ms, h⟩, by unfold execA; rw [keep_eq (S.mk env ms h) an], e⟩
  | .goto _ => fun an env ms h ret ex k r hh e => by cases e
  | .refuse _ => fun an env ms h ret ex k r hh e => by cases e
  | .region id q d => fun an env ms h ret ex k r hh e => by
    unfold execA
    cases d with
    | false =>
      have e := keepK_ok (an := an) (k := fun env => regK c kr q.toList q.toList env h fun env h => k env ms h) ms h e
      obtain ⟨env', h', h1, e⟩ := regK_ok hr _ _ _ _ e
      exact ⟨.norm, ⟨env', ms, h'⟩, by simp only [h1], e⟩
    | true =>
      have e := keepK_ok (an := an) (k := fun env => optS (plan c q.toList) fun l => planK c kr q.toList l [] env h fun env h => k env ms h) ms h e
      obtain ⟨l, h1, e⟩ := optS_ok e
      obtain ⟨env', h', h2, e⟩ := planK_ok hr l [] [] _ _ _ (fun _ _ _ => rfl) e
      exact ⟨.norm, ⟨env', ms, h'⟩, by simp only [h1, h2], e⟩
  | .seq a b => seq_ok (exec_ok hr a) (exec_ok hr b)
  | .cond o a b => fun an env ms h ret ex k r hh e => by
    have e := keepK_ok (an := an) (k := fun env => ev o env fun v => iteV v (exec c rd a an.l kr ret ex env ms h k) (exec c rd b an.r kr ret ex env ms h k)) ms h e
    have e := ev_ok (x := o) (k := fun v => iteV v (exec c rd a an.l kr ret ex ((S.mk env ms h).keep an).env ms h k) (exec c rd b an.r kr ret ex ((S.mk env ms h).keep an).env ms h k)) e
    unfold execA
    rw [keep_eq (S.mk env ms h) an]
    rcases iteV_ok e with ⟨h1, e⟩ | ⟨h1, e⟩
    · obtain ⟨x, s', h2, h3⟩ := exec_ok hr a _ _ _ _ _ _ _ _ _ e
      exact ⟨x, s', by simp only [h1]; exact h2, h3⟩
    · obtain ⟨x, s', h2, h3⟩ := exec_ok hr b _ _ _ _ _ _ _ _ _ e
      exact ⟨x, s', by simp only [h1]; exact h2, h3⟩
  | .block id b => fun an env ms h ret ex k r hh e => by
    have e := keepK_ok (an := an) (k := fun env => exec c rd b an.l kr ret (fun i env ms h => Bool.rec (motive := fun _ => KR) (ex i env ms h) (k env ms h) (Nat.beq i id)) env ms h k) ms h e
    obtain ⟨x, s', h2, h3⟩ := exec_ok hr b _ _ _ _ _ _ _ _ _ e
    unfold execA
    rw [keep_eq (S.mk env ms h) an, h2]
    cases x with
    | norm => exact ⟨.norm, s', rfl, h3⟩
    | ret => exact ⟨.ret, s', rfl, h3⟩
    | exit i =>
      have h3 : Bool.rec (motive := fun _ => KR) (ex i s'.env s'.marks s'.h) (k s'.env s'.marks s'.h) (Nat.beq i id) = .ok r hh := h3
      cases hb : Nat.beq i id with
      | true => rw [hb] at h3; exact ⟨.norm, s', by simp only [hb], h3⟩
      | false => rw [hb] at h3; exact ⟨.exit i, s', by simp only [hb], h3⟩
    | goto => exact h3.elim
    | pan => exact h3.elim
  | .loop b => loop_ok (exec_ok hr b)
  | .rangeFunc g ps as body => range_ok hr
  | .scope b => fun an env ms h ret ex k r hh e => by
    have e := keepK_ok (an := an) (k := fun env => exec c rd b an.l kr ret ex env ms h k) ms h e
    obtain ⟨x, s', h2, h3⟩ := exec_ok hr b _ _ _ _ _ _ _ _ _ e
    unfold execA
    rw [keep_eq (S.mk env ms h) an, h2]
    cases x with
    | goto => exact h3.elim
    | pan => exact h3.elim
    | _ => exact ⟨_, s', rfl, h3⟩
theorem argsK_ok : ∀ (n i : Nat) (env : T AV) (l : List AV) (k : T AV → KR), argsK n i env l k = .ok r hh → k (Am.setCells env i l) = .ok r hh
  | 0, i, env, l, k, e => by
    obtain ⟨rfl, e1⟩ := unnil_ok e
    exact e1
  | n + 1, i, env, l, k, e => by
    obtain ⟨v, t, rfl, e1⟩ := uncons_ok e
    rw [put_set] at e1
    exact argsK_ok n (i + 1) (env.set i v) t k e1
theorem resK_ok {env : T AV} {h : H} : ∀ (l : List ResultVar) (k : List AV → KR), resK c l env h k = .ok r hh → ∃ vs, resultsA c env h l = .ok vs ∧ k vs = .ok r hh
  | [], k, e => ⟨[], rfl, e⟩
  | .tmp t :: l, k, e => by
    obtain ⟨v, h1, e⟩ := optS_ok e
    obtain ⟨vs, h2, e⟩ := resK_ok l _ e
    rw [get_eq] at h1
    exact ⟨v :: vs, by simp only [resultsA, h2, evalO, h1], e⟩
  | .cell a t :: l, k, e => by
    obtain ⟨ti, h1, e⟩ := optS_ok e
    obtain ⟨v, h2, e⟩ := optS_ok e
    rw [get_eq] at h2
    cases ha : ti.isAgg with
    | true =>
      rw [ha] at e
      obtain ⟨id, off, h3, e⟩ := asPtr_ok e
      obtain ⟨x, h4, e⟩ := loads_ok e
      obtain ⟨vs, h5, e⟩ := resK_ok l _ e
      refine ⟨.agg x :: vs, ?_, e⟩
      simp only [resultsA, evalO, h2, h3, loadA, h1, ha, h4, h5]
    | false =>
      rw [ha] at e
      obtain ⟨id, off, h3, e⟩ := asPtr_ok e
      obtain ⟨x, h4, e⟩ := load1_ok e
      obtain ⟨vs, h5, e⟩ := resK_ok l _ e
      refine ⟨x :: vs, ?_, e⟩
      simp only [resultsA, evalO, h2, h3, loadA, h1, ha, h4, h5]
theorem unmarkK_ok : ∀ (ms : List Nat) (h : H) (k : H → KR), unmarkK ms h k = .ok r hh → ∃ h', unmark ms h = some h' ∧ k h' = .ok r hh
  | [], h, k, e => ⟨h, rfl, e⟩
  | m :: ms, h, k, e => by
    obtain ⟨o, h1, e⟩ := opt_ok e
    obtain ⟨rfl, e⟩ := asMarks_ok e
    rw [hKill_eq] at e
    rw [hObj_eq] at h1
    obtain ⟨h', h2, e⟩ := unmarkK_ok ms _ k e
    exact ⟨h', by simp only [unmark, h1, h2], e⟩
theorem oneV_eq (l : List AV) : oneV l = tupOf l := by
  match l with
  | [] => rfl
  | [v] => rfl
  | a :: b :: l => rfl
theorem finK_ok {l : List ResultVar} {env : T AV} {ms : List Nat} {h : H} (e : finK c l env ms h = .ok r hh) : ∃ h1 vs, unmark ms h = some h1 ∧ resultsA c env h1 l = .ok vs ∧ r = tupOf vs ∧ hh = h1 := by
  obtain ⟨h1, h2, e⟩ := unmarkK_ok _ _ _ e
  obtain ⟨vs, h3, e⟩ := resK_ok _ _ e
  cases e
  exact ⟨_, vs, h2, h3, oneV_eq vs, rfl⟩
def NoSum (c : Ctx) : Prop := ∀ f, c.sum.get f = none
theorem fnK_ok {f n : Nat} {args : List AV} {h : H} (hs : ∀ s, c.sum.get f = some s → s args h = none) (hr : KLe kr ar) (e : fnK c f n kr args h = .ok r hh) : stepA c ar (.fn f) args h = .ok (r, hh) := by
  obtain ⟨fn, h1, e⟩ := optS_ok e
  obtain ⟨code, h2, e⟩ := optS_ok e
  have e := argsK_ok _ _ _ _ _ e
  rw [← ofList_eq] at e
  obtain ⟨x, s', h3, h4⟩ := exec_ok hr code _ _ _ _ _ _ _ _ _ e
  have key : ∀ {R1 : R (AV × H)}, (match execA c ar none code (anOf c f) ⟨T.ofList args, [], h⟩ with
        | .ok (x, s) => (match x with
          | .norm | .ret => match unmark s.marks s.h with
            | some h => match resultsA c s.env h fn.results.toList with
              | .ok vs => R.ok (tupOf vs, h)
              | .pan _ _ => .bad "results"
              | .bad w => .bad w
            | none => .bad "marks"
          | .pan v => match noDef code, unmark s.marks s.h with
            | true, some h => .pan v h
            | _, _ => .bad "a panic in a function that defers"
          | _ => .bad "a jump out of a function")
        | .pan _ _ => .bad "panic"
        | .bad w => .bad (w ++ "\n  in " ++ fn.name)) = R1 → stepA c ar (.fn f) args h = R1 := by
    intro R1 hR
    unfold stepA
    cases hq : c.sum.get f with
    | none => simp only [hq, h1, h2]; exact hR
    | some s => simp only [hq, hs s hq, h1, h2]; exact hR
  refine key ?_
  simp only [h3]
  cases x with
  | norm =>
    obtain ⟨h5, vs, h6, h7, rfl, rfl⟩ := finK_ok h4
    simp only [h6, h7]
  | ret =>
    obtain ⟨h5, vs, h6, h7, rfl, rfl⟩ := finK_ok h4
    simp only [h6, h7]
  | exit i => cases h4
  | goto => exact h4.elim
  | pan => exact h4.elim
theorem extK'_ok (hs : NoSum c) {f : Nat} {args : List AV} {h : H} (e : extK' c f kr args h = .ok r hh) : stepA c ar (.fn f) args h = .ok (r, hh) := by
  obtain ⟨fn, h1, e⟩ := opt_ok e
  unfold stepA
  simp only [hs f, h1]
  cases h2 : fn.body with
  | some code => rw [h2] at e; cases e
  | none =>
    rw [h2] at e
    obtain ⟨x, h3, e⟩ := opt_ok e
    obtain ⟨v, h', h4, e⟩ := rK_ok e
    cases e
    simp only [h3, h4]
theorem rdyK_ok {st : LoopState} {x : KR} (e : rdyK st x = .ok r hh) : st = .ready ∧ x = .ok r hh := by
  cases st with
  | ready => exact ⟨rfl, e⟩
  | _ => cases e
theorem begR_ok {l : Nat} {h : H} {k : H → KR} (e : begR l h k = .ok r hh) : ∃ pend en rn d, h.obj l = some (.loop .ready pend en rn d) ∧ k (h.upd l (.loop .busy pend en rn d)) = .ok r hh := by
  obtain ⟨o, h1, e⟩ := opt_ok e
  obtain ⟨st, pend, en, rn, d, ho, e⟩ := asLoop_ok e
  obtain ⟨hst, e⟩ := rdyK_ok e
  rw [hUpd_eq] at e
  rw [hObj_eq, ho, hst] at h1
  exact ⟨pend, en, rn, d, h1, e⟩
theorem finR_ok {l : Nat} {h : H} {st : LoopState} {j : Option Code} {b : Bool} (e : finR l h st j b = .ok r hh) : ∃ s0 pend en rn d, h.obj l = some (.loop s0 pend en rn d) ∧ r = .bool b ∧ hh = h.upd l (.loop st j en rn d) := by
  obtain ⟨o, h1, e⟩ := opt_ok e
  obtain ⟨s0, pend, en, rn, d, ho, e⟩ := asLoop_ok e
  rw [hUpd_eq] at e
  rw [hObj_eq, ho] at h1
  cases e
  exact ⟨s0, pend, en, rn, d, h1, rfl, rfl⟩
noncomputable def lk (base : T AV) (al : List (Nat × AV)) (t : Nat) : Option AV := match findA t al with
  | some v => some v
  | none => base.get t
theorem findA_cons {t p : Nat} {v : AV} {al : List (Nat × AV)} : findA t ((p, v) :: al) = if t = p then some v else findA t al := by
  have : findA t ((p, v) :: al) = Bool.rec (motive := fun _ => Option AV) (findA t al) (some v) (Nat.beq t p) := rfl
  rw [this]
  by_cases h : t = p
  · subst h; rw [if_pos rfl, show Nat.beq t t = true from beq_self t]
  · rw [if_neg h]
    cases hb : Nat.beq t p with
    | true => exact absurd (Nat.eq_of_beq_eq_true hb) h
    | false => rfl
theorem unArgs_ok (base : T AV) : ∀ (ps : List Nat) (args : List AV) (acc : List (Nat × AV)) (env : T AV) (k : List (Nat × AV) → KR), (∀ t, env.get t = lk base acc t) → unArgs ps args acc k = .ok r hh →
    ∃ env' al, Am.setParams env ps args = some env' ∧ k al = .ok r hh ∧ ∀ t, env'.get t = lk base al t
  | [], args, acc, env, k, hb, e => by
    obtain ⟨ha, e⟩ := unnil_ok e
    subst ha
    exact ⟨env, acc, rfl, e, hb⟩
  | p :: ps, args, acc, env, k, hb, e => by
    obtain ⟨v, t, ha, e1⟩ := uncons_ok e
    subst ha
    obtain ⟨env', al, h1, h2, h3⟩ := unArgs_ok base ps t ((p, v) :: acc) (env.set p v) k (fun s => by
      rw [T.get_set]
      unfold lk
      rw [findA_cons]
      by_cases hs : s = p
      · rw [if_pos hs, if_pos hs]
      · rw [if_neg hs, if_neg hs]; exact hb s) e1
    exact ⟨env', al, h1, h2, h3⟩
theorem pickR_ok {base env : T AV} {al : List (Nat × AV)} (hb : ∀ t, env.get t = lk base al t) : ∀ (l : List Nat) (k : List AV → KR), pickR l al base k = .ok r hh → ∃ vs, Picks env l vs ∧ k vs = .ok r hh
  | [], k, e => ⟨[], trivial, e⟩
  | t :: l, k, e => by
    have e : Option.rec (motive := fun _ => KR) (opt (get base t) fun v => pickR l al base fun vs => k (v :: vs)) (fun v => pickR l al base fun vs => k (v :: vs)) (findA t al) = .ok r hh := e
    have ht := hb t
    unfold lk at ht
    cases hf : findA t al with
    | some v =>
      rw [hf] at e ht
      obtain ⟨vs, h1, e⟩ := pickR_ok hb l _ e
      exact ⟨v :: vs, ⟨ht, h1⟩, e⟩
    | none =>
      rw [hf] at e ht
      obtain ⟨v, h1, e⟩ := opt_ok e
      obtain ⟨vs, h2, e⟩ := pickR_ok hb l _ e
      rw [get_eq] at h1
      exact ⟨v :: vs, ⟨ht.trans h1, h2⟩, e⟩
theorem rndK_ok (hr : KLe kr ar) {rn l : Nat} {args : List AV} {env : T AV} {h : H} {st : LoopState} {pend : Option Code} {d : Nat} (ho : h.obj l = some (.loop st pend env rn d)) (e : rndK c rn kr l args env h = .ok r hh) :
    stepA c ar (.yield l) args h = .ok (r, hh) := by
  obtain ⟨q, h1, e⟩ := optS_ok e
  obtain ⟨L, h2, e⟩ := optS_ok e
  obtain ⟨env1, al, h3, e, h4⟩ := unArgs_ok env q.ps args [] env _ (fun t => rfl) e
  obtain ⟨vs, h5, e⟩ := pickR_ok h4 L _ e
  have e := mkEnv_ok (k := fun env => exec c (some l) q.assign q.al kr (fun _ _ _ => .bad) (fun _ _ _ _ => .bad) env [] h fun env ms h => begR l h fun h =>
    exec c (some l) q.body q.ar kr (fun _ _ h => finR l h .done (some .ret) false) (fun i _ _ h => finR l h .done (some (.exit i)) false) env ms h fun _ _ h => finR l h .ready none true) h5 e
  obtain ⟨x, s1, h6, h7⟩ := exec_ok hr q.assign _ _ _ _ _ _ _ _ _ e
  have h6 : execA c ar (some l) q.assign q.al ⟨env1, [], h⟩ = .ok (x, s1) := by
    rw [← h6]
    refine execA_keep ?_
    rw [kept_eq h2, kept_eq h2]
    exact congrArg (fun e => S.mk e [] h) (keepT_keepT h5).symm
  cases x with
  | norm =>
    obtain ⟨pend1, en1, rn1, d1, h8, e⟩ := begR_ok h7
    obtain ⟨x, s2, h9, h10⟩ := exec_ok hr q.body _ _ _ _ _ _ _ _ _ e
    unfold stepA
    simp only [ho, h1, h3, h6, h8, h9]
    cases x with
    | norm =>
      obtain ⟨s0, pend2, en2, rn2, d2, h11, rfl, rfl⟩ := finR_ok h10
      simp only [h11]
    | ret =>
      obtain ⟨s0, pend2, en2, rn2, d2, h11, rfl, rfl⟩ := finR_ok h10
      simp only [h11]
    | exit i =>
      obtain ⟨s0, pend2, en2, rn2, d2, h11, rfl, rfl⟩ := finR_ok h10
      simp only [h11]
    | goto => exact h10.elim
    | pan => exact h10.elim
  | ret => cases h7
  | exit i => cases h7
  | goto => exact h7.elim
  | pan => exact h7.elim
def TbOk (c : Ctx) (tb : T FnC) : Prop := ∀ f g, tb.get f = some g → (∃ n, g.f = fnK c f n) ∨ g.f = extK' c f
def TyOk (c : Ctx) (ty : T RnC) : Prop := ∀ rn g, ty.get rn = some g → g.f = rndK c rn
theorem run_le (hs : NoSum c) {tb : T FnC} {ty : T RnC} (h1 : TbOk c tb) (h2 : TyOk c ty) : ∀ n, KLe (run tb ty n) (runA c n)
  | 0 => fun t a h v h' e => by cases e
  | n + 1 => fun t a h v h' e => by
    have ih := run_le hs h1 h2 n
    unfold runA
    cases t with
    | fn f =>
      obtain ⟨g, hg, e⟩ := opt_ok (o := get tb f) (k := fun g => FnC.rec (motive := fun _ => KRun → List AV → H → KR) (fun g => g) g (run tb ty n) a h) e
      rw [get_eq] at hg
      obtain ⟨gf⟩ := g
      rcases h1 f _ hg with ⟨m, hm⟩ | hm
      · have hm : gf = fnK c f m := hm
        subst hm
        exact fnK_ok (fun s h => by rw [hs f] at h; cases h) ih e
      · have hm : gf = extK' c f := hm
        subst hm
        exact extK'_ok hs e
    | yield l =>
      obtain ⟨o, ho, e⟩ := opt_ok (o := hObj h l) (k := fun o => asLoop o fun _ _ env r _ => opt (get ty r) fun g => RnC.rec (motive := fun _ => RnF) (fun g => g) g (run tb ty n) l a env h) e
      obtain ⟨st, pend, en, rn, d, hl, e⟩ := asLoop_ok e
      obtain ⟨g, hg, e⟩ := opt_ok e
      rw [get_eq] at hg
      rw [hObj_eq, hl] at ho
      obtain ⟨gf⟩ := g
      have hm : gf = rndK c rn := h2 rn _ hg
      subst hm
      exact rndK_ok ih ho e
theorem isTrue_ok {x : KR} (h : isTrue x = true) : ∃ h', x = .ok (.bool true) h' := by
  cases x with
  | bad => cases h
  | ok v h' =>
    cases v with
    | bool b => cases b with
      | true => exact ⟨h', rfl⟩
      | false => cases h
    | _ => cases h
end
end K
end Am

namespace Am
open Go
def ofPairs {α : Type} : List (Nat × α) → T α
  | [] => .e
  | (k, v) :: l => (ofPairs l).set k v
theorem ofPairs_get {α : Type} : ∀ {l : List (Nat × α)} {k : Nat} {v : α}, (ofPairs l).get k = some v → (k, v) ∈ l
  | [], k, v, h => by unfold ofPairs at h; rw [T.get_e] at h; cases h
  | (j, w) :: l, k, v, h => by
    unfold ofPairs at h
    rw [T.get_set] at h
    split at h
    · rename_i e; subst e; cases h; exact List.mem_cons_self
    · exact List.mem_cons_of_mem _ (ofPairs_get h)
theorem mem_of_map_eq {α β : Type} {f g : α → β} : ∀ {l : List α}, l.map f = l.map g → ∀ x ∈ l, f x = g x
  | [], _, x, hx => nomatch hx
  | a :: l, h, x, hx => by
    simp only [List.map_cons, List.cons.injEq] at h
    rcases List.mem_cons.1 hx with rfl | hx
    · exact h.1
    · exact mem_of_map_eq h.2 x hx
def zcOf (i : TypeInfo) : Option (List AV) := match i.zero with | some z => some (ofValue z).cells | none => none
structure TyE where
  i : TypeInfo
  d : TD
  g : Bool
def TyE.ti (x : TyE) : TI := ⟨x.i.size, x.i.bytes, x.d, zcOf x.i, x.g⟩
def fieldsOk (P : Program) : List (Nat × Nat × Nat × Bool) → List Field → Bool
  | [], [] => true
  | (o, t, s, b) :: l, f :: r => o.beq f.offset && t.beq f.type && (match P.info? f.type with | some i => s.beq i.size | none => false) && boolEq b (f.name == "_") && fieldsOk P l r
  | _, _ => false
def sizeOk (P : Program) (t z : Nat) : Bool := match P.info? t with | some i => i.size.beq z | none => false
def dOk (P : Program) (t : Nat) : TD → Bool
  | .bool => match P.underlying t with | some .bool => true | _ => false
  | .int k => match P.underlying t with | some (.int k') => kindEq k k' | _ => false
  | .str => match P.underlying t with | some .string => true | _ => false
  | .ptr e => match P.underlying t with | some (.pointer e') => e.beq e' | _ => false
  | .slice e z => match P.underlying t with | some (.slice e') => e.beq e' && sizeOk P e z | _ => false
  | .arr n e z => match P.underlying t with | some (.array n' e') => n.beq n' && e.beq e' && sizeOk P e z | _ => false
  | .map k e => match P.underlying t with | some (.map k' e') => k.beq k' && e.beq e' | _ => false
  | .struct fs => match P.underlying t with | some (.struct fields) => !(P.stoodInHeld t) && fieldsOk P fs fields.toList | _ => false
  | .func => match P.underlying t with | some (.func ..) => true | _ => false
  | .iface => match P.underlying t with | some (.interface _) => true | _ => false
  | .other => match P.underlying t with | some d => plainDesc d | _ => false
def tyOk (P : Program) (x : Nat × TyE) : Bool :=
  dOk P x.1 x.2.d && (x.2.g || !(x.2.ti.isAgg) || !(P.eqGuardType P.depth x.1)) && (match x.2.i.zero with | none => true | some zv => (ofValue zv).known && boolEq (isAggV zv) x.2.ti.isAgg)
theorem beqN {a b : Nat} (h : a.beq b = true) : a = b := Nat.eq_of_beq_eq_true h
theorem boolEq1 {a b : Bool} (h : boolEq a b = true) : a = b := by cases a <;> cases b <;> first | rfl | cases h
theorem kindEq1 {a b : IntKind} (h : kindEq a b = true) : a = b := by cases a <;> cases b <;> first | rfl | cases h
theorem sizeOk_eq {P : Program} {t z : Nat} (h : sizeOk P t z = true) : ∃ i, P.info? t = some i ∧ i.size = z := by
  unfold sizeOk at h
  split at h
  · rename_i i hi; exact ⟨i, hi, beqN h⟩
  · cases h
theorem fieldsOk_eq {P : Program} : ∀ {l : List (Nat × Nat × Nat × Bool)} {fs : List Field}, fieldsOk P l fs = true →
    (∀ f ∈ fs, ∃ i, P.info? f.type = some i) ∧ l = fs.map fun f => (f.offset, f.type, ((P.info? f.type).map (·.size)).getD 0, f.name == "_")
  | [], [], _ => ⟨fun _ h => (nomatch h), rfl⟩
  | (o, t, s, b) :: l, f :: r, h => by
    simp only [fieldsOk, Bool.and_eq_true] at h
    obtain ⟨⟨⟨⟨h1, h2⟩, h3⟩, h4⟩, h5⟩ := h
    obtain ⟨k1, k2⟩ := fieldsOk_eq h5
    split at h3
    · rename_i i hi
      have e1 := beqN h1
      have e2 := beqN h2
      have e3 := beqN h3
      have e4 := boolEq1 h4
      refine ⟨fun g hg => ?_, ?_⟩
      · rcases List.mem_cons.1 hg with rfl | hg
        · exact ⟨i, hi⟩
        · exact k1 g hg
      · rw [List.map_cons, ← k2, e1, e2, e3, e4, hi]; rfl
    · cases h3
  | [], _ :: _, h => by cases h
  | _ :: _, [], h => by cases h
theorem dOk_eq {P : Program} {t : Nat} {d : TD} (h : dOk P t d = true) : TDOk P t d := by
  cases d with
  | bool => simp only [dOk] at h; split at h <;> first | (cases h; done) | assumption
  | int k =>
    simp only [dOk] at h
    split at h
    · rename_i k' hu; have := kindEq1 h; subst this; exact hu
    · cases h
  | str => simp only [dOk] at h; split at h <;> first | (cases h; done) | assumption
  | ptr e =>
    simp only [dOk] at h
    split at h
    · rename_i e' hu; have := beqN h; subst this; exact hu
    · cases h
  | slice e z =>
    simp only [dOk] at h
    split at h
    · rename_i e' hu
      simp only [Bool.and_eq_true] at h
      have := beqN h.1; subst this; exact ⟨hu, sizeOk_eq h.2⟩
    · cases h
  | arr n e z =>
    simp only [dOk] at h
    split at h
    · rename_i n' e' hu
      simp only [Bool.and_eq_true] at h
      have h1 := beqN h.1.1
      have h2 := beqN h.1.2
      subst h1 h2
      exact ⟨hu, sizeOk_eq h.2⟩
    · cases h
  | map k e =>
    simp only [dOk] at h
    split at h
    · rename_i k' e' hu
      simp only [Bool.and_eq_true] at h
      have h1 := beqN h.1
      have h2 := beqN h.2
      subst h1 h2
      exact hu
    · cases h
  | struct fs =>
    simp only [dOk] at h
    split at h
    · rename_i fields hu
      simp only [Bool.and_eq_true, Bool.not_eq_true'] at h
      obtain ⟨k1, k2⟩ := fieldsOk_eq h.2
      exact ⟨fields, hu, h.1, k1, k2⟩
    · cases h
  | func => simp only [dOk] at h; split at h <;> first | (cases h; done) | exact ⟨_, _, _, by assumption⟩
  | iface => simp only [dOk] at h; split at h <;> first | (cases h; done) | exact ⟨_, by assumption⟩
  | other =>
    simp only [dOk] at h
    split at h
    · rename_i d hu; exact ⟨d, hu, h⟩
    · cases h
theorem tyOk_eq {P : Program} {t : Nat} {x : TyE} (hi : P.info? t = some x.i) (h : tyOk P (t, x) = true) : TIOk P t x.ti := by
  simp only [tyOk, Bool.and_eq_true, Bool.or_eq_true, Bool.not_eq_true'] at h
  obtain ⟨⟨h1, h2⟩, h3⟩ := h
  refine ⟨⟨x.i, hi, rfl, rfl, fun z hz => ?_⟩, dOk_eq h1, fun hg ha => ?_⟩
  · have hz : zcOf x.i = some z := hz
    unfold zcOf at hz
    split at hz
    · rename_i zv hzv
      cases hz
      rw [hzv] at h3
      simp only [Bool.and_eq_true] at h3
      exact ⟨zv, hzv, rfl, (fun hu => by rw [hu] at h3; cases h3.1), boolEq1 h3.2⟩
    · cases hz
  · rcases h2 with (h2 | h2) | h2
    · rw [show x.ti.guard = x.g from rfl] at hg; rw [hg] at h2; cases h2
    · rw [ha] at h2; cases h2
    · exact h2
def fnOk (x : Nat × Func) : Bool := !(x.2.name == "runtime.NumGoroutine") && (match x.2.body with | some code => codeOk x.2.ntmps code | none => true)
def rngsOfFn (c : Ctx) (x : Nat × Func) : List (Nat × Rng) := match x.2.body with | some code => rngs code (anOf c x.1) | none => []
def rngsOfRng (x : Nat × Rng) : List (Nat × Rng) := rngs x.2.assign x.2.al ++ rngs x.2.body x.2.ar
def allRngs (c : Ctx) (fl : List (Nat × Func)) (rl : List (Nat × Rng)) : List (Nat × Rng) := fl.flatMap (rngsOfFn c) ++ rl.flatMap rngsOfRng
theorem rngsOk_of {t : T Rng} : ∀ {l : List (Nat × Rng)}, (∀ x ∈ l, t.get x.1 = some x.2) → RngsOk t l
  | [], _ => trivial
  | x :: l, h => ⟨h x List.mem_cons_self, rngsOk_of fun y hy => h y (List.mem_cons_of_mem _ hy)⟩
theorem RngsOk.mem {t : T Rng} : ∀ {l : List (Nat × Rng)}, RngsOk t l → ∀ x ∈ l, t.get x.1 = some x.2
  | [], _, x, hx => nomatch hx
  | a :: l, h, x, hx => by
    rcases List.mem_cons.1 hx with rfl | hx
    · exact h.1
    · exact RngsOk.mem h.2 x hx
theorem cok_of {c : Ctx} {P : Program} {tl : List (Nat × TyE)} {fl : List (Nat × Func)} {rl : List (Nat × Rng)}
    (ht : c.ty = ofPairs (tl.map fun x => (x.1, x.2.ti))) (hf : c.fn = ofPairs fl) (hr : c.rng = ofPairs rl)
    (hi : tl.map (fun x => P.info? x.1) = tl.map fun x => some x.2.i) (hd : allB (tyOk P) tl = true)
    (hp : fl.map (fun x => P.funcs[x.1]?) = fl.map fun x => some x.2) (hk : allB fnOk fl = true)
    (hq : (allRngs c fl rl).map (fun x => c.rng.get x.1) = (allRngs c fl rl).map fun x => some x.2) (hm : P.follows .mixedOrders = true)
    (hn : allB (fun x => noDef x.2.assign && noDef x.2.body) rl = true) (hdf : ∀ g, (c.df.get g).isSome = true → QuietFn P g) : COk c P where
  ty t ti h := by
    rw [ht] at h
    obtain ⟨⟨k, x⟩, hx, e⟩ := List.mem_map.1 (ofPairs_get h)
    simp only [Prod.mk.injEq] at e
    obtain ⟨rfl, rfl⟩ := e
    exact tyOk_eq (mem_of_map_eq hi _ hx) (allB_iff.1 hd _ hx)
  fn f fn h := by
    rw [hf] at h
    have hx := ofPairs_get h
    have h1 := allB_iff.1 hk _ hx
    simp only [fnOk, Bool.and_eq_true, Bool.not_eq_true'] at h1
    refine ⟨mem_of_map_eq hp _ hx, h1.1, fun code hc => ⟨?_, ?_⟩⟩
    · have := h1.2; rw [hc] at this; exact this
    · refine rngsOk_of fun y hy => mem_of_map_eq hq y ?_
      refine List.mem_append_left _ (List.mem_flatMap.2 ⟨(f, fn), hx, ?_⟩)
      simp only [rngsOfFn, hc]; exact hy
  rng r q h := by
    rw [hr] at h
    have hx := ofPairs_get h
    have hall : ∀ y ∈ rngsOfRng (r, q), c.rng.get y.1 = some y.2 := fun y hy => mem_of_map_eq hq y (List.mem_append_right _ (List.mem_flatMap.2 ⟨(r, q), hx, hy⟩))
    exact ⟨rngsOk_of fun y hy => hall y (List.mem_append_left _ hy), rngsOk_of fun y hy => hall y (List.mem_append_right _ hy), by
      have := allB_iff.1 hn _ hx
      simpa only [Bool.and_eq_true] using this⟩
  df := hdf
  mixed := hm
theorem df_none {c : Ctx} {P : Program} (h : c.df = .e) : ∀ g, (c.df.get g).isSome = true → QuietFn P g := fun g hg => by rw [h, T.get_e] at hg; cases hg
theorem df_of {c : Ctx} {P : Program} {l : List Nat} (h : c.df = ofPairs (l.map fun g => (g, ()))) (hl : ∀ g ∈ l, QuietFn P g) : ∀ g, (c.df.get g).isSome = true → QuietFn P g := fun g hg => by
  cases hh : c.df.get g with
  | none => rw [hh] at hg; cases hg
  | some u =>
    rw [h] at hh
    obtain ⟨k, hk, e⟩ := List.mem_map.1 (ofPairs_get hh)
    simp only [Prod.mk.injEq] at e
    exact hl g (e.1 ▸ hk)
end Am

namespace Am
open Go Go.RowKit
def TbAll (c : Ctx) : List (Nat × K.FnC × Option Nat) → Prop
  | [] => True
  | (f, g, some n) :: l => K.fnK c f n = g.f ∧ TbAll c l
  | (f, g, none) :: l => K.extK' c f = g.f ∧ TbAll c l
theorem TbAll.mem {c : Ctx} : ∀ {l : List (Nat × K.FnC × Option Nat)}, TbAll c l → ∀ x ∈ l, (∃ n, x.2.1.f = K.fnK c x.1 n) ∨ x.2.1.f = K.extK' c x.1
  | [], _, x, hx => nomatch hx
  | (f, g, some n) :: l, h, x, hx => by
    rcases List.mem_cons.1 hx with rfl | hx
    · exact .inl ⟨n, h.1.symm⟩
    · exact TbAll.mem h.2 x hx
  | (f, g, none) :: l, h, x, hx => by
    rcases List.mem_cons.1 hx with rfl | hx
    · exact .inr h.1.symm
    · exact TbAll.mem h.2 x hx
theorem tbOk_of {c : Ctx} {tb : T K.FnC} {l : List (Nat × K.FnC × Option Nat)} (h : tb = ofPairs (l.map fun x => (x.1, x.2.1))) (ha : TbAll c l) : K.TbOk c tb := fun f g hg => by
  rw [h] at hg
  obtain ⟨x, hx, e⟩ := List.mem_map.1 (ofPairs_get hg)
  simp only [Prod.mk.injEq] at e
  obtain ⟨rfl, rfl⟩ := e
  exact ha.mem x hx
def TyAll (c : Ctx) : List (Nat × K.RnC) → Prop
  | [] => True
  | (r, g) :: l => K.rndK c r = g.f ∧ TyAll c l
theorem TyAll.mem {c : Ctx} : ∀ {l : List (Nat × K.RnC)}, TyAll c l → ∀ x ∈ l, x.2.f = K.rndK c x.1
  | [], _, x, hx => nomatch hx
  | (r, g) :: l, h, x, hx => by
    rcases List.mem_cons.1 hx with rfl | hx
    · exact h.1.symm
    · exact TyAll.mem h.2 x hx
theorem tyOk_of {c : Ctx} {ty : T K.RnC} {l : List (Nat × K.RnC)} (h : ty = ofPairs l) (ha : TyAll c l) : K.TyOk c ty := fun r g hg => by
  rw [h] at hg
  exact ha.mem _ (ofPairs_get hg)
theorem calls_of {c : Ctx} {P : Program} {G : Gd} {kr : K.KRun} {n f : Nat} {args : List AV} (hc : COk c P) (hX : ExtOk c P) (hS : SumOk c P G) (hle : K.KLe kr (runA c n))
    (hk : K.isTrue (kr (.fn f) args ⟨0, .e⟩) = true) (hx : c.ext.get f = none) {w : World} (hg : GOk c G w) {vs : List Value} (hv : VRels (fun _ => none) args vs) :
    CallsIn Fence.wide 0 P f ⟨vs⟩ w (RetE fun x w' => x = .bool true ∧ Below w.heap.size w w') := by
  obtain ⟨h', e⟩ := K.isTrue_ok hk
  have e := hle _ _ _ _ _ e
  obtain ⟨h1, h2⟩ := run_ok (G := G) hc hX hS n _ _ _ _ _ e
  have h0 : (⟨0, .e⟩ : H).ph = fun _ => none := by funext id; exact T.get_e _
  rcases h2 (fun _ => none) w vs hv (by rw [h0]; exact HRel.empty _ _ _) hg (fun _ _ _ => rfl) with ⟨h3, _⟩ | ⟨_, h3⟩
  · exact absurd hx h3
  · refine h3.mono fun en w' he => ?_
    cases en with
    | returned x =>
      obtain ⟨ρ', k1, k2, k3⟩ := he
      refine ⟨k1.ofBool, k3.os, k3.tape, k3.output, k3.size, fun b hb => ?_⟩
      obtain ⟨ob, hob⟩ : ∃ ob, w.heap[b]? = some ob := ⟨_, Array.getElem?_eq_getElem hb⟩
      rw [hob]
      refine k3.kept b ob hob fun k ⟨id, o, l, q1, q2, q3⟩ => ?_
      rw [h0] at q1; cases q1
    | panicked => exact he.elim
    | outgrown => exact he.elim
theorem calls_all {P : Program} {f : Nat} {args : Array Value} {w : World} {R : Value → World → Prop} (h : CallsIn Fence.wide 0 P f args w (RetE R)) : Calls P f args w fun e w' => ∃ x, e = .returned x ∧ R x w' :=
  (h.mono (R' := fun e w' => ∃ x, e = .returned x ∧ R x w') fun e w' he => by cases e <;> first | exact ⟨_, rfl, he⟩ | exact he.elim).calls room_wide
end Am

namespace Am
open Go Go.ChangeShapes Go.WideShapes Go.ChangeAt Go.RowKit Go.Joins
section
variable {H : Type} {enc : TypeId × Value → H} {P : Program}
theorem post_below {f : Func} {s : ChangeSpec} {apart fresh handsOn again : Bool} {W W' : World} {args : Array Value} {v : Value} {ds gs : List (DataW H)} {before pa pv : List MemPlace}
    (hW : DataW.Whole enc P f.params.toList s.vars apart W args.toList ds gs before)
    (hres : ∀ (b : Nat) (sp : Nat → Bool) (hd : Bool), DataW.TrodAll enc P W' b sp hd f.resultTypes.toList (v.resultList f.resultTypes.size) (s.fn H (ds ++ gs)).results [])
    (hargs : ∀ sp : Nat → Bool, (∀ p ∈ before, sp p.block = true) → DataW.TrodAll enc P W' 0 sp true f.params.toList args.toList (s.fn H (ds ++ gs)).args pa)
    (hvars : ∀ sp : Nat → Bool, (∀ p ∈ before, sp p.block = true) → DataW.TrodVars enc P W' sp s.vars (s.fn H (ds ++ gs)).vars pv)
    (hps : before = pa ++ pv) (hb : Below W.heap.size W W')
    (hok : ∀ (j : Nat) (t : TypeId) (r : Value), f.resultTypes[j]? = some t → (v.resultList f.resultTypes.size)[j]? = some r → Value.okWide P W' .any 0 t r) :
    s.post enc P f apart fresh handsOn again W args v W' := by
  have hlt : ∀ p ∈ before, p.block < W.heap.size := fun p hp => hW.lt p hp
  have hold : ∀ p ∈ before, (fun b => decide (b < W.heap.size)) p.block = true := fun p hp => by simpa using hlt p hp
  refine ⟨ds, gs, before, [], pa, pv, hW, hres _ _ _, hargs _ hold, hvars _ hold, World.keptBut_mono (fun p hp => ⟨hp, ?_⟩) (hb.frame (· ∈ before)), fun _ => ?_⟩
  · rw [hps, List.mem_append] at hp
    exact Or.inr hp
  · obtain ⟨_, _, _, _, _, hz, hn⟩ := hW
    refine ⟨hok, _, _, ([] ++ pa) ++ pv, ⟨[] ++ pa, pv, trodAll_append (hargs _ (fun _ _ => rfl)) (hres _ _ _), hvars _ (fun _ _ => rfl), rfl, ?_, ?_⟩, ?_⟩
    · intro b off hp
      have hin : MemPlace.cell b off ∈ before := by rw [hps]; simpa using hp
      rw [hb.frozen (hlt _ hin)]
      exact hz b off hin
    · intro ha
      have := hn ha
      rw [hps] at this
      simpa using this
    · intro p hp _
      rw [hps]
      simpa using hp
theorem trodAll_stays (hl : laidOutB P = true) {W W' : World} {sp : Nat → Bool} : ∀ {ts : List TypeId} {vs : List Value} {ds : List (DataW H)} {ps : List MemPlace},
    allB (fun t => P.readableRec t && decide (t < P.types.size)) ts = true → DataW.TrodAll enc P W 0 (fun _ => true) true ts vs ds ps → (∀ p ∈ ps, W.sameAt W' p) → (∀ p ∈ ps, sp p.block = true) → DataW.TrodAll enc P W' 0 sp true ts vs ds ps
  | [], [], [], ps, _, h, _, _ => h
  | t :: ts, v :: vs, d :: ds, ps, hr, ⟨p, q, h1, h2, h3⟩, hs, hsp => by
    have hr' := allB_iff.1 hr t List.mem_cons_self
    simp only [Bool.and_eq_true, decide_eq_true_eq] at hr'
    subst h3
    refine ⟨p, q, WideElems.Trod_stays hl hr'.1 hr'.2 h1 (fun x hx => hs x (List.mem_append_left _ hx)) (fun x hx => hsp x (List.mem_append_left _ hx)), ?_, rfl⟩
    refine trodAll_stays hl (allB_iff.2 fun x hx => allB_iff.1 hr x (List.mem_cons_of_mem _ hx)) h2 (fun x hx => hs x (List.mem_append_right _ hx)) (fun x hx => hsp x (List.mem_append_right _ hx))
  | [], [], _ :: _, _, _, h, _, _ => h.elim
  | [], _ :: _, _, _, _, h, _, _ => h.elim
  | _ :: _, [], _, _, _, h, _, _ => h.elim
  | _ :: _, _ :: _, [], _, _, h, _, _ => h.elim
theorem row_contract {s : ChangeSpec} {f : FuncId} {fn : Func} {t4 : TypeId} (hl : laidOutB P = true) (hps : allB (fun t => P.readableRec t && decide (t < P.types.size)) fn.params.toList = true) (hres : fn.resultTypes = #[t4])
    (hbool : P.underlying t4 = some .bool) (hvars : s.vars = []) (hspec : ∀ ds : List (DataW H), ds.length = fn.params.toList.length → s.fn H (ds ++ []) = { results := [.lit (.bool true)], args := ds })
    {W : World} {args : Array Value} {ds gs : List (DataW H)} {before : List MemPlace} (hW : DataW.Whole enc P fn.params.toList s.vars false W args.toList ds gs before)
    (hcalls : Calls P f args W fun e W' => ∃ x, e = .returned x ∧ x = .bool true ∧ Below W.heap.size W W') :
    Calls P f args W fun e W' => ∃ v, e = .returned v ∧ s.post enc P fn false true false false W args v W' := by
  refine hcalls.mono fun e W' ⟨x, he, hx, hb⟩ => ?_
  subst he; subst hx
  refine ⟨_, rfl, ?_⟩
  have hlt : ∀ p ∈ before, p.block < W.heap.size := fun p hp => hW.lt p hp
  have hW' := hW
  obtain ⟨p, q, hA, hV, rfl, hfz, hnd⟩ := hW'
  rw [hvars] at hV
  obtain ⟨rfl, rfl⟩ := trodVars_none hV
  have hsp := hspec ds (Go.trodAll_length hA).2
  refine post_below (pa := p) (pv := []) hW (fun _ _ _ => ?_) (fun sp hs => ?_) (fun sp hs => ?_) rfl hb ?_
  · rw [hsp, hres]; exact trodAll_mk1 (shut_bool hbool true)
  · rw [hsp]
    exact trodAll_stays hl hps hA (fun x hx => hb.same (hlt x (List.mem_append_left _ hx))) (fun x hx => hs x (List.mem_append_left _ hx))
  · rw [hsp, hvars]; rfl
  · exact ok_one hres rfl (okWide_bool_mk hbool true)
end
inductive Leaf where
  | int (k : IntKind) | bool | str | any
def LeafOk : Leaf → Value → Prop
  | .int k, v => ∃ n, v = .int k n
  | .bool, v => ∃ b, v = .bool b
  | .str, v => ∃ s, v = .string s
  | .any, _ => True
def LeafAll : List Leaf → List Value → Prop
  | [], vs => vs = []
  | k :: ks, vs => ∃ v r, vs = v :: r ∧ LeafOk k v ∧ LeafAll ks r
theorem LeafAll.length : ∀ {ks : List Leaf} {vs : List Value}, LeafAll ks vs → vs.length = ks.length
  | [], _, h => by cases h; rfl
  | _ :: _, _, ⟨_, _, e, _, h⟩ => by subst e; simp [LeafAll.length h]
theorem LeafAll.append : ∀ {ks ks' : List Leaf} {vs vs' : List Value}, LeafAll ks vs → LeafAll ks' vs' → LeafAll (ks ++ ks') (vs ++ vs')
  | [], _, _, _, h, h' => by cases h; simpa using h'
  | _ :: _, _, _, _, ⟨v, r, e, h1, h2⟩, h' => by subst e; exact ⟨v, r ++ _, rfl, h1, LeafAll.append h2 h'⟩
def fieldsLeaves (P : Program) (rc : TypeId → Option (List Leaf)) : List Field → Nat → Option (List Leaf)
  | [], _ => some []
  | f :: fs, o => match rc f.type with
    | some l => match f.offset.beq o && (P.cellsOf f.type).beq l.length, fieldsLeaves P rc fs (o + l.length) with
      | true, some r => some (l ++ r)
      | _, _ => none
    | none => none
def leavesOf (P : Program) : Nat → TypeId → Option (List Leaf)
  | 0, _ => none
  | n + 1, t => match P.underlying t with
    | some (.int k) => some [.int k]
    | some .bool => some [.bool]
    | some .string => some [.str]
    | some (.slice _) => some [.any]
    | some (.struct fs) => match fieldsLeaves P (leavesOf P n) fs.toList 0 with
      | some l => match (P.cellsOf t).beq l.length with | true => some l | false => none
      | none => none
    | _ => none
section
variable {H : Type} {enc : TypeId × Value → H} {P : Program} {w : World} {base : Nat} {spare : Nat → Bool} {held : Bool}
theorem fieldsLeaves_ok {rc : TypeId → Option (List Leaf)} {cs : List Value} : ∀ (fs : List Field) (o : Nat) (ks : List Leaf), fieldsLeaves P rc fs o = some ks → o + ks.length = cs.length →
    (∀ f ∈ fs, ∀ l, rc f.type = some l → LeafAll l ((cs.drop f.offset).take (P.cellsOf f.type))) → LeafAll ks (cs.drop o)
  | [], o, ks, h, hlen, _ => by
    cases h
    simp only [List.length_nil, Nat.add_zero] at hlen
    rw [hlen, List.drop_length]; rfl
  | f :: fs, o, ks, h, hlen, hf => by
    unfold fieldsLeaves at h
    split at h
    · rename_i l hl
      split at h
      · rename_i r hb hr
        cases h
        simp only [Bool.and_eq_true] at hb
        have h1 := Nat.eq_of_beq_eq_true hb.1
        have h2 := Nat.eq_of_beq_eq_true hb.2
        simp only [List.length_append] at hlen
        have hh := hf f List.mem_cons_self l hl
        rw [h1, h2] at hh
        have ih := fieldsLeaves_ok fs (o + l.length) r hr (by omega) (fun g hg => hf g (List.mem_cons_of_mem _ hg))
        have e : cs.drop o = (cs.drop o).take l.length ++ cs.drop (o + l.length) := by
          rw [← List.drop_drop, List.take_append_drop]
        rw [e]
        exact hh.append ih
      · cases h
    · cases h
theorem trod_leaves : ∀ (n fuel : Nat) (t : TypeId) (cs : List Value) (x : DataW H × List MemPlace) (ks : List Leaf), leavesOf P n t = some ks → DataW.trod enc P w base spare held fuel t cs = some x → LeafAll ks cs
  | 0, _, _, _, _, _, h, _ => by cases h
  | n + 1, fuel, t, cs, x, ks, h, hd => by
    unfold leavesOf at h
    split at h
    · rename_i k hu
      cases h
      obtain ⟨m, rfl, _⟩ := DataW.trod_int hu hd
      exact ⟨_, _, rfl, ⟨m, rfl⟩, rfl⟩
    · rename_i hu
      cases h
      obtain ⟨m, rfl, _⟩ := DataW.trod_bool hu hd
      exact ⟨_, _, rfl, ⟨m, rfl⟩, rfl⟩
    · rename_i hu
      cases h
      obtain ⟨m, rfl, _⟩ := DataW.trod_string hu hd
      exact ⟨_, _, rfl, ⟨m, rfl⟩, rfl⟩
    · rename_i e hu
      cases h
      rcases DataW.trod_slice hu hd with ⟨rfl, _⟩ | ⟨a, len, cap, el, rest, m, _, rfl, _⟩
      · exact ⟨_, _, rfl, trivial, rfl⟩
      · exact ⟨_, _, rfl, trivial, rfl⟩
    · rename_i fs hu
      split at h
      · rename_i l hl
        split at h
        · rename_i hb
          cases h
          have hb := Nat.eq_of_beq_eq_true hb
          obtain ⟨xs, m, _, _, hlen, hxl, hf⟩ := DataW.trod_struct hu hd
          have := fieldsLeaves_ok (P := P) (cs := cs) fs.toList 0 _ hl (by omega) (fun f hfm l hl' => by
            obtain ⟨i, hi, rfl⟩ := List.getElem_of_mem hfm
            have hi' : i < fs.size := by simpa using hi
            have e := hf i fs[i] (by simp [hi'])
            have hx : i < xs.length := by omega
            rw [List.getElem?_eq_getElem hx] at e
            have e2 : fs.toList[i] = fs[i] := by simp
            rw [e2] at hl' ⊢
            exact trod_leaves n m _ _ _ _ hl' e)
          simpa using this
        · cases h
      · cases h
    · cases h
theorem open_leaves {r : Reach} {b0 : Nat} {t : TypeId} {fs : Array Field} {v : Value} {d : DataW H} {p : List MemPlace} {ks : List Leaf} (hs : P.underlying t = some (.struct fs)) (hk : leavesOf P 8 t = some ks)
    (hv : Value.okWide P w r b0 t v) (h : DataW.Trod enc P w base spare held t v d p) : ∃ cs : List Value, v = .agg ⟨cs⟩ ∧ LeafAll ks cs := by
  obtain ⟨cs, rfl, hsz⟩ := okWide_struct hs hv
  obtain ⟨fuel, hf⟩ := h
  exact ⟨cs.toList, rfl, trod_leaves 8 fuel t _ _ ks hk hf⟩
end
def litA : Lit → Option AV
  | .bool b => some (.bool b)
  | .int k n => some (.int k n)
  | .string s => some (.str (s.map UInt8.toNat))
  | _ => none
def flatL : List (DataW Unit) → Option (List AV)
  | [] => some []
  | .lit l :: r => match litA l, flatL r with
    | some v, some s => some (v :: s)
    | _, _ => none
  | _ :: _ => none
def flatD : DataW Unit → Option (List AV)
  | .agg ps => flatL ps
  | _ => none
def basicB (P : Program) (t : TypeId) : Bool := (match P.underlying t with | some (.int _) => true | some .bool => true | some .string => true | _ => false) && (P.cellsOf t).beq 1
def basicFields (P : Program) : List Field → Nat → Bool
  | [], _ => true
  | f :: fs, o => f.offset.beq o && basicB P f.type && basicFields P fs (o + 1)
def flatTy (P : Program) (t : TypeId) (n : Nat) : Bool := (P.cellsOf t).beq n && (match P.underlying t with
  | some (.array m e) => m.beq n && basicB P e
  | some (.struct fs) => fs.size.beq n && basicFields P fs.toList 0
  | _ => false)
section
variable {P : Program} {w : World} {base : Nat} {spare : Nat → Bool} {held : Bool}
theorem basic_cell {t : TypeId} {fuel : Nat} {cs : List Value} {y : DataW Unit × List MemPlace} (hb : basicB P t = true) (h : DataW.trod (fun _ => ()) P w base spare held fuel t cs = some y) :
    ∃ x l, cs = [x] ∧ y.1 = .lit l ∧ ∀ v, litA l = some v → ∀ ρ, VRel ρ v x := by
  unfold basicB at hb
  simp only [Bool.and_eq_true] at hb
  obtain ⟨hb, _⟩ := hb
  split at hb
  · rename_i k hu
    obtain ⟨m, rfl, rfl, _⟩ := DataW.trod_int hu h
    exact ⟨_, _, rfl, rfl, fun v hv ρ => by cases hv; exact .int _ _⟩
  · rename_i hu
    obtain ⟨m, rfl, rfl⟩ := DataW.trod_bool hu h
    exact ⟨_, _, rfl, rfl, fun v hv ρ => by cases hv; exact .bool _⟩
  · rename_i hu
    obtain ⟨m, rfl, rfl, _⟩ := DataW.trod_string hu h
    exact ⟨_, _, rfl, rfl, fun v hv ρ => by cases hv; exact .str _⟩
  · cases hb
theorem flatL_get : ∀ {ps : List (DataW Unit)} {l : List AV}, flatL ps = some l → l.length = ps.length ∧ ∀ (i : Nat) (v : AV), l[i]? = some v → ∃ q : Lit, ps[i]? = some (.lit q) ∧ litA q = some v
  | [], l, h => by cases h; exact ⟨rfl, fun i v hv => by simp at hv⟩
  | .lit q :: r, l, h => by
    unfold flatL at h
    split at h
    · rename_i v s h1 h2
      cases h
      obtain ⟨k1, k2⟩ := flatL_get h2
      refine ⟨by simp [k1], fun i u hu => ?_⟩
      cases i with
      | zero => simp only [List.getElem?_cons_zero, Option.some.injEq] at hu; subst hu; exact ⟨q, rfl, h1⟩
      | succ i => exact k2 i u (by simpa using hu)
    · cases h
  | .nil :: _, _, h => by cases h
  | .ptr _ :: _, _, h => by cases h
  | .slice _ _ :: _, _, h => by cases h
  | .agg _ :: _, _, h => by cases h
  | .iface _ _ :: _, _, h => by cases h
  | .map _ :: _, _, h => by cases h
  | .held _ :: _, _, h => by cases h
theorem basicFields_get : ∀ {fs : List Field} {o : Nat}, basicFields P fs o = true → ∀ (i : Nat) (f : Field), fs[i]? = some f → f.offset = o + i ∧ basicB P f.type = true
  | [], _, _, i, f, hf => by simp at hf
  | g :: fs, o, h, i, f, hf => by
    simp only [basicFields, Bool.and_eq_true] at h
    cases i with
    | zero => simp only [List.getElem?_cons_zero, Option.some.injEq] at hf; subst hf; exact ⟨Nat.eq_of_beq_eq_true h.1.1, h.1.2⟩
    | succ i =>
      obtain ⟨k1, k2⟩ := basicFields_get h.2 i f (by simpa using hf)
      exact ⟨by omega, k2⟩
theorem basicB_one {t : TypeId} (h : basicB P t = true) : P.cellsOf t = 1 := by
  unfold basicB at h
  simp only [Bool.and_eq_true] at h
  exact Nat.eq_of_beq_eq_true h.2
theorem drop_take_one {cs : List Value} {i : Nat} {x : Value} (h : (cs.drop i).take 1 = [x]) : cs[i]? = some x := by
  have := congrArg (·[0]?) h
  simpa [List.getElem?_take, List.getElem?_drop] using this
theorem flat_cells {t : TypeId} {fuel n : Nat} {cs : List Value} {ps : List (DataW Unit)} {p : List MemPlace} {l : List AV} (hf : flatTy P t n = true) (hn : n = l.length) (hl : flatL ps = some l)
    (h : DataW.trod (fun _ => ()) P w base spare held fuel t cs = some (.agg ps, p)) : ∀ (i : Nat) (v : AV), l[i]? = some v → ∃ x, cs[i]? = some x ∧ ∀ ρ, VRel ρ v x := by
  unfold flatTy at hf
  simp only [Bool.and_eq_true] at hf
  obtain ⟨hc, hf⟩ := hf
  obtain ⟨k1, k2⟩ := flatL_get hl
  split at hf
  · rename_i m e hu
    simp only [Bool.and_eq_true] at hf
    have hm := Nat.eq_of_beq_eq_true hf.1
    obtain ⟨xs, m1, _, hx, _, hlen, hel⟩ := DataW.trod_array hu h
    simp only [Prod.mk.injEq, DataW.agg.injEq] at hx
    intro i v hv
    obtain ⟨q, q1, q2⟩ := k2 i v hv
    have hi : i < l.length := (List.getElem?_eq_some_iff.mp hv).1
    have hxi : i < xs.length := by omega
    have he := hel i (by omega)
    rw [List.getElem?_eq_getElem hxi, basicB_one hf.2, Nat.mul_one] at he
    obtain ⟨x, l', r1, r2, r3⟩ := basic_cell hf.2 he
    have e1 : ps[i]? = some (xs[i]).1 := by rw [hx.1]; simp [hxi]
    rw [r2, q1] at e1
    simp only [Option.some.injEq, DataW.lit.injEq] at e1
    subst e1
    exact ⟨x, drop_take_one r1, r3 v q2⟩
  · rename_i fs hu
    simp only [Bool.and_eq_true] at hf
    have hm := Nat.eq_of_beq_eq_true hf.1
    obtain ⟨xs, m1, _, hx, _, hlen, hel⟩ := DataW.trod_struct hu h
    simp only [Prod.mk.injEq, DataW.agg.injEq] at hx
    intro i v hv
    obtain ⟨q, q1, q2⟩ := k2 i v hv
    have hi : i < l.length := (List.getElem?_eq_some_iff.mp hv).1
    have hxi : i < xs.length := by omega
    have hfi : i < fs.size := by omega
    obtain ⟨b1, b2⟩ := basicFields_get hf.2 i fs[i] (by simp [hfi])
    have he := hel i fs[i] (by simp [hfi])
    rw [List.getElem?_eq_getElem hxi, basicB_one b2, b1, Nat.zero_add] at he
    obtain ⟨x, l', r1, r2, r3⟩ := basic_cell b2 he
    have e1 : ps[i]? = some (xs[i]).1 := by rw [hx.1]; simp [hxi]
    rw [r2, q1] at e1
    simp only [Option.some.injEq, DataW.lit.injEq] at e1
    subst e1
    exact ⟨x, drop_take_one r1, r3 v q2⟩
  · cases hf
end
structure GlE where
  g : Nat
  t : T AV
  l : List AV
def VarIs (W : World) (x : GlE) : Prop := ∃ arr elem fr, W.heap[x.g]? = some (.cells arr elem fr) ∧ ∀ (i : Nat) (v : AV), x.l[i]? = some v → ∃ y, arr[i]? = some y ∧ ∀ ρ, VRel ρ v y
def laidB (P : Program) : List (String × DataW Unit) → List GlE → Bool
  | [], [] => true
  | (n, _) :: r, x :: s => (match P.globalNamed n with | some g => g.beq x.g | none => false) && (match (P.globals[x.g]?).map (·.type) with | some t => flatTy P t x.l.length | none => false) && laidB P r s
  | _, _ => false
theorem var_heap {P : Program} {w : World} {n : String} {g : Nat} {cs : Array Value} (hg : P.globalNamed n = some g) (h : w.var? P n = some cs) : ∃ e fr, w.heap[g]? = some (.cells cs e fr) := by
  simp only [World.var?, hg, Option.bind_some] at h
  split at h
  · rename_i a e fr hh; cases h; exact ⟨e, fr, hh⟩
  · cases h
theorem vars_of_laid {P : Program} {W : World} : ∀ {laid : List (String × DataW Unit)} {L : List GlE} {ps : List MemPlace}, laidB P laid L = true → laid.map (fun x => flatD x.2) = L.map (fun x => some x.l) → DataW.LaidVars P W laid ps → ∀ x ∈ L, VarIs W x
  | [], [], _, _, _, _, x, hx => nomatch hx
  | [], _ :: _, _, h, _, _, _, _ => by cases h
  | (n, d) :: r, [], _, h, _, _, _, _ => by cases h
  | (n, d) :: r, y :: L, ps, h, hd, ⟨g, t, cs, fuel, p, q, hg, ht, hv, htr, hrest, _⟩, x, hx => by
    simp only [laidB, Bool.and_eq_true] at h
    obtain ⟨⟨h1, h2⟩, h3⟩ := h
    simp only [List.map_cons, List.cons.injEq] at hd
    rw [hg] at h1
    have h1 : g = y.g := Nat.eq_of_beq_eq_true h1
    rcases List.mem_cons.1 hx with rfl | hx
    · rw [← h1, ht] at h2
      have h2 : flatTy P t x.l.length = true := h2
      obtain ⟨e, fr, hh⟩ := var_heap hg hv
      refine ⟨cs, e, fr, by rw [← h1]; exact hh, fun i v hi => ?_⟩
      cases d with
      | agg ds =>
        obtain ⟨z, z1, z2⟩ := flat_cells h2 rfl hd.1 htr i v hi
        exact ⟨z, by simpa using z1, z2⟩
      | _ => cases hd.1
    · exact vars_of_laid h3 hd.2 hrest x hx
theorem gOk_of {c : Ctx} {P : Program} {G : Gd} {W : World} {laid : List (String × DataW Unit)} {L : List GlE} (h1 : c.gl = ofPairs (L.map fun x => (x.g, (x.l.length, x.t)))) (h2 : L.map (fun x => (List.range x.l.length).map x.t.get) = L.map fun x => x.l.map some)
    (h3 : laidB P laid L = true) (h4 : laid.map (fun x => flatD x.2) = L.map (fun x => some x.l)) (h5 : G.rng = c.rng) (h6 : allB (fun x => Nat.blt x.g G.n) L = true) (h7 : G.n = 0 ∨ ∃ x ∈ L, G.n = x.g + 1)
    (hL : laidMet P laid W) : GOk c G W := by
  obtain ⟨ps, hv, _⟩ := hL
  have hall := vars_of_laid h3 h4 hv
  refine ⟨h5, ?_, fun g n t hg => ?_⟩
  · rcases h7 with h7 | ⟨x, hx, h7⟩
    · omega
    · obtain ⟨arr, e, fr, hh, _⟩ := hall x hx
      have := (Array.getElem?_eq_some_iff.mp hh).1
      omega
  · rw [h1] at hg
    obtain ⟨x, hx, e⟩ := List.mem_map.1 (ofPairs_get hg)
    simp only [Prod.mk.injEq] at e
    obtain ⟨rfl, rfl, rfl⟩ := e
    refine ⟨Nat.blt_eq.mp (allB_iff.1 h6 x hx), ?_⟩
    obtain ⟨arr, e, fr, hh, hc⟩ := hall x hx
    refine ⟨arr, e, fr, hh, fun k hk => ?_⟩
    have ht := mem_of_map_eq h2 x hx
    have e1 := congrArg (·[k]?) ht
    simp only [List.getElem?_map, List.getElem?_range hk, Option.map_some] at e1
    rw [List.getElem?_eq_getElem hk, Option.map_some] at e1
    have e2 : x.t.get k = some x.l[k] := Option.some.inj e1
    obtain ⟨y, y1, y2⟩ := hc k x.l[k] (List.getElem?_eq_getElem hk)
    exact ⟨_, y, e2, y1, y2⟩
theorem indexOf_eq (b : Nat) (hb : b < 256) : ∀ (l : List UInt8) (i : Nat), indexOf b (l.map UInt8.toNat) i = if Lib.indexByte l b.toUInt8 = -1 then -1 else (i : Int) + Lib.indexByte l b.toUInt8
  | [], i => rfl
  | a :: l, i => by
    have ih := indexOf_eq b hb l (i + 1)
    have hge := Lib.indexByte_ge l b.toUInt8
    have e0 : indexOf b ((a :: l).map UInt8.toNat) i = match a.toNat.beq b with | true => Int.ofNat i | false => indexOf b (l.map UInt8.toNat) (i + 1) := rfl
    have e1 : Lib.indexByte (a :: l) b.toUInt8 = if (a == b.toUInt8) = true then 0 else if (Lib.indexByte l b.toUInt8 == -1) = true then -1 else Lib.indexByte l b.toUInt8 + 1 := rfl
    have hab : (a == b.toUInt8) = a.toNat.beq b := by
      rw [Bool.eq_iff_iff]
      simp only [beq_iff_eq, Nat.beq_eq]
      constructor
      · intro h; subst h; simp; omega
      · intro h; subst h; simp
    rw [hab] at e1
    rw [e0]
    cases hc : a.toNat.beq b with
    | true =>
      rw [hc] at e1
      simp only [if_true] at e1
      rw [e1]; simp
    | false =>
      rw [hc] at e1
      simp only [Bool.false_eq_true, if_false, beq_iff_eq] at e1
      show indexOf b (l.map UInt8.toNat) (i + 1) = _
      rw [ih]
      by_cases h1 : Lib.indexByte l b.toUInt8 = -1
      · rw [if_pos h1] at e1 ⊢; rw [e1]; simp
      · rw [if_neg h1] at e1 ⊢
        rw [if_neg (by omega), e1]
        omega
theorem extOk_index {c : Ctx} {P : Program} {f : Nat} {fn : Func} (hext : ∀ g e, c.ext.get g = some e → g = f) (hf : P.funcs[f]? = some fn) (hname : (fn.name == "runtime.NumGoroutine") = false) (hbody : fn.body.isNone = true)
    (hn : Extern.findNext fn = none) (he : Extern.find fn = some Extern.BytealgIndexByte.indexByte) : ExtOk c P := by
  intro g e hg args h v h' hx
  have := hext g e hg
  subst this
  unfold extA at hx
  split at hx
  · rename_i s b
    split at hx
    · rename_i hb
      cases hx
      have hb := Nat.blt_eq.mp hb
      refine ⟨rfl, fun ρ w vs hv => ?_⟩
      cases hv with
      | cons _ _ _ _ h1 h2 =>
      cases h2 with
      | cons _ _ _ _ h3 h4 =>
      cases h4
      obtain ⟨y, rfl, rfl⟩ := h1.ofStr
      cases h3
      refine ⟨.int .i64 (indexOf b (ofBytes y) 0), ?_, .int _ _⟩
      rw [run_callFunc_extern hf hname hbody hn he]
      rw [show (⟨[Value.string y, Value.int .u8 (Int.ofNat b)]⟩ : Array Value) = #[Value.string y, Value.int .u8 (Int.ofNat b)] from rfl, Lib.run_indexByteString]
      have e1 := indexOf_eq b hb y.data.toList 0
      have e2 : (Int.ofNat b).toNat.toUInt8 = b.toUInt8 := rfl
      have e3 : ofBytes y = y.data.toList.map UInt8.toNat := rfl
      rw [e2, e3, e1]
      simp only [Result.andThen_ok]
      by_cases h1 : Lib.indexByte y.data.toList b.toUInt8 = -1
      · simp [h1]
      · simp [h1]
    · cases hx
  · cases hx
end Am

namespace Am
open Go
namespace K
section
variable {c : Ctx} {r : AV} {hh : H}
noncomputable def sumFK (s : Sum) (g : KRun → List AV → H → KR) : KRun → List AV → H → KR := fun run args h =>
  Option.rec (motive := fun _ => KR) (g run args h) (fun q => Prod.rec (motive := fun _ => KR) (fun v h => .ok v h) q) (s args h)
def TbOkS (c : Ctx) (tb : T FnC) : Prop := ∀ f g, tb.get f = some g → (c.sum.get f = none ∧ ((∃ n, g.f = fnK c f n) ∨ g.f = extK' c f)) ∨ ∃ s n, c.sum.get f = some s ∧ g.f = sumFK s (fnK c f n)
theorem extK_none {f : Nat} {kr : KRun} {ar : Run} {args : List AV} {h : H} (hs : c.sum.get f = none) (e : extK' c f kr args h = .ok r hh) : stepA c ar (.fn f) args h = .ok (r, hh) := by
  have := extK'_ok (c := { c with sum := .e }) (ar := ar) (kr := kr) (fun f => T.get_e f) (f := f) (args := args) (h := h) (r := r) (hh := hh) e
  unfold stepA at this ⊢
  simp only [hs]
  have e0 : (T.e : T Sum).get f = none := T.get_e f
  simp only [e0] at this
  obtain ⟨fn, h1, e⟩ := opt_ok e
  simp only [h1] at this ⊢
  cases hb : fn.body with
  | none => simp only [hb] at this ⊢; exact this
  | some code =>
    rw [hb] at e; cases e
theorem run_leS {tb : T FnC} {ty : T RnC} (h1 : TbOkS c tb) (h2 : TyOk c ty) : ∀ n, KLe (run tb ty n) (runA c n)
  | 0 => fun t a h v h' e => by cases e
  | n + 1 => fun t a h v h' e => by
    have ih := run_leS h1 h2 n
    unfold runA
    cases t with
    | fn f =>
      obtain ⟨g, hg, e⟩ := opt_ok (o := get tb f) (k := fun g => FnC.rec (motive := fun _ => KRun → List AV → H → KR) (fun g => g) g (run tb ty n) a h) e
      rw [get_eq] at hg
      obtain ⟨gf⟩ := g
      rcases h1 f _ hg with ⟨hs, ⟨m, hm⟩ | hm⟩ | ⟨s, m, hs, hm⟩
      · have hm : gf = fnK c f m := hm
        subst hm
        exact fnK_ok (fun s h => by rw [hs] at h; cases h) ih e
      · have hm : gf = extK' c f := hm
        subst hm
        exact extK_none hs e
      · have hm : gf = sumFK s (fnK c f m) := hm
        subst hm
        have e : sumFK s (fnK c f m) (run tb ty n) a h = .ok v h' := e
        unfold sumFK at e
        cases hq : s a h with
        | none =>
          rw [hq] at e
          exact fnK_ok (fun s1 h => by rw [hs] at h; cases h; exact hq) ih e
        | some q =>
          obtain ⟨v1, h1⟩ := q
          rw [hq] at e
          cases e
          unfold stepA
          simp only [hs, hq]
    | yield l =>
      obtain ⟨o, ho, e⟩ := opt_ok (o := hObj h l) (k := fun o => asLoop o fun _ _ env r _ => opt (get ty r) fun g => RnC.rec (motive := fun _ => RnF) (fun g => g) g (run tb ty n) l a env h) e
      obtain ⟨st, pend, en, rn, d, hl, e⟩ := asLoop_ok e
      obtain ⟨g, hg, e⟩ := opt_ok e
      rw [get_eq] at hg
      rw [hObj_eq, hl] at ho
      obtain ⟨gf⟩ := g
      have hm : gf = rndK c rn := h2 rn _ hg
      subst hm
      exact rndK_ok ih ho e
end
end K
def Ctx.with (c : Ctx) (s : T Sum) : Ctx := ⟨c.ty, c.fn, c.an, c.rng, c.ext, c.gl, s, c.df⟩
theorem fnK_with (c : Ctx) (s : T Sum) (f n : Nat) : K.fnK (c.with s) f n = K.fnK c f n := by cases c; kernel_rfl
theorem rndK_with (c : Ctx) (s : T Sum) (f : Nat) : K.rndK (c.with s) f = K.rndK c f := by cases c; kernel_rfl
theorem extK_with (c : Ctx) (s : T Sum) (f : Nat) : K.extK' (c.with s) f = K.extK' c f := by cases c; kernel_rfl
theorem COk.with {c : Ctx} {P : Program} (h : COk c P) (s : T Sum) : COk (c.with s) P := ⟨h.ty, h.fn, h.rng, h.df, h.mixed⟩
theorem ExtOk.with {c : Ctx} {P : Program} (h : ExtOk c P) (s : T Sum) : ExtOk (c.with s) P := h
theorem GOk.with {c : Ctx} {G : Gd} {w : World} (h : GOk c G w) (s : T Sum) : GOk (c.with s) G w := ⟨h.rng, h.size, h.gl⟩
theorem GOk.without {c : Ctx} {G : Gd} {w : World} {s : T Sum} (h : GOk (c.with s) G w) : GOk c G w := ⟨h.rng, h.size, h.gl⟩
theorem TyOk.with {c : Ctx} {ty : T K.RnC} (h : K.TyOk c ty) (s : T Sum) : K.TyOk (c.with s) ty := fun r g hg => by rw [rndK_with]; exact h r g hg
mutual
def AV.flat : AV → Bool
  | .bool _ | .int _ _ | .str _ | .nilPtr | .nilSlice | .nilMap | .nilFunc | .nilIface => true
  | .agg l => AV.flats l
  | .tup l => AV.flats l
  | .iface _ v => AV.flat v
  | _ => false
def AV.flats : List AV → Bool
  | [] => true
  | v :: l => AV.flat v && AV.flats l
end
mutual
theorem VRel.flat {ρ ρ' : Rho} : ∀ {v : AV} {x : Value}, v.flat = true → VRel ρ v x → VRel ρ' v x
  | .bool _, _, _, .bool _ => .bool _
  | .int _ _, _, _, .int _ _ => .int _ _
  | .str _, _, _, .str _ => .str _
  | .nilPtr, _, _, .nilPtr => .nilPtr
  | .nilSlice, _, _, .nilSlice => .nilSlice
  | .nilMap, _, _, .nilMap => .nilMap
  | .nilFunc, _, _, .nilFunc => .nilFunc
  | .nilIface, _, _, .nilIface => .nilIface
  | .agg _, _, h, .agg _ _ k => .agg _ _ (VRels.flat (by unfold AV.flat at h; exact h) k)
  | .tup _, _, h, .tup _ _ k => .tup _ _ (VRels.flat (by unfold AV.flat at h; exact h) k)
  | .iface _ _, _, h, .iface _ _ _ k => .iface _ _ _ (VRel.flat (by unfold AV.flat at h; exact h) k)
theorem VRels.flat {ρ ρ' : Rho} : ∀ {l : List AV} {cs : List Value}, AV.flats l = true → VRels ρ l cs → VRels ρ' l cs
  | [], _, _, .nil => .nil
  | _ :: _, _, h, .cons _ _ _ _ k1 k2 => by
    unfold AV.flats at h
    simp only [Bool.and_eq_true] at h
    exact .cons _ _ _ _ (VRel.flat h.1 k1) (VRels.flat h.2 k2)
end
theorem known_run {c : Ctx} {P : Program} {G : Gd} (hc : COk c P) (hX : ExtOk c P) (hS : SumOk c P G) {k f : Nat} {args : List AV} {v : AV} {h0 : H} (hrun : runA c k (.fn f) args ⟨0, .e⟩ = .ok (v, h0)) (ha : AV.flats args = true) (hv : v.flat = true)
    (hx : c.ext.get f = none) (c' : Ctx) (h : H) (ρ : Rho) (w : World) (vs : List Value) (hvs : VRels ρ args vs) (hr : HRel G ρ h.ph w) (hg : GOk c G w) : FnOk c' P f ⟨vs⟩ w (Ret G ρ h w v h) := by
  obtain ⟨h1, h2⟩ := run_ok (G := G) hc hX hS k _ _ _ _ _ hrun
  have e0 : (⟨0, .e⟩ : H).ph = fun _ => none := by funext id; exact T.get_e _
  rcases h2 (fun _ => none) w vs (hvs.flat ha) (by rw [e0]; exact HRel.empty _ _ _) hg (fun _ _ _ => rfl) with ⟨h3, _⟩ | ⟨h3, h4⟩
  · exact absurd hx h3
  refine .inr ⟨h3, h4.mono fun en w' he => ?_⟩
  cases en with
  | panicked => exact he.elim
  | outgrown => exact he.elim
  | returned x =>
    obtain ⟨ρ', k1, k2, k3⟩ := he
    have same : ∀ b ob, w.heap[b]? = some ob → w'.heap[b]? = some ob := fun b ob hb => k3.kept b ob hb fun k ⟨id, o, l, q1, _, _⟩ => by rw [e0] at q1; cases q1
    refine ⟨ρ, VRel.flat hv k1, ⟨fun id o ho => ?_, hr.disj, hr.low⟩, ⟨ρ.le_refl, fun _ _ => rfl, k3.size, fun b ob hb _ => same b ob hb, fun b arr el fr hb => ⟨arr, same b _ hb, rfl, fun _ _ => rfl⟩, fun _ _ _ ho => ho, (fun id o q1 q2 => by rw [q1] at q2; cases q2), k3.os, k3.output, k3.tape⟩⟩
    obtain ⟨l, ob, q1, q2, q3⟩ := hr.obj id o ho
    exact ⟨l, ob, q1, same _ _ q2, q3⟩
structure SE where
  f : Nat
  n : Nat
  g : K.KRun → List AV → H → K.KR
  s : Sum
noncomputable def sumOf : List SE → T Sum
  | [] => .e
  | x :: l => (sumOf l).set x.f x.s
noncomputable def tbOf (tb : T K.FnC) : List SE → T K.FnC
  | [] => tb
  | x :: l => (tbOf tb l).set x.f ⟨K.sumFK x.s x.g⟩
theorem sumOf_get : ∀ {l : List SE} {f : Nat} {s : Sum}, (sumOf l).get f = some s → ∃ x ∈ l, x.f = f ∧ x.s = s
  | [], f, s, h => by unfold sumOf at h; rw [T.get_e] at h; cases h
  | x :: l, f, s, h => by
    unfold sumOf at h
    rw [T.get_set] at h
    split at h
    · rename_i e; cases h; exact ⟨x, List.mem_cons_self, e.symm, rfl⟩
    · obtain ⟨y, hy, e⟩ := sumOf_get h
      exact ⟨y, List.mem_cons_of_mem _ hy, e⟩
theorem tbOf_get {tb : T K.FnC} : ∀ {l : List SE} {f : Nat} {g : K.FnC}, (tbOf tb l).get f = some g → ((sumOf l).get f = none ∧ tb.get f = some g) ∨ ∃ x ∈ l, x.f = f ∧ (sumOf l).get f = some x.s ∧ g = ⟨K.sumFK x.s x.g⟩
  | [], f, g, h => .inl ⟨T.get_e f, h⟩
  | x :: l, f, g, h => by
    unfold tbOf at h
    unfold sumOf
    rw [T.get_set] at h ⊢
    split at h
    · rename_i e
      cases h
      exact .inr ⟨x, List.mem_cons_self, e.symm, by simp [e], rfl⟩
    · rename_i e
      simp only [e, if_false]
      rcases tbOf_get h with h | ⟨y, hy, h⟩
      · exact .inl h
      · exact .inr ⟨y, List.mem_cons_of_mem _ hy, h⟩
theorem tbOkS_of {c : Ctx} {tb tbS : T K.FnC} {l : List SE} (h : K.TbOk c tb) (he : tbS = tbOf tb l) (hl : ∀ x ∈ l, K.fnK c x.f x.n = x.g) : K.TbOkS (c.with (sumOf l)) tbS := fun f g hg => by
  rw [he] at hg
  rcases tbOf_get hg with ⟨h1, h2⟩ | ⟨x, hx, rfl, h2, rfl⟩
  · refine .inl ⟨h1, ?_⟩
    rcases h f g h2 with ⟨n, h3⟩ | h3
    · exact .inl ⟨n, by rw [fnK_with]; exact h3⟩
    · exact .inr (by rw [extK_with]; exact h3)
  · exact .inr ⟨x.s, x.n, h2, by rw [fnK_with, hl x hx]⟩
def SOk (c : Ctx) (P : Program) (G : Gd) (x : SE) : Prop := ∀ args h v h', x.s args h = some (v, h') → h.next ≤ h'.next ∧
  ∀ (ρ : Rho) (w : World) (vs : List Value), VRels ρ args vs → HRel G ρ h.ph w → GOk c G w → Free ρ h.next h'.next → FnOk c P x.f ⟨vs⟩ w (Ret G ρ h w v h')
theorem sumOk_of {c : Ctx} {P : Program} {G : Gd} {l : List SE} (h : ∀ x ∈ l, SOk c P G x) : SumOk (c.with (sumOf l)) P G := fun f s args h0 v h' hs hq => by
  obtain ⟨x, hx, rfl, rfl⟩ := sumOf_get hs
  obtain ⟨h1, h2⟩ := h x hx args h0 v h' hq
  exact ⟨h1, fun ρ w vs q1 q2 q3 q4 => h2 ρ w vs q1 q2 q3.without q4⟩
def natV (v : AV) : Nat := match v with | .int _ (.ofNat n) => n | _ => 0
noncomputable def keyF (l : List AV) : Nat → Nat := List.rec (motive := fun _ => Nat → Nat) (fun a => a) (fun v _ ih a => ih (Nat.add (Nat.mul a (nat_lit 31)) (natV v))) l
noncomputable def keyS (l : List Nat) : Nat → Nat := List.rec (motive := fun _ => Nat → Nat) (fun a => a) (fun n _ ih a => ih (Nat.add (Nat.mul a (nat_lit 31)) n)) l
noncomputable def keyA (l : List AV) : Nat → Nat := List.rec (motive := fun _ => Nat → Nat) (fun a => a) (fun v _ ih a => ih (match v with | .agg l => keyF l a | .str s => keyS s a | v => Nat.add (Nat.mul a (nat_lit 31)) (natV v))) l
noncomputable def keyOf (l : List AV) : Nat := Nat.mod (keyA l (nat_lit 0)) (nat_lit 511)
noncomputable def memoS (t : T (List AV × AV)) : Sum := fun args h => match K.get t (keyOf args) with
  | some (a, v) => match AV.sames args a with
    | true => some (v, h)
    | false => none
  | none => none
noncomputable def isRes (r : K.KR) (v : AV) : Bool := K.KR.rec (motive := fun _ => Bool) (fun u _ => AV.same u v) false r
noncomputable def memoOk (tb : T K.FnC) (ty : T K.RnC) (n f : Nat) (l : List (List AV × AV)) : Bool := allB (fun e => AV.flats e.1 && AV.flat e.2 && isRes (K.run tb ty n (.fn f) e.1 ⟨nat_lit 0, .e⟩) e.2) l
theorem memo_sok {c : Ctx} {P : Program} {G : Gd} {tb : T K.FnC} {ty : T K.RnC} (hc : COk c P) (hX : ExtOk c P) (hS : SumOk c P G) {n f m : Nat} {g : K.KRun → List AV → H → K.KR} (hle : K.KLe (K.run tb ty n) (runA c n))
    {L : List (List AV × AV)} {t : T (List AV × AV)} (ht : t = ofPairs (L.map fun e => (keyOf e.1, e))) (hok : memoOk tb ty n f L = true) (hx : c.ext.get f = none) : SOk c P G ⟨f, m, g, memoS t⟩ := by
  intro args h v h' hq
  have hq : memoS t args h = some (v, h') := hq
  unfold memoS at hq
  split at hq
  · rename_i a u hg
    split at hq
    · rename_i hs
      cases hq
      have := sames_eq _ _ hs
      subst this
      rw [K.get_eq, ht] at hg
      obtain ⟨e, he, ee⟩ := List.mem_map.1 (ofPairs_get hg)
      simp only [Prod.mk.injEq] at ee
      obtain ⟨_, rfl⟩ := ee
      have hk := allB_iff.1 hok _ he
      simp only [Bool.and_eq_true] at hk
      obtain ⟨⟨k1, k2⟩, k3⟩ := hk
      refine ⟨Nat.le_refl _, fun ρ w vs q1 q2 q3 q4 => ?_⟩
      cases hr : K.run tb ty n (.fn f) args ⟨0, .e⟩ with
      | bad => rw [hr] at k3; cases k3
      | ok z h0 =>
        rw [hr] at k3
        have e9 : z = v := same_eq _ _ k3
        subst e9
        exact known_run hc hX hS (hle _ _ _ _ _ hr) k1 k2 hx c h ρ w vs q1 q2 q3
    · cases hq
  · cases hq
def SeAll (p : SE → Prop) : List SE → Prop
  | [] => True
  | x :: l => p x ∧ SeAll p l
theorem SeAll.mem {p : SE → Prop} : ∀ {l : List SE}, SeAll p l → ∀ x ∈ l, p x
  | [], _, x, hx => nomatch hx
  | y :: l, h, x, hx => by
    rcases List.mem_cons.1 hx with rfl | hx
    · exact h.1
    · exact SeAll.mem h.2 x hx
end Am

namespace Am
open Go
namespace K
section
variable {c : Ctx} {k : IntKind} {x y : Int} {t : Nat} {b : Bool} {g : AV → KR}
theorem oK_some (v : AV) : oK (some v) g = g v := fV_eq v g
theorem kWrap_eq (n : Nat) : kWrap k n g = g (.int k (wrapN k n)) := by
  unfold kWrap wrapN
  rw [fN_eq]
  cases hb : Nat.ble n (maxOf k) with
  | true => rfl
  | false => simp only [fI_eq]
theorem nats_int {v : AV} {f : IntKind → Nat → Nat → KR} : nats (some v) (.int k x) (.int k y) g f = match x, y with
    | .ofNat m, .ofNat n => f k m n
    | _, _ => g v := by
  show intOr _ _ _ = _
  unfold intOr asInt
  cases x with
  | ofNat m => cases y with
    | ofNat n => simp only [kindEq_self]; rfl
    | negSucc n => exact oK_some v
  | negSucc m => exact oK_some v
theorem binV_int {op : BinOp} (h1 : op ≠ .shl) (h2 : op ≠ .shr) : binV c op t b (.int k x) (.int k y) = intBin op k x y := by
  unfold binV binOpA
  cases op <;> first | (simp only [kindEq_self]; done) | exact absurd rfl h1 | exact absurd rfl h2
theorem addK_int : addK (binV c .add t b (.int k x) (.int k y)) (.int k x) (.int k y) g = g (.int k (addI k x y)) := by
  unfold addK
  rw [binV_int (by decide) (by decide)]
  simp only [intBin, nats_int]
  cases x <;> cases y <;> first | rfl | exact kWrap_eq _
theorem mulK_int : mulK (binV c .mul t b (.int k x) (.int k y)) (.int k x) (.int k y) g = g (.int k (mulI k x y)) := by
  unfold mulK
  rw [binV_int (by decide) (by decide)]
  simp only [intBin, nats_int]
  cases x <;> cases y <;> first | rfl | exact kWrap_eq _
theorem subK_int : subK (binV c .sub t b (.int k x) (.int k y)) (.int k x) (.int k y) g = g (.int k (subI k x y)) := by
  unfold subK
  rw [binV_int (by decide) (by decide)]
  simp only [intBin, nats_int]
  cases x with
  | negSucc m => rfl
  | ofNat m => cases y with
    | negSucc n => rfl
    | ofNat n =>
      simp only [subI]
      cases hb : Nat.ble n m with
      | true => exact kWrap_eq _
      | false => exact oK_some _
theorem cmp_int {op : BinOp} {r : Bool} {f : IntKind → Nat → Nat → KR} (h1 : op ≠ .shl) (h2 : op ≠ .shr) (hr : intBin op k x y = some (.bool r)) (hf : ∀ m n, x = .ofNat m → y = .ofNat n → f k m n = g (.bool r)) :
    nats (binV c op t b (.int k x) (.int k y)) (.int k x) (.int k y) g f = g (.bool r) := by
  rw [binV_int h1 h2, hr, nats_int]
  cases x with
  | negSucc m => rfl
  | ofNat m => cases y with
    | negSucc n => rfl
    | ofNat n => exact hf m n rfl rfl
theorem eqK_int : eqK (binV c .eql t b (.int k x) (.int k y)) (.int k x) (.int k y) g = g (.bool (eqI x y)) :=
  cmp_int (by decide) (by decide) rfl fun m n hx hy => by subst hx hy; exact fB_eq _ _
theorem neK_int : neK (binV c .neq t b (.int k x) (.int k y)) (.int k x) (.int k y) g = g (.bool (!(eqI x y))) :=
  cmp_int (by decide) (by decide) rfl fun m n hx hy => by
    subst hx hy
    show fB (Nat.beq m n) _ = g (.bool (!(Nat.beq m n)))
    rw [fB_eq]; cases Nat.beq m n <;> rfl
theorem ltK_int : ltK (binV c .lss t b (.int k x) (.int k y)) (.int k x) (.int k y) g = g (.bool (ltI x y)) :=
  cmp_int (by decide) (by decide) rfl fun m n hx hy => by
    subst hx hy
    show fB (Nat.ble (m + 1) n) _ = g (.bool (!(Nat.ble n m)))
    rw [fB_eq, not_ble]
theorem leK_int : leK (binV c .leq t b (.int k x) (.int k y)) (.int k x) (.int k y) g = g (.bool (leI x y)) :=
  cmp_int (by decide) (by decide) rfl fun m n hx hy => by subst hx hy; exact fB_eq _ _
theorem gtK_int : gtK (binV c .gtr t b (.int k x) (.int k y)) (.int k x) (.int k y) g = g (.bool (ltI y x)) :=
  cmp_int (by decide) (by decide) rfl fun m n hx hy => by
    subst hx hy
    show fB (Nat.ble (n + 1) m) _ = g (.bool (!(Nat.ble m n)))
    rw [fB_eq, not_ble]
theorem geK_int : geK (binV c .geq t b (.int k x) (.int k y)) (.int k x) (.int k y) g = g (.bool (leI y x)) :=
  cmp_int (by decide) (by decide) rfl fun m n hx hy => by subst hx hy; exact fB_eq _ _
theorem letK_eq {α : Type} (a : α) (f : α → KR) : letK a f = f a := rfl
theorem guK_t (r : Bool) (p q : KR) : guK true (.bool r) p q = bif r then p else q := by cases r <;> rfl
theorem guK_f (r : Bool) (p q : KR) : guK false (.bool r) p q = bif r then q else p := by cases r <;> rfl
theorem iteV_b (r : Bool) (p q : KR) : iteV (.bool r) p q = bif r then p else q := by cases r <;> rfl
theorem pickK_b (r : Bool) (u v : AV) : pickK (.bool r) u v g = bif r then g u else g v := by cases r <;> rfl
theorem retK_of {r : KR} {v : AV} {h : H} {f : AV → H → KR} (e : r = .ok v h) : retK r f = f v h := by rw [e]; rfl
theorem callFK_of {run : KRun} {f : Nat} {args : List AV} {h h' : H} {v : AV} {q : AV → H → KR} (e : run (.fn f) args h = .ok v h') : callFK run f args h q = q v h' := retK_of e
theorem opt_some {α : Type} (a : α) (f : α → KR) : opt (some a) f = f a := rfl
theorem getCells_of : ∀ (n : Nat) (t : T AV) (off : Nat) (f : List AV → KR) (l : List AV), Am.getCells t off n = some l → getCells t n off f = f l
  | 0, t, off, f, l, e => by unfold Am.getCells at e; cases e; rfl
  | n + 1, t, off, f, l, e => by
    show opt (get t off) (fun v => fN (Nat.add off 1) fun off => getCells t n off fun l => f (v :: l)) = _
    unfold Am.getCells at e
    split at e
    · cases e
    · rename_i v hv
      split at e
      · cases e
      · rename_i l' hl
        cases e
        rw [get_eq, hv, opt_some, fN_eq]
        exact getCells_of n t (off + 1) _ l' hl
theorem loads_of {h : H} {id off n : Nat} {l : List AV} {f : List AV → KR} (e : h.loads id off n = some l) : loads h id off n f = f l := by
  unfold H.loads at e
  unfold loads
  rw [hObj_eq]
  split at e
  · rename_i m t ho
    split at e
    · rename_i hb
      have hb : Nat.ble (Nat.add off n) m = true := hb
      rw [ho, opt_some]
      show req (Nat.ble (Nat.add off n) m) (getCells t n off f) = _
      rw [hb]
      exact getCells_of _ _ _ _ _ e
    · cases e
  · cases e
theorem load1_of {h : H} {id off : Nat} {v : AV} {f : AV → KR} (e : h.loads id off 1 = some [v]) : load1 h id off f = f v := by
  unfold H.loads at e
  unfold load1
  rw [hObj_eq]
  split at e
  · rename_i m t ho
    split at e
    · rename_i hb
      have hb : Nat.ble (Nat.succ off) m = true := hb
      rw [ho, opt_some]
      show req (Nat.ble (Nat.succ off) m) (opt (get t off) f) = _
      rw [hb, get_eq]
      unfold Am.getCells at e
      split at e
      · cases e
      · rename_i u hu
        rw [hu]
        simp only [Am.getCells, Option.some.injEq, List.cons.injEq, and_true] at e
        subst e
        rfl
    · cases e
  · cases e
theorem stores_of {h h' : H} {id off : Nat} {l : List AV} {f : H → KR} (e : h.stores id off l = some h') : stores h id off l f = f h' := by
  unfold H.stores at e
  unfold stores
  rw [hObj_eq]
  split at e
  · rename_i m t ho
    split at e
    · rename_i hb hc
      cases e
      have hb : Nat.ble (Nat.add off l.length) m = true := hb
      rw [ho, opt_some, len_eq]
      show req (Nat.ble (Nat.add off l.length) m) (req (allB AV.isCell l) (setCells l t off fun t => hUpd h id (some (.cells m t)) f)) = _
      rw [hb, hc]
      show setCells l t off _ = _
      rw [setCells_eq, hUpd_eq]
    · cases e
  · cases e
theorem store1_of {h h' : H} {id off : Nat} {v : AV} {f : H → KR} (e : h.stores id off [v] = some h') : store1 h id off v f = f h' := by
  unfold H.stores at e
  unfold store1
  rw [hObj_eq]
  split at e
  · rename_i m t ho
    split at e
    · rename_i hb hc
      cases e
      have hb : Nat.ble (Nat.succ off) m = true := hb
      rw [ho, opt_some]
      show req (Nat.ble (Nat.succ off) m) (put t off (some v) fun t => hUpd h id (some (.cells m t)) f) = _
      rw [hb]
      show put t off (some v) _ = _
      rw [put_set, hUpd_eq]; rfl
    · cases e
  · cases e
theorem ldK_of {h : H} {id off : Nat} {v : AV} (e : h.loads id off 1 = some [v]) : ldK c t (.ptr id off) h g = g v := load1_of e
theorem ldsK_of {h : H} {id off n : Nat} {l : List AV} (e : h.loads id off n = some l) : ldsK c t n (.ptr id off) h g = g (.agg l) := loads_of e
theorem boxK_agg (l : List AV) (h : H) (f : AV → H → KR) : boxK (.agg l) h f = f (.ptr (Am.newCells l h).1 0) (Am.newCells l h).2 := newCells_eq l h _
theorem boxK_int (h : H) (f : AV → H → KR) : boxK (.int k x) h f = f (.ptr (Am.newCells [.int k x] h).1 0) (Am.newCells [.int k x] h).2 := hNew_eq h (.cells 1 ⟨.no (some (.int k x))⟩) fun id h => f (.ptr id 0) h
theorem allocK_eq (n : Nat) (tr : T AV) (h : H) (f : AV → H → KR) : allocK n tr h f = f (.ptr (h.new (.cells n tr)).1 0) (h.new (.cells n tr)).2 := hNew_eq h _ _
theorem fldK_ptr (o id off : Nat) : fldK o (.ptr id off) g = g (.ptr id (off + o)) := fN_eq (off + o) fun off => g (.ptr id off)
theorem fldK_gptr (o id off : Nat) : fldK o (.gptr id off) g = g (.gptr id (off + o)) := fN_eq (off + o) fun off => g (.gptr id off)
theorem stsK_of {h h' : H} {id off n : Nat} {l : List AV} {f : H → KR} (hn : l.length = n) (e : h.stores id off l = some h') : stsK n (.ptr id off) (.agg l) h f = f h' := by
  show req (Nat.beq (len l) n) (stores h id off l f) = _
  rw [len_eq, hn, Nat.beq_refl]
  exact stores_of e
theorem stK_int {h h' : H} {id off : Nat} {f : H → KR} (e : h.stores id off [.int k x] = some h') : stK (.ptr id off) (.int k x) h f = f h' := store1_of e
theorem bldSK_of {ps : List (Nat × AV)} {l : List AV} (e : ∀ f : List AV → KR, fillSK (fsOf c t) ps (zL c t) f = f l) : bldSK c t ps g = g (.agg l) := by
  unfold bldSK
  rw [e, fL_eq]
theorem bldAK_of {esz : Nat} {ps : List (Nat × AV)} {l : List AV} (e : ∀ f : List AV → KR, fillK esz ps (zL c t) f = f l) : bldAK c t esz ps g = g (.agg l) := by
  unfold bldAK
  rw [e, fL_eq]
theorem loopV_succ (n : Nat) (f : (List AV → List Nat → H → KR) → List AV → List Nat → H → KR) (vs : List AV) (ms : List Nat) (h : H) : loopV (n + 1) f vs ms h = f (loopV n f) vs ms h := rfl
end
end K
theorem loads_new {l : List AV} {h : H} {off n : Nat} (hb : off + n ≤ l.length) : (newCells l h).2.loads (newCells l h).1 off n = some ((l.drop off).take n) := by
  have ho : (newCells l h).2.obj (newCells l h).1 = some (.cells l.length (T.ofList l)) := by simp [newCells, H.new, H.obj, T.get_set]
  unfold H.loads
  rw [ho]
  simp only [Nat.ble_eq_true_of_le hb]
  have key : ∀ n off, off + n ≤ l.length → getCells (T.ofList l) off n = some ((l.drop off).take n) := by
    intro n
    induction n with
    | zero => intro off _; simp [getCells]
    | succ n ih =>
      intro off hb
      unfold getCells
      rw [T.get_ofList, List.getElem?_eq_getElem (by omega)]
      simp only
      rw [ih (off + 1) (by omega)]
      simp only [Option.some.injEq]
      rw [List.drop_eq_getElem_cons (i := off) (by omega), List.take_succ_cons]
  exact key n off hb
namespace K
section
variable {c : Ctx} {t : Nat} {g : AV → KR} {α : Type}
theorem uncons_cons (a : α) (l : List α) (f : α → List α → KR) : uncons (a :: l) f = f a l := rfl
theorem unnil_nil (x : KR) : unnil ([] : List α) x = x := rfl
theorem unmarkK_nil (h : H) (f : H → KR) : unmarkK [] h f = f h := rfl
theorem ldK_new {l : List AV} {h : H} {off : Nat} (hb : off < l.length) : ldK c t (.ptr (Am.newCells l h).1 off) (Am.newCells l h).2 g = g (l.getD off .unk) := by
  refine ldK_of ?_
  rw [loads_new (by omega), List.drop_eq_getElem_cons hb, List.take_succ_cons, List.take_zero]
  simp [List.getD, hb]
theorem ldsK_new {l : List AV} {h : H} {off n : Nat} (hb : off + n ≤ l.length) : ldsK c t n (.ptr (Am.newCells l h).1 off) (Am.newCells l h).2 g = g (.agg ((l.drop off).take n)) := ldsK_of (loads_new hb)
end
end K
theorem new_fst (h : H) (o : AObj) : (h.new o).1 = h.next := rfl
theorem newo_next (h : H) (o : AObj) : (h.new o).2.next = h.next + 1 := rfl
theorem upd_next (h : H) (id : Nat) (o : AObj) : (h.upd id o).next = h.next := rfl
theorem new_obj (h : H) (o : AObj) (id : Nat) : (h.new o).2.obj id = if id = h.next then some o else h.obj id := by simp [H.new, H.obj, T.get_set]
theorem upd_obj (h : H) (i : Nat) (o : AObj) (id : Nat) : (h.upd i o).obj id = if id = i then some o else h.obj id := by simp [H.upd, H.obj, T.get_set]
theorem new_obj_self (h : H) (o : AObj) : (h.new o).2.obj h.next = some o := by rw [new_obj, if_pos rfl]
theorem new_obj_old {h : H} {o : AObj} {id : Nat} (e : id ≠ h.next) : (h.new o).2.obj id = h.obj id := by rw [new_obj, if_neg e]
theorem upd_obj_self (h : H) (i : Nat) (o : AObj) : (h.upd i o).obj i = some o := by rw [upd_obj, if_pos rfl]
theorem upd_obj_old {h : H} {i : Nat} {o : AObj} {id : Nat} (e : id ≠ i) : (h.upd i o).obj id = h.obj id := by rw [upd_obj, if_neg e]
theorem loads_obj {h : H} {id off n : Nat} : h.loads id off n = match h.obj id with
  | some (.cells m t) => (match Nat.ble (off + n) m with | true => getCells t off n | false => none)
  | _ => none := rfl
def cellsAt (l : List AV) (off n : Nat) : Option (List AV) := if off + n ≤ l.length then some ((l.drop off).take n) else none
theorem getCells_list {t : T AV} {l : List AV} (ht : ∀ k, k < l.length → t.get k = l[k]?) : ∀ n off, off + n ≤ l.length → getCells t off n = some ((l.drop off).take n)
  | 0, off, _ => by simp [getCells]
  | n + 1, off, hb => by
    unfold getCells
    rw [ht off (by omega), List.getElem?_eq_getElem (by omega)]
    simp only
    rw [getCells_list ht n (off + 1) (by omega)]
    simp only [Option.some.injEq]
    rw [List.drop_eq_getElem_cons (i := off) (by omega), List.take_succ_cons]
def Holds (h : H) (id : Nat) (l : List AV) : Prop := ∃ t, h.obj id = some (.cells l.length t) ∧ ∀ k, k < l.length → t.get k = l[k]?
theorem Holds.loads {h : H} {id : Nat} {l : List AV} (e : Holds h id l) {off n : Nat} (hb : off + n ≤ l.length) : h.loads id off n = some ((l.drop off).take n) := by
  obtain ⟨t, h1, h2⟩ := e
  rw [loads_obj, h1]
  simp only [Nat.ble_eq_true_of_le hb]
  exact getCells_list h2 n off hb
theorem Holds.newCells (l : List AV) (h : H) : Holds (newCells l h).2 h.next l := ⟨T.ofList l, new_obj_self _ _, fun k _ => T.get_ofList _ _⟩
theorem Holds.new {h : H} {o : AObj} {id : Nat} {l : List AV} (e : Holds h id l) (hn : id < h.next) : Holds (h.new o).2 id l := by
  obtain ⟨t, h1, h2⟩ := e
  exact ⟨t, by rw [new_obj_old (by omega)]; exact h1, h2⟩
theorem Holds.upd {h : H} {o : AObj} {id i : Nat} {l : List AV} (e : Holds h id l) (hn : id ≠ i) : Holds (h.upd i o) id l := by
  obtain ⟨t, h1, h2⟩ := e
  exact ⟨t, by rw [upd_obj_old hn]; exact h1, h2⟩
structure Grows (h h' : H) : Prop where
  le : h.next ≤ h'.next
  obj : ∀ id, id < h.next → h'.obj id = h.obj id
theorem Grows.refl (h : H) : Grows h h := ⟨Nat.le_refl _, fun _ _ => rfl⟩
theorem Grows.trans {a b c : H} (x : Grows a b) (y : Grows b c) : Grows a c := ⟨Nat.le_trans x.le y.le, fun id hi => (y.obj id (Nat.lt_of_lt_of_le hi x.le)).trans (x.obj id hi)⟩
theorem Grows.new (h : H) (o : AObj) : Grows h (h.new o).2 := ⟨Nat.le_succ _, fun id hi => new_obj_old (by omega)⟩
theorem Grows.newCells (l : List AV) (h : H) : Grows h (newCells l h).2 := Grows.new _ _
theorem Holds.ext {h h' : H} {id : Nat} {l : List AV} (e : Holds h id l) (x : Grows h h') (hn : id < h.next) : Holds h' id l := by
  obtain ⟨t, h1, h2⟩ := e
  exact ⟨t, by rw [x.obj id hn]; exact h1, h2⟩
theorem setCells_get0 {l : List AV} {t : T AV} : ∀ k, k < l.length → (setCells t 0 l).get k = l[k]? := fun k hk => by rw [get_setCells, if_pos (by omega)]; simp
theorem alloc_store {h : H} {n : Nat} {t : T AV} {l : List AV} (hl : l.length = n) (hc : allB AV.isCell l = true) :
    ∃ h', (h.new (.cells n t)).2.stores h.next 0 l = some h' ∧ h'.next = h.next + 1 ∧ Holds h' h.next l ∧ Grows h h' := by
  subst hl
  refine ⟨(h.new (.cells l.length t)).2.upd h.next (.cells l.length (setCells t 0 l)), ?_, rfl, ⟨setCells t 0 l, upd_obj_self _ _ _, setCells_get0⟩, ⟨Nat.le_succ _, fun id hi => by rw [upd_obj_old (by omega), new_obj_old (by omega)]⟩⟩
  unfold H.stores
  rw [new_obj_self]
  simp only [Nat.zero_add, Nat.ble_eq_true_of_le (Nat.le_refl _), hc]
namespace K
section
variable {c : Ctx} {t : Nat} {g : AV → KR}
theorem ldK_holds {h : H} {id off : Nat} {l : List AV} (e : Holds h id l) (hb : off < l.length) : ldK c t (.ptr id off) h g = g (l.getD off .unk) := by
  refine ldK_of ?_
  rw [e.loads (by omega), List.drop_eq_getElem_cons hb, List.take_succ_cons, List.take_zero]
  simp [List.getD, hb]
theorem ldsK_holds {h : H} {id off n : Nat} {l : List AV} (e : Holds h id l) (hb : off + n ≤ l.length) : ldsK c t n (.ptr id off) h g = g (.agg ((l.drop off).take n)) := ldsK_of (e.loads hb)
end
end K
end Am

namespace Am
open Go
def Sim (a b : AObj) : Prop := a = b ∨ ∃ n t t', a = .cells n t ∧ b = .cells n t' ∧ ∀ k, k < n → t.get k = t'.get k
theorem Sim.objAt {G : Gd} {ρ : Rho} {a b : AObj} {ob : Obj} {l : Loc} (h : Sim a b) (k : ObjAt G ρ b ob l) : ObjAt G ρ a ob l := by
  rcases h with rfl | ⟨n, t, t', rfl, rfl, h⟩
  · exact k
  · obtain ⟨arr, elem, fr, h1, h2, h3, h4, h5⟩ := k
    exact ⟨arr, elem, fr, h1, h2, h3, h4, fun j hj => by rw [h j hj]; exact h5 j hj⟩
def SimH (a b : PH) : Prop := ∀ id o, a id = some o → ∃ o', b id = some o' ∧ Sim o o'
theorem HRel.sim {G : Gd} {ρ : Rho} {a b : PH} {w : World} (k : HRel G ρ b w) (h : SimH a b) : HRel G ρ a w where
  obj id o x := by
    obtain ⟨o', h1, h2⟩ := h id o x
    obtain ⟨l, ob, k1, k2, k3⟩ := k.obj id o' h1
    exact ⟨l, ob, k1, k2, h2.objAt k3⟩
  disj i j oi oj li lj hij hi hj := by
    obtain ⟨_, h1, _⟩ := h i oi hi
    obtain ⟨_, h2, _⟩ := h j oj hj
    exact k.disj i j _ _ li lj hij h1 h2
  low id o l x := by
    obtain ⟨_, h1, _⟩ := h id o x
    exact k.low id _ l h1
theorem Own.sim {ρ : Rho} {a b : PH} {x y : Nat} (h : SimH a b) (k : Own ρ a x y) : Own ρ b x y := by
  obtain ⟨id, o, l, h1, h2⟩ := k
  obtain ⟨o', h3, _⟩ := h id o h1
  exact ⟨id, o', l, h3, h2⟩
theorem Tr.sim {ρ ρ' : Rho} {h a b : PH} {n n' : Nat} {w w' : World} (t : Tr ρ h n w ρ' b n' w') (hs : SimH a b) : Tr ρ h n w ρ' a n' w' where
  le := t.le
  out := t.out
  size := t.size
  kept := t.kept
  cells := t.cells
  own b k hb ho := t.own b k hb (ho.sim hs)
  new id o h1 h2 := by
    obtain ⟨o', h3, _⟩ := hs id o h1
    exact t.new id o' h3 h2
  os := t.os
  output := t.output
  tape := t.tape
theorem known_sim {c : Ctx} {P : Program} {G : Gd} (hc : COk c P) (hX : ExtOk c P) (hS : SumOk c P G) {k f : Nat} {args : List AV} {v : AV} {h hf h' : H} (hrun : runA c k (.fn f) args h = .ok (v, hf)) (hn : hf.next = h'.next) (hs : SimH h'.ph hf.ph) :
    h.next ≤ h'.next ∧ ∀ (ρ : Rho) (w : World) (vs : List Value), VRels ρ args vs → HRel G ρ h.ph w → GOk c G w → Free ρ h.next h'.next → FnOk c P f ⟨vs⟩ w (Ret G ρ h w v h') := by
  obtain ⟨h1, h2⟩ := run_ok (G := G) hc hX hS k _ _ _ _ _ hrun
  refine ⟨by rw [← hn]; exact h1, fun ρ w vs q1 q2 q3 q4 => ?_⟩
  have cv : ∀ x w', Ret G ρ h w v hf x w' → Ret G ρ h w v h' x w' := fun x w' ⟨ρ', k1, k2, k3⟩ => ⟨ρ', k1, k2.sim hs, by rw [← hn]; exact k3.sim hs⟩
  rcases h2 ρ w vs q1 q2 q3 (by rw [hn]; exact q4) with ⟨h3, x, w', h4, h5⟩ | ⟨h3, h4⟩
  · exact .inl ⟨h3, x, w', h4, cv x w' h5⟩
  · refine .inr ⟨h3, h4.mono fun en w' he => ?_⟩
    cases en with
    | returned x => exact cv x w' he
    | panicked => exact he.elim
    | outgrown => exact he.elim
theorem sok_run {c : Ctx} {P : Program} {G : Gd} {tb : T K.FnC} {ty : T K.RnC} (hc : COk c P) (hX : ExtOk c P) (hS : SumOk c P G) {n f m : Nat} {g : K.KRun → List AV → H → K.KR} {s : Sum} (hle : K.KLe (K.run tb ty n) (runA c n))
    (H : ∀ args h v h', s args h = some (v, h') → ∃ hf, K.run tb ty n (.fn f) args h = .ok v hf ∧ hf.next = h'.next ∧ SimH h'.ph hf.ph) : SOk c P G ⟨f, m, g, s⟩ := fun args h v h' hq => by
  obtain ⟨hf, h1, h2, h3⟩ := H args h v h' hq
  exact known_sim hc hX hS (hle _ _ _ _ _ h1) h2 h3
theorem kill_obj (h : H) (i id : Nat) : (h.kill i).obj id = if id = i then none else h.obj id := by simp [H.kill, H.obj, T.get_put]
theorem kill_next (h : H) (i : Nat) : (h.kill i).next = h.next := rfl
namespace K
section
variable {c : Ctx} {e : Nat} {k : AV → H → KR} {h : H}
theorem req_t (x : KR) : req true x = x := rfl
theorem lenVK_slice {g : AV → KR} (id off n tag : Nat) : lenVK (.slice id off n tag) g = g (.int .i64 (.ofNat n)) := rfl
theorem growK_of {esz need : Nat} {x : KR} (h1 : need ≤ 16777216) (h2 : need * bytesOf c e ≤ 16777216) : growK e esz need c x = x := by
  unfold growK
  rw [Nat.ble_eq_true_of_le h1]
  show req (Nat.ble (need * bytesOf c e) 16777216) x = x
  rw [Nat.ble_eq_true_of_le h2]; rfl
theorem appR_eq (esz n i : Nat) : appR esz n i h k = k (.slice i 0 n (2 * esz)) h := by
  unfold appR
  rw [fN_eq, fN_eq]; rfl
theorem app_nil1 {i tag : Nat} {t0 : T AV} {v : AV} (htag : tag / 2 = 1) (ho : h.obj i = some (.cells 1 t0)) (hv : t0.get 0 = some v) (hb : 1 * bytesOf c e ≤ 16777216) :
    appK c e 1 .nilSlice (.slice i 0 1 tag) h k = k (.slice h.next 0 1 2) (h.new (.cells 1 t0)).2 := by
  show growK e 1 (Nat.add 0 1) c (srcK 1 (.slice i 0 1 tag) h fun l => appS 1 0 1 .nilSlice (.slice i 0 1 tag) l h k) = _
  rw [show Nat.add 0 1 = 1 from rfl, growK_of (by decide) hb]
  show req (Nat.beq (Nat.div tag 2) 1) (loads h i 0 (Nat.mul 1 1) fun l => appS 1 0 1 .nilSlice (.slice i 0 1 tag) l h k) = _
  have ht : Nat.div tag 2 = 1 := htag
  rw [ht]
  show loads h i 0 1 _ = _
  have hl : h.loads i 0 1 = some [v] := by rw [loads_obj, ho]; simp [Am.getCells, hv]
  rw [loads_of hl]
  show wholeK 1 (.slice i 0 1 tag) h (fun m t => hNew h (.cells m t) fun i h => appR 1 (Nat.add 0 1) i h k) (newCells [v] h fun i h => appR 1 (Nat.add 0 1) i h k) = _
  unfold wholeK
  show Bool.rec (motive := fun _ => KR) _ _ (Nat.beq (Nat.div tag 2) 1) = _
  rw [ht]
  show Option.rec (motive := fun _ => KR) _ _ (hObj h i) = _
  rw [hObj_eq, ho]
  show hNew h (.cells 1 t0) (fun i h => appR 1 (Nat.add 0 1) i h k) = _
  rw [hNew_eq, appR_eq]
  rfl
theorem hUpd_kill (h : H) (id : Nat) (f : H → KR) : hUpd h id none f = f (h.kill id) := by
  cases h with
  | mk n t => exact put_eq t id none _
theorem app_one {i o ln tag : Nat} {t0 t : T AV} {v : AV} (htag : tag / 2 = 1) (ho : h.obj i = some (.cells 1 t0)) (hv : t0.get 0 = some v) (hc : v.isCell = true) (hs : h.obj o = some (.cells ln t)) (hn : ln + 1 ≤ 16777216) (hb : (ln + 1) * bytesOf c e ≤ 16777216) :
    appK c e 1 (.slice o 0 ln 2) (.slice i 0 1 tag) h k = k (.slice h.next 0 (ln + 1) 2) ((h.kill o).new (.cells (ln + 1) (t.set ln v))).2 := by
  show growK e 1 (Nat.add ln 1) c (srcK 1 (.slice i 0 1 tag) h fun l => appS 1 ln 1 (.slice o 0 ln 2) (.slice i 0 1 tag) l h k) = _
  rw [show Nat.add ln 1 = ln + 1 from rfl, growK_of hn hb]
  show req (Nat.beq (Nat.div tag 2) 1) (loads h i 0 (Nat.mul 1 1) fun l => appS 1 ln 1 (.slice o 0 ln 2) (.slice i 0 1 tag) l h k) = _
  have ht : Nat.div tag 2 = 1 := htag
  rw [ht]
  show loads h i 0 1 _ = _
  have hl : h.loads i 0 1 = some [v] := by rw [loads_obj, ho]; simp [Am.getCells, hv]
  rw [loads_of hl]
  show appOut 1 ln 1 o 0 [v] h k = _
  unfold appOut
  rw [hObj_eq, hs]
  show req (Nat.ble (Nat.add 0 (Nat.mul ln 1)) ln) (req (allB AV.isCell [v]) (baseK 0 (Nat.mul ln 1) t fun t => setCells [v] t (Nat.mul ln 1) fun t => hUpd h o none fun h => fN (Nat.add (Nat.mul ln 1) (len [v])) fun m => hNew h (.cells m t) fun i h => appR 1 (Nat.add ln 1) i h k)) = _
  have e1 : Nat.mul ln 1 = ln := Nat.mul_one ln
  have e2 : Nat.add 0 ln = ln := Nat.zero_add ln
  rw [e1, e2, Nat.ble_eq_true_of_le (Nat.le_refl ln)]
  have e3 : allB AV.isCell [v] = true := by simp only [allB, hc]
  rw [e3]
  show setCells [v] t ln (fun t => hUpd h o none fun h => fN (Nat.add ln (len [v])) fun m => hNew h (.cells m t) fun i h => appR 1 (Nat.add ln 1) i h k) = _
  rw [setCells_eq, hUpd_kill, fN_eq, len_eq, hNew_eq, appR_eq]
  rfl
theorem callVK_func {run : KRun} {f : Nat} {args : List AV} {h' : H} {v : AV} (e : run (.fn f) args h = .ok v h') : callVK run (.func (.func f) [] []) args h k = k v h' := by
  have e1 : app [] (app args []) = args := by
    rw [app_eq, app_eq]; simp
  show retK (run (.fn f) (app [] (app args []))  h) k = _
  rw [e1]
  exact retK_of e
theorem idxSK_of {esz id off len tag i : Nat} {g : AV → KR} (hi : i < len) (ht : tag / 2 = esz) : idxSK esz (.slice id off len tag) (.int .i64 (.ofNat i)) g = g (.ptr id (off + i * esz)) := by
  show req (Nat.ble (Nat.succ i) len) (req (Nat.beq (Nat.div tag 2) esz) (fN (Nat.add off (Nat.mul i esz)) fun off => g (.ptr id off))) = _
  have ht : Nat.div tag 2 = esz := ht
  rw [Nat.ble_eq_true_of_le (show Nat.succ i ≤ len from hi), ht, Nat.beq_refl, fN_eq]
  rfl
end
end K
end Am
namespace Am
open Go
noncomputable def okO (p : AV → Bool) (o : Option AV) : Bool := Option.rec (motive := fun _ => Bool) true p o
noncomputable def andB (a b : Bool) : Bool := Bool.rec (motive := fun _ => Bool) false b a
noncomputable def allT (p : AV → Bool) (t : T AV) : Bool := T.rec (motive_1 := fun _ => Bool) (motive_2 := fun _ => Bool) (fun _ ih => ih) (fun v => okO p v)
  (fun v _ _ _ _ _ _ _ _ i0 i1 i2 i3 i4 i5 i6 i7 => andB (okO p v) (andB i0 (andB i1 (andB i2 (andB i3 (andB i4 (andB i5 (andB i6 i7)))))))) t
theorem andB_t {a b : Bool} (h : andB a b = true) : a = true ∧ b = true := by
  cases a with
  | false => cases h
  | true => exact ⟨rfl, h⟩
theorem allT_getP {p : AV → Bool} : ∀ (q : P) (t : T AV) (v : AV), allT p t = true → T.getP q t = some v → p v = true := by
  intro q
  induction q with
  | z =>
    rintro ⟨_ | _⟩ v h e
    · simp only [T.getP] at e; subst e; exact h
    · simp only [T.getP] at e; subst e; exact (andB_t h).1
  | d0 q ih =>
    rintro ⟨_ | _⟩ v h e
    · simp [T.getP] at e
    · exact ih _ v (andB_t (andB_t h).2).1 e
  | d1 q ih =>
    rintro ⟨_ | _⟩ v h e
    · simp [T.getP] at e
    · exact ih _ v (andB_t (andB_t (andB_t h).2).2).1 e
  | d2 q ih =>
    rintro ⟨_ | _⟩ v h e
    · simp [T.getP] at e
    · exact ih _ v (andB_t (andB_t (andB_t (andB_t h).2).2).2).1 e
  | d3 q ih =>
    rintro ⟨_ | _⟩ v h e
    · simp [T.getP] at e
    · exact ih _ v (andB_t (andB_t (andB_t (andB_t (andB_t h).2).2).2).2).1 e
  | d4 q ih =>
    rintro ⟨_ | _⟩ v h e
    · simp [T.getP] at e
    · exact ih _ v (andB_t (andB_t (andB_t (andB_t (andB_t (andB_t h).2).2).2).2).2).1 e
  | d5 q ih =>
    rintro ⟨_ | _⟩ v h e
    · simp [T.getP] at e
    · exact ih _ v (andB_t (andB_t (andB_t (andB_t (andB_t (andB_t (andB_t h).2).2).2).2).2).2).1 e
  | d6 q ih =>
    rintro ⟨_ | _⟩ v h e
    · simp [T.getP] at e
    · exact ih _ v (andB_t (andB_t (andB_t (andB_t (andB_t (andB_t (andB_t (andB_t h).2).2).2).2).2).2).2).1 e
  | d7 q ih =>
    rintro ⟨_ | _⟩ v h e
    · simp [T.getP] at e
    · exact ih _ v (andB_t (andB_t (andB_t (andB_t (andB_t (andB_t (andB_t (andB_t h).2).2).2).2).2).2).2).2 e
theorem allT_get {p : AV → Bool} {t : T AV} {k : Nat} {v : AV} (h : allT p t = true) (e : t.get k = some v) : p v = true := allT_getP _ _ _ h e
noncomputable def colF {β : Type} (t : T AV) (sz n : Nat) : Nat → Nat → T AV → (T AV → Option β) → Option β :=
  Nat.rec (motive := fun _ => Nat → Nat → T AV → (T AV → Option β) → Option β) (fun _ _ acc k => k acc)
    (fun _ ih off j acc k => Option.rec (motive := fun _ => Option β) none (fun v => K.put acc j (some v) fun acc => K.fN (Nat.add off sz) fun off => K.fN (Nat.add j (nat_lit 1)) fun j => ih off j acc k) (K.get t off)) n
theorem colF_some {β : Type} {t : T AV} {sz : Nat} : ∀ (n off j : Nat) (acc : T AV) (k : T AV → Option β) (r : β), colF t sz n off j acc k = some r →
    ∃ acc' : T AV, k acc' = some r ∧ ∀ x, acc'.get x = if j ≤ x ∧ x < j + n then t.get (off + sz * (x - j)) else acc.get x
  | 0, off, j, acc, k, r, h => ⟨acc, h, fun x => by rw [if_neg (by omega)]⟩
  | n + 1, off, j, acc, k, r, h => by
    have h : Option.rec (motive := fun _ => Option β) none (fun v => K.put acc j (some v) fun acc => K.fN (Nat.add off sz) fun off => K.fN (Nat.add j 1) fun j => colF t sz n off j acc k) (K.get t off) = some r := h
    rw [K.get_eq] at h
    cases hv : t.get off with
    | none => rw [hv] at h; cases h
    | some v =>
      rw [hv] at h
      have h : K.put acc j (some v) (fun acc => K.fN (Nat.add off sz) fun off => K.fN (Nat.add j 1) fun j => colF t sz n off j acc k) = some r := h
      rw [K.put_set, K.fN_eq, K.fN_eq] at h
      obtain ⟨acc', h1, h2⟩ := colF_some n _ _ _ k r h
      refine ⟨acc', h1, fun x => ?_⟩
      rw [h2 x, T.get_set]
      show (if j + 1 ≤ x ∧ x < j + 1 + n then t.get (off + sz + sz * (x - (j + 1))) else _) = _
      by_cases e1 : x = j
      · subst e1
        rw [if_neg (by omega), if_pos rfl, if_pos (by omega)]
        simp [hv]
      · by_cases e2 : j + 1 ≤ x ∧ x < j + 1 + n
        · rw [if_pos e2, if_pos (by omega)]
          congr 1
          rw [show x - j = (x - (j + 1)) + 1 by omega, Nat.mul_add]
          omega
        · rw [if_neg e2, if_neg e1, if_neg (by omega)]
theorem getCells_all {t : T AV} : ∀ (n off : Nat), (∀ k, off ≤ k → k < off + n → ∃ v, t.get k = some v) → ∃ l, getCells t off n = some l ∧ l.length = n ∧ ∀ j, j < n → t.get (off + j) = l[j]?
  | 0, off, _ => ⟨[], rfl, rfl, fun j hj => by omega⟩
  | n + 1, off, h => by
    obtain ⟨v, hv⟩ := h off (Nat.le_refl _) (by omega)
    obtain ⟨l, h1, h2, h3⟩ := getCells_all n (off + 1) fun k k1 k2 => h k (by omega) (by omega)
    refine ⟨v :: l, by simp only [getCells, hv, h1], by simp [h2], fun j hj => ?_⟩
    cases j with
    | zero => simpa using hv
    | succ j => rw [show off + (j + 1) = off + 1 + j by omega, h3 j (by omega)]; simp
theorem HRel.present {G : Gd} {ρ : Rho} {h : PH} {w : World} {id n : Nat} {t : T AV} (a : HRel G ρ h w) (h1 : h id = some (.cells n t)) : ∀ k, k < n → ∃ v, t.get k = some v := fun k hk => by
  obtain ⟨l, ob, _, _, arr, e, fr, _, _, _, _, h5⟩ := a.obj id _ h1
  obtain ⟨v, x, h6, _⟩ := h5 k hk
  exact ⟨v, h6⟩
theorem wrapN_i64 {n : Nat} (h : n ≤ 9223372036854775807) : wrapN .i64 n = .ofNat n := by
  unfold wrapN
  rw [show maxOf .i64 = 9223372036854775807 from rfl, Nat.ble_eq_true_of_le h]
theorem ltI_nat (a b : Nat) : ltI (.ofNat a) (.ofNat b) = decide (a < b) := by
  unfold ltI leI
  rw [Bool.eq_iff_iff]
  simp only [Bool.not_eq_true', decide_eq_true_eq]
  constructor
  · intro h
    rcases Nat.lt_or_ge a b with k | k
    · exact k
    · rw [Nat.ble_eq_true_of_le k] at h; cases h
  · intro h
    cases hb : b.ble a with
    | false => rfl
    | true => have := Nat.le_of_ble_eq_true hb; omega
end Am

namespace Am
open Go Go.ChangeShapes Go.WideShapes Go.ChangeAt Go.RowKit Go.Joins
section
variable {H : Type} {enc : TypeId × Value → H} {P : Program} {W : World}
theorem cell_none {a : Addr} {v : Value} (h : W.cell? a = some v) : a.spot = none ∧ ∃ arr elem fr, W.heap[a.block]? = some (.cells arr elem fr) ∧ arr[a.off]? = some v := by
  unfold World.cell? at h
  split at h
  · rename_i c e fr hh
    split at h
    · cases h
    · rename_i hs
      refine ⟨?_, c, e, fr, hh, h⟩
      cases hsp : a.spot with
      | none => rfl
      | some x => rw [hsp] at hs; exact absurd rfl hs
  · cases h
theorem add_block (a : Addr) (n : Nat) : (a.add n).block = a.block ∧ (a.add n).off = a.off + n := by
  unfold Addr.add
  split
  · rename_i h; subst h; exact ⟨rfl, rfl⟩
  · exact ⟨rfl, rfl⟩
theorem slice_arg {t e : TypeId} {z : Nat} {ks : List Leaf} (ht : P.underlying t = some (.slice e)) (hz : P.cellsOf e = z) (hz0 : 0 < z)
    (hel : ∀ (fuel : Nat) (cs : List Value) (x : DataW H × List MemPlace), DataW.trod enc P W 0 (fun _ => true) true fuel e cs = some x → LeafAll ks cs)
    {v : Value} {r : Reach} {b0 : Nat} (hval : Value.okWide P W r b0 t v) {d : DataW H} {p : List MemPlace} (h : DataW.Trod enc P W 0 (fun _ => true) true t v d p)
    (hfz : ∀ b off, MemPlace.cell b off ∈ p → W.frozen? ⟨b, off, none⟩ = false) :
    v = .slice none 0 0 ∨ (∃ a, v = .slice (some a) 0 0) ∨ ∃ a len cap arr elem fr, v = .slice (some a) len cap ∧ 0 < cap ∧ len ≤ cap ∧ cap ≤ maxLen ∧ a.spot = none ∧ W.heap[a.block]? = some (.cells arr elem fr) ∧
      a.off + cap * z ≤ arr.size ∧ (∀ k, a.off ≤ k → k < a.off + cap * z → ¬ (fr.1 ≤ k ∧ k < fr.2)) ∧ ∀ i, i < cap → LeafAll ks ((arr.toList.drop (a.off + i * z)).take z) := by
  obtain ⟨a0, len0, cap0, rfl⟩ := okWide_slice ht hval
  obtain ⟨fuel, hd⟩ := h
  have hc : (Value.slice a0 len0 cap0).cells.toList = [.slice a0 len0 cap0] := rfl
  rw [hc] at hd
  rcases DataW.trod_slice ht hd with ⟨h1, _⟩ | ⟨a, len, cap, elems, rest, n, _, h1, h2, _, hl, hm, hlen, he, hsp, _⟩
  · simp only [List.cons.injEq, and_true] at h1
    exact .inl h1
  · simp only [List.cons.injEq, and_true] at h1
    rw [h1]
    obtain ⟨hr1, hr2⟩ := hsp rfl
    rcases Nat.eq_zero_or_pos cap with h0 | hpos
    · subst h0
      obtain rfl : len = 0 := by omega
      exact .inr (.inl ⟨a, rfl⟩)
    have row : ∀ i, i < cap → ∃ cs x, W.cells? 0 (a.add (i * z)) z = some cs ∧ DataW.trod enc P W 0 (fun _ => true) true n e cs = some x := by
      intro i hi
      rw [hz] at he hr2
      by_cases hil : i < len
      · have := he i hil
        rw [List.getElem?_eq_getElem (by omega)] at this
        obtain ⟨cs, c1, c2⟩ := Option.bind_eq_some_iff.1 this
        exact ⟨cs, _, c1, c2⟩
      · have := hr2 (i - len) (by omega)
        rw [List.getElem?_eq_getElem (by omega), show len + (i - len) = i by omega] at this
        obtain ⟨cs, c1, c2⟩ := Option.bind_eq_some_iff.1 this
        exact ⟨cs, _, c1, c2⟩
    have cell : ∀ i k, i < cap → k < z → ∃ v, W.cell? ((a.add (i * z)).add k) = some v := by
      intro i k hi hk
      obtain ⟨cs, x, c1, _⟩ := row i hi
      obtain ⟨_, c3, c4⟩ := World.cells?_some c1
      exact ⟨cs[k]'(by omega), by rw [c4 k hk]; exact List.getElem?_eq_getElem _⟩
    obtain ⟨v0, hv0⟩ := cell 0 0 hpos hz0
    have e0 : (a.add (0 * z)).add 0 = a := by simp [Addr.add]
    rw [e0] at hv0
    obtain ⟨s0, arr, elem, fr, hh, _⟩ := cell_none hv0
    have at' : ∀ i k, i < cap → k < z → ∃ v, arr[a.off + i * z + k]? = some v := by
      intro i k hi hk
      obtain ⟨v, hv⟩ := cell i k hi hk
      obtain ⟨_, arr', elem', fr', q1, q2⟩ := cell_none hv
      obtain ⟨b1, b2⟩ := add_block (a.add (i * z)) k
      obtain ⟨b3, b4⟩ := add_block a (i * z)
      rw [b1, b3, hh] at q1
      cases q1
      exact ⟨v, by rw [b2, b4] at q2; exact q2⟩
    have hsz : a.off + cap * z ≤ arr.size := by
      obtain ⟨v, hv⟩ := at' (cap - 1) (z - 1) (by omega) (by omega)
      have := (Array.getElem?_eq_some_iff.1 hv).1
      have e1 : (cap - 1) * z + z = cap * z := by
        rw [← Nat.succ_mul]; congr 1; omega
      omega
    refine .inr (.inr ⟨a, len, cap, arr, elem, fr, rfl, hpos, hl, hm, s0, hh, hsz, fun k k1 k2 hk => ?_, fun i hi => ?_⟩)
    · simp only [Prod.mk.injEq] at h2
      have hmem : MemPlace.cell a.block k ∈ p := by
        rw [h2.2, hz]
        refine List.mem_append_left _ ?_
        unfold MemPlace.row
        refine List.mem_map.2 ⟨k - a.off, List.mem_range.2 ?_, by rw [show a.off + (k - a.off) = k by omega]⟩
        rw [hlen, hr1, show len + (cap - len) = cap by omega]
        omega
      have := hfz _ _ hmem
      unfold World.frozen? at this
      simp only [hh] at this
      obtain ⟨lo, hi⟩ := fr
      simp at this
      have := this hk.1
      omega
    · obtain ⟨cs, x, c1, c2⟩ := row i hi
      obtain ⟨_, c3, c4⟩ := World.cells?_some c1
      have : (arr.toList.drop (a.off + i * z)).take z = cs := by
        apply List.ext_getElem?
        intro k
        rw [List.getElem?_take]
        by_cases hk : k < z
        · rw [if_pos hk, List.getElem?_drop]
          have h5 := c4 k hk
          obtain ⟨v, hv⟩ : ∃ v, cs[k]? = some v := ⟨_, List.getElem?_eq_getElem (by omega)⟩
          rw [hv] at h5
          obtain ⟨_, arr', elem', fr', q1, q2⟩ := cell_none h5
          obtain ⟨b1, b2⟩ := add_block (a.add (i * z)) k
          obtain ⟨b3, b4⟩ := add_block a (i * z)
          rw [b1, b3, hh] at q1
          cases q1
          rw [b2, b4] at q2
          rw [hv, Array.getElem?_toList]; exact q2
        · rw [if_neg hk, List.getElem?_eq_none (by omega)]
      rw [this]
      exact hel _ _ _ c2
end
def argH (l : List AV) : H := ⟨1, (T.e : T AObj).set 0 (.cells l.length (T.ofList l))⟩
theorem argH_obj (l : List AV) (id : Nat) : (argH l).obj id = if id = 0 then some (.cells l.length (T.ofList l)) else none := by
  unfold argH H.obj
  rw [T.get_set, T.get_e]
def argR (l : Loc) : Rho := fun id => if id = 0 then some l else none
theorem argRel {G : Gd} {W : World} {b off m : Nat} {arr : Array Value} {elem : TypeId} {fr : Nat × Nat} (hh : W.heap[b]? = some (.cells arr elem fr)) (hsz : off + m ≤ arr.size) (hfr : ∀ k, off ≤ k → k < off + m → ¬ (fr.1 ≤ k ∧ k < fr.2)) (hlow : G.n ≤ b) :
    HRel G (argR ⟨b, off, m⟩) (argH (((arr.toList.drop off).take m).map ofValue)).ph W where
  obj id o ho := by
    have ho : (argH (((arr.toList.drop off).take m).map ofValue)).obj id = some o := ho
    rw [argH_obj] at ho
    split at ho
    · rename_i hid
      cases ho
      subst hid
      have hlen : (((arr.toList.drop off).take m).map ofValue).length = m := by simp; omega
      refine ⟨⟨b, off, m⟩, _, rfl, hh, arr, elem, fr, rfl, by rw [hlen]; exact Nat.le_refl _, hsz, hfr, fun k hk => ?_⟩
      rw [hlen] at hk
      have hx : off + k < arr.size := by omega
      refine ⟨ofValue arr[off + k], arr[off + k], ?_, Array.getElem?_eq_getElem hx, ofValue_rel _ _⟩
      rw [T.get_ofList, List.getElem?_map, List.getElem?_take, if_pos hk, List.getElem?_drop, Array.getElem?_toList, Array.getElem?_eq_getElem hx]
      rfl
    · cases ho
  disj i j oi oj li lj hij hi hj := by
    have hi : (argH (((arr.toList.drop off).take m).map ofValue)).obj i = some oi := hi
    have hj : (argH (((arr.toList.drop off).take m).map ofValue)).obj j = some oj := hj
    rw [argH_obj] at hi hj
    split at hi
    · split at hj
      · omega
      · cases hj
    · cases hi
  low id o l ho hl := by
    unfold argR at hl
    split at hl
    · cases hl; exact hlow
    · cases hl
def rigid : AV → Bool
  | .bool _ | .int _ _ | .str _ => true
  | _ => false
theorem ofBytes_inj {x y : ByteArray} (h : ofBytes x = ofBytes y) : x = y := by
  unfold ofBytes at h
  have h2 : x.data.toList = y.data.toList := List.map_inj_right (fun a b e => UInt8.toNat_inj.1 e) |>.1 h
  cases x; cases y
  congr 1
  exact Array.ext' h2
theorem rigid_eq {ρ ρ' : Rho} {v : AV} {x y : Value} (hv : rigid v = true) (h : VRel ρ v x) (k : VRel ρ' v y) : x = y := by
  cases v with
  | bool b => cases h; cases k; rfl
  | int kd n => cases h; cases k; rfl
  | str s =>
    obtain ⟨a, rfl, ha⟩ := h.ofStr
    obtain ⟨b, rfl, hb⟩ := k.ofStr
    rw [ofBytes_inj (ha.trans hb.symm)]
  | _ => cases hv
theorem calls_heap {c : Ctx} {P : Program} {G : Gd} {kr : K.KRun} {n f : Nat} {args : List AV} {h0 hf : H} {ρ : Rho} (hc : COk c P) (hX : ExtOk c P) (hS : SumOk c P G) (hle : K.KLe kr (runA c n))
    (hk : kr (.fn f) args h0 = .ok (.bool true) hf) (hkeep : ∀ id o, h0.obj id = some o → hf.obj id = some o) (hx : c.ext.get f = none) {w : World} (hg : GOk c G w) {vs : List Value} (hv : VRels ρ args vs) (hr : HRel G ρ h0.ph w)
    (hfree : ∀ id, h0.next ≤ id → ρ id = none) (hrig : ∀ id o l, h0.obj id = some o → ρ id = some l → ∃ t, o = .cells l.room t ∧ ∀ k v, k < l.room → t.get k = some v → rigid v = true) :
    CallsIn Fence.wide 0 P f ⟨vs⟩ w (RetE fun x w' => x = .bool true ∧ Below w.heap.size w w') := by
  have e := hle _ _ _ _ _ hk
  obtain ⟨h1, h2⟩ := run_ok (G := G) hc hX hS n _ _ _ _ _ e
  rcases h2 ρ w vs hv hr hg (fun id q1 _ => hfree id q1) with ⟨h3, _⟩ | ⟨_, h3⟩
  · exact absurd hx h3
  · refine h3.mono fun en w' he => ?_
    cases en with
    | returned x =>
      obtain ⟨ρ', k1, k2, k3⟩ := he
      refine ⟨k1.ofBool, k3.os, k3.tape, k3.output, k3.size, fun b hb => ?_⟩
      obtain ⟨ob, hob⟩ : ∃ ob, w.heap[b]? = some ob := ⟨_, Array.getElem?_eq_getElem hb⟩
      rw [hob]
      by_cases ho : ∃ k, Own ρ h0.ph b k
      · obtain ⟨k, id, o, l, q1, q2, rfl, q4, q5⟩ := ho
        obtain ⟨l', ob', r1, r2, r3⟩ := hr.obj id o q1
        rw [q2] at r1; cases r1
        rw [hob] at r2; cases r2
        obtain ⟨t, rfl, _⟩ := hrig id o l q1 q2
        obtain ⟨arr, elem, fr, rfl, _⟩ := r3
        obtain ⟨arr', s1, s2, s3⟩ := k3.cells l.b arr elem fr hob
        rw [s1]
        congr 2
        apply Array.ext
        · exact s2
        · intro i i1 i2
          by_cases hown : Own ρ h0.ph l.b i
          · obtain ⟨id2, o2, l2, p1, p2, p3, p4, p5⟩ := hown
            obtain ⟨t2, rfl, hrg⟩ := hrig id2 o2 l2 p1 p2
            obtain ⟨l2', ob2, u1, u2, u3⟩ := hr.obj id2 _ p1
            rw [p2] at u1; cases u1
            rw [p3, hob] at u2; cases u2
            obtain ⟨a2, e2, f2, w1, w2, w3, w4, w5⟩ := u3
            cases w1
            obtain ⟨v, x, z1, z2, z3⟩ := w5 (i - l2.base) (by omega)
            rw [show l2.base + (i - l2.base) = i by omega] at z2
            have hkp : hf.ph id2 = some (.cells l2.room t2) := hkeep id2 _ p1
            obtain ⟨l3, ob3, y1, y2, y3⟩ := k2.obj id2 _ hkp
            rw [k3.le _ _ p2] at y1; cases y1
            rw [p3, s1] at y2; cases y2
            obtain ⟨a3, e3, f3, m1, m2, m3, m4, m5⟩ := y3
            cases m1
            obtain ⟨v', x', n1, n2, n3⟩ := m5 (i - l2.base) (by omega)
            rw [show l2.base + (i - l2.base) = i by omega] at n2
            rw [z1] at n1; cases n1
            have := rigid_eq (hrg _ _ (by omega) z1) z3 n3
            subst this
            rw [Array.getElem?_eq_getElem i2] at z2
            rw [Array.getElem?_eq_getElem i1] at n2
            rw [Option.some.inj z2, Option.some.inj n2]
          · have := s3 i hown
            rw [Array.getElem?_eq_getElem i1, Array.getElem?_eq_getElem i2] at this
            exact Option.some.inj this
      · exact k3.kept b ob hob fun k hk => ho ⟨k, hk⟩
    | panicked => exact he.elim
    | outgrown => exact he.elim
end Am

namespace Am
open Go
structure Ch (S : Nat → Prop) (h h' : H) : Prop where
  le : h.next ≤ h'.next
  obj : ∀ x, x < h.next → ¬ S x → h'.obj x = h.obj x
theorem Ch.refl (S : Nat → Prop) (h : H) : Ch S h h := ⟨Nat.le_refl _, fun _ _ _ => rfl⟩
theorem Ch.trans {S : Nat → Prop} {a b c : H} (x : Ch S a b) (y : Ch S b c) : Ch S a c := ⟨Nat.le_trans x.le y.le, fun k hk hs => (y.obj k (Nat.lt_of_lt_of_le hk x.le) hs).trans (x.obj k hk hs)⟩
theorem Ch.weak {S S' : Nat → Prop} {a b : H} (x : Ch S a b) (h : ∀ k, k < a.next → S k → S' k) : Ch S' a b := ⟨x.le, fun k hk hs => x.obj k hk fun q => hs (h k hk q)⟩
theorem Ch.of {S : Nat → Prop} {a b : H} (x : Grows a b) : Ch S a b := ⟨x.le, fun k hk _ => x.obj k hk⟩
theorem Ch.grows {a b : H} (x : Ch (fun _ => False) a b) : Grows a b := ⟨x.le, fun k hk => x.obj k hk (fun h => h)⟩
theorem Ch.new (S : Nat → Prop) (h : H) (o : AObj) : Ch S h (h.new o).2 := .of (Grows.new h o)
theorem Ch.upd {S : Nat → Prop} (h : H) (i : Nat) (o : AObj) (hi : S i ∨ h.next ≤ i) : Ch S h (h.upd i o) := ⟨Nat.le_refl _, fun x hx hs => upd_obj_old fun e => by
  subst e
  rcases hi with hi | hi
  · exact hs hi
  · omega⟩
theorem Ch.kill {S : Nat → Prop} (h : H) (i : Nat) (hi : S i ∨ h.next ≤ i) : Ch S h (h.kill i) := ⟨Nat.le_refl _, fun x hx hs => by
  rw [kill_obj, if_neg]
  intro e
  subst e
  rcases hi with hi | hi
  · exact hs hi
  · omega⟩
theorem Holds.ch {S : Nat → Prop} {h h' : H} {id : Nat} {l : List AV} (e : Holds h id l) (x : Ch S h h') (hn : id < h.next) (hs : ¬ S id) : Holds h' id l := by
  obtain ⟨t, h1, h2⟩ := e
  exact ⟨t, by rw [x.obj id hn hs]; exact h1, h2⟩
def RowF (h : H) (id m : Nat) (R : Nat → AV) : Prop := ∃ t, h.obj id = some (.cells m t) ∧ ∀ k, k < m → t.get k = some (R k)
theorem RowF.ch {S : Nat → Prop} {h h' : H} {id m : Nat} {R : Nat → AV} (e : RowF h id m R) (x : Ch S h h') (hn : id < h.next) (hs : ¬ S id) : RowF h' id m R := by
  obtain ⟨t, h1, h2⟩ := e
  exact ⟨t, by rw [x.obj id hn hs]; exact h1, h2⟩
theorem RowF.eqOn {h : H} {id m : Nat} {R R' : Nat → AV} (e : RowF h id m R) (x : ∀ k, k < m → R k = R' k) : RowF h id m R' := by
  obtain ⟨t, h1, h2⟩ := e
  exact ⟨t, h1, fun k hk => by rw [h2 k hk, x k hk]⟩
theorem getCells_fun {t : T AV} {R : Nat → AV} : ∀ (n off : Nat), (∀ k, off ≤ k → k < off + n → t.get k = some (R k)) → getCells t off n = some ((List.range' off n).map R)
  | 0, off, _ => rfl
  | n + 1, off, h => by
    unfold getCells
    rw [h off (Nat.le_refl _) (by omega)]
    simp only
    rw [getCells_fun n (off + 1) fun k k1 k2 => h k (by omega) (by omega)]
    rfl
theorem RowF.loads {h : H} {id m : Nat} {R : Nat → AV} (e : RowF h id m R) {off n : Nat} (hb : off + n ≤ m) : h.loads id off n = some ((List.range' off n).map R) := by
  obtain ⟨t, h1, h2⟩ := e
  rw [loads_obj, h1]
  simp only [Nat.ble_eq_true_of_le hb]
  exact getCells_fun n off fun k k1 k2 => h2 k (by omega)
def updF (R : Nat → AV) (off : Nat) (l : List AV) : Nat → AV := fun k => if off ≤ k ∧ k < off + l.length then l.getD (k - off) .unk else R k
theorem RowF.stores {h : H} {id m : Nat} {R : Nat → AV} (e : RowF h id m R) {off : Nat} {l : List AV} (hb : off + l.length ≤ m) (hc : allB AV.isCell l = true) :
    ∃ h', h.stores id off l = some h' ∧ RowF h' id m (updF R off l) ∧ h'.next = h.next ∧ ∀ x, x ≠ id → h'.obj x = h.obj x := by
  obtain ⟨t, h1, h2⟩ := e
  refine ⟨h.upd id (.cells m (setCells t off l)), ?_, ⟨_, upd_obj_self _ _ _, fun k hk => ?_⟩, rfl, fun x hx => upd_obj_old hx⟩
  · unfold H.stores
    rw [h1]
    simp only [Nat.ble_eq_true_of_le hb, hc]
  · rw [get_setCells]
    unfold updF
    split
    · rename_i hin
      rw [List.getElem?_eq_getElem (by omega)]
      simp [List.getD, List.getElem?_eq_getElem (show k - off < l.length by omega)]
    · exact h2 k hk
theorem ch_stores {S : Nat → Prop} {h h' : H} {id : Nat} (h1 : h'.next = h.next) (h2 : ∀ x, x ≠ id → h'.obj x = h.obj x) (hs : S id) : Ch S h h' := ⟨by omega, fun x _ hx => h2 x fun e => by subst e; exact hx hs⟩
theorem RowF.newCells (l : List AV) (h : H) {R : Nat → AV} (hR : ∀ k, k < l.length → l[k]? = some (R k)) : RowF (Am.newCells l h).2 h.next l.length R :=
  ⟨T.ofList l, new_obj_self _ _, fun k hk => by rw [T.get_ofList]; exact hR k hk⟩
theorem repl_length : ∀ (n : Nat) (l : List AV), (repl n l).length = n * l.length
  | 0, l => by simp [repl]
  | n + 1, l => by simp only [repl, List.length_append, repl_length n l, Nat.succ_mul]; omega
theorem repl_get (l : List AV) (hl : 0 < l.length) : ∀ (n k : Nat), k < n * l.length → (repl n l)[k]? = l[k % l.length]?
  | 0, k, h => by omega
  | n + 1, k, h => by
    simp only [repl]
    by_cases hk : k < l.length
    · rw [List.getElem?_append_left hk, Nat.mod_eq_of_lt hk]
    · rw [List.getElem?_append_right (by omega), repl_get l hl n (k - l.length) (by rw [Nat.succ_mul] at h; omega)]
      congr 1
      exact (Nat.mod_eq_sub_mod (by omega)).symm
namespace K
section
variable {c : Ctx} {t : Nat} {g : AV → KR} {f : H → KR} {k : AV → H → KR}
theorem rK_of (v : AV) (h : H) : rK (.ok (v, h)) k = k v h := by
  show fV v (fun v => fH h fun h => k v h) = k v h
  rw [fV_eq, fH_eq]
theorem ldK_row {h : H} {id m off : Nat} {R : Nat → AV} (e : RowF h id m R) (hb : off < m) : ldK c t (.ptr id off) h g = g (R off) := by
  refine ldK_of ?_
  rw [e.loads (by omega)]; rfl
theorem ldsK_row {h : H} {id m off n : Nat} {R : Nat → AV} (e : RowF h id m R) (hb : off + n ≤ m) : ldsK c t n (.ptr id off) h g = g (.agg ((List.range' off n).map R)) := ldsK_of (e.loads hb)
theorem nilK_ptr (id off : Nat) : nilK (.ptr id off) g = g (.ptr id off) := rfl
theorem stK_int' {h h' : H} {id off : Nat} {kd : IntKind} {x : Int} (e : h.stores id off [.int kd x] = some h') : stK (.ptr id off) (.int kd x) h f = f h' := store1_of e
theorem stK_bool {h h' : H} {id off : Nat} {x : Bool} (e : h.stores id off [.bool x] = some h') : stK (.ptr id off) (.bool x) h f = f h' := store1_of e
theorem stK_ptr {h h' : H} {id off a b : Nat} (e : h.stores id off [.ptr a b] = some h') : stK (.ptr id off) (.ptr a b) h f = f h' := store1_of e
theorem stK_nilPtr {h h' : H} {id off : Nat} (e : h.stores id off [.nilPtr] = some h') : stK (.ptr id off) .nilPtr h f = f h' := store1_of e
theorem stK_slice {h h' : H} {id off a b n tg : Nat} (e : h.stores id off [.slice a b n tg] = some h') : stK (.ptr id off) (.slice a b n tg) h f = f h' := store1_of e
theorem stK_nilSlice {h h' : H} {id off : Nat} (e : h.stores id off [.nilSlice] = some h') : stK (.ptr id off) .nilSlice h f = f h' := store1_of e
theorem boxK_slice (h : H) (id off n tag : Nat) : boxK (.slice id off n tag) h k = k (.ptr (Am.newCells [.slice id off n tag] h).1 0) (Am.newCells [.slice id off n tag] h).2 := hNew_eq h (.cells 1 ⟨.no (some (.slice id off n tag))⟩) fun id h => k (.ptr id 0) h
theorem boxK_func (h : H) (fn : Fn) (a b : List AV) : boxK (.func fn a b) h k = k (.ptr (Am.newCells [.func fn a b] h).1 0) (Am.newCells [.func fn a b] h).2 := hNew_eq h (.cells 1 ⟨.no (some (.func fn a b))⟩) fun id h => k (.ptr id 0) h
theorem boxK_ptr (h : H) (id off : Nat) : boxK (.ptr id off) h k = k (.ptr (Am.newCells [.ptr id off] h).1 0) (Am.newCells [.ptr id off] h).2 := hNew_eq h (.cells 1 ⟨.no (some (.ptr id off))⟩) fun id h => k (.ptr id 0) h
theorem extK_0 (a : AV) (l : List AV) : extK (.tup (a :: l)) 0 g = g a := rfl
theorem extK_1 (a b : AV) (l : List AV) : extK (.tup (a :: b :: l)) 1 g = g b := rfl
theorem notK_b (b : Bool) : notK (.bool b) g = g (.bool (!b)) := by cases b <;> rfl
theorem unmarkK_one {h : H} {r : Nat} (e : h.obj r = some .marks) : unmarkK [r] h f = f (h.kill r) := by
  show opt (hObj h r) (fun o => asMarks o (hUpd h r none fun h => f h)) = f (h.kill r)
  rw [hObj_eq, e, opt_some]
  exact hKill_eq h r f
theorem begR_of {h : H} {l r d : Nat} {p : Option Code} {en : T AV} (e : h.obj l = some (.loop .ready p en r d)) : begR l h f = f (h.upd l (.loop .busy p en r d)) := by
  unfold begR
  rw [hObj_eq, e, opt_some]
  show hUpd h l (some (.loop .busy p en r d)) f = _
  rw [hUpd_eq]
theorem finR_of {h : H} {l r d : Nat} {st : LoopState} {p : Option Code} {en : T AV} (e : h.obj l = some (.loop st p en r d)) : finR l h .ready none true = .ok (.bool true) (h.upd l (.loop .ready none en r d)) := by
  unfold finR
  rw [hObj_eq, e, opt_some]
  show hUpd h l (some (.loop .ready none en r d)) _ = _
  rw [hUpd_eq]
theorem run_yield {tb : T FnC} {ty : T RnC} {n l r d : Nat} {args : List AV} {h : H} {st : LoopState} {p : Option Code} {en : T AV} {y : RnF} (e : h.obj l = some (.loop st p en r d)) (hy : ty.get r = some ⟨y⟩) :
    run tb ty (n + 1) (.yield l) args h = y (run tb ty n) l args en h := by
  show yieldK ty (run tb ty n) l args h = _
  unfold yieldK
  rw [hObj_eq, e, opt_some]
  show opt (get ty r) _ = _
  rw [get_eq, hy, opt_some]
theorem rngK_of {run : KRun} {fn l r d : Nat} {cap : List AV} {h h1 : H} {v : AV} {kn kr : H → KR} {ke : Nat → H → KR} {en : T AV} (hx : c.ext.get fn = none) (e : run (.fn fn) (.yield l :: cap) h = .ok v h1) (ho : h1.obj l = some (.loop .ready none en r d)) :
    rngK c run (.func (.func fn) [] cap) l h kn kr ke = kn (h1.upd l (.loop .exhausted none en r d)) := by
  show Option.rec (motive := fun _ => KR) (retK (run (.fn fn) (app [] (.yield l :: cap)) h) fun _ h => endK l h kn kr ke) (fun _ => .bad) (c.ext.get fn) = _
  rw [hx]
  show retK (run (.fn fn) (app [] (.yield l :: cap)) h) _ = _
  rw [app_eq, List.nil_append, retK_of e]
  unfold endK
  rw [hObj_eq, ho, opt_some]
  show hUpd h1 l (some (.loop .exhausted none en r d)) _ = _
  rw [hUpd_eq]
theorem callVK_yield {tb : T FnC} {ty : T RnC} {n l : Nat} {args : List AV} {h h' : H} {v : AV} (e : run tb ty n (.yield l) args h = .ok v h') : callVK (run tb ty n) (.yield l) args h k = k v h' := retK_of e
theorem callVK_cap {run : KRun} {fn : Nat} {first cap args : List AV} {h h' : H} {v : AV} (e : run (.fn fn) (first ++ args ++ cap) h = .ok v h') : callVK run (.func (.func fn) first cap) args h k = k v h' := by
  show retK (run (.fn fn) (app first (app args cap)) h) k = _
  rw [app_eq, app_eq, ← List.append_assoc]
  exact retK_of e
end
end K
end Am

namespace Am
open Go
def upd1 (R : Nat → AV) (i : Nat) (v : AV) : Nat → AV := fun k => if k = i then v else R k
theorem RowF.store1 {h : H} {id m i : Nat} {R : Nat → AV} {v : AV} (e : RowF h id m R) (hi : i < m) (hc : v.isCell = true) :
    ∃ h', h.stores id i [v] = some h' ∧ RowF h' id m (upd1 R i v) ∧ h'.next = h.next ∧ ∀ x, x ≠ id → h'.obj x = h.obj x := by
  obtain ⟨h', s1, s2, s3, s4⟩ := e.stores (off := i) (l := [v]) (by simp; omega) (by rw [allB_iff]; intro a ha; rw [List.mem_singleton.1 ha]; exact hc)
  refine ⟨h', s1, s2.eqOn fun k hk => ?_, s3, s4⟩
  unfold updF upd1
  by_cases hki : k = i
  · subst hki
    simp
  · rw [if_neg hki, if_neg (by simp only [List.length_cons, List.length_nil]; omega)]
namespace K
variable {c : Ctx}
theorem mslK_of {e esz n : Nat} {h : H} {l : List AV} {k : AV → H → KR} (h1 : n * bytesOf c e ≤ 16777216) (h2 : n ≤ 16777216) (hz : zL c e = l) :
    mslK c e esz (.int .i64 (.ofNat n)) (.int .i64 (.ofNat n)) h k = k (.slice h.next 0 n (2 * esz + 1)) (Am.newCells (repl n l) h).2 := by
  show req (Nat.ble n n) (req (Nat.ble (Nat.mul n (bytesOf c e)) 16777216) (req (Nat.ble n 16777216) (newCells (replK n (zL c e)) h fun id h => fN (tagOf esz (Nat.beq n n)) fun tag => k (.slice id 0 n tag) h))) = _
  have e1 : Nat.ble n n = true := Nat.ble_eq_true_of_le (Nat.le_refl _)
  have e2 : Nat.ble (Nat.mul n (bytesOf c e)) 16777216 = true := Nat.ble_eq_true_of_le h1
  have e3 : Nat.ble n 16777216 = true := Nat.ble_eq_true_of_le h2
  have e4 : Nat.beq n n = true := Nat.beq_refl n
  rw [e1, e2, e3]
  show newCells (replK n (zL c e)) h (fun id h => fN (tagOf esz (Nat.beq n n)) fun tag => k (.slice id 0 n tag) h) = _
  rw [newCells_eq, fN_eq, hz, replK_eq, e4]
  rfl
end K
theorem RowF.repl1 (n : Nat) (z : AV) (h : H) : RowF (Am.newCells (repl n [z]) h).2 h.next n (fun _ => z) := by
  have hl : (repl n [z]).length = n := by rw [repl_length]; simp
  have := RowF.newCells (repl n [z]) h (R := fun _ => z) (fun k hk => by
    rw [repl_get [z] (by simp) n k (by rw [hl] at hk; simpa using hk)]
    simp [Nat.mod_one])
  rw [hl] at this
  exact this
theorem copyA_of {esz d off n tg s so m ts : Nat} {h h' : H} {l : List AV} (h1 : tg / 2 = esz) (h2 : ts / 2 = esz) (hl : h.loads s so (m * esz) = some l) (hm : m ≤ n) (hle : l.length = m * esz) (hs : h.stores d off l = some h') :
    copyA esz (.slice d off n tg) (.slice s so m ts) h = .ok (.int .i64 (.ofNat m), h') := by
  have e1 : (tg / 2).beq esz = true := by rw [h1]; exact Nat.beq_refl _
  have e2 : (ts / 2).beq esz = true := by rw [h2]; exact Nat.beq_refl _
  have e3 : minN m n = m := by unfold minN; rw [Nat.ble_eq_true_of_le hm]
  have e4 : l.take (m * esz) = l := by rw [← hle]; exact List.take_length
  have e5 : sliceCells esz (.slice s so m ts) h = some l := by unfold sliceCells; simp only; rw [e2]; exact hl
  show (match (tg / 2).beq esz, sliceCells esz (.slice s so m ts) h with
      | true, some l => match h.stores d off (l.take (minN m n * esz)) with
        | some h => R.ok (AV.int .i64 (Int.ofNat (minN m n)), h)
        | none => .bad "copy: stores"
      | _, _ => .bad "copy: cells") = _
  rw [e1, e5]
  simp only
  rw [e3, e4, hs]
end Am

namespace Am
open Go
inductive SO where
  | c (l : List AV)
  | m (es : List (AV × AV × Nat)) (ck : Nat)
  | o (x : AObj)
def Rep : SO → Option AObj → Prop
  | .c l, o => ∃ t, o = some (.cells l.length t) ∧ ∀ k, k < l.length → t.get k = l[k]?
  | .m es ck, o => o = some (.map es ck)
  | .o x, o => o = some x
inductive As where
  | a (id : Nat) (s : SO)
  | ex (key : Nat) (P : List (Nat × SO) → Prop)
inductive Flat : List As → List (Nat × SO) → Prop
  | nil : Flat [] []
  | a {id : Nat} {s : SO} {l : List As} {l0 : List (Nat × SO)} : Flat l l0 → Flat (.a id s :: l) ((id, s) :: l0)
  | ex {k : Nat} {P : List (Nat × SO) → Prop} {l : List As} {l0 l1 : List (Nat × SO)} : P l1 → Flat l l0 → Flat (.ex k P :: l) (l1 ++ l0)
structure Hp0 (h : H) (l : List (Nat × SO)) : Prop where
  lt : ∀ p ∈ l, p.1 < h.next
  nd : (l.map Prod.fst).Nodup
  rep : ∀ p ∈ l, Rep p.2 (h.obj p.1)
class Hp (h : H) (l : outParam (List As)) : Prop where
  out : ∃ l0, Flat l l0 ∧ Hp0 h l0
theorem Hp0.perm {h : H} {l l' : List (Nat × SO)} (e : Hp0 h l) (p : l.Perm l') : Hp0 h l' :=
  ⟨fun q hq => e.lt q (p.mem_iff.2 hq), (p.map _).nodup_iff.1 e.nd, fun q hq => e.rep q (p.mem_iff.2 hq)⟩
theorem Flat.perm {l l' : List As} (p : l.Perm l') : ∀ {l0 : List (Nat × SO)}, Flat l l0 → ∃ l1, Flat l' l1 ∧ l0.Perm l1 := by
  induction p with
  | nil => intro l0 h; exact ⟨l0, h, .refl _⟩
  | cons x _ ih =>
    intro l0 h
    cases h with
    | a h => obtain ⟨l1, h1, h2⟩ := ih h; exact ⟨_, .a h1, h2.cons _⟩
    | ex hp h => obtain ⟨l1, h1, h2⟩ := ih h; exact ⟨_, .ex hp h1, h2.append_left _⟩
  | swap x y l =>
    intro l0 h
    cases h with
    | a h => cases h with
      | a h => exact ⟨_, .a (.a h), .swap _ _ _⟩
      | ex hp h => exact ⟨_, .ex hp (.a h), (List.perm_middle).symm⟩
    | ex hp h => cases h with
      | a h => exact ⟨_, .a (.ex hp h), List.perm_middle⟩
      | ex hp' h =>
        refine ⟨_, .ex hp' (.ex hp h), ?_⟩
        rw [← List.append_assoc, ← List.append_assoc]
        exact List.perm_append_comm.append_right _
  | trans _ _ ih1 ih2 =>
    intro l0 h
    obtain ⟨l1, h1, h2⟩ := ih1 h
    obtain ⟨l2, h3, h4⟩ := ih2 h1
    exact ⟨l2, h3, h2.trans h4⟩
theorem Hp.perm {h : H} {l l' : List As} (e : Hp h l) (p : l.Perm l') : Hp h l' := by
  obtain ⟨l0, h1, h2⟩ := e.out
  obtain ⟨l1, h3, h4⟩ := h1.perm p
  exact ⟨l1, h3, h2.perm h4⟩
class Pk (l : List As) (id : Nat) (s : outParam As) (r : outParam (List As)) : Prop where
  perm : l.Perm (s :: r)
instance pk_a (id : Nat) (s : SO) (r : List As) : Pk (.a id s :: r) id (.a id s) r := ⟨.refl _⟩
instance pk_ex (id : Nat) (P : List (Nat × SO) → Prop) (r : List As) : Pk (.ex id P :: r) id (.ex id P) r := ⟨.refl _⟩
instance (priority := low) pk_s (x : As) (l : List As) (id : Nat) (s : As) (r : List As) [q : Pk l id s r] : Pk (x :: l) id s (x :: r) := ⟨(q.perm.cons x).trans (.swap _ _ _)⟩
theorem Hp.pk {h : H} {l : List As} {id : Nat} {s : As} {r : List As} (e : Hp h l) [q : Pk l id s r] : Hp h (s :: r) := e.perm q.perm
class PkL (l : List As) (ids : List Nat) (s : outParam (List As)) (r : outParam (List As)) : Prop where
  perm : l.Perm (s ++ r)
instance pkl_nil (l : List As) : PkL l [] [] l := ⟨.refl _⟩
instance pkl_cons (l : List As) (id : Nat) (ids : List Nat) (s : As) (r : List As) (s' r' : List As) [p : Pk l id s r] [q : PkL r ids s' r'] : PkL l (id :: ids) (s :: s') r' := ⟨p.perm.trans (q.perm.cons s)⟩
theorem Hp.pkl {h : H} {l : List As} (ids : List Nat) {s r : List As} (e : Hp h l) [q : PkL l ids s r] : Hp h (s ++ r) := e.perm q.perm
theorem Hp.head {h : H} {id : Nat} {s : SO} {r : List As} (e : Hp h (.a id s :: r)) : Rep s (h.obj id) ∧ id < h.next := by
  obtain ⟨l0, h1, h2⟩ := e.out
  cases h1 with
  | a h1 => exact ⟨h2.rep _ (List.mem_cons_self ..), h2.lt _ (List.mem_cons_self ..)⟩
theorem Hp.tail {h : H} {s : As} {r : List As} (e : Hp h (s :: r)) : Hp h r := by
  obtain ⟨l0, h1, h2⟩ := e.out
  cases h1 with
  | a h1 => exact ⟨_, h1, fun q hq => h2.lt q (List.mem_cons_of_mem _ hq), (List.nodup_cons.1 h2.nd).2, fun q hq => h2.rep q (List.mem_cons_of_mem _ hq)⟩
  | ex hp h1 =>
    refine ⟨_, h1, fun q hq => h2.lt q (List.mem_append_right _ hq), ?_, fun q hq => h2.rep q (List.mem_append_right _ hq)⟩
    have := h2.nd
    rw [List.map_append, List.nodup_append] at this
    exact this.2.1
theorem Hp0.upd {h h' : H} {id : Nat} {s s' : SO} {l : List (Nat × SO)} (e : Hp0 h ((id, s) :: l)) (hn : h.next ≤ h'.next) (ho : ∀ x, x ≠ id → x < h.next → h'.obj x = h.obj x) (hs : Rep s' (h'.obj id)) : Hp0 h' ((id, s') :: l) := by
  refine ⟨fun q hq => ?_, e.nd, fun q hq => ?_⟩
  · rcases List.mem_cons.1 hq with rfl | hq
    · exact Nat.lt_of_lt_of_le (e.lt (id, s) (List.mem_cons_self ..)) hn
    · exact Nat.lt_of_lt_of_le (e.lt q (List.mem_cons_of_mem _ hq)) hn
  · rcases List.mem_cons.1 hq with rfl | hq
    · exact hs
    · have hm : q.1 ∈ l.map Prod.fst := List.mem_map_of_mem hq
      rw [ho q.1 (fun hx => (List.nodup_cons.1 e.nd).1 (by show id ∈ l.map Prod.fst; rw [← hx]; exact hm)) (e.lt q (List.mem_cons_of_mem _ hq))]
      exact e.rep q (List.mem_cons_of_mem _ hq)
theorem Hp.upd {h h' : H} {id : Nat} {s s' : SO} {r : List As} (e : Hp h (.a id s :: r)) (hn : h.next ≤ h'.next) (ho : ∀ x, x ≠ id → x < h.next → h'.obj x = h.obj x) (hs : Rep s' (h'.obj id)) : Hp h' (.a id s' :: r) := by
  obtain ⟨l0, h1, h2⟩ := e.out
  cases h1 with
  | a h1 => exact ⟨_, .a h1, h2.upd hn ho hs⟩
theorem Hp0.new {h h' : H} {s : SO} {l : List (Nat × SO)} (e : Hp0 h l) (hn : h.next < h'.next) (ho : ∀ x, x < h.next → h'.obj x = h.obj x) (hs : Rep s (h'.obj h.next)) : Hp0 h' ((h.next, s) :: l) := by
  refine ⟨fun q hq => ?_, List.nodup_cons.2 ⟨fun hm => ?_, e.nd⟩, fun q hq => ?_⟩
  · rcases List.mem_cons.1 hq with rfl | hq
    · exact hn
    · exact Nat.lt_trans (e.lt q hq) hn
  · obtain ⟨q, q1, q2⟩ := List.mem_map.1 hm
    have := e.lt q q1
    have : q.1 = h.next := q2
    omega
  · rcases List.mem_cons.1 hq with rfl | hq
    · exact hs
    · rw [ho q.1 (e.lt q hq)]; exact e.rep q hq
theorem Hp.new {h h' : H} {s : SO} {r : List As} (e : Hp h r) (hn : h.next < h'.next) (ho : ∀ x, x < h.next → h'.obj x = h.obj x) (hs : Rep s (h'.obj h.next)) : Hp h' (.a h.next s :: r) := by
  obtain ⟨l0, h1, h2⟩ := e.out
  exact ⟨_, .a h1, h2.new hn ho hs⟩
theorem Hp.open {h : H} {k : Nat} {P : List (Nat × SO) → Prop} {r : List As} (e : Hp h (.ex k P :: r)) : ∃ l1, P l1 ∧ Hp h (l1.map (fun q => As.a q.1 q.2) ++ r) := by
  obtain ⟨l0, h1, h2⟩ := e.out
  cases h1 with
  | @ex _ _ _ l0 l1 hp h1 =>
    refine ⟨l1, hp, l1 ++ l0, ?_, h2⟩
    clear h2 hp
    induction l1 with
    | nil => exact h1
    | cons q l1 ih => exact .a ih
theorem flat_split {r : List As} : ∀ (l1 : List (Nat × SO)) {l0 : List (Nat × SO)}, Flat (l1.map (fun q => As.a q.1 q.2) ++ r) l0 → ∃ l2, Flat r l2 ∧ l0 = l1 ++ l2
  | [], l0, h => ⟨l0, h, rfl⟩
  | q :: l1, l0, h => by
    cases h with
    | a h =>
      obtain ⟨l2, h3, rfl⟩ := flat_split l1 h
      exact ⟨l2, h3, rfl⟩
theorem Hp.close {h : H} {k : Nat} {P : List (Nat × SO) → Prop} {r : List As} (l1 : List (Nat × SO)) (hp : P l1) (e : Hp h (l1.map (fun q => As.a q.1 q.2) ++ r)) : Hp h (.ex k P :: r) := by
  obtain ⟨l0, h1, h2⟩ := e.out
  obtain ⟨l2, h3, rfl⟩ := flat_split l1 h1
  exact ⟨_, .ex hp h3, h2⟩
theorem Hp.app {h : H} : ∀ (l r : List As), Hp h (l ++ r) → Hp h r
  | [], r, e => e
  | _ :: l, r, e => Hp.app l r e.tail
def Ok (r : K.KR) (Q : AV → H → Prop) : Prop := ∃ v h, r = .ok v h ∧ Q v h
theorem Ok.mono {r : K.KR} {Q Q' : AV → H → Prop} (e : Ok r Q) (hq : ∀ v h, Q v h → Q' v h) : Ok r Q' := by
  obtain ⟨v, h, h1, h2⟩ := e
  exact ⟨v, h, h1, hq v h h2⟩
theorem Ok.of {r : K.KR} {Q : AV → H → Prop} {v : AV} {h : H} (e : r = .ok v h) (q : Q v h) : Ok r Q := ⟨v, h, e, q⟩
theorem Ok.eq {r r' : K.KR} {Q : AV → H → Prop} (e : r = r') (q : Ok r' Q) : Ok r Q := e ▸ q
class Stp (x : K.KR) (Q : AV → H → Prop) (P : outParam Prop) : Prop where
  to : P → Ok x Q
structure Sd (s P : Prop) : Prop where
  s : s
  p : P
structure Lk {α : Type} (o : Option α) (P : α → Prop) : Prop where
  out : ∃ a, o = some a ∧ P a
theorem Lk.mk' {α : Type} {o : Option α} {P : α → Prop} {a : α} (e : o = some a) (p : P a) : Lk o P := ⟨a, e, p⟩
structure Br (p A B : Prop) : Prop where
  t : p → A
  f : ¬ p → B
theorem Br.l {p A B : Prop} (h : p) (a : A) : Br p A B := ⟨fun _ => a, fun n => absurd h n⟩
theorem Br.r {p A B : Prop} (h : ¬ p) (b : B) : Br p A B := ⟨fun n => absurd n h, fun _ => b⟩
class NI (x : Int) (z : outParam Int) : Prop where
  eq : x = z
instance ni_nat (n : Nat) : NI (.ofNat n) n := ⟨rfl⟩
instance (priority := low) ni_id (x : Int) : NI x x := ⟨rfl⟩
class IsC (v : AV) : Prop where
  is : v.isCell = true
instance isc_b (b : Bool) : IsC (.bool b) := ⟨rfl⟩
instance isc_i (k : IntKind) (n : Int) : IsC (.int k n) := ⟨rfl⟩
instance isc_s (s : List Nat) : IsC (.str s) := ⟨rfl⟩
instance isc_p (a b : Nat) : IsC (.ptr a b) := ⟨rfl⟩
instance isc_n : IsC .nilPtr := ⟨rfl⟩
instance isc_sl (a b c d : Nat) : IsC (.slice a b c d) := ⟨rfl⟩
instance isc_ns : IsC .nilSlice := ⟨rfl⟩
instance isc_m (a : Nat) : IsC (.map a) := ⟨rfl⟩
instance isc_nm : IsC .nilMap := ⟨rfl⟩
instance isc_f (a : Fn) (b c : List AV) : IsC (.func a b c) := ⟨rfl⟩
instance isc_nf : IsC .nilFunc := ⟨rfl⟩
class ZL (c : Ctx) (t : Nat) (l : outParam (List AV)) : Prop where
  eq : K.zL c t = l
class Cv (c : Ctx) (s d : Nat) (k : outParam IntKind) : Prop where
  eq : ∀ (k' : IntKind) (n : Int) (h : H), convA c s d (.int k' n) h = .ok (.int k (wrapI k n), h)
class FS (c : Ctx) (t : Nat) (l : outParam (List (Nat × Nat × Nat × Bool))) : Prop where
  eq : K.fsOf c t = l
class BY (c : Ctx) (t : Nat) (n : outParam Nat) : Prop where
  eq : K.bytesOf c t = n
end Am

namespace Am
open Go
class AddL (a b : Nat) (c : outParam Nat) : Prop where
  eq : a + b = c
instance addl_0 (n : Nat) : AddL 0 n n := ⟨Nat.zero_add n⟩
instance addl_z (n : Nat) : AddL n 0 n := ⟨rfl⟩
instance (priority := low) addl_x (a b : Nat) : AddL a b (a + b) := ⟨rfl⟩
instance : AddL 1 1 2 := ⟨rfl⟩
instance : AddL 1 2 3 := ⟨rfl⟩
instance : AddL 1 3 4 := ⟨rfl⟩
instance : AddL 1 4 5 := ⟨rfl⟩
instance : AddL 1 5 6 := ⟨rfl⟩
instance : AddL 1 6 7 := ⟨rfl⟩
instance : AddL 1 7 8 := ⟨rfl⟩
instance : AddL 1 8 9 := ⟨rfl⟩
instance : AddL 1 9 10 := ⟨rfl⟩
instance : AddL 1 10 11 := ⟨rfl⟩
instance : AddL 2 1 3 := ⟨rfl⟩
instance : AddL 2 2 4 := ⟨rfl⟩
instance : AddL 2 3 5 := ⟨rfl⟩
instance : AddL 2 4 6 := ⟨rfl⟩
instance : AddL 2 5 7 := ⟨rfl⟩
instance : AddL 2 6 8 := ⟨rfl⟩
instance : AddL 2 7 9 := ⟨rfl⟩
instance : AddL 2 8 10 := ⟨rfl⟩
instance : AddL 2 9 11 := ⟨rfl⟩
instance : AddL 2 10 12 := ⟨rfl⟩
instance : AddL 3 1 4 := ⟨rfl⟩
instance : AddL 3 2 5 := ⟨rfl⟩
instance : AddL 3 3 6 := ⟨rfl⟩
instance : AddL 3 4 7 := ⟨rfl⟩
instance : AddL 3 5 8 := ⟨rfl⟩
instance : AddL 3 6 9 := ⟨rfl⟩
instance : AddL 3 7 10 := ⟨rfl⟩
instance : AddL 3 8 11 := ⟨rfl⟩
instance : AddL 3 9 12 := ⟨rfl⟩
instance : AddL 3 10 13 := ⟨rfl⟩
instance : AddL 4 1 5 := ⟨rfl⟩
instance : AddL 4 2 6 := ⟨rfl⟩
instance : AddL 4 3 7 := ⟨rfl⟩
instance : AddL 4 4 8 := ⟨rfl⟩
instance : AddL 4 5 9 := ⟨rfl⟩
instance : AddL 4 6 10 := ⟨rfl⟩
instance : AddL 4 7 11 := ⟨rfl⟩
instance : AddL 4 8 12 := ⟨rfl⟩
instance : AddL 4 9 13 := ⟨rfl⟩
instance : AddL 4 10 14 := ⟨rfl⟩
instance : AddL 5 1 6 := ⟨rfl⟩
instance : AddL 5 2 7 := ⟨rfl⟩
instance : AddL 5 3 8 := ⟨rfl⟩
instance : AddL 5 4 9 := ⟨rfl⟩
instance : AddL 5 5 10 := ⟨rfl⟩
instance : AddL 5 6 11 := ⟨rfl⟩
instance : AddL 5 7 12 := ⟨rfl⟩
instance : AddL 5 8 13 := ⟨rfl⟩
instance : AddL 5 9 14 := ⟨rfl⟩
instance : AddL 5 10 15 := ⟨rfl⟩
instance : AddL 6 1 7 := ⟨rfl⟩
instance : AddL 6 2 8 := ⟨rfl⟩
instance : AddL 6 3 9 := ⟨rfl⟩
instance : AddL 6 4 10 := ⟨rfl⟩
instance : AddL 6 5 11 := ⟨rfl⟩
instance : AddL 6 6 12 := ⟨rfl⟩
instance : AddL 6 7 13 := ⟨rfl⟩
instance : AddL 6 8 14 := ⟨rfl⟩
instance : AddL 6 9 15 := ⟨rfl⟩
instance : AddL 6 10 16 := ⟨rfl⟩
instance : AddL 7 1 8 := ⟨rfl⟩
instance : AddL 7 2 9 := ⟨rfl⟩
instance : AddL 7 3 10 := ⟨rfl⟩
instance : AddL 7 4 11 := ⟨rfl⟩
instance : AddL 7 5 12 := ⟨rfl⟩
instance : AddL 7 6 13 := ⟨rfl⟩
instance : AddL 7 7 14 := ⟨rfl⟩
instance : AddL 7 8 15 := ⟨rfl⟩
instance : AddL 7 9 16 := ⟨rfl⟩
instance : AddL 7 10 17 := ⟨rfl⟩
instance : AddL 8 1 9 := ⟨rfl⟩
instance : AddL 8 2 10 := ⟨rfl⟩
instance : AddL 8 3 11 := ⟨rfl⟩
instance : AddL 8 4 12 := ⟨rfl⟩
instance : AddL 8 5 13 := ⟨rfl⟩
instance : AddL 8 6 14 := ⟨rfl⟩
instance : AddL 8 7 15 := ⟨rfl⟩
instance : AddL 8 8 16 := ⟨rfl⟩
instance : AddL 8 9 17 := ⟨rfl⟩
instance : AddL 8 10 18 := ⟨rfl⟩
instance : AddL 9 1 10 := ⟨rfl⟩
instance : AddL 9 2 11 := ⟨rfl⟩
instance : AddL 9 3 12 := ⟨rfl⟩
instance : AddL 9 4 13 := ⟨rfl⟩
instance : AddL 9 5 14 := ⟨rfl⟩
instance : AddL 9 6 15 := ⟨rfl⟩
instance : AddL 9 7 16 := ⟨rfl⟩
instance : AddL 9 8 17 := ⟨rfl⟩
instance : AddL 9 9 18 := ⟨rfl⟩
instance : AddL 9 10 19 := ⟨rfl⟩
instance : AddL 10 1 11 := ⟨rfl⟩
instance : AddL 10 2 12 := ⟨rfl⟩
instance : AddL 10 3 13 := ⟨rfl⟩
instance : AddL 10 4 14 := ⟨rfl⟩
instance : AddL 10 5 15 := ⟨rfl⟩
instance : AddL 10 6 16 := ⟨rfl⟩
instance : AddL 10 7 17 := ⟨rfl⟩
instance : AddL 10 8 18 := ⟨rfl⟩
instance : AddL 10 9 19 := ⟨rfl⟩
instance : AddL 10 10 20 := ⟨rfl⟩
section
variable {c : Ctx} {k : IntKind} {x y : Int} {t : Nat} {b : Bool} {g : AV → K.KR} {f : AV → H → K.KR} {u : H → K.KR} {h : H} {Q : AV → H → Prop} {α : Type}
theorem Stp.eq {X X' : K.KR} (e : X = X') : Stp X Q (Ok X' Q) := ⟨fun h => e ▸ h⟩
instance stp_ok (v : AV) (h : H) : Stp (.ok v h) Q (Q v h) := ⟨fun q => ⟨v, h, rfl, q⟩⟩
instance stp_uncons (a : AV) (l : List AV) (f : AV → List AV → K.KR) : Stp (K.uncons (a :: l) f) Q (Ok (f a l) Q) := .eq rfl
instance stp_unnil (X : K.KR) : Stp (K.unnil ([] : List AV) X) Q (Ok X Q) := .eq rfl
instance stp_unmark0 : Stp (K.unmarkK [] h u) Q (Ok (u h) Q) := .eq rfl
instance stp_letK {α : Type} (a : α) (f : α → K.KR) : Stp (K.letK a f) Q (Ok (f a) Q) := .eq rfl
instance stp_ite_t (A B : K.KR) : Stp (K.iteV (.bool true) A B) Q (Ok A Q) := .eq rfl
instance stp_ite_f (A B : K.KR) : Stp (K.iteV (.bool false) A B) Q (Ok B Q) := .eq rfl
instance (priority := low) stp_ite (r : Bool) (A B : K.KR) : Stp (K.iteV (.bool r) A B) Q (Br (r = true) (Ok A Q) (Ok B Q)) := ⟨fun p => by
  cases r with
  | true => exact p.t rfl
  | false => exact p.f (by decide)⟩
instance stp_gu_tt (A B : K.KR) : Stp (K.guK true (.bool true) A B) Q (Ok A Q) := .eq rfl
instance stp_gu_tf (A B : K.KR) : Stp (K.guK true (.bool false) A B) Q (Ok B Q) := .eq rfl
instance stp_gu_ft (A B : K.KR) : Stp (K.guK false (.bool true) A B) Q (Ok B Q) := .eq rfl
instance stp_gu_ff (A B : K.KR) : Stp (K.guK false (.bool false) A B) Q (Ok A Q) := .eq rfl
instance stp_gu_n (A B : K.KR) (w : Bool) : Stp (K.guK w (.tup []) A B) Q (Ok B Q) := .eq (by cases w <;> rfl)
instance (priority := low) stp_gu_t (r : Bool) (A B : K.KR) : Stp (K.guK true (.bool r) A B) Q (Br (r = true) (Ok A Q) (Ok B Q)) := ⟨fun p => by
  cases r with
  | true => exact p.t rfl
  | false => exact p.f (by decide)⟩
instance (priority := low) stp_gu_f (r : Bool) (A B : K.KR) : Stp (K.guK false (.bool r) A B) Q (Br (r = true) (Ok B Q) (Ok A Q)) := ⟨fun p => by
  cases r with
  | true => exact p.t rfl
  | false => exact p.f (by decide)⟩
instance stp_pick_t (v w : AV) : Stp (K.pickK (.bool true) v w g) Q (Ok (g v) Q) := .eq rfl
instance stp_pick_f (v w : AV) : Stp (K.pickK (.bool false) v w g) Q (Ok (g w) Q) := .eq rfl
instance (priority := low) stp_pick (r : Bool) (v w : AV) : Stp (K.pickK (.bool r) v w g) Q (Br (r = true) (Ok (g v) Q) (Ok (g w) Q)) := ⟨fun p => by
  cases r with
  | true => exact p.t rfl
  | false => exact p.f (by decide)⟩
instance stp_iteN (r : Bool) (A B : K.KR) : Stp (K.iteV (.bool (!r)) A B) Q (Br (r = true) (Ok B Q) (Ok A Q)) := ⟨fun p => by
  cases r with
  | true => exact p.t rfl
  | false => exact p.f (by decide)⟩
instance stp_guN_t (r : Bool) (A B : K.KR) : Stp (K.guK true (.bool (!r)) A B) Q (Br (r = true) (Ok B Q) (Ok A Q)) := ⟨fun p => by
  cases r with
  | true => exact p.t rfl
  | false => exact p.f (by decide)⟩
instance stp_guN_f (r : Bool) (A B : K.KR) : Stp (K.guK false (.bool (!r)) A B) Q (Br (r = true) (Ok A Q) (Ok B Q)) := ⟨fun p => by
  cases r with
  | true => exact p.t rfl
  | false => exact p.f (by decide)⟩
instance stp_pickN (r : Bool) (v w : AV) : Stp (K.pickK (.bool (!r)) v w g) Q (Br (r = true) (Ok (g w) Q) (Ok (g v) Q)) := ⟨fun p => by
  cases r with
  | true => exact p.t rfl
  | false => exact p.f (by decide)⟩
instance stp_not_t : Stp (K.notK (.bool true) g) Q (Ok (g (.bool false)) Q) := .eq rfl
instance stp_not_f : Stp (K.notK (.bool false) g) Q (Ok (g (.bool true)) Q) := .eq rfl
instance (priority := low) stp_not (r : Bool) : Stp (K.notK (.bool r) g) Q (Ok (g (.bool (!r))) Q) := .eq (K.notK_b r)
instance stp_ext0 (a : AV) (l : List AV) : Stp (K.extK (.tup (a :: l)) 0 g) Q (Ok (g a) Q) := .eq rfl
instance stp_ext1 (a a1 : AV) (l : List AV) : Stp (K.extK (.tup (a :: a1 :: l)) 1 g) Q (Ok (g a1) Q) := .eq rfl
instance stp_ext2 (a a1 a2 : AV) (l : List AV) : Stp (K.extK (.tup (a :: a1 :: a2 :: l)) 2 g) Q (Ok (g a2) Q) := .eq rfl
instance stp_req_t (X : K.KR) : Stp (K.req true X) Q (Ok X Q) := .eq rfl
instance (priority := low) stp_req (r : Bool) (X : K.KR) : Stp (K.req r X) Q (Sd (r = true) (Ok X Q)) := ⟨fun p => by rw [p.s]; exact p.p⟩
instance stp_nil_p (a o : Nat) : Stp (K.nilK (.ptr a o) g) Q (Ok (g (.ptr a o)) Q) := .eq rfl
instance stp_nil_g (a o : Nat) : Stp (K.nilK (.gptr a o) g) Q (Ok (g (.gptr a o)) Q) := .eq rfl
instance stp_fld (o i p q : Nat) [a : AddL p o q] : Stp (K.fldK o (.ptr i p) g) Q (Ok (g (.ptr i q)) Q) := .eq (by rw [K.fldK_ptr, a.eq])
instance stp_len_s (a o n tg : Nat) : Stp (K.lenVK (.slice a o n tg) g) Q (Ok (g (.int .i64 (.ofNat n))) Q) := .eq rfl
instance stp_len_n : Stp (K.lenVK .nilSlice g) Q (Ok (g (.int .i64 (.ofNat 0))) Q) := .eq rfl
instance stp_lenT (s : List Nat) : Stp (K.lenTK (.str s) g) Q (Ok (g (.int .i64 (.ofNat s.length))) Q) := .eq (by
  show K.fN (K.len s) (fun n => g (.int .i64 (.ofNat n))) = _
  rw [K.fN_eq, K.len_eq])
class Wr (k : IntKind) (z : Int) (s : outParam Prop) (z' : outParam Int) : Prop where
  eq : s → k.wrap z = z'
instance wr_i64 (z : Int) : Wr .i64 z (-9223372036854775808 ≤ z ∧ z ≤ 9223372036854775807) z := ⟨fun p => by
  show (if (true && decide (z % 18446744073709551616 ≥ 9223372036854775808)) = true then z % 18446744073709551616 - 18446744073709551616 else z % 18446744073709551616) = z
  rw [Bool.true_and]
  by_cases hh : z % 18446744073709551616 ≥ 9223372036854775808
  · rw [if_pos (decide_eq_true hh)]; omega
  · rw [if_neg (by rw [decide_eq_true_eq]; exact hh)]; omega⟩
instance wr_u64 (z : Int) : Wr .u64 z True (z % 18446744073709551616) := ⟨fun _ => rfl⟩
instance wr_u32 (z : Int) : Wr .u32 z True (z % 4294967296) := ⟨fun _ => rfl⟩
instance wr_u16 (z : Int) : Wr .u16 z True (z % 65536) := ⟨fun _ => rfl⟩
instance wr_u8 (z : Int) : Wr .u8 z True (z % 256) := ⟨fun _ => rfl⟩
section
variable {x' y' z' : Int} {s : Prop} [nx : NI x x'] [ny : NI y y']
include nx ny
instance stp_add [w : Wr k (x' + y') s z'] : Stp (K.addK (K.binV c .add t b (.int k x) (.int k y)) (.int k x) (.int k y) g) Q (Sd s (Ok (g (.int k z')) Q)) :=
  ⟨fun p => .eq (by rw [K.addK_int, addI_eq, nx.eq, ny.eq, w.eq p.s]) p.p⟩
instance stp_sub [w : Wr k (x' - y') s z'] : Stp (K.subK (K.binV c .sub t b (.int k x) (.int k y)) (.int k x) (.int k y) g) Q (Sd s (Ok (g (.int k z')) Q)) :=
  ⟨fun p => .eq (by rw [K.subK_int, subI_eq, nx.eq, ny.eq, w.eq p.s]) p.p⟩
instance stp_mul [w : Wr k (x' * y') s z'] : Stp (K.mulK (K.binV c .mul t b (.int k x) (.int k y)) (.int k x) (.int k y) g) Q (Sd s (Ok (g (.int k z')) Q)) :=
  ⟨fun p => .eq (by rw [K.mulK_int, mulI_eq, nx.eq, ny.eq, w.eq p.s]) p.p⟩
omit nx ny in
theorem br_bool {p : Prop} {X : K.KR} {r : Bool} (e : X = g (.bool r)) (hr : r = true ↔ p) : Stp X Q (Br p (Ok (g (.bool true)) Q) (Ok (g (.bool false)) Q)) := ⟨fun q => by
  rw [e]
  cases r with
  | true => exact q.t (hr.1 rfl)
  | false => exact q.f (fun hp => absurd (hr.2 hp) (by decide))⟩
omit nx ny in
theorem eqI_iff : eqI x y = true ↔ x = y := by
  unfold eqI
  cases x <;> cases y <;> simp [Nat.beq_eq] <;> omega
omit nx ny in
theorem leI_iff : leI x y = true ↔ x ≤ y := by
  unfold leI
  cases x with
  | ofNat a => cases y with
    | ofNat b => simp only [Nat.ble_eq, Int.ofNat_eq_natCast]; omega
    | negSucc b => simp; omega
  | negSucc a => cases y with
    | ofNat b => simp; omega
    | negSucc b => simp only [Nat.ble_eq]; omega
omit nx ny in
theorem ltI_iff : ltI x y = true ↔ x < y := by
  unfold ltI
  have := leI_iff (x := y) (y := x)
  cases h : leI y x with
  | true => simp [h] at this ⊢; omega
  | false => simp [h] at this ⊢; omega
instance stp_eq : Stp (K.eqK (K.binV c .eql t b (.int k x) (.int k y)) (.int k x) (.int k y) g) Q (Br (x' = y') (Ok (g (.bool true)) Q) (Ok (g (.bool false)) Q)) := br_bool K.eqK_int (by rw [eqI_iff, nx.eq, ny.eq])
instance stp_ne : Stp (K.neK (K.binV c .neq t b (.int k x) (.int k y)) (.int k x) (.int k y) g) Q (Br (x' = y') (Ok (g (.bool false)) Q) (Ok (g (.bool true)) Q)) := ⟨fun q => by
  have e : eqI x y = true ↔ x' = y' := by rw [eqI_iff, nx.eq, ny.eq]
  rw [K.neK_int]
  cases hr : eqI x y with
  | true => exact q.t (e.1 hr)
  | false => exact q.f (fun hp => absurd (e.2 hp) (by rw [hr]; decide))⟩
instance stp_lt : Stp (K.ltK (K.binV c .lss t b (.int k x) (.int k y)) (.int k x) (.int k y) g) Q (Br (x' < y') (Ok (g (.bool true)) Q) (Ok (g (.bool false)) Q)) := br_bool K.ltK_int (by rw [ltI_iff, nx.eq, ny.eq])
instance stp_le : Stp (K.leK (K.binV c .leq t b (.int k x) (.int k y)) (.int k x) (.int k y) g) Q (Br (x' ≤ y') (Ok (g (.bool true)) Q) (Ok (g (.bool false)) Q)) := br_bool K.leK_int (by rw [leI_iff, nx.eq, ny.eq])
instance stp_gt : Stp (K.gtK (K.binV c .gtr t b (.int k x) (.int k y)) (.int k x) (.int k y) g) Q (Br (y' < x') (Ok (g (.bool true)) Q) (Ok (g (.bool false)) Q)) := br_bool K.gtK_int (by rw [ltI_iff, nx.eq, ny.eq])
instance stp_ge : Stp (K.geK (K.binV c .geq t b (.int k x) (.int k y)) (.int k x) (.int k y) g) Q (Br (y' ≤ x') (Ok (g (.bool true)) Q) (Ok (g (.bool false)) Q)) := br_bool K.geK_int (by rw [leI_iff, nx.eq, ny.eq])
class Mx (k : IntKind) (n : outParam Int) : Prop where
  eq : (maxOf k : Int) = n
omit nx ny in
theorem wrap_ok {z : Int} (h0 : 0 ≤ z) (h1 : z ≤ maxOf k) : k.wrap z = z := by
  obtain ⟨n, rfl⟩ := Int.eq_ofNat_of_zero_le h0
  have : wrapN k n = .ofNat n := by unfold wrapN; rw [Nat.ble_eq_true_of_le (by omega)]
  rw [wrapN_eq] at this
  exact this
instance stp_quo {m : Int} [mx : Mx k m] : Stp (K.oK (K.binV c .quo t b (.int k x) (.int k y)) g) Q (Sd (0 ≤ x' ∧ x' ≤ m ∧ 0 < y') (Ok (g (.int k (x' / y'))) Q)) := ⟨fun p => .eq (by
  obtain ⟨⟨p1, p2, p3⟩, _⟩ := p
  rw [K.binV_int (by decide) (by decide), ← nx.eq, ← ny.eq]
  rw [← nx.eq] at p1 p2
  rw [← ny.eq] at p3
  obtain ⟨a, rfl⟩ := Int.eq_ofNat_of_zero_le p1
  obtain ⟨d, rfl⟩ := Int.eq_ofNat_of_zero_le (Int.le_of_lt p3)
  obtain ⟨d, rfl⟩ : ∃ m, d = m + 1 := ⟨d - 1, by omega⟩
  rw [← mx.eq] at p2
  have e : wrapN k (a / (d + 1)) = .ofNat (a / (d + 1)) := by
    unfold wrapN
    rw [Nat.ble_eq_true_of_le (Nat.le_trans (Nat.div_le_self ..) (by omega))]
  show K.oK ((some (wrapN k (a / (d + 1)))).map (.int k)) g = _
  rw [e]
  exact K.oK_some _) p.p⟩
instance stp_rem : Stp (K.oK (K.binV c .rem t b (.int k x) (.int k y)) g) Q (Sd (0 ≤ x' ∧ 0 < y') (Ok (g (.int k (x' % y'))) Q)) := ⟨fun p => .eq (by
  obtain ⟨⟨p1, p3⟩, _⟩ := p
  rw [K.binV_int (by decide) (by decide), ← nx.eq, ← ny.eq]
  rw [← nx.eq] at p1
  rw [← ny.eq] at p3
  obtain ⟨a, rfl⟩ := Int.eq_ofNat_of_zero_le p1
  obtain ⟨d, rfl⟩ := Int.eq_ofNat_of_zero_le (Int.le_of_lt p3)
  obtain ⟨d, rfl⟩ : ∃ m, d = m + 1 := ⟨d - 1, by omega⟩
  show K.oK ((some (Int.ofNat (a % (d + 1)))).map (.int k)) g = _
  exact K.oK_some _) p.p⟩
end
instance mx_i64 : Mx .i64 9223372036854775807 := ⟨rfl⟩
instance mx_u64 : Mx .u64 18446744073709551615 := ⟨rfl⟩
instance mx_u32 : Mx .u32 4294967295 := ⟨rfl⟩
instance mx_u16 : Mx .u16 65535 := ⟨rfl⟩
instance mx_u8 : Mx .u8 255 := ⟨rfl⟩
instance stp_cv {s d : Nat} {k' : IntKind} {x' z' : Int} {sd : Prop} [cv : Cv c s d k'] [nx : NI x x'] [w : Wr k' x' sd z'] : Stp (K.rK (convA c s d (.int k x) h) f) Q (Sd sd (Ok (f (.int k' z') h) Q)) :=
  ⟨fun p => .eq (by rw [cv.eq, K.rK_of, wrapI_eq, nx.eq, w.eq p.s]) p.p⟩
instance stp_eqS (p q : List Nat) : Stp (K.eqK (K.binV c .eql t b (.str p) (.str q)) (.str p) (.str q) g) Q (Br (p = q) (Ok (g (.bool true)) Q) (Ok (g (.bool false)) Q)) :=
  br_bool (r := eqS p q) (show K.oK (some (.bool (eqS p q))) g = _ from K.oK_some _) (by
    have : ∀ p q : List Nat, eqS p q = true ↔ p = q := fun p => by
      induction p with
      | nil => intro q; cases q <;> simp [eqS]
      | cons a p ih =>
        intro q
        cases q with
        | nil => simp [eqS]
        | cons b q =>
          unfold eqS
          cases hb : a.beq b with
          | true => simp only [ih q, Nat.eq_of_beq_eq_true hb, List.cons.injEq, true_and]
          | false =>
            have : a ≠ b := fun e => by rw [e, Nat.beq_refl] at hb; cases hb
            simp [this]
    exact this p q)
end
end Am

namespace Am
open Go
theorem Rep.of_list {l : List AV} (h : H) : Rep (.c l) ((newCells l h).2.obj h.next) := ⟨T.ofList l, new_obj_self _ _, fun k _ => T.get_ofList _ _⟩
theorem Hp.newC {h : H} {L : List As} (e : Hp h L) (l : List AV) : Hp (newCells l h).2 (.a (newCells l h).1 (.c l) :: L) :=
  e.new (s := .c l) (Nat.lt_succ_self _) (fun x hx => new_obj_old (by omega)) (Rep.of_list h)
theorem Rep.get {l : List AV} {o : Option AObj} (e : Rep (.c l) o) : ∃ t, o = some (.cells l.length t) ∧ ∀ k, k < l.length → t.get k = l[k]? := e
theorem Rep.holds {l : List AV} {h : H} {id : Nat} (e : Rep (.c l) (h.obj id)) : Holds h id l := e
def putL (cs : List AV) (off : Nat) (l : List AV) : List AV := cs.take off ++ l ++ cs.drop (off + l.length)
theorem putL_length {cs : List AV} {off : Nat} {l : List AV} (h : off + l.length ≤ cs.length) : (putL cs off l).length = cs.length := by
  unfold putL
  simp only [List.length_append, List.length_take, List.length_drop]; omega
theorem putL_get {cs : List AV} {off : Nat} {l : List AV} (h : off + l.length ≤ cs.length) (k : Nat) : (putL cs off l)[k]? = if off ≤ k ∧ k < off + l.length then l[k - off]? else cs[k]? := by
  unfold putL
  by_cases h1 : k < off
  · rw [List.append_assoc, List.getElem?_append_left (by simp; omega), if_neg (by omega), List.getElem?_take, if_pos h1]
  · by_cases h2 : k < off + l.length
    · rw [if_pos (by omega), List.append_assoc, List.getElem?_append_right (by simp; omega), List.getElem?_append_left (by simp; omega)]
      congr 1; simp; omega
    · rw [if_neg (by omega), List.getElem?_append_right (by simp; omega), List.getElem?_drop]
      congr 1; simp; omega
theorem Hp.put {h : H} {id : Nat} {cs : List AV} {r : List As} (e : Hp h (.a id (.c cs) :: r)) {off : Nat} {l : List AV} (hb : off + l.length ≤ cs.length) (hc : allB AV.isCell l = true) :
    ∃ h', h.stores id off l = some h' ∧ Hp h' (.a id (.c (putL cs off l)) :: r) := by
  obtain ⟨t, h1, h2⟩ := e.head.1
  refine ⟨h.upd id (.cells cs.length (setCells t off l)), ?_, e.upd (Nat.le_refl _) (fun x hx _ => upd_obj_old hx) ⟨_, by rw [upd_obj_self, putL_length hb], fun k hk => ?_⟩⟩
  · unfold H.stores
    rw [h1]
    simp only [Nat.ble_eq_true_of_le hb, hc]
  · rw [putL_length hb] at hk
    rw [get_setCells, putL_get hb]
    split
    · rfl
    · exact h2 k hk
class Sl (l : List AV) (off n : Nat) (o : outParam (List AV)) : Prop where
  eq : off + n ≤ l.length ∧ (l.drop off).take n = o
instance sl_0 (l : List AV) : Sl l 0 0 [] := ⟨by simp⟩
instance sl_n (a : AV) (l : List AV) (n : Nat) (o : List AV) [q : Sl l 0 n o] : Sl (a :: l) 0 (n + 1) (a :: o) := ⟨by
  obtain ⟨q1, q2⟩ := q.eq
  refine ⟨by simp at q1 ⊢; omega, ?_⟩
  rw [List.drop_zero, List.take_succ_cons, ← q2, List.drop_zero]⟩
instance sl_s (a : AV) (l : List AV) (off n : Nat) (o : List AV) [q : Sl l off n o] : Sl (a :: l) (off + 1) n o := ⟨by
  obtain ⟨q1, q2⟩ := q.eq
  exact ⟨by simp; omega, by rw [List.drop_succ_cons, q2]⟩⟩
class Pu (cs : List AV) (off : Nat) (l : List AV) (o : outParam (List AV)) : Prop where
  eq : off + l.length ≤ cs.length ∧ putL cs off l = o
instance pu_0 (cs : List AV) : Pu cs 0 [] cs := ⟨by simp [putL]⟩
instance pu_n (a : AV) (cs : List AV) (v : AV) (l : List AV) (o : List AV) [q : Pu cs 0 l o] : Pu (a :: cs) 0 (v :: l) (v :: o) := ⟨by
  obtain ⟨q1, q2⟩ := q.eq
  refine ⟨by simp at q1 ⊢; omega, ?_⟩
  rw [← q2]; simp [putL]⟩
instance pu_s (a : AV) (cs : List AV) (off : Nat) (l : List AV) (o : List AV) [q : Pu cs off l o] : Pu (a :: cs) (off + 1) l (a :: o) := ⟨by
  obtain ⟨q1, q2⟩ := q.eq
  refine ⟨by simp at q1 ⊢; omega, ?_⟩
  rw [← q2]; unfold putL
  rw [List.take_succ_cons, show off + 1 + l.length = (off + l.length) + 1 by omega, List.drop_succ_cons]; rfl⟩
class NN (x : Int) (m : outParam Nat) (s : outParam Prop) : Prop where
  eq : s → x = m
instance nn_of (n : Nat) : NN (.ofNat n) n True := ⟨fun _ => rfl⟩
instance nn_c (n : Nat) : NN (n : Int) n True := ⟨fun _ => rfl⟩
instance nn_add (x y : Int) (a b : Nat) (s t : Prop) [p : NN x a s] [q : NN y b t] : NN (x + y) (a + b) (s ∧ t) := ⟨fun h => by rw [p.eq h.1, q.eq h.2]; simp⟩
instance nn_mul (x y : Int) (a b : Nat) (s t : Prop) [p : NN x a s] [q : NN y b t] : NN (x * y) (a * b) (s ∧ t) := ⟨fun h => by rw [p.eq h.1, q.eq h.2]; simp⟩
instance nn_div (x y : Int) (a b : Nat) (s t : Prop) [p : NN x a s] [q : NN y b t] : NN (x / y) (a / b) (s ∧ t) := ⟨fun h => by rw [p.eq h.1, q.eq h.2]; simp⟩
instance nn_mod (x y : Int) (a b : Nat) (s t : Prop) [p : NN x a s] [q : NN y b t] : NN (x % y) (a % b) (s ∧ t) := ⟨fun h => by rw [p.eq h.1, q.eq h.2]; simp⟩
instance (priority := low) nn_x (x : Int) : NN x x.toNat (0 ≤ x) := ⟨fun h => by omega⟩
theorem fillSK_of {fs : List (Nat × Nat × Nat × Bool)} : ∀ (ps : List (Nat × AV)) (l l' : List AV) (k : List AV → K.KR), fillStruct fs l ps = some l' → K.fillSK fs ps l k = k l'
  | [], l, l', k, h => by unfold fillStruct at h; cases h; rfl
  | (i, v) :: ps, l, l', k, h => by
    unfold fillStruct at h
    split at h
    · rename_i off ft size bl hf
      split at h
      · rename_i h1 h2 h3
        show K.opt (K.nth fs i) (fun f => K.knownK v (K.cellsL v fun cs => K.req (Nat.beq (K.len cs) f.2.2.1) (K.req (Nat.ble (Nat.add f.1 f.2.2.1) (K.len l)) (K.fillSK fs ps (K.replaceK l f.1 cs) k)))) = _
        rw [K.nth_eq, hf, K.opt_some]
        have e1 : ∀ X : K.KR, K.knownK v X = X := fun X => by cases v <;> first | rfl | cases h3
        have e2 : ∀ f : List AV → K.KR, K.cellsL v f = f v.cells := fun f => by cases v <;> rfl
        rw [e1, e2]
        simp only [K.len_eq]
        rw [show v.cells.length.beq size = true from h1, show Nat.ble (Nat.add off size) l.length = true from h2]
        show K.fillSK fs ps (K.replaceK l off v.cells) k = _
        have e3 : ∀ (l : List AV) (o : Nat) (w : List AV), K.replaceK l o w = replaceAt l o w := by
          intro l
          induction l with
          | nil => intro o w; cases w <;> rfl
          | cons a l ih =>
            intro o w
            cases w with
            | nil =>
              show a :: K.replaceK l o [] = a :: l
              rw [ih]; cases l <;> rfl
            | cons b w =>
              cases o with
              | zero => exact congrArg _ (ih 0 w)
              | succ o => exact congrArg _ (ih o (b :: w))
        rw [e3]
        exact fillSK_of ps _ l' k h
      · cases h
    · cases h
section
variable {c : Ctx} {k : IntKind} {x y : Int} {t : Nat} {b : Bool} {g : AV → K.KR} {f : AV → H → K.KR} {u : H → K.KR} {h : H} {Q : AV → H → Prop} {L r : List As}
instance stp_box_agg [e : Hp h L] (l : List AV) : Stp (K.boxK (.agg l) h f) Q (∀ id h', Hp h' (.a id (.c l) :: L) → Ok (f (.ptr id 0) h') Q) :=
  ⟨fun p => .eq (K.boxK_agg l h f) (p _ _ (e.newC l))⟩
theorem boxK_cell {v : AV} [q : IsC v] : K.boxK v h f = f (.ptr (newCells [v] h).1 0) (newCells [v] h).2 := by
  have e : K.boxK v h f = K.hNew h (.cells 1 ⟨.no (some v)⟩) fun id h => f (.ptr id 0) h := by
    have := q.is
    cases v <;> first | rfl | cases this
  rw [e, K.hNew_eq]; rfl
instance (priority := low) stp_box [e : Hp h L] (v : AV) [q : IsC v] : Stp (K.boxK v h f) Q (∀ id h', Hp h' (.a id (.c [v]) :: L) → Ok (f (.ptr id 0) h') Q) :=
  ⟨fun p => .eq boxK_cell (p _ _ (e.newC [v]))⟩
instance stp_alloc [e : Hp h L] (l : List AV) [z : ZL c t l] : Stp (K.allocK (K.zN c t) (K.zT c t) h f) Q (∀ id h', Hp h' (.a id (.c l) :: L) → Ok (f (.ptr id 0) h') Q) :=
  ⟨fun p => .eq (by
    rw [K.allocK_eq]
    unfold K.zN K.zT
    rw [z.eq, K.len_eq, K.setCells_eq, ← K.ofList_eq]
    rfl) (p _ _ (e.newC l))⟩
instance stp_ld {id off : Nat} {cs : List AV} [e : Hp h L] [q : Pk L id (.a id (.c cs)) r] : Stp (K.ldK c t (.ptr id off) h g) Q (Lk cs[off]? fun v => Ok (g v) Q) := ⟨fun p => by
  obtain ⟨v, h1, h2⟩ := p.out
  refine .eq (K.ldK_holds (e.perm q.perm).head.1.holds (List.getElem?_eq_some_iff.1 h1).1) ?_
  rw [List.getD_eq_getElem?_getD, h1]
  exact h2⟩
instance stp_lds {id off n : Nat} {cs o : List AV} [e : Hp h L] [q : Pk L id (.a id (.c cs)) r] [s : Sl cs off n o] : Stp (K.ldsK c t n (.ptr id off) h g) Q (Ok (g (.agg o)) Q) := ⟨fun p => by
  refine .eq (K.ldsK_holds (e.perm q.perm).head.1.holds s.eq.1) ?_
  rw [s.eq.2]; exact p⟩
instance (priority := low) stp_lds' {id off n : Nat} {cs : List AV} [e : Hp h L] [q : Pk L id (.a id (.c cs)) r] : Stp (K.ldsK c t n (.ptr id off) h g) Q (Sd (off + n ≤ cs.length) (Ok (g (.agg ((cs.drop off).take n))) Q)) := ⟨fun p =>
  .eq (K.ldsK_holds (e.perm q.perm).head.1.holds p.s) p.p⟩
theorem stK_cell {v : AV} [q : IsC v] {id off : Nat} {h' : H} (e : h.stores id off [v] = some h') : K.stK (.ptr id off) v h u = u h' := by
  have e1 : K.stK (.ptr id off) v h u = K.store1 h id off v u := by
    have := q.is
    cases v <;> first | rfl | cases this
  rw [e1]; exact K.store1_of e
instance stp_st {id off : Nat} {cs o : List AV} {v : AV} [e : Hp h L] [q : Pk L id (.a id (.c cs)) r] [s : Pu cs off [v] o] [z : IsC v] : Stp (K.stK (.ptr id off) v h u) Q (∀ h', Hp h' (.a id (.c o) :: r) → Ok (u h') Q) := ⟨fun p => by
  obtain ⟨h', h1, h2⟩ := (e.perm q.perm).put (off := off) (l := [v]) s.eq.1 (by simp [allB, z.is])
  rw [s.eq.2] at h2
  exact .eq (stK_cell h1) (p h' h2)⟩
theorem putL_set {cs : List AV} {off : Nat} {v : AV} (h : off < cs.length) : putL cs off [v] = cs.set off v := by
  apply List.ext_getElem?
  intro k
  rw [putL_get (by simp; omega), List.getElem?_set]
  by_cases hk : off = k
  · subst hk; simp [h]
  · rw [if_neg hk, if_neg (by simp; omega)]
instance (priority := low) stp_st' {id off : Nat} {cs : List AV} {v : AV} [e : Hp h L] [q : Pk L id (.a id (.c cs)) r] [z : IsC v] : Stp (K.stK (.ptr id off) v h u) Q (Sd (off < cs.length) (∀ h', Hp h' (.a id (.c (cs.set off v)) :: r) → Ok (u h') Q)) := ⟨fun p => by
  obtain ⟨h', h1, h2⟩ := (e.perm q.perm).put (off := off) (l := [v]) (by have := p.s; simp; omega) (by simp [allB, z.is])
  rw [putL_set p.s] at h2
  exact .eq (stK_cell h1) (p.p h' h2)⟩
instance stp_sts {id off n : Nat} {cs o l : List AV} [e : Hp h L] [q : Pk L id (.a id (.c cs)) r] [s : Pu cs off l o] : Stp (K.stsK n (.ptr id off) (.agg l) h u) Q (Sd (l.length = n ∧ allB AV.isCell l = true) (∀ h', Hp h' (.a id (.c o) :: r) → Ok (u h') Q)) := ⟨fun p => by
  obtain ⟨h', h1, h2⟩ := (e.perm q.perm).put (off := off) (l := l) s.eq.1 p.s.2
  rw [s.eq.2] at h2
  exact .eq (K.stsK_of p.s.1 h1) (p.p h' h2)⟩
instance (priority := low) stp_sts' {id off n : Nat} {cs l : List AV} [e : Hp h L] [q : Pk L id (.a id (.c cs)) r] : Stp (K.stsK n (.ptr id off) (.agg l) h u) Q (Sd (off + l.length ≤ cs.length ∧ l.length = n ∧ allB AV.isCell l = true) (∀ h', Hp h' (.a id (.c (putL cs off l)) :: r) → Ok (u h') Q)) := ⟨fun p => by
  obtain ⟨h', h1, h2⟩ := (e.perm q.perm).put (off := off) (l := l) p.s.1 p.s.2.2
  exact .eq (K.stsK_of p.s.2.1 h1) (p.p h' h2)⟩
instance stp_idxS {esz id off n tg : Nat} {i : Nat} {s : Prop} [q : NN x i s] : Stp (K.idxSK esz (.slice id off n tg) (.int k x) g) Q (Sd (s ∧ i < n ∧ tg / 2 = esz) (Ok (g (.ptr id (off + i * esz))) Q)) := ⟨fun p => by
  obtain ⟨⟨p0, p1, p2⟩, p3⟩ := p
  rw [q.eq p0]
  refine .eq ?_ p3
  show K.req (Nat.ble (Nat.succ i) n) (K.req (Nat.beq (Nat.div tg 2) esz) (K.fN (Nat.add off (Nat.mul i esz)) fun o => g (.ptr id o))) = _
  rw [Nat.ble_eq_true_of_le p1, show Nat.beq (Nat.div tg 2) esz = true by rw [show Nat.div tg 2 = esz from p2]; exact Nat.beq_refl _]
  exact K.fN_eq (off + i * esz) fun o => g (.ptr id o)⟩
instance stp_idxA {esz id off n : Nat} {i : Nat} {s : Prop} [q : NN x i s] : Stp (K.idxAK n esz (.ptr id off) (.int k x) g) Q (Sd (s ∧ i < n) (Ok (g (.ptr id (off + i * esz))) Q)) := ⟨fun p => by
  obtain ⟨⟨p0, p1⟩, p3⟩ := p
  rw [q.eq p0]
  refine .eq ?_ p3
  show K.req (Nat.ble (Nat.succ i) n) (K.fN (Nat.add off (Nat.mul i esz)) fun o => g (.ptr id o)) = _
  rw [Nat.ble_eq_true_of_le p1]
  exact K.fN_eq (off + i * esz) fun o => g (.ptr id o)⟩
instance stp_bldS {ps : List (Nat × AV)} {fs : List (Nat × Nat × Nat × Bool)} {z : List AV} [a : FS c t fs] [e : ZL c t z] : Stp (K.bldSK c t ps g) Q (Lk (fillStruct fs z ps) fun l => Ok (g (.agg l)) Q) := ⟨fun p => by
  obtain ⟨l, h1, h2⟩ := p.out
  refine .eq (K.bldSK_of (l := l) fun f => ?_) h2
  rw [a.eq, e.eq]
  exact fillSK_of ps z l f h1⟩
end
end Am

namespace Am
open Go
theorem repl_one (n : Nat) (v : AV) : repl n [v] = List.replicate n v := by
  induction n with
  | zero => rfl
  | succ n ih => simp only [repl, ih, List.replicate_succ]; rfl
section
variable {c : Ctx} {k : IntKind} {x y : Int} {t : Nat} {b : Bool} {g : AV → K.KR} {f : AV → H → K.KR} {u : H → K.KR} {h : H} {Q : AV → H → Prop} {L r : List As}
instance stp_asPtr (a o : Nat) (f : Nat → Nat → K.KR) : Stp (K.asPtr (.ptr a o) f) Q (Ok (f a o) Q) := .eq rfl
instance stp_load1 {id off : Nat} {cs : List AV} [e : Hp h L] [q : Pk L id (.a id (.c cs)) r] : Stp (K.load1 h id off g) Q (Lk cs[off]? fun v => Ok (g v) Q) := ⟨fun p => by
  obtain ⟨v, h1, h2⟩ := p.out
  have := K.ldK_holds (c := ⟨.e, .e, .e, .e, .e, .e, .e, .e⟩) (t := 0) (g := g) (e.perm q.perm).head.1.holds (List.getElem?_eq_some_iff.1 h1).1
  refine .eq this ?_
  rw [List.getD_eq_getElem?_getD, h1]
  exact h2⟩
theorem mslK_of' {e esz l n bs : Nat} {z : List AV} (he : ZL c e z) (hb : BY c e bs) (h0 : l ≤ n) (h1 : n * bs ≤ 16777216) (h2 : n ≤ 16777216) :
    K.mslK c e esz (.int .i64 (.ofNat l)) (.int .i64 (.ofNat n)) h f = f (.slice (newCells (repl l z) h).1 0 l (tagOf esz (Nat.beq l n))) (newCells (repl l z) h).2 := by
  show K.req (Nat.ble l n) (K.req (Nat.ble (Nat.mul n (K.bytesOf c e)) 16777216) (K.req (Nat.ble n 16777216) (K.newCells (K.replK l (K.zL c e)) h fun id h => K.fN (tagOf esz (Nat.beq l n)) fun tag => f (.slice id 0 l tag) h))) = _
  rw [Nat.ble_eq_true_of_le h0, show Nat.ble (Nat.mul n (K.bytesOf c e)) 16777216 = true by rw [hb.eq]; exact Nat.ble_eq_true_of_le h1, Nat.ble_eq_true_of_le h2]
  show K.newCells (K.replK l (K.zL c e)) h (fun id h => K.fN (tagOf esz (Nat.beq l n)) fun tag => f (.slice id 0 l tag) h) = _
  rw [K.newCells_eq, K.fN_eq, he.eq, K.replK_eq]
instance stp_msl {e esz n bs : Nat} {v : AV} {s : Prop} [hp : Hp h L] [z : ZL c e [v]] [hb : BY c e bs] [q : NN x n s] :
    Stp (K.mslK c e esz (.int .i64 x) (.int .i64 x) h f) Q (Sd (s ∧ n * bs ≤ 16777216 ∧ n ≤ 16777216) (∀ id h', Hp h' (.a id (.c (List.replicate n v)) :: L) → Ok (f (.slice id 0 n (2 * esz + 1)) h') Q)) := ⟨fun p => by
  obtain ⟨⟨p0, p1, p2⟩, p3⟩ := p
  rw [q.eq p0]
  refine .eq (mslK_of' z hb (Nat.le_refl n) p1 p2) ?_
  have := p3 _ _ (by rw [← repl_one]; exact hp.newC (repl n [v]))
  rw [show Nat.beq n n = true from Nat.beq_refl n]
  exact this⟩
instance (priority := low) stp_msl2 {e esz n bs : Nat} {z : List AV} {s : Prop} [hp : Hp h L] [zz : ZL c e z] [hb : BY c e bs] [q : NN x n s] :
    Stp (K.mslK c e esz (.int .i64 x) (.int .i64 x) h f) Q (Sd (s ∧ n * bs ≤ 16777216 ∧ n ≤ 16777216) (∀ id h', Hp h' (.a id (.c (repl n z)) :: L) → Ok (f (.slice id 0 n (2 * esz + 1)) h') Q)) := ⟨fun p => by
  obtain ⟨⟨p0, p1, p2⟩, p3⟩ := p
  rw [q.eq p0]
  refine .eq (mslK_of' zz hb (Nat.le_refl n) p1 p2) ?_
  have := p3 _ _ (hp.newC (repl n z))
  rw [show Nat.beq n n = true from Nat.beq_refl n]
  exact this⟩
theorem ok_call {run : K.KRun} {fn : Nat} {args : List AV} {R : AV → H → Prop} (e : Ok (run (.fn fn) args h) R) (p : ∀ v h', R v h' → Ok (f v h') Q) : Ok (K.callFK run fn args h f) Q := by
  obtain ⟨v, h', h1, h2⟩ := e
  exact .eq (K.callFK_of h1) (p v h' h2)
end
end Am

namespace Am
open Go
section
variable {c : Ctx} {k : IntKind} {x y : Int} {t : Nat} {b : Bool} {g : AV → K.KR} {f : AV → H → K.KR} {u : H → K.KR} {h : H} {Q : AV → H → Prop} {L r : List As}
theorem ok_loop {σ : Type} {F : (List AV → List Nat → H → K.KR) → List AV → List Nat → H → K.KR} {N : Nat} {vs : List AV} {ms : List Nat} (st : σ → List AV → H → Prop) (m : σ → Nat) (s0 : σ) (hm : m s0 < N) (h0 : st s0 vs h)
    (step : ∀ (self : List AV → List Nat → H → K.KR) (s : σ) (vs : List AV) (h : H), st s vs h → (∀ s' vs' h', m s' < m s → st s' vs' h' → Ok (self vs' ms h') Q) → Ok (F self vs ms h) Q) : Ok (K.loopV N F vs ms h) Q := by
  induction N generalizing s0 vs h with
  | zero => omega
  | succ N ih =>
    show Ok (F (K.loopV N F) vs ms h) Q
    exact step _ s0 vs h h0 fun s' vs' h' hlt hs => ih s' (by omega) hs
theorem Hp.newO {L : List As} (e : Hp h L) (o : AObj) : Hp (h.new o).2 (.a (h.new o).1 (.o o) :: L) :=
  e.new (s := .o o) (Nat.lt_succ_self _) (fun x hx => new_obj_old (by omega)) (new_obj_self _ _)
instance stp_hNew [e : Hp h L] (o : AObj) (w : Nat → H → K.KR) : Stp (K.hNew h o w) Q (∀ id h', Hp h' (.a id (.o o) :: L) → Ok (w id h') Q) :=
  ⟨fun p => .eq (K.hNew_eq h o w) (p _ _ (e.newO o))⟩
theorem Hp.kill {id : Nat} {s : SO} (e : Hp h (.a id s :: r)) : Hp (h.kill id) r := by
  obtain ⟨l0, h1, h2⟩ := e.out
  cases h1 with
  | @a _ _ _ l0 h1 =>
    refine ⟨l0, h1, fun q hq => h2.lt q (List.mem_cons_of_mem _ hq), (List.nodup_cons.1 h2.nd).2, fun q hq => ?_⟩
    have hm : q.1 ∈ l0.map Prod.fst := List.mem_map_of_mem hq
    rw [kill_obj, if_neg (fun hx => (List.nodup_cons.1 h2.nd).1 (by show id ∈ l0.map Prod.fst; rw [← hx]; exact hm))]
    exact h2.rep q (List.mem_cons_of_mem _ hq)
instance stp_unmark1 {id : Nat} {ms : List Nat} [e : Hp h L] [q : Pk L id (.a id (.o .marks)) r] : Stp (K.unmarkK (id :: ms) h u) Q (∀ h', Hp h' r → Ok (K.unmarkK ms h' u) Q) := ⟨fun p => by
  have hp := e.perm q.perm
  refine .eq ?_ (p _ hp.kill)
  show K.opt (K.hObj h id) (fun o => K.asMarks o (K.hUpd h id none fun h => K.unmarkK ms h u)) = _
  rw [K.hObj_eq, show h.obj id = some .marks from hp.head.1, K.opt_some]
  exact K.hKill_eq h id (fun h => K.unmarkK ms h u)⟩
theorem Hp.updO {id : Nat} {s : SO} {o : AObj} (e : Hp h (.a id s :: r)) : Hp (h.upd id o) (.a id (.o o) :: r) := e.upd (Nat.le_refl _) (fun x hx _ => upd_obj_old hx) (upd_obj_self _ _ _)
instance stp_begR {id rr d : Nat} {p0 : Option Code} {en : T AV} [e : Hp h L] [q : Pk L id (.a id (.o (.loop .ready p0 en rr d))) r] : Stp (K.begR id h u) Q (∀ h', Hp h' (.a id (.o (.loop .busy p0 en rr d)) :: r) → Ok (u h') Q) := ⟨fun p => by
  have hp := e.perm q.perm
  exact .eq (K.begR_of hp.head.1) (p _ hp.updO)⟩
theorem finR_of' {l rr d : Nat} {st st' : LoopState} {p p' : Option Code} {en : T AV} {b : Bool} (e : h.obj l = some (.loop st p en rr d)) : K.finR l h st' p' b = .ok (.bool b) (h.upd l (.loop st' p' en rr d)) := by
  unfold K.finR
  rw [K.hObj_eq, e, K.opt_some]
  show K.hUpd h l (some (.loop st' p' en rr d)) _ = _
  rw [K.hUpd_eq]
instance stp_finR {id rr d : Nat} {st st' : LoopState} {p0 p1 : Option Code} {en : T AV} [e : Hp h L] [q : Pk L id (.a id (.o (.loop st p0 en rr d))) r] : Stp (K.finR id h st' p1 b) Q (∀ h', Hp h' (.a id (.o (.loop st' p1 en rr d)) :: r) → Q (.bool b) h') := ⟨fun p => by
  have hp := e.perm q.perm
  exact .of (finR_of' hp.head.1) (p _ hp.updO)⟩
instance stp_opt {α : Type} (o : Option α) (w : α → K.KR) : Stp (K.opt o w) Q (Lk o fun a => Ok (w a) Q) := ⟨fun p => by
  obtain ⟨a, h1, h2⟩ := p.out
  rw [h1]; exact h2⟩
class Ap (x y : List AV) (o : outParam (List AV)) : Prop where
  eq : x ++ y = o
instance ap_nil (y : List AV) : Ap [] y y := ⟨rfl⟩
instance ap_cons (a : AV) (x y o : List AV) [q : Ap x y o] : Ap (a :: x) y (a :: o) := ⟨by rw [List.cons_append, q.eq]⟩
instance stp_callV {run : K.KRun} {fn : Nat} {first cap args o o' : List AV} [a : Ap args cap o] [a' : Ap first o o'] : Stp (K.callVK run (.func (.func fn) first cap) args h f) Q (Ok (K.callFK run fn o' h f) Q) := .eq (by
  show K.retK (run (.fn fn) (K.app first (K.app args cap)) h) f = _
  rw [K.app_eq, K.app_eq, a.eq, a'.eq]; rfl)
theorem ok_callY {run : K.KRun} {l : Nat} {args : List AV} {R : AV → H → Prop} (e : Ok (run (.yield l) args h) R) (p : ∀ v h', R v h' → Ok (f v h') Q) : Ok (K.callVK run (.yield l) args h f) Q := by
  obtain ⟨v, h', h1, h2⟩ := e
  exact .eq (show K.callVK run (.yield l) args h f = f v h' from K.retK_of h1) (p v h' h2)
theorem ok_yield {tb : T K.FnC} {ty : T K.RnC} {n l rr d : Nat} {args : List AV} {st : LoopState} {p : Option Code} {en : T AV} {Y : K.RnF} {s : List As} [e : Hp h L] [q : Pk L l (.a l (.o (.loop st p en rr d))) s] (hy : ty.get rr = some ⟨Y⟩)
    (hh : Ok (Y (K.run tb ty n) l args en h) Q) : Ok (K.run tb ty (n + 1) (.yield l) args h) Q := .eq (K.run_yield (e.perm q.perm).head.1 hy) hh
theorem ok_rng {run : K.KRun} {fn l rr d : Nat} {cap : List AV} {kn kr : H → K.KR} {ke : Nat → H → K.KR} {en : T AV} {R : List As → Prop} (hx : c.ext.get fn = none)
    (e : Ok (run (.fn fn) (.yield l :: cap) h) fun _ h' => ∃ s, R s ∧ Hp h' (.a l (.o (.loop .ready none en rr d)) :: s))
    (p : ∀ h' s, R s → Hp h' s → Ok (kn h') Q) : Ok (K.rngK c run (.func (.func fn) [] cap) l h kn kr ke) Q := by
  obtain ⟨v, h1, e1, s, e2, e3⟩ := e
  exact .eq (K.rngK_of hx e1 e3.head.1) (p _ s e2 (Hp.updO (o := .loop .exhausted none en rr d) e3).tail)
theorem ok_rng_ret {run : K.KRun} {fn l rr d : Nat} {cap : List AV} {kn kr : H → K.KR} {ke : Nat → H → K.KR} {en : T AV} {R : Option Code → List As → Prop} (hx : c.ext.get fn = none)
    (e : Ok (run (.fn fn) (.yield l :: cap) h) fun _ h' => ∃ st j s, R j s ∧ (st = .ready ∧ j = none ∨ st = .done ∧ (j = some .ret ∨ ∃ i, j = some (.exit i))) ∧ Hp h' (.a l (.o (.loop st j en rr d)) :: s))
    (p : ∀ h' s, R none s → Hp h' s → Ok (kn h') Q) (p1 : ∀ h' s, R (some .ret) s → Hp h' s → Ok (kr h') Q) (p2 : ∀ i h' s, R (some (.exit i)) s → Hp h' s → Ok (ke i h') Q) : Ok (K.rngK c run (.func (.func fn) [] cap) l h kn kr ke) Q := by
  obtain ⟨v, h1, e1, st, j, s, e2, e4, e3⟩ := e
  have gen : K.rngK c run (.func (.func fn) [] cap) l h kn kr ke = K.endK l h1 kn kr ke := by
    show Option.rec (motive := fun _ => K.KR) (K.retK (run (.fn fn) (K.app [] (.yield l :: cap)) h) fun _ h => K.endK l h kn kr ke) (fun _ => .bad) (c.ext.get fn) = _
    rw [hx]
    show K.retK (run (.fn fn) (K.app [] (.yield l :: cap)) h) _ = _
    rw [K.app_eq, List.nil_append, K.retK_of e1]
  have hn : Hp (h1.upd l (.loop .exhausted j en rr d)) s := (Hp.updO (o := .loop .exhausted j en rr d) e3).tail
  refine .eq gen ?_
  unfold K.endK
  rw [K.hObj_eq, show h1.obj l = _ from e3.head.1, K.opt_some]
  rcases e4 with ⟨rfl, rfl⟩ | ⟨rfl, rfl | ⟨i, rfl⟩⟩
  · refine .eq (K.hUpd_eq h1 l (.loop .exhausted none en rr d) kn) (p _ s e2 hn)
  · refine .eq (K.hUpd_eq h1 l (.loop .exhausted (some .ret) en rr d) kr) (p1 _ s e2 hn)
  · refine .eq (K.hUpd_eq h1 l (.loop .exhausted (some (.exit i)) en rr d) (ke i)) (p2 i _ s e2 hn)
end
end Am

namespace Am
open Go
abbrev w64 (n : Nat) : AV := .int .u64 (.ofNat n)
abbrev wi (n : Int) : AV := .int .i64 n
abbrev w8 (n : Nat) : AV := .int .u8 (.ofNat n)
class Ec {α : Type} (e : α → AV) (v : AV) (a : outParam α) (s : outParam Prop) : Prop where
  eq : s → e a = v
instance ec_w64 {x : Int} {m : Nat} {s : Prop} [q : NN x m s] : Ec w64 (.int .u64 x) m s := ⟨fun h => by rw [q.eq h]; rfl⟩
instance ec_w8 {x : Int} {m : Nat} {s : Prop} [q : NN x m s] : Ec w8 (.int .u8 x) m s := ⟨fun h => by rw [q.eq h]; rfl⟩
instance ec_wi {x z : Int} [q : NI x z] : Ec wi (.int .i64 x) z True := ⟨fun h => by rw [q.eq]⟩
instance : NN 0 0 True := ⟨fun _ => rfl⟩
instance : NN 1 1 True := ⟨fun _ => rfl⟩
instance : NN 2 2 True := ⟨fun _ => rfl⟩
instance : NN 3 3 True := ⟨fun _ => rfl⟩
instance : NN 4 4 True := ⟨fun _ => rfl⟩
instance : NN 5 5 True := ⟨fun _ => rfl⟩
instance : NN 6 6 True := ⟨fun _ => rfl⟩
instance : NN 7 7 True := ⟨fun _ => rfl⟩
instance : NN 8 8 True := ⟨fun _ => rfl⟩
instance : NN 9 9 True := ⟨fun _ => rfl⟩
instance : NN 10 10 True := ⟨fun _ => rfl⟩
instance : NN 11 11 True := ⟨fun _ => rfl⟩
instance : NN 12 12 True := ⟨fun _ => rfl⟩
instance : NN 13 13 True := ⟨fun _ => rfl⟩
instance : NN 14 14 True := ⟨fun _ => rfl⟩
instance : NN 15 15 True := ⟨fun _ => rfl⟩
instance : NN 16 16 True := ⟨fun _ => rfl⟩
instance : NN 32 32 True := ⟨fun _ => rfl⟩
instance : NN 64 64 True := ⟨fun _ => rfl⟩
instance : NN 100 100 True := ⟨fun _ => rfl⟩
instance : NN 128 128 True := ⟨fun _ => rfl⟩
instance : NN 255 255 True := ⟨fun _ => rfl⟩
instance : NN 256 256 True := ⟨fun _ => rfl⟩
instance : NN 512 512 True := ⟨fun _ => rfl⟩
instance : NN 65535 65535 True := ⟨fun _ => rfl⟩
instance : NN 65536 65536 True := ⟨fun _ => rfl⟩
instance : NN 4294967295 4294967295 True := ⟨fun _ => rfl⟩
instance : NN 4294967296 4294967296 True := ⟨fun _ => rfl⟩
instance : NN 18446744073709551615 18446744073709551615 True := ⟨fun _ => rfl⟩
instance : NN 18446744073709551616 18446744073709551616 True := ⟨fun _ => rfl⟩
section
variable {c : Ctx} {k : IntKind} {x y : Int} {t : Nat} {b : Bool} {g : AV → K.KR} {f : AV → H → K.KR} {u : H → K.KR} {h : H} {Q : AV → H → Prop} {L r : List As} {α : Type}
theorem getD_of {α : Type} [Inhabited α] {xs : List α} {i : Nat} (h : i < xs.length) : xs[i]? = some (xs.getD i default) := by
  rw [List.getD_eq_getElem?_getD, List.getElem?_eq_getElem h]; rfl
instance (priority := high) stp_ldM [Inhabited α] {id off : Nat} {e : α → AV} {xs : List α} [hp : Hp h L] [q : Pk L id (.a id (.c (xs.map e))) r] : Stp (K.ldK c t (.ptr id off) h g) Q (Sd (off < xs.length) (Ok (g (e (xs.getD off default))) Q)) := ⟨fun p => by
  refine .eq (K.ldK_holds (hp.perm q.perm).head.1.holds (by simpa using p.s)) ?_
  rw [List.getD_eq_getElem?_getD, List.getElem?_map, getD_of p.s]
  exact p.p⟩
instance (priority := high) stp_stM {id off : Nat} {e : α → AV} {xs : List α} {v : AV} {a : α} {s : Prop} [hp : Hp h L] [q : Pk L id (.a id (.c (xs.map e))) r] [z : IsC v] [ec : Ec e v a s] :
    Stp (K.stK (.ptr id off) v h u) Q (Sd (s ∧ off < xs.length) (∀ h', Hp h' (.a id (.c ((xs.set off a).map e)) :: r) → Ok (u h') Q)) := ⟨fun p => by
  obtain ⟨h', h1, h2⟩ := (hp.perm q.perm).put (off := off) (l := [v]) (by have := p.s.2; simp; omega) (by simp [allB, z.is])
  rw [putL_set (by simpa using p.s.2), ← ec.eq p.s.1, ← List.map_set] at h2
  exact .eq (stK_cell h1) (p.p h' h2)⟩
instance (priority := high) stp_msl64 {e esz n bs : Nat} {s : Prop} [hp : Hp h L] [z : ZL c e [w64 0]] [hb : BY c e bs] [q : NN x n s] :
    Stp (K.mslK c e esz (.int .i64 x) (.int .i64 x) h f) Q (Sd (s ∧ n * bs ≤ 16777216 ∧ n ≤ 16777216) (∀ id h', Hp h' (.a id (.c ((List.replicate n 0).map w64)) :: L) → Ok (f (.slice id 0 n (2 * esz + 1)) h') Q)) := ⟨fun p => by
  refine (stp_msl (v := w64 0) (s := s) (n := n) (bs := bs)).to ⟨p.s, fun id h' hp => p.p id h' ?_⟩
  rw [List.map_replicate]; exact hp⟩
instance (priority := high) stp_idxS1 {id n tg : Nat} {i : Nat} {s : Prop} [q : NN x i s] : Stp (K.idxSK 1 (.slice id 0 n tg) (.int k x) g) Q (Sd (s ∧ i < n ∧ tg / 2 = 1) (Ok (g (.ptr id i)) Q)) := ⟨fun p => by
  have := (stp_idxS (esz := 1) (off := 0) (Q := Q) (g := g) (k := k) (tg := tg) (n := n) (id := id) (q := q)).to
  rw [Nat.zero_add, Nat.mul_one] at this
  exact this p⟩
instance (priority := high) stp_idxS0 {esz id n tg : Nat} {i : Nat} {s : Prop} [q : NN x i s] : Stp (K.idxSK esz (.slice id 0 n tg) (.int k x) g) Q (Sd (s ∧ i < n ∧ tg / 2 = esz) (Ok (g (.ptr id (i * esz))) Q)) := ⟨fun p => by
  have := (stp_idxS (esz := esz) (off := 0) (Q := Q) (g := g) (k := k) (tg := tg) (n := n) (id := id) (q := q)).to
  rw [Nat.zero_add] at this
  exact this p⟩
theorem app_grow {e esz need bs : Nat} {X : K.KR} [hb : BY c e bs] (h1 : need ≤ 16777216) (h2 : need * bs ≤ 16777216) : K.growK e esz need c X = X := by
  unfold K.growK
  rw [Nat.ble_eq_true_of_le h1]
  show K.req (Nat.ble (Nat.mul need (K.bytesOf c e)) 16777216) X = X
  rw [hb.eq, show Nat.ble (Nat.mul need bs) 16777216 = true from Nat.ble_eq_true_of_le h2]; rfl
theorem srcK_slice {esz id off n tag : Nat} {l : List AV} {w : List AV → K.KR} (ht : tag / 2 = esz) (hl : h.loads id off (n * esz) = some l) : K.srcK esz (.slice id off n tag) h w = w l := by
  show K.req (Nat.beq (Nat.div tag 2) esz) (K.loads h id off (Nat.mul n esz) w) = _
  rw [show Nat.beq (Nat.div tag 2) esz = true by rw [show Nat.div tag 2 = esz from ht]; exact Nat.beq_refl _]
  exact K.loads_of hl
theorem appR_eq {esz n i : Nat} : K.appR esz n i h f = f (.slice i 0 n (2 * esz)) h := by
  unfold K.appR
  rw [K.fN_eq, K.fN_eq]; rfl
theorem rep_loads {cs : List AV} {id off n : Nat} (e : Rep (.c cs) (h.obj id)) (hb : off + n ≤ cs.length) : h.loads id off n = some ((cs.drop off).take n) := e.holds.loads hb
theorem appK_step {e esz bs xid xo m tx ln : Nat} {s : AV} [hb : BY c e bs] {xs : List AV} (hs : ∀ X : Nat → K.KR, K.lenK s X = X ln) (hm : 0 < m) (ht : tx / 2 = esz) (hx : h.loads xid xo (m * esz) = some xs) (b1 : ln + m ≤ 16777216) (b2 : (ln + m) * bs ≤ 16777216) :
    K.appK c e esz s (.slice xid xo m tx) h f = K.appS esz ln m s (.slice xid xo m tx) xs h f := by
  show K.lenK s (fun ln => Bool.rec (motive := fun _ => K.KR) (K.growK e esz (Nat.add ln m) c (K.srcK esz (.slice xid xo m tx) h fun l => K.appS esz ln m s (.slice xid xo m tx) l h f)) (K.app0 esz s (f s h)) (Nat.beq m 0)) = _
  rw [hs, show Nat.beq m 0 = false by cases m with | zero => omega | succ m => rfl]
  show K.growK e esz (Nat.add ln m) c (K.srcK esz (.slice xid xo m tx) h fun l => K.appS esz ln m s (.slice xid xo m tx) l h f) = _
  have e1 : ∀ X : K.KR, K.growK e esz (Nat.add ln m) c X = X := fun X => app_grow (bs := bs) b1 b2
  rw [e1, srcK_slice ht hx]
theorem newOf_hp {esz : Nat} {xid xo m tx : Nat} {xs cs : List AV} {w : Nat → H → K.KR} [hp : Hp h L] (hr : Rep (.c cs) (h.obj xid)) (ht : tx / 2 = esz) (hx : h.loads xid xo (m * esz) = some xs)
    (p : ∀ id h', Hp h' (.a id (.c xs) :: L) → Ok (w id h') Q) : Ok (K.newOf esz (.slice xid xo m tx) xs h w) Q := by
  refine .eq K.newOf_eq ?_
  cases hw : wholeOf esz (.slice xid xo m tx) h with
  | none => exact p _ _ (hp.newC xs)
  | some q =>
    obtain ⟨a, t⟩ := q
    have key : a = xs.length ∧ ∀ k, k < xs.length → t.get k = xs[k]? := by
      obtain ⟨t0, h1, h2⟩ := hr
      unfold wholeOf at hw
      simp only [h1] at hw
      split at hw
      · rename_i a1 a2 a3 e1 e2 e3
        have e3 := AObj.cells.inj (Option.some.inj e3)
        obtain ⟨rfl, rfl⟩ := e3
        split at hw
        case h_2 => cases hw
        rename_i e2
        have hq := Prod.mk.inj (Option.some.inj hw)
        obtain ⟨rfl, rfl⟩ := hq
        rw [rep_loads ⟨t0, h1, h2⟩ (by have := Nat.eq_of_beq_eq_true e1; have := Nat.eq_of_beq_eq_true e2; omega)] at hx
        have e1 := Nat.eq_of_beq_eq_true e1
        have e2 := Nat.eq_of_beq_eq_true e2
        subst e1
        rw [← e2] at hx
        have hx := Option.some.inj hx
        rw [List.drop_zero, List.take_length] at hx
        subst hx
        exact ⟨rfl, h2⟩
      · cases hw
    obtain ⟨rfl, h2⟩ := key
    exact p _ _ (hp.new (s := .c xs) (Nat.lt_succ_self _) (fun x hx => new_obj_old (by omega)) ⟨t, new_obj_self _ _, h2⟩)
instance stp_app_nil {e esz bs xid m tx : Nat} {cs : List AV} [hp : Hp h L] [hb : BY c e bs] [qx : Pk L xid (.a xid (.c cs)) r] :
    Stp (K.appK c e esz .nilSlice (.slice xid 0 m tx) h f) Q (Sd (0 < m ∧ tx / 2 = esz ∧ m * esz = cs.length ∧ m ≤ 16777216 ∧ m * bs ≤ 16777216) (∀ id h', Hp h' (.a id (.c cs) :: L) → Ok (f (.slice id 0 m (2 * esz)) h') Q)) := ⟨fun p => by
  obtain ⟨⟨p1, p2, p3, p4, p5⟩, p6⟩ := p
  have hr := (hp.perm qx.perm).head.1
  have hl : h.loads xid 0 (m * esz) = some cs := by rw [rep_loads hr (by omega), List.drop_zero, p3, List.take_length]
  refine .eq (appK_step (bs := bs) (ln := 0) (xs := cs) (fun X => rfl) p1 p2 hl (by omega) (by rw [Nat.zero_add]; exact p5)) ?_
  show Ok (K.newOf esz (.slice xid 0 m tx) cs h fun i h => K.appR esz (Nat.add 0 m) i h f) Q
  rw [show Nat.add 0 m = m from Nat.zero_add m]
  refine newOf_hp hr p2 hl fun id h' q => ?_
  exact .eq appR_eq (p6 id h' q)⟩
theorem appS_even {esz ln m id tg : Nat} {x : AV} {cs xs : List AV} {t0 : T AV} (ht : tg = 2 * esz) (h1 : h.obj id = some (.cells cs.length t0)) (hn : ln * esz = cs.length) (hc : allB AV.isCell xs = true) :
    K.appS esz ln m (.slice id 0 ln tg) x xs h f = f (.slice h.next 0 (ln + m) (2 * esz)) ((h.kill id).new (.cells (ln * esz + xs.length) (setCells t0 (ln * esz) xs))).2 := by
  subst ht
  have e1 : Nat.beq (Nat.div (2 * esz) 2) esz = true := by rw [show Nat.div (2 * esz) 2 = esz from by show 2 * esz / 2 = esz; omega]; exact Nat.beq_refl _
  have e2 : (2 * esz) % 2 = 0 := by omega
  have e3 : isExact (2 * esz) = false := by unfold isExact; rw [e2]; rfl
  have q : K.appS esz ln m (.slice id 0 ln (2 * esz)) x xs h f = K.req (Nat.beq (Nat.div (2 * esz) 2) esz) (Bool.rec (motive := fun _ => K.KR) (K.appOut esz ln m id 0 xs h f) (Bool.rec (motive := fun _ => K.KR) (K.appEx esz ln m id 0 xs h f) (K.wholeK esz x h (fun m' t => K.hNew h (.cells m' t) fun i h => K.appR esz (Nat.add ln m) i h f) (K.appEx esz ln m id 0 xs h f)) (Nat.beq ln 0)) (isExact (2 * esz))) := rfl
  rw [q, e1, e3]
  show K.appOut esz ln m id 0 xs h f = _
  unfold K.appOut
  rw [K.hObj_eq, h1, K.opt_some]
  show K.req (Nat.ble (Nat.add 0 (Nat.mul ln esz)) cs.length) (K.req (allB AV.isCell xs) (K.baseK 0 (Nat.mul ln esz) t0 fun t => K.setCells xs t (Nat.mul ln esz) fun t => K.hUpd h id none fun h => K.fN (Nat.add (Nat.mul ln esz) (K.len xs)) fun m' => K.hNew h (.cells m' t) fun i h => K.appR esz (Nat.add ln m) i h f)) = _
  rw [hc, show Nat.ble (Nat.add 0 (Nat.mul ln esz)) cs.length = true from Nat.ble_eq_true_of_le (by show 0 + ln * esz ≤ cs.length; omega)]
  show K.setCells xs t0 (Nat.mul ln esz) _ = _
  rw [K.setCells_eq, K.hKill_eq, K.fN_eq, K.hNew_eq, appR_eq, K.len_eq]
  rfl
instance stp_app {e esz bs id ln tg xid m tx : Nat} {cs xs : List AV} {r1 r2 : List As} [hp : Hp h L] [hb : BY c e bs] [qs : Pk L id (.a id (.c cs)) r1] [qx : Pk r1 xid (.a xid (.c xs)) r2] :
    Stp (K.appK c e esz (.slice id 0 ln tg) (.slice xid 0 m tx) h f) Q (Sd (0 < m ∧ tx / 2 = esz ∧ tg = 2 * esz ∧ ln * esz = cs.length ∧ m * esz = xs.length ∧ allB AV.isCell xs = true ∧ ln + m ≤ 16777216 ∧ (ln + m) * bs ≤ 16777216)
      (∀ id h', Hp h' (.a id (.c (cs ++ xs)) :: r1) → Ok (f (.slice id 0 (ln + m) (2 * esz)) h') Q)) := ⟨fun p => by
  obtain ⟨⟨p1, p2, p3, p4, p5, p6, p7, p8⟩, p9⟩ := p
  have hq := hp.perm qs.perm
  have hr := hq.head.1
  have hrx := (hq.tail.perm qx.perm).head.1
  have hl : h.loads xid 0 (m * esz) = some xs := by rw [rep_loads hrx (by omega), List.drop_zero, p5, List.take_length]
  refine .eq (appK_step (bs := bs) (ln := ln) (xs := xs) (fun X => rfl) p1 p2 hl p7 p8) ?_
  obtain ⟨t0, h1, h2⟩ := hr
  refine .eq (appS_even (f := f) (m := m) (x := .slice xid 0 m tx) p3 h1 p4 p6) (p9 _ _ ?_)
  have hk := hq.kill
  refine hk.new (h' := ((h.kill id).new _).2) (s := .c (cs ++ xs)) (Nat.lt_succ_self _) (fun x hx => new_obj_old (by omega)) ⟨_, by rw [new_obj_self, List.length_append, p4], fun k hk => ?_⟩
  rw [get_setCells]
  rw [List.length_append] at hk
  by_cases hkk : k < cs.length
  · rw [if_neg (by omega), List.getElem?_append_left hkk]; exact h2 k hkk
  · rw [if_pos (by omega), List.getElem?_append_right (by omega)]⟩
end
end Am

namespace Am
open Go
class Pt (c : Ctx) (t : Nat) : Prop where
  eq : ∃ ti e, c.ty.get t = some ti ∧ ti.d = .ptr e
class Sc (c : Ctx) (t : Nat) (esz : outParam Nat) : Prop where
  eq : ∃ ti e, c.ty.get t = some ti ∧ ti.d = .slice e esz
section
variable {c : Ctx} {k : IntKind} {x y : Int} {t : Nat} {b : Bool} {g : AV → K.KR} {f : AV → H → K.KR} {u : H → K.KR} {h : H} {Q : AV → H → Prop} {L r : List As} {α : Type}
theorem eqOp_pn [p : Pt c t] {X Y : Operand} {i o : Nat} : eqOp c t X Y (.ptr i o) .nilPtr = some false := by
  obtain ⟨ti, e, e1, e2⟩ := p.eq
  unfold eqOp
  rw [e1]
  simp only [e2]
  rfl
theorem eqOp_nn [p : Pt c t] {X Y : Operand} : eqOp c t X Y .nilPtr .nilPtr = some true := by
  obtain ⟨ti, e, e1, e2⟩ := p.eq
  unfold eqOp
  rw [e1]
  simp only [e2]
  rfl
instance stp_eqPN [p : Pt c t] (i o : Nat) : Stp (K.eqK (K.binV c .eql t b (.ptr i o) .nilPtr) (.ptr i o) .nilPtr g) Q (Ok (g (.bool false)) Q) := .eq (by
  show K.oK (K.binV c .eql t b (.ptr i o) .nilPtr) g = _
  have e : K.binV c .eql t b (.ptr i o) .nilPtr = some (.bool false) := by
    show (eqOp c t _ _ (.ptr i o) .nilPtr).map AV.bool = _
    rw [eqOp_pn]; rfl
  rw [e]; exact K.oK_some _)
instance stp_eqNN [p : Pt c t] : Stp (K.eqK (K.binV c .eql t b .nilPtr .nilPtr) .nilPtr .nilPtr g) Q (Ok (g (.bool true)) Q) := .eq (by
  show K.oK (K.binV c .eql t b .nilPtr .nilPtr) g = _
  have e : K.binV c .eql t b .nilPtr .nilPtr = some (.bool true) := by
    show (eqOp c t _ _ .nilPtr .nilPtr).map AV.bool = _
    rw [eqOp_nn]; rfl
  rw [e]; exact K.oK_some _)
instance stp_nePN [p : Pt c t] (i o : Nat) : Stp (K.neK (K.binV c .neq t b (.ptr i o) .nilPtr) (.ptr i o) .nilPtr g) Q (Ok (g (.bool true)) Q) := .eq (by
  show K.oK (K.binV c .neq t b (.ptr i o) .nilPtr) g = _
  have e : K.binV c .neq t b (.ptr i o) .nilPtr = some (.bool true) := by
    show (eqOp c t _ _ (.ptr i o) .nilPtr).map (fun r => AV.bool (!r)) = _
    rw [eqOp_pn]; rfl
  rw [e]; exact K.oK_some _)
instance stp_neNN [p : Pt c t] : Stp (K.neK (K.binV c .neq t b .nilPtr .nilPtr) .nilPtr .nilPtr g) Q (Ok (g (.bool false)) Q) := .eq (by
  show K.oK (K.binV c .neq t b .nilPtr .nilPtr) g = _
  have e : K.binV c .neq t b .nilPtr .nilPtr = some (.bool false) := by
    show (eqOp c t _ _ .nilPtr .nilPtr).map (fun r => AV.bool (!r)) = _
    rw [eqOp_nn]; rfl
  rw [e]; exact K.oK_some _)
theorem tagOf_ex {esz tg : Nat} (h : tg / 2 = esz) : tagOf esz (isExact tg) = tg := by
  unfold tagOf isExact
  have : tg % 2 = 0 ∨ tg % 2 = 1 := by omega
  rcases this with e | e <;> rw [e] <;> simp <;> omega
theorem slc_of {esz : Nat} [s : Sc c t esz] {id off n tg : Nat} {lo hi : Option AV} {a z : Option Nat} (h1 : ∀ w : Option Nat → K.KR, K.natO lo w = w a) (h2 : ∀ w : Option Nat → K.KR, K.natO hi w = w z) (ht : tg / 2 = esz) (h3 : z.getD n ≤ n) (h4 : a.getD 0 ≤ z.getD n) :
    K.slcK c t (.slice id off n tg) lo hi none h g = g (.slice id (off + a.getD 0 * esz) (z.getD n - a.getD 0) (tagOf esz (isExact tg && (z.getD n).beq n))) := by
  obtain ⟨ti, e, e1, e2⟩ := s.eq
  show K.natO lo (fun a => K.natO hi fun z => K.natO none fun m => K.oK (sliceA c t (.slice id off n tg) a z m h) g) = _
  rw [h1, h2]
  show K.oK (sliceA c t (.slice id off n tg) a z none h) g = _
  have : sliceA c t (.slice id off n tg) a z none h = some (.slice id (off + a.getD 0 * esz) (z.getD n - a.getD 0) (tagOf esz (isExact tg && (z.getD n).beq n))) := by
    unfold sliceA
    rw [e1]
    simp only [e2]
    unfold sliceSlice
    simp only
    rw [show (tg / 2).beq esz = true by rw [ht]; exact Nat.beq_refl _, Nat.ble_eq_true_of_le h3, Nat.ble_eq_true_of_le h4]
  rw [this]; exact K.oK_some _
instance stp_slc_lo {esz id off n tg a : Nat} {s0 : Prop} [s : Sc c t esz] [q : NN x a s0] : Stp (K.slcK c t (.slice id off n tg) (some (.int k x)) none none h g) Q (Sd (s0 ∧ tg / 2 = esz ∧ a ≤ n) (Ok (g (.slice id (off + a * esz) (n - a) tg)) Q)) := ⟨fun p => by
  obtain ⟨⟨p0, p1, p2⟩, p3⟩ := p
  rw [q.eq p0]
  refine .eq (slc_of (a := some a) (z := none) (fun w => rfl) (fun w => rfl) p1 (Nat.le_refl n) p2) ?_
  show Ok (g (.slice id (off + a * esz) (n - a) (tagOf esz (isExact tg && n.beq n)))) Q
  rw [show n.beq n = true from Nat.beq_refl n, Bool.and_true, tagOf_ex p1]
  exact p3⟩
instance stp_slc_hi {esz id off n tg z : Nat} {s0 : Prop} [s : Sc c t esz] [q : NN x z s0] : Stp (K.slcK c t (.slice id off n tg) none (some (.int k x)) none h g) Q (Sd (s0 ∧ tg / 2 = esz ∧ z ≤ n) (∀ tg', tg' / 2 = esz → (z = n → tg' = tg) → Ok (g (.slice id off z tg')) Q)) := ⟨fun p => by
  obtain ⟨⟨p0, p1, p2⟩, p3⟩ := p
  rw [q.eq p0]
  refine .eq (slc_of (a := none) (z := some z) (fun w => rfl) (fun w => rfl) p1 p2 (Nat.zero_le _)) ?_
  show Ok (g (.slice id (off + 0 * esz) (z - 0) (tagOf esz (isExact tg && z.beq n)))) Q
  rw [Nat.zero_mul, Nat.add_zero, Nat.sub_zero]
  refine p3 _ ?_ fun e => ?_
  · unfold tagOf; cases isExact tg && z.beq n <;> simp <;> omega
  · rw [e, show n.beq n = true from Nat.beq_refl n, Bool.and_true, tagOf_ex p1]⟩
instance stp_slc_lh {esz id off n tg a z : Nat} {s0 s1 : Prop} [s : Sc c t esz] [q : NN x a s0] [q1 : NN y z s1] : Stp (K.slcK c t (.slice id off n tg) (some (.int k x)) (some (.int k y)) none h g) Q (Sd (s0 ∧ s1 ∧ tg / 2 = esz ∧ a ≤ z ∧ z ≤ n) (∀ tg', tg' / 2 = esz → (z = n → tg' = tg) → Ok (g (.slice id (off + a * esz) (z - a) tg')) Q)) := ⟨fun p => by
  obtain ⟨⟨p0, p0', p1, p2, p2'⟩, p3⟩ := p
  rw [q.eq p0, q1.eq p0']
  refine .eq (slc_of (a := some a) (z := some z) (fun w => rfl) (fun w => rfl) p1 p2' p2) ?_
  show Ok (g (.slice id (off + a * esz) (z - a) (tagOf esz (isExact tg && z.beq n)))) Q
  refine p3 _ ?_ fun e => ?_
  · unfold tagOf; cases isExact tg && z.beq n <;> simp <;> omega
  · rw [e, show n.beq n = true from Nat.beq_refl n, Bool.and_true, tagOf_ex p1]⟩
theorem repl_flat {α : Type} (e : α → List AV) (a : α) (n : Nat) : repl n (e a) = (List.replicate n a).flatMap e := by
  induction n with
  | zero => rfl
  | succ n ih => rw [List.replicate_succ, List.flatMap_cons, ← ih]; rfl
class Es {α : Type} (e : α → List AV) (n : outParam Nat) : Prop where
  len : 0 < n ∧ ∀ a, (e a).length = n ∧ allB AV.isCell (e a) = true
class Pl (off esz : Nat) (i o : outParam Nat) : Prop where
  eq : off = i * esz + o
instance pl_0 (i esz : Nat) : Pl (i * esz) esz i 0 := ⟨rfl⟩
instance (priority := high) pl_2 (a b esz : Nat) : Pl (a * esz + b * esz) esz (a + b) 0 := ⟨by rw [Nat.add_mul]; rfl⟩
instance pl_o (off esz i o o' o2 : Nat) [p : Pl off esz i o] [a : AddL o o' o2] : Pl (off + o') esz i o2 := ⟨by rw [p.eq, ← a.eq]; omega⟩
theorem fm_len {e : α → List AV} {n : Nat} (hn : ∀ a, (e a).length = n) (xs : List α) : (xs.flatMap e).length = xs.length * n := by
  induction xs with
  | nil => simp
  | cons a xs ih => rw [List.flatMap_cons, List.length_append, ih, hn, List.length_cons, Nat.succ_mul]; omega
theorem fm_get {e : α → List AV} {n : Nat} (hn : ∀ a, (e a).length = n) : ∀ (xs : List α) (i o : Nat) (a : α), xs[i]? = some a → o < n → (xs.flatMap e)[i * n + o]? = (e a)[o]?
  | [], i, o, a, h, _ => by simp at h
  | b :: xs, 0, o, a, h, ho => by
    have h : b = a := by simpa using h
    subst h
    rw [List.flatMap_cons, Nat.zero_mul, Nat.zero_add, List.getElem?_append_left (by rw [hn]; exact ho)]
  | b :: xs, i + 1, o, a, h, ho => by
    rw [List.flatMap_cons, List.getElem?_append_right (by rw [hn, Nat.succ_mul]; omega), hn, show (i + 1) * n + o - n = i * n + o by rw [Nat.succ_mul]; omega]
    exact fm_get hn xs i o a (by simpa using h) ho
theorem fm_slice {e : α → List AV} {n : Nat} (hn : ∀ a, (e a).length = n) {xs : List α} {i : Nat} {a : α} (h : xs[i]? = some a) {o m : Nat} (hm : o + m ≤ n) : ((xs.flatMap e).drop (i * n + o)).take m = ((e a).drop o).take m := by
  apply List.ext_getElem?
  intro k
  rw [List.getElem?_take, List.getElem?_take, List.getElem?_drop, List.getElem?_drop]
  split
  · rw [Nat.add_assoc]; exact fm_get hn xs i (o + k) a h (by omega)
  · rfl
theorem fm_put {e : α → List AV} {n : Nat} (hn : ∀ a, (e a).length = n) {xs : List α} {i : Nat} {a a' : α} (h : xs[i]? = some a) {o : Nat} {l : List AV} (hm : o + l.length ≤ n) (he : e a' = putL (e a) o l) : putL (xs.flatMap e) (i * n + o) l = (xs.set i a').flatMap e := by
  have hi : i < xs.length := (List.getElem?_eq_some_iff.1 h).1
  have hl : i * n + o + l.length ≤ (xs.flatMap e).length := by
    rw [fm_len hn]
    have : (i + 1) * n ≤ xs.length * n := Nat.mul_le_mul_right _ hi
    rw [Nat.succ_mul] at this
    omega
  apply List.ext_getElem?
  intro k
  rw [putL_get hl]
  by_cases hk : k < xs.length * n
  · have hn0 : 0 < n := by
      rcases Nat.eq_zero_or_pos n with e0 | e0
      · rw [e0, Nat.mul_zero] at hk; omega
      · exact e0
    have hj : k / n < xs.length := (Nat.div_lt_iff_lt_mul hn0).2 hk
    have hk2 : k = k / n * n + k % n := by rw [Nat.mul_comm]; exact (Nat.div_add_mod k n).symm
    have hkm : k % n < n := Nat.mod_lt _ hn0
    by_cases hij : k / n = i
    · have r1 : ((xs.set i a').flatMap e)[k]? = (e a')[k % n]? := by
        conv => lhs; rw [hk2, hij]
        exact fm_get hn _ i _ a' (by rw [List.getElem?_set_self hi]) hkm
      have r2 : (xs.flatMap e)[k]? = (e a)[k % n]? := by
        conv => lhs; rw [hk2, hij]
        exact fm_get hn _ i _ a h hkm
      rw [r1, r2, he, putL_get (by rw [hn]; exact hm)]
      rw [hij] at hk2
      by_cases hc : o ≤ k % n ∧ k % n < o + l.length
      · rw [if_pos hc, if_pos (by omega)]
        congr 1; omega
      · rw [if_neg hc, if_neg (by omega)]
    · have r1 : ((xs.set i a').flatMap e)[k]? = (e (xs[k / n]'hj))[k % n]? := by
        conv => lhs; rw [hk2]
        exact fm_get hn _ _ _ _ (by rw [List.getElem?_set_ne (fun q => hij q.symm)]; exact List.getElem?_eq_getElem hj) hkm
      have r2 : (xs.flatMap e)[k]? = (e (xs[k / n]'hj))[k % n]? := by
        conv => lhs; rw [hk2]
        exact fm_get hn _ _ _ _ (List.getElem?_eq_getElem hj) hkm
      rw [r1, r2, if_neg]
      intro hc
      apply hij
      have a1 : k < (i + 1) * n := by rw [Nat.succ_mul]; omega
      have a2 : i * n ≤ k := by omega
      exact Nat.le_antisymm (Nat.lt_succ_iff.1 ((Nat.div_lt_iff_lt_mul hn0).2 a1)) ((Nat.le_div_iff_mul_le hn0).2 a2)
  · rw [if_neg, List.getElem?_eq_none (by rw [fm_len hn]; omega), List.getElem?_eq_none (by rw [fm_len hn, List.length_set]; omega)]
    intro hc
    rw [fm_len hn] at hl
    omega
instance (priority := high) stp_ldF [Inhabited α] {id off i o n : Nat} {e : α → List AV} {xs : List α} [hp : Hp h L] [q : Pk L id (.a id (.c (xs.flatMap e))) r] [es : Es e n] [pl : Pl off n i o] :
    Stp (K.ldK c t (.ptr id off) h g) Q (Sd (i < xs.length ∧ o < n) (Lk (e (xs.getD i default))[o]? fun v => Ok (g v) Q)) := ⟨fun p => by
  have hlt := p.s.1
  have hx := getD_of hlt
  obtain ⟨v, h1, h2⟩ := p.p.out
  have hg := fm_get (fun a => (es.len.2 a).1) xs i o _ hx p.s.2
  rw [← pl.eq, h1] at hg
  refine (stp_ld (Q := Q) (g := g) (t := t) (c := c) (q := q)).to ⟨v, hg, h2⟩⟩
instance (priority := high) stp_ldsF [Inhabited α] {id off i o n m : Nat} {e : α → List AV} {xs : List α} {out : α → List AV} [hp : Hp h L] [q : Pk L id (.a id (.c (xs.flatMap e))) r] [es : Es e n] [pl : Pl off n i o] [sl : ∀ a, Sl (e a) o m (out a)] :
    Stp (K.ldsK c t m (.ptr id off) h g) Q (Sd (i < xs.length) (Ok (g (.agg (out (xs.getD i default)))) Q)) := ⟨fun p => by
  have hlt := p.s
  have hx := getD_of hlt
  have hs := (sl (xs.getD i default)).eq
  rw [(es.len.2 _).1] at hs
  have hb : off + m ≤ (xs.flatMap e).length := by
    rw [fm_len fun a => (es.len.2 a).1, pl.eq]
    have : (i + 1) * n ≤ xs.length * n := Nat.mul_le_mul_right _ hlt
    rw [Nat.succ_mul] at this
    omega
  refine (stp_lds' (Q := Q) (g := g) (t := t) (c := c) (q := q)).to ⟨hb, ?_⟩
  rw [pl.eq, fm_slice (fun a => (es.len.2 a).1) hx hs.1, hs.2]
  exact p.p⟩
class Eu {α : Type} (e : α → List AV) (o : Nat) (l : List AV) (f : outParam (α → α)) (s : outParam Prop) : Prop where
  eq : s → ∀ a, o + l.length ≤ (e a).length ∧ e (f a) = putL (e a) o l
instance (priority := high) stp_stF [Inhabited α] {id off i o n : Nat} {v : AV} {e : α → List AV} {xs : List α} {w : α → α} {s : Prop} [hp : Hp h L] [q : Pk L id (.a id (.c (xs.flatMap e))) r] [es : Es e n] [pl : Pl off n i o] [z : IsC v] [eu : Eu e o [v] w s] :
    Stp (K.stK (.ptr id off) v h u) Q (Sd (s ∧ i < xs.length) (∀ h', Hp h' (.a id (.c ((xs.set i (w (xs.getD i default))).flatMap e)) :: r) → Ok (u h') Q)) := ⟨fun p => by
  have hlt := p.s.2
  have hx := getD_of hlt
  obtain ⟨e1, e2⟩ := eu.eq p.s.1 (xs.getD i default)
  rw [(es.len.2 _).1] at e1
  have hb : off + [v].length ≤ (xs.flatMap e).length := by
    rw [fm_len fun a => (es.len.2 a).1, pl.eq]
    have : (i + 1) * n ≤ xs.length * n := Nat.mul_le_mul_right _ hlt
    rw [Nat.succ_mul] at this
    omega
  obtain ⟨h', h1, h2⟩ := (hp.perm q.perm).put (off := off) (l := [v]) hb (by simp [allB, z.is])
  rw [pl.eq, fm_put (fun a => (es.len.2 a).1) hx e1 e2] at h2
  exact .eq (stK_cell h1) (p.p h' h2)⟩
instance (priority := high) stp_stsF [Inhabited α] {id off i o n m : Nat} {l : List AV} {e : α → List AV} {xs : List α} {w : α → α} {s : Prop} [hp : Hp h L] [q : Pk L id (.a id (.c (xs.flatMap e))) r] [es : Es e n] [pl : Pl off n i o] [eu : Eu e o l w s] :
    Stp (K.stsK m (.ptr id off) (.agg l) h u) Q (Sd (s ∧ i < xs.length ∧ l.length = m ∧ allB AV.isCell l = true) (∀ h', Hp h' (.a id (.c ((xs.set i (w (xs.getD i default))).flatMap e)) :: r) → Ok (u h') Q)) := ⟨fun p => by
  have hlt := p.s.2.1
  have hx := getD_of hlt
  obtain ⟨e1, e2⟩ := eu.eq p.s.1 (xs.getD i default)
  rw [(es.len.2 _).1] at e1
  have hb : off + l.length ≤ (xs.flatMap e).length := by
    rw [fm_len fun a => (es.len.2 a).1, pl.eq]
    have : (i + 1) * n ≤ xs.length * n := Nat.mul_le_mul_right _ hlt
    rw [Nat.succ_mul] at this
    omega
  obtain ⟨h', h1, h2⟩ := (hp.perm q.perm).put (off := off) (l := l) hb p.s.2.2.2
  rw [pl.eq, fm_put (fun a => (es.len.2 a).1) hx e1 e2] at h2
  exact .eq (K.stsK_of p.s.2.2.1 h1) (p.p h' h2)⟩
theorem set_get [Inhabited α] {xs : List α} {i : Nat} {a0 : α} (hi : i < xs.length) : (xs.set i a0).getD i default = a0 := by
  rw [List.getD_eq_getElem?_getD, List.getElem?_set_self hi]; rfl
instance (priority := 20000) stp_stFS [Inhabited α] {id off i o n : Nat} {v : AV} {e : α → List AV} {xs : List α} {a0 : α} {w : α → α} {s : Prop} [hp : Hp h L] [q : Pk L id (.a id (.c ((xs.set i a0).flatMap e))) r] [es : Es e n] [pl : Pl off n i o] [z : IsC v] [eu : Eu e o [v] w s] :
    Stp (K.stK (.ptr id off) v h u) Q (Sd (s ∧ i < xs.length) (∀ h', Hp h' (.a id (.c ((xs.set i (w a0)).flatMap e)) :: r) → Ok (u h') Q)) := ⟨fun p => by
  refine (stp_stF (q := q) (pl := pl) (eu := eu) (es := es) (xs := xs.set i a0)).to ⟨⟨p.s.1, by rw [List.length_set]; exact p.s.2⟩, fun h' hh => p.p h' ?_⟩
  rw [set_get p.s.2, List.set_set] at hh
  exact hh⟩
instance (priority := 20000) stp_stsFS [Inhabited α] {id off i o n m : Nat} {l : List AV} {e : α → List AV} {xs : List α} {a0 : α} {w : α → α} {s : Prop} [hp : Hp h L] [q : Pk L id (.a id (.c ((xs.set i a0).flatMap e))) r] [es : Es e n] [pl : Pl off n i o] [eu : Eu e o l w s] :
    Stp (K.stsK m (.ptr id off) (.agg l) h u) Q (Sd (s ∧ i < xs.length ∧ l.length = m ∧ allB AV.isCell l = true) (∀ h', Hp h' (.a id (.c ((xs.set i (w a0)).flatMap e)) :: r) → Ok (u h') Q)) := ⟨fun p => by
  refine (stp_stsF (q := q) (pl := pl) (eu := eu) (es := es) (xs := xs.set i a0)).to ⟨⟨p.s.1, by rw [List.length_set]; exact p.s.2.1, p.s.2.2⟩, fun h' hh => p.p h' ?_⟩
  rw [set_get p.s.2.1, List.set_set] at hh
  exact hh⟩
instance (priority := 20000) stp_ldFS [Inhabited α] {id off i o n : Nat} {e : α → List AV} {xs : List α} {a0 : α} [hp : Hp h L] [q : Pk L id (.a id (.c ((xs.set i a0).flatMap e))) r] [es : Es e n] [pl : Pl off n i o] :
    Stp (K.ldK c t (.ptr id off) h g) Q (Sd (i < xs.length ∧ o < n) (Lk (e a0)[o]? fun v => Ok (g v) Q)) := ⟨fun p => by
  refine (stp_ldF (q := q) (pl := pl) (es := es) (xs := xs.set i a0)).to ⟨⟨by rw [List.length_set]; exact p.s.1, p.s.2⟩, ?_⟩
  rw [set_get p.s.1]; exact p.p⟩
theorem set_mod {α : Type} [Inhabited α] (xs : List α) (i : Nat) (f : α → α) : xs.set i (f (xs.getD i default)) = xs.modify i f := by
  apply List.ext_getElem?
  intro k
  rw [List.getElem?_set, List.getElem?_modify]
  by_cases hk : i = k
  · subst hk
    by_cases hi : i < xs.length
    · simp [hi]
    · simp [hi]
  · simp [hk]
end
class Sp (l l' : List As) : Prop where
  to : ∀ l0, Flat l l0 → ∃ l1 j, Flat l' l1 ∧ l0.Perm (l1 ++ j)
instance sp_nil (l : List As) : Sp l [] := ⟨fun l0 h => ⟨[], l0, .nil, .refl _⟩⟩
instance (priority := high) sp_refl (l : List As) : Sp l l := ⟨fun l0 h => ⟨l0, [], h, by simp⟩⟩
theorem Flat.cons_inv {x : As} {l : List As} {l0 : List (Nat × SO)} (h : Flat (x :: l) l0) : ∃ a b, l0 = a ++ b ∧ Flat l b ∧ ∀ l' b', Flat l' b' → Flat (x :: l') (a ++ b') := by
  cases h with
  | @a id s _ l0 h => exact ⟨[(id, s)], l0, rfl, h, fun l' b' q => .a q⟩
  | @ex k P _ l0 l1 hp h => exact ⟨l1, l0, rfl, h, fun l' b' q => .ex hp q⟩
theorem sp_cons {l l' r : List As} {x : As} (p : l.Perm (x :: r)) (q : Sp r l') : Sp l (x :: l') := ⟨fun l0 h => by
  obtain ⟨l1, h1, h2⟩ := h.perm p
  obtain ⟨a, b, rfl, h3, h4⟩ := h1.cons_inv
  obtain ⟨l2, j, h5, h6⟩ := q.to _ h3
  exact ⟨a ++ l2, j, h4 _ _ h5, h2.trans (by rw [List.append_assoc]; exact h6.append_left _)⟩⟩
instance sp_a {l l' r : List As} {id : Nat} {s : SO} [p : Pk l id (.a id s) r] [q : Sp r l'] : Sp l (.a id s :: l') := sp_cons p.perm q
instance sp_ex {l l' r : List As} {id : Nat} {P : List (Nat × SO) → Prop} [p : Pk l id (.ex id P) r] [q : Sp r l'] : Sp l (.ex id P :: l') := sp_cons p.perm q
instance (priority := low) sp_drop {l l' : List As} {x : As} [q : Sp l l'] : Sp (x :: l) l' := ⟨fun l0 h => by
  obtain ⟨a, b, rfl, h3, h4⟩ := h.cons_inv
  obtain ⟨l2, j, h5, h6⟩ := q.to _ h3
  refine ⟨l2, a ++ j, h5, (h6.append_left a).trans ?_⟩
  rw [← List.append_assoc, ← List.append_assoc]
  exact List.perm_append_comm.append_right _⟩
theorem Hp.to {h : H} {l l' : List As} [e : Hp h l] [q : Sp l l'] : Hp h l' := by
  obtain ⟨l0, h1, h2⟩ := e.out
  obtain ⟨l1, j, h3, h4⟩ := q.to _ h1
  have e' := h2.perm h4
  refine ⟨l1, h3, fun q hq => e'.lt q (List.mem_append_left _ hq), ?_, fun q hq => e'.rep q (List.mem_append_left _ hq)⟩
  have := e'.nd
  rw [List.map_append, List.nodup_append] at this
  exact this.1
class LenL (l : List AV) (n : Nat) : Prop where
  eq : l.length = n
instance lenl_0 : LenL [] 0 := ⟨rfl⟩
instance lenl_s (a : AV) (l : List AV) (n : Nat) [q : LenL l n] : LenL (a :: l) (n + 1) := ⟨by rw [List.length_cons, q.eq]⟩
class CL (v : AV) (n : Nat) (l : outParam (List AV)) : Prop where
  eq : v.cells = l ∧ l.length = n ∧ v.known = true
instance cl_1 (v : AV) [q : IsC v] : CL v 1 [v] := ⟨by have := q.is; cases v <;> first | (cases this; done) | exact ⟨rfl, rfl, rfl⟩⟩
instance cl_agg (l : List AV) (n : Nat) [q : LenL l n] : CL (.agg l) n l := ⟨rfl, q.eq, rfl⟩
class Fo (fs : List (Nat × Nat × Nat × Bool)) (i : Nat) (off size : outParam Nat) : Prop where
  eq : ∃ t b, fs[i]? = some (off, t, size, b)
instance fo_0 (off t size : Nat) (b : Bool) (fs : List (Nat × Nat × Nat × Bool)) : Fo ((off, t, size, b) :: fs) 0 off size := ⟨t, b, rfl⟩
instance fo_s (x : Nat × Nat × Nat × Bool) (fs : List (Nat × Nat × Nat × Bool)) (i off size : Nat) [q : Fo fs i off size] : Fo (x :: fs) (i + 1) off size := ⟨by obtain ⟨t, b, e⟩ := q.eq; exact ⟨t, b, by simpa using e⟩⟩
class FSt (fs : List (Nat × Nat × Nat × Bool)) (z : List AV) (ps : List (Nat × AV)) (l : outParam (List AV)) : Prop where
  eq : fillStruct fs z ps = some l
instance fst_nil (fs : List (Nat × Nat × Nat × Bool)) (z : List AV) : FSt fs z [] z := ⟨by unfold fillStruct; rfl⟩
theorem replaceAt_put : ∀ (l : List AV) (o : Nat) (w : List AV), o + w.length ≤ l.length → replaceAt l o w = putL l o w
  | l, o, [], h => by
    have : replaceAt l o [] = l := by cases l <;> cases o <;> rfl
    rw [this]; simp [putL]
  | [], o, b :: w, h => by simp at h
  | a :: l, 0, b :: w, h => by
    show b :: replaceAt l 0 w = _
    rw [replaceAt_put l 0 w (by simp at h ⊢; omega)]; simp [putL]
  | a :: l, o + 1, b :: w, h => by
    show a :: replaceAt l o (b :: w) = _
    rw [replaceAt_put l o (b :: w) (by simp at h ⊢; omega)]
    unfold putL
    rw [List.take_succ_cons, show o + 1 + (b :: w).length = (o + (b :: w).length) + 1 by omega, List.drop_succ_cons]; rfl
instance fst_cons (fs : List (Nat × Nat × Nat × Bool)) (z z' cs : List AV) (i off size : Nat) (v : AV) (ps : List (Nat × AV)) (l : List AV) [q : Fo fs i off size] [c : CL v size cs] [p : Pu z off cs z'] [r : FSt fs z' ps l] : FSt fs z ((i, v) :: ps) l := ⟨by
  obtain ⟨t, b, e⟩ := q.eq
  obtain ⟨c1, c2, c3⟩ := c.eq
  obtain ⟨p1, p2⟩ := p.eq
  unfold fillStruct
  rw [e]
  simp only [c1, c3]
  rw [show cs.length.beq size = true by rw [c2]; exact Nat.beq_refl _, show Nat.ble (off + size) z.length = true from Nat.ble_eq_true_of_le (by omega), replaceAt_put z off cs p1, p2]
  exact r.eq⟩
section
variable {c : Ctx} {t : Nat} {g : AV → K.KR} {Q : AV → H → Prop}
instance (priority := high) stp_bldS' {ps : List (Nat × AV)} {fs : List (Nat × Nat × Nat × Bool)} {z l : List AV} [a : FS c t fs] [e : ZL c t z] [q : FSt fs z ps l] : Stp (K.bldSK c t ps g) Q (Ok (g (.agg l)) Q) := ⟨fun p => (stp_bldS (c := c) (t := t) (ps := ps)).to ⟨l, q.eq, p⟩⟩
end
end Am

namespace Am
open Go
theorem fillK_of {esz : Nat} : ∀ (ps : List (Nat × AV)) (l l' : List AV) (k : List AV → K.KR), fillArr esz l ps = some l' → K.fillK esz ps l k = k l'
  | [], l, l', k, h => by unfold fillArr at h; cases h; rfl
  | (i, v) :: ps, l, l', k, h => by
    unfold fillArr at h
    split at h
    · rename_i h1 h2 h3
      show K.knownK v (K.cellsL v fun cs => K.req (Nat.beq (K.len cs) esz) (K.req (Nat.ble (Nat.add (Nat.mul i esz) esz) (K.len l)) (K.fillK esz ps (K.replaceK l (Nat.mul i esz) cs) k))) = _
      have e1 : ∀ X : K.KR, K.knownK v X = X := fun X => by cases v <;> first | rfl | cases h3
      have e2 : ∀ f : List AV → K.KR, K.cellsL v f = f v.cells := fun f => by cases v <;> rfl
      rw [e1, e2]
      simp only [K.len_eq]
      rw [show v.cells.length.beq esz = true from h1, show Nat.ble (Nat.add (Nat.mul i esz) esz) l.length = true from h2]
      show K.fillK esz ps (K.replaceK l (Nat.mul i esz) v.cells) k = _
      have e3 : ∀ (l : List AV) (o : Nat) (w : List AV), K.replaceK l o w = replaceAt l o w := by
        intro l
        induction l with
        | nil => intro o w; cases w <;> rfl
        | cons a l ih =>
          intro o w
          cases w with
          | nil =>
            show a :: K.replaceK l o [] = a :: l
            rw [ih]; cases l <;> rfl
          | cons b w =>
            cases o with
            | zero => exact congrArg _ (ih 0 w)
            | succ o => exact congrArg _ (ih o (b :: w))
      rw [e3]
      exact fillK_of ps _ l' k h
    · cases h
class BSl (esz i m : Nat) (ps : List (Nat × AV)) (l : outParam (List AV)) : Prop where
  eq : ∀ (pre z : List AV), pre.length = i * esz → z.length = esz → fillArr esz (pre ++ repl m z) ps = some (pre ++ l)
instance bsl_nil (esz i : Nat) : BSl esz i 0 [] [] := ⟨fun pre z h1 h2 => by unfold fillArr; rfl⟩
instance bsl_cons (esz i i' m : Nat) (v : AV) (ps : List (Nat × AV)) (cs l o : List AV) [c : CL v esz cs] [ad : AddL i 1 i'] [q : BSl esz i' m ps l] [a : Ap cs l o] : BSl esz i (m + 1) ((i, v) :: ps) o := ⟨fun pre z h1 h2 => by
  obtain ⟨c1, c2, c3⟩ := c.eq
  unfold fillArr
  have hl : i * esz + esz ≤ (pre ++ repl (m + 1) z).length := by rw [List.length_append, repl_length, h1, h2, Nat.succ_mul]; omega
  rw [c1, c3, show cs.length.beq esz = true by rw [c2]; exact Nat.beq_refl _, Nat.ble_eq_true_of_le hl]
  have e : replaceAt (pre ++ repl (m + 1) z) (i * esz) cs = (pre ++ cs) ++ repl m z := by
    rw [replaceAt_put _ _ _ (by rw [c2]; exact hl), ← h1]
    unfold putL
    rw [List.take_left' rfl]
    show pre ++ cs ++ (pre ++ (z ++ repl m z)).drop (pre.length + cs.length) = _
    rw [← List.append_assoc pre z, List.drop_append_of_le_length (by rw [List.length_append]; omega), List.drop_eq_nil_of_le (by rw [List.length_append]; omega), List.nil_append]
  show fillArr esz (replaceAt (pre ++ repl (m + 1) z) (i * esz) cs) ps = _
  rw [e, q.eq (pre ++ cs) z (by rw [List.length_append, h1, c2, ← ad.eq, Nat.succ_mul]) h2, List.append_assoc, a.eq]⟩
class TG (esz : Nat) (b : Bool) (n : outParam Nat) : Prop where
  eq : tagOf esz b = n
instance tg_1 : TG 1 true 3 := ⟨rfl⟩
instance tg_2 : TG 2 true 5 := ⟨rfl⟩
instance tg_3 : TG 3 true 7 := ⟨rfl⟩
instance tg_4 : TG 4 true 9 := ⟨rfl⟩
instance tg_5 : TG 5 true 11 := ⟨rfl⟩
instance tg_13 : TG 13 true 27 := ⟨rfl⟩
instance tg_6 : TG 6 true 13 := ⟨rfl⟩
section
variable {c : Ctx} {k : IntKind} {x y : Int} {t : Nat} {b : Bool} {g : AV → K.KR} {f : AV → H → K.KR} {u : H → K.KR} {h : H} {Q : AV → H → Prop} {L r : List As} {α : Type}
instance stp_bsl {e esz n tg : Nat} {ps : List (Nat × AV)} {z l : List AV} [hp : Hp h L] [zz : ZL c e z] [q : BSl esz 0 n ps l] [tt : TG esz true tg] [lz : LenL z esz] : Stp (K.bslK c e esz n ps h f) Q (∀ id h', Hp h' (.a id (.c l) :: L) → Ok (f (.slice id 0 n tg) h') Q) := ⟨fun p => by
  have e0 := q.eq [] z (by simp) lz.eq
  rw [List.nil_append, List.nil_append] at e0
  have e1 : K.bslK c e esz n ps h f = K.newCells l h fun id h => f (.slice id 0 n (tagOf esz true)) h := by
    show K.fillK esz ps (K.replK n (K.zL c e)) (fun l => K.newCells l h fun id h => f (.slice id 0 n (tagOf esz true)) h) = _
    rw [zz.eq, K.replK_eq]
    exact fillK_of ps _ l _ e0
  refine .eq e1 (.eq (K.newCells_eq l h _) ?_)
  rw [tt.eq]
  exact p _ _ (hp.newC l)⟩
instance (priority := high) stp_app_nil1 {e bs xid tx : Nat} {v : AV} [hp : Hp h L] [hb : BY c e bs] [qx : Pk L xid (.a xid (.c [v])) r] :
    Stp (K.appK c e 1 .nilSlice (.slice xid 0 1 tx) h f) Q (Sd (tx / 2 = 1 ∧ bs ≤ 16777216) (∀ id h', Hp h' (.a id (.c [v]) :: r) → Ok (f (.slice id 0 1 2) h') Q)) := ⟨fun p => by
  refine (stp_app_nil (qx := qx) (bs := bs) (m := 1) (tx := tx) (e := e) (esz := 1)).to ⟨⟨by omega, p.s.1, rfl, by omega, by rw [Nat.one_mul]; exact p.s.2⟩, fun id h' hh => ?_⟩
  refine p.p id h' ?_
  have h2 := hh.perm (List.Perm.cons _ qx.perm)
  exact (h2.perm (.swap _ _ _)).tail⟩
instance (priority := high) stp_app1 {e bs id ln tg xid tx : Nat} {en : α → AV} {cs : List α} {v : AV} {a : α} {s : Prop} {r1 r2 : List As} [hp : Hp h L] [hb : BY c e bs] [qs : Pk L id (.a id (.c (cs.map en))) r1] [qx : Pk r1 xid (.a xid (.c [v])) r2] [z : IsC v] [ec : Ec en v a s] :
    Stp (K.appK c e 1 (.slice id 0 ln tg) (.slice xid 0 1 tx) h f) Q (Sd (s ∧ tx / 2 = 1 ∧ tg = 2 ∧ ln = cs.length ∧ ln + 1 ≤ 16777216 ∧ (ln + 1) * bs ≤ 16777216)
      (∀ id h', Hp h' (.a id (.c ((cs ++ [a]).map en)) :: r2) → Ok (f (.slice id 0 (ln + 1) 2) h') Q)) := ⟨fun p => by
  obtain ⟨⟨p0, p1, p2, p3, p4, p5⟩, p6⟩ := p
  refine (stp_app (qs := qs) (qx := qx) (bs := bs) (m := 1) (tx := tx) (e := e) (esz := 1)).to ⟨⟨by omega, p1, p2, by simp [p3], rfl, by simp [allB, z.is], p4, p5⟩, fun id h' hh => ?_⟩
  refine p6 id h' ?_
  rw [List.map_append, List.map_cons, List.map_nil, ec.eq p0]
  have h2 := hh.perm (List.Perm.cons _ qx.perm)
  exact (h2.perm (.swap _ _ _)).tail⟩
end
def isPt (c : Ctx) (t : Nat) : Bool := match c.ty.get t with | some ti => (match ti.d with | .ptr _ => true | _ => false) | none => false
def isSc (c : Ctx) (t n : Nat) : Bool := match c.ty.get t with | some ti => (match ti.d with | .slice _ m => m.beq n | _ => false) | none => false
theorem Pt.of {c : Ctx} {t : Nat} (h : isPt c t = true) : Pt c t := ⟨by
  unfold isPt at h
  split at h
  · rename_i ti hti
    split at h
    · rename_i e he; exact ⟨ti, e, hti, he⟩
    · cases h
  · cases h⟩
theorem Sc.of {c : Ctx} {t n : Nat} (h : isSc c t n = true) : Sc c t n := ⟨by
  unfold isSc at h
  split at h
  · rename_i ti hti
    split at h
    · rename_i e m he
      rw [Nat.eq_of_beq_eq_true h] at he
      exact ⟨ti, e, hti, he⟩
    · cases h
  · cases h⟩
class Sm (v : AV) : Prop where
  eq : AV.same v v = true
class SmL (l : List AV) : Prop where
  eq : AV.sames l l = true
instance sm_int (k : IntKind) (n : Int) : Sm (.int k n) := ⟨by
  unfold AV.same
  rw [decide_eq_true rfl, Bool.true_and]
  cases n <;> exact Nat.beq_refl _⟩
instance sm_bool (b : Bool) : Sm (.bool b) := ⟨by cases b <;> rfl⟩
instance sm_ptr (a b : Nat) : Sm (.ptr a b) := ⟨by unfold AV.same; rw [show a.beq a = true from Nat.beq_refl a, show b.beq b = true from Nat.beq_refl b]; rfl⟩
instance sm_nilPtr : Sm .nilPtr := ⟨rfl⟩
instance sm_nilSlice : Sm .nilSlice := ⟨rfl⟩
instance sm_slice (a b c d : Nat) : Sm (.slice a b c d) := ⟨by unfold AV.same; rw [show a.beq a = true from Nat.beq_refl a, show b.beq b = true from Nat.beq_refl b, show c.beq c = true from Nat.beq_refl c, show d.beq d = true from Nat.beq_refl d]; rfl⟩
instance sml_nil : SmL [] := ⟨by unfold AV.sames; rfl⟩
instance sml_cons (v : AV) (l : List AV) [a : Sm v] [b : SmL l] : SmL (v :: l) := ⟨by unfold AV.sames; rw [a.eq, b.eq]; rfl⟩
instance sm_agg (l : List AV) [a : SmL l] : Sm (.agg l) := ⟨by unfold AV.same; exact a.eq⟩
instance sm_tup (l : List AV) [a : SmL l] : Sm (.tup l) := ⟨by unfold AV.same; exact a.eq⟩
instance stp_same {v : AV} {X : K.KR} {Q : AV → H → Prop} [a : Sm v] : Stp (K.req (AV.same v v) X) Q (Ok X Q) := .eq (by rw [a.eq]; rfl)
theorem putL_cons {cs : List AV} {o : Nat} {v : AV} {l : List AV} (h : o + (v :: l).length ≤ cs.length) : putL cs o (v :: l) = putL (cs.set o v) (o + 1) l := by
  rw [List.length_cons] at h
  apply List.ext_getElem?
  intro k
  rw [putL_get (by rw [List.length_cons]; omega), putL_get (by rw [List.length_set]; omega), List.length_cons, List.getElem?_set]
  by_cases h1 : k = o
  · subst h1
    rw [if_pos (by omega), if_neg (by omega), if_pos rfl, if_pos (by omega), Nat.sub_self]; rfl
  · have h1' : ¬ o = k := fun e => h1 e.symm
    by_cases h2 : o ≤ k ∧ k < o + (l.length + 1)
    · rw [if_pos h2, if_pos (by omega), show k - o = (k - (o + 1)) + 1 by omega]; rfl
    · rw [if_neg h2, if_neg (by omega), if_neg h1']
theorem putL_nil {cs : List AV} {o : Nat} : putL cs o [] = cs := by simp [putL]
section
variable {f : AV → H → K.KR} {h : H} {Q : AV → H → Prop} {L r : List As}
theorem ok_cpy {esz d o n tg s m ts : Nat} {cs xs : List AV} {r1 r2 : List As} [hp : Hp h L] [qs : Pk L d (.a d (.c cs)) r1] [qx : Pk r1 s (.a s (.c xs)) r2]
    (h1 : tg / 2 = esz) (h2 : ts / 2 = esz) (hm : m ≤ n) (hle : xs.length = m * esz) (hb : o + xs.length ≤ cs.length) (hc : allB AV.isCell xs = true)
    (p : ∀ h', Hp h' (.a d (.c (putL cs o xs)) :: .a s (.c xs) :: r2) → Ok (f (.int .i64 (.ofNat m)) h') Q) : Ok (K.rK (copyA esz (.slice d o n tg) (.slice s 0 m ts) h) f) Q := by
  have hq := hp.perm (qs.perm.trans (qx.perm.cons _))
  have hl : h.loads s 0 (m * esz) = some xs := by rw [rep_loads hq.tail.head.1 (by omega), List.drop_zero, ← hle, List.take_length]
  obtain ⟨h', e1, e2⟩ := hq.put (off := o) (l := xs) hb hc
  rw [copyA_of h1 h2 hl hm hle e1, K.rK_of]
  exact p h' e2
end
theorem getD_all {α : Type} [Inhabited α] {p : α → Prop} {xs : List α} (h : ∀ x ∈ xs, p x) {k : Nat} (hk : k < xs.length) : p (xs.getD k default) := h _ (List.mem_of_getElem? (getD_of hk))
theorem take_more {α : Type} [Inhabited α] (xs : List α) (k : Nat) (h : k < xs.length) : xs.take (k + 1) = xs.take k ++ [xs.getD k default] := by
  rw [List.take_add_one, getD_of h]; rfl
theorem getD_map {α β : Type} [Inhabited α] [Inhabited β] (f : α → β) (xs : List α) (k : Nat) (h : k < xs.length) : (xs.map f).getD k default = f (xs.getD k default) := by
  rw [List.getD_eq_getElem?_getD, List.getElem?_map, getD_of h]; rfl
end Am
