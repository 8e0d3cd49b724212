/- The abstract machine of this claim, and its soundness against the model, part 4: proved once, for any program. Merged by a script out of the prover's texts AmKG, AmChk, AmFin, AmRow, AmSum, AmSym, AmSim, AmRec, AmHyb, AmArg, AmDev, AmPan, AmAll. -/
import Derived.Test.YtbigljebnajniaaGreatDoorA3
import Derived.Below
import Derived.ProofKit
import Derived.Lib.SmallJoins
import Derived.Carry
import Derived.LaidLaws
import Derived.ChangeCalls
import Derived.Stop.Joined
import Derived.Lib.Bytealg
import Derived.KernelRfl
/- What the fast form comes to: code, functions, runs. -/
namespace Am
open Go
namespace K
section
variable {c : Ctx} {kr : KRun} {ar : Run} {r : AV} {hh : H} {rd : Option Nat}

theorem keepF_congr {env env' : T AV} : ∀ {l : List Nat} {acc : T AV}, (∀ t ∈ l, env.get t = env'.get t) → keepF l env acc = keepF l env' acc
  | [], acc, h => rfl
  | t :: l, acc, h => by
    unfold keepF
    rw [h t List.mem_cons_self]
    exact keepF_congr fun s hs => h s (List.mem_cons_of_mem _ hs)
theorem keepT_keepT {env : T AV} {l : List Nat} {vs : List AV} (h : Picks env l vs) : keepT l (keepT l env) = keepT l env :=
  keepF_congr fun t ht => (keepF_keeps h t).1 ht
theorem keepK_ok {an : An} {env : T AV} {k : T AV → KR} (ms : List Nat) (h : H) (e : keepK an env k = .ok r hh) : k ((S.mk env ms h).keep an).env = .ok r hh := by
  cases an with
  | no => exact e
  | n k' id a b =>
    cases k' with
    | none => exact e
    | some l =>
      obtain ⟨vs, h1, e⟩ := pick_ok e
      exact mkEnv_ok (k := k) h1 e
theorem keep_eq (s : S) (an : An) : s.keep an = ⟨(s.keep an).env, s.marks, s.h⟩ := by
  cases an with
  | no => rfl
  | n k id a b => cases k <;> rfl
/-- code looks at what is kept alone -/
theorem execA_keep {code : Code} {an : An} {s1 s2 : S} (h : s1.keep an = s2.keep an) : execA c ar rd code an s1 = execA c ar rd code an s2 := by
  have hm : s1.marks = s2.marks := by rw [← keep_marks s1 an, h, keep_marks]
  have hh : s1.h = s2.h := by rw [← keep_h s1 an, h, keep_h]
  cases code <;> (unfold execA; simp only [h, hm, hh])

/-- how a piece of code is left, and what follows -/
def Post (x : X) (s : S) (ret : Cont) (ex : Nat → Cont) (k : Cont) (r : AV) (hh : H) : Prop := match x with
  | .norm => k s.env s.marks s.h = .ok r hh
  | .ret => ret s.env s.marks s.h = .ok r hh
  | .exit i => ex i s.env s.marks s.h = .ok r hh
  | _ => False
def ExOk (c : Ctx) (kr : KRun) (ar : Run) (rd : Option Nat) (code : Code) (f : ExF) : Prop := ∀ (an : An) (env : T AV) (ms : List Nat) (h : H) (ret : Cont) (ex : Nat → Cont) (k : Cont) (r : AV) (hh : H),
  f an kr ret ex env ms h k = .ok r hh → ∃ x s', execA c ar rd code an ⟨env, ms, h⟩ = .ok (x, s') ∧ Post x s' ret ex k r hh
theorem kept_eq {an : An} {l : List Nat} (h : kept an = some l) (s : S) : s.keep an = ⟨keepT l s.env, s.marks, s.h⟩ := by
  cases an with
  | no => cases h
  | n k id a b => cases k with
    | none => cases h
    | some m => cases h; rfl
theorem kept_none {an : An} (h : kept an = none) (s : S) : s.keep an = s := by
  cases an with
  | no => rfl
  | n k id a b => cases k with
    | none => rfl
    | some m => cases h

theorem seq_ok {a b : Code} {fa fb : ExF} (ha : ExOk c kr ar rd a fa) (hb : ExOk c kr ar rd b fb) : ExOk c kr ar rd (.seq a b) (seqK fa fb) := by
  intro an env ms h ret ex k r hh e
  have e := keepK_ok ms h e
  have go : ∀ (K : Cont), (∀ env ms h, K env ms h = .ok r hh → ∃ x s', execA c ar rd b an.r ⟨env, ms, h⟩ = .ok (x, s') ∧ Post x s' ret ex k r hh) →
      fa an.l kr ret ex ((S.mk env ms h).keep an).env ms h K = .ok r hh → ∃ x s', execA c ar rd (.seq a b) an ⟨env, ms, h⟩ = .ok (x, s') ∧ Post x s' ret ex k r hh := by
    intro K hK e
    obtain ⟨x, s', h1, h2⟩ := ha _ _ _ _ _ _ _ _ _ e
    unfold execA
    rw [keep_eq (S.mk env ms h) an, h1]
    cases x with
    | norm =>
      obtain ⟨x, s'', h3, h4⟩ := hK _ _ _ h2
      exact ⟨x, s'', h3, h4⟩
    | ret => exact ⟨_, _, rfl, h2⟩
    | exit i => exact ⟨_, _, rfl, h2⟩
    | goto => exact h2.elim
    | pan => exact h2.elim
  cases hk : kept an.r with
  | none =>
    rw [hk] at e
    exact go _ (fun env ms h e => hb _ _ _ _ _ _ _ _ _ e) e
  | some l =>
    rw [hk] at e
    refine go (fun env ms h => pick l env fun vs => mkEnv l vs .e fun env => fb an.r kr ret ex env ms h k) (fun env ms h e => ?_) e
    obtain ⟨vs, h1, e⟩ := pick_ok e
    have e : fb an.r kr ret ex (keepT l env) ms h k = .ok r hh := mkEnv_ok (k := fun env => fb an.r kr ret ex env ms h k) h1 e
    obtain ⟨x, s', h2, h3⟩ := hb _ _ _ _ _ _ _ _ _ e
    refine ⟨x, s', ?_, h3⟩
    rw [← h2]
    refine execA_keep ?_
    rw [kept_eq hk, kept_eq hk]
    simp only [keepT_keepT h1]
theorem loop_ok {b : Code} {f : ExF} (hb : ExOk c kr ar rd b f) : ExOk c kr ar rd (.loop b) (loopE f) := by
  intro an env ms h ret ex k r hh e
  have e := keepK_ok ms h e
  obtain ⟨l, hl, e⟩ := optS_ok e
  obtain ⟨vs, hp, e⟩ := pick_ok e
  have main : ∀ (n : Nat) (env : T AV) (vs : List AV) (ms : List Nat) (h : H), Picks env l vs → loopV n (fun self vs ms h => mkEnv l vs .e fun env => f an.l kr ret ex env ms h fun env ms h => pick l env fun vs => self vs ms h) vs ms h = .ok r hh →
      ∃ x s', loopA (execA c ar rd b an.l) n ⟨env, ms, h⟩ = .ok (x, s') ∧ Post x s' ret ex k r hh := by
    intro n
    induction n with
    | zero => intro env vs ms h hp e; cases e
    | succ n ih =>
      intro env vs ms h hp e
      have e : mkEnv l vs .e (fun env => f an.l kr ret ex env ms h fun env ms h => pick l env fun vs => loopV n (fun self vs ms h => mkEnv l vs .e fun env => f an.l kr ret ex env ms h fun env ms h => pick l env fun vs => self vs ms h) vs ms h) = .ok r hh := e
      have e := mkEnv_ok hp e
      obtain ⟨x, s', h1, h2⟩ := hb _ _ _ _ _ _ _ _ _ e
      have h1 : execA c ar rd b an.l ⟨env, ms, h⟩ = .ok (x, s') := by
        rw [← h1]
        refine execA_keep ?_
        rw [kept_eq hl, kept_eq hl]
        exact congrArg (fun e => S.mk e ms h) (keepT_keepT hp).symm
      unfold loopA
      rw [h1]
      cases x with
      | norm =>
        have h2 : pick l s'.env (fun vs => loopV n (fun self vs ms h => mkEnv l vs .e fun env => f an.l kr ret ex env ms h fun env ms h => pick l env fun vs => self vs ms h) vs s'.marks s'.h) = .ok r hh := h2
        obtain ⟨vs', hp', e⟩ := pick_ok h2
        exact ih s'.env vs' s'.marks s'.h hp' e
      | ret => exact ⟨_, _, rfl, h2⟩
      | exit i => exact ⟨_, _, rfl, h2⟩
      | goto => exact h2.elim
      | pan => exact h2.elim
  obtain ⟨x, s', h1, h2⟩ := main _ _ vs ms h hp e
  refine ⟨x, s', ?_, h2⟩
  unfold execA
  rw [keep_eq (S.mk env ms h) an]
  exact h1
/-- a range over a function, once it is entered -/
def endA (c : Ctx) (ar : Run) (gv : AV) (env : T AV) (marks : List Nat) (l : Nat) (h : H) : R (X × S) := match rangeA c ar gv l h with
  | .ok (_, h) => match h.obj l with
    | some (.loop st pend en r d) => match st with
      | .busy => .bad "rangeFunc: busy"
      | _ =>
        let h := h.upd l (.loop .exhausted pend en r d)
        match pend with
        | none => .ok (.norm, ⟨env, marks, h⟩)
        | some .ret => .ok (.ret, ⟨env, marks, h⟩)
        | some (.exit i) => .ok (.exit i, ⟨env, marks, h⟩)
        | some _ => .bad "rangeFunc: jump"
    | _ => .bad "rangeFunc: loop gone"
  | .pan _ _ => .bad "rangeFunc: panics"
  | .bad w => .bad w
theorem execA_range {g : Operand} {ps : Array Nat} {as body : Code} {an : An} {s : S} : execA c ar rd (.rangeFunc g ps as body) an s = match enterA rd (s.keep an) with
    | none => .bad "rangeFunc: loop"
    | some (d, marks, h) => endA c ar (evalO (s.keep an).env g) (s.keep an).env marks (h.new (.loop .ready none (s.keep an).env an.id d)).1 (h.new (.loop .ready none (s.keep an).env an.id d)).2 := by
  unfold execA
  simp only
  cases enterA rd (s.keep an) with
  | none => rfl
  | some q => obtain ⟨d, marks, h⟩ := q; rfl
theorem endA_ok (hr : KLe kr ar) {gv : AV} {env : T AV} {marks : List Nat} {l : Nat} {h : H} {kn krr : H → KR} {ke : Nat → H → KR} (e : rngK c kr gv l h kn krr ke = .ok r hh) :
    ∃ x h3, endA c ar gv env marks l h = .ok (x, ⟨env, marks, h3⟩) ∧ (match x with | .norm => kn h3 = .ok r hh | .ret => krr h3 = .ok r hh | .exit i => ke i h3 = .ok r hh | _ => False) := by
  cases gv with
  | func fn first cap =>
    cases fn with
    | func f =>
      have e : Option.rec (motive := fun _ => KR) (retK (kr (.fn f) (app first (.yield l :: cap)) h) fun _ h => endK l h kn krr ke) (fun _ => .bad) (c.ext.get f) = .ok r hh := e
      cases hx : c.ext.get f with
      | some x => rw [hx] at e; cases e
      | none =>
        rw [hx] at e
        obtain ⟨v, h2, h1, e⟩ := retK_ok e
        have h1 := hr _ _ _ _ _ h1
        rw [app_eq] at h1
        have hra : rangeA c ar (.func (.func f) first cap) l h = .ok (v, h2) := by
          unfold rangeA
          simp only [hx]
          rw [← h1]
          simp
        obtain ⟨o, ho, e⟩ := opt_ok e
        rw [hObj_eq] at ho
        obtain ⟨st, pend, en, rn, d, rfl, e⟩ := asLoop_ok e
        have fin : st ≠ .busy → hUpd h2 l (some (.loop .exhausted pend en rn d)) (fun h => Option.rec (motive := fun _ => KR) (kn h) (fun j => Code.rec (motive := fun _ => KR) .bad (fun _ _ _ => .bad) (fun _ _ _ _ => .bad) (fun _ _ _ _ _ => .bad) (fun _ _ _ => .bad) (fun _ _ => .bad) (fun _ _ _ _ _ _ => .bad) (fun i => ke i h) (fun _ _ => .bad) (fun _ => .bad) (fun _ => .bad) (krr h) (fun _ => .bad) j) pend) = .ok r hh →
            ∃ x h3, endA c ar (.func (.func f) first cap) env marks l h = .ok (x, ⟨env, marks, h3⟩) ∧ (match x with | .norm => kn h3 = .ok r hh | .ret => krr h3 = .ok r hh | .exit i => ke i h3 = .ok r hh | _ => False) := by
          intro hst e
          rw [hUpd_eq] at e
          unfold endA
          rw [hra]
          simp only [ho]
          cases pend with
          | none => exact ⟨.norm, _, by cases st <;> first | rfl | exact absurd rfl hst, e⟩
          | some j =>
            cases j with
            | exit i => exact ⟨.exit i, _, by cases st <;> first | rfl | exact absurd rfl hst, e⟩
            | ret => exact ⟨.ret, _, by cases st <;> first | rfl | exact absurd rfl hst, e⟩
            | _ => cases e
        cases st with
        | busy => cases e
        | ready => exact fin (by simp) e
        | done => exact fin (by simp) e
        | exhausted => exact fin (by simp) e
    | _ => cases e
  | yield l => cases e
  | _ => cases e
theorem enterK_ok {ms : List Nat} {h : H} {k : Nat → List Nat → H → KR} (env : T AV) (e : enterK rd ms h k = .ok r hh) : ∃ d ms' h', enterA rd ⟨env, ms, h⟩ = some (d, ms', h') ∧ k d ms' h' = .ok r hh := by
  cases rd with
  | none =>
    have e : hNew h .marks (fun r h => k r (r :: ms) h) = .ok r hh := e
    rw [hNew_eq] at e
    exact ⟨_, _, _, rfl, e⟩
  | some l =>
    obtain ⟨o, ho, e⟩ := opt_ok e
    rw [hObj_eq] at ho
    obtain ⟨a, b, cc, d, n, rfl, e⟩ := asLoop_ok e
    exact ⟨n, ms, h, by simp only [enterA, ho], e⟩
theorem range_ok (hr : KLe kr ar) {g : Operand} {ps : Array Nat} {as body : Code} : ExOk c kr ar rd (.rangeFunc g ps as body) (rangeK c rd g ps as body) := by
  intro an env ms h ret ex k r hh e
  have e := keepK_ok ms h e
  rw [execA_range, keep_eq (S.mk env ms h) an]
  generalize ((S.mk env ms h).keep an).env = E at e
  have e := ev_ok (x := g) (k := fun gv => enterK rd ms h fun d ms h => hNew h (.loop .ready none E an.id d) fun l h => rngK c kr gv l h (fun h => k E ms h) (fun h => ret E ms h) fun i h => ex i E ms h) e
  obtain ⟨d, ms', h', h1, e⟩ := enterK_ok E e
  rw [hNew_eq] at e
  obtain ⟨x, h3, h2, h4⟩ := endA_ok hr (env := E) (marks := ms') e
  refine ⟨x, ⟨E, ms', h3⟩, ?_, ?_⟩
  · rw [h1]
    exact h2
  · cases x <;> exact h4
/-- code, whatever it is -/
theorem exec_ok (hr : KLe kr ar) : ∀ (code : Code), ExOk c kr ar rd code (exec c rd code)
  | .skip => fun an env ms h ret ex k r hh e => by
    have e := keepK_ok (an := an) (k := fun env => k env ms h) ms h e
    exact ⟨.norm, ⟨((S.mk env ms h).keep an).env, ms, h⟩, by unfold execA; rw [keep_eq (S.mk env ms h) an], e⟩
  | .label _ => fun an env ms h ret ex k r hh e => by
    have e := keepK_ok (an := an) (k := fun env => k env ms h) ms h e
    exact ⟨.norm, ⟨((S.mk env ms h).keep an).env, ms, h⟩, by unfold execA; rw [keep_eq (S.mk env ms h) an], e⟩
  | .exit i => fun an env ms h ret ex k r hh e => by
    have e := keepK_ok (an := an) (k := fun env => ex i env ms h) ms h e
    exact ⟨.exit i, ⟨((S.mk env ms h).keep an).env, ms, h⟩, by unfold execA; rw [keep_eq (S.mk env ms h) an], e⟩
  | .ret => fun an env ms h ret ex k r hh e => by
    have e := keepK_ok (an := an) (k := fun env => ret env ms h) ms h e
    exact ⟨.ret, ⟨((S.mk env ms h).keep an).env, ms, h⟩, by unfold execA; rw [keep_eq (S.mk env ms h) an], e⟩
  | .goto _ => fun an env ms h ret ex k r hh e => by cases e
  | .refuse _ => fun an env ms h ret ex k r hh e => by cases e
  | .region id q d => fun an env ms h ret ex k r hh e => by
    unfold execA
    cases d with
    | false =>
      have e := keepK_ok (an := an) (k := fun env => regK c kr q.toList q.toList env h fun env h => k env ms h) ms h e
      obtain ⟨env', h', h1, e⟩ := regK_ok hr _ _ _ _ e
      exact ⟨.norm, ⟨env', ms, h'⟩, by simp only [h1], e⟩
    | true =>
      have e := keepK_ok (an := an) (k := fun env => optS (plan c q.toList) fun l => planK c kr q.toList l [] env h fun env h => k env ms h) ms h e
      obtain ⟨l, h1, e⟩ := optS_ok e
      obtain ⟨env', h', h2, e⟩ := planK_ok hr l [] [] _ _ _ (fun _ _ _ => rfl) e
      exact ⟨.norm, ⟨env', ms, h'⟩, by simp only [h1, h2], e⟩
  | .seq a b => seq_ok (exec_ok hr a) (exec_ok hr b)
  | .cond o a b => fun an env ms h ret ex k r hh e => by
    have e := keepK_ok (an := an) (k := fun env => ev o env fun v => iteV v (exec c rd a an.l kr ret ex env ms h k) (exec c rd b an.r kr ret ex env ms h k)) ms h e
    have e := ev_ok (x := o) (k := fun v => iteV v (exec c rd a an.l kr ret ex ((S.mk env ms h).keep an).env ms h k) (exec c rd b an.r kr ret ex ((S.mk env ms h).keep an).env ms h k)) e
    unfold execA
    rw [keep_eq (S.mk env ms h) an]
    rcases iteV_ok e with ⟨h1, e⟩ | ⟨h1, e⟩
    · obtain ⟨x, s', h2, h3⟩ := exec_ok hr a _ _ _ _ _ _ _ _ _ e
      exact ⟨x, s', by simp only [h1]; exact h2, h3⟩
    · obtain ⟨x, s', h2, h3⟩ := exec_ok hr b _ _ _ _ _ _ _ _ _ e
      exact ⟨x, s', by simp only [h1]; exact h2, h3⟩
  | .block id b => fun an env ms h ret ex k r hh e => by
    have e := keepK_ok (an := an) (k := fun env => exec c rd b an.l kr ret (fun i env ms h => Bool.rec (motive := fun _ => KR) (ex i env ms h) (k env ms h) (Nat.beq i id)) env ms h k) ms h e
    obtain ⟨x, s', h2, h3⟩ := exec_ok hr b _ _ _ _ _ _ _ _ _ e
    unfold execA
    rw [keep_eq (S.mk env ms h) an, h2]
    cases x with
    | norm => exact ⟨.norm, s', rfl, h3⟩
    | ret => exact ⟨.ret, s', rfl, h3⟩
    | exit i =>
      have h3 : Bool.rec (motive := fun _ => KR) (ex i s'.env s'.marks s'.h) (k s'.env s'.marks s'.h) (Nat.beq i id) = .ok r hh := h3
      cases hb : Nat.beq i id with
      | true => rw [hb] at h3; exact ⟨.norm, s', by simp only [hb], h3⟩
      | false => rw [hb] at h3; exact ⟨.exit i, s', by simp only [hb], h3⟩
    | goto => exact h3.elim
    | pan => exact h3.elim
  | .loop b => loop_ok (exec_ok hr b)
  | .rangeFunc g ps as body => range_ok hr
  | .scope b => fun an env ms h ret ex k r hh e => by
    have e := keepK_ok (an := an) (k := fun env => exec c rd b an.l kr ret ex env ms h k) ms h e
    obtain ⟨x, s', h2, h3⟩ := exec_ok hr b _ _ _ _ _ _ _ _ _ e
    unfold execA
    rw [keep_eq (S.mk env ms h) an, h2]
    cases x with
    | goto => exact h3.elim
    | pan => exact h3.elim
    | _ => exact ⟨_, s', rfl, h3⟩

/-! ### functions -/
theorem argsK_ok : ∀ (n i : Nat) (env : T AV) (l : List AV) (k : T AV → KR), argsK n i env l k = .ok r hh → k (Am.setCells env i l) = .ok r hh
  | 0, i, env, l, k, e => by
    obtain ⟨rfl, e1⟩ := unnil_ok e
    exact e1
  | n + 1, i, env, l, k, e => by
    obtain ⟨v, t, rfl, e1⟩ := uncons_ok e
    rw [put_set] at e1
    exact argsK_ok n (i + 1) (env.set i v) t k e1
theorem resK_ok {env : T AV} {h : H} : ∀ (l : List ResultVar) (k : List AV → KR), resK c l env h k = .ok r hh → ∃ vs, resultsA c env h l = .ok vs ∧ k vs = .ok r hh
  | [], k, e => ⟨[], rfl, e⟩
  | .tmp t :: l, k, e => by
    obtain ⟨v, h1, e⟩ := optS_ok e
    obtain ⟨vs, h2, e⟩ := resK_ok l _ e
    rw [get_eq] at h1
    exact ⟨v :: vs, by simp only [resultsA, h2, evalO, h1], e⟩
  | .cell a t :: l, k, e => by
    obtain ⟨ti, h1, e⟩ := optS_ok e
    obtain ⟨v, h2, e⟩ := optS_ok e
    rw [get_eq] at h2
    cases ha : ti.isAgg with
    | true =>
      rw [ha] at e
      obtain ⟨id, off, h3, e⟩ := asPtr_ok e
      obtain ⟨x, h4, e⟩ := loads_ok e
      obtain ⟨vs, h5, e⟩ := resK_ok l _ e
      refine ⟨.agg x :: vs, ?_, e⟩
      simp only [resultsA, evalO, h2, h3, loadA, h1, ha, h4, h5]
    | false =>
      rw [ha] at e
      obtain ⟨id, off, h3, e⟩ := asPtr_ok e
      obtain ⟨x, h4, e⟩ := load1_ok e
      obtain ⟨vs, h5, e⟩ := resK_ok l _ e
      refine ⟨x :: vs, ?_, e⟩
      simp only [resultsA, evalO, h2, h3, loadA, h1, ha, h4, h5]
theorem unmarkK_ok : ∀ (ms : List Nat) (h : H) (k : H → KR), unmarkK ms h k = .ok r hh → ∃ h', unmark ms h = some h' ∧ k h' = .ok r hh
  | [], h, k, e => ⟨h, rfl, e⟩
  | m :: ms, h, k, e => by
    obtain ⟨o, h1, e⟩ := opt_ok e
    obtain ⟨rfl, e⟩ := asMarks_ok e
    rw [hKill_eq] at e
    rw [hObj_eq] at h1
    obtain ⟨h', h2, e⟩ := unmarkK_ok ms _ k e
    exact ⟨h', by simp only [unmark, h1, h2], e⟩
theorem oneV_eq (l : List AV) : oneV l = tupOf l := by
  match l with
  | [] => rfl
  | [v] => rfl
  | a :: b :: l => rfl
theorem finK_ok {l : List ResultVar} {env : T AV} {ms : List Nat} {h : H} (e : finK c l env ms h = .ok r hh) : ∃ h1 vs, unmark ms h = some h1 ∧ resultsA c env h1 l = .ok vs ∧ r = tupOf vs ∧ hh = h1 := by
  obtain ⟨h1, h2, e⟩ := unmarkK_ok _ _ _ e
  obtain ⟨vs, h3, e⟩ := resK_ok _ _ e
  cases e
  exact ⟨_, vs, h2, h3, oneV_eq vs, rfl⟩
/-- no call is known ahead -/
def NoSum (c : Ctx) : Prop := ∀ f, c.sum.get f = none
theorem fnK_ok {f n : Nat} {args : List AV} {h : H} (hs : ∀ s, c.sum.get f = some s → s args h = none) (hr : KLe kr ar) (e : fnK c f n kr args h = .ok r hh) : stepA c ar (.fn f) args h = .ok (r, hh) := by
  obtain ⟨fn, h1, e⟩ := optS_ok e
  obtain ⟨code, h2, e⟩ := optS_ok e
  have e := argsK_ok _ _ _ _ _ e
  rw [← ofList_eq] at e
  obtain ⟨x, s', h3, h4⟩ := exec_ok hr code _ _ _ _ _ _ _ _ _ e
  have key : ∀ {R1 : R (AV × H)}, (match execA c ar none code (anOf c f) ⟨T.ofList args, [], h⟩ with
        | .ok (x, s) => (match x with
          | .norm | .ret => match unmark s.marks s.h with
            | some h => match resultsA c s.env h fn.results.toList with
              | .ok vs => R.ok (tupOf vs, h)
              | .pan _ _ => .bad "results"
              | .bad w => .bad w
            | none => .bad "marks"
          | .pan v => match noDef code, unmark s.marks s.h with
            | true, some h => .pan v h
            | _, _ => .bad "a panic in a function that defers"
          | _ => .bad "a jump out of a function")
        | .pan _ _ => .bad "panic"
        | .bad w => .bad (w ++ "\n  in " ++ fn.name)) = R1 → stepA c ar (.fn f) args h = R1 := by
    intro R1 hR
    unfold stepA
    cases hq : c.sum.get f with
    | none => simp only [hq, h1, h2]; exact hR
    | some s => simp only [hq, hs s hq, h1, h2]; exact hR
  refine key ?_
  simp only [h3]
  cases x with
  | norm =>
    obtain ⟨h5, vs, h6, h7, rfl, rfl⟩ := finK_ok h4
    simp only [h6, h7]
  | ret =>
    obtain ⟨h5, vs, h6, h7, rfl, rfl⟩ := finK_ok h4
    simp only [h6, h7]
  | exit i => cases h4
  | goto => exact h4.elim
  | pan => exact h4.elim
theorem extK'_ok (hs : NoSum c) {f : Nat} {args : List AV} {h : H} (e : extK' c f kr args h = .ok r hh) : stepA c ar (.fn f) args h = .ok (r, hh) := by
  obtain ⟨fn, h1, e⟩ := opt_ok e
  unfold stepA
  simp only [hs f, h1]
  cases h2 : fn.body with
  | some code => rw [h2] at e; cases e
  | none =>
    rw [h2] at e
    obtain ⟨x, h3, e⟩ := opt_ok e
    obtain ⟨v, h', h4, e⟩ := rK_ok e
    cases e
    simp only [h3, h4]

/-! ### rounds -/
theorem rdyK_ok {st : LoopState} {x : KR} (e : rdyK st x = .ok r hh) : st = .ready ∧ x = .ok r hh := by
  cases st with
  | ready => exact ⟨rfl, e⟩
  | _ => cases e
theorem begR_ok {l : Nat} {h : H} {k : H → KR} (e : begR l h k = .ok r hh) : ∃ pend en rn d, h.obj l = some (.loop .ready pend en rn d) ∧ k (h.upd l (.loop .busy pend en rn d)) = .ok r hh := by
  obtain ⟨o, h1, e⟩ := opt_ok e
  obtain ⟨st, pend, en, rn, d, ho, e⟩ := asLoop_ok e
  obtain ⟨hst, e⟩ := rdyK_ok e
  rw [hUpd_eq] at e
  rw [hObj_eq, ho, hst] at h1
  exact ⟨pend, en, rn, d, h1, e⟩
theorem finR_ok {l : Nat} {h : H} {st : LoopState} {j : Option Code} {b : Bool} (e : finR l h st j b = .ok r hh) : ∃ s0 pend en rn d, h.obj l = some (.loop s0 pend en rn d) ∧ r = .bool b ∧ hh = h.upd l (.loop st j en rn d) := by
  obtain ⟨o, h1, e⟩ := opt_ok e
  obtain ⟨s0, pend, en, rn, d, ho, e⟩ := asLoop_ok e
  rw [hUpd_eq] at e
  rw [hObj_eq, ho] at h1
  cases e
  exact ⟨s0, pend, en, rn, d, h1, rfl, rfl⟩
/-- a slot's value: an argument's, or the one that was there -/
noncomputable def lk (base : T AV) (al : List (Nat × AV)) (t : Nat) : Option AV := match findA t al with
  | some v => some v
  | none => base.get t
theorem findA_cons {t p : Nat} {v : AV} {al : List (Nat × AV)} : findA t ((p, v) :: al) = if t = p then some v else findA t al := by
  have : findA t ((p, v) :: al) = Bool.rec (motive := fun _ => Option AV) (findA t al) (some v) (Nat.beq t p) := rfl
  rw [this]
  by_cases h : t = p
  · subst h; rw [if_pos rfl, show Nat.beq t t = true from beq_self t]
  · rw [if_neg h]
    cases hb : Nat.beq t p with
    | true => exact absurd (Nat.eq_of_beq_eq_true hb) h
    | false => rfl
theorem unArgs_ok (base : T AV) : ∀ (ps : List Nat) (args : List AV) (acc : List (Nat × AV)) (env : T AV) (k : List (Nat × AV) → KR), (∀ t, env.get t = lk base acc t) → unArgs ps args acc k = .ok r hh →
    ∃ env' al, Am.setParams env ps args = some env' ∧ k al = .ok r hh ∧ ∀ t, env'.get t = lk base al t
  | [], args, acc, env, k, hb, e => by
    obtain ⟨ha, e⟩ := unnil_ok e
    subst ha
    exact ⟨env, acc, rfl, e, hb⟩
  | p :: ps, args, acc, env, k, hb, e => by
    obtain ⟨v, t, ha, e1⟩ := uncons_ok e
    subst ha
    obtain ⟨env', al, h1, h2, h3⟩ := unArgs_ok base ps t ((p, v) :: acc) (env.set p v) k (fun s => by
      rw [T.get_set]
      unfold lk
      rw [findA_cons]
      by_cases hs : s = p
      · rw [if_pos hs, if_pos hs]
      · rw [if_neg hs, if_neg hs]; exact hb s) e1
    exact ⟨env', al, h1, h2, h3⟩
theorem pickR_ok {base env : T AV} {al : List (Nat × AV)} (hb : ∀ t, env.get t = lk base al t) : ∀ (l : List Nat) (k : List AV → KR), pickR l al base k = .ok r hh → ∃ vs, Picks env l vs ∧ k vs = .ok r hh
  | [], k, e => ⟨[], trivial, e⟩
  | t :: l, k, e => by
    have e : Option.rec (motive := fun _ => KR) (opt (get base t) fun v => pickR l al base fun vs => k (v :: vs)) (fun v => pickR l al base fun vs => k (v :: vs)) (findA t al) = .ok r hh := e
    have ht := hb t
    unfold lk at ht
    cases hf : findA t al with
    | some v =>
      rw [hf] at e ht
      obtain ⟨vs, h1, e⟩ := pickR_ok hb l _ e
      exact ⟨v :: vs, ⟨ht, h1⟩, e⟩
    | none =>
      rw [hf] at e ht
      obtain ⟨v, h1, e⟩ := opt_ok e
      obtain ⟨vs, h2, e⟩ := pickR_ok hb l _ e
      rw [get_eq] at h1
      exact ⟨v :: vs, ⟨ht.trans h1, h2⟩, e⟩
theorem rndK_ok (hr : KLe kr ar) {rn l : Nat} {args : List AV} {env : T AV} {h : H} {st : LoopState} {pend : Option Code} {d : Nat} (ho : h.obj l = some (.loop st pend env rn d)) (e : rndK c rn kr l args env h = .ok r hh) :
    stepA c ar (.yield l) args h = .ok (r, hh) := by
  obtain ⟨q, h1, e⟩ := optS_ok e
  obtain ⟨L, h2, e⟩ := optS_ok e
  obtain ⟨env1, al, h3, e, h4⟩ := unArgs_ok env q.ps args [] env _ (fun t => rfl) e
  obtain ⟨vs, h5, e⟩ := pickR_ok h4 L _ e
  have e := mkEnv_ok (k := fun env => exec c (some l) q.assign q.al kr (fun _ _ _ => .bad) (fun _ _ _ _ => .bad) env [] h fun env ms h => begR l h fun h =>
    exec c (some l) q.body q.ar kr (fun _ _ h => finR l h .done (some .ret) false) (fun i _ _ h => finR l h .done (some (.exit i)) false) env ms h fun _ _ h => finR l h .ready none true) h5 e
  obtain ⟨x, s1, h6, h7⟩ := exec_ok hr q.assign _ _ _ _ _ _ _ _ _ e
  have h6 : execA c ar (some l) q.assign q.al ⟨env1, [], h⟩ = .ok (x, s1) := by
    rw [← h6]
    refine execA_keep ?_
    rw [kept_eq h2, kept_eq h2]
    exact congrArg (fun e => S.mk e [] h) (keepT_keepT h5).symm
  cases x with
  | norm =>
    obtain ⟨pend1, en1, rn1, d1, h8, e⟩ := begR_ok h7
    obtain ⟨x, s2, h9, h10⟩ := exec_ok hr q.body _ _ _ _ _ _ _ _ _ e
    unfold stepA
    simp only [ho, h1, h3, h6, h8, h9]
    cases x with
    | norm =>
      obtain ⟨s0, pend2, en2, rn2, d2, h11, rfl, rfl⟩ := finR_ok h10
      simp only [h11]
    | ret =>
      obtain ⟨s0, pend2, en2, rn2, d2, h11, rfl, rfl⟩ := finR_ok h10
      simp only [h11]
    | exit i =>
      obtain ⟨s0, pend2, en2, rn2, d2, h11, rfl, rfl⟩ := finR_ok h10
      simp only [h11]
    | goto => exact h10.elim
    | pan => exact h10.elim
  | ret => cases h7
  | exit i => cases h7
  | goto => exact h7.elim
  | pan => exact h7.elim

/-! ### runs -/
def TbOk (c : Ctx) (tb : T FnC) : Prop := ∀ f g, tb.get f = some g → (∃ n, g.f = fnK c f n) ∨ g.f = extK' c f
def TyOk (c : Ctx) (ty : T RnC) : Prop := ∀ rn g, ty.get rn = some g → g.f = rndK c rn
theorem run_le (hs : NoSum c) {tb : T FnC} {ty : T RnC} (h1 : TbOk c tb) (h2 : TyOk c ty) : ∀ n, KLe (run tb ty n) (runA c n)
  | 0 => fun t a h v h' e => by cases e
  | n + 1 => fun t a h v h' e => by
    have ih := run_le hs h1 h2 n
    unfold runA
    cases t with
    | fn f =>
      obtain ⟨g, hg, e⟩ := opt_ok (o := get tb f) (k := fun g => FnC.rec (motive := fun _ => KRun → List AV → H → KR) (fun g => g) g (run tb ty n) a h) e
      rw [get_eq] at hg
      obtain ⟨gf⟩ := g
      rcases h1 f _ hg with ⟨m, hm⟩ | hm
      · have hm : gf = fnK c f m := hm
        subst hm
        exact fnK_ok (fun s h => by rw [hs f] at h; cases h) ih e
      · have hm : gf = extK' c f := hm
        subst hm
        exact extK'_ok hs e
    | yield l =>
      obtain ⟨o, ho, e⟩ := opt_ok (o := hObj h l) (k := fun o => asLoop o fun _ _ env r _ => opt (get ty r) fun g => RnC.rec (motive := fun _ => RnF) (fun g => g) g (run tb ty n) l a env h) e
      obtain ⟨st, pend, en, rn, d, hl, e⟩ := asLoop_ok e
      obtain ⟨g, hg, e⟩ := opt_ok e
      rw [get_eq] at hg
      rw [hObj_eq, hl] at ho
      obtain ⟨gf⟩ := g
      have hm : gf = rndK c rn := h2 rn _ hg
      subst hm
      exact rndK_ok ih ho e
theorem isTrue_ok {x : KR} (h : isTrue x = true) : ∃ h', x = .ok (.bool true) h' := by
  cases x with
  | bad => cases h
  | ok v h' =>
    cases v with
    | bool b => cases b with
      | true => exact ⟨h', rfl⟩
      | false => cases h
    | _ => cases h
end
end K
end Am

/- The tables of a seat fit its program: what the kernel is to compute. -/
namespace Am
open Go

/-! ### tries out of lists -/
def ofPairs {α : Type} : List (Nat × α) → T α
  | [] => .e
  | (k, v) :: l => (ofPairs l).set k v
theorem ofPairs_get {α : Type} : ∀ {l : List (Nat × α)} {k : Nat} {v : α}, (ofPairs l).get k = some v → (k, v) ∈ l
  | [], k, v, h => by unfold ofPairs at h; rw [T.get_e] at h; cases h
  | (j, w) :: l, k, v, h => by
    unfold ofPairs at h
    rw [T.get_set] at h
    split at h
    · rename_i e; subst e; cases h; exact List.mem_cons_self
    · exact List.mem_cons_of_mem _ (ofPairs_get h)
theorem mem_of_map_eq {α β : Type} {f g : α → β} : ∀ {l : List α}, l.map f = l.map g → ∀ x ∈ l, f x = g x
  | [], _, x, hx => nomatch hx
  | a :: l, h, x, hx => by
    simp only [List.map_cons, List.cons.injEq] at h
    rcases List.mem_cons.1 hx with rfl | hx
    · exact h.1
    · exact mem_of_map_eq h.2 x hx

/-! ### types -/
def zcOf (i : TypeInfo) : Option (List AV) := match i.zero with | some z => some (ofValue z).cells | none => none
structure TyE where
  i : TypeInfo
  d : TD
  g : Bool
def TyE.ti (x : TyE) : TI := ⟨x.i.size, x.i.bytes, x.d, zcOf x.i, x.g⟩
def fieldsOk (P : Program) : List (Nat × Nat × Nat × Bool) → List Field → Bool
  | [], [] => true
  | (o, t, s, b) :: l, f :: r => o.beq f.offset && t.beq f.type && (match P.info? f.type with | some i => s.beq i.size | none => false) && boolEq b (f.name == "_") && fieldsOk P l r
  | _, _ => false
def sizeOk (P : Program) (t z : Nat) : Bool := match P.info? t with | some i => i.size.beq z | none => false
def dOk (P : Program) (t : Nat) : TD → Bool
  | .bool => match P.underlying t with | some .bool => true | _ => false
  | .int k => match P.underlying t with | some (.int k') => kindEq k k' | _ => false
  | .str => match P.underlying t with | some .string => true | _ => false
  | .ptr e => match P.underlying t with | some (.pointer e') => e.beq e' | _ => false
  | .slice e z => match P.underlying t with | some (.slice e') => e.beq e' && sizeOk P e z | _ => false
  | .arr n e z => match P.underlying t with | some (.array n' e') => n.beq n' && e.beq e' && sizeOk P e z | _ => false
  | .map k e => match P.underlying t with | some (.map k' e') => k.beq k' && e.beq e' | _ => false
  | .struct fs => match P.underlying t with | some (.struct fields) => !(P.stoodInHeld t) && fieldsOk P fs fields.toList | _ => false
  | .func => match P.underlying t with | some (.func ..) => true | _ => false
  | .iface => match P.underlying t with | some (.interface _) => true | _ => false
  | .other => match P.underlying t with | some d => plainDesc d | _ => false
def tyOk (P : Program) (x : Nat × TyE) : Bool :=
  dOk P x.1 x.2.d && (x.2.g || !(x.2.ti.isAgg) || !(P.eqGuardType P.depth x.1)) && (match x.2.i.zero with | none => true | some zv => (ofValue zv).known && boolEq (isAggV zv) x.2.ti.isAgg)

theorem beqN {a b : Nat} (h : a.beq b = true) : a = b := Nat.eq_of_beq_eq_true h
theorem boolEq1 {a b : Bool} (h : boolEq a b = true) : a = b := by cases a <;> cases b <;> first | rfl | cases h
theorem kindEq1 {a b : IntKind} (h : kindEq a b = true) : a = b := by cases a <;> cases b <;> first | rfl | cases h
theorem sizeOk_eq {P : Program} {t z : Nat} (h : sizeOk P t z = true) : ∃ i, P.info? t = some i ∧ i.size = z := by
  unfold sizeOk at h
  split at h
  · rename_i i hi; exact ⟨i, hi, beqN h⟩
  · cases h
theorem fieldsOk_eq {P : Program} : ∀ {l : List (Nat × Nat × Nat × Bool)} {fs : List Field}, fieldsOk P l fs = true →
    (∀ f ∈ fs, ∃ i, P.info? f.type = some i) ∧ l = fs.map fun f => (f.offset, f.type, ((P.info? f.type).map (·.size)).getD 0, f.name == "_")
  | [], [], _ => ⟨fun _ h => (nomatch h), rfl⟩
  | (o, t, s, b) :: l, f :: r, h => by
    simp only [fieldsOk, Bool.and_eq_true] at h
    obtain ⟨⟨⟨⟨h1, h2⟩, h3⟩, h4⟩, h5⟩ := h
    obtain ⟨k1, k2⟩ := fieldsOk_eq h5
    split at h3
    · rename_i i hi
      have e1 := beqN h1
      have e2 := beqN h2
      have e3 := beqN h3
      have e4 := boolEq1 h4
      refine ⟨fun g hg => ?_, ?_⟩
      · rcases List.mem_cons.1 hg with rfl | hg
        · exact ⟨i, hi⟩
        · exact k1 g hg
      · rw [List.map_cons, ← k2, e1, e2, e3, e4, hi]; rfl
    · cases h3
  | [], _ :: _, h => by cases h
  | _ :: _, [], h => by cases h
theorem dOk_eq {P : Program} {t : Nat} {d : TD} (h : dOk P t d = true) : TDOk P t d := by
  cases d with
  | bool => simp only [dOk] at h; split at h <;> first | (cases h; done) | assumption
  | int k =>
    simp only [dOk] at h
    split at h
    · rename_i k' hu; have := kindEq1 h; subst this; exact hu
    · cases h
  | str => simp only [dOk] at h; split at h <;> first | (cases h; done) | assumption
  | ptr e =>
    simp only [dOk] at h
    split at h
    · rename_i e' hu; have := beqN h; subst this; exact hu
    · cases h
  | slice e z =>
    simp only [dOk] at h
    split at h
    · rename_i e' hu
      simp only [Bool.and_eq_true] at h
      have := beqN h.1; subst this; exact ⟨hu, sizeOk_eq h.2⟩
    · cases h
  | arr n e z =>
    simp only [dOk] at h
    split at h
    · rename_i n' e' hu
      simp only [Bool.and_eq_true] at h
      have h1 := beqN h.1.1
      have h2 := beqN h.1.2
      subst h1 h2
      exact ⟨hu, sizeOk_eq h.2⟩
    · cases h
  | map k e =>
    simp only [dOk] at h
    split at h
    · rename_i k' e' hu
      simp only [Bool.and_eq_true] at h
      have h1 := beqN h.1
      have h2 := beqN h.2
      subst h1 h2
      exact hu
    · cases h
  | struct fs =>
    simp only [dOk] at h
    split at h
    · rename_i fields hu
      simp only [Bool.and_eq_true, Bool.not_eq_true'] at h
      obtain ⟨k1, k2⟩ := fieldsOk_eq h.2
      exact ⟨fields, hu, h.1, k1, k2⟩
    · cases h
  | func => simp only [dOk] at h; split at h <;> first | (cases h; done) | exact ⟨_, _, _, by assumption⟩
  | iface => simp only [dOk] at h; split at h <;> first | (cases h; done) | exact ⟨_, by assumption⟩
  | other =>
    simp only [dOk] at h
    split at h
    · rename_i d hu; exact ⟨d, hu, h⟩
    · cases h
theorem tyOk_eq {P : Program} {t : Nat} {x : TyE} (hi : P.info? t = some x.i) (h : tyOk P (t, x) = true) : TIOk P t x.ti := by
  simp only [tyOk, Bool.and_eq_true, Bool.or_eq_true, Bool.not_eq_true'] at h
  obtain ⟨⟨h1, h2⟩, h3⟩ := h
  refine ⟨⟨x.i, hi, rfl, rfl, fun z hz => ?_⟩, dOk_eq h1, fun hg ha => ?_⟩
  · have hz : zcOf x.i = some z := hz
    unfold zcOf at hz
    split at hz
    · rename_i zv hzv
      cases hz
      rw [hzv] at h3
      simp only [Bool.and_eq_true] at h3
      exact ⟨zv, hzv, rfl, (fun hu => by rw [hu] at h3; cases h3.1), boolEq1 h3.2⟩
    · cases hz
  · rcases h2 with (h2 | h2) | h2
    · rw [show x.ti.guard = x.g from rfl] at hg; rw [hg] at h2; cases h2
    · rw [ha] at h2; cases h2
    · exact h2

/-! ### functions -/
def fnOk (x : Nat × Func) : Bool := !(x.2.name == "runtime.NumGoroutine") && (match x.2.body with | some code => codeOk x.2.ntmps code | none => true)
def rngsOfFn (c : Ctx) (x : Nat × Func) : List (Nat × Rng) := match x.2.body with | some code => rngs code (anOf c x.1) | none => []
def rngsOfRng (x : Nat × Rng) : List (Nat × Rng) := rngs x.2.assign x.2.al ++ rngs x.2.body x.2.ar
def allRngs (c : Ctx) (fl : List (Nat × Func)) (rl : List (Nat × Rng)) : List (Nat × Rng) := fl.flatMap (rngsOfFn c) ++ rl.flatMap rngsOfRng
theorem rngsOk_of {t : T Rng} : ∀ {l : List (Nat × Rng)}, (∀ x ∈ l, t.get x.1 = some x.2) → RngsOk t l
  | [], _ => trivial
  | x :: l, h => ⟨h x List.mem_cons_self, rngsOk_of fun y hy => h y (List.mem_cons_of_mem _ hy)⟩
theorem RngsOk.mem {t : T Rng} : ∀ {l : List (Nat × Rng)}, RngsOk t l → ∀ x ∈ l, t.get x.1 = some x.2
  | [], _, x, hx => nomatch hx
  | a :: l, h, x, hx => by
    rcases List.mem_cons.1 hx with rfl | hx
    · exact h.1
    · exact RngsOk.mem h.2 x hx
theorem cok_of {c : Ctx} {P : Program} {tl : List (Nat × TyE)} {fl : List (Nat × Func)} {rl : List (Nat × Rng)}
    (ht : c.ty = ofPairs (tl.map fun x => (x.1, x.2.ti))) (hf : c.fn = ofPairs fl) (hr : c.rng = ofPairs rl)
    (hi : tl.map (fun x => P.info? x.1) = tl.map fun x => some x.2.i) (hd : allB (tyOk P) tl = true)
    (hp : fl.map (fun x => P.funcs[x.1]?) = fl.map fun x => some x.2) (hk : allB fnOk fl = true)
    (hq : (allRngs c fl rl).map (fun x => c.rng.get x.1) = (allRngs c fl rl).map fun x => some x.2) (hm : P.follows .mixedOrders = true)
    (hn : allB (fun x => noDef x.2.assign && noDef x.2.body) rl = true) (hdf : ∀ g, (c.df.get g).isSome = true → QuietFn P g) : COk c P where
  ty t ti h := by
    rw [ht] at h
    obtain ⟨⟨k, x⟩, hx, e⟩ := List.mem_map.1 (ofPairs_get h)
    simp only [Prod.mk.injEq] at e
    obtain ⟨rfl, rfl⟩ := e
    exact tyOk_eq (mem_of_map_eq hi _ hx) (allB_iff.1 hd _ hx)
  fn f fn h := by
    rw [hf] at h
    have hx := ofPairs_get h
    have h1 := allB_iff.1 hk _ hx
    simp only [fnOk, Bool.and_eq_true, Bool.not_eq_true'] at h1
    refine ⟨mem_of_map_eq hp _ hx, h1.1, fun code hc => ⟨?_, ?_⟩⟩
    · have := h1.2; rw [hc] at this; exact this
    · refine rngsOk_of fun y hy => mem_of_map_eq hq y ?_
      refine List.mem_append_left _ (List.mem_flatMap.2 ⟨(f, fn), hx, ?_⟩)
      simp only [rngsOfFn, hc]; exact hy
  rng r q h := by
    rw [hr] at h
    have hx := ofPairs_get h
    have hall : ∀ y ∈ rngsOfRng (r, q), c.rng.get y.1 = some y.2 := fun y hy => mem_of_map_eq hq y (List.mem_append_right _ (List.mem_flatMap.2 ⟨(r, q), hx, hy⟩))
    exact ⟨rngsOk_of fun y hy => hall y (List.mem_append_left _ hy), rngsOk_of fun y hy => hall y (List.mem_append_right _ hy), by
      have := allB_iff.1 hn _ hx
      simpa only [Bool.and_eq_true] using this⟩
  df := hdf
  mixed := hm
theorem df_none {c : Ctx} {P : Program} (h : c.df = .e) : ∀ g, (c.df.get g).isSome = true → QuietFn P g := fun g hg => by rw [h, T.get_e] at hg; cases hg
theorem df_of {c : Ctx} {P : Program} {l : List Nat} (h : c.df = ofPairs (l.map fun g => (g, ()))) (hl : ∀ g ∈ l, QuietFn P g) : ∀ g, (c.df.get g).isSome = true → QuietFn P g := fun g hg => by
  cases hh : c.df.get g with
  | none => rw [hh] at hg; cases hg
  | some u =>
    rw [h] at hh
    obtain ⟨k, hk, e⟩ := List.mem_map.1 (ofPairs_get hh)
    simp only [Prod.mk.injEq] at e
    exact hl g (e.1 ▸ hk)
end Am

/- From the kernel's word to the model's call. -/
namespace Am
open Go Go.RowKit

def TbAll (c : Ctx) : List (Nat × K.FnC × Option Nat) → Prop
  | [] => True
  | (f, g, some n) :: l => K.fnK c f n = g.f ∧ TbAll c l
  | (f, g, none) :: l => K.extK' c f = g.f ∧ TbAll c l
theorem TbAll.mem {c : Ctx} : ∀ {l : List (Nat × K.FnC × Option Nat)}, TbAll c l → ∀ x ∈ l, (∃ n, x.2.1.f = K.fnK c x.1 n) ∨ x.2.1.f = K.extK' c x.1
  | [], _, x, hx => nomatch hx
  | (f, g, some n) :: l, h, x, hx => by
    rcases List.mem_cons.1 hx with rfl | hx
    · exact .inl ⟨n, h.1.symm⟩
    · exact TbAll.mem h.2 x hx
  | (f, g, none) :: l, h, x, hx => by
    rcases List.mem_cons.1 hx with rfl | hx
    · exact .inr h.1.symm
    · exact TbAll.mem h.2 x hx
theorem tbOk_of {c : Ctx} {tb : T K.FnC} {l : List (Nat × K.FnC × Option Nat)} (h : tb = ofPairs (l.map fun x => (x.1, x.2.1))) (ha : TbAll c l) : K.TbOk c tb := fun f g hg => by
  rw [h] at hg
  obtain ⟨x, hx, e⟩ := List.mem_map.1 (ofPairs_get hg)
  simp only [Prod.mk.injEq] at e
  obtain ⟨rfl, rfl⟩ := e
  exact ha.mem x hx
def TyAll (c : Ctx) : List (Nat × K.RnC) → Prop
  | [] => True
  | (r, g) :: l => K.rndK c r = g.f ∧ TyAll c l
theorem TyAll.mem {c : Ctx} : ∀ {l : List (Nat × K.RnC)}, TyAll c l → ∀ x ∈ l, x.2.f = K.rndK c x.1
  | [], _, x, hx => nomatch hx
  | (r, g) :: l, h, x, hx => by
    rcases List.mem_cons.1 hx with rfl | hx
    · exact h.1.symm
    · exact TyAll.mem h.2 x hx
theorem tyOk_of {c : Ctx} {ty : T K.RnC} {l : List (Nat × K.RnC)} (h : ty = ofPairs l) (ha : TyAll c l) : K.TyOk c ty := fun r g hg => by
  rw [h] at hg
  exact ha.mem _ (ofPairs_get hg)

theorem calls_of {c : Ctx} {P : Program} {G : Gd} {kr : K.KRun} {n f : Nat} {args : List AV} (hc : COk c P) (hX : ExtOk c P) (hS : SumOk c P G) (hle : K.KLe kr (runA c n))
    (hk : K.isTrue (kr (.fn f) args ⟨0, .e⟩) = true) (hx : c.ext.get f = none) {w : World} (hg : GOk c G w) {vs : List Value} (hv : VRels (fun _ => none) args vs) :
    CallsIn Fence.wide 0 P f ⟨vs⟩ w (RetE fun x w' => x = .bool true ∧ Below w.heap.size w w') := by
  obtain ⟨h', e⟩ := K.isTrue_ok hk
  have e := hle _ _ _ _ _ e
  obtain ⟨h1, h2⟩ := run_ok (G := G) hc hX hS n _ _ _ _ _ e
  have h0 : (⟨0, .e⟩ : H).ph = fun _ => none := by funext id; exact T.get_e _
  rcases h2 (fun _ => none) w vs hv (by rw [h0]; exact HRel.empty _ _ _) hg (fun _ _ _ => rfl) with ⟨h3, _⟩ | ⟨_, h3⟩
  · exact absurd hx h3
  · refine h3.mono fun en w' he => ?_
    cases en with
    | returned x =>
      obtain ⟨ρ', k1, k2, k3⟩ := he
      refine ⟨k1.ofBool, k3.os, k3.tape, k3.output, k3.size, fun b hb => ?_⟩
      obtain ⟨ob, hob⟩ : ∃ ob, w.heap[b]? = some ob := ⟨_, Array.getElem?_eq_getElem hb⟩
      rw [hob]
      refine k3.kept b ob hob fun k ⟨id, o, l, q1, q2, q3⟩ => ?_
      rw [h0] at q1; cases q1
    | panicked => exact he.elim
    | outgrown => exact he.elim
/-- with no fence -/
theorem calls_all {P : Program} {f : Nat} {args : Array Value} {w : World} {R : Value → World → Prop} (h : CallsIn Fence.wide 0 P f args w (RetE R)) : Calls P f args w fun e w' => ∃ x, e = .returned x ∧ R x w' :=
  (h.mono (R' := fun e w' => ∃ x, e = .returned x ∧ R x w') fun e w' he => by cases e <;> first | exact ⟨_, rfl, he⟩ | exact he.elim).calls room_wide
end Am

/- From the machine's word to a row: arguments that read behind the call as they did; what the listed variables hold; the shapes of values. -/
namespace Am
open Go Go.ChangeShapes Go.WideShapes Go.ChangeAt Go.RowKit Go.Joins

section
variable {H : Type} {enc : TypeId × Value → H} {P : Program}

/-! ### The post of a row that says 'true; the arguments read as they did' -/
theorem post_below {f : Func} {s : ChangeSpec} {apart fresh handsOn again : Bool} {W W' : World} {args : Array Value} {v : Value} {ds gs : List (DataW H)} {before pa pv : List MemPlace}
    (hW : DataW.Whole enc P f.params.toList s.vars apart W args.toList ds gs before)
    (hres : ∀ (b : Nat) (sp : Nat → Bool) (hd : Bool), DataW.TrodAll enc P W' b sp hd f.resultTypes.toList (v.resultList f.resultTypes.size) (s.fn H (ds ++ gs)).results [])
    (hargs : ∀ sp : Nat → Bool, (∀ p ∈ before, sp p.block = true) → DataW.TrodAll enc P W' 0 sp true f.params.toList args.toList (s.fn H (ds ++ gs)).args pa)
    (hvars : ∀ sp : Nat → Bool, (∀ p ∈ before, sp p.block = true) → DataW.TrodVars enc P W' sp s.vars (s.fn H (ds ++ gs)).vars pv)
    (hps : before = pa ++ pv) (hb : Below W.heap.size W W')
    (hok : ∀ (j : Nat) (t : TypeId) (r : Value), f.resultTypes[j]? = some t → (v.resultList f.resultTypes.size)[j]? = some r → Value.okWide P W' .any 0 t r) :
    s.post enc P f apart fresh handsOn again W args v W' := by
  have hlt : ∀ p ∈ before, p.block < W.heap.size := fun p hp => hW.lt p hp
  have hold : ∀ p ∈ before, (fun b => decide (b < W.heap.size)) p.block = true := fun p hp => by simpa using hlt p hp
  refine ⟨ds, gs, before, [], pa, pv, hW, hres _ _ _, hargs _ hold, hvars _ hold, World.keptBut_mono (fun p hp => ⟨hp, ?_⟩) (hb.frame (· ∈ before)), fun _ => ?_⟩
  · rw [hps, List.mem_append] at hp
    exact Or.inr hp
  · obtain ⟨_, _, _, _, _, hz, hn⟩ := hW
    refine ⟨hok, _, _, ([] ++ pa) ++ pv, ⟨[] ++ pa, pv, trodAll_append (hargs _ (fun _ _ => rfl)) (hres _ _ _), hvars _ (fun _ _ => rfl), rfl, ?_, ?_⟩, ?_⟩
    · intro b off hp
      have hin : MemPlace.cell b off ∈ before := by rw [hps]; simpa using hp
      rw [hb.frozen (hlt _ hin)]
      exact hz b off hin
    · intro ha
      have := hn ha
      rw [hps] at this
      simpa using this
    · intro p hp _
      rw [hps]
      simpa using hp

theorem trodAll_stays (hl : laidOutB P = true) {W W' : World} {sp : Nat → Bool} : ∀ {ts : List TypeId} {vs : List Value} {ds : List (DataW H)} {ps : List MemPlace},
    allB (fun t => P.readableRec t && decide (t < P.types.size)) ts = true → DataW.TrodAll enc P W 0 (fun _ => true) true ts vs ds ps → (∀ p ∈ ps, W.sameAt W' p) → (∀ p ∈ ps, sp p.block = true) → DataW.TrodAll enc P W' 0 sp true ts vs ds ps
  | [], [], [], ps, _, h, _, _ => h
  | t :: ts, v :: vs, d :: ds, ps, hr, ⟨p, q, h1, h2, h3⟩, hs, hsp => by
    have hr' := allB_iff.1 hr t List.mem_cons_self
    simp only [Bool.and_eq_true, decide_eq_true_eq] at hr'
    subst h3
    refine ⟨p, q, WideElems.Trod_stays hl hr'.1 hr'.2 h1 (fun x hx => hs x (List.mem_append_left _ hx)) (fun x hx => hsp x (List.mem_append_left _ hx)), ?_, rfl⟩
    refine trodAll_stays hl (allB_iff.2 fun x hx => allB_iff.1 hr x (List.mem_cons_of_mem _ hx)) h2 (fun x hx => hs x (List.mem_append_right _ hx)) (fun x hx => hsp x (List.mem_append_right _ hx))
  | [], [], _ :: _, _, _, h, _, _ => h.elim
  | [], _ :: _, _, _, _, h, _, _ => h.elim
  | _ :: _, [], _, _, _, h, _, _ => h.elim
  | _ :: _, _ :: _, [], _, _, h, _, _ => h.elim

theorem row_contract {s : ChangeSpec} {f : FuncId} {fn : Func} {t4 : TypeId} (hl : laidOutB P = true) (hps : allB (fun t => P.readableRec t && decide (t < P.types.size)) fn.params.toList = true) (hres : fn.resultTypes = #[t4])
    (hbool : P.underlying t4 = some .bool) (hvars : s.vars = []) (hspec : ∀ ds : List (DataW H), ds.length = fn.params.toList.length → s.fn H (ds ++ []) = { results := [.lit (.bool true)], args := ds })
    {W : World} {args : Array Value} {ds gs : List (DataW H)} {before : List MemPlace} (hW : DataW.Whole enc P fn.params.toList s.vars false W args.toList ds gs before)
    (hcalls : Calls P f args W fun e W' => ∃ x, e = .returned x ∧ x = .bool true ∧ Below W.heap.size W W') :
    Calls P f args W fun e W' => ∃ v, e = .returned v ∧ s.post enc P fn false true false false W args v W' := by
  refine hcalls.mono fun e W' ⟨x, he, hx, hb⟩ => ?_
  subst he; subst hx
  refine ⟨_, rfl, ?_⟩
  have hlt : ∀ p ∈ before, p.block < W.heap.size := fun p hp => hW.lt p hp
  have hW' := hW
  obtain ⟨p, q, hA, hV, rfl, hfz, hnd⟩ := hW'
  rw [hvars] at hV
  obtain ⟨rfl, rfl⟩ := trodVars_none hV
  have hsp := hspec ds (Go.trodAll_length hA).2
  refine post_below (pa := p) (pv := []) hW (fun _ _ _ => ?_) (fun sp hs => ?_) (fun sp hs => ?_) rfl hb ?_
  · rw [hsp, hres]; exact trodAll_mk1 (shut_bool hbool true)
  · rw [hsp]
    exact trodAll_stays hl hps hA (fun x hx => hb.same (hlt x (List.mem_append_left _ hx))) (fun x hx => hs x (List.mem_append_left _ hx))
  · rw [hsp, hvars]; rfl
  · exact ok_one hres rfl (okWide_bool_mk hbool true)
end

/-! ### The shapes of values -/
inductive Leaf where
  | int (k : IntKind) | bool | str | any
def LeafOk : Leaf → Value → Prop
  | .int k, v => ∃ n, v = .int k n
  | .bool, v => ∃ b, v = .bool b
  | .str, v => ∃ s, v = .string s
  | .any, _ => True
def LeafAll : List Leaf → List Value → Prop
  | [], vs => vs = []
  | k :: ks, vs => ∃ v r, vs = v :: r ∧ LeafOk k v ∧ LeafAll ks r
theorem LeafAll.length : ∀ {ks : List Leaf} {vs : List Value}, LeafAll ks vs → vs.length = ks.length
  | [], _, h => by cases h; rfl
  | _ :: _, _, ⟨_, _, e, _, h⟩ => by subst e; simp [LeafAll.length h]
theorem LeafAll.append : ∀ {ks ks' : List Leaf} {vs vs' : List Value}, LeafAll ks vs → LeafAll ks' vs' → LeafAll (ks ++ ks') (vs ++ vs')
  | [], _, _, _, h, h' => by cases h; simpa using h'
  | _ :: _, _, _, _, ⟨v, r, e, h1, h2⟩, h' => by subst e; exact ⟨v, r ++ _, rfl, h1, LeafAll.append h2 h'⟩
def fieldsLeaves (P : Program) (rc : TypeId → Option (List Leaf)) : List Field → Nat → Option (List Leaf)
  | [], _ => some []
  | f :: fs, o => match rc f.type with
    | some l => match f.offset.beq o && (P.cellsOf f.type).beq l.length, fieldsLeaves P rc fs (o + l.length) with
      | true, some r => some (l ++ r)
      | _, _ => none
    | none => none
def leavesOf (P : Program) : Nat → TypeId → Option (List Leaf)
  | 0, _ => none
  | n + 1, t => match P.underlying t with
    | some (.int k) => some [.int k]
    | some .bool => some [.bool]
    | some .string => some [.str]
    | some (.slice _) => some [.any]
    | some (.struct fs) => match fieldsLeaves P (leavesOf P n) fs.toList 0 with
      | some l => match (P.cellsOf t).beq l.length with | true => some l | false => none
      | none => none
    | _ => none
section
variable {H : Type} {enc : TypeId × Value → H} {P : Program} {w : World} {base : Nat} {spare : Nat → Bool} {held : Bool}
theorem fieldsLeaves_ok {rc : TypeId → Option (List Leaf)} {cs : List Value} : ∀ (fs : List Field) (o : Nat) (ks : List Leaf), fieldsLeaves P rc fs o = some ks → o + ks.length = cs.length →
    (∀ f ∈ fs, ∀ l, rc f.type = some l → LeafAll l ((cs.drop f.offset).take (P.cellsOf f.type))) → LeafAll ks (cs.drop o)
  | [], o, ks, h, hlen, _ => by
    cases h
    simp only [List.length_nil, Nat.add_zero] at hlen
    rw [hlen, List.drop_length]; rfl
  | f :: fs, o, ks, h, hlen, hf => by
    unfold fieldsLeaves at h
    split at h
    · rename_i l hl
      split at h
      · rename_i r hb hr
        cases h
        simp only [Bool.and_eq_true] at hb
        have h1 := Nat.eq_of_beq_eq_true hb.1
        have h2 := Nat.eq_of_beq_eq_true hb.2
        simp only [List.length_append] at hlen
        have hh := hf f List.mem_cons_self l hl
        rw [h1, h2] at hh
        have ih := fieldsLeaves_ok fs (o + l.length) r hr (by omega) (fun g hg => hf g (List.mem_cons_of_mem _ hg))
        have e : cs.drop o = (cs.drop o).take l.length ++ cs.drop (o + l.length) := by
          rw [← List.drop_drop, List.take_append_drop]
        rw [e]
        exact hh.append ih
      · cases h
    · cases h
theorem trod_leaves : ∀ (n fuel : Nat) (t : TypeId) (cs : List Value) (x : DataW H × List MemPlace) (ks : List Leaf), leavesOf P n t = some ks → DataW.trod enc P w base spare held fuel t cs = some x → LeafAll ks cs
  | 0, _, _, _, _, _, h, _ => by cases h
  | n + 1, fuel, t, cs, x, ks, h, hd => by
    unfold leavesOf at h
    split at h
    · rename_i k hu
      cases h
      obtain ⟨m, rfl, _⟩ := DataW.trod_int hu hd
      exact ⟨_, _, rfl, ⟨m, rfl⟩, rfl⟩
    · rename_i hu
      cases h
      obtain ⟨m, rfl, _⟩ := DataW.trod_bool hu hd
      exact ⟨_, _, rfl, ⟨m, rfl⟩, rfl⟩
    · rename_i hu
      cases h
      obtain ⟨m, rfl, _⟩ := DataW.trod_string hu hd
      exact ⟨_, _, rfl, ⟨m, rfl⟩, rfl⟩
    · rename_i e hu
      cases h
      rcases DataW.trod_slice hu hd with ⟨rfl, _⟩ | ⟨a, len, cap, el, rest, m, _, rfl, _⟩
      · exact ⟨_, _, rfl, trivial, rfl⟩
      · exact ⟨_, _, rfl, trivial, rfl⟩
    · rename_i fs hu
      split at h
      · rename_i l hl
        split at h
        · rename_i hb
          cases h
          have hb := Nat.eq_of_beq_eq_true hb
          obtain ⟨xs, m, _, _, hlen, hxl, hf⟩ := DataW.trod_struct hu hd
          have := fieldsLeaves_ok (P := P) (cs := cs) fs.toList 0 _ hl (by omega) (fun f hfm l hl' => by
            obtain ⟨i, hi, rfl⟩ := List.getElem_of_mem hfm
            have hi' : i < fs.size := by simpa using hi
            have e := hf i fs[i] (by simp [hi'])
            have hx : i < xs.length := by omega
            rw [List.getElem?_eq_getElem hx] at e
            have e2 : fs.toList[i] = fs[i] := by simp
            rw [e2] at hl' ⊢
            exact trod_leaves n m _ _ _ _ hl' e)
          simpa using this
        · cases h
      · cases h
    · cases h
theorem open_leaves {r : Reach} {b0 : Nat} {t : TypeId} {fs : Array Field} {v : Value} {d : DataW H} {p : List MemPlace} {ks : List Leaf} (hs : P.underlying t = some (.struct fs)) (hk : leavesOf P 8 t = some ks)
    (hv : Value.okWide P w r b0 t v) (h : DataW.Trod enc P w base spare held t v d p) : ∃ cs : List Value, v = .agg ⟨cs⟩ ∧ LeafAll ks cs := by
  obtain ⟨cs, rfl, hsz⟩ := okWide_struct hs hv
  obtain ⟨fuel, hf⟩ := h
  exact ⟨cs.toList, rfl, trod_leaves 8 fuel t _ _ ks hk hf⟩
end

/-! ### What the listed variables hold -/
def litA : Lit → Option AV
  | .bool b => some (.bool b)
  | .int k n => some (.int k n)
  | .string s => some (.str (s.map UInt8.toNat))
  | _ => none
def flatL : List (DataW Unit) → Option (List AV)
  | [] => some []
  | .lit l :: r => match litA l, flatL r with
    | some v, some s => some (v :: s)
    | _, _ => none
  | _ :: _ => none
def flatD : DataW Unit → Option (List AV)
  | .agg ps => flatL ps
  | _ => none
/-- a type of one cell -/
def basicB (P : Program) (t : TypeId) : Bool := (match P.underlying t with | some (.int _) => true | some .bool => true | some .string => true | _ => false) && (P.cellsOf t).beq 1
def basicFields (P : Program) : List Field → Nat → Bool
  | [], _ => true
  | f :: fs, o => f.offset.beq o && basicB P f.type && basicFields P fs (o + 1)
def flatTy (P : Program) (t : TypeId) (n : Nat) : Bool := (P.cellsOf t).beq n && (match P.underlying t with
  | some (.array m e) => m.beq n && basicB P e
  | some (.struct fs) => fs.size.beq n && basicFields P fs.toList 0
  | _ => false)
section
variable {P : Program} {w : World} {base : Nat} {spare : Nat → Bool} {held : Bool}
theorem basic_cell {t : TypeId} {fuel : Nat} {cs : List Value} {y : DataW Unit × List MemPlace} (hb : basicB P t = true) (h : DataW.trod (fun _ => ()) P w base spare held fuel t cs = some y) :
    ∃ x l, cs = [x] ∧ y.1 = .lit l ∧ ∀ v, litA l = some v → ∀ ρ, VRel ρ v x := by
  unfold basicB at hb
  simp only [Bool.and_eq_true] at hb
  obtain ⟨hb, _⟩ := hb
  split at hb
  · rename_i k hu
    obtain ⟨m, rfl, rfl, _⟩ := DataW.trod_int hu h
    exact ⟨_, _, rfl, rfl, fun v hv ρ => by cases hv; exact .int _ _⟩
  · rename_i hu
    obtain ⟨m, rfl, rfl⟩ := DataW.trod_bool hu h
    exact ⟨_, _, rfl, rfl, fun v hv ρ => by cases hv; exact .bool _⟩
  · rename_i hu
    obtain ⟨m, rfl, rfl, _⟩ := DataW.trod_string hu h
    exact ⟨_, _, rfl, rfl, fun v hv ρ => by cases hv; exact .str _⟩
  · cases hb
theorem flatL_get : ∀ {ps : List (DataW Unit)} {l : List AV}, flatL ps = some l → l.length = ps.length ∧ ∀ (i : Nat) (v : AV), l[i]? = some v → ∃ q : Lit, ps[i]? = some (.lit q) ∧ litA q = some v
  | [], l, h => by cases h; exact ⟨rfl, fun i v hv => by simp at hv⟩
  | .lit q :: r, l, h => by
    unfold flatL at h
    split at h
    · rename_i v s h1 h2
      cases h
      obtain ⟨k1, k2⟩ := flatL_get h2
      refine ⟨by simp [k1], fun i u hu => ?_⟩
      cases i with
      | zero => simp only [List.getElem?_cons_zero, Option.some.injEq] at hu; subst hu; exact ⟨q, rfl, h1⟩
      | succ i => exact k2 i u (by simpa using hu)
    · cases h
  | .nil :: _, _, h => by cases h
  | .ptr _ :: _, _, h => by cases h
  | .slice _ _ :: _, _, h => by cases h
  | .agg _ :: _, _, h => by cases h
  | .iface _ _ :: _, _, h => by cases h
  | .map _ :: _, _, h => by cases h
  | .held _ :: _, _, h => by cases h
theorem basicFields_get : ∀ {fs : List Field} {o : Nat}, basicFields P fs o = true → ∀ (i : Nat) (f : Field), fs[i]? = some f → f.offset = o + i ∧ basicB P f.type = true
  | [], _, _, i, f, hf => by simp at hf
  | g :: fs, o, h, i, f, hf => by
    simp only [basicFields, Bool.and_eq_true] at h
    cases i with
    | zero => simp only [List.getElem?_cons_zero, Option.some.injEq] at hf; subst hf; exact ⟨Nat.eq_of_beq_eq_true h.1.1, h.1.2⟩
    | succ i =>
      obtain ⟨k1, k2⟩ := basicFields_get h.2 i f (by simpa using hf)
      exact ⟨by omega, k2⟩
theorem basicB_one {t : TypeId} (h : basicB P t = true) : P.cellsOf t = 1 := by
  unfold basicB at h
  simp only [Bool.and_eq_true] at h
  exact Nat.eq_of_beq_eq_true h.2
theorem drop_take_one {cs : List Value} {i : Nat} {x : Value} (h : (cs.drop i).take 1 = [x]) : cs[i]? = some x := by
  have := congrArg (·[0]?) h
  simpa [List.getElem?_take, List.getElem?_drop] using this
theorem flat_cells {t : TypeId} {fuel n : Nat} {cs : List Value} {ps : List (DataW Unit)} {p : List MemPlace} {l : List AV} (hf : flatTy P t n = true) (hn : n = l.length) (hl : flatL ps = some l)
    (h : DataW.trod (fun _ => ()) P w base spare held fuel t cs = some (.agg ps, p)) : ∀ (i : Nat) (v : AV), l[i]? = some v → ∃ x, cs[i]? = some x ∧ ∀ ρ, VRel ρ v x := by
  unfold flatTy at hf
  simp only [Bool.and_eq_true] at hf
  obtain ⟨hc, hf⟩ := hf
  obtain ⟨k1, k2⟩ := flatL_get hl
  split at hf
  · rename_i m e hu
    simp only [Bool.and_eq_true] at hf
    have hm := Nat.eq_of_beq_eq_true hf.1
    obtain ⟨xs, m1, _, hx, _, hlen, hel⟩ := DataW.trod_array hu h
    simp only [Prod.mk.injEq, DataW.agg.injEq] at hx
    intro i v hv
    obtain ⟨q, q1, q2⟩ := k2 i v hv
    have hi : i < l.length := (List.getElem?_eq_some_iff.mp hv).1
    have hxi : i < xs.length := by omega
    have he := hel i (by omega)
    rw [List.getElem?_eq_getElem hxi, basicB_one hf.2, Nat.mul_one] at he
    obtain ⟨x, l', r1, r2, r3⟩ := basic_cell hf.2 he
    have e1 : ps[i]? = some (xs[i]).1 := by rw [hx.1]; simp [hxi]
    rw [r2, q1] at e1
    simp only [Option.some.injEq, DataW.lit.injEq] at e1
    subst e1
    exact ⟨x, drop_take_one r1, r3 v q2⟩
  · rename_i fs hu
    simp only [Bool.and_eq_true] at hf
    have hm := Nat.eq_of_beq_eq_true hf.1
    obtain ⟨xs, m1, _, hx, _, hlen, hel⟩ := DataW.trod_struct hu h
    simp only [Prod.mk.injEq, DataW.agg.injEq] at hx
    intro i v hv
    obtain ⟨q, q1, q2⟩ := k2 i v hv
    have hi : i < l.length := (List.getElem?_eq_some_iff.mp hv).1
    have hxi : i < xs.length := by omega
    have hfi : i < fs.size := by omega
    obtain ⟨b1, b2⟩ := basicFields_get hf.2 i fs[i] (by simp [hfi])
    have he := hel i fs[i] (by simp [hfi])
    rw [List.getElem?_eq_getElem hxi, basicB_one b2, b1, Nat.zero_add] at he
    obtain ⟨x, l', r1, r2, r3⟩ := basic_cell b2 he
    have e1 : ps[i]? = some (xs[i]).1 := by rw [hx.1]; simp [hxi]
    rw [r2, q1] at e1
    simp only [Option.some.injEq, DataW.lit.injEq] at e1
    subst e1
    exact ⟨x, drop_take_one r1, r3 v q2⟩
  · cases hf
end

/-- a variable as the machine's table has it -/
structure GlE where
  g : Nat
  t : T AV
  l : List AV
def VarIs (W : World) (x : GlE) : Prop := ∃ arr elem fr, W.heap[x.g]? = some (.cells arr elem fr) ∧ ∀ (i : Nat) (v : AV), x.l[i]? = some v → ∃ y, arr[i]? = some y ∧ ∀ ρ, VRel ρ v y
def laidB (P : Program) : List (String × DataW Unit) → List GlE → Bool
  | [], [] => true
  | (n, _) :: r, x :: s => (match P.globalNamed n with | some g => g.beq x.g | none => false) && (match (P.globals[x.g]?).map (·.type) with | some t => flatTy P t x.l.length | none => false) && laidB P r s
  | _, _ => false
theorem var_heap {P : Program} {w : World} {n : String} {g : Nat} {cs : Array Value} (hg : P.globalNamed n = some g) (h : w.var? P n = some cs) : ∃ e fr, w.heap[g]? = some (.cells cs e fr) := by
  simp only [World.var?, hg, Option.bind_some] at h
  split at h
  · rename_i a e fr hh; cases h; exact ⟨e, fr, hh⟩
  · cases h
theorem vars_of_laid {P : Program} {W : World} : ∀ {laid : List (String × DataW Unit)} {L : List GlE} {ps : List MemPlace}, laidB P laid L = true → laid.map (fun x => flatD x.2) = L.map (fun x => some x.l) → DataW.LaidVars P W laid ps → ∀ x ∈ L, VarIs W x
  | [], [], _, _, _, _, x, hx => nomatch hx
  | [], _ :: _, _, h, _, _, _, _ => by cases h
  | (n, d) :: r, [], _, h, _, _, _, _ => by cases h
  | (n, d) :: r, y :: L, ps, h, hd, ⟨g, t, cs, fuel, p, q, hg, ht, hv, htr, hrest, _⟩, x, hx => by
    simp only [laidB, Bool.and_eq_true] at h
    obtain ⟨⟨h1, h2⟩, h3⟩ := h
    simp only [List.map_cons, List.cons.injEq] at hd
    rw [hg] at h1
    have h1 : g = y.g := Nat.eq_of_beq_eq_true h1
    rcases List.mem_cons.1 hx with rfl | hx
    · rw [← h1, ht] at h2
      have h2 : flatTy P t x.l.length = true := h2
      obtain ⟨e, fr, hh⟩ := var_heap hg hv
      refine ⟨cs, e, fr, by rw [← h1]; exact hh, fun i v hi => ?_⟩
      cases d with
      | agg ds =>
        obtain ⟨z, z1, z2⟩ := flat_cells h2 rfl hd.1 htr i v hi
        exact ⟨z, by simpa using z1, z2⟩
      | _ => cases hd.1
    · exact vars_of_laid h3 hd.2 hrest x hx
theorem gOk_of {c : Ctx} {P : Program} {G : Gd} {W : World} {laid : List (String × DataW Unit)} {L : List GlE} (h1 : c.gl = ofPairs (L.map fun x => (x.g, (x.l.length, x.t)))) (h2 : L.map (fun x => (List.range x.l.length).map x.t.get) = L.map fun x => x.l.map some)
    (h3 : laidB P laid L = true) (h4 : laid.map (fun x => flatD x.2) = L.map (fun x => some x.l)) (h5 : G.rng = c.rng) (h6 : allB (fun x => Nat.blt x.g G.n) L = true) (h7 : G.n = 0 ∨ ∃ x ∈ L, G.n = x.g + 1)
    (hL : laidMet P laid W) : GOk c G W := by
  obtain ⟨ps, hv, _⟩ := hL
  have hall := vars_of_laid h3 h4 hv
  refine ⟨h5, ?_, fun g n t hg => ?_⟩
  · rcases h7 with h7 | ⟨x, hx, h7⟩
    · omega
    · obtain ⟨arr, e, fr, hh, _⟩ := hall x hx
      have := (Array.getElem?_eq_some_iff.mp hh).1
      omega
  · rw [h1] at hg
    obtain ⟨x, hx, e⟩ := List.mem_map.1 (ofPairs_get hg)
    simp only [Prod.mk.injEq] at e
    obtain ⟨rfl, rfl, rfl⟩ := e
    refine ⟨Nat.blt_eq.mp (allB_iff.1 h6 x hx), ?_⟩
    obtain ⟨arr, e, fr, hh, hc⟩ := hall x hx
    refine ⟨arr, e, fr, hh, fun k hk => ?_⟩
    have ht := mem_of_map_eq h2 x hx
    have e1 := congrArg (·[k]?) ht
    simp only [List.getElem?_map, List.getElem?_range hk, Option.map_some] at e1
    rw [List.getElem?_eq_getElem hk, Option.map_some] at e1
    have e2 : x.t.get k = some x.l[k] := Option.some.inj e1
    obtain ⟨y, y1, y2⟩ := hc k x.l[k] (List.getElem?_eq_getElem hk)
    exact ⟨_, y, e2, y1, y2⟩
/-! ### The one function without a Go body -/
theorem indexOf_eq (b : Nat) (hb : b < 256) : ∀ (l : List UInt8) (i : Nat), indexOf b (l.map UInt8.toNat) i = if Lib.indexByte l b.toUInt8 = -1 then -1 else (i : Int) + Lib.indexByte l b.toUInt8
  | [], i => rfl
  | a :: l, i => by
    have ih := indexOf_eq b hb l (i + 1)
    have hge := Lib.indexByte_ge l b.toUInt8
    have e0 : indexOf b ((a :: l).map UInt8.toNat) i = match a.toNat.beq b with | true => Int.ofNat i | false => indexOf b (l.map UInt8.toNat) (i + 1) := rfl
    have e1 : Lib.indexByte (a :: l) b.toUInt8 = if (a == b.toUInt8) = true then 0 else if (Lib.indexByte l b.toUInt8 == -1) = true then -1 else Lib.indexByte l b.toUInt8 + 1 := rfl
    have hab : (a == b.toUInt8) = a.toNat.beq b := by
      rw [Bool.eq_iff_iff]
      simp only [beq_iff_eq, Nat.beq_eq]
      constructor
      · intro h; subst h; simp; omega
      · intro h; subst h; simp
    rw [hab] at e1
    rw [e0]
    cases hc : a.toNat.beq b with
    | true =>
      rw [hc] at e1
      simp only [if_true] at e1
      rw [e1]; simp
    | false =>
      rw [hc] at e1
      simp only [Bool.false_eq_true, if_false, beq_iff_eq] at e1
      show indexOf b (l.map UInt8.toNat) (i + 1) = _
      rw [ih]
      by_cases h1 : Lib.indexByte l b.toUInt8 = -1
      · rw [if_pos h1] at e1 ⊢; rw [e1]; simp
      · rw [if_neg h1] at e1 ⊢
        rw [if_neg (by omega), e1]
        omega
theorem extOk_index {c : Ctx} {P : Program} {f : Nat} {fn : Func} (hext : ∀ g e, c.ext.get g = some e → g = f) (hf : P.funcs[f]? = some fn) (hname : (fn.name == "runtime.NumGoroutine") = false) (hbody : fn.body.isNone = true)
    (hn : Extern.findNext fn = none) (he : Extern.find fn = some Extern.BytealgIndexByte.indexByte) : ExtOk c P := by
  intro g e hg args h v h' hx
  have := hext g e hg
  subst this
  unfold extA at hx
  split at hx
  · rename_i s b
    split at hx
    · rename_i hb
      cases hx
      have hb := Nat.blt_eq.mp hb
      refine ⟨rfl, fun ρ w vs hv => ?_⟩
      cases hv with
      | cons _ _ _ _ h1 h2 =>
      cases h2 with
      | cons _ _ _ _ h3 h4 =>
      cases h4
      obtain ⟨y, rfl, rfl⟩ := h1.ofStr
      cases h3
      refine ⟨.int .i64 (indexOf b (ofBytes y) 0), ?_, .int _ _⟩
      rw [run_callFunc_extern hf hname hbody hn he]
      rw [show (⟨[Value.string y, Value.int .u8 (Int.ofNat b)]⟩ : Array Value) = #[Value.string y, Value.int .u8 (Int.ofNat b)] from rfl, Lib.run_indexByteString]
      have e1 := indexOf_eq b hb y.data.toList 0
      have e2 : (Int.ofNat b).toNat.toUInt8 = b.toUInt8 := rfl
      have e3 : ofBytes y = y.data.toList.map UInt8.toNat := rfl
      rw [e2, e3, e1]
      simp only [Result.andThen_ok]
      by_cases h1 : Lib.indexByte y.data.toList b.toUInt8 = -1
      · simp [h1]
      · simp [h1]
    · cases hx
  · cases hx
end Am

/- What is known of calls: the machine's fast form with a table of known calls; calls of flat arguments, run on the empty heap, are known in every heap. -/
namespace Am
open Go
namespace K
section
variable {c : Ctx} {r : AV} {hh : H}
/-- a function of which some calls are known -/
noncomputable def sumFK (s : Sum) (g : KRun → List AV → H → KR) : KRun → List AV → H → KR := fun run args h =>
  Option.rec (motive := fun _ => KR) (g run args h) (fun q => Prod.rec (motive := fun _ => KR) (fun v h => .ok v h) q) (s args h)
def TbOkS (c : Ctx) (tb : T FnC) : Prop := ∀ f g, tb.get f = some g → (c.sum.get f = none ∧ ((∃ n, g.f = fnK c f n) ∨ g.f = extK' c f)) ∨ ∃ s n, c.sum.get f = some s ∧ g.f = sumFK s (fnK c f n)
theorem extK_none {f : Nat} {kr : KRun} {ar : Run} {args : List AV} {h : H} (hs : c.sum.get f = none) (e : extK' c f kr args h = .ok r hh) : stepA c ar (.fn f) args h = .ok (r, hh) := by
  have := extK'_ok (c := { c with sum := .e }) (ar := ar) (kr := kr) (fun f => T.get_e f) (f := f) (args := args) (h := h) (r := r) (hh := hh) e
  unfold stepA at this ⊢
  simp only [hs]
  have e0 : (T.e : T Sum).get f = none := T.get_e f
  simp only [e0] at this
  obtain ⟨fn, h1, e⟩ := opt_ok e
  simp only [h1] at this ⊢
  cases hb : fn.body with
  | none => simp only [hb] at this ⊢; exact this
  | some code =>
    rw [hb] at e; cases e
theorem run_leS {tb : T FnC} {ty : T RnC} (h1 : TbOkS c tb) (h2 : TyOk c ty) : ∀ n, KLe (run tb ty n) (runA c n)
  | 0 => fun t a h v h' e => by cases e
  | n + 1 => fun t a h v h' e => by
    have ih := run_leS h1 h2 n
    unfold runA
    cases t with
    | fn f =>
      obtain ⟨g, hg, e⟩ := opt_ok (o := get tb f) (k := fun g => FnC.rec (motive := fun _ => KRun → List AV → H → KR) (fun g => g) g (run tb ty n) a h) e
      rw [get_eq] at hg
      obtain ⟨gf⟩ := g
      rcases h1 f _ hg with ⟨hs, ⟨m, hm⟩ | hm⟩ | ⟨s, m, hs, hm⟩
      · have hm : gf = fnK c f m := hm
        subst hm
        exact fnK_ok (fun s h => by rw [hs] at h; cases h) ih e
      · have hm : gf = extK' c f := hm
        subst hm
        exact extK_none hs e
      · have hm : gf = sumFK s (fnK c f m) := hm
        subst hm
        have e : sumFK s (fnK c f m) (run tb ty n) a h = .ok v h' := e
        unfold sumFK at e
        cases hq : s a h with
        | none =>
          rw [hq] at e
          exact fnK_ok (fun s1 h => by rw [hs] at h; cases h; exact hq) ih e
        | some q =>
          obtain ⟨v1, h1⟩ := q
          rw [hq] at e
          cases e
          unfold stepA
          simp only [hs, hq]
    | yield l =>
      obtain ⟨o, ho, e⟩ := opt_ok (o := hObj h l) (k := fun o => asLoop o fun _ _ env r _ => opt (get ty r) fun g => RnC.rec (motive := fun _ => RnF) (fun g => g) g (run tb ty n) l a env h) e
      obtain ⟨st, pend, en, rn, d, hl, e⟩ := asLoop_ok e
      obtain ⟨g, hg, e⟩ := opt_ok e
      rw [get_eq] at hg
      rw [hObj_eq, hl] at ho
      obtain ⟨gf⟩ := g
      have hm : gf = rndK c rn := h2 rn _ hg
      subst hm
      exact rndK_ok ih ho e
end
end K
/-- the same tables, with known calls -/
def Ctx.with (c : Ctx) (s : T Sum) : Ctx := ⟨c.ty, c.fn, c.an, c.rng, c.ext, c.gl, s, c.df⟩
theorem fnK_with (c : Ctx) (s : T Sum) (f n : Nat) : K.fnK (c.with s) f n = K.fnK c f n := by cases c; kernel_rfl
theorem rndK_with (c : Ctx) (s : T Sum) (f : Nat) : K.rndK (c.with s) f = K.rndK c f := by cases c; kernel_rfl
theorem extK_with (c : Ctx) (s : T Sum) (f : Nat) : K.extK' (c.with s) f = K.extK' c f := by cases c; kernel_rfl
theorem COk.with {c : Ctx} {P : Program} (h : COk c P) (s : T Sum) : COk (c.with s) P := ⟨h.ty, h.fn, h.rng, h.df, h.mixed⟩
theorem ExtOk.with {c : Ctx} {P : Program} (h : ExtOk c P) (s : T Sum) : ExtOk (c.with s) P := h
theorem GOk.with {c : Ctx} {G : Gd} {w : World} (h : GOk c G w) (s : T Sum) : GOk (c.with s) G w := ⟨h.rng, h.size, h.gl⟩
theorem GOk.without {c : Ctx} {G : Gd} {w : World} {s : T Sum} (h : GOk (c.with s) G w) : GOk c G w := ⟨h.rng, h.size, h.gl⟩
theorem TyOk.with {c : Ctx} {ty : T K.RnC} (h : K.TyOk c ty) (s : T Sum) : K.TyOk (c.with s) ty := fun r g hg => by rw [rndK_with]; exact h r g hg

/-! ### Flat values: no address stands in them -/
mutual
def AV.flat : AV → Bool
  | .bool _ | .int _ _ | .str _ | .nilPtr | .nilSlice | .nilMap | .nilFunc | .nilIface => true
  | .agg l => AV.flats l
  | .tup l => AV.flats l
  | .iface _ v => AV.flat v
  | _ => false
def AV.flats : List AV → Bool
  | [] => true
  | v :: l => AV.flat v && AV.flats l
end
mutual
theorem VRel.flat {ρ ρ' : Rho} : ∀ {v : AV} {x : Value}, v.flat = true → VRel ρ v x → VRel ρ' v x
  | .bool _, _, _, .bool _ => .bool _
  | .int _ _, _, _, .int _ _ => .int _ _
  | .str _, _, _, .str _ => .str _
  | .nilPtr, _, _, .nilPtr => .nilPtr
  | .nilSlice, _, _, .nilSlice => .nilSlice
  | .nilMap, _, _, .nilMap => .nilMap
  | .nilFunc, _, _, .nilFunc => .nilFunc
  | .nilIface, _, _, .nilIface => .nilIface
  | .agg _, _, h, .agg _ _ k => .agg _ _ (VRels.flat (by unfold AV.flat at h; exact h) k)
  | .tup _, _, h, .tup _ _ k => .tup _ _ (VRels.flat (by unfold AV.flat at h; exact h) k)
  | .iface _ _, _, h, .iface _ _ _ k => .iface _ _ _ (VRel.flat (by unfold AV.flat at h; exact h) k)
theorem VRels.flat {ρ ρ' : Rho} : ∀ {l : List AV} {cs : List Value}, AV.flats l = true → VRels ρ l cs → VRels ρ' l cs
  | [], _, _, .nil => .nil
  | _ :: _, _, h, .cons _ _ _ _ k1 k2 => by
    unfold AV.flats at h
    simp only [Bool.and_eq_true] at h
    exact .cons _ _ _ _ (VRel.flat h.1 k1) (VRels.flat h.2 k2)
end

/-- a call of flat arguments that was run on the empty heap, and gave something flat, gives that in every heap, and leaves it alone -/
theorem known_run {c : Ctx} {P : Program} {G : Gd} (hc : COk c P) (hX : ExtOk c P) (hS : SumOk c P G) {k f : Nat} {args : List AV} {v : AV} {h0 : H} (hrun : runA c k (.fn f) args ⟨0, .e⟩ = .ok (v, h0)) (ha : AV.flats args = true) (hv : v.flat = true)
    (hx : c.ext.get f = none) (c' : Ctx) (h : H) (ρ : Rho) (w : World) (vs : List Value) (hvs : VRels ρ args vs) (hr : HRel G ρ h.ph w) (hg : GOk c G w) : FnOk c' P f ⟨vs⟩ w (Ret G ρ h w v h) := by
  obtain ⟨h1, h2⟩ := run_ok (G := G) hc hX hS k _ _ _ _ _ hrun
  have e0 : (⟨0, .e⟩ : H).ph = fun _ => none := by funext id; exact T.get_e _
  rcases h2 (fun _ => none) w vs (hvs.flat ha) (by rw [e0]; exact HRel.empty _ _ _) hg (fun _ _ _ => rfl) with ⟨h3, _⟩ | ⟨h3, h4⟩
  · exact absurd hx h3
  refine .inr ⟨h3, h4.mono fun en w' he => ?_⟩
  cases en with
  | panicked => exact he.elim
  | outgrown => exact he.elim
  | returned x =>
    obtain ⟨ρ', k1, k2, k3⟩ := he
    have same : ∀ b ob, w.heap[b]? = some ob → w'.heap[b]? = some ob := fun b ob hb => k3.kept b ob hb fun k ⟨id, o, l, q1, _, _⟩ => by rw [e0] at q1; cases q1
    refine ⟨ρ, VRel.flat hv k1, ⟨fun id o ho => ?_, hr.disj, hr.low⟩, ⟨ρ.le_refl, fun _ _ => rfl, k3.size, fun b ob hb _ => same b ob hb, fun b arr el fr hb => ⟨arr, same b _ hb, rfl, fun _ _ => rfl⟩, fun _ _ _ ho => ho, (fun id o q1 q2 => by rw [q1] at q2; cases q2), k3.os, k3.output, k3.tape⟩⟩
    obtain ⟨l, ob, q1, q2, q3⟩ := hr.obj id o ho
    exact ⟨l, ob, q1, same _ _ q2, q3⟩

/-! ### Lists of functions with known calls -/
structure SE where
  f : Nat
  n : Nat
  g : K.KRun → List AV → H → K.KR
  s : Sum
noncomputable def sumOf : List SE → T Sum
  | [] => .e
  | x :: l => (sumOf l).set x.f x.s
noncomputable def tbOf (tb : T K.FnC) : List SE → T K.FnC
  | [] => tb
  | x :: l => (tbOf tb l).set x.f ⟨K.sumFK x.s x.g⟩
theorem sumOf_get : ∀ {l : List SE} {f : Nat} {s : Sum}, (sumOf l).get f = some s → ∃ x ∈ l, x.f = f ∧ x.s = s
  | [], f, s, h => by unfold sumOf at h; rw [T.get_e] at h; cases h
  | x :: l, f, s, h => by
    unfold sumOf at h
    rw [T.get_set] at h
    split at h
    · rename_i e; cases h; exact ⟨x, List.mem_cons_self, e.symm, rfl⟩
    · obtain ⟨y, hy, e⟩ := sumOf_get h
      exact ⟨y, List.mem_cons_of_mem _ hy, e⟩
theorem tbOf_get {tb : T K.FnC} : ∀ {l : List SE} {f : Nat} {g : K.FnC}, (tbOf tb l).get f = some g → ((sumOf l).get f = none ∧ tb.get f = some g) ∨ ∃ x ∈ l, x.f = f ∧ (sumOf l).get f = some x.s ∧ g = ⟨K.sumFK x.s x.g⟩
  | [], f, g, h => .inl ⟨T.get_e f, h⟩
  | x :: l, f, g, h => by
    unfold tbOf at h
    unfold sumOf
    rw [T.get_set] at h ⊢
    split at h
    · rename_i e
      cases h
      exact .inr ⟨x, List.mem_cons_self, e.symm, by simp [e], rfl⟩
    · rename_i e
      simp only [e, if_false]
      rcases tbOf_get h with h | ⟨y, hy, h⟩
      · exact .inl h
      · exact .inr ⟨y, List.mem_cons_of_mem _ hy, h⟩
theorem tbOkS_of {c : Ctx} {tb tbS : T K.FnC} {l : List SE} (h : K.TbOk c tb) (he : tbS = tbOf tb l) (hl : ∀ x ∈ l, K.fnK c x.f x.n = x.g) : K.TbOkS (c.with (sumOf l)) tbS := fun f g hg => by
  rw [he] at hg
  rcases tbOf_get hg with ⟨h1, h2⟩ | ⟨x, hx, rfl, h2, rfl⟩
  · refine .inl ⟨h1, ?_⟩
    rcases h f g h2 with ⟨n, h3⟩ | h3
    · exact .inl ⟨n, by rw [fnK_with]; exact h3⟩
    · exact .inr (by rw [extK_with]; exact h3)
  · exact .inr ⟨x.s, x.n, h2, by rw [fnK_with, hl x hx]⟩
/-- what a known call owes -/
def SOk (c : Ctx) (P : Program) (G : Gd) (x : SE) : Prop := ∀ args h v h', x.s args h = some (v, h') → h.next ≤ h'.next ∧
  ∀ (ρ : Rho) (w : World) (vs : List Value), VRels ρ args vs → HRel G ρ h.ph w → GOk c G w → Free ρ h.next h'.next → FnOk c P x.f ⟨vs⟩ w (Ret G ρ h w v h')
theorem sumOk_of {c : Ctx} {P : Program} {G : Gd} {l : List SE} (h : ∀ x ∈ l, SOk c P G x) : SumOk (c.with (sumOf l)) P G := fun f s args h0 v h' hs hq => by
  obtain ⟨x, hx, rfl, rfl⟩ := sumOf_get hs
  obtain ⟨h1, h2⟩ := h x hx args h0 v h' hq
  exact ⟨h1, fun ρ w vs q1 q2 q3 q4 => h2 ρ w vs q1 q2 q3.without q4⟩

/-! ### Calls that were run ahead -/
def natV (v : AV) : Nat := match v with | .int _ (.ofNat n) => n | _ => 0
noncomputable def keyF (l : List AV) : Nat → Nat := List.rec (motive := fun _ => Nat → Nat) (fun a => a) (fun v _ ih a => ih (Nat.add (Nat.mul a (nat_lit 31)) (natV v))) l
noncomputable def keyS (l : List Nat) : Nat → Nat := List.rec (motive := fun _ => Nat → Nat) (fun a => a) (fun n _ ih a => ih (Nat.add (Nat.mul a (nat_lit 31)) n)) l
noncomputable def keyA (l : List AV) : Nat → Nat := List.rec (motive := fun _ => Nat → Nat) (fun a => a) (fun v _ ih a => ih (match v with | .agg l => keyF l a | .str s => keyS s a | v => Nat.add (Nat.mul a (nat_lit 31)) (natV v))) l
noncomputable def keyOf (l : List AV) : Nat := Nat.mod (keyA l (nat_lit 0)) (nat_lit 511)
noncomputable def memoS (t : T (List AV × AV)) : Sum := fun args h => match K.get t (keyOf args) with
  | some (a, v) => match AV.sames args a with
    | true => some (v, h)
    | false => none
  | none => none
noncomputable def isRes (r : K.KR) (v : AV) : Bool := K.KR.rec (motive := fun _ => Bool) (fun u _ => AV.same u v) false r
noncomputable def memoOk (tb : T K.FnC) (ty : T K.RnC) (n f : Nat) (l : List (List AV × AV)) : Bool := allB (fun e => AV.flats e.1 && AV.flat e.2 && isRes (K.run tb ty n (.fn f) e.1 ⟨nat_lit 0, .e⟩) e.2) l
theorem memo_sok {c : Ctx} {P : Program} {G : Gd} {tb : T K.FnC} {ty : T K.RnC} (hc : COk c P) (hX : ExtOk c P) (hS : SumOk c P G) {n f m : Nat} {g : K.KRun → List AV → H → K.KR} (hle : K.KLe (K.run tb ty n) (runA c n))
    {L : List (List AV × AV)} {t : T (List AV × AV)} (ht : t = ofPairs (L.map fun e => (keyOf e.1, e))) (hok : memoOk tb ty n f L = true) (hx : c.ext.get f = none) : SOk c P G ⟨f, m, g, memoS t⟩ := by
  intro args h v h' hq
  have hq : memoS t args h = some (v, h') := hq
  unfold memoS at hq
  split at hq
  · rename_i a u hg
    split at hq
    · rename_i hs
      cases hq
      have := sames_eq _ _ hs
      subst this
      rw [K.get_eq, ht] at hg
      obtain ⟨e, he, ee⟩ := List.mem_map.1 (ofPairs_get hg)
      simp only [Prod.mk.injEq] at ee
      obtain ⟨_, rfl⟩ := ee
      have hk := allB_iff.1 hok _ he
      simp only [Bool.and_eq_true] at hk
      obtain ⟨⟨k1, k2⟩, k3⟩ := hk
      refine ⟨Nat.le_refl _, fun ρ w vs q1 q2 q3 q4 => ?_⟩
      cases hr : K.run tb ty n (.fn f) args ⟨0, .e⟩ with
      | bad => rw [hr] at k3; cases k3
      | ok z h0 =>
        rw [hr] at k3
        have e9 : z = v := same_eq _ _ k3
        subst e9
        exact known_run hc hX hS (hle _ _ _ _ _ hr) k1 k2 hx c h ρ w vs q1 q2 q3
    · cases hq
  · cases hq
def SeAll (p : SE → Prop) : List SE → Prop
  | [] => True
  | x :: l => p x ∧ SeAll p l
theorem SeAll.mem {p : SE → Prop} : ∀ {l : List SE}, SeAll p l → ∀ x ∈ l, p x
  | [], _, x, hx => nomatch hx
  | y :: l, h, x, hx => by
    rcases List.mem_cons.1 hx with rfl | hx
    · exact h.1
    · exact SeAll.mem h.2 x hx
end Am

/- The fast form on values that are left open: what each operation comes to. -/
namespace Am
open Go
namespace K
section
variable {c : Ctx} {k : IntKind} {x y : Int} {t : Nat} {b : Bool} {g : AV → KR}
theorem oK_some (v : AV) : oK (some v) g = g v := fV_eq v g
theorem kWrap_eq (n : Nat) : kWrap k n g = g (.int k (wrapN k n)) := by
  unfold kWrap wrapN
  rw [fN_eq]
  cases hb : Nat.ble n (maxOf k) with
  | true => rfl
  | false => simp only [fI_eq]
theorem nats_int {v : AV} {f : IntKind → Nat → Nat → KR} : nats (some v) (.int k x) (.int k y) g f = match x, y with
    | .ofNat m, .ofNat n => f k m n
    | _, _ => g v := by
  show intOr _ _ _ = _
  unfold intOr asInt
  cases x with
  | ofNat m => cases y with
    | ofNat n => simp only [kindEq_self]; rfl
    | negSucc n => exact oK_some v
  | negSucc m => exact oK_some v
theorem binV_int {op : BinOp} (h1 : op ≠ .shl) (h2 : op ≠ .shr) : binV c op t b (.int k x) (.int k y) = intBin op k x y := by
  unfold binV binOpA
  cases op <;> first | (simp only [kindEq_self]; done) | exact absurd rfl h1 | exact absurd rfl h2
theorem addK_int : addK (binV c .add t b (.int k x) (.int k y)) (.int k x) (.int k y) g = g (.int k (addI k x y)) := by
  unfold addK
  rw [binV_int (by decide) (by decide)]
  simp only [intBin, nats_int]
  cases x <;> cases y <;> first | rfl | exact kWrap_eq _
theorem mulK_int : mulK (binV c .mul t b (.int k x) (.int k y)) (.int k x) (.int k y) g = g (.int k (mulI k x y)) := by
  unfold mulK
  rw [binV_int (by decide) (by decide)]
  simp only [intBin, nats_int]
  cases x <;> cases y <;> first | rfl | exact kWrap_eq _
theorem subK_int : subK (binV c .sub t b (.int k x) (.int k y)) (.int k x) (.int k y) g = g (.int k (subI k x y)) := by
  unfold subK
  rw [binV_int (by decide) (by decide)]
  simp only [intBin, nats_int]
  cases x with
  | negSucc m => rfl
  | ofNat m => cases y with
    | negSucc n => rfl
    | ofNat n =>
      simp only [subI]
      cases hb : Nat.ble n m with
      | true => exact kWrap_eq _
      | false => exact oK_some _
theorem cmp_int {op : BinOp} {r : Bool} {f : IntKind → Nat → Nat → KR} (h1 : op ≠ .shl) (h2 : op ≠ .shr) (hr : intBin op k x y = some (.bool r)) (hf : ∀ m n, x = .ofNat m → y = .ofNat n → f k m n = g (.bool r)) :
    nats (binV c op t b (.int k x) (.int k y)) (.int k x) (.int k y) g f = g (.bool r) := by
  rw [binV_int h1 h2, hr, nats_int]
  cases x with
  | negSucc m => rfl
  | ofNat m => cases y with
    | negSucc n => rfl
    | ofNat n => exact hf m n rfl rfl
theorem eqK_int : eqK (binV c .eql t b (.int k x) (.int k y)) (.int k x) (.int k y) g = g (.bool (eqI x y)) :=
  cmp_int (by decide) (by decide) rfl fun m n hx hy => by subst hx hy; exact fB_eq _ _
theorem neK_int : neK (binV c .neq t b (.int k x) (.int k y)) (.int k x) (.int k y) g = g (.bool (!(eqI x y))) :=
  cmp_int (by decide) (by decide) rfl fun m n hx hy => by
    subst hx hy
    show fB (Nat.beq m n) _ = g (.bool (!(Nat.beq m n)))
    rw [fB_eq]; cases Nat.beq m n <;> rfl
theorem ltK_int : ltK (binV c .lss t b (.int k x) (.int k y)) (.int k x) (.int k y) g = g (.bool (ltI x y)) :=
  cmp_int (by decide) (by decide) rfl fun m n hx hy => by
    subst hx hy
    show fB (Nat.ble (m + 1) n) _ = g (.bool (!(Nat.ble n m)))
    rw [fB_eq, not_ble]
theorem leK_int : leK (binV c .leq t b (.int k x) (.int k y)) (.int k x) (.int k y) g = g (.bool (leI x y)) :=
  cmp_int (by decide) (by decide) rfl fun m n hx hy => by subst hx hy; exact fB_eq _ _
theorem gtK_int : gtK (binV c .gtr t b (.int k x) (.int k y)) (.int k x) (.int k y) g = g (.bool (ltI y x)) :=
  cmp_int (by decide) (by decide) rfl fun m n hx hy => by
    subst hx hy
    show fB (Nat.ble (n + 1) m) _ = g (.bool (!(Nat.ble m n)))
    rw [fB_eq, not_ble]
theorem geK_int : geK (binV c .geq t b (.int k x) (.int k y)) (.int k x) (.int k y) g = g (.bool (leI y x)) :=
  cmp_int (by decide) (by decide) rfl fun m n hx hy => by subst hx hy; exact fB_eq _ _
theorem letK_eq {α : Type} (a : α) (f : α → KR) : letK a f = f a := rfl
theorem guK_t (r : Bool) (p q : KR) : guK true (.bool r) p q = bif r then p else q := by cases r <;> rfl
theorem guK_f (r : Bool) (p q : KR) : guK false (.bool r) p q = bif r then q else p := by cases r <;> rfl
theorem iteV_b (r : Bool) (p q : KR) : iteV (.bool r) p q = bif r then p else q := by cases r <;> rfl
theorem pickK_b (r : Bool) (u v : AV) : pickK (.bool r) u v g = bif r then g u else g v := by cases r <;> rfl
theorem retK_of {r : KR} {v : AV} {h : H} {f : AV → H → KR} (e : r = .ok v h) : retK r f = f v h := by rw [e]; rfl
theorem callFK_of {run : KRun} {f : Nat} {args : List AV} {h h' : H} {v : AV} {q : AV → H → KR} (e : run (.fn f) args h = .ok v h') : callFK run f args h q = q v h' := retK_of e

/-! ### the heap -/
theorem opt_some {α : Type} (a : α) (f : α → KR) : opt (some a) f = f a := rfl
theorem getCells_of : ∀ (n : Nat) (t : T AV) (off : Nat) (f : List AV → KR) (l : List AV), Am.getCells t off n = some l → getCells t n off f = f l
  | 0, t, off, f, l, e => by unfold Am.getCells at e; cases e; rfl
  | n + 1, t, off, f, l, e => by
    show opt (get t off) (fun v => fN (Nat.add off 1) fun off => getCells t n off fun l => f (v :: l)) = _
    unfold Am.getCells at e
    split at e
    · cases e
    · rename_i v hv
      split at e
      · cases e
      · rename_i l' hl
        cases e
        rw [get_eq, hv, opt_some, fN_eq]
        exact getCells_of n t (off + 1) _ l' hl
theorem loads_of {h : H} {id off n : Nat} {l : List AV} {f : List AV → KR} (e : h.loads id off n = some l) : loads h id off n f = f l := by
  unfold H.loads at e
  unfold loads
  rw [hObj_eq]
  split at e
  · rename_i m t ho
    split at e
    · rename_i hb
      have hb : Nat.ble (Nat.add off n) m = true := hb
      rw [ho, opt_some]
      show req (Nat.ble (Nat.add off n) m) (getCells t n off f) = _
      rw [hb]
      exact getCells_of _ _ _ _ _ e
    · cases e
  · cases e
theorem load1_of {h : H} {id off : Nat} {v : AV} {f : AV → KR} (e : h.loads id off 1 = some [v]) : load1 h id off f = f v := by
  unfold H.loads at e
  unfold load1
  rw [hObj_eq]
  split at e
  · rename_i m t ho
    split at e
    · rename_i hb
      have hb : Nat.ble (Nat.succ off) m = true := hb
      rw [ho, opt_some]
      show req (Nat.ble (Nat.succ off) m) (opt (get t off) f) = _
      rw [hb, get_eq]
      unfold Am.getCells at e
      split at e
      · cases e
      · rename_i u hu
        rw [hu]
        simp only [Am.getCells, Option.some.injEq, List.cons.injEq, and_true] at e
        subst e
        rfl
    · cases e
  · cases e
theorem stores_of {h h' : H} {id off : Nat} {l : List AV} {f : H → KR} (e : h.stores id off l = some h') : stores h id off l f = f h' := by
  unfold H.stores at e
  unfold stores
  rw [hObj_eq]
  split at e
  · rename_i m t ho
    split at e
    · rename_i hb hc
      cases e
      have hb : Nat.ble (Nat.add off l.length) m = true := hb
      rw [ho, opt_some, len_eq]
      show req (Nat.ble (Nat.add off l.length) m) (req (allB AV.isCell l) (setCells l t off fun t => hUpd h id (some (.cells m t)) f)) = _
      rw [hb, hc]
      show setCells l t off _ = _
      rw [setCells_eq, hUpd_eq]
    · cases e
  · cases e
theorem store1_of {h h' : H} {id off : Nat} {v : AV} {f : H → KR} (e : h.stores id off [v] = some h') : store1 h id off v f = f h' := by
  unfold H.stores at e
  unfold store1
  rw [hObj_eq]
  split at e
  · rename_i m t ho
    split at e
    · rename_i hb hc
      cases e
      have hb : Nat.ble (Nat.succ off) m = true := hb
      rw [ho, opt_some]
      show req (Nat.ble (Nat.succ off) m) (put t off (some v) fun t => hUpd h id (some (.cells m t)) f) = _
      rw [hb]
      show put t off (some v) _ = _
      rw [put_set, hUpd_eq]; rfl
    · cases e
  · cases e
theorem ldK_of {h : H} {id off : Nat} {v : AV} (e : h.loads id off 1 = some [v]) : ldK c t (.ptr id off) h g = g v := load1_of e
theorem ldsK_of {h : H} {id off n : Nat} {l : List AV} (e : h.loads id off n = some l) : ldsK c t n (.ptr id off) h g = g (.agg l) := loads_of e
theorem boxK_agg (l : List AV) (h : H) (f : AV → H → KR) : boxK (.agg l) h f = f (.ptr (Am.newCells l h).1 0) (Am.newCells l h).2 := newCells_eq l h _
theorem boxK_int (h : H) (f : AV → H → KR) : boxK (.int k x) h f = f (.ptr (Am.newCells [.int k x] h).1 0) (Am.newCells [.int k x] h).2 := hNew_eq h (.cells 1 ⟨.no (some (.int k x))⟩) fun id h => f (.ptr id 0) h
theorem allocK_eq (n : Nat) (tr : T AV) (h : H) (f : AV → H → KR) : allocK n tr h f = f (.ptr (h.new (.cells n tr)).1 0) (h.new (.cells n tr)).2 := hNew_eq h _ _
theorem fldK_ptr (o id off : Nat) : fldK o (.ptr id off) g = g (.ptr id (off + o)) := fN_eq (off + o) fun off => g (.ptr id off)
theorem fldK_gptr (o id off : Nat) : fldK o (.gptr id off) g = g (.gptr id (off + o)) := fN_eq (off + o) fun off => g (.gptr id off)
theorem stsK_of {h h' : H} {id off n : Nat} {l : List AV} {f : H → KR} (hn : l.length = n) (e : h.stores id off l = some h') : stsK n (.ptr id off) (.agg l) h f = f h' := by
  show req (Nat.beq (len l) n) (stores h id off l f) = _
  rw [len_eq, hn, Nat.beq_refl]
  exact stores_of e
theorem stK_int {h h' : H} {id off : Nat} {f : H → KR} (e : h.stores id off [.int k x] = some h') : stK (.ptr id off) (.int k x) h f = f h' := store1_of e
theorem bldSK_of {ps : List (Nat × AV)} {l : List AV} (e : ∀ f : List AV → KR, fillSK (fsOf c t) ps (zL c t) f = f l) : bldSK c t ps g = g (.agg l) := by
  unfold bldSK
  rw [e, fL_eq]
theorem bldAK_of {esz : Nat} {ps : List (Nat × AV)} {l : List AV} (e : ∀ f : List AV → KR, fillK esz ps (zL c t) f = f l) : bldAK c t esz ps g = g (.agg l) := by
  unfold bldAK
  rw [e, fL_eq]
theorem loopV_succ (n : Nat) (f : (List AV → List Nat → H → KR) → List AV → List Nat → H → KR) (vs : List AV) (ms : List Nat) (h : H) : loopV (n + 1) f vs ms h = f (loopV n f) vs ms h := rfl
end
end K
theorem loads_new {l : List AV} {h : H} {off n : Nat} (hb : off + n ≤ l.length) : (newCells l h).2.loads (newCells l h).1 off n = some ((l.drop off).take n) := by
  have ho : (newCells l h).2.obj (newCells l h).1 = some (.cells l.length (T.ofList l)) := by simp [newCells, H.new, H.obj, T.get_set]
  unfold H.loads
  rw [ho]
  simp only [Nat.ble_eq_true_of_le hb]
  have key : ∀ n off, off + n ≤ l.length → getCells (T.ofList l) off n = some ((l.drop off).take n) := by
    intro n
    induction n with
    | zero => intro off _; simp [getCells]
    | succ n ih =>
      intro off hb
      unfold getCells
      rw [T.get_ofList, List.getElem?_eq_getElem (by omega)]
      simp only
      rw [ih (off + 1) (by omega)]
      simp only [Option.some.injEq]
      rw [List.drop_eq_getElem_cons (i := off) (by omega), List.take_succ_cons]
  exact key n off hb
namespace K
section
variable {c : Ctx} {t : Nat} {g : AV → KR} {α : Type}
theorem uncons_cons (a : α) (l : List α) (f : α → List α → KR) : uncons (a :: l) f = f a l := rfl
theorem unnil_nil (x : KR) : unnil ([] : List α) x = x := rfl
theorem unmarkK_nil (h : H) (f : H → KR) : unmarkK [] h f = f h := rfl
theorem ldK_new {l : List AV} {h : H} {off : Nat} (hb : off < l.length) : ldK c t (.ptr (Am.newCells l h).1 off) (Am.newCells l h).2 g = g (l.getD off .unk) := by
  refine ldK_of ?_
  rw [loads_new (by omega), List.drop_eq_getElem_cons hb, List.take_succ_cons, List.take_zero]
  simp [List.getD, hb]
theorem ldsK_new {l : List AV} {h : H} {off n : Nat} (hb : off + n ≤ l.length) : ldsK c t n (.ptr (Am.newCells l h).1 off) (Am.newCells l h).2 g = g (.agg ((l.drop off).take n)) := ldsK_of (loads_new hb)
end
end K

/-! ### the heap, as simp takes it -/
theorem new_fst (h : H) (o : AObj) : (h.new o).1 = h.next := rfl
theorem newo_next (h : H) (o : AObj) : (h.new o).2.next = h.next + 1 := rfl
theorem upd_next (h : H) (id : Nat) (o : AObj) : (h.upd id o).next = h.next := rfl
theorem new_obj (h : H) (o : AObj) (id : Nat) : (h.new o).2.obj id = if id = h.next then some o else h.obj id := by simp [H.new, H.obj, T.get_set]
theorem upd_obj (h : H) (i : Nat) (o : AObj) (id : Nat) : (h.upd i o).obj id = if id = i then some o else h.obj id := by simp [H.upd, H.obj, T.get_set]
theorem new_obj_self (h : H) (o : AObj) : (h.new o).2.obj h.next = some o := by rw [new_obj, if_pos rfl]
theorem new_obj_old {h : H} {o : AObj} {id : Nat} (e : id ≠ h.next) : (h.new o).2.obj id = h.obj id := by rw [new_obj, if_neg e]
theorem upd_obj_self (h : H) (i : Nat) (o : AObj) : (h.upd i o).obj i = some o := by rw [upd_obj, if_pos rfl]
theorem upd_obj_old {h : H} {i : Nat} {o : AObj} {id : Nat} (e : id ≠ i) : (h.upd i o).obj id = h.obj id := by rw [upd_obj, if_neg e]
theorem loads_obj {h : H} {id off n : Nat} : h.loads id off n = match h.obj id with
  | some (.cells m t) => (match Nat.ble (off + n) m with | true => getCells t off n | false => none)
  | _ => none := rfl
/-- the cells of an object, as a list -/
def cellsAt (l : List AV) (off n : Nat) : Option (List AV) := if off + n ≤ l.length then some ((l.drop off).take n) else none
theorem getCells_list {t : T AV} {l : List AV} (ht : ∀ k, k < l.length → t.get k = l[k]?) : ∀ n off, off + n ≤ l.length → getCells t off n = some ((l.drop off).take n)
  | 0, off, _ => by simp [getCells]
  | n + 1, off, hb => by
    unfold getCells
    rw [ht off (by omega), List.getElem?_eq_getElem (by omega)]
    simp only
    rw [getCells_list ht n (off + 1) (by omega)]
    simp only [Option.some.injEq]
    rw [List.drop_eq_getElem_cons (i := off) (by omega), List.take_succ_cons]
/-- an object that holds just these cells -/
def Holds (h : H) (id : Nat) (l : List AV) : Prop := ∃ t, h.obj id = some (.cells l.length t) ∧ ∀ k, k < l.length → t.get k = l[k]?
theorem Holds.loads {h : H} {id : Nat} {l : List AV} (e : Holds h id l) {off n : Nat} (hb : off + n ≤ l.length) : h.loads id off n = some ((l.drop off).take n) := by
  obtain ⟨t, h1, h2⟩ := e
  rw [loads_obj, h1]
  simp only [Nat.ble_eq_true_of_le hb]
  exact getCells_list h2 n off hb
theorem Holds.newCells (l : List AV) (h : H) : Holds (newCells l h).2 h.next l := ⟨T.ofList l, new_obj_self _ _, fun k _ => T.get_ofList _ _⟩
theorem Holds.new {h : H} {o : AObj} {id : Nat} {l : List AV} (e : Holds h id l) (hn : id < h.next) : Holds (h.new o).2 id l := by
  obtain ⟨t, h1, h2⟩ := e
  exact ⟨t, by rw [new_obj_old (by omega)]; exact h1, h2⟩
theorem Holds.upd {h : H} {o : AObj} {id i : Nat} {l : List AV} (e : Holds h id l) (hn : id ≠ i) : Holds (h.upd i o) id l := by
  obtain ⟨t, h1, h2⟩ := e
  exact ⟨t, by rw [upd_obj_old hn]; exact h1, h2⟩
/-- what was there is there still -/
structure Grows (h h' : H) : Prop where
  le : h.next ≤ h'.next
  obj : ∀ id, id < h.next → h'.obj id = h.obj id
theorem Grows.refl (h : H) : Grows h h := ⟨Nat.le_refl _, fun _ _ => rfl⟩
theorem Grows.trans {a b c : H} (x : Grows a b) (y : Grows b c) : Grows a c := ⟨Nat.le_trans x.le y.le, fun id hi => (y.obj id (Nat.lt_of_lt_of_le hi x.le)).trans (x.obj id hi)⟩
theorem Grows.new (h : H) (o : AObj) : Grows h (h.new o).2 := ⟨Nat.le_succ _, fun id hi => new_obj_old (by omega)⟩
theorem Grows.newCells (l : List AV) (h : H) : Grows h (newCells l h).2 := Grows.new _ _
theorem Holds.ext {h h' : H} {id : Nat} {l : List AV} (e : Holds h id l) (x : Grows h h') (hn : id < h.next) : Holds h' id l := by
  obtain ⟨t, h1, h2⟩ := e
  exact ⟨t, by rw [x.obj id hn]; exact h1, h2⟩
theorem setCells_get0 {l : List AV} {t : T AV} : ∀ k, k < l.length → (setCells t 0 l).get k = l[k]? := fun k hk => by rw [get_setCells, if_pos (by omega)]; simp
/-- a new object, and all its cells stored at once -/
theorem alloc_store {h : H} {n : Nat} {t : T AV} {l : List AV} (hl : l.length = n) (hc : allB AV.isCell l = true) :
    ∃ h', (h.new (.cells n t)).2.stores h.next 0 l = some h' ∧ h'.next = h.next + 1 ∧ Holds h' h.next l ∧ Grows h h' := by
  subst hl
  refine ⟨(h.new (.cells l.length t)).2.upd h.next (.cells l.length (setCells t 0 l)), ?_, rfl, ⟨setCells t 0 l, upd_obj_self _ _ _, setCells_get0⟩, ⟨Nat.le_succ _, fun id hi => by rw [upd_obj_old (by omega), new_obj_old (by omega)]⟩⟩
  unfold H.stores
  rw [new_obj_self]
  simp only [Nat.zero_add, Nat.ble_eq_true_of_le (Nat.le_refl _), hc]
namespace K
section
variable {c : Ctx} {t : Nat} {g : AV → KR}
theorem ldK_holds {h : H} {id off : Nat} {l : List AV} (e : Holds h id l) (hb : off < l.length) : ldK c t (.ptr id off) h g = g (l.getD off .unk) := by
  refine ldK_of ?_
  rw [e.loads (by omega), List.drop_eq_getElem_cons hb, List.take_succ_cons, List.take_zero]
  simp [List.getD, hb]
theorem ldsK_holds {h : H} {id off n : Nat} {l : List AV} (e : Holds h id l) (hb : off + n ≤ l.length) : ldsK c t n (.ptr id off) h g = g (.agg ((l.drop off).take n)) := ldsK_of (e.loads hb)
end
end K
end Am

/- Known calls that write the heap: what a run of the fast form comes to, its garbage forgotten; a slice that grows by one. -/
namespace Am
open Go

/-! ### Heaps that read alike -/
def Sim (a b : AObj) : Prop := a = b ∨ ∃ n t t', a = .cells n t ∧ b = .cells n t' ∧ ∀ k, k < n → t.get k = t'.get k
theorem Sim.objAt {G : Gd} {ρ : Rho} {a b : AObj} {ob : Obj} {l : Loc} (h : Sim a b) (k : ObjAt G ρ b ob l) : ObjAt G ρ a ob l := by
  rcases h with rfl | ⟨n, t, t', rfl, rfl, h⟩
  · exact k
  · obtain ⟨arr, elem, fr, h1, h2, h3, h4, h5⟩ := k
    exact ⟨arr, elem, fr, h1, h2, h3, h4, fun j hj => by rw [h j hj]; exact h5 j hj⟩
/-- all that the one has stands in the other -/
def SimH (a b : PH) : Prop := ∀ id o, a id = some o → ∃ o', b id = some o' ∧ Sim o o'
theorem HRel.sim {G : Gd} {ρ : Rho} {a b : PH} {w : World} (k : HRel G ρ b w) (h : SimH a b) : HRel G ρ a w where
  obj id o x := by
    obtain ⟨o', h1, h2⟩ := h id o x
    obtain ⟨l, ob, k1, k2, k3⟩ := k.obj id o' h1
    exact ⟨l, ob, k1, k2, h2.objAt k3⟩
  disj i j oi oj li lj hij hi hj := by
    obtain ⟨_, h1, _⟩ := h i oi hi
    obtain ⟨_, h2, _⟩ := h j oj hj
    exact k.disj i j _ _ li lj hij h1 h2
  low id o l x := by
    obtain ⟨_, h1, _⟩ := h id o x
    exact k.low id _ l h1
theorem Own.sim {ρ : Rho} {a b : PH} {x y : Nat} (h : SimH a b) (k : Own ρ a x y) : Own ρ b x y := by
  obtain ⟨id, o, l, h1, h2⟩ := k
  obtain ⟨o', h3, _⟩ := h id o h1
  exact ⟨id, o', l, h3, h2⟩
theorem Tr.sim {ρ ρ' : Rho} {h a b : PH} {n n' : Nat} {w w' : World} (t : Tr ρ h n w ρ' b n' w') (hs : SimH a b) : Tr ρ h n w ρ' a n' w' where
  le := t.le
  out := t.out
  size := t.size
  kept := t.kept
  cells := t.cells
  own b k hb ho := t.own b k hb (ho.sim hs)
  new id o h1 h2 := by
    obtain ⟨o', h3, _⟩ := hs id o h1
    exact t.new id o' h3 h2
  os := t.os
  output := t.output
  tape := t.tape
/-- a call of which a run is known is known, its garbage forgotten -/
theorem known_sim {c : Ctx} {P : Program} {G : Gd} (hc : COk c P) (hX : ExtOk c P) (hS : SumOk c P G) {k f : Nat} {args : List AV} {v : AV} {h hf h' : H} (hrun : runA c k (.fn f) args h = .ok (v, hf)) (hn : hf.next = h'.next) (hs : SimH h'.ph hf.ph) :
    h.next ≤ h'.next ∧ ∀ (ρ : Rho) (w : World) (vs : List Value), VRels ρ args vs → HRel G ρ h.ph w → GOk c G w → Free ρ h.next h'.next → FnOk c P f ⟨vs⟩ w (Ret G ρ h w v h') := by
  obtain ⟨h1, h2⟩ := run_ok (G := G) hc hX hS k _ _ _ _ _ hrun
  refine ⟨by rw [← hn]; exact h1, fun ρ w vs q1 q2 q3 q4 => ?_⟩
  have cv : ∀ x w', Ret G ρ h w v hf x w' → Ret G ρ h w v h' x w' := fun x w' ⟨ρ', k1, k2, k3⟩ => ⟨ρ', k1, k2.sim hs, by rw [← hn]; exact k3.sim hs⟩
  rcases h2 ρ w vs q1 q2 q3 (by rw [hn]; exact q4) with ⟨h3, x, w', h4, h5⟩ | ⟨h3, h4⟩
  · exact .inl ⟨h3, x, w', h4, cv x w' h5⟩
  · refine .inr ⟨h3, h4.mono fun en w' he => ?_⟩
    cases en with
    | returned x => exact cv x w' he
    | panicked => exact he.elim
    | outgrown => exact he.elim
theorem sok_run {c : Ctx} {P : Program} {G : Gd} {tb : T K.FnC} {ty : T K.RnC} (hc : COk c P) (hX : ExtOk c P) (hS : SumOk c P G) {n f m : Nat} {g : K.KRun → List AV → H → K.KR} {s : Sum} (hle : K.KLe (K.run tb ty n) (runA c n))
    (H : ∀ args h v h', s args h = some (v, h') → ∃ hf, K.run tb ty n (.fn f) args h = .ok v hf ∧ hf.next = h'.next ∧ SimH h'.ph hf.ph) : SOk c P G ⟨f, m, g, s⟩ := fun args h v h' hq => by
  obtain ⟨hf, h1, h2, h3⟩ := H args h v h' hq
  exact known_sim hc hX hS (hle _ _ _ _ _ h1) h2 h3

/-! ### A slice that grows by one -/
theorem kill_obj (h : H) (i id : Nat) : (h.kill i).obj id = if id = i then none else h.obj id := by simp [H.kill, H.obj, T.get_put]
theorem kill_next (h : H) (i : Nat) : (h.kill i).next = h.next := rfl
namespace K
section
variable {c : Ctx} {e : Nat} {k : AV → H → KR} {h : H}
theorem req_t (x : KR) : req true x = x := rfl
theorem lenVK_slice {g : AV → KR} (id off n tag : Nat) : lenVK (.slice id off n tag) g = g (.int .i64 (.ofNat n)) := rfl
theorem growK_of {esz need : Nat} {x : KR} (h1 : need ≤ 16777216) (h2 : need * bytesOf c e ≤ 16777216) : growK e esz need c x = x := by
  unfold growK
  rw [Nat.ble_eq_true_of_le h1]
  show req (Nat.ble (need * bytesOf c e) 16777216) x = x
  rw [Nat.ble_eq_true_of_le h2]; rfl
theorem appR_eq (esz n i : Nat) : appR esz n i h k = k (.slice i 0 n (2 * esz)) h := by
  unfold appR
  rw [fN_eq, fN_eq]; rfl
theorem app_nil1 {i tag : Nat} {t0 : T AV} {v : AV} (htag : tag / 2 = 1) (ho : h.obj i = some (.cells 1 t0)) (hv : t0.get 0 = some v) (hb : 1 * bytesOf c e ≤ 16777216) :
    appK c e 1 .nilSlice (.slice i 0 1 tag) h k = k (.slice h.next 0 1 2) (h.new (.cells 1 t0)).2 := by
  show growK e 1 (Nat.add 0 1) c (srcK 1 (.slice i 0 1 tag) h fun l => appS 1 0 1 .nilSlice (.slice i 0 1 tag) l h k) = _
  rw [show Nat.add 0 1 = 1 from rfl, growK_of (by decide) hb]
  show req (Nat.beq (Nat.div tag 2) 1) (loads h i 0 (Nat.mul 1 1) fun l => appS 1 0 1 .nilSlice (.slice i 0 1 tag) l h k) = _
  have ht : Nat.div tag 2 = 1 := htag
  rw [ht]
  show loads h i 0 1 _ = _
  have hl : h.loads i 0 1 = some [v] := by rw [loads_obj, ho]; simp [Am.getCells, hv]
  rw [loads_of hl]
  show wholeK 1 (.slice i 0 1 tag) h (fun m t => hNew h (.cells m t) fun i h => appR 1 (Nat.add 0 1) i h k) (newCells [v] h fun i h => appR 1 (Nat.add 0 1) i h k) = _
  unfold wholeK
  show Bool.rec (motive := fun _ => KR) _ _ (Nat.beq (Nat.div tag 2) 1) = _
  rw [ht]
  show Option.rec (motive := fun _ => KR) _ _ (hObj h i) = _
  rw [hObj_eq, ho]
  show hNew h (.cells 1 t0) (fun i h => appR 1 (Nat.add 0 1) i h k) = _
  rw [hNew_eq, appR_eq]
  rfl
theorem hUpd_kill (h : H) (id : Nat) (f : H → KR) : hUpd h id none f = f (h.kill id) := by
  cases h with
  | mk n t => exact put_eq t id none _
theorem app_one {i o ln tag : Nat} {t0 t : T AV} {v : AV} (htag : tag / 2 = 1) (ho : h.obj i = some (.cells 1 t0)) (hv : t0.get 0 = some v) (hc : v.isCell = true) (hs : h.obj o = some (.cells ln t)) (hn : ln + 1 ≤ 16777216) (hb : (ln + 1) * bytesOf c e ≤ 16777216) :
    appK c e 1 (.slice o 0 ln 2) (.slice i 0 1 tag) h k = k (.slice h.next 0 (ln + 1) 2) ((h.kill o).new (.cells (ln + 1) (t.set ln v))).2 := by
  show growK e 1 (Nat.add ln 1) c (srcK 1 (.slice i 0 1 tag) h fun l => appS 1 ln 1 (.slice o 0 ln 2) (.slice i 0 1 tag) l h k) = _
  rw [show Nat.add ln 1 = ln + 1 from rfl, growK_of hn hb]
  show req (Nat.beq (Nat.div tag 2) 1) (loads h i 0 (Nat.mul 1 1) fun l => appS 1 ln 1 (.slice o 0 ln 2) (.slice i 0 1 tag) l h k) = _
  have ht : Nat.div tag 2 = 1 := htag
  rw [ht]
  show loads h i 0 1 _ = _
  have hl : h.loads i 0 1 = some [v] := by rw [loads_obj, ho]; simp [Am.getCells, hv]
  rw [loads_of hl]
  show appOut 1 ln 1 o 0 [v] h k = _
  unfold appOut
  rw [hObj_eq, hs]
  show req (Nat.ble (Nat.add 0 (Nat.mul ln 1)) ln) (req (allB AV.isCell [v]) (baseK 0 (Nat.mul ln 1) t fun t => setCells [v] t (Nat.mul ln 1) fun t => hUpd h o none fun h => fN (Nat.add (Nat.mul ln 1) (len [v])) fun m => hNew h (.cells m t) fun i h => appR 1 (Nat.add ln 1) i h k)) = _
  have e1 : Nat.mul ln 1 = ln := Nat.mul_one ln
  have e2 : Nat.add 0 ln = ln := Nat.zero_add ln
  rw [e1, e2, Nat.ble_eq_true_of_le (Nat.le_refl ln)]
  have e3 : allB AV.isCell [v] = true := by simp only [allB, hc]
  rw [e3]
  show setCells [v] t ln (fun t => hUpd h o none fun h => fN (Nat.add ln (len [v])) fun m => hNew h (.cells m t) fun i h => appR 1 (Nat.add ln 1) i h k) = _
  rw [setCells_eq, hUpd_kill, fN_eq, len_eq, hNew_eq, appR_eq]
  rfl
theorem callVK_func {run : KRun} {f : Nat} {args : List AV} {h' : H} {v : AV} (e : run (.fn f) args h = .ok v h') : callVK run (.func (.func f) [] []) args h k = k v h' := by
  have e1 : app [] (app args []) = args := by
    rw [app_eq, app_eq]; simp
  show retK (run (.fn f) (app [] (app args []))  h) k = _
  rw [e1]
  exact retK_of e
theorem idxSK_of {esz id off len tag i : Nat} {g : AV → KR} (hi : i < len) (ht : tag / 2 = esz) : idxSK esz (.slice id off len tag) (.int .i64 (.ofNat i)) g = g (.ptr id (off + i * esz)) := by
  show req (Nat.ble (Nat.succ i) len) (req (Nat.beq (Nat.div tag 2) esz) (fN (Nat.add off (Nat.mul i esz)) fun off => g (.ptr id off))) = _
  have ht : Nat.div tag 2 = esz := ht
  rw [Nat.ble_eq_true_of_le (show Nat.succ i ≤ len from hi), ht, Nat.beq_refl, fN_eq]
  rfl
end
end K
end Am
namespace Am
open Go
/-! ### Tries as a whole -/
noncomputable def okO (p : AV → Bool) (o : Option AV) : Bool := Option.rec (motive := fun _ => Bool) true p o
noncomputable def andB (a b : Bool) : Bool := Bool.rec (motive := fun _ => Bool) false b a
noncomputable def allT (p : AV → Bool) (t : T AV) : Bool := T.rec (motive_1 := fun _ => Bool) (motive_2 := fun _ => Bool) (fun _ ih => ih) (fun v => okO p v)
  (fun v _ _ _ _ _ _ _ _ i0 i1 i2 i3 i4 i5 i6 i7 => andB (okO p v) (andB i0 (andB i1 (andB i2 (andB i3 (andB i4 (andB i5 (andB i6 i7)))))))) t
theorem andB_t {a b : Bool} (h : andB a b = true) : a = true ∧ b = true := by
  cases a with
  | false => cases h
  | true => exact ⟨rfl, h⟩
theorem allT_getP {p : AV → Bool} : ∀ (q : P) (t : T AV) (v : AV), allT p t = true → T.getP q t = some v → p v = true := by
  intro q
  induction q with
  | z =>
    rintro ⟨_ | _⟩ v h e
    · simp only [T.getP] at e; subst e; exact h
    · simp only [T.getP] at e; subst e; exact (andB_t h).1
  | d0 q ih => 
    rintro ⟨_ | _⟩ v h e
    · simp [T.getP] at e
    · exact ih _ v (andB_t (andB_t h).2).1 e
  | d1 q ih => 
    rintro ⟨_ | _⟩ v h e
    · simp [T.getP] at e
    · exact ih _ v (andB_t (andB_t (andB_t h).2).2).1 e
  | d2 q ih => 
    rintro ⟨_ | _⟩ v h e
    · simp [T.getP] at e
    · exact ih _ v (andB_t (andB_t (andB_t (andB_t h).2).2).2).1 e
  | d3 q ih => 
    rintro ⟨_ | _⟩ v h e
    · simp [T.getP] at e
    · exact ih _ v (andB_t (andB_t (andB_t (andB_t (andB_t h).2).2).2).2).1 e
  | d4 q ih => 
    rintro ⟨_ | _⟩ v h e
    · simp [T.getP] at e
    · exact ih _ v (andB_t (andB_t (andB_t (andB_t (andB_t (andB_t h).2).2).2).2).2).1 e
  | d5 q ih => 
    rintro ⟨_ | _⟩ v h e
    · simp [T.getP] at e
    · exact ih _ v (andB_t (andB_t (andB_t (andB_t (andB_t (andB_t (andB_t h).2).2).2).2).2).2).1 e
  | d6 q ih => 
    rintro ⟨_ | _⟩ v h e
    · simp [T.getP] at e
    · exact ih _ v (andB_t (andB_t (andB_t (andB_t (andB_t (andB_t (andB_t (andB_t h).2).2).2).2).2).2).2).1 e
  | d7 q ih => 
    rintro ⟨_ | _⟩ v h e
    · simp [T.getP] at e
    · exact ih _ v (andB_t (andB_t (andB_t (andB_t (andB_t (andB_t (andB_t (andB_t h).2).2).2).2).2).2).2).2 e
theorem allT_get {p : AV → Bool} {t : T AV} {k : Nat} {v : AV} (h : allT p t = true) (e : t.get k = some v) : p v = true := allT_getP _ _ _ h e
/-- every sz-th cell, from off on, as cells of their own -/
noncomputable def colF {β : Type} (t : T AV) (sz n : Nat) : Nat → Nat → T AV → (T AV → Option β) → Option β :=
  Nat.rec (motive := fun _ => Nat → Nat → T AV → (T AV → Option β) → Option β) (fun _ _ acc k => k acc)
    (fun _ ih off j acc k => Option.rec (motive := fun _ => Option β) none (fun v => K.put acc j (some v) fun acc => K.fN (Nat.add off sz) fun off => K.fN (Nat.add j (nat_lit 1)) fun j => ih off j acc k) (K.get t off)) n
theorem colF_some {β : Type} {t : T AV} {sz : Nat} : ∀ (n off j : Nat) (acc : T AV) (k : T AV → Option β) (r : β), colF t sz n off j acc k = some r →
    ∃ acc' : T AV, k acc' = some r ∧ ∀ x, acc'.get x = if j ≤ x ∧ x < j + n then t.get (off + sz * (x - j)) else acc.get x
  | 0, off, j, acc, k, r, h => ⟨acc, h, fun x => by rw [if_neg (by omega)]⟩
  | n + 1, off, j, acc, k, r, h => by
    have h : Option.rec (motive := fun _ => Option β) none (fun v => K.put acc j (some v) fun acc => K.fN (Nat.add off sz) fun off => K.fN (Nat.add j 1) fun j => colF t sz n off j acc k) (K.get t off) = some r := h
    rw [K.get_eq] at h
    cases hv : t.get off with
    | none => rw [hv] at h; cases h
    | some v =>
      rw [hv] at h
      have h : K.put acc j (some v) (fun acc => K.fN (Nat.add off sz) fun off => K.fN (Nat.add j 1) fun j => colF t sz n off j acc k) = some r := h
      rw [K.put_set, K.fN_eq, K.fN_eq] at h
      obtain ⟨acc', h1, h2⟩ := colF_some n _ _ _ k r h
      refine ⟨acc', h1, fun x => ?_⟩
      rw [h2 x, T.get_set]
      show (if j + 1 ≤ x ∧ x < j + 1 + n then t.get (off + sz + sz * (x - (j + 1))) else _) = _
      by_cases e1 : x = j
      · subst e1
        rw [if_neg (by omega), if_pos rfl, if_pos (by omega)]
        simp [hv]
      · by_cases e2 : j + 1 ≤ x ∧ x < j + 1 + n
        · rw [if_pos e2, if_pos (by omega)]
          congr 1
          rw [show x - j = (x - (j + 1)) + 1 by omega, Nat.mul_add]
          omega
        · rw [if_neg e2, if_neg e1, if_neg (by omega)]
theorem getCells_all {t : T AV} : ∀ (n off : Nat), (∀ k, off ≤ k → k < off + n → ∃ v, t.get k = some v) → ∃ l, getCells t off n = some l ∧ l.length = n ∧ ∀ j, j < n → t.get (off + j) = l[j]?
  | 0, off, _ => ⟨[], rfl, rfl, fun j hj => by omega⟩
  | n + 1, off, h => by
    obtain ⟨v, hv⟩ := h off (Nat.le_refl _) (by omega)
    obtain ⟨l, h1, h2, h3⟩ := getCells_all n (off + 1) fun k k1 k2 => h k (by omega) (by omega)
    refine ⟨v :: l, by simp only [getCells, hv, h1], by simp [h2], fun j hj => ?_⟩
    cases j with
    | zero => simpa using hv
    | succ j => rw [show off + (j + 1) = off + 1 + j by omega, h3 j (by omega)]; simp
theorem HRel.present {G : Gd} {ρ : Rho} {h : PH} {w : World} {id n : Nat} {t : T AV} (a : HRel G ρ h w) (h1 : h id = some (.cells n t)) : ∀ k, k < n → ∃ v, t.get k = some v := fun k hk => by
  obtain ⟨l, ob, _, _, arr, e, fr, _, _, _, _, h5⟩ := a.obj id _ h1
  obtain ⟨v, x, h6, _⟩ := h5 k hk
  exact ⟨v, h6⟩
theorem wrapN_i64 {n : Nat} (h : n ≤ 9223372036854775807) : wrapN .i64 n = .ofNat n := by
  unfold wrapN
  rw [show maxOf .i64 = 9223372036854775807 from rfl, Nat.ble_eq_true_of_le h]
theorem ltI_nat (a b : Nat) : ltI (.ofNat a) (.ofNat b) = decide (a < b) := by
  unfold ltI leI
  rw [Bool.eq_iff_iff]
  simp only [Bool.not_eq_true', decide_eq_true_eq]
  constructor
  · intro h
    rcases Nat.lt_or_ge a b with k | k
    · exact k
    · rw [Nat.ble_eq_true_of_le k] at h; cases h
  · intro h
    cases hb : b.ble a with
    | false => rfl
    | true => have := Nat.le_of_ble_eq_true hb; omega
end Am

/- Functions that recover: the deferred function's run; the function that defers it, where its body panics. -/
namespace Am
open Go

/-- the run of a deferred function that begins with a recover: rv is what it recovers -/
def recRun (c : Ctx) (run : Run) (g : Nat) (rv : AV) (args : List AV) (h : H) : Option H := match c.fn.get g with
  | some fn => match fn.body, fn.results.toList with
    | some (.seq (.region _ ops false) tail), [] => match ops.toList with
      | [o1, o2] => match o1.op, o1.guard, o2.op, o2.guard with
        | .call q, none, .assign x, none => match q.callee with
          | .builtin .recover => match noDef tail, execA c run none tail (anOf c g).r ⟨dstPut (dstPut (T.ofList args) o1.dst rv) o2.dst (evalO (dstPut (T.ofList args) o1.dst rv) x), [], h⟩ with
            | true, .ok (.norm, s) => match s.marks with | [] => some s.h | _ => none
            | true, .ok (.ret, s) => match s.marks with | [] => some s.h | _ => none
            | _, _ => none
          | _ => none
        | _, _, _, _ => none
      | _ => none
    | _, _ => none
  | none => none

/-- the run of a function that defers such a function, where the rest of its body panics -/
def recA (c : Ctx) (run : Run) (f : Nat) (args : List AV) (h : H) : Option (AV × H) := match c.fn.get f with
  | some fn => match fn.body with
    | some (.seq a (.seq (.region _ ops false) rest)) => match noDef a, noDef rest, execA c run none a (anOf c f).l (S.keep (anOf c f) ⟨T.ofList args, [], h⟩) with
      | true, true, .ok (.norm, s1) => match s1.marks, ops.toList with
        | [], [o1, o2] => match o1.guard, o2.guard, o2.op, noDefOp o1 with
          | none, none, .defer q, true => match opA c run (S.keep (anOf c f).r.l (S.keep (anOf c f).r s1)).env o1.op s1.h with
            | .ok (v1, h1) => match q.callee, q.args.toList with
              | .value x, [] => match evalO (dstPut (S.keep (anOf c f).r.l (S.keep (anOf c f).r s1)).env o1.dst v1) x with
                | .func (.func g) [] cap => match execA c run none rest (anOf c f).r.r ⟨dstPut (dstPut (S.keep (anOf c f).r.l (S.keep (anOf c f).r s1)).env o1.dst v1) o2.dst (.tup []), [], h1⟩ with
                  | .ok (.pan v, s3) => match s3.marks, recRun c run g v cap s3.h with
                    | [], some h4 => match resultsA c s3.env h4 fn.results.toList with
                      | .ok vs => some (tupOf vs, h4)
                      | _ => none
                    | _, _ => none
                  | _ => none
                | _ => none
              | _, _ => none
            | _ => none
          | _, _, _, _ => none
        | _, _ => none
      | _, _, _ => none
    | _ => none
  | none => none

section
variable {c : Ctx} {P : Program} {G : Gd} {run : Run}
theorem marks_nil {ρ : Rho} {base ds : List Deferred} (h : MarksRel (T.e : T Unit) base ρ [] ds) : ds = base := by
  cases h with
  | nil => rfl
  | quiet d ms ds hq _ =>
    obtain ⟨g, cap, hg, _⟩ := hq
    rw [T.get_e] at hg; cases hg
theorem erel_args {ρ : Rho} {args : List AV} {as : List Value} {m : Nat} (ha : VRels ρ args as) : ERel ρ (T.ofList args) (⟨as⟩ ++ Array.replicate m undef) := by
  intro t v ht
  have ht' : args[t]? = some v := by rw [← T.get_ofList]; exact ht
  obtain ⟨y, y1, y2⟩ := ha.get ht'
  have hlt : t < as.length := by
    rcases Nat.lt_or_ge t as.length with q | q
    · exact q
    · rw [List.getElem?_eq_none q] at y1; cases y1
  refine ⟨y, ?_, y2⟩
  rw [Array.getElem?_append_left (by simpa using hlt)]
  simpa using y1
theorem erel_keep {ρ : Rho} {s : S} {an : An} {tmps : Array Value} (h : ERel ρ s.env tmps) : ERel ρ (s.keep an).env tmps := by
  cases an with
  | no => exact h
  | n k r a b =>
    cases k with
    | none => exact h
    | some l => exact fun t v ht => h t v (keepF_get l s.env .e (fun t v h => by rw [T.get_e] at h; cases h) t v ht)
theorem GOk.noDf {w : World} (h : GOk c G w) : GOk c.noDf G w := ⟨h.rng, h.size, h.gl⟩

theorem opsS_rec {F : Fence} {n : Nat} {ops : Array Oper} {Q : Exit → Act → List Frame → World → Prop} {i : Nat} {rest : List Nat} {a : Act} {cs : List Frame} {w : World} {o : Oper} (ho : ops[i]? = some o) (hF : ∀ f, F.fn f) (hw : Region.wanted o (yielded ops a.tmps) = true)
    (hx : (execOp a.eval o).run P w = .ok .recover w) (k : match recoverD cs with | some (v, cs') => wpOpsSIn F n P ops Q rest (a.put o.dst v) cs' w | none => wpOpsSIn F n P ops Q rest (a.put o.dst .nilIface) cs w) : wpOpsSIn F n P ops Q (i :: rest) a cs w := by
  simp only [wpOpsSIn, ho, hw, if_true, hx]
  exact ⟨fun f _ => hF f, k⟩
theorem opsS_val {F : Fence} {n : Nat} {ops : Array Oper} {Q : Exit → Act → List Frame → World → Prop} {i : Nat} {rest : List Nat} {a : Act} {cs : List Frame} {w w' : World} {o : Oper} {v : Value} (ho : ops[i]? = some o) (hF : ∀ f, F.fn f) (hw : Region.wanted o (yielded ops a.tmps) = true)
    (hx : (execOp a.eval o).run P w = .ok (.value v) w') (k : wpOpsSIn F n P ops Q rest (a.put o.dst v) cs w') : wpOpsSIn F n P ops Q (i :: rest) a cs w := by
  simp only [wpOpsSIn, ho, hw, if_true, hx]
  exact ⟨fun f _ => hF f, k⟩
/-- the deferred function -/
theorem rec_in (hc : COk c P) (hR : RunOk c P G run) (hRp : RunPan c P G run) {g : Nat} {rv : AV} {args : List AV} {h h' : H} (hrun : recRun c run g rv args h = some h') :
    h.next ≤ h'.next ∧ ∀ (ρ : Rho) (w : World) (as : List Value) (u u' : FrameMode) (x : Value), (∀ m, ERel ρ (T.ofList args) (⟨as⟩ ++ Array.replicate m undef)) → VRel ρ rv x → HRel G ρ h.ph w → GOk c G w → Free ρ h.next h'.next →
      (∀ (c₀ : Frame) (cs : List Frame), c₀.mode = u → (match recoverD (c₀ :: cs) with | some (v, cs') => v = x ∧ cs' = { c₀ with mode := u' } :: cs | none => x = .nilIface ∧ u' = u)) →
      (callFunc g ⟨as⟩).run P w = .ok (.enter g ⟨as⟩) w ∧ CallsDIn Fence.wide 0 P g ⟨as⟩ u w fun e u1 w1 => u1 = u' ∧ (∃ v, e = .returned v) ∧ ∃ ρ', HRel G ρ' h'.ph w1 ∧ Tr ρ h.ph h.next w ρ' h'.ph h'.next w1 := by
  unfold recRun at hrun
  split at hrun
  case h_2 => cases hrun
  rename_i fn hf
  split at hrun
  case h_2 => cases hrun
  rename_i id ops tail hb hres
  split at hrun
  case h_2 => cases hrun
  rename_i o1 o2 hops
  split at hrun
  case h_2 => cases hrun
  rename_i q y ho1 hg1 ho2 hg2
  split at hrun
  case h_2 => cases hrun
  rename_i hq
  obtain ⟨f1, f2, f3⟩ := hc.fn g fn hf
  have hk0 := (f3 _ hb).1
  simp only [codeOk, Bool.and_eq_true] at hk0
  have hrg := (f3 _ hb).2
  have key : ∀ X s, (X = .norm ∨ X = .ret) → noDef tail = true → execA c run none tail (anOf c g).r ⟨dstPut (dstPut (T.ofList args) o1.dst rv) o2.dst (evalO (dstPut (T.ofList args) o1.dst rv) y), [], h⟩ = .ok (X, s) → s.marks = [] → s.h = h' →
      h.next ≤ h'.next ∧ ∀ (ρ : Rho) (w : World) (as : List Value) (u u' : FrameMode) (x : Value), (∀ m, ERel ρ (T.ofList args) (⟨as⟩ ++ Array.replicate m undef)) → VRel ρ rv x → HRel G ρ h.ph w → GOk c G w → Free ρ h.next h'.next →
      (∀ (c₀ : Frame) (cs : List Frame), c₀.mode = u → (match recoverD (c₀ :: cs) with | some (v, cs') => v = x ∧ cs' = { c₀ with mode := u' } :: cs | none => x = .nilIface ∧ u' = u)) →
      (callFunc g ⟨as⟩).run P w = .ok (.enter g ⟨as⟩) w ∧ CallsDIn Fence.wide 0 P g ⟨as⟩ u w fun e u1 w1 => u1 = u' ∧ (∃ v, e = .returned v) ∧ ∃ ρ', HRel G ρ' h'.ph w1 ∧ Tr ρ h.ph h.next w ρ' h'.ph h'.next w1 := by
    intro X s hX hnd he hms hh
    subst hh
    rw [← execA_noDf run none tail _ _ hnd] at he
    obtain ⟨n1, _⟩ := code_in (n := fn.ntmps) (rd := none) hc.noDf hR.noDf hRp.noDf tail (anOf c g).r _ X s (.inl rfl) hk0.2 (RngsOk.append (a := rngs (.region id ops false) (anOf c g).l) hrg).2 (by rcases hX with rfl | rfl <;> rfl) he
    refine ⟨n1, fun ρ w as u u' x ha hx hr hg hfree hrec => ⟨by simp [callFunc, f1, show ¬ (fn.name = "runtime.NumGoroutine") by simpa using f2, hb], callsDIn_of_wpSIn f1 hb trivial fun c₀ cs hm => ?_⟩⟩
    have hk := codeOk_mono (m := max fn.ntmps as.length) (Nat.le_max_left _ _) _ (f3 _ hb).1
    simp only [codeOk, Bool.and_eq_true] at hk
    obtain ⟨_, n2⟩ := code_in (n := max fn.ntmps as.length) (rd := none) hc.noDf hR.noDf hRp.noDf tail (anOf c g).r _ X s (.inl rfl) hk.2 (RngsOk.append (a := rngs (.region id ops false) (anOf c g).l) hrg).2 (by rcases hX with rfl | rfl <;> rfl) he
    have hsz : ops.size = 2 := by have := congrArg List.length hops; simpa using this
    have e0 : ops[0]? = some o1 := by rw [← Array.getElem?_toList, hops]; rfl
    have e1 : ops[1]? = some o2 := by rw [← Array.getElem?_toList, hops]; rfl
    have hd1 : dstOk (max fn.ntmps as.length) o1 = true := allB_iff.1 hk.1 o1 (by rw [hops]; simp)
    have hd2 : dstOk (max fn.ntmps as.length) o2 = true := allB_iff.1 hk.1 o2 (by rw [hops]; simp)
    refine wpSIn_seq (wpSIn_region ?_)
    rw [hsz]
    have hE0 : ERel ρ (T.ofList args) ((⟨as⟩ ++ Array.replicate (fn.ntmps - as.length) undef : Array Value)) := ha _
    have hs0 : ((⟨as⟩ ++ Array.replicate (fn.ntmps - as.length) undef : Array Value)).size = max fn.ntmps as.length := by simp; omega
    have w1 : ∀ a : Act, Region.wanted o1 (yielded ops a.tmps) = true := fun a => by unfold Region.wanted; rw [hg1]
    have w2 : ∀ a : Act, Region.wanted o2 (yielded ops a.tmps) = true := fun a => by unfold Region.wanted; rw [hg2]
    have x1 : ∀ a : Act, (execOp a.eval o1).run P w = .ok .recover w := fun a => by
      simp only [execOp, ho1, Go.resolve, hq, Sem.run_bind, Sem.run_pure, Result.andThen_ok, invoke, builtin]
    have x2 : ∀ a : Act, (execOp a.eval o2).run P w = .ok (.value (a.eval y)) w := fun a => by
      simp only [execOp, ho2, Sem.run_pure]
    have fin : wpOpsSIn Fence.wide 0 P ops (Exit.thenS (tail.wpSIn Fence.wide 0 P (bodyPostS P fn c₀ cs fun e u1 w1 => u1 = u' ∧ (∃ v, e = .returned v) ∧ ∃ ρ', HRel G ρ' s.h.ph w1 ∧ Tr ρ h.ph h.next w ρ' s.h.ph s.h.next w1)) (bodyPostS P fn c₀ cs fun e u1 w1 => u1 = u' ∧ (∃ v, e = .returned v) ∧ ∃ ρ', HRel G ρ' s.h.ph w1 ∧ Tr ρ h.ph h.next w ρ' s.h.ph s.h.next w1)) [1]
        (({ tmps := ⟨as⟩ ++ Array.replicate (fn.ntmps - as.length) undef, defers := [] } : Act).put o1.dst x) ({ c₀ with mode := u' } :: cs) w := by
      refine opsS_val e1 (fun _ => trivial) (w2 _) (x2 _) ?_
      have hE1 := ERel.put (d := o1.dst) (a := ({ tmps := ⟨as⟩ ++ Array.replicate (fn.ntmps - as.length) undef, defers := [] } : Act)) hE0 hx (fun t ht => by show t < _; rw [hs0]; exact dstOk_lt hd1 t ht)
      have hs1 : (({ tmps := ⟨as⟩ ++ Array.replicate (fn.ntmps - as.length) undef, defers := [] } : Act).put o1.dst x).tmps.size = max fn.ntmps as.length := by rw [put_size]; exact hs0
      have hE2 := ERel.put (d := o2.dst) hE1 (evalO_rel hE1 y) (fun t ht => by rw [hs1]; exact dstOk_lt hd2 t ht)
      refine wpSIn_of_wpIn rfl (wpIn_mono (n2 [] ρ _ w none trivial hE2 (by rw [put_size]; exact hs1) ?_ hr hg.noDf hfree) fun e a' w' hp => ?_)
      · rw [put_defers, put_defers]; exact .nil
      · obtain ⟨q1, ρ1, q2, q3, q4, q5, q6, _⟩ := hp
        rw [hms] at q4
        have hdf := marks_nil q4
        have hr0 : ∀ tm, (results fn tm).run P w' = .ok (.tuple #[]) w' := fun tm => by
          have : fn.results = #[] := Array.ext' hres
          unfold results
          rw [this]
          simp
        rcases hX with rfl | rfl <;> cases e <;> first
          | exact q1.elim
          | exact ⟨hdf, u', rfl, _, hr0 _, rfl, ⟨_, rfl⟩, ρ1, q5, q6⟩
    show wpOpsSIn Fence.wide 0 P ops _ [0, 1] _ _ w
    refine opsS_rec e0 (fun _ => trivial) (w1 _) (x1 _) ?_
    have hrc := hrec c₀ cs hm
    cases hrd : recoverD (c₀ :: cs) with
    | some vc =>
      obtain ⟨v, cs'⟩ := vc
      rw [hrd] at hrc
      obtain ⟨rfl, rfl⟩ := hrc
      exact fin
    | none =>
      rw [hrd] at hrc
      obtain ⟨rfl, rfl⟩ := hrc
      have : ({ c₀ with mode := u' } : Frame) = c₀ := by subst hm; rfl
      rw [this] at fin
      exact fin
  split at hrun
  · rename_i s hnd he
    split at hrun
    · rename_i hms; cases hrun; exact key _ s (.inl rfl) hnd he hms rfl
    · cases hrun
  · rename_i s hnd he
    split at hrun
    · rename_i hms; cases hrun; exact key _ s (.inr rfl) hnd he hms rfl
    · cases hrun
  · cases hrun
/-- a deferral, told exactly -/
theorem defer_exact {env : T AV} {o : Oper} {q : Call} {x : Operand} {g : Nat} {cap : List AV} (ho : o.op = .defer q) (hq : q.callee = .value x) (hqa : q.args.toList = []) (hx : evalO env x = .func (.func g) [] cap) {ρ : Rho} {a : Act} {w : World} {K : Act → World → Prop} {Q : Exit → Act → World → Prop} (hE : ERel ρ env a.tmps)
    (hk : ∀ cs, VRels ρ cap cs → K ({ a with defers := { target := .fn (.func g) ⟨cs⟩, args := #[] } :: a.defers }.put o.dst undef) w) : o.wpIn (fence none) 0 P a w K Q := by
  refine ⟨fun f _ => fence_fn none f, ?_⟩
  have hp := evalO_rel hE x
  rw [hx] at hp
  obtain ⟨fs, cs, hv, hf, hc⟩ := hp.ofFunc
  cases hf
  have hargs : q.args = #[] := Array.ext' hqa
  have hrun : (execOp a.eval o).run P w = .ok (.defer { target := .fn (.func g) ⟨cs⟩, args := #[] }) w := by
    simp only [execOp, ho, Go.resolve, hq, Deferred.ofValue, hv, hargs, Sem.run_bind, Sem.run_pure, Result.andThen_ok]
    simp
  show o.uponIn (fence none) 0 P a K Q ((execOp a.eval o).run P w)
  rw [hrun]
  exact hk cs hc

/-- a function whose body panics behind its deferral, and whose deferred function recovers -/
theorem fn_rec (hc : COk c P) (hR : RunOk c P G run) (hRp : RunPan c P G run) {f : Nat} {args : List AV} {h h' : H} {v : AV} (hrun : recA c run f args h = some (v, h')) :
    h.next ≤ h'.next ∧ ∀ (ρ : Rho) (w : World) (as : List Value), VRels ρ args as → HRel G ρ h.ph w → GOk c G w → Free ρ h.next h'.next →
      (callFunc f ⟨as⟩).run P w = .ok (.enter f ⟨as⟩) w ∧ CallsIn Fence.wide 0 P f ⟨as⟩ w (RetE (Ret G ρ h w v h')) := by
  unfold recA at hrun
  split at hrun
  case h_2 => cases hrun
  rename_i fn hf
  split at hrun
  case h_2 => cases hrun
  rename_i ca id ops rest hb
  split at hrun
  case h_2 => cases hrun
  rename_i s1 hnda hndr hea
  split at hrun
  case h_2 => cases hrun
  rename_i o1 o2 hm1 hops
  split at hrun
  case h_2 => cases hrun
  rename_i q hg1 hg2 ho2 hno1
  split at hrun
  case h_2 => cases hrun
  rename_i v1 h1 hop
  split at hrun
  case h_2 => cases hrun
  rename_i x hq hqa
  split at hrun
  case h_2 => cases hrun
  rename_i g cap hx
  split at hrun
  case h_2 => cases hrun
  rename_i pv s3 her
  split at hrun
  case h_2 => cases hrun
  rename_i h4 hm3 hrec
  split at hrun
  case h_2 => cases hrun
  rename_i vs hres
  cases hrun
  obtain ⟨f1, f2, f3⟩ := hc.fn f fn hf
  have hk := codeOk_mono (m := max fn.ntmps args.length) (Nat.le_max_left _ _) _ (f3 _ hb).1
  have hrg := (f3 _ hb).2
  simp only [codeOk, Bool.and_eq_true] at hk
  obtain ⟨hk1, hk2, hk3⟩ := hk
  have hrg2 := RngsOk.append (a := rngs ca (anOf c f).l) (b := rngs (.seq (.region id ops false) rest) (anOf c f).r) hrg
  have hrg3 := RngsOk.append (a := rngs (.region id ops false) (anOf c f).r.l) (b := rngs rest (anOf c f).r.r) hrg2.2
  rw [← execA_noDf run none ca _ _ hnda] at hea
  rw [← execA_noDf run none rest _ _ hndr] at her
  obtain ⟨a1, a2⟩ := code_in (n := max fn.ntmps args.length) (rd := none) hc.noDf hR.noDf hRp.noDf ca (anOf c f).l _ .norm s1 (.inl rfl) hk1 hrg2.1 rfl hea
  rw [keep_h] at a1
  obtain ⟨b1, b2⟩ := op_in hc hR (o := o1) hop
  obtain ⟨c1, c2⟩ := code_in (n := max fn.ntmps args.length) (rd := none) hc.noDf hR.noDf hRp.noDf rest (anOf c f).r.r _ (.pan pv) s3 (.inl rfl) hk3 hrg3.2 rfl her
  obtain ⟨d1, d2⟩ := rec_in hc hR hRp hrec
  have a1 : h.next ≤ s1.h.next := a1
  have c1 : h1.next ≤ s3.h.next := c1
  have hall : h.next ≤ h'.next := by omega
  have hd1 : dstOk (max fn.ntmps args.length) o1 = true := allB_iff.1 hk2 o1 (by rw [hops]; simp)
  have hd2 : dstOk (max fn.ntmps args.length) o2 = true := allB_iff.1 hk2 o2 (by rw [hops]; simp)
  refine ⟨hall, fun ρ w as ha hr hg hfree => ⟨by simp [callFunc, f1, show ¬ (fn.name = "runtime.NumGoroutine") by simpa using f2, hb], callsIn_of_wp_marks f1 hb trivial (wpIn_seq ?_)⟩⟩
  have hlen := ha.length
  have hs0 : ((⟨as⟩ ++ Array.replicate (fn.ntmps - as.length) undef : Array Value)).size = max fn.ntmps args.length := by simp; omega
  have hfa : Free ρ h.next s1.h.next := hfree.less (by omega)
  refine wpIn_mono (a2 [] ρ { tmps := ⟨as⟩ ++ Array.replicate (fn.ntmps - as.length) undef, defers := [] } w none trivial (erel_keep (erel_args ha)) hs0 (by rw [keep_marks]; exact .nil) (by rw [keep_h]; exact hr) hg.noDf (by rw [keep_h]; exact hfa)) fun e aa wa hp => ?_
  obtain ⟨q1, ρa, qE, qn, qm, qr, qt, _⟩ := hp
  rw [keep_h] at qt
  cases e <;> first | exact q1.elim | skip
  rw [hm1] at qm
  have hda := marks_nil qm
  refine wpIn_seq (wpIn_region ?_)
  have hsz : ops.size = 2 := by have := congrArg List.length hops; simpa using this
  have e0 : ops[0]? = some o1 := by rw [← Array.getElem?_toList, hops]; rfl
  have e1 : ops[1]? = some o2 := by rw [← Array.getElem?_toList, hops]; rfl
  rw [hsz]
  show wpOpsIn (fence none) 0 P ops _ [0, 1] aa wa
  have w1 : Region.wanted o1 (yielded ops aa.tmps) = true := by unfold Region.wanted; rw [hg1]
  simp only [wpOpsIn, e0, w1, if_true]
  have hEk : ERel ρa (S.keep (anOf c f).r.l (S.keep (anOf c f).r s1)).env aa.tmps := erel_keep (erel_keep qE)
  have hga := hg.tr hr qt
  have hfa2 : Free ρa s1.h.next h'.next := hfree.tr qt a1
  refine b2 ρa aa wa none _ _ hEk qr hga (hfa2.less (by omega)) fun y wb ⟨ρb, t1, t2, t3⟩ => ?_
  have hEb := ERel.put (d := o1.dst) (hEk.mono t3.le) t1 (fun t ht => by rw [qn]; exact dstOk_lt hd1 t ht)
  have hnb : (aa.put o1.dst y).tmps.size = max fn.ntmps args.length := by rw [put_size]; exact qn
  have w2 : Region.wanted o2 (yielded ops (aa.put o1.dst y).tmps) = true := by unfold Region.wanted; rw [hg2]
  simp only [e1, w2, if_true]
  refine defer_exact ho2 hq hqa hx hEb fun cs hcs => ?_
  have hgb := hga.tr qr t3
  have hfb : Free ρb h1.next h'.next := hfa2.tr t3 b1
  have hdb : (aa.put o1.dst y).defers = [] := by rw [put_defers]; exact hda
  refine wpIn_mono (c2 [{ target := .fn (.func g) ⟨cs⟩, args := #[] }] ρb _ wb none trivial (ERel.put (a := { aa.put o1.dst y with defers := _ }) hEb (.tup _ _ .nil) (fun t ht => by show t < (aa.put o1.dst y).tmps.size; rw [hnb]; exact dstOk_lt hd2 t ht)) (by rw [put_size]; exact hnb) (by rw [put_defers]; show MarksRel _ _ _ _ (_ :: (aa.put o1.dst y).defers); rw [hdb]; exact .nil) t2 hgb.noDf (hfb.less (by omega))) fun e ac wc hp => ?_
  obtain ⟨_, ρc, pE, pn, pm, pr, pt, pp⟩ := hp
  obtain ⟨z, rfl, hz⟩ := pp pv rfl
  rw [hm3] at pm
  have hdc := marks_nil pm
  show LeavesInM Fence.wide 0 P fn ac.tmps _ ac.defers (.panicking _) wc
  rw [hdc]
  have hgc := hgb.tr t2 pt
  have hfc : Free ρc s3.h.next h'.next := hfb.tr pt c1
  obtain ⟨i1, i2⟩ := d2 ρc wc cs (.panicking [{ v := z, recovered := false }]) (.panicking [{ v := z, recovered := true }]) z (fun _ => erel_args (hcs.mono pt.le)) hz pr hgc hfc (fun c₀ cs' hm => by simp only [recoverD, hm]; exact ⟨trivial, trivial⟩)
  refine ⟨by simp, .inr ⟨fun hh => absurd hh (by simp [Fence.wide]), .func g, ⟨cs⟩, g, ⟨cs⟩, rfl, by simp only [invoke, Array.empty_append]; exact i1, fun _ _ => trivial, ?_⟩⟩
  refine CallsDIn.mono i2 fun e u wd hpost => ?_
  obtain ⟨rfl, ⟨rv, rfl⟩, ρd, j1, j2⟩ := hpost
  show LeavesInM Fence.wide 0 P fn ac.tmps _ [] (settle (.panicking [{ v := z, recovered := true }])) wd
  have hset : settle (.panicking [{ v := z, recovered := true }]) = .returning := rfl
  rw [hset]
  obtain ⟨ys, y1, y2⟩ := results_in hc fn.results.toList vs hres ρd wd (pE.mono j2.le) j1
  refine ⟨if h : ys.toArray.size = 1 then ys.toArray[0] else .tuple ys.toArray, ?_, ρd, tup_rel y2, j1, ?_⟩
  · have : (fn.results.mapM (resSem ac.tmps)).run P wd = .ok ys.toArray wd := by rw [Array.mapM_eq_mapM_toList]; simp [y1]
    have hd : results fn ac.tmps = (do let vs ← fn.results.mapM (resSem ac.tmps); pure (if h : vs.size = 1 then vs[0] else .tuple vs)) := by
      unfold results
      congr 1
    rw [hd, Sem.run_bind, this]
    rfl
  · exact ((qt.trans t3 a1 b1).trans pt (by omega) c1).trans j2 (by omega) d1
end
/-- without globals, known calls, deferred calls -/
def Ctx.bare (c : Ctx) : Ctx := ⟨c.ty, c.fn, c.an, c.rng, .e, .e, .e, .e⟩
theorem bad_ok {c : Ctx} {P : Program} {G : Gd} : RunOk c P G (fun _ _ _ => .bad "") ∧ RunPan c P G (fun _ _ _ => .bad "") :=
  ⟨fun _ _ _ _ _ h => (nomatch h), ⟨fun _ _ _ _ _ h => (nomatch h), fun _ _ _ _ _ h => (nomatch h)⟩⟩
/-- a deferred function that does nothing where nothing panics -/
theorem quiet_of {c : Ctx} {P : Program} {g : Nat} (hc : COk c.bare P) (hrun : recRun c.bare (fun _ _ _ => .bad "") g .nilIface [] ⟨0, .e⟩ = some ⟨0, .e⟩) : QuietFn P g := fun cap w => by
  obtain ⟨k1, k2⟩ := rec_in (G := ⟨0, c.rng⟩) hc bad_ok.1 bad_ok.2 hrun
  have h0 : (⟨0, .e⟩ : H).ph = fun _ => none := by funext id; exact T.get_e _
  obtain ⟨al⟩ := cap
  obtain ⟨j1, j2⟩ := k2 (fun _ => none) w al .returning .returning .nilIface (fun m t v ht => by rw [T.get_ofList] at ht; simp at ht) .nilIface (by rw [h0]; exact HRel.empty _ _ _) ⟨rfl, Nat.zero_le _, fun g n t hg => by
    have hg : (T.e : T (Nat × T AV)).get g = some (n, t) := hg
    rw [T.get_e] at hg; cases hg⟩ (fun _ _ _ => rfl) (fun c₀ cs hm => by simp only [recoverD, hm]; exact ⟨trivial, trivial⟩)
  refine ⟨j1, CallsDIn.mono j2 fun e u w' ⟨e1, e2, ρ', e3, e4⟩ => ⟨e1, e2, ?_⟩⟩
  have : ρ' = fun _ => none := by funext id; exact e4.out id (.inr (Nat.zero_le _))
  subst this
  rw [h0] at e4
  exact e4
end Am

/- Runs that the fast form does not come to the end of (panics) go on by the machine itself; a function that recovers as a known call. -/
namespace Am
open Go
/-- the fast form where it comes to an end, else one step of the machine -/
noncomputable def hyb (c : Ctx) (kr : K.KRun) (n : Nat) : Run := Nat.rec (motive := fun _ => Run) (fun _ _ _ => .bad "")
  (fun _ ih t args h => K.KR.rec (motive := fun _ => R (AV × H)) (fun v h' => .ok (v, h')) (stepA c ih t args h) (kr t args h)) n
theorem hyb_ok {c : Ctx} {P : Program} {G : Gd} {kr : K.KRun} {m : Nat} (hc : COk c P) (hX : ExtOk c P) (hS : SumOk c P G) (hle : K.KLe kr (runA c m)) : ∀ n, RunOk c P G (hyb c kr n) ∧ RunPan c P G (hyb c kr n)
  | 0 => bad_ok
  | n + 1 => by
    obtain ⟨h1, h2⟩ := hyb_ok hc hX hS hle n
    have hd : ∀ t args h, hyb c kr (n + 1) t args h = K.KR.rec (motive := fun _ => R (AV × H)) (fun v h' => .ok (v, h')) (stepA c (hyb c kr n) t args h) (kr t args h) := fun _ _ _ => rfl
    have s1 := step_ok hc hX hS h1 h2
    have s2 := step_pan hc h1 h2
    refine ⟨fun t args h v h' e => ?_, fun l args h v h' e => ?_, fun f args h v h' e => ?_⟩
    · rw [hd] at e
      cases hk : kr t args h with
      | ok u hu =>
        rw [hk] at e
        cases e
        exact run_ok hc hX hS m t args h v h' (hle _ _ _ _ _ hk)
      | bad => rw [hk] at e; exact s1 t args h v h' e
    · rw [hd] at e
      cases hk : kr (.yield l) args h with
      | ok u hu => rw [hk] at e; cases e
      | bad => rw [hk] at e; exact s2.1 l args h v h' e
    · rw [hd] at e
      cases hk : kr (.fn f) args h with
      | ok u hu => rw [hk] at e; cases e
      | bad => rw [hk] at e; exact s2.2 f args h v h' e
/-- what is known of a function that recovers -/
noncomputable def lookS (c : Ctx) (kr : K.KRun) (n f : Nat) : Sum := fun args h => K.KR.rec (motive := fun _ => Option (AV × H)) (fun v h' => some (v, h')) (recA c (hyb c kr n) f args h) (kr (.fn f) args h)
theorem sok_look {c : Ctx} {P : Program} {G : Gd} {kr : K.KRun} {m n f j : Nat} {g : K.KRun → List AV → H → K.KR} (hc : COk c P) (hX : ExtOk c P) (hS : SumOk c P G) (hle : K.KLe kr (runA c m)) (hx : c.ext.get f = none) : SOk c P G ⟨f, j, g, lookS c kr n f⟩ := by
  intro args h v h' hq
  have hq : lookS c kr n f args h = some (v, h') := hq
  unfold lookS at hq
  cases hk : kr (.fn f) args h with
  | ok u hu =>
    rw [hk] at hq
    cases hq
    obtain ⟨q1, q2⟩ := run_ok (G := G) hc hX hS m _ _ _ _ _ (hle _ _ _ _ _ hk)
    exact ⟨q1, fun ρ w vs p1 p2 p3 p4 => q2 ρ w vs p1 p2 p3 p4⟩
  | bad =>
    rw [hk] at hq
    obtain ⟨r1, r2⟩ := hyb_ok hc hX hS hle n
    obtain ⟨q1, q2⟩ := fn_rec hc r1 r2 hq
    exact ⟨q1, fun ρ w vs p1 p2 p3 p4 => .inr (q2 ρ w vs p1 p2 p3 p4)⟩
end Am

/- Arguments that are slices: the machine begins on a heap that has them; behind the call all reads as it did. -/
namespace Am
open Go Go.ChangeShapes Go.WideShapes Go.ChangeAt Go.RowKit Go.Joins

section
variable {H : Type} {enc : TypeId × Value → H} {P : Program} {W : World}
theorem cell_none {a : Addr} {v : Value} (h : W.cell? a = some v) : a.spot = none ∧ ∃ arr elem fr, W.heap[a.block]? = some (.cells arr elem fr) ∧ arr[a.off]? = some v := by
  unfold World.cell? at h
  split at h
  · rename_i c e fr hh
    split at h
    · cases h
    · rename_i hs
      refine ⟨?_, c, e, fr, hh, h⟩
      cases hsp : a.spot with
      | none => rfl
      | some x => rw [hsp] at hs; exact absurd rfl hs
  · cases h
theorem add_block (a : Addr) (n : Nat) : (a.add n).block = a.block ∧ (a.add n).off = a.off + n := by
  unfold Addr.add
  split
  · rename_i h; subst h; exact ⟨rfl, rfl⟩
  · exact ⟨rfl, rfl⟩
/-- what a slice that came in is -/
theorem slice_arg {t e : TypeId} {z : Nat} {ks : List Leaf} (ht : P.underlying t = some (.slice e)) (hz : P.cellsOf e = z) (hz0 : 0 < z)
    (hel : ∀ (fuel : Nat) (cs : List Value) (x : DataW H × List MemPlace), DataW.trod enc P W 0 (fun _ => true) true fuel e cs = some x → LeafAll ks cs)
    {v : Value} {r : Reach} {b0 : Nat} (hval : Value.okWide P W r b0 t v) {d : DataW H} {p : List MemPlace} (h : DataW.Trod enc P W 0 (fun _ => true) true t v d p)
    (hfz : ∀ b off, MemPlace.cell b off ∈ p → W.frozen? ⟨b, off, none⟩ = false) :
    v = .slice none 0 0 ∨ (∃ a, v = .slice (some a) 0 0) ∨ ∃ a len cap arr elem fr, v = .slice (some a) len cap ∧ 0 < cap ∧ len ≤ cap ∧ cap ≤ maxLen ∧ a.spot = none ∧ W.heap[a.block]? = some (.cells arr elem fr) ∧
      a.off + cap * z ≤ arr.size ∧ (∀ k, a.off ≤ k → k < a.off + cap * z → ¬ (fr.1 ≤ k ∧ k < fr.2)) ∧ ∀ i, i < cap → LeafAll ks ((arr.toList.drop (a.off + i * z)).take z) := by
  obtain ⟨a0, len0, cap0, rfl⟩ := okWide_slice ht hval
  obtain ⟨fuel, hd⟩ := h
  have hc : (Value.slice a0 len0 cap0).cells.toList = [.slice a0 len0 cap0] := rfl
  rw [hc] at hd
  rcases DataW.trod_slice ht hd with ⟨h1, _⟩ | ⟨a, len, cap, elems, rest, n, _, h1, h2, _, hl, hm, hlen, he, hsp, _⟩
  · simp only [List.cons.injEq, and_true] at h1
    exact .inl h1
  · simp only [List.cons.injEq, and_true] at h1
    rw [h1]
    obtain ⟨hr1, hr2⟩ := hsp rfl
    rcases Nat.eq_zero_or_pos cap with h0 | hpos
    · subst h0
      obtain rfl : len = 0 := by omega
      exact .inr (.inl ⟨a, rfl⟩)
    have row : ∀ i, i < cap → ∃ cs x, W.cells? 0 (a.add (i * z)) z = some cs ∧ DataW.trod enc P W 0 (fun _ => true) true n e cs = some x := by
      intro i hi
      rw [hz] at he hr2
      by_cases hil : i < len
      · have := he i hil
        rw [List.getElem?_eq_getElem (by omega)] at this
        obtain ⟨cs, c1, c2⟩ := Option.bind_eq_some_iff.1 this
        exact ⟨cs, _, c1, c2⟩
      · have := hr2 (i - len) (by omega)
        rw [List.getElem?_eq_getElem (by omega), show len + (i - len) = i by omega] at this
        obtain ⟨cs, c1, c2⟩ := Option.bind_eq_some_iff.1 this
        exact ⟨cs, _, c1, c2⟩
    have cell : ∀ i k, i < cap → k < z → ∃ v, W.cell? ((a.add (i * z)).add k) = some v := by
      intro i k hi hk
      obtain ⟨cs, x, c1, _⟩ := row i hi
      obtain ⟨_, c3, c4⟩ := World.cells?_some c1
      exact ⟨cs[k]'(by omega), by rw [c4 k hk]; exact List.getElem?_eq_getElem _⟩
    obtain ⟨v0, hv0⟩ := cell 0 0 hpos hz0
    have e0 : (a.add (0 * z)).add 0 = a := by simp [Addr.add]
    rw [e0] at hv0
    obtain ⟨s0, arr, elem, fr, hh, _⟩ := cell_none hv0
    have at' : ∀ i k, i < cap → k < z → ∃ v, arr[a.off + i * z + k]? = some v := by
      intro i k hi hk
      obtain ⟨v, hv⟩ := cell i k hi hk
      obtain ⟨_, arr', elem', fr', q1, q2⟩ := cell_none hv
      obtain ⟨b1, b2⟩ := add_block (a.add (i * z)) k
      obtain ⟨b3, b4⟩ := add_block a (i * z)
      rw [b1, b3, hh] at q1
      cases q1
      exact ⟨v, by rw [b2, b4] at q2; exact q2⟩
    have hsz : a.off + cap * z ≤ arr.size := by
      obtain ⟨v, hv⟩ := at' (cap - 1) (z - 1) (by omega) (by omega)
      have := (Array.getElem?_eq_some_iff.1 hv).1
      have e1 : (cap - 1) * z + z = cap * z := by
        rw [← Nat.succ_mul]; congr 1; omega
      omega
    refine .inr (.inr ⟨a, len, cap, arr, elem, fr, rfl, hpos, hl, hm, s0, hh, hsz, fun k k1 k2 hk => ?_, fun i hi => ?_⟩)
    · simp only [Prod.mk.injEq] at h2
      have hmem : MemPlace.cell a.block k ∈ p := by
        rw [h2.2, hz]
        refine List.mem_append_left _ ?_
        unfold MemPlace.row
        refine List.mem_map.2 ⟨k - a.off, List.mem_range.2 ?_, by rw [show a.off + (k - a.off) = k by omega]⟩
        rw [hlen, hr1, show len + (cap - len) = cap by omega]
        omega
      have := hfz _ _ hmem
      unfold World.frozen? at this
      simp only [hh] at this
      obtain ⟨lo, hi⟩ := fr
      simp at this
      have := this hk.1
      omega
    · obtain ⟨cs, x, c1, c2⟩ := row i hi
      obtain ⟨_, c3, c4⟩ := World.cells?_some c1
      have : (arr.toList.drop (a.off + i * z)).take z = cs := by
        apply List.ext_getElem?
        intro k
        rw [List.getElem?_take]
        by_cases hk : k < z
        · rw [if_pos hk, List.getElem?_drop]
          have h5 := c4 k hk
          obtain ⟨v, hv⟩ : ∃ v, cs[k]? = some v := ⟨_, List.getElem?_eq_getElem (by omega)⟩
          rw [hv] at h5
          obtain ⟨_, arr', elem', fr', q1, q2⟩ := cell_none h5
          obtain ⟨b1, b2⟩ := add_block (a.add (i * z)) k
          obtain ⟨b3, b4⟩ := add_block a (i * z)
          rw [b1, b3, hh] at q1
          cases q1
          rw [b2, b4] at q2
          rw [hv, Array.getElem?_toList]; exact q2
        · rw [if_neg hk, List.getElem?_eq_none (by omega)]
      rw [this]
      exact hel _ _ _ c2
end

/-- the heap that has one row of cells -/
def argH (l : List AV) : H := ⟨1, (T.e : T AObj).set 0 (.cells l.length (T.ofList l))⟩
theorem argH_obj (l : List AV) (id : Nat) : (argH l).obj id = if id = 0 then some (.cells l.length (T.ofList l)) else none := by
  unfold argH H.obj
  rw [T.get_set, T.get_e]
def argR (l : Loc) : Rho := fun id => if id = 0 then some l else none
theorem argRel {G : Gd} {W : World} {b off m : Nat} {arr : Array Value} {elem : TypeId} {fr : Nat × Nat} (hh : W.heap[b]? = some (.cells arr elem fr)) (hsz : off + m ≤ arr.size) (hfr : ∀ k, off ≤ k → k < off + m → ¬ (fr.1 ≤ k ∧ k < fr.2)) (hlow : G.n ≤ b) :
    HRel G (argR ⟨b, off, m⟩) (argH (((arr.toList.drop off).take m).map ofValue)).ph W where
  obj id o ho := by
    have ho : (argH (((arr.toList.drop off).take m).map ofValue)).obj id = some o := ho
    rw [argH_obj] at ho
    split at ho
    · rename_i hid
      cases ho
      subst hid
      have hlen : (((arr.toList.drop off).take m).map ofValue).length = m := by simp; omega
      refine ⟨⟨b, off, m⟩, _, rfl, hh, arr, elem, fr, rfl, by rw [hlen]; exact Nat.le_refl _, hsz, hfr, fun k hk => ?_⟩
      rw [hlen] at hk
      have hx : off + k < arr.size := by omega
      refine ⟨ofValue arr[off + k], arr[off + k], ?_, Array.getElem?_eq_getElem hx, ofValue_rel _ _⟩
      rw [T.get_ofList, List.getElem?_map, List.getElem?_take, if_pos hk, List.getElem?_drop, Array.getElem?_toList, Array.getElem?_eq_getElem hx]
      rfl
    · cases ho
  disj i j oi oj li lj hij hi hj := by
    have hi : (argH (((arr.toList.drop off).take m).map ofValue)).obj i = some oi := hi
    have hj : (argH (((arr.toList.drop off).take m).map ofValue)).obj j = some oj := hj
    rw [argH_obj] at hi hj
    split at hi
    · split at hj
      · omega
      · cases hj
    · cases hi
  low id o l ho hl := by
    unfold argR at hl
    split at hl
    · cases hl; exact hlow
    · cases hl
/-- values that are told by their abstraction -/
def rigid : AV → Bool
  | .bool _ | .int _ _ | .str _ => true
  | _ => false
theorem ofBytes_inj {x y : ByteArray} (h : ofBytes x = ofBytes y) : x = y := by
  unfold ofBytes at h
  have h2 : x.data.toList = y.data.toList := List.map_inj_right (fun a b e => UInt8.toNat_inj.1 e) |>.1 h
  cases x; cases y
  congr 1
  exact Array.ext' h2
theorem rigid_eq {ρ ρ' : Rho} {v : AV} {x y : Value} (hv : rigid v = true) (h : VRel ρ v x) (k : VRel ρ' v y) : x = y := by
  cases v with
  | bool b => cases h; cases k; rfl
  | int kd n => cases h; cases k; rfl
  | str s =>
    obtain ⟨a, rfl, ha⟩ := h.ofStr
    obtain ⟨b, rfl, hb⟩ := k.ofStr
    rw [ofBytes_inj (ha.trans hb.symm)]
  | _ => cases hv
/-- a run that leaves what came in as it was -/
theorem calls_heap {c : Ctx} {P : Program} {G : Gd} {kr : K.KRun} {n f : Nat} {args : List AV} {h0 hf : H} {ρ : Rho} (hc : COk c P) (hX : ExtOk c P) (hS : SumOk c P G) (hle : K.KLe kr (runA c n))
    (hk : kr (.fn f) args h0 = .ok (.bool true) hf) (hkeep : ∀ id o, h0.obj id = some o → hf.obj id = some o) (hx : c.ext.get f = none) {w : World} (hg : GOk c G w) {vs : List Value} (hv : VRels ρ args vs) (hr : HRel G ρ h0.ph w)
    (hfree : ∀ id, h0.next ≤ id → ρ id = none) (hrig : ∀ id o l, h0.obj id = some o → ρ id = some l → ∃ t, o = .cells l.room t ∧ ∀ k v, k < l.room → t.get k = some v → rigid v = true) :
    CallsIn Fence.wide 0 P f ⟨vs⟩ w (RetE fun x w' => x = .bool true ∧ Below w.heap.size w w') := by
  have e := hle _ _ _ _ _ hk
  obtain ⟨h1, h2⟩ := run_ok (G := G) hc hX hS n _ _ _ _ _ e
  rcases h2 ρ w vs hv hr hg (fun id q1 _ => hfree id q1) with ⟨h3, _⟩ | ⟨_, h3⟩
  · exact absurd hx h3
  · refine h3.mono fun en w' he => ?_
    cases en with
    | returned x =>
      obtain ⟨ρ', k1, k2, k3⟩ := he
      refine ⟨k1.ofBool, k3.os, k3.tape, k3.output, k3.size, fun b hb => ?_⟩
      obtain ⟨ob, hob⟩ : ∃ ob, w.heap[b]? = some ob := ⟨_, Array.getElem?_eq_getElem hb⟩
      rw [hob]
      by_cases ho : ∃ k, Own ρ h0.ph b k
      · obtain ⟨k, id, o, l, q1, q2, rfl, q4, q5⟩ := ho
        obtain ⟨l', ob', r1, r2, r3⟩ := hr.obj id o q1
        rw [q2] at r1; cases r1
        rw [hob] at r2; cases r2
        obtain ⟨t, rfl, _⟩ := hrig id o l q1 q2
        obtain ⟨arr, elem, fr, rfl, _⟩ := r3
        obtain ⟨arr', s1, s2, s3⟩ := k3.cells l.b arr elem fr hob
        rw [s1]
        congr 2
        apply Array.ext
        · exact s2
        · intro i i1 i2
          by_cases hown : Own ρ h0.ph l.b i
          · obtain ⟨id2, o2, l2, p1, p2, p3, p4, p5⟩ := hown
            obtain ⟨t2, rfl, hrg⟩ := hrig id2 o2 l2 p1 p2
            obtain ⟨l2', ob2, u1, u2, u3⟩ := hr.obj id2 _ p1
            rw [p2] at u1; cases u1
            rw [p3, hob] at u2; cases u2
            obtain ⟨a2, e2, f2, w1, w2, w3, w4, w5⟩ := u3
            cases w1
            obtain ⟨v, x, z1, z2, z3⟩ := w5 (i - l2.base) (by omega)
            rw [show l2.base + (i - l2.base) = i by omega] at z2
            have hkp : hf.ph id2 = some (.cells l2.room t2) := hkeep id2 _ p1
            obtain ⟨l3, ob3, y1, y2, y3⟩ := k2.obj id2 _ hkp
            rw [k3.le _ _ p2] at y1; cases y1
            rw [p3, s1] at y2; cases y2
            obtain ⟨a3, e3, f3, m1, m2, m3, m4, m5⟩ := y3
            cases m1
            obtain ⟨v', x', n1, n2, n3⟩ := m5 (i - l2.base) (by omega)
            rw [show l2.base + (i - l2.base) = i by omega] at n2
            rw [z1] at n1; cases n1
            have := rigid_eq (hrg _ _ (by omega) z1) z3 n3
            subst this
            rw [Array.getElem?_eq_getElem i2] at z2
            rw [Array.getElem?_eq_getElem i1] at n2
            rw [Option.some.inj z2, Option.some.inj n2]
          · have := s3 i hown
            rw [Array.getElem?_eq_getElem i1, Array.getElem?_eq_getElem i2] at this
            exact Option.some.inj this
      · exact k3.kept b ob hob fun k hk => ho ⟨k, hk⟩
    | panicked => exact he.elim
    | outgrown => exact he.elim
end Am

/- Rows of cells as functions; what is changed; ranges over functions: the fast form on open values. -/
namespace Am
open Go

/-! ### What a run changes -/
/-- all that was there, but for some objects, is as it was -/
structure Ch (S : Nat → Prop) (h h' : H) : Prop where
  le : h.next ≤ h'.next
  obj : ∀ x, x < h.next → ¬ S x → h'.obj x = h.obj x
theorem Ch.refl (S : Nat → Prop) (h : H) : Ch S h h := ⟨Nat.le_refl _, fun _ _ _ => rfl⟩
theorem Ch.trans {S : Nat → Prop} {a b c : H} (x : Ch S a b) (y : Ch S b c) : Ch S a c := ⟨Nat.le_trans x.le y.le, fun k hk hs => (y.obj k (Nat.lt_of_lt_of_le hk x.le) hs).trans (x.obj k hk hs)⟩
theorem Ch.weak {S S' : Nat → Prop} {a b : H} (x : Ch S a b) (h : ∀ k, k < a.next → S k → S' k) : Ch S' a b := ⟨x.le, fun k hk hs => x.obj k hk fun q => hs (h k hk q)⟩
theorem Ch.of {S : Nat → Prop} {a b : H} (x : Grows a b) : Ch S a b := ⟨x.le, fun k hk _ => x.obj k hk⟩
theorem Ch.grows {a b : H} (x : Ch (fun _ => False) a b) : Grows a b := ⟨x.le, fun k hk => x.obj k hk (fun h => h)⟩
theorem Ch.new (S : Nat → Prop) (h : H) (o : AObj) : Ch S h (h.new o).2 := .of (Grows.new h o)
theorem Ch.upd {S : Nat → Prop} (h : H) (i : Nat) (o : AObj) (hi : S i ∨ h.next ≤ i) : Ch S h (h.upd i o) := ⟨Nat.le_refl _, fun x hx hs => upd_obj_old fun e => by
  subst e
  rcases hi with hi | hi
  · exact hs hi
  · omega⟩
theorem Ch.kill {S : Nat → Prop} (h : H) (i : Nat) (hi : S i ∨ h.next ≤ i) : Ch S h (h.kill i) := ⟨Nat.le_refl _, fun x hx hs => by
  rw [kill_obj, if_neg]
  intro e
  subst e
  rcases hi with hi | hi
  · exact hs hi
  · omega⟩
theorem Holds.ch {S : Nat → Prop} {h h' : H} {id : Nat} {l : List AV} (e : Holds h id l) (x : Ch S h h') (hn : id < h.next) (hs : ¬ S id) : Holds h' id l := by
  obtain ⟨t, h1, h2⟩ := e
  exact ⟨t, by rw [x.obj id hn hs]; exact h1, h2⟩

/-! ### Rows of cells -/
def RowF (h : H) (id m : Nat) (R : Nat → AV) : Prop := ∃ t, h.obj id = some (.cells m t) ∧ ∀ k, k < m → t.get k = some (R k)
theorem RowF.ch {S : Nat → Prop} {h h' : H} {id m : Nat} {R : Nat → AV} (e : RowF h id m R) (x : Ch S h h') (hn : id < h.next) (hs : ¬ S id) : RowF h' id m R := by
  obtain ⟨t, h1, h2⟩ := e
  exact ⟨t, by rw [x.obj id hn hs]; exact h1, h2⟩
theorem RowF.eqOn {h : H} {id m : Nat} {R R' : Nat → AV} (e : RowF h id m R) (x : ∀ k, k < m → R k = R' k) : RowF h id m R' := by
  obtain ⟨t, h1, h2⟩ := e
  exact ⟨t, h1, fun k hk => by rw [h2 k hk, x k hk]⟩
theorem getCells_fun {t : T AV} {R : Nat → AV} : ∀ (n off : Nat), (∀ k, off ≤ k → k < off + n → t.get k = some (R k)) → getCells t off n = some ((List.range' off n).map R)
  | 0, off, _ => rfl
  | n + 1, off, h => by
    unfold getCells
    rw [h off (Nat.le_refl _) (by omega)]
    simp only
    rw [getCells_fun n (off + 1) fun k k1 k2 => h k (by omega) (by omega)]
    rfl
theorem RowF.loads {h : H} {id m : Nat} {R : Nat → AV} (e : RowF h id m R) {off n : Nat} (hb : off + n ≤ m) : h.loads id off n = some ((List.range' off n).map R) := by
  obtain ⟨t, h1, h2⟩ := e
  rw [loads_obj, h1]
  simp only [Nat.ble_eq_true_of_le hb]
  exact getCells_fun n off fun k k1 k2 => h2 k (by omega)
def updF (R : Nat → AV) (off : Nat) (l : List AV) : Nat → AV := fun k => if off ≤ k ∧ k < off + l.length then l.getD (k - off) .unk else R k
theorem RowF.stores {h : H} {id m : Nat} {R : Nat → AV} (e : RowF h id m R) {off : Nat} {l : List AV} (hb : off + l.length ≤ m) (hc : allB AV.isCell l = true) :
    ∃ h', h.stores id off l = some h' ∧ RowF h' id m (updF R off l) ∧ h'.next = h.next ∧ ∀ x, x ≠ id → h'.obj x = h.obj x := by
  obtain ⟨t, h1, h2⟩ := e
  refine ⟨h.upd id (.cells m (setCells t off l)), ?_, ⟨_, upd_obj_self _ _ _, fun k hk => ?_⟩, rfl, fun x hx => upd_obj_old hx⟩
  · unfold H.stores
    rw [h1]
    simp only [Nat.ble_eq_true_of_le hb, hc]
  · rw [get_setCells]
    unfold updF
    split
    · rename_i hin
      rw [List.getElem?_eq_getElem (by omega)]
      simp [List.getD, List.getElem?_eq_getElem (show k - off < l.length by omega)]
    · exact h2 k hk
theorem ch_stores {S : Nat → Prop} {h h' : H} {id : Nat} (h1 : h'.next = h.next) (h2 : ∀ x, x ≠ id → h'.obj x = h.obj x) (hs : S id) : Ch S h h' := ⟨by omega, fun x _ hx => h2 x fun e => by subst e; exact hx hs⟩
theorem RowF.newCells (l : List AV) (h : H) {R : Nat → AV} (hR : ∀ k, k < l.length → l[k]? = some (R k)) : RowF (Am.newCells l h).2 h.next l.length R :=
  ⟨T.ofList l, new_obj_self _ _, fun k hk => by rw [T.get_ofList]; exact hR k hk⟩
theorem repl_length : ∀ (n : Nat) (l : List AV), (repl n l).length = n * l.length
  | 0, l => by simp [repl]
  | n + 1, l => by simp only [repl, List.length_append, repl_length n l, Nat.succ_mul]; omega
theorem repl_get (l : List AV) (hl : 0 < l.length) : ∀ (n k : Nat), k < n * l.length → (repl n l)[k]? = l[k % l.length]?
  | 0, k, h => by omega
  | n + 1, k, h => by
    simp only [repl]
    by_cases hk : k < l.length
    · rw [List.getElem?_append_left hk, Nat.mod_eq_of_lt hk]
    · rw [List.getElem?_append_right (by omega), repl_get l hl n (k - l.length) (by rw [Nat.succ_mul] at h; omega)]
      congr 1
      exact (Nat.mod_eq_sub_mod (by omega)).symm
namespace K
section
variable {c : Ctx} {t : Nat} {g : AV → KR} {f : H → KR} {k : AV → H → KR}
theorem rK_of (v : AV) (h : H) : rK (.ok (v, h)) k = k v h := by
  show fV v (fun v => fH h fun h => k v h) = k v h
  rw [fV_eq, fH_eq]
theorem ldK_row {h : H} {id m off : Nat} {R : Nat → AV} (e : RowF h id m R) (hb : off < m) : ldK c t (.ptr id off) h g = g (R off) := by
  refine ldK_of ?_
  rw [e.loads (by omega)]; rfl
theorem ldsK_row {h : H} {id m off n : Nat} {R : Nat → AV} (e : RowF h id m R) (hb : off + n ≤ m) : ldsK c t n (.ptr id off) h g = g (.agg ((List.range' off n).map R)) := ldsK_of (e.loads hb)
theorem nilK_ptr (id off : Nat) : nilK (.ptr id off) g = g (.ptr id off) := rfl
theorem stK_int' {h h' : H} {id off : Nat} {kd : IntKind} {x : Int} (e : h.stores id off [.int kd x] = some h') : stK (.ptr id off) (.int kd x) h f = f h' := store1_of e
theorem stK_bool {h h' : H} {id off : Nat} {x : Bool} (e : h.stores id off [.bool x] = some h') : stK (.ptr id off) (.bool x) h f = f h' := store1_of e
theorem stK_ptr {h h' : H} {id off a b : Nat} (e : h.stores id off [.ptr a b] = some h') : stK (.ptr id off) (.ptr a b) h f = f h' := store1_of e
theorem stK_nilPtr {h h' : H} {id off : Nat} (e : h.stores id off [.nilPtr] = some h') : stK (.ptr id off) .nilPtr h f = f h' := store1_of e
theorem stK_slice {h h' : H} {id off a b n tg : Nat} (e : h.stores id off [.slice a b n tg] = some h') : stK (.ptr id off) (.slice a b n tg) h f = f h' := store1_of e
theorem stK_nilSlice {h h' : H} {id off : Nat} (e : h.stores id off [.nilSlice] = some h') : stK (.ptr id off) .nilSlice h f = f h' := store1_of e
theorem boxK_slice (h : H) (id off n tag : Nat) : boxK (.slice id off n tag) h k = k (.ptr (Am.newCells [.slice id off n tag] h).1 0) (Am.newCells [.slice id off n tag] h).2 := hNew_eq h (.cells 1 ⟨.no (some (.slice id off n tag))⟩) fun id h => k (.ptr id 0) h
theorem boxK_func (h : H) (fn : Fn) (a b : List AV) : boxK (.func fn a b) h k = k (.ptr (Am.newCells [.func fn a b] h).1 0) (Am.newCells [.func fn a b] h).2 := hNew_eq h (.cells 1 ⟨.no (some (.func fn a b))⟩) fun id h => k (.ptr id 0) h
theorem boxK_ptr (h : H) (id off : Nat) : boxK (.ptr id off) h k = k (.ptr (Am.newCells [.ptr id off] h).1 0) (Am.newCells [.ptr id off] h).2 := hNew_eq h (.cells 1 ⟨.no (some (.ptr id off))⟩) fun id h => k (.ptr id 0) h
theorem extK_0 (a : AV) (l : List AV) : extK (.tup (a :: l)) 0 g = g a := rfl
theorem extK_1 (a b : AV) (l : List AV) : extK (.tup (a :: b :: l)) 1 g = g b := rfl
theorem notK_b (b : Bool) : notK (.bool b) g = g (.bool (!b)) := by cases b <;> rfl
theorem unmarkK_one {h : H} {r : Nat} (e : h.obj r = some .marks) : unmarkK [r] h f = f (h.kill r) := by
  show opt (hObj h r) (fun o => asMarks o (hUpd h r none fun h => f h)) = f (h.kill r)
  rw [hObj_eq, e, opt_some]
  exact hKill_eq h r f
theorem begR_of {h : H} {l r d : Nat} {p : Option Code} {en : T AV} (e : h.obj l = some (.loop .ready p en r d)) : begR l h f = f (h.upd l (.loop .busy p en r d)) := by
  unfold begR
  rw [hObj_eq, e, opt_some]
  show hUpd h l (some (.loop .busy p en r d)) f = _
  rw [hUpd_eq]
theorem finR_of {h : H} {l r d : Nat} {st : LoopState} {p : Option Code} {en : T AV} (e : h.obj l = some (.loop st p en r d)) : finR l h .ready none true = .ok (.bool true) (h.upd l (.loop .ready none en r d)) := by
  unfold finR
  rw [hObj_eq, e, opt_some]
  show hUpd h l (some (.loop .ready none en r d)) _ = _
  rw [hUpd_eq]
theorem run_yield {tb : T FnC} {ty : T RnC} {n l r d : Nat} {args : List AV} {h : H} {st : LoopState} {p : Option Code} {en : T AV} {y : RnF} (e : h.obj l = some (.loop st p en r d)) (hy : ty.get r = some ⟨y⟩) :
    run tb ty (n + 1) (.yield l) args h = y (run tb ty n) l args en h := by
  show yieldK ty (run tb ty n) l args h = _
  unfold yieldK
  rw [hObj_eq, e, opt_some]
  show opt (get ty r) _ = _
  rw [get_eq, hy, opt_some]
theorem rngK_of {run : KRun} {fn l r d : Nat} {cap : List AV} {h h1 : H} {v : AV} {kn kr : H → KR} {ke : Nat → H → KR} {en : T AV} (hx : c.ext.get fn = none) (e : run (.fn fn) (.yield l :: cap) h = .ok v h1) (ho : h1.obj l = some (.loop .ready none en r d)) :
    rngK c run (.func (.func fn) [] cap) l h kn kr ke = kn (h1.upd l (.loop .exhausted none en r d)) := by
  show Option.rec (motive := fun _ => KR) (retK (run (.fn fn) (app [] (.yield l :: cap)) h) fun _ h => endK l h kn kr ke) (fun _ => .bad) (c.ext.get fn) = _
  rw [hx]
  show retK (run (.fn fn) (app [] (.yield l :: cap)) h) _ = _
  rw [app_eq, List.nil_append, retK_of e]
  unfold endK
  rw [hObj_eq, ho, opt_some]
  show hUpd h1 l (some (.loop .exhausted none en r d)) _ = _
  rw [hUpd_eq]
theorem callVK_yield {tb : T FnC} {ty : T RnC} {n l : Nat} {args : List AV} {h h' : H} {v : AV} (e : run tb ty n (.yield l) args h = .ok v h') : callVK (run tb ty n) (.yield l) args h k = k v h' := retK_of e
theorem callVK_cap {run : KRun} {fn : Nat} {first cap args : List AV} {h h' : H} {v : AV} (e : run (.fn fn) (first ++ args ++ cap) h = .ok v h') : callVK run (.func (.func fn) first cap) args h k = k v h' := by
  show retK (run (.fn fn) (app first (app args cap)) h) k = _
  rw [app_eq, app_eq, ← List.append_assoc]
  exact retK_of e
end
end K
end Am

/- Steps of the machine that are told apart by hand: a piece of code that calls, and what is behind it. -/
namespace Am
open Go
def cL : Code → Code | .seq a _ => a | c => c
def cR : Code → Code | .seq _ b => b | c => c
def cOps : Code → List Oper | .region _ l _ => l.toList | _ => []
def outS : R (X × S) → S | .ok (_, s) => s | _ => ⟨.e, [], ⟨0, .e⟩⟩
def outE : R (T AV × H) → T AV × H | .ok x => x | _ => (.e, ⟨0, .e⟩)
section
variable {c : Ctx} {run : Run} {rd : Option Nat} {ops : List Oper}
theorem opsA_at {k : Nat} : ∀ {l l2 : List Oper} {o : Oper} {env env1 : T AV} {h h1 : H} {r : R (AV × H)}, l.drop k = o :: l2 → opsA c run ops (l.take k) env h = .ok (env1, h1) → wantedA env1 ops o.guard = some true → opD c run env1 o.op h1 = r →
    opsA c run ops l env h = match r with
      | .ok (v, h) => opsA c run ops l2 (dstPut env1 o.dst v) h
      | .pan v h => .pan v h
      | .bad w => .bad (w ++ " @ " ++ o.pos) := by
  induction k with
  | zero =>
    intro l l2 o env env1 h h1 r hd hp hg hr
    rw [List.drop_zero] at hd
    rw [List.take_zero] at hp
    subst hd
    unfold opsA at hp
    cases hp
    conv => lhs; unfold opsA
    rw [hg]
    simp only
    rw [hr]
    rfl
  | succ k ih =>
    intro l l2 o env env1 h h1 r hd hp hg hr
    cases l with
    | nil => cases hd
    | cons x l =>
      rw [List.drop_succ_cons] at hd
      rw [List.take_succ_cons] at hp
      unfold opsA at hp
      conv => lhs; unfold opsA
      cases hw : wantedA env ops x.guard with
      | none => rw [hw] at hp; cases hp
      | some b =>
        rw [hw] at hp
        cases b with
        | false => exact ih hd hp hg hr
        | true =>
          simp only at hp ⊢
          cases ho : opD c run env x.op h with
          | ok p =>
            rw [ho] at hp
            obtain ⟨v, h'⟩ := p
            exact ih hd hp hg hr
          | pan v h' => rw [ho] at hp; cases hp
          | bad w => rw [ho] at hp; cases hp
theorem opsA_ok {k : Nat} {l l2 : List Oper} {o : Oper} {env env1 : T AV} {h h1 h2 : H} {v : AV} {x : T AV × H} (hd : l.drop k = o :: l2) (hp : opsA c run ops (l.take k) env h = .ok (env1, h1)) (hg : wantedA env1 ops o.guard = some true) (hr : opD c run env1 o.op h1 = .ok (v, h2))
    (hn : opsA c run ops l2 (dstPut env1 o.dst v) h2 = .ok x) : opsA c run ops l env h = .ok x := by rw [opsA_at hd hp hg hr]; exact hn
theorem opsA_pan {k : Nat} {l l2 : List Oper} {o : Oper} {env env1 : T AV} {h h1 h2 : H} {v : AV} (hd : l.drop k = o :: l2) (hp : opsA c run ops (l.take k) env h = .ok (env1, h1)) (hg : wantedA env1 ops o.guard = some true) (hr : opD c run env1 o.op h1 = .pan v h2) :
    opsA c run ops l env h = .pan v h2 := by rw [opsA_at hd hp hg hr]
theorem region_ok {id : Nat} {l : Array Oper} {an : An} {s : S} {env : T AV} {h : H} (e : opsA c run l.toList l.toList (s.keep an).env s.h = .ok (env, h)) : execA c run rd (.region id l false) an s = .ok (.norm, ⟨env, s.marks, h⟩) := by
  unfold execA
  simp only
  rw [e]
theorem region_pan {id : Nat} {l : Array Oper} {an : An} {s : S} {v : AV} {h : H} (e : opsA c run l.toList l.toList (s.keep an).env s.h = .pan v h) : execA c run rd (.region id l false) an s = .ok (.pan v, ⟨dropD l.toList (s.keep an).env, s.marks, h⟩) := by
  unfold execA
  simp only
  rw [e]
theorem seq_ok {a b : Code} {an : An} {s s1 : S} {r : R (X × S)} (e1 : execA c run rd a an.l (s.keep an) = .ok (.norm, s1)) (e2 : execA c run rd b an.r s1 = r) : execA c run rd (.seq a b) an s = r := by
  conv => lhs; unfold execA
  rw [e1]
  exact e2
theorem seq_pan {a b : Code} {an : An} {s s1 : S} {v : AV} (e1 : execA c run rd a an.l (s.keep an) = .ok (.pan v, s1)) : execA c run rd (.seq a b) an s = .ok (.pan v, s1) := by
  conv => lhs; unfold execA
  rw [e1]
theorem step_of_pan {f : Nat} {fn : Func} {code : Code} {args : List AV} {h h' : H} {v : AV} {s : S} (h1 : c.sum.get f = none) (h2 : c.fn.get f = some fn) (h3 : fn.body = some code) (h4 : execA c run none code (anOf c f) ⟨T.ofList args, [], h⟩ = .ok (.pan v, s)) (h5 : noDef code = true) (h6 : unmark s.marks s.h = some h') :
    stepA c run (.fn f) args h = .pan v h' := by
  unfold stepA
  simp only
  rw [h1]
  simp only
  rw [h2]
  simp only
  rw [h3]
  simp only
  rw [h4]
  simp only
  rw [h5, h6]
/-- up to the rest of the body, where a function recovers -/
def recPre (c : Ctx) (run : Run) (f : Nat) (args : List AV) (h : H) : Option (Func × Code × S × Nat × List AV) := match c.fn.get f with
  | some fn => match fn.body with
    | some (.seq a (.seq (.region _ ops false) rest)) => match noDef a, noDef rest, execA c run none a (anOf c f).l (S.keep (anOf c f) ⟨T.ofList args, [], h⟩) with
      | true, true, .ok (.norm, s1) => match s1.marks, ops.toList with
        | [], [o1, o2] => match o1.guard, o2.guard, o2.op, noDefOp o1 with
          | none, none, .defer q, true => match opA c run (S.keep (anOf c f).r.l (S.keep (anOf c f).r s1)).env o1.op s1.h with
            | .ok (v1, h1) => match q.callee, q.args.toList with
              | .value x, [] => match evalO (dstPut (S.keep (anOf c f).r.l (S.keep (anOf c f).r s1)).env o1.dst v1) x with
                | .func (.func g) [] cap => some (fn, rest, ⟨dstPut (dstPut (S.keep (anOf c f).r.l (S.keep (anOf c f).r s1)).env o1.dst v1) o2.dst (.tup []), [], h1⟩, g, cap)
                | _ => none
              | _, _ => none
            | _ => none
          | _, _, _, _ => none
        | _, _ => none
      | _, _, _ => none
    | _ => none
  | none => none
theorem recA_of {f g : Nat} {fn : Func} {rest : Code} {s s3 : S} {cap args : List AV} {h h4 : H} {v : AV} {vs : List AV} (h1 : recPre c run f args h = some (fn, rest, s, g, cap)) (h2 : execA c run none rest (anOf c f).r.r s = .ok (.pan v, s3)) (h3 : s3.marks = []) (h5 : recRun c run g v cap s3.h = some h4)
    (h6 : resultsA c s3.env h4 fn.results.toList = .ok vs) : recA c run f args h = some (tupOf vs, h4) := by
  unfold recPre at h1
  unfold recA
  repeat' split at h1
  all_goals first | (cases h1; done) | skip
  all_goals rename_i hh
  all_goals simp_all
end
/-! ### Calls with one row of scalars, told on a heap that has nothing else -/
def hW (n : Nat) (t : T AV) : H := ⟨1, ⟨.no (some (.cells n t))⟩⟩
theorem hW_obj (n : Nat) (t : T AV) (id : Nat) : (hW n t).obj id = if id = 0 then some (.cells n t) else none := by
  unfold hW H.obj
  have e : (⟨.no (some (.cells n t))⟩ : T AObj) = (T.e : T AObj).set 0 (.cells n t) := rfl
  rw [e, T.get_set, T.get_e]
theorem rigid_flat {ρ ρ' : Rho} {v : AV} {x : Value} (hv : rigid v = true) (h : VRel ρ v x) : VRel ρ' v x := VRel.flat (by cases v <;> first | rfl | cases hv) h
theorem known_words {c : Ctx} {P : Program} {G : Gd} {f len tag n : Nat} {t : T AV} {v : AV} {hf : H}
    (hq : ∀ (ρ : Rho) (w : World) (vs : List Value), VRels ρ [.slice 0 0 len tag] vs → HRel G ρ (hW n t).ph w → GOk c G w → Free ρ 1 hf.next → FnOk c P f ⟨vs⟩ w (Ret G ρ (hW n t) w v hf))
    (hv : v.flat = true) (hkeep : hf.obj 0 = some (.cells n t)) (hrig : ∀ k x, k < n → t.get k = some x → rigid x = true) (hx : c.ext.get f = none)
    (h : H) (ρ : Rho) (w : World) (vs : List Value) (ho : h.obj 0 = some (.cells n t)) (hvs : VRels ρ [.slice 0 0 len tag] vs) (hr : HRel G ρ h.ph w) (hg : GOk c G w) : FnOk c P f ⟨vs⟩ w (Ret G ρ h w v h) := by
  obtain ⟨l, ob, l1, l2, l3⟩ := hr.obj 0 _ ho
  obtain ⟨arr, elem, fr, rfl, m1, m2, m3, m4⟩ := l3
  have hrel : HRel G (fun id => if id = 0 then some l else none) (hW n t).ph w := by
    refine ⟨fun id o hid => ?_, fun i j oi oj li lj hij hi hj => ?_, fun id o l' hid hl => ?_⟩
    · have hid : (hW n t).obj id = some o := hid
      rw [hW_obj] at hid
      split at hid
      · rename_i h0
        cases hid
        refine ⟨l, _, by rw [if_pos h0], l2, arr, elem, fr, rfl, m1, m2, m3, fun k hk => ?_⟩
        obtain ⟨a, b, k1, k2, k3⟩ := m4 k hk
        exact ⟨a, b, k1, k2, rigid_flat (hrig k a hk k1) k3⟩
      · cases hid
    · have hi : (hW n t).obj i = some oi := hi
      have hj : (hW n t).obj j = some oj := hj
      rw [hW_obj] at hi hj
      split at hi
      · split at hj
        · omega
        · cases hj
      · cases hi
    · have hl : (if id = 0 then some l else none) = some l' := hl
      split at hl
      · cases hl; exact hr.low 0 _ l ho l1
      · cases hl
  have hvs0 : VRels (fun id => if id = 0 then some l else none) [.slice 0 0 len tag] vs := by
    cases hvs with
    | cons _ _ _ _ k1 k2 =>
      cases k2
      cases k1 with
      | slice _ _ _ _ l' a cap q1 q2 q3 q4 q5 => rw [l1] at q1; cases q1; exact .cons _ _ _ _ (.slice _ _ _ _ l a cap rfl q2 q3 q4 q5) .nil
      | _ => first | exact .cons _ _ _ _ (.unk _) .nil | skip
  rcases hq _ w vs hvs0 hrel hg (fun id q1 _ => by simp; omega) with ⟨h3, _⟩ | ⟨h3, h4⟩
  · exact absurd hx h3
  refine .inr ⟨h3, h4.mono fun en w' he => ?_⟩
  cases en with
  | panicked => exact he.elim
  | outgrown => exact he.elim
  | returned x =>
    obtain ⟨ρ', k1, k2, k3⟩ := he
    have own0 : ∀ b k, Own (fun id => if id = 0 then some l else none) (hW n t).ph b k → b = l.b ∧ l.base ≤ k ∧ k < l.base + l.room := fun b k ⟨id, o, l', q1, q2, q3, q4, q5⟩ => by
      have q2 : (if id = 0 then some l else none) = some l' := q2
      split at q2
      · cases q2; exact ⟨q3.symm, q4, q5⟩
      · cases q2
    have own1 : ∀ b k, Own (fun id => if id = 0 then some l else none) (hW n t).ph b k → Own ρ h.ph b k := fun b k hk => by
      obtain ⟨rfl, q1, q2⟩ := own0 b k hk
      exact ⟨0, _, l, ho, l1, rfl, q1, q2⟩
    refine ⟨ρ, VRel.flat hv k1, ⟨fun id o hid => ?_, hr.disj, hr.low⟩, ⟨ρ.le_refl, fun _ _ => rfl, k3.size, fun b ob hb hno => k3.kept b ob hb fun k hk => hno k (own1 b k hk), fun b a el fr' hb => ?_, fun _ _ _ ho => ho, (fun id o q1 q2 => by rw [q1] at q2; cases q2), k3.os, k3.output, k3.tape⟩⟩
    · by_cases h0 : id = 0
      · subst h0
        have hid : h.obj 0 = some o := hid
        rw [ho] at hid
        cases hid
        obtain ⟨l3, ob3, y1, y2, y3⟩ := k2.obj 0 _ hkeep
        rw [k3.le 0 l rfl] at y1; cases y1
        obtain ⟨a3, e3, f3, r1, r2, r3, r4, r5⟩ := y3
        exact ⟨l, _, l1, y2, a3, e3, f3, r1, r2, r3, r4, fun k hk => by
          obtain ⟨y, z, n1, n2, n3⟩ := r5 k hk
          exact ⟨y, z, n1, n2, rigid_flat (hrig k y hk n1) n3⟩⟩
      · obtain ⟨li, obi, q1, q2, q3⟩ := hr.obj id o hid
        have nOwn : ∀ k, li.base ≤ k → k < li.base + li.room → ¬ Own (fun id => if id = 0 then some l else none) (hW n t).ph li.b k := fun k k1 k2 hk => by
          obtain ⟨e1, e2, e3⟩ := own0 _ _ hk
          exact hr.disj id 0 o _ li l h0 hid ho q1 l1 e1 k k1 k2 e2 e3
        rcases q3.noCells with ⟨nn, tt, rfl, arr1, elem1, fr1, rfl⟩ | ⟨hb0, hr0, hnc⟩
        · obtain ⟨arr', h3, h4, h5⟩ := k3.cells _ arr1 elem1 fr1 q2
          obtain ⟨arr2, elem2, fr2, e1, e2, e3, e4, e5⟩ := q3
          cases e1
          refine ⟨li, _, q1, h3, arr', elem1, fr1, rfl, e2, by omega, e4, fun k hk => ?_⟩
          obtain ⟨v, x, f1, f2, f3⟩ := e5 k hk
          exact ⟨v, x, f1, by rw [h5 _ (nOwn _ (by omega) (by omega))]; exact f2, f3⟩
        · refine ⟨li, obi, q1, k3.kept _ obi q2 fun k hk => ?_, q3⟩
          obtain ⟨e1, _, _⟩ := own0 _ _ hk
          rw [e1, l2] at q2
          cases q2
          exact hnc _ _ _ rfl
    · obtain ⟨arr', s1, s2, s3⟩ := k3.cells b a el fr' hb
      exact ⟨arr', s1, s2, fun k hk => s3 k fun hk' => hk (own1 b k hk')⟩
end Am

/- All of it. -/
