/- The abstract machine of this claim, and its soundness against the model, part 5: proved once, for any program. Merged by a script out of the prover's texts AmWp9, AmRec, AmHyb, AmPan, AmAll, AmKN, AmWpR. -/
import Derived.Test.YthlpjeoddenioaaGreatDoorA4
namespace Am
open Go
theorem ll : (∀ (α : Type) (l : List α) (i : Nat) (v : α), (l.set i v).length = l.length) ∧ (∀ (α : Type) (l : List α) (i : Nat) (f : α → α), (l.modify i f).length = l.length) ∧ (∀ (α : Type) (l : List α) (i : Nat), (l.take i).length = min i l.length) ∧
    (∀ (α : Type) (l : List α) (i : Nat), (l.drop i).length = l.length - i) ∧ (∀ (α β : Type) (l : List α) (f : α → β), (l.map f).length = l.length) ∧ (∀ (α : Type) (n : Nat) (v : α), (List.replicate n v).length = n) ∧
    (∀ (α : Type) (l m : List α), (l ++ m).length = l.length + m.length) ∧ (∀ (α : Type) (l : List α) (v : α), (v :: l).length = l.length + 1) ∧ (∀ (α : Type), ([] : List α).length = 0) :=
  ⟨fun _ _ _ _ => List.length_set .., fun _ _ _ _ => List.length_modify .., fun _ _ _ => List.length_take .., fun _ _ _ => List.length_drop .., fun _ _ _ _ => List.length_map .., fun _ _ _ => List.length_replicate .., fun _ _ _ => List.length_append .., fun _ _ _ => List.length_cons .., fun _ => List.length_nil⟩
theorem ok_unroll {F : (List AV → List Nat → H → K.KR) → List AV → List Nat → H → K.KR} {vs : List AV} {ms : List Nat} {h : H} {Q : AV → H → Prop} (n : Nat) (e : Ok (F (K.loopV n F) vs ms h) Q) : Ok (K.loopV (n + 1) F vs ms h) Q := e
def mxI (a b : Int) : Int := match ltI a b with | true => b | false => a
theorem mxI_eq (a b : Int) : mxI a b = max a b := by
  unfold mxI
  cases h : ltI a b with
  | true => have := ltI_iff.1 h; simp only; omega
  | false => have : ¬ a < b := fun e => by rw [ltI_iff.2 e] at h; cases h
             simp only; omega
class TS (c : Ctx) (t : Nat) (n : outParam Nat) (ag : outParam Bool) : Prop where
  eq : ∃ ti, c.ty.get t = some ti ∧ ti.size = n ∧ ti.isAgg = ag
def isTS (c : Ctx) (t n : Nat) (ag : Bool) : Bool := match c.ty.get t with | some ti => ti.size.beq n && (match ti.isAgg, ag with | true, true => true | false, false => true | _, _ => false) | none => false
theorem TS.of {c : Ctx} {t n : Nat} {ag : Bool} (h : isTS c t n ag = true) : TS c t n ag := ⟨by
  unfold isTS at h
  split at h
  · rename_i ti hti
    rw [Bool.and_eq_true] at h
    refine ⟨ti, hti, Nat.eq_of_beq_eq_true h.1, ?_⟩
    have := h.2
    cases ha : ti.isAgg <;> cases ag <;> simp_all
  · cases h⟩
class MulL (a b : Nat) (c : outParam Nat) : Prop where
  eq : a * b = c
instance mull_0 (b : Nat) : MulL 0 b 0 := ⟨Nat.zero_mul b⟩
instance mull_s (a b c d : Nat) [q : MulL a b c] [r : AddL c b d] : MulL (a + 1) b d := ⟨by rw [Nat.succ_mul, q.eq, r.eq]⟩
section
variable {c : Ctx} {k : IntKind} {x y : Int} {t : Nat} {b : Bool} {g : AV → K.KR} {f : AV → H → K.KR} {u : H → K.KR} {h : H} {Q : AV → H → Prop} {L r : List As} {α : Type}
instance stp_idx {e esz n i m z : Nat} {l o : List AV} {s : Prop} [q : NN x i s] [ts : TS c e z true] [mu : MulL i esz m] [sl : Sl l m z o] : Stp (K.idxK c e esz n (.agg l) (.int k x) g) Q (Sd (s ∧ i < n) (Ok (g (.agg o)) Q)) := ⟨fun p => by
  obtain ⟨⟨p0, p1⟩, p2⟩ := p
  obtain ⟨ti, e1, e2, e3⟩ := ts.eq
  rw [q.eq p0]
  refine .eq ?_ p2
  show K.req (Nat.ble (Nat.succ i) n) (K.oK (partOf c e l (Nat.mul i esz)) g) = _
  rw [Nat.ble_eq_true_of_le p1]
  have hs := sl.eq
  have : partOf c e l (Nat.mul i esz) = some (.agg o) := by
    show partOf c e l (i * esz) = _
    unfold partOf
    rw [e1]
    simp only [e2, e3, mu.eq]
    rw [Nat.ble_eq_true_of_le hs.1]
    simp only [agg?, takeFrom, hs.2]
  rw [this]
  show K.oK (some (.agg o)) g = _
  exact K.oK_some _⟩
instance stp_loads {id off n : Nat} {cs o : List AV} {w : List AV → K.KR} [e : Hp h L] [q : Pk L id (.a id (.c cs)) r] [s : Sl cs off n o] : Stp (K.loads h id off n w) Q (Ok (w o) Q) := ⟨fun p => by
  refine .eq (K.loads_of (l := o) ?_) p
  rw [rep_loads (e.perm q.perm).head.1 s.eq.1, s.eq.2]⟩
instance stp_bldA {esz n : Nat} {ps : List (Nat × AV)} {z l : List AV} [zz : ZL c t (repl n z)] [lz : LenL z esz] [q : BSl esz 0 n ps l] : Stp (K.bldAK c t esz ps g) Q (Ok (g (.agg l)) Q) := ⟨fun p => by
  have e0 := q.eq [] z (by simp) lz.eq
  rw [List.nil_append, List.nil_append] at e0
  refine .eq (K.bldAK_of (l := l) fun f => ?_) p
  rw [zz.eq]
  exact fillK_of ps _ l f e0⟩
instance (priority := 500) stp_sts0 {id n : Nat} {cs l : List AV} [e : Hp h L] [q : Pk L id (.a id (.c cs)) r] : Stp (K.stsK n (.ptr id 0) (.agg l) h u) Q (Sd (l.length = cs.length ∧ l.length = n ∧ allB AV.isCell l = true) (∀ h', Hp h' (.a id (.c l) :: r) → Ok (u h') Q)) := ⟨fun p => by
  refine (stp_sts' (q := q)).to ⟨⟨by have := p.s.1; omega, p.s.2⟩, fun h' hh => p.p h' ?_⟩
  have e : putL cs 0 l = l := by
    unfold putL
    rw [Nat.zero_add, p.s.1, List.drop_length, List.take_zero, List.nil_append, List.append_nil]
  rw [e] at hh
  exact hh⟩
theorem ok_newMap [e : Hp h L] (p : ∀ id h', Hp h' (.a id (.m [] 0) :: L) → Ok (f (.map id) h') Q) : Ok (K.rK (.ok (.map (h.new (.map [] 0)).1, (h.new (.map [] 0)).2)) f) Q := by
  rw [K.rK_of]
  exact p _ _ (e.new (s := .m [] 0) (Nat.lt_succ_self _) (fun x hx => new_obj_old (by omega)) (new_obj_self _ _))
end
end Am

namespace Am
open Go
def recRun (c : Ctx) (run : Run) (g : Nat) (rv : AV) (args : List AV) (h : H) : Option H := match c.fn.get g with
  | some fn => match fn.body, fn.results.toList with
    | some (.seq (.region _ ops false) tail), [] => match ops.toList with
      | [o1, o2] => match o1.op, o1.guard, o2.op, o2.guard with
        | .call q, none, .assign x, none => match q.callee with
          | .builtin .recover => match noDef tail, execA c run none tail (anOf c g).r ⟨dstPut (dstPut (T.ofList args) o1.dst rv) o2.dst (evalO (dstPut (T.ofList args) o1.dst rv) x), [], h⟩ with
            | true, .ok (.norm, s) => match s.marks with | [] => some s.h | _ => none
            | true, .ok (.ret, s) => match s.marks with | [] => some s.h | _ => none
            | _, _ => none
          | _ => none
        | _, _, _, _ => none
      | _ => none
    | _, _ => none
  | none => none
def recA (c : Ctx) (run : Run) (f : Nat) (args : List AV) (h : H) : Option (AV × H) := match c.fn.get f with
  | some fn => match fn.body with
    | some (.seq a (.seq (.region _ ops false) rest)) => match noDef a, noDef rest, execA c run none a (anOf c f).l (S.keep (anOf c f) ⟨T.ofList args, [], h⟩) with
      | true, true, .ok (.norm, s1) => match s1.marks, ops.toList with
        | [], [o1, o2] => match o1.guard, o2.guard, o2.op, noDefOp o1 with
          | none, none, .defer q, true => match opA c run (S.keep (anOf c f).r.l (S.keep (anOf c f).r s1)).env o1.op s1.h with
            | .ok (v1, h1) => match q.callee, q.args.toList with
              | .value x, [] => match evalO (dstPut (S.keep (anOf c f).r.l (S.keep (anOf c f).r s1)).env o1.dst v1) x with
                | .func (.func g) [] cap => match execA c run none rest (anOf c f).r.r ⟨dstPut (dstPut (S.keep (anOf c f).r.l (S.keep (anOf c f).r s1)).env o1.dst v1) o2.dst (.tup []), [], h1⟩ with
                  | .ok (.pan v, s3) => match s3.marks, recRun c run g v cap s3.h with
                    | [], some h4 => match resultsA c s3.env h4 fn.results.toList with
                      | .ok vs => some (tupOf vs, h4)
                      | _ => none
                    | _, _ => none
                  | _ => none
                | _ => none
              | _, _ => none
            | _ => none
          | _, _, _, _ => none
        | _, _ => none
      | _, _, _ => none
    | _ => none
  | none => none
section
variable {c : Ctx} {P : Program} {G : Gd} {run : Run}
theorem marks_nil {ρ : Rho} {base ds : List Deferred} (h : MarksRel (T.e : T Unit) base ρ [] ds) : ds = base := by
  cases h with
  | nil => rfl
  | quiet d ms ds hq _ =>
    obtain ⟨g, cap, hg, _⟩ := hq
    rw [T.get_e] at hg; cases hg
theorem erel_args {ρ : Rho} {args : List AV} {as : List Value} {m : Nat} (ha : VRels ρ args as) : ERel ρ (T.ofList args) (⟨as⟩ ++ Array.replicate m undef) := by
  intro t v ht
  have ht' : args[t]? = some v := by rw [← T.get_ofList]; exact ht
  obtain ⟨y, y1, y2⟩ := ha.get ht'
  have hlt : t < as.length := by
    rcases Nat.lt_or_ge t as.length with q | q
    · exact q
    · rw [List.getElem?_eq_none q] at y1; cases y1
  refine ⟨y, ?_, y2⟩
  rw [Array.getElem?_append_left (by simpa using hlt)]
  simpa using y1
theorem erel_keep {ρ : Rho} {s : S} {an : An} {tmps : Array Value} (h : ERel ρ s.env tmps) : ERel ρ (s.keep an).env tmps := by
  cases an with
  | no => exact h
  | n k r a b =>
    cases k with
    | none => exact h
    | some l => exact fun t v ht => h t v (keepF_get l s.env .e (fun t v h => by rw [T.get_e] at h; cases h) t v ht)
theorem GOk.noDf {w : World} (h : GOk c G w) : GOk c.noDf G w := ⟨h.rng, h.size, h.gl⟩
theorem opsS_rec {F : Fence} {n : Nat} {ops : Array Oper} {Q : Exit → Act → List Frame → World → Prop} {i : Nat} {rest : List Nat} {a : Act} {cs : List Frame} {w : World} {o : Oper} (ho : ops[i]? = some o) (hF : ∀ f, F.fn f) (hw : Region.wanted o (yielded ops a.tmps) = true)
    (hx : (execOp a.eval o).run P w = .ok .recover w) (k : match recoverD cs with | some (v, cs') => wpOpsSIn F n P ops Q rest (a.put o.dst v) cs' w | none => wpOpsSIn F n P ops Q rest (a.put o.dst .nilIface) cs w) : wpOpsSIn F n P ops Q (i :: rest) a cs w := by
  simp only [wpOpsSIn, ho, hw, if_true, hx]
  exact ⟨fun f _ => hF f, k⟩
theorem opsS_val {F : Fence} {n : Nat} {ops : Array Oper} {Q : Exit → Act → List Frame → World → Prop} {i : Nat} {rest : List Nat} {a : Act} {cs : List Frame} {w w' : World} {o : Oper} {v : Value} (ho : ops[i]? = some o) (hF : ∀ f, F.fn f) (hw : Region.wanted o (yielded ops a.tmps) = true)
    (hx : (execOp a.eval o).run P w = .ok (.value v) w') (k : wpOpsSIn F n P ops Q rest (a.put o.dst v) cs w') : wpOpsSIn F n P ops Q (i :: rest) a cs w := by
  simp only [wpOpsSIn, ho, hw, if_true, hx]
  exact ⟨fun f _ => hF f, k⟩
theorem rec_in (hc : COk c P) (hR : RunOk c P G run) (hRp : RunPan c P G run) {g : Nat} {rv : AV} {args : List AV} {h h' : H} (hrun : recRun c run g rv args h = some h') :
    h.next ≤ h'.next ∧ ∀ (ρ : Rho) (w : World) (as : List Value) (u u' : FrameMode) (x : Value), (∀ m, ERel ρ (T.ofList args) (⟨as⟩ ++ Array.replicate m undef)) → VRel ρ rv x → HRel G ρ h.ph w → GOk c G w → Free ρ h.next h'.next →
      (∀ (c₀ : Frame) (cs : List Frame), c₀.mode = u → (match recoverD (c₀ :: cs) with | some (v, cs') => v = x ∧ cs' = { c₀ with mode := u' } :: cs | none => x = .nilIface ∧ u' = u)) →
      (callFunc g ⟨as⟩).run P w = .ok (.enter g ⟨as⟩) w ∧ CallsDIn Fence.wide 0 P g ⟨as⟩ u w fun e u1 w1 => u1 = u' ∧ (∃ v, e = .returned v) ∧ ∃ ρ', HRel G ρ' h'.ph w1 ∧ Tr ρ h.ph h.next w ρ' h'.ph h'.next w1 := by
  unfold recRun at hrun
  split at hrun
  case h_2 => cases hrun
  rename_i fn hf
  split at hrun
  case h_2 => cases hrun
  rename_i id ops tail hb hres
  split at hrun
  case h_2 => cases hrun
  rename_i o1 o2 hops
  split at hrun
  case h_2 => cases hrun
  rename_i q y ho1 hg1 ho2 hg2
  split at hrun
  case h_2 => cases hrun
  rename_i hq
  obtain ⟨f1, f2, f3⟩ := hc.fn g fn hf
  have hk0 := (f3 _ hb).1
  simp only [codeOk, Bool.and_eq_true] at hk0
  have hrg := (f3 _ hb).2
  have key : ∀ X s, (X = .norm ∨ X = .ret) → noDef tail = true → execA c run none tail (anOf c g).r ⟨dstPut (dstPut (T.ofList args) o1.dst rv) o2.dst (evalO (dstPut (T.ofList args) o1.dst rv) y), [], h⟩ = .ok (X, s) → s.marks = [] → s.h = h' →
      h.next ≤ h'.next ∧ ∀ (ρ : Rho) (w : World) (as : List Value) (u u' : FrameMode) (x : Value), (∀ m, ERel ρ (T.ofList args) (⟨as⟩ ++ Array.replicate m undef)) → VRel ρ rv x → HRel G ρ h.ph w → GOk c G w → Free ρ h.next h'.next →
      (∀ (c₀ : Frame) (cs : List Frame), c₀.mode = u → (match recoverD (c₀ :: cs) with | some (v, cs') => v = x ∧ cs' = { c₀ with mode := u' } :: cs | none => x = .nilIface ∧ u' = u)) →
      (callFunc g ⟨as⟩).run P w = .ok (.enter g ⟨as⟩) w ∧ CallsDIn Fence.wide 0 P g ⟨as⟩ u w fun e u1 w1 => u1 = u' ∧ (∃ v, e = .returned v) ∧ ∃ ρ', HRel G ρ' h'.ph w1 ∧ Tr ρ h.ph h.next w ρ' h'.ph h'.next w1 := by
    intro X s hX hnd he hms hh
    subst hh
    rw [← execA_noDf run none tail _ _ hnd] at he
    obtain ⟨n1, _⟩ := code_in (n := fn.ntmps) (rd := none) hc.noDf hR.noDf hRp.noDf tail (anOf c g).r _ X s (.inl rfl) hk0.2 (RngsOk.append (a := rngs (.region id ops false) (anOf c g).l) hrg).2 (by rcases hX with rfl | rfl <;> rfl) he
    refine ⟨n1, fun ρ w as u u' x ha hx hr hg hfree hrec => ⟨by simp [callFunc, f1, show ¬ (fn.name = "runtime.NumGoroutine") by simpa using f2, hb], callsDIn_of_wpSIn f1 hb trivial fun c₀ cs hm => ?_⟩⟩
    have hk := codeOk_mono (m := max fn.ntmps as.length) (Nat.le_max_left _ _) _ (f3 _ hb).1
    simp only [codeOk, Bool.and_eq_true] at hk
    obtain ⟨_, n2⟩ := code_in (n := max fn.ntmps as.length) (rd := none) hc.noDf hR.noDf hRp.noDf tail (anOf c g).r _ X s (.inl rfl) hk.2 (RngsOk.append (a := rngs (.region id ops false) (anOf c g).l) hrg).2 (by rcases hX with rfl | rfl <;> rfl) he
    have hsz : ops.size = 2 := by have := congrArg List.length hops; simpa using this
    have e0 : ops[0]? = some o1 := by rw [← Array.getElem?_toList, hops]; rfl
    have e1 : ops[1]? = some o2 := by rw [← Array.getElem?_toList, hops]; rfl
    have hd1 : dstOk (max fn.ntmps as.length) o1 = true := allB_iff.1 hk.1 o1 (by rw [hops]; simp)
    have hd2 : dstOk (max fn.ntmps as.length) o2 = true := allB_iff.1 hk.1 o2 (by rw [hops]; simp)
    refine wpSIn_seq (wpSIn_region ?_)
    rw [hsz]
    have hE0 : ERel ρ (T.ofList args) ((⟨as⟩ ++ Array.replicate (fn.ntmps - as.length) undef : Array Value)) := ha _
    have hs0 : ((⟨as⟩ ++ Array.replicate (fn.ntmps - as.length) undef : Array Value)).size = max fn.ntmps as.length := by simp; omega
    have w1 : ∀ a : Act, Region.wanted o1 (yielded ops a.tmps) = true := fun a => by unfold Region.wanted; rw [hg1]
    have w2 : ∀ a : Act, Region.wanted o2 (yielded ops a.tmps) = true := fun a => by unfold Region.wanted; rw [hg2]
    have x1 : ∀ a : Act, (execOp a.eval o1).run P w = .ok .recover w := fun a => by
      simp only [execOp, ho1, Go.resolve, hq, Sem.run_bind, Sem.run_pure, Result.andThen_ok, invoke, builtin]
    have x2 : ∀ a : Act, (execOp a.eval o2).run P w = .ok (.value (a.eval y)) w := fun a => by
      simp only [execOp, ho2, Sem.run_pure]
    have fin : wpOpsSIn Fence.wide 0 P ops (Exit.thenS (tail.wpSIn Fence.wide 0 P (bodyPostS P fn c₀ cs fun e u1 w1 => u1 = u' ∧ (∃ v, e = .returned v) ∧ ∃ ρ', HRel G ρ' s.h.ph w1 ∧ Tr ρ h.ph h.next w ρ' s.h.ph s.h.next w1)) (bodyPostS P fn c₀ cs fun e u1 w1 => u1 = u' ∧ (∃ v, e = .returned v) ∧ ∃ ρ', HRel G ρ' s.h.ph w1 ∧ Tr ρ h.ph h.next w ρ' s.h.ph s.h.next w1)) [1]
        (({ tmps := ⟨as⟩ ++ Array.replicate (fn.ntmps - as.length) undef, defers := [] } : Act).put o1.dst x) ({ c₀ with mode := u' } :: cs) w := by
      refine opsS_val e1 (fun _ => trivial) (w2 _) (x2 _) ?_
      have hE1 := ERel.put (d := o1.dst) (a := ({ tmps := ⟨as⟩ ++ Array.replicate (fn.ntmps - as.length) undef, defers := [] } : Act)) hE0 hx (fun t ht => by show t < _; rw [hs0]; exact dstOk_lt hd1 t ht)
      have hs1 : (({ tmps := ⟨as⟩ ++ Array.replicate (fn.ntmps - as.length) undef, defers := [] } : Act).put o1.dst x).tmps.size = max fn.ntmps as.length := by rw [put_size]; exact hs0
      have hE2 := ERel.put (d := o2.dst) hE1 (evalO_rel hE1 y) (fun t ht => by rw [hs1]; exact dstOk_lt hd2 t ht)
      refine wpSIn_of_wpIn rfl (wpIn_mono (n2 [] ρ _ w none trivial hE2 (by rw [put_size]; exact hs1) ?_ hr hg.noDf hfree) fun e a' w' hp => ?_)
      · rw [put_defers, put_defers]; exact .nil
      · obtain ⟨q1, ρ1, q2, q3, q4, q5, q6, _⟩ := hp
        rw [hms] at q4
        have hdf := marks_nil q4
        have hr0 : ∀ tm, (results fn tm).run P w' = .ok (.tuple #[]) w' := fun tm => by
          have : fn.results = #[] := Array.ext' hres
          unfold results
          rw [this]
          simp
        rcases hX with rfl | rfl <;> cases e <;> first
          | exact q1.elim
          | exact ⟨hdf, u', rfl, _, hr0 _, rfl, ⟨_, rfl⟩, ρ1, q5, q6⟩
    show wpOpsSIn Fence.wide 0 P ops _ [0, 1] _ _ w
    refine opsS_rec e0 (fun _ => trivial) (w1 _) (x1 _) ?_
    have hrc := hrec c₀ cs hm
    cases hrd : recoverD (c₀ :: cs) with
    | some vc =>
      obtain ⟨v, cs'⟩ := vc
      rw [hrd] at hrc
      obtain ⟨rfl, rfl⟩ := hrc
      exact fin
    | none =>
      rw [hrd] at hrc
      obtain ⟨rfl, rfl⟩ := hrc
      have : ({ c₀ with mode := u' } : Frame) = c₀ := by subst hm; rfl
      rw [this] at fin
      exact fin
  split at hrun
  · rename_i s hnd he
    split at hrun
    · rename_i hms; cases hrun; exact key _ s (.inl rfl) hnd he hms rfl
    · cases hrun
  · rename_i s hnd he
    split at hrun
    · rename_i hms; cases hrun; exact key _ s (.inr rfl) hnd he hms rfl
    · cases hrun
  · cases hrun
theorem defer_exact {env : T AV} {o : Oper} {q : Call} {x : Operand} {g : Nat} {cap : List AV} (ho : o.op = .defer q) (hq : q.callee = .value x) (hqa : q.args.toList = []) (hx : evalO env x = .func (.func g) [] cap) {ρ : Rho} {a : Act} {w : World} {K : Act → World → Prop} {Q : Exit → Act → World → Prop} (hE : ERel ρ env a.tmps)
    (hk : ∀ cs, VRels ρ cap cs → K ({ a with defers := { target := .fn (.func g) ⟨cs⟩, args := #[] } :: a.defers }.put o.dst undef) w) : o.wpIn (fence none) 0 P a w K Q := by
  refine ⟨fun f _ => fence_fn none f, ?_⟩
  have hp := evalO_rel hE x
  rw [hx] at hp
  obtain ⟨fs, cs, hv, hf, hc⟩ := hp.ofFunc
  cases hf
  have hargs : q.args = #[] := Array.ext' hqa
  have hrun : (execOp a.eval o).run P w = .ok (.defer { target := .fn (.func g) ⟨cs⟩, args := #[] }) w := by
    simp only [execOp, ho, Go.resolve, hq, Deferred.ofValue, hv, hargs, Sem.run_bind, Sem.run_pure, Result.andThen_ok]
    simp
  show o.uponIn (fence none) 0 P a K Q ((execOp a.eval o).run P w)
  rw [hrun]
  exact hk cs hc
theorem fn_rec (hc : COk c P) (hR : RunOk c P G run) (hRp : RunPan c P G run) {f : Nat} {args : List AV} {h h' : H} {v : AV} (hrun : recA c run f args h = some (v, h')) :
    h.next ≤ h'.next ∧ ∀ (ρ : Rho) (w : World) (as : List Value), VRels ρ args as → HRel G ρ h.ph w → GOk c G w → Free ρ h.next h'.next →
      (callFunc f ⟨as⟩).run P w = .ok (.enter f ⟨as⟩) w ∧ CallsIn Fence.wide 0 P f ⟨as⟩ w (RetE (Ret G ρ h w v h')) := by
  unfold recA at hrun
  split at hrun
  case h_2 => cases hrun
  rename_i fn hf
  split at hrun
  case h_2 => cases hrun
  rename_i ca id ops rest hb
  split at hrun
  case h_2 => cases hrun
  rename_i s1 hnda hndr hea
  split at hrun
  case h_2 => cases hrun
  rename_i o1 o2 hm1 hops
  split at hrun
  case h_2 => cases hrun
  rename_i q hg1 hg2 ho2 hno1
  split at hrun
  case h_2 => cases hrun
  rename_i v1 h1 hop
  split at hrun
  case h_2 => cases hrun
  rename_i x hq hqa
  split at hrun
  case h_2 => cases hrun
  rename_i g cap hx
  split at hrun
  case h_2 => cases hrun
  rename_i pv s3 her
  split at hrun
  case h_2 => cases hrun
  rename_i h4 hm3 hrec
  split at hrun
  case h_2 => cases hrun
  rename_i vs hres
  cases hrun
  obtain ⟨f1, f2, f3⟩ := hc.fn f fn hf
  have hk := codeOk_mono (m := max fn.ntmps args.length) (Nat.le_max_left _ _) _ (f3 _ hb).1
  have hrg := (f3 _ hb).2
  simp only [codeOk, Bool.and_eq_true] at hk
  obtain ⟨hk1, hk2, hk3⟩ := hk
  have hrg2 := RngsOk.append (a := rngs ca (anOf c f).l) (b := rngs (.seq (.region id ops false) rest) (anOf c f).r) hrg
  have hrg3 := RngsOk.append (a := rngs (.region id ops false) (anOf c f).r.l) (b := rngs rest (anOf c f).r.r) hrg2.2
  rw [← execA_noDf run none ca _ _ hnda] at hea
  rw [← execA_noDf run none rest _ _ hndr] at her
  obtain ⟨a1, a2⟩ := code_in (n := max fn.ntmps args.length) (rd := none) hc.noDf hR.noDf hRp.noDf ca (anOf c f).l _ .norm s1 (.inl rfl) hk1 hrg2.1 rfl hea
  rw [keep_h] at a1
  obtain ⟨b1, b2⟩ := op_in hc hR (o := o1) hop
  obtain ⟨c1, c2⟩ := code_in (n := max fn.ntmps args.length) (rd := none) hc.noDf hR.noDf hRp.noDf rest (anOf c f).r.r _ (.pan pv) s3 (.inl rfl) hk3 hrg3.2 rfl her
  obtain ⟨d1, d2⟩ := rec_in hc hR hRp hrec
  have a1 : h.next ≤ s1.h.next := a1
  have c1 : h1.next ≤ s3.h.next := c1
  have hall : h.next ≤ h'.next := by omega
  have hd1 : dstOk (max fn.ntmps args.length) o1 = true := allB_iff.1 hk2 o1 (by rw [hops]; simp)
  have hd2 : dstOk (max fn.ntmps args.length) o2 = true := allB_iff.1 hk2 o2 (by rw [hops]; simp)
  refine ⟨hall, fun ρ w as ha hr hg hfree => ⟨by simp [callFunc, f1, show ¬ (fn.name = "runtime.NumGoroutine") by simpa using f2, hb], callsIn_of_wp_marks f1 hb trivial (wpIn_seq ?_)⟩⟩
  have hlen := ha.length
  have hs0 : ((⟨as⟩ ++ Array.replicate (fn.ntmps - as.length) undef : Array Value)).size = max fn.ntmps args.length := by simp; omega
  have hfa : Free ρ h.next s1.h.next := hfree.less (by omega)
  refine wpIn_mono (a2 [] ρ { tmps := ⟨as⟩ ++ Array.replicate (fn.ntmps - as.length) undef, defers := [] } w none trivial (erel_keep (erel_args ha)) hs0 (by rw [keep_marks]; exact .nil) (by rw [keep_h]; exact hr) hg.noDf (by rw [keep_h]; exact hfa)) fun e aa wa hp => ?_
  obtain ⟨q1, ρa, qE, qn, qm, qr, qt, _⟩ := hp
  rw [keep_h] at qt
  cases e <;> first | exact q1.elim | skip
  rw [hm1] at qm
  have hda := marks_nil qm
  refine wpIn_seq (wpIn_region ?_)
  have hsz : ops.size = 2 := by have := congrArg List.length hops; simpa using this
  have e0 : ops[0]? = some o1 := by rw [← Array.getElem?_toList, hops]; rfl
  have e1 : ops[1]? = some o2 := by rw [← Array.getElem?_toList, hops]; rfl
  rw [hsz]
  show wpOpsIn (fence none) 0 P ops _ [0, 1] aa wa
  have w1 : Region.wanted o1 (yielded ops aa.tmps) = true := by unfold Region.wanted; rw [hg1]
  simp only [wpOpsIn, e0, w1, if_true]
  have hEk : ERel ρa (S.keep (anOf c f).r.l (S.keep (anOf c f).r s1)).env aa.tmps := erel_keep (erel_keep qE)
  have hga := hg.tr hr qt
  have hfa2 : Free ρa s1.h.next h'.next := hfree.tr qt a1
  refine b2 ρa aa wa none _ _ hEk qr hga (hfa2.less (by omega)) fun y wb ⟨ρb, t1, t2, t3⟩ => ?_
  have hEb := ERel.put (d := o1.dst) (hEk.mono t3.le) t1 (fun t ht => by rw [qn]; exact dstOk_lt hd1 t ht)
  have hnb : (aa.put o1.dst y).tmps.size = max fn.ntmps args.length := by rw [put_size]; exact qn
  have w2 : Region.wanted o2 (yielded ops (aa.put o1.dst y).tmps) = true := by unfold Region.wanted; rw [hg2]
  simp only [e1, w2, if_true]
  refine defer_exact ho2 hq hqa hx hEb fun cs hcs => ?_
  have hgb := hga.tr qr t3
  have hfb : Free ρb h1.next h'.next := hfa2.tr t3 b1
  have hdb : (aa.put o1.dst y).defers = [] := by rw [put_defers]; exact hda
  refine wpIn_mono (c2 [{ target := .fn (.func g) ⟨cs⟩, args := #[] }] ρb _ wb none trivial (ERel.put (a := { aa.put o1.dst y with defers := _ }) hEb (.tup _ _ .nil) (fun t ht => by show t < (aa.put o1.dst y).tmps.size; rw [hnb]; exact dstOk_lt hd2 t ht)) (by rw [put_size]; exact hnb) (by rw [put_defers]; show MarksRel _ _ _ _ (_ :: (aa.put o1.dst y).defers); rw [hdb]; exact .nil) t2 hgb.noDf (hfb.less (by omega))) fun e ac wc hp => ?_
  obtain ⟨_, ρc, pE, pn, pm, pr, pt, pp⟩ := hp
  obtain ⟨z, rfl, hz⟩ := pp pv rfl
  rw [hm3] at pm
  have hdc := marks_nil pm
  show LeavesInM Fence.wide 0 P fn ac.tmps _ ac.defers (.panicking _) wc
  rw [hdc]
  have hgc := hgb.tr t2 pt
  have hfc : Free ρc s3.h.next h'.next := hfb.tr pt c1
  obtain ⟨i1, i2⟩ := d2 ρc wc cs (.panicking [{ v := z, recovered := false }]) (.panicking [{ v := z, recovered := true }]) z (fun _ => erel_args (hcs.mono pt.le)) hz pr hgc hfc (fun c₀ cs' hm => by simp only [recoverD, hm]; exact ⟨trivial, trivial⟩)
  refine ⟨by simp, .inr ⟨fun hh => absurd hh (by simp [Fence.wide]), .func g, ⟨cs⟩, g, ⟨cs⟩, rfl, by simp only [invoke, Array.empty_append]; exact i1, fun _ _ => trivial, ?_⟩⟩
  refine CallsDIn.mono i2 fun e u wd hpost => ?_
  obtain ⟨rfl, ⟨rv, rfl⟩, ρd, j1, j2⟩ := hpost
  show LeavesInM Fence.wide 0 P fn ac.tmps _ [] (settle (.panicking [{ v := z, recovered := true }])) wd
  have hset : settle (.panicking [{ v := z, recovered := true }]) = .returning := rfl
  rw [hset]
  obtain ⟨ys, y1, y2⟩ := results_in hc fn.results.toList vs hres ρd wd (pE.mono j2.le) j1
  refine ⟨if h : ys.toArray.size = 1 then ys.toArray[0] else .tuple ys.toArray, ?_, ρd, tup_rel y2, j1, ?_⟩
  · have : (fn.results.mapM (resSem ac.tmps)).run P wd = .ok ys.toArray wd := by rw [Array.mapM_eq_mapM_toList]; simp [y1]
    have hd : results fn ac.tmps = (do let vs ← fn.results.mapM (resSem ac.tmps); pure (if h : vs.size = 1 then vs[0] else .tuple vs)) := by
      unfold results
      congr 1
    rw [hd, Sem.run_bind, this]
    rfl
  · exact ((qt.trans t3 a1 b1).trans pt (by omega) c1).trans j2 (by omega) d1
end
def Ctx.bare (c : Ctx) : Ctx := ⟨c.ty, c.fn, c.an, c.rng, .e, .e, .e, .e⟩
theorem bad_ok {c : Ctx} {P : Program} {G : Gd} : RunOk c P G (fun _ _ _ => .bad "") ∧ RunPan c P G (fun _ _ _ => .bad "") :=
  ⟨fun _ _ _ _ _ h => (nomatch h), ⟨fun _ _ _ _ _ h => (nomatch h), fun _ _ _ _ _ h => (nomatch h)⟩⟩
theorem quiet_of {c : Ctx} {P : Program} {g : Nat} (hc : COk c.bare P) (hrun : recRun c.bare (fun _ _ _ => .bad "") g .nilIface [] ⟨0, .e⟩ = some ⟨0, .e⟩) : QuietFn P g := fun cap w => by
  obtain ⟨k1, k2⟩ := rec_in (G := ⟨0, c.rng⟩) hc bad_ok.1 bad_ok.2 hrun
  have h0 : (⟨0, .e⟩ : H).ph = fun _ => none := by funext id; exact T.get_e _
  obtain ⟨al⟩ := cap
  obtain ⟨j1, j2⟩ := k2 (fun _ => none) w al .returning .returning .nilIface (fun m t v ht => by rw [T.get_ofList] at ht; simp at ht) .nilIface (by rw [h0]; exact HRel.empty _ _ _) ⟨rfl, Nat.zero_le _, fun g n t hg => by
    have hg : (T.e : T (Nat × T AV)).get g = some (n, t) := hg
    rw [T.get_e] at hg; cases hg⟩ (fun _ _ _ => rfl) (fun c₀ cs hm => by simp only [recoverD, hm]; exact ⟨trivial, trivial⟩)
  refine ⟨j1, CallsDIn.mono j2 fun e u w' ⟨e1, e2, ρ', e3, e4⟩ => ⟨e1, e2, ?_⟩⟩
  have : ρ' = fun _ => none := by funext id; exact e4.out id (.inr (Nat.zero_le _))
  subst this
  rw [h0] at e4
  exact e4
end Am

namespace Am
open Go
noncomputable def hyb (c : Ctx) (kr : K.KRun) (n : Nat) : Run := Nat.rec (motive := fun _ => Run) (fun _ _ _ => .bad "")
  (fun _ ih t args h => K.KR.rec (motive := fun _ => R (AV × H)) (fun v h' => .ok (v, h')) (stepA c ih t args h) (kr t args h)) n
theorem hyb_ok {c : Ctx} {P : Program} {G : Gd} {kr : K.KRun} {m : Nat} (hc : COk c P) (hX : ExtOk c P) (hS : SumOk c P G) (hle : K.KLe kr (runA c m)) : ∀ n, RunOk c P G (hyb c kr n) ∧ RunPan c P G (hyb c kr n)
  | 0 => bad_ok
  | n + 1 => by
    obtain ⟨h1, h2⟩ := hyb_ok hc hX hS hle n
    have hd : ∀ t args h, hyb c kr (n + 1) t args h = K.KR.rec (motive := fun _ => R (AV × H)) (fun v h' => .ok (v, h')) (stepA c (hyb c kr n) t args h) (kr t args h) := fun _ _ _ => rfl
    have s1 := step_ok hc hX hS h1 h2
    have s2 := step_pan hc h1 h2
    refine ⟨fun t args h v h' e => ?_, fun l args h v h' e => ?_, fun f args h v h' e => ?_⟩
    · rw [hd] at e
      cases hk : kr t args h with
      | ok u hu =>
        rw [hk] at e
        cases e
        exact run_ok hc hX hS m t args h v h' (hle _ _ _ _ _ hk)
      | bad => rw [hk] at e; exact s1 t args h v h' e
    · rw [hd] at e
      cases hk : kr (.yield l) args h with
      | ok u hu => rw [hk] at e; cases e
      | bad => rw [hk] at e; exact s2.1 l args h v h' e
    · rw [hd] at e
      cases hk : kr (.fn f) args h with
      | ok u hu => rw [hk] at e; cases e
      | bad => rw [hk] at e; exact s2.2 f args h v h' e
noncomputable def lookS (c : Ctx) (kr : K.KRun) (n f : Nat) : Sum := fun args h => K.KR.rec (motive := fun _ => Option (AV × H)) (fun v h' => some (v, h')) (recA c (hyb c kr n) f args h) (kr (.fn f) args h)
theorem sok_look {c : Ctx} {P : Program} {G : Gd} {kr : K.KRun} {m n f j : Nat} {g : K.KRun → List AV → H → K.KR} (hc : COk c P) (hX : ExtOk c P) (hS : SumOk c P G) (hle : K.KLe kr (runA c m)) (hx : c.ext.get f = none) : SOk c P G ⟨f, j, g, lookS c kr n f⟩ := by
  intro args h v h' hq
  have hq : lookS c kr n f args h = some (v, h') := hq
  unfold lookS at hq
  cases hk : kr (.fn f) args h with
  | ok u hu =>
    rw [hk] at hq
    cases hq
    obtain ⟨q1, q2⟩ := run_ok (G := G) hc hX hS m _ _ _ _ _ (hle _ _ _ _ _ hk)
    exact ⟨q1, fun ρ w vs p1 p2 p3 p4 => q2 ρ w vs p1 p2 p3 p4⟩
  | bad =>
    rw [hk] at hq
    obtain ⟨r1, r2⟩ := hyb_ok hc hX hS hle n
    obtain ⟨q1, q2⟩ := fn_rec hc r1 r2 hq
    exact ⟨q1, fun ρ w vs p1 p2 p3 p4 => .inr (q2 ρ w vs p1 p2 p3 p4)⟩
end Am

namespace Am
open Go
def cL : Code → Code | .seq a _ => a | c => c
def cR : Code → Code | .seq _ b => b | c => c
def cOps : Code → List Oper | .region _ l _ => l.toList | _ => []
def outS : R (X × S) → S | .ok (_, s) => s | _ => ⟨.e, [], ⟨0, .e⟩⟩
def outE : R (T AV × H) → T AV × H | .ok x => x | _ => (.e, ⟨0, .e⟩)
section
variable {c : Ctx} {run : Run} {rd : Option Nat} {ops : List Oper}
theorem opsA_at {k : Nat} : ∀ {l l2 : List Oper} {o : Oper} {env env1 : T AV} {h h1 : H} {r : R (AV × H)}, l.drop k = o :: l2 → opsA c run ops (l.take k) env h = .ok (env1, h1) → wantedA env1 ops o.guard = some true → opD c run env1 o.op h1 = r →
    opsA c run ops l env h = match r with
      | .ok (v, h) => opsA c run ops l2 (dstPut env1 o.dst v) h
      | .pan v h => .pan v h
      | .bad w => .bad (w ++ " @ " ++ o.pos) := by
  induction k with
  | zero =>
    intro l l2 o env env1 h h1 r hd hp hg hr
    rw [List.drop_zero] at hd
    rw [List.take_zero] at hp
    subst hd
    unfold opsA at hp
    cases hp
    conv => lhs; unfold opsA
    rw [hg]
    simp only
    rw [hr]
    rfl
  | succ k ih =>
    intro l l2 o env env1 h h1 r hd hp hg hr
    cases l with
    | nil => cases hd
    | cons x l =>
      rw [List.drop_succ_cons] at hd
      rw [List.take_succ_cons] at hp
      unfold opsA at hp
      conv => lhs; unfold opsA
      cases hw : wantedA env ops x.guard with
      | none => rw [hw] at hp; cases hp
      | some b =>
        rw [hw] at hp
        cases b with
        | false => exact ih hd hp hg hr
        | true =>
          simp only at hp ⊢
          cases ho : opD c run env x.op h with
          | ok p =>
            rw [ho] at hp
            obtain ⟨v, h'⟩ := p
            exact ih hd hp hg hr
          | pan v h' => rw [ho] at hp; cases hp
          | bad w => rw [ho] at hp; cases hp
theorem opsA_ok {k : Nat} {l l2 : List Oper} {o : Oper} {env env1 : T AV} {h h1 h2 : H} {v : AV} {x : T AV × H} (hd : l.drop k = o :: l2) (hp : opsA c run ops (l.take k) env h = .ok (env1, h1)) (hg : wantedA env1 ops o.guard = some true) (hr : opD c run env1 o.op h1 = .ok (v, h2))
    (hn : opsA c run ops l2 (dstPut env1 o.dst v) h2 = .ok x) : opsA c run ops l env h = .ok x := by rw [opsA_at hd hp hg hr]; exact hn
theorem opsA_pan {k : Nat} {l l2 : List Oper} {o : Oper} {env env1 : T AV} {h h1 h2 : H} {v : AV} (hd : l.drop k = o :: l2) (hp : opsA c run ops (l.take k) env h = .ok (env1, h1)) (hg : wantedA env1 ops o.guard = some true) (hr : opD c run env1 o.op h1 = .pan v h2) :
    opsA c run ops l env h = .pan v h2 := by rw [opsA_at hd hp hg hr]
theorem region_ok {id : Nat} {l : Array Oper} {an : An} {s : S} {env : T AV} {h : H} (e : opsA c run l.toList l.toList (s.keep an).env s.h = .ok (env, h)) : execA c run rd (.region id l false) an s = .ok (.norm, ⟨env, s.marks, h⟩) := by
  unfold execA
  simp only
  rw [e]
theorem region_pan {id : Nat} {l : Array Oper} {an : An} {s : S} {v : AV} {h : H} (e : opsA c run l.toList l.toList (s.keep an).env s.h = .pan v h) : execA c run rd (.region id l false) an s = .ok (.pan v, ⟨dropD l.toList (s.keep an).env, s.marks, h⟩) := by
  unfold execA
  simp only
  rw [e]
theorem seq_ok {a b : Code} {an : An} {s s1 : S} {r : R (X × S)} (e1 : execA c run rd a an.l (s.keep an) = .ok (.norm, s1)) (e2 : execA c run rd b an.r s1 = r) : execA c run rd (.seq a b) an s = r := by
  conv => lhs; unfold execA
  rw [e1]
  exact e2
theorem seq_pan {a b : Code} {an : An} {s s1 : S} {v : AV} (e1 : execA c run rd a an.l (s.keep an) = .ok (.pan v, s1)) : execA c run rd (.seq a b) an s = .ok (.pan v, s1) := by
  conv => lhs; unfold execA
  rw [e1]
theorem step_of_pan {f : Nat} {fn : Func} {code : Code} {args : List AV} {h h' : H} {v : AV} {s : S} (h1 : c.sum.get f = none) (h2 : c.fn.get f = some fn) (h3 : fn.body = some code) (h4 : execA c run none code (anOf c f) ⟨T.ofList args, [], h⟩ = .ok (.pan v, s)) (h5 : noDef code = true) (h6 : unmark s.marks s.h = some h') :
    stepA c run (.fn f) args h = .pan v h' := by
  unfold stepA
  simp only
  rw [h1]
  simp only
  rw [h2]
  simp only
  rw [h3]
  simp only
  rw [h4]
  simp only
  rw [h5, h6]
def recPre (c : Ctx) (run : Run) (f : Nat) (args : List AV) (h : H) : Option (Func × Code × S × Nat × List AV) := match c.fn.get f with
  | some fn => match fn.body with
    | some (.seq a (.seq (.region _ ops false) rest)) => match noDef a, noDef rest, execA c run none a (anOf c f).l (S.keep (anOf c f) ⟨T.ofList args, [], h⟩) with
      | true, true, .ok (.norm, s1) => match s1.marks, ops.toList with
        | [], [o1, o2] => match o1.guard, o2.guard, o2.op, noDefOp o1 with
          | none, none, .defer q, true => match opA c run (S.keep (anOf c f).r.l (S.keep (anOf c f).r s1)).env o1.op s1.h with
            | .ok (v1, h1) => match q.callee, q.args.toList with
              | .value x, [] => match evalO (dstPut (S.keep (anOf c f).r.l (S.keep (anOf c f).r s1)).env o1.dst v1) x with
                | .func (.func g) [] cap => some (fn, rest, ⟨dstPut (dstPut (S.keep (anOf c f).r.l (S.keep (anOf c f).r s1)).env o1.dst v1) o2.dst (.tup []), [], h1⟩, g, cap)
                | _ => none
              | _, _ => none
            | _ => none
          | _, _, _, _ => none
        | _, _ => none
      | _, _, _ => none
    | _ => none
  | none => none
theorem recA_of {f g : Nat} {fn : Func} {rest : Code} {s s3 : S} {cap args : List AV} {h h4 : H} {v : AV} {vs : List AV} (h1 : recPre c run f args h = some (fn, rest, s, g, cap)) (h2 : execA c run none rest (anOf c f).r.r s = .ok (.pan v, s3)) (h3 : s3.marks = []) (h5 : recRun c run g v cap s3.h = some h4)
    (h6 : resultsA c s3.env h4 fn.results.toList = .ok vs) : recA c run f args h = some (tupOf vs, h4) := by
  unfold recPre at h1
  unfold recA
  repeat' split at h1
  all_goals first | (cases h1; done) | skip
  all_goals rename_i hh
  all_goals simp_all
end
def hW (n : Nat) (t : T AV) : H := ⟨1, ⟨.no (some (.cells n t))⟩⟩
theorem hW_obj (n : Nat) (t : T AV) (id : Nat) : (hW n t).obj id = if id = 0 then some (.cells n t) else none := by
  unfold hW H.obj
  have e : (⟨.no (some (.cells n t))⟩ : T AObj) = (T.e : T AObj).set 0 (.cells n t) := rfl
  rw [e, T.get_set, T.get_e]
theorem rigid_flat {ρ ρ' : Rho} {v : AV} {x : Value} (hv : rigid v = true) (h : VRel ρ v x) : VRel ρ' v x := VRel.flat (by cases v <;> first | rfl | cases hv) h
theorem known_words {c : Ctx} {P : Program} {G : Gd} {f len tag n : Nat} {t : T AV} {v : AV} {hf : H}
    (hq : ∀ (ρ : Rho) (w : World) (vs : List Value), VRels ρ [.slice 0 0 len tag] vs → HRel G ρ (hW n t).ph w → GOk c G w → Free ρ 1 hf.next → FnOk c P f ⟨vs⟩ w (Ret G ρ (hW n t) w v hf))
    (hv : v.flat = true) (hkeep : hf.obj 0 = some (.cells n t)) (hrig : ∀ k x, k < n → t.get k = some x → rigid x = true) (hx : c.ext.get f = none)
    (h : H) (ρ : Rho) (w : World) (vs : List Value) (ho : h.obj 0 = some (.cells n t)) (hvs : VRels ρ [.slice 0 0 len tag] vs) (hr : HRel G ρ h.ph w) (hg : GOk c G w) : FnOk c P f ⟨vs⟩ w (Ret G ρ h w v h) := by
  obtain ⟨l, ob, l1, l2, l3⟩ := hr.obj 0 _ ho
  obtain ⟨arr, elem, fr, rfl, m1, m2, m3, m4⟩ := l3
  have hrel : HRel G (fun id => if id = 0 then some l else none) (hW n t).ph w := by
    refine ⟨fun id o hid => ?_, fun i j oi oj li lj hij hi hj => ?_, fun id o l' hid hl => ?_⟩
    · have hid : (hW n t).obj id = some o := hid
      rw [hW_obj] at hid
      split at hid
      · rename_i h0
        cases hid
        refine ⟨l, _, by rw [if_pos h0], l2, arr, elem, fr, rfl, m1, m2, m3, fun k hk => ?_⟩
        obtain ⟨a, b, k1, k2, k3⟩ := m4 k hk
        exact ⟨a, b, k1, k2, rigid_flat (hrig k a hk k1) k3⟩
      · cases hid
    · have hi : (hW n t).obj i = some oi := hi
      have hj : (hW n t).obj j = some oj := hj
      rw [hW_obj] at hi hj
      split at hi
      · split at hj
        · omega
        · cases hj
      · cases hi
    · have hl : (if id = 0 then some l else none) = some l' := hl
      split at hl
      · cases hl; exact hr.low 0 _ l ho l1
      · cases hl
  have hvs0 : VRels (fun id => if id = 0 then some l else none) [.slice 0 0 len tag] vs := by
    cases hvs with
    | cons _ _ _ _ k1 k2 =>
      cases k2
      cases k1 with
      | slice _ _ _ _ l' a cap q1 q2 q3 q4 q5 => rw [l1] at q1; cases q1; exact .cons _ _ _ _ (.slice _ _ _ _ l a cap rfl q2 q3 q4 q5) .nil
      | _ => first | exact .cons _ _ _ _ (.unk _) .nil | skip
  rcases hq _ w vs hvs0 hrel hg (fun id q1 _ => by simp; omega) with ⟨h3, _⟩ | ⟨h3, h4⟩
  · exact absurd hx h3
  refine .inr ⟨h3, h4.mono fun en w' he => ?_⟩
  cases en with
  | panicked => exact he.elim
  | outgrown => exact he.elim
  | returned x =>
    obtain ⟨ρ', k1, k2, k3⟩ := he
    have own0 : ∀ b k, Own (fun id => if id = 0 then some l else none) (hW n t).ph b k → b = l.b ∧ l.base ≤ k ∧ k < l.base + l.room := fun b k ⟨id, o, l', q1, q2, q3, q4, q5⟩ => by
      have q2 : (if id = 0 then some l else none) = some l' := q2
      split at q2
      · cases q2; exact ⟨q3.symm, q4, q5⟩
      · cases q2
    have own1 : ∀ b k, Own (fun id => if id = 0 then some l else none) (hW n t).ph b k → Own ρ h.ph b k := fun b k hk => by
      obtain ⟨rfl, q1, q2⟩ := own0 b k hk
      exact ⟨0, _, l, ho, l1, rfl, q1, q2⟩
    refine ⟨ρ, VRel.flat hv k1, ⟨fun id o hid => ?_, hr.disj, hr.low⟩, ⟨ρ.le_refl, fun _ _ => rfl, k3.size, fun b ob hb hno => k3.kept b ob hb fun k hk => hno k (own1 b k hk), fun b a el fr' hb => ?_, fun _ _ _ ho => ho, (fun id o q1 q2 => by rw [q1] at q2; cases q2), k3.os, k3.output, k3.tape⟩⟩
    · by_cases h0 : id = 0
      · subst h0
        have hid : h.obj 0 = some o := hid
        rw [ho] at hid
        cases hid
        obtain ⟨l3, ob3, y1, y2, y3⟩ := k2.obj 0 _ hkeep
        rw [k3.le 0 l rfl] at y1; cases y1
        obtain ⟨a3, e3, f3, r1, r2, r3, r4, r5⟩ := y3
        exact ⟨l, _, l1, y2, a3, e3, f3, r1, r2, r3, r4, fun k hk => by
          obtain ⟨y, z, n1, n2, n3⟩ := r5 k hk
          exact ⟨y, z, n1, n2, rigid_flat (hrig k y hk n1) n3⟩⟩
      · obtain ⟨li, obi, q1, q2, q3⟩ := hr.obj id o hid
        have nOwn : ∀ k, li.base ≤ k → k < li.base + li.room → ¬ Own (fun id => if id = 0 then some l else none) (hW n t).ph li.b k := fun k k1 k2 hk => by
          obtain ⟨e1, e2, e3⟩ := own0 _ _ hk
          exact hr.disj id 0 o _ li l h0 hid ho q1 l1 e1 k k1 k2 e2 e3
        rcases q3.noCells with ⟨nn, tt, rfl, arr1, elem1, fr1, rfl⟩ | ⟨hb0, hr0, hnc⟩
        · obtain ⟨arr', h3, h4, h5⟩ := k3.cells _ arr1 elem1 fr1 q2
          obtain ⟨arr2, elem2, fr2, e1, e2, e3, e4, e5⟩ := q3
          cases e1
          refine ⟨li, _, q1, h3, arr', elem1, fr1, rfl, e2, by omega, e4, fun k hk => ?_⟩
          obtain ⟨v, x, f1, f2, f3⟩ := e5 k hk
          exact ⟨v, x, f1, by rw [h5 _ (nOwn _ (by omega) (by omega))]; exact f2, f3⟩
        · refine ⟨li, obi, q1, k3.kept _ obi q2 fun k hk => ?_, q3⟩
          obtain ⟨e1, _, _⟩ := own0 _ _ hk
          rw [e1, l2] at q2
          cases q2
          exact hnc _ _ _ rfl
    · obtain ⟨arr', s1, s2, s3⟩ := k3.cells b a el fr' hb
      exact ⟨arr', s1, s2, fun k hk => s3 k fun hk' => hk (own1 b k hk')⟩
noncomputable def sF (args0 : List AV) (v : AV) : Sum := open Classical in fun args h => if args = args0 then some (v, h) else none
theorem sF_eq {args0 : List AV} {v : AV} {h : H} : sF args0 v args0 h = some (v, h) := if_pos rfl
theorem sokF {c : Ctx} {P : Program} {G : Gd} {kr : K.KRun} {m f j : Nat} {g : K.KRun → List AV → H → K.KR} {args0 : List AV} {v : AV} {hf : H} (hc : COk c P) (hX : ExtOk c P) (hS : SumOk c P G) (hle : K.KLe kr (runA c m)) (e : kr (.fn f) args0 ⟨0, .e⟩ = .ok v hf)
    (ha : AV.flats args0 = true) (hv : v.flat = true) (hx : c.ext.get f = none) : SOk c P G ⟨f, j, g, sF args0 v⟩ := fun args h u h' hq => by
  by_cases he : args = args0
  · have k : sF args0 v args h = some (v, h) := if_pos he
    have hq : some (v, h) = some (u, h') := k.symm.trans hq
    obtain ⟨rfl, rfl⟩ := Prod.mk.inj (Option.some.inj hq)
    subst he
    exact ⟨Nat.le_refl _, fun ρ w vs p1 p2 p3 _ => known_run hc hX hS (hle _ _ _ _ _ e) ha hv hx c h ρ w vs p1 p2 p3⟩
  · have k : sF args0 v args h = none := if_neg he
    have hq : none = some (u, h') := k.symm.trans hq
    cases hq
end Am


namespace Am
open Go
noncomputable section
namespace K
abbrev loopEN (N : Nat) (b : ExF) : ExF := fun an run ret ex env ms h k => keepK an env fun env => optS (kept an.l) fun l => pick l env fun vs =>
  loopV N (fun self vs ms h => mkEnv l vs .e fun env => b an.l run ret ex env ms h fun env ms h => pick l env fun vs => self vs ms h) vs ms h
abbrev execN (N : Nat) (c : Ctx) (rd : Option Nat) (x : Code) : ExF :=
  Code.rec (motive := fun _ => ExF) (fun an _ _ _ env ms h k => keepK an env fun env => k env ms h)
    (fun _ q d an run _ _ env ms h k => keepK an env fun env => Bool.rec (motive := fun _ => KR) (regK c run q.toList q.toList env h fun env h => k env ms h) (optS (plan c q.toList) fun l => planK c run q.toList l [] env h fun env h => k env ms h) d)
    (fun _ _ a b => seqK a b)
    (fun o _ _ a b an run ret ex env ms h k => keepK an env fun env => ev o env fun v => iteV v (a an.l run ret ex env ms h k) (b an.r run ret ex env ms h k))
    (fun id _ b an run ret ex env ms h k => keepK an env fun env => b an.l run ret (fun i env ms h => Bool.rec (motive := fun _ => KR) (ex i env ms h) (k env ms h) (Nat.beq i id)) env ms h k)
    (fun _ b => loopEN N b)
    (fun f ps as body _ _ => rangeK c rd f ps as body)
    (fun id an _ _ ex env ms h _ => keepK an env fun env => ex id env ms h)
    (fun _ b an run ret ex env ms h k => keepK an env fun env => b an.l run ret ex env ms h k)
    (fun _ an _ _ _ env ms h k => keepK an env fun env => k env ms h)
    (fun _ _ _ _ _ _ _ _ _ => .bad)
    (fun an _ ret _ env ms h _ => keepK an env fun env => ret env ms h)
    (fun _ _ _ _ _ _ _ _ _ => .bad) x
abbrev fnKN (N : Nat) (c : Ctx) (f n : Nat) : KRun → List AV → H → KR := fun run args h => optS (c.fn.get f) fun fn => optS (Func.body fn) fun code => argsK n (nat_lit 0) .e args fun env =>
  execN N c none code (anOf c f) run (finK c fn.results.toList) (fun _ _ _ _ => .bad) env [] h (finK c fn.results.toList)
theorem fnKN_eq (c : Ctx) (f n : Nat) : fnK c f n = fnKN 1000000 c f n := rfl
end K
end
end Am

namespace Am
open Go Go.ChangeShapes Go.WideShapes Go.ChangeAt Go.RowKit Go.Joins
theorem calls_heap' {c : Ctx} {P : Program} {G : Gd} {kr : K.KRun} {n f : Nat} {args : List AV} {h0 hf : H} {ρ : Rho} (hc : COk c P) (hX : ExtOk c P) (hS : SumOk c P G) (hle : K.KLe kr (runA c n))
    (hk : kr (.fn f) args h0 = .ok (.bool true) hf) (hkeep : ∀ id n t, h0.obj id = some (.cells n t) → ∃ t', hf.obj id = some (.cells n t') ∧ ∀ k, k < n → t'.get k = t.get k) (hx : c.ext.get f = none) {w : World} (hg : GOk c G w) {vs : List Value} (hv : VRels ρ args vs) (hr : HRel G ρ h0.ph w)
    (hfree : ∀ id, h0.next ≤ id → ρ id = none) (hrig : ∀ id o l, h0.obj id = some o → ρ id = some l → ∃ t, o = .cells l.room t ∧ ∀ k v, k < l.room → t.get k = some v → rigid v = true) :
    CallsIn Fence.wide 0 P f ⟨vs⟩ w (RetE fun x w' => x = .bool true ∧ Below w.heap.size w w') := by
  have e := hle _ _ _ _ _ hk
  obtain ⟨h1, h2⟩ := run_ok (G := G) hc hX hS n _ _ _ _ _ e
  rcases h2 ρ w vs hv hr hg (fun id q1 _ => hfree id q1) with ⟨h3, _⟩ | ⟨_, h3⟩
  · exact absurd hx h3
  · refine h3.mono fun en w' he => ?_
    cases en with
    | returned x =>
      obtain ⟨ρ', k1, k2, k3⟩ := he
      refine ⟨k1.ofBool, k3.os, k3.tape, k3.output, k3.size, fun b hb => ?_⟩
      obtain ⟨ob, hob⟩ : ∃ ob, w.heap[b]? = some ob := ⟨_, Array.getElem?_eq_getElem hb⟩
      rw [hob]
      by_cases ho : ∃ k, Own ρ h0.ph b k
      · obtain ⟨k, id, o, l, q1, q2, rfl, q4, q5⟩ := ho
        obtain ⟨l', ob', r1, r2, r3⟩ := hr.obj id o q1
        rw [q2] at r1; cases r1
        rw [hob] at r2; cases r2
        obtain ⟨t, rfl, _⟩ := hrig id o l q1 q2
        obtain ⟨arr, elem, fr, rfl, _⟩ := r3
        obtain ⟨arr', s1, s2, s3⟩ := k3.cells l.b arr elem fr hob
        rw [s1]
        congr 2
        apply Array.ext
        · exact s2
        · intro i i1 i2
          by_cases hown : Own ρ h0.ph l.b i
          · obtain ⟨id2, o2, l2, p1, p2, p3, p4, p5⟩ := hown
            obtain ⟨t2, rfl, hrg⟩ := hrig id2 o2 l2 p1 p2
            obtain ⟨l2', ob2, u1, u2, u3⟩ := hr.obj id2 _ p1
            rw [p2] at u1; cases u1
            rw [p3, hob] at u2; cases u2
            obtain ⟨a2, e2, f2, w1, w2, w3, w4, w5⟩ := u3
            cases w1
            obtain ⟨v, x, z1, z2, z3⟩ := w5 (i - l2.base) (by omega)
            rw [show l2.base + (i - l2.base) = i by omega] at z2
            obtain ⟨t3, hk3, hk4⟩ := hkeep id2 _ _ p1
            have hkp : hf.ph id2 = some (.cells l2.room t3) := hk3
            obtain ⟨l3, ob3, y1, y2, y3⟩ := k2.obj id2 _ hkp
            rw [k3.le _ _ p2] at y1; cases y1
            rw [p3, s1] at y2; cases y2
            obtain ⟨a3, e3, f3, m1, m2, m3, m4, m5⟩ := y3
            cases m1
            obtain ⟨v', x', n1, n2, n3⟩ := m5 (i - l2.base) (by omega)
            rw [show l2.base + (i - l2.base) = i by omega] at n2
            rw [hk4 _ (by omega), z1] at n1; cases n1
            have := rigid_eq (hrg _ _ (by omega) z1) z3 n3
            subst this
            rw [Array.getElem?_eq_getElem i2] at z2
            rw [Array.getElem?_eq_getElem i1] at n2
            rw [Option.some.inj z2, Option.some.inj n2]
          · have := s3 i hown
            rw [Array.getElem?_eq_getElem i1, Array.getElem?_eq_getElem i2] at this
            exact Option.some.inj this
      · exact k3.kept b ob hob fun k hk => ho ⟨k, hk⟩
    | panicked => exact he.elim
    | outgrown => exact he.elim
def LeafOkR : Leaf → Value → Prop
  | .int k, v => ∃ n, v = .int k n ∧ k.min ≤ n ∧ n ≤ k.max
  | .bool, v => ∃ b, v = .bool b
  | .str, v => ∃ s, v = .string s
  | .any, _ => True
def LeafAllR : List Leaf → List Value → Prop
  | [], vs => vs = []
  | k :: ks, vs => ∃ v r, vs = v :: r ∧ LeafOkR k v ∧ LeafAllR ks r
theorem LeafAllR.length : ∀ {ks : List Leaf} {vs : List Value}, LeafAllR ks vs → vs.length = ks.length
  | [], _, h => by cases h; rfl
  | _ :: _, _, ⟨_, _, e, _, h⟩ => by subst e; simp [LeafAllR.length h]
theorem LeafAllR.append : ∀ {ks ks' : List Leaf} {vs vs' : List Value}, LeafAllR ks vs → LeafAllR ks' vs' → LeafAllR (ks ++ ks') (vs ++ vs')
  | [], _, _, _, h, h' => by cases h; simpa using h'
  | _ :: _, _, _, _, ⟨v, r, e, h1, h2⟩, h' => by subst e; exact ⟨v, r ++ _, rfl, h1, LeafAllR.append h2 h'⟩
section
variable {H : Type} {enc : TypeId × Value → H} {P : Program} {w : World} {base : Nat} {spare : Nat → Bool} {held : Bool}
theorem fieldsLeavesR_ok {rc : TypeId → Option (List Leaf)} {cs : List Value} : ∀ (fs : List Field) (o : Nat) (ks : List Leaf), fieldsLeaves P rc fs o = some ks → o + ks.length = cs.length →
    (∀ f ∈ fs, ∀ l, rc f.type = some l → LeafAllR l ((cs.drop f.offset).take (P.cellsOf f.type))) → LeafAllR ks (cs.drop o)
  | [], o, ks, h, hlen, _ => by
    cases h
    simp only [List.length_nil, Nat.add_zero] at hlen
    rw [hlen, List.drop_length]; rfl
  | f :: fs, o, ks, h, hlen, hf => by
    unfold fieldsLeaves at h
    split at h
    · rename_i l hl
      split at h
      · rename_i r hb hr
        cases h
        simp only [Bool.and_eq_true] at hb
        have h1 := Nat.eq_of_beq_eq_true hb.1
        have h2 := Nat.eq_of_beq_eq_true hb.2
        simp only [List.length_append] at hlen
        have hh := hf f List.mem_cons_self l hl
        rw [h1, h2] at hh
        have ih := fieldsLeavesR_ok fs (o + l.length) r hr (by omega) (fun g hg => hf g (List.mem_cons_of_mem _ hg))
        have e : cs.drop o = (cs.drop o).take l.length ++ cs.drop (o + l.length) := by
          rw [← List.drop_drop, List.take_append_drop]
        rw [e]
        exact hh.append ih
      · cases h
    · cases h
theorem trod_leavesR : ∀ (n fuel : Nat) (t : TypeId) (cs : List Value) (x : DataW H × List MemPlace) (ks : List Leaf), leavesOf P n t = some ks → DataW.trod enc P w base spare held fuel t cs = some x → LeafAllR ks cs
  | 0, _, _, _, _, _, h, _ => by cases h
  | n + 1, fuel, t, cs, x, ks, h, hd => by
    unfold leavesOf at h
    split at h
    · rename_i k hu
      cases h
      obtain ⟨m, rfl, _, hw⟩ := DataW.trod_int hu hd
      have hw : (decide (k.min ≤ m) && decide (m ≤ k.max)) = true := hw
      rw [Bool.and_eq_true, decide_eq_true_eq, decide_eq_true_eq] at hw
      exact ⟨_, _, rfl, ⟨m, rfl, hw.1, hw.2⟩, rfl⟩
    · rename_i hu
      cases h
      obtain ⟨m, rfl, _⟩ := DataW.trod_bool hu hd
      exact ⟨_, _, rfl, ⟨m, rfl⟩, rfl⟩
    · rename_i hu
      cases h
      obtain ⟨m, rfl, _⟩ := DataW.trod_string hu hd
      exact ⟨_, _, rfl, ⟨m, rfl⟩, rfl⟩
    · rename_i e hu
      cases h
      rcases DataW.trod_slice hu hd with ⟨rfl, _⟩ | ⟨a, len, cap, el, rest, m, _, rfl, _⟩
      · exact ⟨_, _, rfl, trivial, rfl⟩
      · exact ⟨_, _, rfl, trivial, rfl⟩
    · rename_i fs hu
      split at h
      · rename_i l hl
        split at h
        · rename_i hb
          cases h
          have hb := Nat.eq_of_beq_eq_true hb
          obtain ⟨xs, m, _, _, hlen, hxl, hf⟩ := DataW.trod_struct hu hd
          have := fieldsLeavesR_ok (P := P) (cs := cs) fs.toList 0 _ hl (by omega) (fun f hfm l hl' => by
            obtain ⟨i, hi, rfl⟩ := List.getElem_of_mem hfm
            have hi' : i < fs.size := by simpa using hi
            have e := hf i fs[i] (by simp [hi'])
            have hx : i < xs.length := by omega
            rw [List.getElem?_eq_getElem hx] at e
            have e2 : fs.toList[i] = fs[i] := by simp
            rw [e2] at hl' ⊢
            exact trod_leavesR n m _ _ _ _ hl' e)
          simpa using this
        · cases h
      · cases h
    · cases h
end
section
variable {H : Type} {enc : TypeId × Value → H} {P : Program} {W : World}
theorem slice_argR {t e : TypeId} {z : Nat} {ks : List Leaf} (ht : P.underlying t = some (.slice e)) (hz : P.cellsOf e = z) (hz0 : 0 < z)
    (hel : ∀ (fuel : Nat) (cs : List Value) (x : DataW H × List MemPlace), DataW.trod enc P W 0 (fun _ => true) true fuel e cs = some x → LeafAllR ks cs)
    {v : Value} {r : Reach} {b0 : Nat} (hval : Value.okWide P W r b0 t v) {d : DataW H} {p : List MemPlace} (h : DataW.Trod enc P W 0 (fun _ => true) true t v d p)
    (hfz : ∀ b off, MemPlace.cell b off ∈ p → W.frozen? ⟨b, off, none⟩ = false) :
    v = .slice none 0 0 ∨ (∃ a, v = .slice (some a) 0 0) ∨ ∃ a len cap arr elem fr, v = .slice (some a) len cap ∧ 0 < cap ∧ len ≤ cap ∧ cap ≤ maxLen ∧ a.spot = none ∧ W.heap[a.block]? = some (.cells arr elem fr) ∧
      a.off + cap * z ≤ arr.size ∧ (∀ k, a.off ≤ k → k < a.off + cap * z → ¬ (fr.1 ≤ k ∧ k < fr.2)) ∧ ∀ i, i < cap → LeafAllR ks ((arr.toList.drop (a.off + i * z)).take z) := by
  obtain ⟨a0, len0, cap0, rfl⟩ := okWide_slice ht hval
  obtain ⟨fuel, hd⟩ := h
  have hc : (Value.slice a0 len0 cap0).cells.toList = [.slice a0 len0 cap0] := rfl
  rw [hc] at hd
  rcases DataW.trod_slice ht hd with ⟨h1, _⟩ | ⟨a, len, cap, elems, rest, n, _, h1, h2, _, hl, hm, hlen, he, hsp, _⟩
  · simp only [List.cons.injEq, and_true] at h1
    exact .inl h1
  · simp only [List.cons.injEq, and_true] at h1
    rw [h1]
    obtain ⟨hr1, hr2⟩ := hsp rfl
    rcases Nat.eq_zero_or_pos cap with h0 | hpos
    · subst h0
      obtain rfl : len = 0 := by omega
      exact .inr (.inl ⟨a, rfl⟩)
    have row : ∀ i, i < cap → ∃ cs x, W.cells? 0 (a.add (i * z)) z = some cs ∧ DataW.trod enc P W 0 (fun _ => true) true n e cs = some x := by
      intro i hi
      rw [hz] at he hr2
      by_cases hil : i < len
      · have := he i hil
        rw [List.getElem?_eq_getElem (by omega)] at this
        obtain ⟨cs, c1, c2⟩ := Option.bind_eq_some_iff.1 this
        exact ⟨cs, _, c1, c2⟩
      · have := hr2 (i - len) (by omega)
        rw [List.getElem?_eq_getElem (by omega), show len + (i - len) = i by omega] at this
        obtain ⟨cs, c1, c2⟩ := Option.bind_eq_some_iff.1 this
        exact ⟨cs, _, c1, c2⟩
    have cell : ∀ i k, i < cap → k < z → ∃ v, W.cell? ((a.add (i * z)).add k) = some v := by
      intro i k hi hk
      obtain ⟨cs, x, c1, _⟩ := row i hi
      obtain ⟨_, c3, c4⟩ := World.cells?_some c1
      exact ⟨cs[k]'(by omega), by rw [c4 k hk]; exact List.getElem?_eq_getElem _⟩
    obtain ⟨v0, hv0⟩ := cell 0 0 hpos hz0
    have e0 : (a.add (0 * z)).add 0 = a := by simp [Addr.add]
    rw [e0] at hv0
    obtain ⟨s0, arr, elem, fr, hh, _⟩ := cell_none hv0
    have at' : ∀ i k, i < cap → k < z → ∃ v, arr[a.off + i * z + k]? = some v := by
      intro i k hi hk
      obtain ⟨v, hv⟩ := cell i k hi hk
      obtain ⟨_, arr', elem', fr', q1, q2⟩ := cell_none hv
      obtain ⟨b1, b2⟩ := add_block (a.add (i * z)) k
      obtain ⟨b3, b4⟩ := add_block a (i * z)
      rw [b1, b3, hh] at q1
      cases q1
      exact ⟨v, by rw [b2, b4] at q2; exact q2⟩
    have hsz : a.off + cap * z ≤ arr.size := by
      obtain ⟨v, hv⟩ := at' (cap - 1) (z - 1) (by omega) (by omega)
      have := (Array.getElem?_eq_some_iff.1 hv).1
      have e1 : (cap - 1) * z + z = cap * z := by
        rw [← Nat.succ_mul]; congr 1; omega
      omega
    refine .inr (.inr ⟨a, len, cap, arr, elem, fr, rfl, hpos, hl, hm, s0, hh, hsz, fun k k1 k2 hk => ?_, fun i hi => ?_⟩)
    · simp only [Prod.mk.injEq] at h2
      have hmem : MemPlace.cell a.block k ∈ p := by
        rw [h2.2, hz]
        refine List.mem_append_left _ ?_
        unfold MemPlace.row
        refine List.mem_map.2 ⟨k - a.off, List.mem_range.2 ?_, by rw [show a.off + (k - a.off) = k by omega]⟩
        rw [hlen, hr1, show len + (cap - len) = cap by omega]
        omega
      have := hfz _ _ hmem
      unfold World.frozen? at this
      simp only [hh] at this
      obtain ⟨lo, hi⟩ := fr
      simp at this
      have := this hk.1
      omega
    · obtain ⟨cs, x, c1, c2⟩ := row i hi
      obtain ⟨_, c3, c4⟩ := World.cells?_some c1
      have : (arr.toList.drop (a.off + i * z)).take z = cs := by
        apply List.ext_getElem?
        intro k
        rw [List.getElem?_take]
        by_cases hk : k < z
        · rw [if_pos hk, List.getElem?_drop]
          have h5 := c4 k hk
          obtain ⟨v, hv⟩ : ∃ v, cs[k]? = some v := ⟨_, List.getElem?_eq_getElem (by omega)⟩
          rw [hv] at h5
          obtain ⟨_, arr', elem', fr', q1, q2⟩ := cell_none h5
          obtain ⟨b1, b2⟩ := add_block (a.add (i * z)) k
          obtain ⟨b3, b4⟩ := add_block a (i * z)
          rw [b1, b3, hh] at q1
          cases q1
          rw [b2, b4] at q2
          rw [hv, Array.getElem?_toList]; exact q2
        · rw [if_neg hk, List.getElem?_eq_none (by omega)]
      rw [this]
      exact hel _ _ _ c2
end
theorem Ok.isTrue {r : K.KR} {R : H → Prop} (e : Ok r fun v h => v = .bool true ∧ R h) : K.isTrue r = true := by
  obtain ⟨v, h, h1, rfl, _⟩ := e
  rw [h1]; rfl
theorem hp_nil : Hp ⟨0, .e⟩ [] := ⟨[], .nil, fun q hq => (by cases hq), List.nodup_nil, fun q hq => (by cases hq)⟩
theorem hp_argH (l : List AV) : Hp (argH l) [.a 0 (.c l)] := ⟨[(0, .c l)], .a .nil, fun q hq => by
  rw [List.mem_singleton.1 hq]
  show 0 < 1
  omega, by simp, fun q hq => by
  rw [List.mem_singleton.1 hq]
  exact ⟨T.ofList l, by rw [argH_obj, if_pos rfl], fun k _ => T.get_ofList _ _⟩⟩
end Am
