/- The abstract machine of this claim, and its soundness against the model, part 4: proved once, for any program. Merged by a script out of the prover's texts AmRow, AmSum, AmSym, AmSim. -/
import Derived.Test.YtjhcfoinldcaoaaGreatDoorA3
import Derived.ProofKit
import Derived.Lib.SmallJoins
import Derived.Carry
import Derived.LaidLaws
import Derived.ChangeCalls
import Derived.Stop.Joined
import Derived.Lib.Bytealg
import Derived.KernelRfl
/- From the machine's word to a row: arguments that read behind the call as they did; what the listed variables hold; the shapes of values. -/
namespace Am
open Go Go.ChangeShapes Go.WideShapes Go.ChangeAt Go.RowKit Go.Joins

section
variable {H : Type} {enc : TypeId × Value → H} {P : Program}

/-! ### The post of a row that says 'true; the arguments read as they did' -/
theorem post_below {f : Func} {s : ChangeSpec} {apart fresh handsOn again : Bool} {W W' : World} {args : Array Value} {v : Value} {ds gs : List (DataW H)} {before pa pv : List MemPlace}
    (hW : DataW.Whole enc P f.params.toList s.vars apart W args.toList ds gs before)
    (hres : ∀ (b : Nat) (sp : Nat → Bool) (hd : Bool), DataW.TrodAll enc P W' b sp hd f.resultTypes.toList (v.resultList f.resultTypes.size) (s.fn H (ds ++ gs)).results [])
    (hargs : ∀ sp : Nat → Bool, (∀ p ∈ before, sp p.block = true) → DataW.TrodAll enc P W' 0 sp true f.params.toList args.toList (s.fn H (ds ++ gs)).args pa)
    (hvars : ∀ sp : Nat → Bool, (∀ p ∈ before, sp p.block = true) → DataW.TrodVars enc P W' sp s.vars (s.fn H (ds ++ gs)).vars pv)
    (hps : before = pa ++ pv) (hb : Below W.heap.size W W')
    (hok : ∀ (j : Nat) (t : TypeId) (r : Value), f.resultTypes[j]? = some t → (v.resultList f.resultTypes.size)[j]? = some r → Value.okWide P W' .any 0 t r) :
    s.post enc P f apart fresh handsOn again W args v W' := by
  have hlt : ∀ p ∈ before, p.block < W.heap.size := fun p hp => hW.lt p hp
  have hold : ∀ p ∈ before, (fun b => decide (b < W.heap.size)) p.block = true := fun p hp => by simpa using hlt p hp
  refine ⟨ds, gs, before, [], pa, pv, hW, hres _ _ _, hargs _ hold, hvars _ hold, World.keptBut_mono (fun p hp => ⟨hp, ?_⟩) (hb.frame (· ∈ before)), fun _ => ?_⟩
  · rw [hps, List.mem_append] at hp
    exact Or.inr hp
  · obtain ⟨_, _, _, _, _, hz, hn⟩ := hW
    refine ⟨hok, _, _, ([] ++ pa) ++ pv, ⟨[] ++ pa, pv, trodAll_append (hargs _ (fun _ _ => rfl)) (hres _ _ _), hvars _ (fun _ _ => rfl), rfl, ?_, ?_⟩, ?_⟩
    · intro b off hp
      have hin : MemPlace.cell b off ∈ before := by rw [hps]; simpa using hp
      rw [hb.frozen (hlt _ hin)]
      exact hz b off hin
    · intro ha
      have := hn ha
      rw [hps] at this
      simpa using this
    · intro p hp _
      rw [hps]
      simpa using hp

theorem trodAll_stays (hl : laidOutB P = true) {W W' : World} {sp : Nat → Bool} : ∀ {ts : List TypeId} {vs : List Value} {ds : List (DataW H)} {ps : List MemPlace},
    allB (fun t => P.readableRec t && decide (t < P.types.size)) ts = true → DataW.TrodAll enc P W 0 (fun _ => true) true ts vs ds ps → (∀ p ∈ ps, W.sameAt W' p) → (∀ p ∈ ps, sp p.block = true) → DataW.TrodAll enc P W' 0 sp true ts vs ds ps
  | [], [], [], ps, _, h, _, _ => h
  | t :: ts, v :: vs, d :: ds, ps, hr, ⟨p, q, h1, h2, h3⟩, hs, hsp => by
    have hr' := allB_iff.1 hr t List.mem_cons_self
    simp only [Bool.and_eq_true, decide_eq_true_eq] at hr'
    subst h3
    refine ⟨p, q, WideElems.Trod_stays hl hr'.1 hr'.2 h1 (fun x hx => hs x (List.mem_append_left _ hx)) (fun x hx => hsp x (List.mem_append_left _ hx)), ?_, rfl⟩
    refine trodAll_stays hl (allB_iff.2 fun x hx => allB_iff.1 hr x (List.mem_cons_of_mem _ hx)) h2 (fun x hx => hs x (List.mem_append_right _ hx)) (fun x hx => hsp x (List.mem_append_right _ hx))
  | [], [], _ :: _, _, _, h, _, _ => h.elim
  | [], _ :: _, _, _, _, h, _, _ => h.elim
  | _ :: _, [], _, _, _, h, _, _ => h.elim
  | _ :: _, _ :: _, [], _, _, h, _, _ => h.elim

theorem row_contract {s : ChangeSpec} {f : FuncId} {fn : Func} {t4 : TypeId} (hl : laidOutB P = true) (hps : allB (fun t => P.readableRec t && decide (t < P.types.size)) fn.params.toList = true) (hres : fn.resultTypes = #[t4])
    (hbool : P.underlying t4 = some .bool) (hvars : s.vars = []) (hspec : ∀ ds : List (DataW H), ds.length = fn.params.toList.length → s.fn H (ds ++ []) = { results := [.lit (.bool true)], args := ds })
    {W : World} {args : Array Value} {ds gs : List (DataW H)} {before : List MemPlace} (hW : DataW.Whole enc P fn.params.toList s.vars false W args.toList ds gs before)
    (hcalls : Calls P f args W fun e W' => ∃ x, e = .returned x ∧ x = .bool true ∧ Below W.heap.size W W') :
    Calls P f args W fun e W' => ∃ v, e = .returned v ∧ s.post enc P fn false true false false W args v W' := by
  refine hcalls.mono fun e W' ⟨x, he, hx, hb⟩ => ?_
  subst he; subst hx
  refine ⟨_, rfl, ?_⟩
  have hlt : ∀ p ∈ before, p.block < W.heap.size := fun p hp => hW.lt p hp
  have hW' := hW
  obtain ⟨p, q, hA, hV, rfl, hfz, hnd⟩ := hW'
  rw [hvars] at hV
  obtain ⟨rfl, rfl⟩ := trodVars_none hV
  have hsp := hspec ds (Go.trodAll_length hA).2
  refine post_below (pa := p) (pv := []) hW (fun _ _ _ => ?_) (fun sp hs => ?_) (fun sp hs => ?_) rfl hb ?_
  · rw [hsp, hres]; exact trodAll_mk1 (shut_bool hbool true)
  · rw [hsp]
    exact trodAll_stays hl hps hA (fun x hx => hb.same (hlt x (List.mem_append_left _ hx))) (fun x hx => hs x (List.mem_append_left _ hx))
  · rw [hsp, hvars]; rfl
  · exact ok_one hres rfl (okWide_bool_mk hbool true)
end

/-! ### The shapes of values -/
inductive Leaf where
  | int (k : IntKind) | bool | str | any
def LeafOk : Leaf → Value → Prop
  | .int k, v => ∃ n, v = .int k n
  | .bool, v => ∃ b, v = .bool b
  | .str, v => ∃ s, v = .string s
  | .any, _ => True
def LeafAll : List Leaf → List Value → Prop
  | [], vs => vs = []
  | k :: ks, vs => ∃ v r, vs = v :: r ∧ LeafOk k v ∧ LeafAll ks r
theorem LeafAll.length : ∀ {ks : List Leaf} {vs : List Value}, LeafAll ks vs → vs.length = ks.length
  | [], _, h => by cases h; rfl
  | _ :: _, _, ⟨_, _, e, _, h⟩ => by subst e; simp [LeafAll.length h]
theorem LeafAll.append : ∀ {ks ks' : List Leaf} {vs vs' : List Value}, LeafAll ks vs → LeafAll ks' vs' → LeafAll (ks ++ ks') (vs ++ vs')
  | [], _, _, _, h, h' => by cases h; simpa using h'
  | _ :: _, _, _, _, ⟨v, r, e, h1, h2⟩, h' => by subst e; exact ⟨v, r ++ _, rfl, h1, LeafAll.append h2 h'⟩
def fieldsLeaves (P : Program) (rc : TypeId → Option (List Leaf)) : List Field → Nat → Option (List Leaf)
  | [], _ => some []
  | f :: fs, o => match rc f.type with
    | some l => match f.offset.beq o && (P.cellsOf f.type).beq l.length, fieldsLeaves P rc fs (o + l.length) with
      | true, some r => some (l ++ r)
      | _, _ => none
    | none => none
def leavesOf (P : Program) : Nat → TypeId → Option (List Leaf)
  | 0, _ => none
  | n + 1, t => match P.underlying t with
    | some (.int k) => some [.int k]
    | some .bool => some [.bool]
    | some .string => some [.str]
    | some (.slice _) => some [.any]
    | some (.struct fs) => match fieldsLeaves P (leavesOf P n) fs.toList 0 with
      | some l => match (P.cellsOf t).beq l.length with | true => some l | false => none
      | none => none
    | _ => none
section
variable {H : Type} {enc : TypeId × Value → H} {P : Program} {w : World} {base : Nat} {spare : Nat → Bool} {held : Bool}
theorem fieldsLeaves_ok {rc : TypeId → Option (List Leaf)} {cs : List Value} : ∀ (fs : List Field) (o : Nat) (ks : List Leaf), fieldsLeaves P rc fs o = some ks → o + ks.length = cs.length →
    (∀ f ∈ fs, ∀ l, rc f.type = some l → LeafAll l ((cs.drop f.offset).take (P.cellsOf f.type))) → LeafAll ks (cs.drop o)
  | [], o, ks, h, hlen, _ => by
    cases h
    simp only [List.length_nil, Nat.add_zero] at hlen
    rw [hlen, List.drop_length]; rfl
  | f :: fs, o, ks, h, hlen, hf => by
    unfold fieldsLeaves at h
    split at h
    · rename_i l hl
      split at h
      · rename_i r hb hr
        cases h
        simp only [Bool.and_eq_true] at hb
        have h1 := Nat.eq_of_beq_eq_true hb.1
        have h2 := Nat.eq_of_beq_eq_true hb.2
        simp only [List.length_append] at hlen
        have hh := hf f List.mem_cons_self l hl
        rw [h1, h2] at hh
        have ih := fieldsLeaves_ok fs (o + l.length) r hr (by omega) (fun g hg => hf g (List.mem_cons_of_mem _ hg))
        have e : cs.drop o = (cs.drop o).take l.length ++ cs.drop (o + l.length) := by
          rw [← List.drop_drop, List.take_append_drop]
        rw [e]
        exact hh.append ih
      · cases h
    · cases h
theorem trod_leaves : ∀ (n fuel : Nat) (t : TypeId) (cs : List Value) (x : DataW H × List MemPlace) (ks : List Leaf), leavesOf P n t = some ks → DataW.trod enc P w base spare held fuel t cs = some x → LeafAll ks cs
  | 0, _, _, _, _, _, h, _ => by cases h
  | n + 1, fuel, t, cs, x, ks, h, hd => by
    unfold leavesOf at h
    split at h
    · rename_i k hu
      cases h
      obtain ⟨m, rfl, _⟩ := DataW.trod_int hu hd
      exact ⟨_, _, rfl, ⟨m, rfl⟩, rfl⟩
    · rename_i hu
      cases h
      obtain ⟨m, rfl, _⟩ := DataW.trod_bool hu hd
      exact ⟨_, _, rfl, ⟨m, rfl⟩, rfl⟩
    · rename_i hu
      cases h
      obtain ⟨m, rfl, _⟩ := DataW.trod_string hu hd
      exact ⟨_, _, rfl, ⟨m, rfl⟩, rfl⟩
    · rename_i e hu
      cases h
      rcases DataW.trod_slice hu hd with ⟨rfl, _⟩ | ⟨a, len, cap, el, rest, m, _, rfl, _⟩
      · exact ⟨_, _, rfl, trivial, rfl⟩
      · exact ⟨_, _, rfl, trivial, rfl⟩
    · rename_i fs hu
      split at h
      · rename_i l hl
        split at h
        · rename_i hb
          cases h
          have hb := Nat.eq_of_beq_eq_true hb
          obtain ⟨xs, m, _, _, hlen, hxl, hf⟩ := DataW.trod_struct hu hd
          have := fieldsLeaves_ok (P := P) (cs := cs) fs.toList 0 _ hl (by omega) (fun f hfm l hl' => by
            obtain ⟨i, hi, rfl⟩ := List.getElem_of_mem hfm
            have hi' : i < fs.size := by simpa using hi
            have e := hf i fs[i] (by simp [hi'])
            have hx : i < xs.length := by omega
            rw [List.getElem?_eq_getElem hx] at e
            have e2 : fs.toList[i] = fs[i] := by simp
            rw [e2] at hl' ⊢
            exact trod_leaves n m _ _ _ _ hl' e)
          simpa using this
        · cases h
      · cases h
    · cases h
theorem open_leaves {r : Reach} {b0 : Nat} {t : TypeId} {fs : Array Field} {v : Value} {d : DataW H} {p : List MemPlace} {ks : List Leaf} (hs : P.underlying t = some (.struct fs)) (hk : leavesOf P 8 t = some ks)
    (hv : Value.okWide P w r b0 t v) (h : DataW.Trod enc P w base spare held t v d p) : ∃ cs : List Value, v = .agg ⟨cs⟩ ∧ LeafAll ks cs := by
  obtain ⟨cs, rfl, hsz⟩ := okWide_struct hs hv
  obtain ⟨fuel, hf⟩ := h
  exact ⟨cs.toList, rfl, trod_leaves 8 fuel t _ _ ks hk hf⟩
end

/-! ### What the listed variables hold -/
def litA : Lit → Option AV
  | .bool b => some (.bool b)
  | .int k n => some (.int k n)
  | .string s => some (.str (s.map UInt8.toNat))
  | _ => none
def flatL : List (DataW Unit) → Option (List AV)
  | [] => some []
  | .lit l :: r => match litA l, flatL r with
    | some v, some s => some (v :: s)
    | _, _ => none
  | _ :: _ => none
def flatD : DataW Unit → Option (List AV)
  | .agg ps => flatL ps
  | _ => none
/-- a type of one cell -/
def basicB (P : Program) (t : TypeId) : Bool := (match P.underlying t with | some (.int _) => true | some .bool => true | some .string => true | _ => false) && (P.cellsOf t).beq 1
def basicFields (P : Program) : List Field → Nat → Bool
  | [], _ => true
  | f :: fs, o => f.offset.beq o && basicB P f.type && basicFields P fs (o + 1)
def flatTy (P : Program) (t : TypeId) (n : Nat) : Bool := (P.cellsOf t).beq n && (match P.underlying t with
  | some (.array m e) => m.beq n && basicB P e
  | some (.struct fs) => fs.size.beq n && basicFields P fs.toList 0
  | _ => false)
section
variable {P : Program} {w : World} {base : Nat} {spare : Nat → Bool} {held : Bool}
theorem basic_cell {t : TypeId} {fuel : Nat} {cs : List Value} {y : DataW Unit × List MemPlace} (hb : basicB P t = true) (h : DataW.trod (fun _ => ()) P w base spare held fuel t cs = some y) :
    ∃ x l, cs = [x] ∧ y.1 = .lit l ∧ ∀ v, litA l = some v → ∀ ρ, VRel ρ v x := by
  unfold basicB at hb
  simp only [Bool.and_eq_true] at hb
  obtain ⟨hb, _⟩ := hb
  split at hb
  · rename_i k hu
    obtain ⟨m, rfl, rfl, _⟩ := DataW.trod_int hu h
    exact ⟨_, _, rfl, rfl, fun v hv ρ => by cases hv; exact .int _ _⟩
  · rename_i hu
    obtain ⟨m, rfl, rfl⟩ := DataW.trod_bool hu h
    exact ⟨_, _, rfl, rfl, fun v hv ρ => by cases hv; exact .bool _⟩
  · rename_i hu
    obtain ⟨m, rfl, rfl, _⟩ := DataW.trod_string hu h
    exact ⟨_, _, rfl, rfl, fun v hv ρ => by cases hv; exact .str _⟩
  · cases hb
theorem flatL_get : ∀ {ps : List (DataW Unit)} {l : List AV}, flatL ps = some l → l.length = ps.length ∧ ∀ (i : Nat) (v : AV), l[i]? = some v → ∃ q : Lit, ps[i]? = some (.lit q) ∧ litA q = some v
  | [], l, h => by cases h; exact ⟨rfl, fun i v hv => by simp at hv⟩
  | .lit q :: r, l, h => by
    unfold flatL at h
    split at h
    · rename_i v s h1 h2
      cases h
      obtain ⟨k1, k2⟩ := flatL_get h2
      refine ⟨by simp [k1], fun i u hu => ?_⟩
      cases i with
      | zero => simp only [List.getElem?_cons_zero, Option.some.injEq] at hu; subst hu; exact ⟨q, rfl, h1⟩
      | succ i => exact k2 i u (by simpa using hu)
    · cases h
  | .nil :: _, _, h => by cases h
  | .ptr _ :: _, _, h => by cases h
  | .slice _ _ :: _, _, h => by cases h
  | .agg _ :: _, _, h => by cases h
  | .iface _ _ :: _, _, h => by cases h
  | .map _ :: _, _, h => by cases h
  | .held _ :: _, _, h => by cases h
theorem basicFields_get : ∀ {fs : List Field} {o : Nat}, basicFields P fs o = true → ∀ (i : Nat) (f : Field), fs[i]? = some f → f.offset = o + i ∧ basicB P f.type = true
  | [], _, _, i, f, hf => by simp at hf
  | g :: fs, o, h, i, f, hf => by
    simp only [basicFields, Bool.and_eq_true] at h
    cases i with
    | zero => simp only [List.getElem?_cons_zero, Option.some.injEq] at hf; subst hf; exact ⟨Nat.eq_of_beq_eq_true h.1.1, h.1.2⟩
    | succ i =>
      obtain ⟨k1, k2⟩ := basicFields_get h.2 i f (by simpa using hf)
      exact ⟨by omega, k2⟩
theorem basicB_one {t : TypeId} (h : basicB P t = true) : P.cellsOf t = 1 := by
  unfold basicB at h
  simp only [Bool.and_eq_true] at h
  exact Nat.eq_of_beq_eq_true h.2
theorem drop_take_one {cs : List Value} {i : Nat} {x : Value} (h : (cs.drop i).take 1 = [x]) : cs[i]? = some x := by
  have := congrArg (·[0]?) h
  simpa [List.getElem?_take, List.getElem?_drop] using this
theorem flat_cells {t : TypeId} {fuel n : Nat} {cs : List Value} {ps : List (DataW Unit)} {p : List MemPlace} {l : List AV} (hf : flatTy P t n = true) (hn : n = l.length) (hl : flatL ps = some l)
    (h : DataW.trod (fun _ => ()) P w base spare held fuel t cs = some (.agg ps, p)) : ∀ (i : Nat) (v : AV), l[i]? = some v → ∃ x, cs[i]? = some x ∧ ∀ ρ, VRel ρ v x := by
  unfold flatTy at hf
  simp only [Bool.and_eq_true] at hf
  obtain ⟨hc, hf⟩ := hf
  obtain ⟨k1, k2⟩ := flatL_get hl
  split at hf
  · rename_i m e hu
    simp only [Bool.and_eq_true] at hf
    have hm := Nat.eq_of_beq_eq_true hf.1
    obtain ⟨xs, m1, _, hx, _, hlen, hel⟩ := DataW.trod_array hu h
    simp only [Prod.mk.injEq, DataW.agg.injEq] at hx
    intro i v hv
    obtain ⟨q, q1, q2⟩ := k2 i v hv
    have hi : i < l.length := (List.getElem?_eq_some_iff.mp hv).1
    have hxi : i < xs.length := by omega
    have he := hel i (by omega)
    rw [List.getElem?_eq_getElem hxi, basicB_one hf.2, Nat.mul_one] at he
    obtain ⟨x, l', r1, r2, r3⟩ := basic_cell hf.2 he
    have e1 : ps[i]? = some (xs[i]).1 := by rw [hx.1]; simp [hxi]
    rw [r2, q1] at e1
    simp only [Option.some.injEq, DataW.lit.injEq] at e1
    subst e1
    exact ⟨x, drop_take_one r1, r3 v q2⟩
  · rename_i fs hu
    simp only [Bool.and_eq_true] at hf
    have hm := Nat.eq_of_beq_eq_true hf.1
    obtain ⟨xs, m1, _, hx, _, hlen, hel⟩ := DataW.trod_struct hu h
    simp only [Prod.mk.injEq, DataW.agg.injEq] at hx
    intro i v hv
    obtain ⟨q, q1, q2⟩ := k2 i v hv
    have hi : i < l.length := (List.getElem?_eq_some_iff.mp hv).1
    have hxi : i < xs.length := by omega
    have hfi : i < fs.size := by omega
    obtain ⟨b1, b2⟩ := basicFields_get hf.2 i fs[i] (by simp [hfi])
    have he := hel i fs[i] (by simp [hfi])
    rw [List.getElem?_eq_getElem hxi, basicB_one b2, b1, Nat.zero_add] at he
    obtain ⟨x, l', r1, r2, r3⟩ := basic_cell b2 he
    have e1 : ps[i]? = some (xs[i]).1 := by rw [hx.1]; simp [hxi]
    rw [r2, q1] at e1
    simp only [Option.some.injEq, DataW.lit.injEq] at e1
    subst e1
    exact ⟨x, drop_take_one r1, r3 v q2⟩
  · cases hf
end

/-- a variable as the machine's table has it -/
structure GlE where
  g : Nat
  t : T AV
  l : List AV
def VarIs (W : World) (x : GlE) : Prop := ∃ arr elem fr, W.heap[x.g]? = some (.cells arr elem fr) ∧ ∀ (i : Nat) (v : AV), x.l[i]? = some v → ∃ y, arr[i]? = some y ∧ ∀ ρ, VRel ρ v y
def laidB (P : Program) : List (String × DataW Unit) → List GlE → Bool
  | [], [] => true
  | (n, _) :: r, x :: s => (match P.globalNamed n with | some g => g.beq x.g | none => false) && (match (P.globals[x.g]?).map (·.type) with | some t => flatTy P t x.l.length | none => false) && laidB P r s
  | _, _ => false
theorem var_heap {P : Program} {w : World} {n : String} {g : Nat} {cs : Array Value} (hg : P.globalNamed n = some g) (h : w.var? P n = some cs) : ∃ e fr, w.heap[g]? = some (.cells cs e fr) := by
  simp only [World.var?, hg, Option.bind_some] at h
  split at h
  · rename_i a e fr hh; cases h; exact ⟨e, fr, hh⟩
  · cases h
theorem vars_of_laid {P : Program} {W : World} : ∀ {laid : List (String × DataW Unit)} {L : List GlE} {ps : List MemPlace}, laidB P laid L = true → laid.map (fun x => flatD x.2) = L.map (fun x => some x.l) → DataW.LaidVars P W laid ps → ∀ x ∈ L, VarIs W x
  | [], [], _, _, _, _, x, hx => nomatch hx
  | [], _ :: _, _, h, _, _, _, _ => by cases h
  | (n, d) :: r, [], _, h, _, _, _, _ => by cases h
  | (n, d) :: r, y :: L, ps, h, hd, ⟨g, t, cs, fuel, p, q, hg, ht, hv, htr, hrest, _⟩, x, hx => by
    simp only [laidB, Bool.and_eq_true] at h
    obtain ⟨⟨h1, h2⟩, h3⟩ := h
    simp only [List.map_cons, List.cons.injEq] at hd
    rw [hg] at h1
    have h1 : g = y.g := Nat.eq_of_beq_eq_true h1
    rcases List.mem_cons.1 hx with rfl | hx
    · rw [← h1, ht] at h2
      have h2 : flatTy P t x.l.length = true := h2
      obtain ⟨e, fr, hh⟩ := var_heap hg hv
      refine ⟨cs, e, fr, by rw [← h1]; exact hh, fun i v hi => ?_⟩
      cases d with
      | agg ds =>
        obtain ⟨z, z1, z2⟩ := flat_cells h2 rfl hd.1 htr i v hi
        exact ⟨z, by simpa using z1, z2⟩
      | _ => cases hd.1
    · exact vars_of_laid h3 hd.2 hrest x hx
theorem gOk_of {c : Ctx} {P : Program} {G : Gd} {W : World} {laid : List (String × DataW Unit)} {L : List GlE} (h1 : c.gl = ofPairs (L.map fun x => (x.g, (x.l.length, x.t)))) (h2 : L.map (fun x => (List.range x.l.length).map x.t.get) = L.map fun x => x.l.map some)
    (h3 : laidB P laid L = true) (h4 : laid.map (fun x => flatD x.2) = L.map (fun x => some x.l)) (h5 : G.rng = c.rng) (h6 : allB (fun x => Nat.blt x.g G.n) L = true) (h7 : G.n = 0 ∨ ∃ x ∈ L, G.n = x.g + 1)
    (hL : laidMet P laid W) : GOk c G W := by
  obtain ⟨ps, hv, _⟩ := hL
  have hall := vars_of_laid h3 h4 hv
  refine ⟨h5, ?_, fun g n t hg => ?_⟩
  · rcases h7 with h7 | ⟨x, hx, h7⟩
    · omega
    · obtain ⟨arr, e, fr, hh, _⟩ := hall x hx
      have := (Array.getElem?_eq_some_iff.mp hh).1
      omega
  · rw [h1] at hg
    obtain ⟨x, hx, e⟩ := List.mem_map.1 (ofPairs_get hg)
    simp only [Prod.mk.injEq] at e
    obtain ⟨rfl, rfl, rfl⟩ := e
    refine ⟨Nat.blt_eq.mp (allB_iff.1 h6 x hx), ?_⟩
    obtain ⟨arr, e, fr, hh, hc⟩ := hall x hx
    refine ⟨arr, e, fr, hh, fun k hk => ?_⟩
    have ht := mem_of_map_eq h2 x hx
    have e1 := congrArg (·[k]?) ht
    simp only [List.getElem?_map, List.getElem?_range hk, Option.map_some] at e1
    rw [List.getElem?_eq_getElem hk, Option.map_some] at e1
    have e2 : x.t.get k = some x.l[k] := Option.some.inj e1
    obtain ⟨y, y1, y2⟩ := hc k x.l[k] (List.getElem?_eq_getElem hk)
    exact ⟨_, y, e2, y1, y2⟩
/-! ### The one function without a Go body -/
theorem indexOf_eq (b : Nat) (hb : b < 256) : ∀ (l : List UInt8) (i : Nat), indexOf b (l.map UInt8.toNat) i = if Lib.indexByte l b.toUInt8 = -1 then -1 else (i : Int) + Lib.indexByte l b.toUInt8
  | [], i => rfl
  | a :: l, i => by
    have ih := indexOf_eq b hb l (i + 1)
    have hge := Lib.indexByte_ge l b.toUInt8
    have e0 : indexOf b ((a :: l).map UInt8.toNat) i = match a.toNat.beq b with | true => Int.ofNat i | false => indexOf b (l.map UInt8.toNat) (i + 1) := rfl
    have e1 : Lib.indexByte (a :: l) b.toUInt8 = if (a == b.toUInt8) = true then 0 else if (Lib.indexByte l b.toUInt8 == -1) = true then -1 else Lib.indexByte l b.toUInt8 + 1 := rfl
    have hab : (a == b.toUInt8) = a.toNat.beq b := by
      rw [Bool.eq_iff_iff]
      simp only [beq_iff_eq, Nat.beq_eq]
      constructor
      · intro h; subst h; simp; omega
      · intro h; subst h; simp
    rw [hab] at e1
    rw [e0]
    cases hc : a.toNat.beq b with
    | true =>
      rw [hc] at e1
      simp only [if_true] at e1
      rw [e1]; simp
    | false =>
      rw [hc] at e1
      simp only [Bool.false_eq_true, if_false, beq_iff_eq] at e1
      show indexOf b (l.map UInt8.toNat) (i + 1) = _
      rw [ih]
      by_cases h1 : Lib.indexByte l b.toUInt8 = -1
      · rw [if_pos h1] at e1 ⊢; rw [e1]; simp
      · rw [if_neg h1] at e1 ⊢
        rw [if_neg (by omega), e1]
        omega
theorem extOk_index {c : Ctx} {P : Program} {f : Nat} {fn : Func} (hext : ∀ g e, c.ext.get g = some e → g = f) (hf : P.funcs[f]? = some fn) (hname : (fn.name == "runtime.NumGoroutine") = false) (hbody : fn.body.isNone = true)
    (hn : Extern.findNext fn = none) (he : Extern.find fn = some Extern.BytealgIndexByte.indexByte) : ExtOk c P := by
  intro g e hg args h v h' hx
  have := hext g e hg
  subst this
  unfold extA at hx
  split at hx
  · rename_i s b
    split at hx
    · rename_i hb
      cases hx
      have hb := Nat.blt_eq.mp hb
      refine ⟨rfl, fun ρ w vs hv => ?_⟩
      cases hv with
      | cons _ _ _ _ h1 h2 =>
      cases h2 with
      | cons _ _ _ _ h3 h4 =>
      cases h4
      obtain ⟨y, rfl, rfl⟩ := h1.ofStr
      cases h3
      refine ⟨.int .i64 (indexOf b (ofBytes y) 0), ?_, .int _ _⟩
      rw [run_callFunc_extern hf hname hbody hn he]
      rw [show (⟨[Value.string y, Value.int .u8 (Int.ofNat b)]⟩ : Array Value) = #[Value.string y, Value.int .u8 (Int.ofNat b)] from rfl, Lib.run_indexByteString]
      have e1 := indexOf_eq b hb y.data.toList 0
      have e2 : (Int.ofNat b).toNat.toUInt8 = b.toUInt8 := rfl
      have e3 : ofBytes y = y.data.toList.map UInt8.toNat := rfl
      rw [e2, e3, e1]
      simp only [Result.andThen_ok]
      by_cases h1 : Lib.indexByte y.data.toList b.toUInt8 = -1
      · simp [h1]
      · simp [h1]
    · cases hx
  · cases hx
end Am

/- What is known of calls: the machine's fast form with a table of known calls; calls of flat arguments, run on the empty heap, are known in every heap. -/
namespace Am
open Go
namespace K
section
variable {c : Ctx} {r : AV} {hh : H}
/-- a function of which some calls are known -/
noncomputable def sumFK (s : Sum) (g : KRun → List AV → H → KR) : KRun → List AV → H → KR := fun run args h =>
  Option.rec (motive := fun _ => KR) (g run args h) (fun q => Prod.rec (motive := fun _ => KR) (fun v h => .ok v h) q) (s args h)
def TbOkS (c : Ctx) (tb : T FnC) : Prop := ∀ f g, tb.get f = some g → (c.sum.get f = none ∧ ((∃ n, g.f = fnK c f n) ∨ g.f = extK' c f)) ∨ ∃ s n, c.sum.get f = some s ∧ g.f = sumFK s (fnK c f n)
theorem extK_none {f : Nat} {kr : KRun} {ar : Run} {args : List AV} {h : H} (hs : c.sum.get f = none) (e : extK' c f kr args h = .ok r hh) : stepA c ar (.fn f) args h = .ok (r, hh) := by
  have := extK'_ok (c := { c with sum := .e }) (ar := ar) (kr := kr) (fun f => T.get_e f) (f := f) (args := args) (h := h) (r := r) (hh := hh) e
  unfold stepA at this ⊢
  simp only [hs]
  have e0 : (T.e : T Sum).get f = none := T.get_e f
  simp only [e0] at this
  obtain ⟨fn, h1, e⟩ := opt_ok e
  simp only [h1] at this ⊢
  cases hb : fn.body with
  | none => simp only [hb] at this ⊢; exact this
  | some code =>
    rw [hb] at e; cases e
theorem run_leS {tb : T FnC} {ty : T RnC} (h1 : TbOkS c tb) (h2 : TyOk c ty) : ∀ n, KLe (run tb ty n) (runA c n)
  | 0 => fun t a h v h' e => by cases e
  | n + 1 => fun t a h v h' e => by
    have ih := run_leS h1 h2 n
    unfold runA
    cases t with
    | fn f =>
      obtain ⟨g, hg, e⟩ := opt_ok (o := get tb f) (k := fun g => FnC.rec (motive := fun _ => KRun → List AV → H → KR) (fun g => g) g (run tb ty n) a h) e
      rw [get_eq] at hg
      obtain ⟨gf⟩ := g
      rcases h1 f _ hg with ⟨hs, ⟨m, hm⟩ | hm⟩ | ⟨s, m, hs, hm⟩
      · have hm : gf = fnK c f m := hm
        subst hm
        exact fnK_ok (fun s h => by rw [hs] at h; cases h) ih e
      · have hm : gf = extK' c f := hm
        subst hm
        exact extK_none hs e
      · have hm : gf = sumFK s (fnK c f m) := hm
        subst hm
        have e : sumFK s (fnK c f m) (run tb ty n) a h = .ok v h' := e
        unfold sumFK at e
        cases hq : s a h with
        | none =>
          rw [hq] at e
          exact fnK_ok (fun s1 h => by rw [hs] at h; cases h; exact hq) ih e
        | some q =>
          obtain ⟨v1, h1⟩ := q
          rw [hq] at e
          cases e
          unfold stepA
          simp only [hs, hq]
    | yield l =>
      obtain ⟨o, ho, e⟩ := opt_ok (o := hObj h l) (k := fun o => asLoop o fun _ _ env r _ => opt (get ty r) fun g => RnC.rec (motive := fun _ => RnF) (fun g => g) g (run tb ty n) l a env h) e
      obtain ⟨st, pend, en, rn, d, hl, e⟩ := asLoop_ok e
      obtain ⟨g, hg, e⟩ := opt_ok e
      rw [get_eq] at hg
      rw [hObj_eq, hl] at ho
      obtain ⟨gf⟩ := g
      have hm : gf = rndK c rn := h2 rn _ hg
      subst hm
      exact rndK_ok ih ho e
end
end K
/-- the same tables, with known calls -/
def Ctx.with (c : Ctx) (s : T Sum) : Ctx := ⟨c.ty, c.fn, c.an, c.rng, c.ext, c.gl, s, c.df⟩
theorem fnK_with (c : Ctx) (s : T Sum) (f n : Nat) : K.fnK (c.with s) f n = K.fnK c f n := by cases c; kernel_rfl
theorem rndK_with (c : Ctx) (s : T Sum) (f : Nat) : K.rndK (c.with s) f = K.rndK c f := by cases c; kernel_rfl
theorem extK_with (c : Ctx) (s : T Sum) (f : Nat) : K.extK' (c.with s) f = K.extK' c f := by cases c; kernel_rfl
theorem COk.with {c : Ctx} {P : Program} (h : COk c P) (s : T Sum) : COk (c.with s) P := ⟨h.ty, h.fn, h.rng, h.df, h.mixed⟩
theorem ExtOk.with {c : Ctx} {P : Program} (h : ExtOk c P) (s : T Sum) : ExtOk (c.with s) P := h
theorem GOk.with {c : Ctx} {G : Gd} {w : World} (h : GOk c G w) (s : T Sum) : GOk (c.with s) G w := ⟨h.rng, h.size, h.gl⟩
theorem GOk.without {c : Ctx} {G : Gd} {w : World} {s : T Sum} (h : GOk (c.with s) G w) : GOk c G w := ⟨h.rng, h.size, h.gl⟩
theorem TyOk.with {c : Ctx} {ty : T K.RnC} (h : K.TyOk c ty) (s : T Sum) : K.TyOk (c.with s) ty := fun r g hg => by rw [rndK_with]; exact h r g hg

/-! ### Flat values: no address stands in them -/
mutual
def AV.flat : AV → Bool
  | .bool _ | .int _ _ | .str _ | .nilPtr | .nilSlice | .nilMap | .nilFunc | .nilIface => true
  | .agg l => AV.flats l
  | .tup l => AV.flats l
  | .iface _ v => AV.flat v
  | _ => false
def AV.flats : List AV → Bool
  | [] => true
  | v :: l => AV.flat v && AV.flats l
end
mutual
theorem VRel.flat {ρ ρ' : Rho} : ∀ {v : AV} {x : Value}, v.flat = true → VRel ρ v x → VRel ρ' v x
  | .bool _, _, _, .bool _ => .bool _
  | .int _ _, _, _, .int _ _ => .int _ _
  | .str _, _, _, .str _ => .str _
  | .nilPtr, _, _, .nilPtr => .nilPtr
  | .nilSlice, _, _, .nilSlice => .nilSlice
  | .nilMap, _, _, .nilMap => .nilMap
  | .nilFunc, _, _, .nilFunc => .nilFunc
  | .nilIface, _, _, .nilIface => .nilIface
  | .agg _, _, h, .agg _ _ k => .agg _ _ (VRels.flat (by unfold AV.flat at h; exact h) k)
  | .tup _, _, h, .tup _ _ k => .tup _ _ (VRels.flat (by unfold AV.flat at h; exact h) k)
  | .iface _ _, _, h, .iface _ _ _ k => .iface _ _ _ (VRel.flat (by unfold AV.flat at h; exact h) k)
theorem VRels.flat {ρ ρ' : Rho} : ∀ {l : List AV} {cs : List Value}, AV.flats l = true → VRels ρ l cs → VRels ρ' l cs
  | [], _, _, .nil => .nil
  | _ :: _, _, h, .cons _ _ _ _ k1 k2 => by
    unfold AV.flats at h
    simp only [Bool.and_eq_true] at h
    exact .cons _ _ _ _ (VRel.flat h.1 k1) (VRels.flat h.2 k2)
end

/-- a call of flat arguments that was run on the empty heap, and gave something flat, gives that in every heap, and leaves it alone -/
theorem known_run {c : Ctx} {P : Program} {G : Gd} (hc : COk c P) (hX : ExtOk c P) (hS : SumOk c P G) {k f : Nat} {args : List AV} {v : AV} {h0 : H} (hrun : runA c k (.fn f) args ⟨0, .e⟩ = .ok (v, h0)) (ha : AV.flats args = true) (hv : v.flat = true)
    (hx : c.ext.get f = none) (c' : Ctx) (h : H) (ρ : Rho) (w : World) (vs : List Value) (hvs : VRels ρ args vs) (hr : HRel G ρ h.ph w) (hg : GOk c G w) : FnOk c' P f ⟨vs⟩ w (Ret G ρ h w v h) := by
  obtain ⟨h1, h2⟩ := run_ok (G := G) hc hX hS k _ _ _ _ _ hrun
  have e0 : (⟨0, .e⟩ : H).ph = fun _ => none := by funext id; exact T.get_e _
  rcases h2 (fun _ => none) w vs (hvs.flat ha) (by rw [e0]; exact HRel.empty _ _ _) hg (fun _ _ _ => rfl) with ⟨h3, _⟩ | ⟨h3, h4⟩
  · exact absurd hx h3
  refine .inr ⟨h3, h4.mono fun en w' he => ?_⟩
  cases en with
  | panicked => exact he.elim
  | outgrown => exact he.elim
  | returned x =>
    obtain ⟨ρ', k1, k2, k3⟩ := he
    have same : ∀ b ob, w.heap[b]? = some ob → w'.heap[b]? = some ob := fun b ob hb => k3.kept b ob hb fun k ⟨id, o, l, q1, _, _⟩ => by rw [e0] at q1; cases q1
    refine ⟨ρ, VRel.flat hv k1, ⟨fun id o ho => ?_, hr.disj, hr.low⟩, ⟨ρ.le_refl, fun _ _ => rfl, k3.size, fun b ob hb _ => same b ob hb, fun b arr el fr hb => ⟨arr, same b _ hb, rfl, fun _ _ => rfl⟩, fun _ _ _ ho => ho, (fun id o q1 q2 => by rw [q1] at q2; cases q2), k3.os, k3.output, k3.tape⟩⟩
    obtain ⟨l, ob, q1, q2, q3⟩ := hr.obj id o ho
    exact ⟨l, ob, q1, same _ _ q2, q3⟩

/-! ### Lists of functions with known calls -/
structure SE where
  f : Nat
  n : Nat
  g : K.KRun → List AV → H → K.KR
  s : Sum
noncomputable def sumOf : List SE → T Sum
  | [] => .e
  | x :: l => (sumOf l).set x.f x.s
noncomputable def tbOf (tb : T K.FnC) : List SE → T K.FnC
  | [] => tb
  | x :: l => (tbOf tb l).set x.f ⟨K.sumFK x.s x.g⟩
theorem sumOf_get : ∀ {l : List SE} {f : Nat} {s : Sum}, (sumOf l).get f = some s → ∃ x ∈ l, x.f = f ∧ x.s = s
  | [], f, s, h => by unfold sumOf at h; rw [T.get_e] at h; cases h
  | x :: l, f, s, h => by
    unfold sumOf at h
    rw [T.get_set] at h
    split at h
    · rename_i e; cases h; exact ⟨x, List.mem_cons_self, e.symm, rfl⟩
    · obtain ⟨y, hy, e⟩ := sumOf_get h
      exact ⟨y, List.mem_cons_of_mem _ hy, e⟩
theorem tbOf_get {tb : T K.FnC} : ∀ {l : List SE} {f : Nat} {g : K.FnC}, (tbOf tb l).get f = some g → ((sumOf l).get f = none ∧ tb.get f = some g) ∨ ∃ x ∈ l, x.f = f ∧ (sumOf l).get f = some x.s ∧ g = ⟨K.sumFK x.s x.g⟩
  | [], f, g, h => .inl ⟨T.get_e f, h⟩
  | x :: l, f, g, h => by
    unfold tbOf at h
    unfold sumOf
    rw [T.get_set] at h ⊢
    split at h
    · rename_i e
      cases h
      exact .inr ⟨x, List.mem_cons_self, e.symm, by simp [e], rfl⟩
    · rename_i e
      simp only [e, if_false]
      rcases tbOf_get h with h | ⟨y, hy, h⟩
      · exact .inl h
      · exact .inr ⟨y, List.mem_cons_of_mem _ hy, h⟩
theorem tbOkS_of {c : Ctx} {tb tbS : T K.FnC} {l : List SE} (h : K.TbOk c tb) (he : tbS = tbOf tb l) (hl : ∀ x ∈ l, K.fnK c x.f x.n = x.g) : K.TbOkS (c.with (sumOf l)) tbS := fun f g hg => by
  rw [he] at hg
  rcases tbOf_get hg with ⟨h1, h2⟩ | ⟨x, hx, rfl, h2, rfl⟩
  · refine .inl ⟨h1, ?_⟩
    rcases h f g h2 with ⟨n, h3⟩ | h3
    · exact .inl ⟨n, by rw [fnK_with]; exact h3⟩
    · exact .inr (by rw [extK_with]; exact h3)
  · exact .inr ⟨x.s, x.n, h2, by rw [fnK_with, hl x hx]⟩
/-- what a known call owes -/
def SOk (c : Ctx) (P : Program) (G : Gd) (x : SE) : Prop := ∀ args h v h', x.s args h = some (v, h') → h.next ≤ h'.next ∧
  ∀ (ρ : Rho) (w : World) (vs : List Value), VRels ρ args vs → HRel G ρ h.ph w → GOk c G w → Free ρ h.next h'.next → FnOk c P x.f ⟨vs⟩ w (Ret G ρ h w v h')
theorem sumOk_of {c : Ctx} {P : Program} {G : Gd} {l : List SE} (h : ∀ x ∈ l, SOk c P G x) : SumOk (c.with (sumOf l)) P G := fun f s args h0 v h' hs hq => by
  obtain ⟨x, hx, rfl, rfl⟩ := sumOf_get hs
  obtain ⟨h1, h2⟩ := h x hx args h0 v h' hq
  exact ⟨h1, fun ρ w vs q1 q2 q3 q4 => h2 ρ w vs q1 q2 q3.without q4⟩

/-! ### Calls that were run ahead -/
def natV (v : AV) : Nat := match v with | .int _ (.ofNat n) => n | _ => 0
noncomputable def keyF (l : List AV) : Nat → Nat := List.rec (motive := fun _ => Nat → Nat) (fun a => a) (fun v _ ih a => ih (Nat.add (Nat.mul a (nat_lit 31)) (natV v))) l
noncomputable def keyS (l : List Nat) : Nat → Nat := List.rec (motive := fun _ => Nat → Nat) (fun a => a) (fun n _ ih a => ih (Nat.add (Nat.mul a (nat_lit 31)) n)) l
noncomputable def keyA (l : List AV) : Nat → Nat := List.rec (motive := fun _ => Nat → Nat) (fun a => a) (fun v _ ih a => ih (match v with | .agg l => keyF l a | .str s => keyS s a | v => Nat.add (Nat.mul a (nat_lit 31)) (natV v))) l
noncomputable def keyOf (l : List AV) : Nat := Nat.mod (keyA l (nat_lit 0)) (nat_lit 511)
noncomputable def memoS (t : T (List AV × AV)) : Sum := fun args h => match K.get t (keyOf args) with
  | some (a, v) => match AV.sames args a with
    | true => some (v, h)
    | false => none
  | none => none
noncomputable def isRes (r : K.KR) (v : AV) : Bool := K.KR.rec (motive := fun _ => Bool) (fun u _ => AV.same u v) false r
noncomputable def memoOk (tb : T K.FnC) (ty : T K.RnC) (n f : Nat) (l : List (List AV × AV)) : Bool := allB (fun e => AV.flats e.1 && AV.flat e.2 && isRes (K.run tb ty n (.fn f) e.1 ⟨nat_lit 0, .e⟩) e.2) l
theorem memo_sok {c : Ctx} {P : Program} {G : Gd} {tb : T K.FnC} {ty : T K.RnC} (hc : COk c P) (hX : ExtOk c P) (hS : SumOk c P G) {n f m : Nat} {g : K.KRun → List AV → H → K.KR} (hle : K.KLe (K.run tb ty n) (runA c n))
    {L : List (List AV × AV)} {t : T (List AV × AV)} (ht : t = ofPairs (L.map fun e => (keyOf e.1, e))) (hok : memoOk tb ty n f L = true) (hx : c.ext.get f = none) : SOk c P G ⟨f, m, g, memoS t⟩ := by
  intro args h v h' hq
  have hq : memoS t args h = some (v, h') := hq
  unfold memoS at hq
  split at hq
  · rename_i a u hg
    split at hq
    · rename_i hs
      cases hq
      have := sames_eq _ _ hs
      subst this
      rw [K.get_eq, ht] at hg
      obtain ⟨e, he, ee⟩ := List.mem_map.1 (ofPairs_get hg)
      simp only [Prod.mk.injEq] at ee
      obtain ⟨_, rfl⟩ := ee
      have hk := allB_iff.1 hok _ he
      simp only [Bool.and_eq_true] at hk
      obtain ⟨⟨k1, k2⟩, k3⟩ := hk
      refine ⟨Nat.le_refl _, fun ρ w vs q1 q2 q3 q4 => ?_⟩
      cases hr : K.run tb ty n (.fn f) args ⟨0, .e⟩ with
      | bad => rw [hr] at k3; cases k3
      | ok z h0 =>
        rw [hr] at k3
        have e9 : z = v := same_eq _ _ k3
        subst e9
        exact known_run hc hX hS (hle _ _ _ _ _ hr) k1 k2 hx c h ρ w vs q1 q2 q3
    · cases hq
  · cases hq
def SeAll (p : SE → Prop) : List SE → Prop
  | [] => True
  | x :: l => p x ∧ SeAll p l
theorem SeAll.mem {p : SE → Prop} : ∀ {l : List SE}, SeAll p l → ∀ x ∈ l, p x
  | [], _, x, hx => nomatch hx
  | y :: l, h, x, hx => by
    rcases List.mem_cons.1 hx with rfl | hx
    · exact h.1
    · exact SeAll.mem h.2 x hx
end Am

/- The fast form on values that are left open: what each operation comes to. -/
namespace Am
open Go
namespace K
section
variable {c : Ctx} {k : IntKind} {x y : Int} {t : Nat} {b : Bool} {g : AV → KR}
theorem oK_some (v : AV) : oK (some v) g = g v := fV_eq v g
theorem kWrap_eq (n : Nat) : kWrap k n g = g (.int k (wrapN k n)) := by
  unfold kWrap wrapN
  rw [fN_eq]
  cases hb : Nat.ble n (maxOf k) with
  | true => rfl
  | false => simp only [fI_eq]
theorem nats_int {v : AV} {f : IntKind → Nat → Nat → KR} : nats (some v) (.int k x) (.int k y) g f = match x, y with
    | .ofNat m, .ofNat n => f k m n
    | _, _ => g v := by
  show intOr _ _ _ = _
  unfold intOr asInt
  cases x with
  | ofNat m => cases y with
    | ofNat n => simp only [kindEq_self]; rfl
    | negSucc n => exact oK_some v
  | negSucc m => exact oK_some v
theorem binV_int {op : BinOp} (h1 : op ≠ .shl) (h2 : op ≠ .shr) : binV c op t b (.int k x) (.int k y) = intBin op k x y := by
  unfold binV binOpA
  cases op <;> first | (simp only [kindEq_self]; done) | exact absurd rfl h1 | exact absurd rfl h2
theorem addK_int : addK (binV c .add t b (.int k x) (.int k y)) (.int k x) (.int k y) g = g (.int k (addI k x y)) := by
  unfold addK
  rw [binV_int (by decide) (by decide)]
  simp only [intBin, nats_int]
  cases x <;> cases y <;> first | rfl | exact kWrap_eq _
theorem mulK_int : mulK (binV c .mul t b (.int k x) (.int k y)) (.int k x) (.int k y) g = g (.int k (mulI k x y)) := by
  unfold mulK
  rw [binV_int (by decide) (by decide)]
  simp only [intBin, nats_int]
  cases x <;> cases y <;> first | rfl | exact kWrap_eq _
theorem subK_int : subK (binV c .sub t b (.int k x) (.int k y)) (.int k x) (.int k y) g = g (.int k (subI k x y)) := by
  unfold subK
  rw [binV_int (by decide) (by decide)]
  simp only [intBin, nats_int]
  cases x with
  | negSucc m => rfl
  | ofNat m => cases y with
    | negSucc n => rfl
    | ofNat n =>
      simp only [subI]
      cases hb : Nat.ble n m with
      | true => exact kWrap_eq _
      | false => exact oK_some _
theorem cmp_int {op : BinOp} {r : Bool} {f : IntKind → Nat → Nat → KR} (h1 : op ≠ .shl) (h2 : op ≠ .shr) (hr : intBin op k x y = some (.bool r)) (hf : ∀ m n, x = .ofNat m → y = .ofNat n → f k m n = g (.bool r)) :
    nats (binV c op t b (.int k x) (.int k y)) (.int k x) (.int k y) g f = g (.bool r) := by
  rw [binV_int h1 h2, hr, nats_int]
  cases x with
  | negSucc m => rfl
  | ofNat m => cases y with
    | negSucc n => rfl
    | ofNat n => exact hf m n rfl rfl
theorem eqK_int : eqK (binV c .eql t b (.int k x) (.int k y)) (.int k x) (.int k y) g = g (.bool (eqI x y)) :=
  cmp_int (by decide) (by decide) rfl fun m n hx hy => by subst hx hy; exact fB_eq _ _
theorem neK_int : neK (binV c .neq t b (.int k x) (.int k y)) (.int k x) (.int k y) g = g (.bool (!(eqI x y))) :=
  cmp_int (by decide) (by decide) rfl fun m n hx hy => by
    subst hx hy
    show fB (Nat.beq m n) _ = g (.bool (!(Nat.beq m n)))
    rw [fB_eq]; cases Nat.beq m n <;> rfl
theorem ltK_int : ltK (binV c .lss t b (.int k x) (.int k y)) (.int k x) (.int k y) g = g (.bool (ltI x y)) :=
  cmp_int (by decide) (by decide) rfl fun m n hx hy => by
    subst hx hy
    show fB (Nat.ble (m + 1) n) _ = g (.bool (!(Nat.ble n m)))
    rw [fB_eq, not_ble]
theorem leK_int : leK (binV c .leq t b (.int k x) (.int k y)) (.int k x) (.int k y) g = g (.bool (leI x y)) :=
  cmp_int (by decide) (by decide) rfl fun m n hx hy => by subst hx hy; exact fB_eq _ _
theorem gtK_int : gtK (binV c .gtr t b (.int k x) (.int k y)) (.int k x) (.int k y) g = g (.bool (ltI y x)) :=
  cmp_int (by decide) (by decide) rfl fun m n hx hy => by
    subst hx hy
    show fB (Nat.ble (n + 1) m) _ = g (.bool (!(Nat.ble m n)))
    rw [fB_eq, not_ble]
theorem geK_int : geK (binV c .geq t b (.int k x) (.int k y)) (.int k x) (.int k y) g = g (.bool (leI y x)) :=
  cmp_int (by decide) (by decide) rfl fun m n hx hy => by subst hx hy; exact fB_eq _ _
theorem letK_eq {α : Type} (a : α) (f : α → KR) : letK a f = f a := rfl
theorem guK_t (r : Bool) (p q : KR) : guK true (.bool r) p q = bif r then p else q := by cases r <;> rfl
theorem guK_f (r : Bool) (p q : KR) : guK false (.bool r) p q = bif r then q else p := by cases r <;> rfl
theorem iteV_b (r : Bool) (p q : KR) : iteV (.bool r) p q = bif r then p else q := by cases r <;> rfl
theorem pickK_b (r : Bool) (u v : AV) : pickK (.bool r) u v g = bif r then g u else g v := by cases r <;> rfl
theorem retK_of {r : KR} {v : AV} {h : H} {f : AV → H → KR} (e : r = .ok v h) : retK r f = f v h := by rw [e]; rfl
theorem callFK_of {run : KRun} {f : Nat} {args : List AV} {h h' : H} {v : AV} {q : AV → H → KR} (e : run (.fn f) args h = .ok v h') : callFK run f args h q = q v h' := retK_of e

/-! ### the heap -/
theorem opt_some {α : Type} (a : α) (f : α → KR) : opt (some a) f = f a := rfl
theorem getCells_of : ∀ (n : Nat) (t : T AV) (off : Nat) (f : List AV → KR) (l : List AV), Am.getCells t off n = some l → getCells t n off f = f l
  | 0, t, off, f, l, e => by unfold Am.getCells at e; cases e; rfl
  | n + 1, t, off, f, l, e => by
    show opt (get t off) (fun v => fN (Nat.add off 1) fun off => getCells t n off fun l => f (v :: l)) = _
    unfold Am.getCells at e
    split at e
    · cases e
    · rename_i v hv
      split at e
      · cases e
      · rename_i l' hl
        cases e
        rw [get_eq, hv, opt_some, fN_eq]
        exact getCells_of n t (off + 1) _ l' hl
theorem loads_of {h : H} {id off n : Nat} {l : List AV} {f : List AV → KR} (e : h.loads id off n = some l) : loads h id off n f = f l := by
  unfold H.loads at e
  unfold loads
  rw [hObj_eq]
  split at e
  · rename_i m t ho
    split at e
    · rename_i hb
      have hb : Nat.ble (Nat.add off n) m = true := hb
      rw [ho, opt_some]
      show req (Nat.ble (Nat.add off n) m) (getCells t n off f) = _
      rw [hb]
      exact getCells_of _ _ _ _ _ e
    · cases e
  · cases e
theorem load1_of {h : H} {id off : Nat} {v : AV} {f : AV → KR} (e : h.loads id off 1 = some [v]) : load1 h id off f = f v := by
  unfold H.loads at e
  unfold load1
  rw [hObj_eq]
  split at e
  · rename_i m t ho
    split at e
    · rename_i hb
      have hb : Nat.ble (Nat.succ off) m = true := hb
      rw [ho, opt_some]
      show req (Nat.ble (Nat.succ off) m) (opt (get t off) f) = _
      rw [hb, get_eq]
      unfold Am.getCells at e
      split at e
      · cases e
      · rename_i u hu
        rw [hu]
        simp only [Am.getCells, Option.some.injEq, List.cons.injEq, and_true] at e
        subst e
        rfl
    · cases e
  · cases e
theorem stores_of {h h' : H} {id off : Nat} {l : List AV} {f : H → KR} (e : h.stores id off l = some h') : stores h id off l f = f h' := by
  unfold H.stores at e
  unfold stores
  rw [hObj_eq]
  split at e
  · rename_i m t ho
    split at e
    · rename_i hb hc
      cases e
      have hb : Nat.ble (Nat.add off l.length) m = true := hb
      rw [ho, opt_some, len_eq]
      show req (Nat.ble (Nat.add off l.length) m) (req (allB AV.isCell l) (setCells l t off fun t => hUpd h id (some (.cells m t)) f)) = _
      rw [hb, hc]
      show setCells l t off _ = _
      rw [setCells_eq, hUpd_eq]
    · cases e
  · cases e
theorem store1_of {h h' : H} {id off : Nat} {v : AV} {f : H → KR} (e : h.stores id off [v] = some h') : store1 h id off v f = f h' := by
  unfold H.stores at e
  unfold store1
  rw [hObj_eq]
  split at e
  · rename_i m t ho
    split at e
    · rename_i hb hc
      cases e
      have hb : Nat.ble (Nat.succ off) m = true := hb
      rw [ho, opt_some]
      show req (Nat.ble (Nat.succ off) m) (put t off (some v) fun t => hUpd h id (some (.cells m t)) f) = _
      rw [hb]
      show put t off (some v) _ = _
      rw [put_set, hUpd_eq]; rfl
    · cases e
  · cases e
theorem ldK_of {h : H} {id off : Nat} {v : AV} (e : h.loads id off 1 = some [v]) : ldK c t (.ptr id off) h g = g v := load1_of e
theorem ldsK_of {h : H} {id off n : Nat} {l : List AV} (e : h.loads id off n = some l) : ldsK c t n (.ptr id off) h g = g (.agg l) := loads_of e
theorem boxK_agg (l : List AV) (h : H) (f : AV → H → KR) : boxK (.agg l) h f = f (.ptr (Am.newCells l h).1 0) (Am.newCells l h).2 := newCells_eq l h _
theorem boxK_int (h : H) (f : AV → H → KR) : boxK (.int k x) h f = f (.ptr (Am.newCells [.int k x] h).1 0) (Am.newCells [.int k x] h).2 := hNew_eq h (.cells 1 ⟨.no (some (.int k x))⟩) fun id h => f (.ptr id 0) h
theorem allocK_eq (n : Nat) (tr : T AV) (h : H) (f : AV → H → KR) : allocK n tr h f = f (.ptr (h.new (.cells n tr)).1 0) (h.new (.cells n tr)).2 := hNew_eq h _ _
theorem fldK_ptr (o id off : Nat) : fldK o (.ptr id off) g = g (.ptr id (off + o)) := fN_eq (off + o) fun off => g (.ptr id off)
theorem fldK_gptr (o id off : Nat) : fldK o (.gptr id off) g = g (.gptr id (off + o)) := fN_eq (off + o) fun off => g (.gptr id off)
theorem stsK_of {h h' : H} {id off n : Nat} {l : List AV} {f : H → KR} (hn : l.length = n) (e : h.stores id off l = some h') : stsK n (.ptr id off) (.agg l) h f = f h' := by
  show req (Nat.beq (len l) n) (stores h id off l f) = _
  rw [len_eq, hn, Nat.beq_refl]
  exact stores_of e
theorem stK_int {h h' : H} {id off : Nat} {f : H → KR} (e : h.stores id off [.int k x] = some h') : stK (.ptr id off) (.int k x) h f = f h' := store1_of e
theorem bldSK_of {ps : List (Nat × AV)} {l : List AV} (e : ∀ f : List AV → KR, fillSK (fsOf c t) ps (zL c t) f = f l) : bldSK c t ps g = g (.agg l) := by
  unfold bldSK
  rw [e, fL_eq]
theorem bldAK_of {esz : Nat} {ps : List (Nat × AV)} {l : List AV} (e : ∀ f : List AV → KR, fillK esz ps (zL c t) f = f l) : bldAK c t esz ps g = g (.agg l) := by
  unfold bldAK
  rw [e, fL_eq]
theorem loopV_succ (n : Nat) (f : (List AV → List Nat → H → KR) → List AV → List Nat → H → KR) (vs : List AV) (ms : List Nat) (h : H) : loopV (n + 1) f vs ms h = f (loopV n f) vs ms h := rfl
end
end K
theorem loads_new {l : List AV} {h : H} {off n : Nat} (hb : off + n ≤ l.length) : (newCells l h).2.loads (newCells l h).1 off n = some ((l.drop off).take n) := by
  have ho : (newCells l h).2.obj (newCells l h).1 = some (.cells l.length (T.ofList l)) := by simp [newCells, H.new, H.obj, T.get_set]
  unfold H.loads
  rw [ho]
  simp only [Nat.ble_eq_true_of_le hb]
  have key : ∀ n off, off + n ≤ l.length → getCells (T.ofList l) off n = some ((l.drop off).take n) := by
    intro n
    induction n with
    | zero => intro off _; simp [getCells]
    | succ n ih =>
      intro off hb
      unfold getCells
      rw [T.get_ofList, List.getElem?_eq_getElem (by omega)]
      simp only
      rw [ih (off + 1) (by omega)]
      simp only [Option.some.injEq]
      rw [List.drop_eq_getElem_cons (i := off) (by omega), List.take_succ_cons]
  exact key n off hb
namespace K
section
variable {c : Ctx} {t : Nat} {g : AV → KR} {α : Type}
theorem uncons_cons (a : α) (l : List α) (f : α → List α → KR) : uncons (a :: l) f = f a l := rfl
theorem unnil_nil (x : KR) : unnil ([] : List α) x = x := rfl
theorem unmarkK_nil (h : H) (f : H → KR) : unmarkK [] h f = f h := rfl
theorem ldK_new {l : List AV} {h : H} {off : Nat} (hb : off < l.length) : ldK c t (.ptr (Am.newCells l h).1 off) (Am.newCells l h).2 g = g (l.getD off .unk) := by
  refine ldK_of ?_
  rw [loads_new (by omega), List.drop_eq_getElem_cons hb, List.take_succ_cons, List.take_zero]
  simp [List.getD, hb]
theorem ldsK_new {l : List AV} {h : H} {off n : Nat} (hb : off + n ≤ l.length) : ldsK c t n (.ptr (Am.newCells l h).1 off) (Am.newCells l h).2 g = g (.agg ((l.drop off).take n)) := ldsK_of (loads_new hb)
end
end K

/-! ### the heap, as simp takes it -/
theorem new_fst (h : H) (o : AObj) : (h.new o).1 = h.next := rfl
theorem newo_next (h : H) (o : AObj) : (h.new o).2.next = h.next + 1 := rfl
theorem upd_next (h : H) (id : Nat) (o : AObj) : (h.upd id o).next = h.next := rfl
theorem new_obj (h : H) (o : AObj) (id : Nat) : (h.new o).2.obj id = if id = h.next then some o else h.obj id := by simp [H.new, H.obj, T.get_set]
theorem upd_obj (h : H) (i : Nat) (o : AObj) (id : Nat) : (h.upd i o).obj id = if id = i then some o else h.obj id := by simp [H.upd, H.obj, T.get_set]
theorem new_obj_self (h : H) (o : AObj) : (h.new o).2.obj h.next = some o := by rw [new_obj, if_pos rfl]
theorem new_obj_old {h : H} {o : AObj} {id : Nat} (e : id ≠ h.next) : (h.new o).2.obj id = h.obj id := by rw [new_obj, if_neg e]
theorem upd_obj_self (h : H) (i : Nat) (o : AObj) : (h.upd i o).obj i = some o := by rw [upd_obj, if_pos rfl]
theorem upd_obj_old {h : H} {i : Nat} {o : AObj} {id : Nat} (e : id ≠ i) : (h.upd i o).obj id = h.obj id := by rw [upd_obj, if_neg e]
theorem loads_obj {h : H} {id off n : Nat} : h.loads id off n = match h.obj id with
  | some (.cells m t) => (match Nat.ble (off + n) m with | true => getCells t off n | false => none)
  | _ => none := rfl
/-- the cells of an object, as a list -/
def cellsAt (l : List AV) (off n : Nat) : Option (List AV) := if off + n ≤ l.length then some ((l.drop off).take n) else none
theorem getCells_list {t : T AV} {l : List AV} (ht : ∀ k, k < l.length → t.get k = l[k]?) : ∀ n off, off + n ≤ l.length → getCells t off n = some ((l.drop off).take n)
  | 0, off, _ => by simp [getCells]
  | n + 1, off, hb => by
    unfold getCells
    rw [ht off (by omega), List.getElem?_eq_getElem (by omega)]
    simp only
    rw [getCells_list ht n (off + 1) (by omega)]
    simp only [Option.some.injEq]
    rw [List.drop_eq_getElem_cons (i := off) (by omega), List.take_succ_cons]
/-- an object that holds just these cells -/
def Holds (h : H) (id : Nat) (l : List AV) : Prop := ∃ t, h.obj id = some (.cells l.length t) ∧ ∀ k, k < l.length → t.get k = l[k]?
theorem Holds.loads {h : H} {id : Nat} {l : List AV} (e : Holds h id l) {off n : Nat} (hb : off + n ≤ l.length) : h.loads id off n = some ((l.drop off).take n) := by
  obtain ⟨t, h1, h2⟩ := e
  rw [loads_obj, h1]
  simp only [Nat.ble_eq_true_of_le hb]
  exact getCells_list h2 n off hb
theorem Holds.newCells (l : List AV) (h : H) : Holds (newCells l h).2 h.next l := ⟨T.ofList l, new_obj_self _ _, fun k _ => T.get_ofList _ _⟩
theorem Holds.new {h : H} {o : AObj} {id : Nat} {l : List AV} (e : Holds h id l) (hn : id < h.next) : Holds (h.new o).2 id l := by
  obtain ⟨t, h1, h2⟩ := e
  exact ⟨t, by rw [new_obj_old (by omega)]; exact h1, h2⟩
theorem Holds.upd {h : H} {o : AObj} {id i : Nat} {l : List AV} (e : Holds h id l) (hn : id ≠ i) : Holds (h.upd i o) id l := by
  obtain ⟨t, h1, h2⟩ := e
  exact ⟨t, by rw [upd_obj_old hn]; exact h1, h2⟩
/-- what was there is there still -/
structure Grows (h h' : H) : Prop where
  le : h.next ≤ h'.next
  obj : ∀ id, id < h.next → h'.obj id = h.obj id
theorem Grows.refl (h : H) : Grows h h := ⟨Nat.le_refl _, fun _ _ => rfl⟩
theorem Grows.trans {a b c : H} (x : Grows a b) (y : Grows b c) : Grows a c := ⟨Nat.le_trans x.le y.le, fun id hi => (y.obj id (Nat.lt_of_lt_of_le hi x.le)).trans (x.obj id hi)⟩
theorem Grows.new (h : H) (o : AObj) : Grows h (h.new o).2 := ⟨Nat.le_succ _, fun id hi => new_obj_old (by omega)⟩
theorem Grows.newCells (l : List AV) (h : H) : Grows h (newCells l h).2 := Grows.new _ _
theorem Holds.ext {h h' : H} {id : Nat} {l : List AV} (e : Holds h id l) (x : Grows h h') (hn : id < h.next) : Holds h' id l := by
  obtain ⟨t, h1, h2⟩ := e
  exact ⟨t, by rw [x.obj id hn]; exact h1, h2⟩
theorem setCells_get0 {l : List AV} {t : T AV} : ∀ k, k < l.length → (setCells t 0 l).get k = l[k]? := fun k hk => by rw [get_setCells, if_pos (by omega)]; simp
/-- a new object, and all its cells stored at once -/
theorem alloc_store {h : H} {n : Nat} {t : T AV} {l : List AV} (hl : l.length = n) (hc : allB AV.isCell l = true) :
    ∃ h', (h.new (.cells n t)).2.stores h.next 0 l = some h' ∧ h'.next = h.next + 1 ∧ Holds h' h.next l ∧ Grows h h' := by
  subst hl
  refine ⟨(h.new (.cells l.length t)).2.upd h.next (.cells l.length (setCells t 0 l)), ?_, rfl, ⟨setCells t 0 l, upd_obj_self _ _ _, setCells_get0⟩, ⟨Nat.le_succ _, fun id hi => by rw [upd_obj_old (by omega), new_obj_old (by omega)]⟩⟩
  unfold H.stores
  rw [new_obj_self]
  simp only [Nat.zero_add, Nat.ble_eq_true_of_le (Nat.le_refl _), hc]
namespace K
section
variable {c : Ctx} {t : Nat} {g : AV → KR}
theorem ldK_holds {h : H} {id off : Nat} {l : List AV} (e : Holds h id l) (hb : off < l.length) : ldK c t (.ptr id off) h g = g (l.getD off .unk) := by
  refine ldK_of ?_
  rw [e.loads (by omega), List.drop_eq_getElem_cons hb, List.take_succ_cons, List.take_zero]
  simp [List.getD, hb]
theorem ldsK_holds {h : H} {id off n : Nat} {l : List AV} (e : Holds h id l) (hb : off + n ≤ l.length) : ldsK c t n (.ptr id off) h g = g (.agg ((l.drop off).take n)) := ldsK_of (e.loads hb)
end
end K
end Am

/- Known calls that write the heap: what a run of the fast form comes to, its garbage forgotten; a slice that grows by one. -/
namespace Am
open Go

/-! ### Heaps that read alike -/
def Sim (a b : AObj) : Prop := a = b ∨ ∃ n t t', a = .cells n t ∧ b = .cells n t' ∧ ∀ k, k < n → t.get k = t'.get k
theorem Sim.objAt {G : Gd} {ρ : Rho} {a b : AObj} {ob : Obj} {l : Loc} (h : Sim a b) (k : ObjAt G ρ b ob l) : ObjAt G ρ a ob l := by
  rcases h with rfl | ⟨n, t, t', rfl, rfl, h⟩
  · exact k
  · obtain ⟨arr, elem, fr, h1, h2, h3, h4, h5⟩ := k
    exact ⟨arr, elem, fr, h1, h2, h3, h4, fun j hj => by rw [h j hj]; exact h5 j hj⟩
/-- all that the one has stands in the other -/
def SimH (a b : PH) : Prop := ∀ id o, a id = some o → ∃ o', b id = some o' ∧ Sim o o'
theorem HRel.sim {G : Gd} {ρ : Rho} {a b : PH} {w : World} (k : HRel G ρ b w) (h : SimH a b) : HRel G ρ a w where
  obj id o x := by
    obtain ⟨o', h1, h2⟩ := h id o x
    obtain ⟨l, ob, k1, k2, k3⟩ := k.obj id o' h1
    exact ⟨l, ob, k1, k2, h2.objAt k3⟩
  disj i j oi oj li lj hij hi hj := by
    obtain ⟨_, h1, _⟩ := h i oi hi
    obtain ⟨_, h2, _⟩ := h j oj hj
    exact k.disj i j _ _ li lj hij h1 h2
  low id o l x := by
    obtain ⟨_, h1, _⟩ := h id o x
    exact k.low id _ l h1
theorem Own.sim {ρ : Rho} {a b : PH} {x y : Nat} (h : SimH a b) (k : Own ρ a x y) : Own ρ b x y := by
  obtain ⟨id, o, l, h1, h2⟩ := k
  obtain ⟨o', h3, _⟩ := h id o h1
  exact ⟨id, o', l, h3, h2⟩
theorem Tr.sim {ρ ρ' : Rho} {h a b : PH} {n n' : Nat} {w w' : World} (t : Tr ρ h n w ρ' b n' w') (hs : SimH a b) : Tr ρ h n w ρ' a n' w' where
  le := t.le
  out := t.out
  size := t.size
  kept := t.kept
  cells := t.cells
  own b k hb ho := t.own b k hb (ho.sim hs)
  new id o h1 h2 := by
    obtain ⟨o', h3, _⟩ := hs id o h1
    exact t.new id o' h3 h2
  os := t.os
  output := t.output
  tape := t.tape
/-- a call of which a run is known is known, its garbage forgotten -/
theorem known_sim {c : Ctx} {P : Program} {G : Gd} (hc : COk c P) (hX : ExtOk c P) (hS : SumOk c P G) {k f : Nat} {args : List AV} {v : AV} {h hf h' : H} (hrun : runA c k (.fn f) args h = .ok (v, hf)) (hn : hf.next = h'.next) (hs : SimH h'.ph hf.ph) :
    h.next ≤ h'.next ∧ ∀ (ρ : Rho) (w : World) (vs : List Value), VRels ρ args vs → HRel G ρ h.ph w → GOk c G w → Free ρ h.next h'.next → FnOk c P f ⟨vs⟩ w (Ret G ρ h w v h') := by
  obtain ⟨h1, h2⟩ := run_ok (G := G) hc hX hS k _ _ _ _ _ hrun
  refine ⟨by rw [← hn]; exact h1, fun ρ w vs q1 q2 q3 q4 => ?_⟩
  have cv : ∀ x w', Ret G ρ h w v hf x w' → Ret G ρ h w v h' x w' := fun x w' ⟨ρ', k1, k2, k3⟩ => ⟨ρ', k1, k2.sim hs, by rw [← hn]; exact k3.sim hs⟩
  rcases h2 ρ w vs q1 q2 q3 (by rw [hn]; exact q4) with ⟨h3, x, w', h4, h5⟩ | ⟨h3, h4⟩
  · exact .inl ⟨h3, x, w', h4, cv x w' h5⟩
  · refine .inr ⟨h3, h4.mono fun en w' he => ?_⟩
    cases en with
    | returned x => exact cv x w' he
    | panicked => exact he.elim
    | outgrown => exact he.elim
theorem sok_run {c : Ctx} {P : Program} {G : Gd} {tb : T K.FnC} {ty : T K.RnC} (hc : COk c P) (hX : ExtOk c P) (hS : SumOk c P G) {n f m : Nat} {g : K.KRun → List AV → H → K.KR} {s : Sum} (hle : K.KLe (K.run tb ty n) (runA c n))
    (H : ∀ args h v h', s args h = some (v, h') → ∃ hf, K.run tb ty n (.fn f) args h = .ok v hf ∧ hf.next = h'.next ∧ SimH h'.ph hf.ph) : SOk c P G ⟨f, m, g, s⟩ := fun args h v h' hq => by
  obtain ⟨hf, h1, h2, h3⟩ := H args h v h' hq
  exact known_sim hc hX hS (hle _ _ _ _ _ h1) h2 h3

/-! ### A slice that grows by one -/
theorem kill_obj (h : H) (i id : Nat) : (h.kill i).obj id = if id = i then none else h.obj id := by simp [H.kill, H.obj, T.get_put]
theorem kill_next (h : H) (i : Nat) : (h.kill i).next = h.next := rfl
namespace K
section
variable {c : Ctx} {e : Nat} {k : AV → H → KR} {h : H}
theorem req_t (x : KR) : req true x = x := rfl
theorem lenVK_slice {g : AV → KR} (id off n tag : Nat) : lenVK (.slice id off n tag) g = g (.int .i64 (.ofNat n)) := rfl
theorem growK_of {esz need : Nat} {x : KR} (h1 : need ≤ 16777216) (h2 : need * bytesOf c e ≤ 16777216) : growK e esz need c x = x := by
  unfold growK
  rw [Nat.ble_eq_true_of_le h1]
  show req (Nat.ble (need * bytesOf c e) 16777216) x = x
  rw [Nat.ble_eq_true_of_le h2]; rfl
theorem appR_eq (esz n i : Nat) : appR esz n i h k = k (.slice i 0 n (2 * esz)) h := by
  unfold appR
  rw [fN_eq, fN_eq]; rfl
theorem app_nil1 {i tag : Nat} {t0 : T AV} {v : AV} (htag : tag / 2 = 1) (ho : h.obj i = some (.cells 1 t0)) (hv : t0.get 0 = some v) (hb : 1 * bytesOf c e ≤ 16777216) :
    appK c e 1 .nilSlice (.slice i 0 1 tag) h k = k (.slice h.next 0 1 2) (h.new (.cells 1 t0)).2 := by
  show growK e 1 (Nat.add 0 1) c (srcK 1 (.slice i 0 1 tag) h fun l => appS 1 0 1 .nilSlice (.slice i 0 1 tag) l h k) = _
  rw [show Nat.add 0 1 = 1 from rfl, growK_of (by decide) hb]
  show req (Nat.beq (Nat.div tag 2) 1) (loads h i 0 (Nat.mul 1 1) fun l => appS 1 0 1 .nilSlice (.slice i 0 1 tag) l h k) = _
  have ht : Nat.div tag 2 = 1 := htag
  rw [ht]
  show loads h i 0 1 _ = _
  have hl : h.loads i 0 1 = some [v] := by rw [loads_obj, ho]; simp [Am.getCells, hv]
  rw [loads_of hl]
  show wholeK 1 (.slice i 0 1 tag) h (fun m t => hNew h (.cells m t) fun i h => appR 1 (Nat.add 0 1) i h k) (newCells [v] h fun i h => appR 1 (Nat.add 0 1) i h k) = _
  unfold wholeK
  show Bool.rec (motive := fun _ => KR) _ _ (Nat.beq (Nat.div tag 2) 1) = _
  rw [ht]
  show Option.rec (motive := fun _ => KR) _ _ (hObj h i) = _
  rw [hObj_eq, ho]
  show hNew h (.cells 1 t0) (fun i h => appR 1 (Nat.add 0 1) i h k) = _
  rw [hNew_eq, appR_eq]
  rfl
theorem hUpd_kill (h : H) (id : Nat) (f : H → KR) : hUpd h id none f = f (h.kill id) := by
  cases h with
  | mk n t => exact put_eq t id none _
theorem app_one {i o ln tag : Nat} {t0 t : T AV} {v : AV} (htag : tag / 2 = 1) (ho : h.obj i = some (.cells 1 t0)) (hv : t0.get 0 = some v) (hc : v.isCell = true) (hs : h.obj o = some (.cells ln t)) (hn : ln + 1 ≤ 16777216) (hb : (ln + 1) * bytesOf c e ≤ 16777216) :
    appK c e 1 (.slice o 0 ln 2) (.slice i 0 1 tag) h k = k (.slice h.next 0 (ln + 1) 2) ((h.kill o).new (.cells (ln + 1) (t.set ln v))).2 := by
  show growK e 1 (Nat.add ln 1) c (srcK 1 (.slice i 0 1 tag) h fun l => appS 1 ln 1 (.slice o 0 ln 2) (.slice i 0 1 tag) l h k) = _
  rw [show Nat.add ln 1 = ln + 1 from rfl, growK_of hn hb]
  show req (Nat.beq (Nat.div tag 2) 1) (loads h i 0 (Nat.mul 1 1) fun l => appS 1 ln 1 (.slice o 0 ln 2) (.slice i 0 1 tag) l h k) = _
  have ht : Nat.div tag 2 = 1 := htag
  rw [ht]
  show loads h i 0 1 _ = _
  have hl : h.loads i 0 1 = some [v] := by rw [loads_obj, ho]; simp [Am.getCells, hv]
  rw [loads_of hl]
  show appOut 1 ln 1 o 0 [v] h k = _
  unfold appOut
  rw [hObj_eq, hs]
  show req (Nat.ble (Nat.add 0 (Nat.mul ln 1)) ln) (req (allB AV.isCell [v]) (baseK 0 (Nat.mul ln 1) t fun t => setCells [v] t (Nat.mul ln 1) fun t => hUpd h o none fun h => fN (Nat.add (Nat.mul ln 1) (len [v])) fun m => hNew h (.cells m t) fun i h => appR 1 (Nat.add ln 1) i h k)) = _
  have e1 : Nat.mul ln 1 = ln := Nat.mul_one ln
  have e2 : Nat.add 0 ln = ln := Nat.zero_add ln
  rw [e1, e2, Nat.ble_eq_true_of_le (Nat.le_refl ln)]
  have e3 : allB AV.isCell [v] = true := by simp only [allB, hc]
  rw [e3]
  show setCells [v] t ln (fun t => hUpd h o none fun h => fN (Nat.add ln (len [v])) fun m => hNew h (.cells m t) fun i h => appR 1 (Nat.add ln 1) i h k) = _
  rw [setCells_eq, hUpd_kill, fN_eq, len_eq, hNew_eq, appR_eq]
  rfl
theorem callVK_func {run : KRun} {f : Nat} {args : List AV} {h' : H} {v : AV} (e : run (.fn f) args h = .ok v h') : callVK run (.func (.func f) [] []) args h k = k v h' := by
  have e1 : app [] (app args []) = args := by
    rw [app_eq, app_eq]; simp
  show retK (run (.fn f) (app [] (app args []))  h) k = _
  rw [e1]
  exact retK_of e
theorem idxSK_of {esz id off len tag i : Nat} {g : AV → KR} (hi : i < len) (ht : tag / 2 = esz) : idxSK esz (.slice id off len tag) (.int .i64 (.ofNat i)) g = g (.ptr id (off + i * esz)) := by
  show req (Nat.ble (Nat.succ i) len) (req (Nat.beq (Nat.div tag 2) esz) (fN (Nat.add off (Nat.mul i esz)) fun off => g (.ptr id off))) = _
  have ht : Nat.div tag 2 = esz := ht
  rw [Nat.ble_eq_true_of_le (show Nat.succ i ≤ len from hi), ht, Nat.beq_refl, fN_eq]
  rfl
end
end K
end Am
namespace Am
open Go
/-! ### Tries as a whole -/
noncomputable def okO (p : AV → Bool) (o : Option AV) : Bool := Option.rec (motive := fun _ => Bool) true p o
noncomputable def andB (a b : Bool) : Bool := Bool.rec (motive := fun _ => Bool) false b a
noncomputable def allT (p : AV → Bool) (t : T AV) : Bool := T.rec (motive_1 := fun _ => Bool) (motive_2 := fun _ => Bool) (fun _ ih => ih) (fun v => okO p v)
  (fun v _ _ _ _ _ _ _ _ i0 i1 i2 i3 i4 i5 i6 i7 => andB (okO p v) (andB i0 (andB i1 (andB i2 (andB i3 (andB i4 (andB i5 (andB i6 i7)))))))) t
theorem andB_t {a b : Bool} (h : andB a b = true) : a = true ∧ b = true := by
  cases a with
  | false => cases h
  | true => exact ⟨rfl, h⟩
theorem allT_getP {p : AV → Bool} : ∀ (q : P) (t : T AV) (v : AV), allT p t = true → T.getP q t = some v → p v = true := by
  intro q
  induction q with
  | z =>
    rintro ⟨_ | _⟩ v h e
    · simp only [T.getP] at e; subst e; exact h
    · simp only [T.getP] at e; subst e; exact (andB_t h).1
  | d0 q ih => 
    rintro ⟨_ | _⟩ v h e
    · simp [T.getP] at e
    · exact ih _ v (andB_t (andB_t h).2).1 e
  | d1 q ih => 
    rintro ⟨_ | _⟩ v h e
    · simp [T.getP] at e
    · exact ih _ v (andB_t (andB_t (andB_t h).2).2).1 e
  | d2 q ih => 
    rintro ⟨_ | _⟩ v h e
    · simp [T.getP] at e
    · exact ih _ v (andB_t (andB_t (andB_t (andB_t h).2).2).2).1 e
  | d3 q ih => 
    rintro ⟨_ | _⟩ v h e
    · simp [T.getP] at e
    · exact ih _ v (andB_t (andB_t (andB_t (andB_t (andB_t h).2).2).2).2).1 e
  | d4 q ih => 
    rintro ⟨_ | _⟩ v h e
    · simp [T.getP] at e
    · exact ih _ v (andB_t (andB_t (andB_t (andB_t (andB_t (andB_t h).2).2).2).2).2).1 e
  | d5 q ih => 
    rintro ⟨_ | _⟩ v h e
    · simp [T.getP] at e
    · exact ih _ v (andB_t (andB_t (andB_t (andB_t (andB_t (andB_t (andB_t h).2).2).2).2).2).2).1 e
  | d6 q ih => 
    rintro ⟨_ | _⟩ v h e
    · simp [T.getP] at e
    · exact ih _ v (andB_t (andB_t (andB_t (andB_t (andB_t (andB_t (andB_t (andB_t h).2).2).2).2).2).2).2).1 e
  | d7 q ih => 
    rintro ⟨_ | _⟩ v h e
    · simp [T.getP] at e
    · exact ih _ v (andB_t (andB_t (andB_t (andB_t (andB_t (andB_t (andB_t (andB_t h).2).2).2).2).2).2).2).2 e
theorem allT_get {p : AV → Bool} {t : T AV} {k : Nat} {v : AV} (h : allT p t = true) (e : t.get k = some v) : p v = true := allT_getP _ _ _ h e
/-- every sz-th cell, from off on, as cells of their own -/
noncomputable def colF {β : Type} (t : T AV) (sz n : Nat) : Nat → Nat → T AV → (T AV → Option β) → Option β :=
  Nat.rec (motive := fun _ => Nat → Nat → T AV → (T AV → Option β) → Option β) (fun _ _ acc k => k acc)
    (fun _ ih off j acc k => Option.rec (motive := fun _ => Option β) none (fun v => K.put acc j (some v) fun acc => K.fN (Nat.add off sz) fun off => K.fN (Nat.add j (nat_lit 1)) fun j => ih off j acc k) (K.get t off)) n
theorem colF_some {β : Type} {t : T AV} {sz : Nat} : ∀ (n off j : Nat) (acc : T AV) (k : T AV → Option β) (r : β), colF t sz n off j acc k = some r →
    ∃ acc' : T AV, k acc' = some r ∧ ∀ x, acc'.get x = if j ≤ x ∧ x < j + n then t.get (off + sz * (x - j)) else acc.get x
  | 0, off, j, acc, k, r, h => ⟨acc, h, fun x => by rw [if_neg (by omega)]⟩
  | n + 1, off, j, acc, k, r, h => by
    have h : Option.rec (motive := fun _ => Option β) none (fun v => K.put acc j (some v) fun acc => K.fN (Nat.add off sz) fun off => K.fN (Nat.add j 1) fun j => colF t sz n off j acc k) (K.get t off) = some r := h
    rw [K.get_eq] at h
    cases hv : t.get off with
    | none => rw [hv] at h; cases h
    | some v =>
      rw [hv] at h
      have h : K.put acc j (some v) (fun acc => K.fN (Nat.add off sz) fun off => K.fN (Nat.add j 1) fun j => colF t sz n off j acc k) = some r := h
      rw [K.put_set, K.fN_eq, K.fN_eq] at h
      obtain ⟨acc', h1, h2⟩ := colF_some n _ _ _ k r h
      refine ⟨acc', h1, fun x => ?_⟩
      rw [h2 x, T.get_set]
      show (if j + 1 ≤ x ∧ x < j + 1 + n then t.get (off + sz + sz * (x - (j + 1))) else _) = _
      by_cases e1 : x = j
      · subst e1
        rw [if_neg (by omega), if_pos rfl, if_pos (by omega)]
        simp [hv]
      · by_cases e2 : j + 1 ≤ x ∧ x < j + 1 + n
        · rw [if_pos e2, if_pos (by omega)]
          congr 1
          rw [show x - j = (x - (j + 1)) + 1 by omega, Nat.mul_add]
          omega
        · rw [if_neg e2, if_neg e1, if_neg (by omega)]
theorem getCells_all {t : T AV} : ∀ (n off : Nat), (∀ k, off ≤ k → k < off + n → ∃ v, t.get k = some v) → ∃ l, getCells t off n = some l ∧ l.length = n ∧ ∀ j, j < n → t.get (off + j) = l[j]?
  | 0, off, _ => ⟨[], rfl, rfl, fun j hj => by omega⟩
  | n + 1, off, h => by
    obtain ⟨v, hv⟩ := h off (Nat.le_refl _) (by omega)
    obtain ⟨l, h1, h2, h3⟩ := getCells_all n (off + 1) fun k k1 k2 => h k (by omega) (by omega)
    refine ⟨v :: l, by simp only [getCells, hv, h1], by simp [h2], fun j hj => ?_⟩
    cases j with
    | zero => simpa using hv
    | succ j => rw [show off + (j + 1) = off + 1 + j by omega, h3 j (by omega)]; simp
theorem HRel.present {G : Gd} {ρ : Rho} {h : PH} {w : World} {id n : Nat} {t : T AV} (a : HRel G ρ h w) (h1 : h id = some (.cells n t)) : ∀ k, k < n → ∃ v, t.get k = some v := fun k hk => by
  obtain ⟨l, ob, _, _, arr, e, fr, _, _, _, _, h5⟩ := a.obj id _ h1
  obtain ⟨v, x, h6, _⟩ := h5 k hk
  exact ⟨v, h6⟩
theorem wrapN_i64 {n : Nat} (h : n ≤ 9223372036854775807) : wrapN .i64 n = .ofNat n := by
  unfold wrapN
  rw [show maxOf .i64 = 9223372036854775807 from rfl, Nat.ble_eq_true_of_le h]
theorem ltI_nat (a b : Nat) : ltI (.ofNat a) (.ofNat b) = decide (a < b) := by
  unfold ltI leI
  rw [Bool.eq_iff_iff]
  simp only [Bool.not_eq_true', decide_eq_true_eq]
  constructor
  · intro h
    rcases Nat.lt_or_ge a b with k | k
    · exact k
    · rw [Nat.ble_eq_true_of_le k] at h; cases h
  · intro h
    cases hb : b.ble a with
    | false => rfl
    | true => have := Nat.le_of_ble_eq_true hb; omega
end Am
