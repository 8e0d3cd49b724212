/- What (*pmem.Device).Seen comes to: a new slice of what is seen of each word. -/
import Derived.Test.YtjhcfoinldcaoaaGreatDoorWdOk
import Derived.Test.YtjhcfoinldcaoaaGreatDoorA4
namespace YtjhcfoinldcaoaaGreatDoorWdM
open Go Am
set_option maxRecDepth 100000
theorem us25 (n : Nat) (args : List AV) (h : H) : K.run tb ty (n + 1) (.fn 25) args h = r25 (K.run tb ty n) args h := by kernel_rfl
theorem us51 (n : Nat) (args : List AV) (h : H) : K.run tb ty (n + 1) (.fn 51) args h = r51 (K.run tb ty n) args h := by kernel_rfl
theorem us52 (n : Nat) (args : List AV) (h : H) : K.run tb ty (n + 1) (.fn 52) args h = r52 (K.run tb ty n) args h := by kernel_rfl
theorem six {L : List AV} (h : L.length = 6) : ∃ a b c d e f, L = [a, b, c, d, e, f] := by
  match L, h with
  | [a, b, c, d, e, f], _ => exact ⟨a, b, c, d, e, f, rfl⟩
theorem ws52 (n : Nat) (a b c d e f : AV) (h : H) : K.run tb ty (n + 1) (.fn 52) [.agg [a, b, c, d, e, f]] h = .ok b (newCells [a, b, c, d, e, f] h).2 := by
  rw [us52]
  unfold r52
  simp only [K.uncons_cons, K.unnil_nil, K.boxK_agg, K.fldK_ptr, Nat.zero_add, K.ldK_new, List.length_cons, List.length_nil, Nat.reduceAdd, Nat.reduceLT, List.getD_cons_zero, List.getD_cons_succ, K.unmarkK_nil]
noncomputable def F51 (run : K.KRun) (j7 : List AV → List Nat → H → K.KR) : (List AV → List Nat → H → K.KR) → List AV → List Nat → H → K.KR := fun s19 l16 m17 h18 => K.uncons l16 fun t20 l21 => K.uncons l21 fun t22 l23 => K.uncons l23 fun t24 l25 => K.uncons l25 fun t26 l27 => K.uncons l27 fun t28 l29 => K.unnil l29 (
K.ltK (K.binV ctx .lss 3 false t28 t26) t28 t26 fun t30 =>
K.iteV t30 (
K.idxSK 6 t24 t28 fun t31 =>
K.ldsK ctx 119 6 t31 h18 fun t32 =>
K.allocK (K.zN ctx 119) (K.zT ctx 119) h18 fun t33 h34 =>
K.stsK 6 t33 t32 h34 fun h35 =>
K.ldsK ctx 119 6 t33 h35 fun t36 =>
K.callVK run t20 [t36] h35 fun t37 h38 =>
K.bslK ctx 23 1 1 [(0, t37)] h38 fun t39 h40 =>
K.appK ctx 23 1 t22 t39 h40 fun t41 h42 =>
K.addK (K.binV ctx .add 3 true t28 (.int .i64 (.ofNat 1))) t28 (.int .i64 (.ofNat 1)) fun t43 =>
s19 [t20, t41, t24, t26, t43] m17 h42) (
j7 [t22] m17 h18))
theorem bsl51 (v : AV) (hk : v.isCell = true) (h : H) (g : AV → H → K.KR) : K.bslK ctx 23 1 1 [(0, v)] h g = g (.slice h.next 0 1 3) (newCells [v] h).2 := by
  have e : ∀ v : AV, v.isCell = true → K.bslK ctx 23 1 1 [(0, v)] h g = K.newCells [v] h (fun id h => g (.slice id 0 1 3) h) := fun v hk => by cases v <;> first | (cases hk; done) | kernel_rfl
  rw [e v hk, K.newCells_eq]; rfl
/-- the state at the head of a round -/
structure St51 (h0 : H) (C : Nat → List AV) (i : Nat) (out : AV) (h : H) : Prop where
  next : h.next = h0.next + 4 * i
  pres : ∀ x, (x < h0.next ∨ h0.next + 4 * i ≤ x) → h.obj x = h0.obj x
  nil : i = 0 → out = .nilSlice
  out : 0 < i → ∃ t, out = .slice (h0.next + 4 * i - 1) 0 i 2 ∧ h.obj (h0.next + 4 * i - 1) = some (.cells i t) ∧ ∀ j, j < i → t.get j = (C j)[1]?
theorem it51 (n : Nat) (jj s : List AV → List Nat → H → K.KR) (h0 : H) (C : Nat → List AV) (id off len tag i : Nat) (out : AV) (h : H) (hlen : len ≤ 2000000) (htag : tag / 2 = 6) (hid : id < h0.next)
    (hC : ∀ j, j < len → h0.loads id (off + j * 6) 6 = some (C j) ∧ (C j).length = 6 ∧ allB AV.isCell (C j) = true) (hi : i < len) (S : St51 h0 C i out h) :
    ∃ out' h', F51 (K.run tb ty (n + 1)) jj s [.func (.func 52) [] [], out, .slice id off len tag, .int .i64 (.ofNat len), .int .i64 (.ofNat i)] [] h = s [.func (.func 52) [] [], out', .slice id off len tag, .int .i64 (.ofNat len), .int .i64 (.ofNat (i + 1))] [] h' ∧ St51 h0 C (i + 1) out' h' := by
  obtain ⟨c1, c2, c3⟩ := hC i hi
  obtain ⟨q0, q1, q2, q3, q4, q5, hq⟩ := six c2
  rw [hq] at c1 c3
  have hz : K.zN ctx 119 = 6 := by kernel_rfl
  have hk1 : q1.isCell = true := allB_iff.1 c3 q1 (by simp)
  have hl : h.loads id (off + i * 6) 6 = some [q0, q1, q2, q3, q4, q5] := by
    rw [← c1, loads_obj, loads_obj, S.pres id (.inl hid)]
  obtain ⟨h2, s1, s2, s3, s4⟩ := alloc_store (h := h) (n := 6) (t := K.zT ctx 119) (l := [q0, q1, q2, q3, q4, q5]) rfl c3
  have g2 : Grows h (newCells [q0, q1, q2, q3, q4, q5] h2).2 := s4.trans (Grows.newCells _ _)
  have e3 : (newCells [q0, q1, q2, q3, q4, q5] h2).2.next = h.next + 2 := by rw [show (newCells [q0, q1, q2, q3, q4, q5] h2).2.next = h2.next + 1 from rfl, s2]
  generalize hh3 : (newCells [q0, q1, q2, q3, q4, q5] h2).2 = h3 at g2 e3
  have e4 : (newCells [q1] h3).2.next = h.next + 3 := by rw [show (newCells [q1] h3).2.next = h3.next + 1 from rfl, e3]
  have g4 : Grows h (newCells [q1] h3).2 := g2.trans (Grows.newCells _ _)
  have o4 : (newCells [q1] h3).2.obj (h.next + 2) = some (.cells 1 (T.ofList [q1])) := by rw [← e3]; exact new_obj_self _ _
  have hi1 : i + 1 ≤ 16777216 := by omega
  have hby : K.bytesOf ctx 23 = 8 := by kernel_rfl
  have hadd : addI .i64 (.ofNat i) (.ofNat 1) = .ofNat (i + 1) := wrapN_i64 (by omega)
  -- the rest of the heap is as it was
  have far : ∀ x, h0.next + 4 * (i + 1) ≤ x → (newCells [q1] h3).2.obj x = h0.obj x := fun x hx => by
    have n1 : x ≠ h3.next := by rw [e3, S.next]; omega
    have n2 : x ≠ h2.next := by rw [s2, S.next]; omega
    have e5 : (newCells [q1] h3).2.obj x = h3.obj x := new_obj_old n1
    have e6 : h3.obj x = h2.obj x := by rw [← hh3]; exact new_obj_old n2
    rw [e5, e6]
    have e7 : h2 = (h.new (.cells 6 (K.zT ctx 119))).2.upd h.next (.cells 6 (setCells (K.zT ctx 119) 0 [q0, q1, q2, q3, q4, q5])) := by
      have s1' := s1
      unfold H.stores at s1'
      rw [new_obj_self] at s1'
      simp only [List.length_cons, List.length_nil, Nat.zero_add, Nat.reduceAdd, show Nat.ble 6 6 = true from rfl, c3] at s1'
      exact (Option.some.inj s1').symm
    rw [e7, upd_obj_old (by rw [S.next]; omega), new_obj_old (by rw [S.next]; omega)]
    exact S.pres x (.inr (by omega))
  -- up to the append
  have pre : ∀ R : K.KR, K.appK ctx 23 1 out (.slice (h.next + 2) 0 1 3) (newCells [q1] h3).2 (fun t41 h42 => s [.func (.func 52) [] [], t41, .slice id off len tag, .int .i64 (.ofNat len), .int .i64 (.ofNat (i + 1))] [] h42) = R →
      F51 (K.run tb ty (n + 1)) jj s [.func (.func 52) [] [], out, .slice id off len tag, .int .i64 (.ofNat len), .int .i64 (.ofNat i)] [] h = R := by
    intro R hR
    unfold F51
    simp only [K.uncons_cons, K.unnil_nil, K.ltK_int, ltI_nat, hi, decide_true, K.iteV_b, cond_true, K.idxSK_of hi htag, K.ldsK_of hl, K.allocK_eq, hz, Am.new_fst, Am.newo_next]
    rw [K.stsK_of (n := 6) rfl s1]
    simp only [K.ldsK_holds s3 (off := 0) (n := 6) (Nat.le_refl 6), List.drop_zero, List.take_succ_cons, List.take_zero, K.callVK_func (ws52 n _ _ _ _ _ _ _), hh3, bsl51 q1 hk1, e3, K.addK_int, hadd]
    exact hR
  rcases Nat.eq_zero_or_pos i with h0i | hpos
  · subst h0i
    have := S.nil rfl
    subst this
    have hn0 : h.next = h0.next := by rw [S.next]; omega
    refine ⟨_, _, pre _ (K.app_nil1 (by decide) o4 (T.get_ofList _ _) (by rw [hby]; decide)), ?_, ?_, fun h => by omega, fun _ => ?_⟩
    · rw [Am.newo_next, e4]; omega
    · intro x hx
      rw [new_obj_old (by rw [e4]; omega)]
      rcases hx with hx | hx
      · rw [g4.obj x (by omega)]; exact S.pres x (.inl hx)
      · exact far x hx
    · refine ⟨T.ofList [q1], by rw [e4, hn0, show h0.next + 4 * (0 + 1) - 1 = h0.next + 3 by omega], ?_, fun j hj => ?_⟩
      · rw [show h0.next + 4 * (0 + 1) - 1 = (newCells [q1] h3).2.next by rw [e4]; omega]; exact new_obj_self _ _
      · obtain rfl : j = 0 := by omega
        rw [T.get_ofList, hq]; rfl
  · obtain ⟨t, t1, t2, t3⟩ := S.out hpos
    subst t1
    have hon : h0.next + 4 * i - 1 < h.next := by rw [S.next]; omega
    have o5 : (newCells [q1] h3).2.obj (h0.next + 4 * i - 1) = some (.cells i t) := by rw [g4.obj _ hon]; exact t2
    refine ⟨_, _, pre _ (K.app_one (by decide) o4 (T.get_ofList _ _) hk1 o5 hi1 (by rw [hby]; omega)), ?_, ?_, fun h => by omega, fun _ => ?_⟩
    · rw [Am.newo_next, kill_next, e4, S.next]; omega
    · intro x hx
      rw [new_obj_old (by rw [kill_next, e4, S.next]; omega), kill_obj, if_neg (by omega)]
      rcases hx with hx | hx
      · rw [g4.obj x (by rw [S.next]; omega)]; exact S.pres x (.inl hx)
      · exact far x hx
    · refine ⟨t.set i q1, by rw [e4, S.next, show h0.next + 4 * (i + 1) - 1 = h0.next + 4 * i + 3 by omega], ?_, fun j hj => ?_⟩
      · rw [show h0.next + 4 * (i + 1) - 1 = ((newCells [q1] h3).2.kill (h0.next + 4 * i - 1)).next by rw [kill_next, e4, S.next]; omega]; exact new_obj_self _ _
      · rw [T.get_set]
        by_cases hji : j = i
        · subst hji; rw [if_pos rfl, hq]; rfl
        · rw [if_neg hji]; exact t3 j (by omega)
theorem lp51 (n : Nat) (jj : List AV → List Nat → H → K.KR) (h0 : H) (C : Nat → List AV) (id off len tag : Nat) (hlen : len ≤ 2000000) (htag : tag / 2 = 6) (hid : id < h0.next)
    (hC : ∀ j, j < len → h0.loads id (off + j * 6) 6 = some (C j) ∧ (C j).length = 6 ∧ allB AV.isCell (C j) = true) : ∀ (r fuel i : Nat) (out : AV) (h : H), i + r = len → r < fuel → St51 h0 C i out h →
    ∃ out' h', K.loopV fuel (F51 (K.run tb ty (n + 1)) jj) [.func (.func 52) [] [], out, .slice id off len tag, .int .i64 (.ofNat len), .int .i64 (.ofNat i)] [] h = jj [out'] [] h' ∧ St51 h0 C len out' h'
  | 0, fuel + 1, i, out, h, hr, hf, S => by
    obtain rfl : i = len := by omega
    refine ⟨out, h, ?_, S⟩
    rw [K.loopV_succ]
    unfold F51
    simp only [K.uncons_cons, K.unnil_nil, K.ltK_int, ltI_nat, Nat.lt_irrefl, decide_false, K.iteV_b, cond_false]
  | r + 1, fuel + 1, i, out, h, hr, hf, S => by
    obtain ⟨o1, h1, k1, k2⟩ := it51 n jj (K.loopV fuel (F51 (K.run tb ty (n + 1)) jj)) h0 C id off len tag i out h hlen htag hid hC (by omega) S
    rw [K.loopV_succ, k1]
    exact lp51 n jj h0 C id off len tag hlen htag hid hC r fuel (i + 1) o1 h1 (by omega) (by omega) k2
theorem ne51 (d o : Nat) (g : AV → K.KR) : K.neK (K.binV ctx .neq 46 true (.ptr d o) .nilPtr) (.ptr d o) .nilPtr g = g (.bool true) := by kernel_rfl
theorem run51 (n : Nat) (h0 : H) (C : Nat → List AV) (d o id off len tag : Nat) (hd : h0.loads d o 1 = some [.slice id off len tag]) (hlen : len ≤ 900000) (htag : tag / 2 = 6) (hid : id < h0.next)
    (hC : ∀ j, j < len → h0.loads id (off + j * 6) 6 = some (C j) ∧ (C j).length = 6 ∧ allB AV.isCell (C j) = true) :
    ∃ out h, K.run tb ty (n + 2) (.fn 51) [.ptr d o, .func (.func 52) [] []] h0 = .ok out h ∧ St51 h0 C len out h := by
  obtain ⟨out, h, k1, k2⟩ := lp51 n (fun l4 m5 h6 => K.uncons l4 fun t8 l9 => K.unnil l9 (K.unmarkK m5 h6 fun h10 => .ok t8 h10)) h0 C id off len tag (by omega) htag hid hC len 1000000 0 .nilSlice h0 (by omega) (by omega)
    ⟨by omega, fun _ _ => rfl, fun _ => rfl, fun h => by omega⟩
  refine ⟨out, h, ?_, k2⟩
  rw [us51]
  unfold r51
  simp only [K.uncons_cons, K.unnil_nil, K.letK_eq, ne51, K.iteV_b, cond_true]
  have e1 : ∀ (g : AV → K.KR), K.nilK (.ptr d o) g = g (.ptr d o) := fun g => rfl
  simp only [e1, K.fldK_ptr, Nat.add_zero, K.ldK_of hd, K.lenVK_slice]
  refine Eq.trans k1 ?_
  simp only [K.uncons_cons, K.unnil_nil, K.unmarkK_nil]
theorem run25 (n : Nat) (h0 : H) (C : Nat → List AV) (d o id off len tag : Nat) (hd : h0.loads d o 1 = some [.slice id off len tag]) (hlen : len ≤ 900000) (htag : tag / 2 = 6) (hid : id < h0.next)
    (hC : ∀ j, j < len → h0.loads id (off + j * 6) 6 = some (C j) ∧ (C j).length = 6 ∧ allB AV.isCell (C j) = true) :
    ∃ out h, K.run tb ty (n + 3) (.fn 25) [.ptr d o] h0 = .ok out h ∧ St51 h0 C len out h := by
  obtain ⟨out, h, k1, k2⟩ := run51 n h0 C d o id off len tag hd hlen htag hid hC
  refine ⟨out, h, ?_, k2⟩
  rw [us25]
  unfold r25
  simp only [K.uncons_cons, K.unnil_nil, K.callFK_of k1, K.unmarkK_nil]
/-- what is known of Seen -/
noncomputable def seenS : Sum := fun args h => match args with
  | [.ptr d o] => match K.get h.t d with
    | some (.cells m td) => match Nat.ble (Nat.succ o) m, K.get td o with
      | true, some (.slice id off len tag) => match K.get h.t id with
        | some (.cells m2 t2) => match Nat.beq (Nat.div tag 2) 6, Nat.ble (Nat.add off (Nat.mul len 6)) m2, Nat.ble 1 len, Nat.ble len 900000, Nat.ble (Nat.succ id) h.next, allT AV.isCell t2 with
          | true, true, true, true, true, true => colF t2 6 len (Nat.add off 1) 0 .e fun tr => K.fN (Nat.add h.next (Nat.mul 4 len)) fun nx => K.fN (Nat.sub nx 1) fun id => K.put h.t id (some (.cells len tr)) fun t => some (.slice id 0 len 2, ⟨nx, t⟩)
          | _, _, _, _, _, _ => none
        | _ => none
      | _, _ => none
    | _ => none
  | _ => none
theorem sokSeen {P : Program} {G : Gd} (hc : COk ctx P) (hX : ExtOk ctx P) (hS : SumOk ctx P G) (hle : K.KLe (K.run tb ty 5) (runA ctx 5)) (hx : ctx.ext.get 25 = none) (m : Nat) (g : K.KRun → List AV → H → K.KR) : SOk ctx P G ⟨25, m, g, seenS⟩ := by
  intro args h v h' hq
  replace hq : seenS args h = some (v, h') := hq
  unfold seenS at hq
  split at hq
  · rename_i d o
    split at hq
    · rename_i m0 td hd
      split at hq
      · rename_i id off len tag b1 hs
        split at hq
        · rename_i m2 t2 hid
          split at hq
          · rename_i p1 p2 p3 p4 p5 p6
            rw [K.get_eq] at hd hs hid
            have p1 : tag / 2 = 6 := Nat.eq_of_beq_eq_true p1
            have p2 : off + len * 6 ≤ m2 := Nat.le_of_ble_eq_true p2
            have p3 : 1 ≤ len := Nat.le_of_ble_eq_true p3
            have p4 : len ≤ 900000 := Nat.le_of_ble_eq_true p4
            have p5 : id < h.next := Nat.le_of_ble_eq_true p5
            have b1 : o + 1 ≤ m0 := Nat.le_of_ble_eq_true b1
            obtain ⟨tr, hk, htr⟩ := colF_some _ _ _ _ _ _ hq
            rw [K.fN_eq, K.fN_eq, K.put_set] at hk
            simp only [Option.some.injEq, Prod.mk.injEq] at hk
            obtain ⟨rfl, rfl⟩ := hk
            refine ⟨by show h.next ≤ h.next + 4 * len; omega, fun ρ w vs k1 k2 k3 k4 => ?_⟩
            have hpre := k2.present (show h.ph id = some (.cells m2 t2) from hid)
            have hrow : ∀ j, ∃ L, j < len → getCells t2 (off + j * 6) 6 = some L ∧ L.length = 6 ∧ ∀ x, x < 6 → t2.get (off + j * 6 + x) = L[x]? := fun j => by
              by_cases hj : j < len
              · obtain ⟨L, l1, l2, l3⟩ := getCells_all 6 (off + j * 6) (fun x x1 x2 => hpre x (by omega))
                exact ⟨L, fun _ => ⟨l1, l2, l3⟩⟩
              · exact ⟨[], fun h => absurd h hj⟩
            let C : Nat → List AV := fun j => (hrow j).choose
            have hCs : ∀ j, j < len → getCells t2 (off + j * 6) 6 = some (C j) ∧ (C j).length = 6 ∧ ∀ x, x < 6 → t2.get (off + j * 6 + x) = (C j)[x]? := fun j hj => (hrow j).choose_spec hj
            obtain ⟨out, hf, r1, S⟩ := run25 2 h C d o id off len tag (by
                rw [loads_obj, show h.obj d = some (.cells m0 td) from hd]
                simp only [Nat.ble_eq_true_of_le b1, getCells, hs]) p4 p1 p5 (fun j hj => by
                obtain ⟨l1, l2, l3⟩ := hCs j hj
                refine ⟨?_, l2, allB_iff.2 fun v hv => ?_⟩
                · rw [loads_obj, show h.obj id = some (.cells m2 t2) from hid]
                  simp only [Nat.ble_eq_true_of_le (show off + j * 6 + 6 ≤ m2 by omega)]
                  exact l1
                · obtain ⟨x, x1, rfl⟩ := List.getElem_of_mem hv
                  exact allT_get p6 ((l3 x (by omega)).trans (List.getElem?_eq_getElem x1)))
            obtain ⟨t, s1, s2, s3⟩ := S.out (by omega)
            subst s1
            refine (known_sim hc hX hS (hle _ _ _ _ _ r1) (h' := ⟨h.next + 4 * len, h.t.set (h.next + 4 * len - 1) (.cells len tr)⟩) S.next (fun x o' hx' => ?_)).2 ρ w vs k1 k2 k3 k4
            have hx' : (h.t.set (h.next + 4 * len - 1) (.cells len tr)).get x = some o' := hx'
            rw [T.get_set] at hx'
            by_cases hxe : x = h.next + 4 * len - 1
            · subst hxe
              rw [if_pos rfl] at hx'
              cases hx'
              refine ⟨_, s2, .inr ⟨len, tr, t, rfl, rfl, fun k hk => ?_⟩⟩
              rw [htr k, if_pos (by omega), s3 k hk]
              obtain ⟨_, _, l3⟩ := hCs k hk
              have := l3 1 (by omega)
              rw [← this]
              congr 1
              show off + 1 + 6 * (k - 0) = _
              omega
            · rw [if_neg hxe] at hx'
              refine ⟨o', ?_, .inl rfl⟩
              have hne : x < h.next ∨ h.next + 4 * len ≤ x := by
                rcases Nat.lt_or_ge x h.next with q | q
                · exact .inl q
                · rcases Nat.lt_or_ge x (h.next + 4 * len) with q' | q'
                  · obtain ⟨l, _, q1, _⟩ := k2.obj x o' hx'
                    have := k4 x q q'
                    rw [this] at q1; cases q1
                  · exact .inr q'
              show hf.obj x = some o'
              rw [S.pres x hne]; exact hx'
          · cases hq
        · cases hq
      · cases hq
    · cases hq
  · cases hq
end YtjhcfoinldcaoaaGreatDoorWdM
