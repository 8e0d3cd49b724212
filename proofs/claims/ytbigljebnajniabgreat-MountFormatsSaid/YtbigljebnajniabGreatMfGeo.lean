import Derived.Test.YtbigljebnajniabGreatMfOk
import Derived.Test.YtbigljebnajniabGreatA5
namespace YtbigljebnajniabGreatMfM
open Go Am
set_option maxRecDepth 100000
def gv (W B : Nat) : AV := .agg [.int .i64 (.ofNat W), .int .i64 (.ofNat 11), .int .i64 (.ofNat B)]
def lB : List Nat := [22,23,24,25,26,27,28,29,30,31,32,33,34,35,36,37,38,39,40,41,42,43,44,45,46,47,48,49,50,51,52,53,54,55,56,57,58,59,60]
noncomputable def forL (p : Nat → Bool) (l : List Nat) : Bool := List.rec (motive := fun _ => Bool) true (fun a _ ih => Bool.and (p a) ih) l
theorem forL_mem {p : Nat → Bool} : ∀ {l : List Nat}, forL p l = true → ∀ a ∈ l, p a = true
  | [], _, a, h => nomatch h
  | b :: l, h, a, ha => by
    have h : (p b && forL p l) = true := h
    rw [Bool.and_eq_true] at h
    rcases List.mem_cons.1 ha with rfl | ha
    · exact h.1
    · exact forL_mem h.2 a ha
noncomputable def allG (p : Nat → Nat → Bool) : Bool := forL (fun W => forL (p W) lB) [1, 2, 3, 4]
def isNV (v : AV) (n : Nat) : Bool := match v with | .int .i64 (.ofNat m) => Nat.beq m n | _ => false
def isBV (v : AV) : Bool := match v with | .bool b => b | _ => false
theorem isNV_ok {v : AV} {n : Nat} (h : isNV v n = true) : v = .int .i64 (.ofNat n) := by
  unfold isNV at h
  split at h
  · rw [Nat.eq_of_beq_eq_true h]
  · cases h
theorem isBV_ok {v : AV} (h : isBV v = true) : v = .bool true := by
  unfold isBV at h
  split at h
  · rw [h]
  · cases h
noncomputable def isN (r : K.KR) (n : Nat) : Bool := K.KR.rec (motive := fun _ => Bool) (fun v _ => isNV v n) false r
theorem g16 : allG (fun W B => isN (K.run tb ty 60 (.fn 16) [gv W B] ⟨0, .e⟩) (456 + 208 * W + 8 * B)) = true := by kernel_rfl
noncomputable def isB (r : K.KR) : Bool := K.KR.rec (motive := fun _ => Bool) (fun v _ => isBV v) false r
def o1 : AV := .int .i64 (.ofNat 1)
theorem g29 : allG (fun W B => isB (K.run tb ty 60 (.fn 29) [gv W B] ⟨0, .e⟩)) = true := by kernel_rfl
theorem g35 : allG (fun W B => isN (K.run tb ty 60 (.fn 35) [gv W B] ⟨0, .e⟩) (264 + 208 * W)) = true := by kernel_rfl
theorem g36 : allG (fun W B => isN (K.run tb ty 60 (.fn 36) [gv W B] ⟨0, .e⟩) (272 + 208 * W)) = true := by kernel_rfl
theorem g37 : allG (fun W B => isN (K.run tb ty 60 (.fn 37) [gv W B, o1] ⟨0, .e⟩) (296 + 208 * W)) = true := by kernel_rfl
theorem g57 : allG (fun W B => isB (K.run tb ty 60 (.fn 57) [gv W B] ⟨0, .e⟩)) = true := by kernel_rfl
theorem g58 : allG (fun W B => isN (K.run tb ty 60 (.fn 58) [gv W B] ⟨0, .e⟩) (456 + 208 * W + 8 * B)) = true := by kernel_rfl
theorem g59 : allG (fun W B => isN (K.run tb ty 60 (.fn 59) [gv W B] ⟨0, .e⟩) (264 + 208 * W)) = true := by kernel_rfl
theorem g60 : allG (fun W B => isN (K.run tb ty 60 (.fn 60) [gv W B] ⟨0, .e⟩) (272 + 208 * W)) = true := by kernel_rfl
theorem g61 : allG (fun W B => isN (K.run tb ty 60 (.fn 61) [gv W B, o1] ⟨0, .e⟩) (296 + 208 * W)) = true := by kernel_rfl
theorem allG_at {p : Nat → Nat → Bool} (h : allG p = true) {W B : Nat} (h1 : 1 ≤ W) (h2 : W ≤ 4) (h3 : 22 ≤ B) (h4 : B ≤ 60) : p W B = true := by
  refine forL_mem (forL_mem h W ?_) B ?_
  · simp only [List.mem_cons, List.not_mem_nil, or_false]; omega
  · unfold lB
    simp only [List.mem_cons, List.not_mem_nil, or_false]
    omega
theorem isN_ok {r : K.KR} {n : Nat} (h : isN r n = true) : ∃ h', r = .ok (.int .i64 (.ofNat n)) h' := by
  cases r with
  | bad => cases h
  | ok v h' => exact ⟨h', by rw [isNV_ok h]⟩
theorem isB_ok {r : K.KR} (h : isB r = true) : ∃ h', r = .ok (.bool true) h' := by
  cases r with
  | bad => cases h
  | ok v h' => exact ⟨h', by rw [isBV_ok h]⟩
end YtbigljebnajniabGreatMfM
