/-
  The value of a decimal numeral.
-/
import Derived.Lib.ItoaNum
import Derived.Test.YtafglggjncnkkaaDoorMath1
namespace Go.Proofs.YtafglggjncnkkaaDoor

/-- The value of a list of digits. -/
def pv (l : List UInt8) : Nat := l.foldl (fun s c => s * 10 + (c.toNat - 48)) 0
def isDg (c : UInt8) : Bool := decide (48 ≤ c.toNat) && decide (c.toNat ≤ 57)
theorem pv_nil : pv [] = 0 := rfl
theorem pv_snoc (l : List UInt8) (c : UInt8) : pv (l ++ [c]) = pv l * 10 + (c.toNat - 48) := by simp [pv]
theorem pv_append (l m : List UInt8) : pv (l ++ m) = pv l * 10 ^ m.length + pv m := by
  rw [← List.reverse_reverse m]
  generalize m.reverse = r
  induction r with
  | nil => simp [pv]
  | cons c r ih =>
    rw [List.reverse_cons, ← List.append_assoc, pv_snoc, pv_snoc, ih, List.length_append, List.length_singleton, Nat.pow_succ, Nat.add_mul, ← Nat.mul_assoc, Nat.add_assoc]
theorem pv_lt (l : List UInt8) (h : ∀ c ∈ l, c.toNat ≤ 57) : pv l < 10 ^ l.length := by
  rw [← List.reverse_reverse l] at h ⊢
  generalize l.reverse = r at h ⊢
  induction r with
  | nil => simp [pv]
  | cons c r ih =>
    rw [List.reverse_cons] at h ⊢
    have h1 := ih fun d hd => h d (by simp [List.mem_reverse.1 hd])
    have h2 := h c (by simp)
    rw [pv_snoc, List.length_append, List.length_singleton, Nat.pow_succ]
    have h3 : (pv r.reverse + 1) * 10 ≤ 10 ^ r.reverse.length * 10 := Nat.mul_le_mul_right _ h1
    omega
theorem ofNat_dg {k : Nat} (h : k < 10) : (UInt8.ofNat (48 + k)).toNat = 48 + k := by rw [UInt8.toNat_ofNat']; omega
theorem dec_dg (u : Nat) : ∀ c ∈ Lib.decDigits u, 48 ≤ c.toNat ∧ c.toNat ≤ 57 := by
  intro c hc
  rw [Lib.decDigits_eq] at hc
  obtain ⟨t, -, rfl⟩ := List.mem_map.1 hc
  unfold Lib.dg
  rw [ofNat_dg (Nat.mod_lt _ (by decide))]
  have := Nat.mod_lt (u / 10 ^ (Lib.nDigits u - 1 - t)) (show 0 < 10 by decide)
  omega
theorem pv_dec (u : Nat) : pv (Lib.decDigits u) = u := by
  induction u using Nat.strongRecOn with
  | _ u ih =>
    rw [Lib.decDigits]
    by_cases h : u < 10
    · rw [dif_pos h]
      show 0 * 10 + _ = _
      rw [ofNat_dg h]; omega
    · rw [dif_neg h, pv_snoc, ih (u / 10) (by omega), ofNat_dg (Nat.mod_lt _ (by decide))]; omega
theorem dec_head_pos {u : Nat} (h : 0 < u) : (Lib.decDigits u).head? ≠ some 48 := by
  induction u using Nat.strongRecOn with
  | _ u ih =>
    rw [Lib.decDigits]
    by_cases h10 : u < 10
    · rw [dif_pos h10]
      simp only [List.head?_cons, ne_eq, Option.some.injEq]
      intro e
      have := congrArg UInt8.toNat e
      rw [ofNat_dg h10] at this
      have e48 : (48 : UInt8).toNat = 48 := rfl
      omega
    · rw [dif_neg h10, List.head?_append]
      have := ih (u / 10) (by omega) (by omega)
      cases hd : (Lib.decDigits (u / 10)).head? with
      | none => have h0 : Lib.decDigits (u / 10) = [] := by simpa using hd
                have := Lib.nDigits_pos (u / 10); rw [← Lib.decDigits_length, h0] at this; simp at this
      | some c => rw [hd] at this; simpa using this
theorem u8_of {c : UInt8} (h1 : 48 ≤ c.toNat) (h2 : c.toNat ≤ 57) : UInt8.ofNat (48 + (c.toNat - 48)) = c := by
  apply UInt8.toNat.inj
  rw [ofNat_dg (by omega)]; omega
/-- A text without a leading zero is the numeral of its value. -/
theorem dec_pv (l : List UInt8) (hd : ∀ c ∈ l, 48 ≤ c.toNat ∧ c.toNat ≤ 57) (h0 : l.head? ≠ some 48) (hl : l ≠ []) : Lib.decDigits (pv l) = l ∧ 0 < pv l := by
  rw [← List.reverse_reverse l] at hd h0 hl ⊢
  generalize l.reverse = r at hd h0 hl ⊢
  induction r with
  | nil => simp at hl
  | cons c r ih =>
    rw [List.reverse_cons] at hd h0 ⊢
    have hc := hd c (by simp)
    rw [pv_snoc]
    by_cases hr : r.reverse = []
    · rw [hr] at h0 ⊢
      have hne : c ≠ 48 := by simpa using h0
      have hp : c.toNat ≠ 48 := fun e => hne (UInt8.toNat.inj e)
      have e0 : pv [] * 10 + (c.toNat - 48) = c.toNat - 48 := by simp [pv]
      rw [e0, Lib.decDigits_one (by omega), u8_of hc.1 hc.2]
      exact ⟨rfl, by omega⟩
    · obtain ⟨h1, h2⟩ := ih (fun d hd' => hd d (by simp [List.mem_reverse.1 hd'])) (by
        rw [List.head?_append] at h0
        cases hh : r.reverse.head? with
        | none => simp at hh hr; exact absurd hh hr
        | some d => rw [hh] at h0; simpa using h0) hr
      refine ⟨?_, by omega⟩
      rw [Lib.decDigits, dif_neg (by omega), show (pv r.reverse * 10 + (c.toNat - 48)) / 10 = pv r.reverse by omega, show (pv r.reverse * 10 + (c.toNat - 48)) % 10 = c.toNat - 48 by omega, h1, u8_of hc.1 hc.2]
end Go.Proofs.YtafglggjncnkkaaDoor
