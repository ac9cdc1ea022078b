/-
  The decimal numeral, put together from parts of nine digits.
-/
import Derived.Test.YtafglggjncnkkaaDoorDown
import Derived.Lib.ItoaNum
namespace Go.Proofs.YtafglggjncnkkaaDoor
open Go.RowKit

/-- The last k decimal digits of p, leading zeros too. -/
def padk (k p : Nat) : List UInt8 := (List.range k).map fun t => Lib.dg p (k - 1 - t)
theorem padk_succ (k p : Nat) : padk (k + 1) p = padk k (p / 10) ++ [UInt8.ofNat (48 + p % 10)] := by
  unfold padk
  rw [List.range_succ, List.map_append]
  congr 1
  · refine List.map_congr_left fun t ht => ?_
    have ht' := List.mem_range.1 ht
    rw [show k + 1 - 1 - t = (k - 1 - t) + 1 by omega, Lib.dg_succ]
  · simp [Lib.dg]
theorem dec_pad {y : Nat} (hy : 0 < y) : ∀ k p, p < 10 ^ k → Lib.decDigits (y * 10 ^ k + p) = Lib.decDigits y ++ padk k p
  | 0, p, h => by
    have : p = 0 := by simpa using h
    subst this
    simp [padk]
  | k + 1, p, h => by
    have hk : 1 ≤ 10 ^ k := Nat.one_le_pow _ _ (by decide)
    have hyk : 1 * 1 ≤ y * 10 ^ k := Nat.mul_le_mul hy hk
    have e : y * 10 ^ (k + 1) = y * 10 ^ k * 10 := by rw [Nat.pow_succ, ← Nat.mul_assoc]
    rw [Nat.pow_succ] at h
    rw [Lib.decDigits, dif_neg (by omega), e, show (y * 10 ^ k * 10 + p) / 10 = y * 10 ^ k + p / 10 by omega, dec_pad hy k (p / 10) (by omega), padk_succ, List.append_assoc,
      show (y * 10 ^ k * 10 + p) % 10 = p % 10 by omega]
theorem dg_high {p j : Nat} (h : p < 10 ^ j) : Lib.dg p j = 48 := by unfold Lib.dg; rw [Nat.div_eq_of_lt h]; rfl
theorem lt_pow_of_nDigits {p j : Nat} (h : Lib.nDigits p ≤ j) : p < 10 ^ j := Nat.lt_of_lt_of_le (Lib.lt_pow_nDigits p) (Nat.pow_le_pow_right (by decide) h)
theorem nDigits_le {p k : Nat} (hk : 0 < k) (h : p < 10 ^ k) : Lib.nDigits p ≤ k := by
  induction k generalizing p with
  | zero => omega
  | succ k ih =>
    by_cases h10 : p < 10
    · rw [Lib.nDigits_small h10]; omega
    · rw [Lib.nDigits_big h10]
      rw [Nat.pow_succ] at h
      have hk0 : 0 < k := by
        rcases Nat.eq_zero_or_pos k with rfl | h0
        · simp at h; omega
        · exact h0
      have := ih (p := p / 10) hk0 (by omega)
      omega
theorem padk_eq {k p : Nat} (h : Lib.nDigits p ≤ k) : padk k p = List.replicate (k - Lib.nDigits p) 48 ++ Lib.decDigits p := by
  rw [Lib.decDigits_eq]
  refine List.ext_getElem (by simp [padk]; omega) fun i h1 h2 => ?_
  have hi : i < k := by simpa [padk] using h1
  rw [List.getElem_append]
  split
  · rename_i hs
    have hs' : i < k - Lib.nDigits p := by simpa using hs
    simp only [padk, List.getElem_map, List.getElem_range, List.getElem_replicate]
    exact dg_high (lt_pow_of_nDigits (by omega))
  · rename_i hs
    have hs' : k - Lib.nDigits p ≤ i := by simpa using hs
    simp only [padk, List.getElem_map, List.getElem_range, List.length_replicate]
    congr 1
    omega
/-- One more part of nine digits. -/
def addPart (t : List UInt8) (p : Nat) : List UInt8 := if t.length = 0 then Lib.decDigits p else t ++ (List.replicate (9 - Lib.nDigits p) 48 ++ Lib.decDigits p)
/-- The parts, the first one ahead. -/
def txt {b : Nat} (l : List (Bd b)) : List UInt8 := l.foldl (fun t x => addPart t x.1) []
theorem txt_snoc {b : Nat} (l : List (Bd b)) (x : Bd b) : txt (l ++ [x]) = addPart (txt l) x.1 := by simp [txt]
theorem dec_len_pos (u : Nat) : 0 < (Lib.decDigits u).length := by rw [Lib.decDigits_length]; exact Lib.nDigits_pos u
theorem txt_dn (b : Nat) (f : Nat → Nat) (hf : ∀ i, f i < b) (n : Nat) (h9 : ∀ i, i < n → f i < 1000000000) (ht : f (n - 1) ≠ 0) (k : Nat) (hk : k + 1 ≤ n) :
    txt (dn b f hf n (k + 1)) = Lib.decDigits (dval 1000000000 (dn b f hf n (k + 1))) ∧ 0 < dval 1000000000 (dn b f hf n (k + 1)) := by
  induction k with
  | zero => simp [dn, txt, dval, addPart]; omega
  | succ k ih =>
    obtain ⟨h1, h2⟩ := ih (by omega)
    rw [dn_succ, txt_snoc, dval_snoc, h1]
    have hp := h9 (n - 1 - (k + 1)) (by omega)
    have hpow : (1000000000 : Nat) = 10 ^ 9 := rfl
    have hn : Lib.nDigits (f (n - 1 - (k + 1))) ≤ 9 := nDigits_le (by decide) (by rw [← hpow]; exact hp)
    refine ⟨?_, by omega⟩
    unfold addPart
    rw [if_neg (by have := dec_len_pos (dval 1000000000 (dn b f hf n (k + 1))); omega), ← padk_eq hn, hpow, dec_pad (by rw [hpow] at h2; exact h2) 9 _ (by rw [← hpow]; exact hp)]
end Go.Proofs.YtafglggjncnkkaaDoor
