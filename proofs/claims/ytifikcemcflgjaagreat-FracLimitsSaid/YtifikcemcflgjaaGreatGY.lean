/-
  Powers at the limits.
-/
import Derived.Test.YtifikcemcflgjaaGreatGX
import Derived.Test.YtifikcemcflgjaaGreatGE
namespace Go.Proofs.YtifikcemcflgjaaGreat
open Go.RowKit

/-- Pow, the exponent kept apart from its value. -/
theorem fpow_zz {a : Rat} {sa ta : Bool} {Aa Ba : Option Addr} {na ca ma da : Nat} {w : World} (ha : FV w a sa Aa na ta Ba ma) (la : fl a ≤ 256) (z K : Int) (hK : K = z) (h1 : -9223372036854775808 ≤ K) (h2 : K ≤ 9223372036854775807) (h0 : K < 0 → a.num ≠ 0) (X : Rat) (hX : X = a ^ K) (lr : fl X ≤ 256) :
    Calls Tryz.prog 20 #[.agg #[.bool sa, .slice Aa na ca, .bool ta, .slice Ba ma da], .int .i64 z] w (FOK X w) := by
  subst hK
  subst hX
  exact fpow_z ha la K h1 h2 h0 lr
/-- Pow, where the power is too long. -/
theorem fpow_lz {a : Rat} {sa ta : Bool} {Aa Ba : Option Addr} {na ca ma da : Nat} {w : World} (ha : FV w a sa Aa na ta Ba ma) (la : fl a ≤ 256) (z K : Int) (hK : K = z) (h1 : -9223372036854775808 ≤ K) (h2 : K ≤ 9223372036854775807) (h0 : K < 0 → a.num ≠ 0) (hl : 256 < fl (a ^ K)) :
    Calls Tryz.prog 20 #[.agg #[.bool sa, .slice Aa na ca, .bool ta, .slice Ba ma da], .int .i64 z] w (FErr 3 w) := by
  subst hK
  rcases Int.lt_or_le K 0 with hz | hz
  · obtain ⟨n, rfl⟩ : ∃ n : Nat, K = -(n : Int) := ⟨K.natAbs, by omega⟩
    have hn0 := h0 hz
    rw [zpow_of_neg hn0] at hl
    exact fpow_lneg ha la hn0 (fl_inv la hn0) n (by omega) (by omega) hl
  · obtain ⟨n, rfl⟩ : ∃ n : Nat, K = (n : Int) := ⟨K.natAbs, by omega⟩
    rw [Rat.zpow_natCast] at hl
    exact fpow_lpos ha la n (by omega) hl
theorem b16_pow (k : Nat) : b16 ^ k = 2 ^ (16 * k) := by rw [Nat.pow_mul]; rfl
theorem ln_p2 {n k : Nat} : ln b16 (2 ^ n) ≤ k ↔ n < 16 * k := by
  rw [ln_le b16_two, b16_pow]
  exact Nat.pow_lt_pow_iff_right (by decide)
theorem fl_p2 {n k : Nat} : fl ((2 : Rat) ^ n) ≤ k ↔ (n < 16 * k ∧ 1 ≤ k) := by
  rw [fl_le, Rat.num_pow, Rat.den_pow, Int.natAbs_pow]
  show ln b16 (2 ^ n) ≤ k ∧ ln b16 (1 ^ n) ≤ k ↔ _
  rw [ln_p2, Nat.one_pow, show ln b16 1 = 1 by decide]
theorem half_fl {q : Rat} {n : Nat} (h : q.den = 2) (hn : 4096 ≤ n) : 256 < fl (q ^ n) := by
  have h1 : ¬ ln b16 (2 ^ n) ≤ 256 := by rw [ln_p2]; omega
  have h2 : ln b16 (q ^ n).den ≤ fl (q ^ n) := (fl_le.1 (Nat.le_refl _)).2
  rw [Rat.den_pow, h] at h2
  omega
theorem one_zpow (z : Int) : (1 : Rat) ^ z = 1 := by
  have key : ∀ n : Nat, (1 : Rat) ^ n = 1 := fun n => by
    induction n with
    | zero => exact Rat.pow_zero _
    | succ n ih => rw [Rat.pow_succ, ih]; exact Rat.mul_one _
  rcases Int.lt_or_le z 0 with hz | hz
  · obtain ⟨n, rfl⟩ : ∃ n : Nat, z = -(n : Int) := ⟨z.natAbs, by omega⟩
    rw [Rat.zpow_neg, Rat.zpow_natCast, key]; grind
  · obtain ⟨n, rfl⟩ : ∃ n : Nat, z = (n : Int) := ⟨z.natAbs, by omega⟩
    rw [Rat.zpow_natCast, key]
theorem neg1_even {z j : Int} (h : z = 2 * j) : (-1 : Rat) ^ z = 1 := by
  have e : (-1 : Rat) ≠ 0 := by decide
  rw [h, show 2 * j = j + j by omega, Rat.zpow_add e, ← zpow_mul, show (-1 : Rat) * -1 = 1 by decide +kernel, one_zpow]
theorem neg1_odd {z j : Int} (h : z = 2 * j + 1) : (-1 : Rat) ^ z = -1 := by
  have e : (-1 : Rat) ≠ 0 := by decide
  rw [h, Rat.zpow_add e, neg1_even rfl, Rat.zpow_one]; grind
theorem zero_zpow {z : Int} (h : 0 < z) : (0 : Rat) ^ z = 0 := by
  obtain ⟨n, rfl⟩ : ∃ n : Nat, z = ((n + 1 : Nat) : Int) := ⟨(z - 1).toNat, by omega⟩
  rw [Rat.zpow_natCast, Rat.pow_succ, Rat.mul_zero]
theorem fl_two_z {z : Int} {k : Nat} (hz : z.natAbs < 16 * k) (hk : 1 ≤ k) : fl ((2 : Rat) ^ z) ≤ k := by
  rcases Int.lt_or_le z 0 with h | h
  · obtain ⟨n, rfl⟩ : ∃ n : Nat, z = -(n : Int) := ⟨z.natAbs, by omega⟩
    rw [Rat.zpow_neg, Rat.zpow_natCast]
    refine fl_inv (fl_p2.2 ⟨by omega, hk⟩) ?_
    rw [Rat.num_pow]
    exact Int.pow_ne_zero (show ((2 : Rat).num) ≠ 0 by decide)
  · obtain ⟨n, rfl⟩ : ∃ n : Nat, z = (n : Int) := ⟨z.natAbs, by omega⟩
    rw [Rat.zpow_natCast]
    exact fl_p2.2 ⟨by omega, hk⟩
theorem long_two {z : Int} (hz : 4096 ≤ z) : 256 < fl ((2 : Rat) ^ z) := by
  obtain ⟨n, rfl⟩ : ∃ n : Nat, z = (n : Int) := ⟨z.natAbs, by omega⟩
  rw [Rat.zpow_natCast]
  have h : ¬ fl ((2 : Rat) ^ n) ≤ 256 := fun h => by have := (fl_p2.1 h).1; omega
  omega
theorem long_half {q : Rat} {z : Int} (h : q.den = 2) (hz : 4096 ≤ z) : 256 < fl (q ^ z) := by
  obtain ⟨n, rfl⟩ : ∃ n : Nat, z = (n : Int) := ⟨z.natAbs, by omega⟩
  rw [Rat.zpow_natCast]
  exact half_fl h (by omega)
theorem long_neg {q : Rat} {z : Int} (h0 : q.num ≠ 0) (h : (q⁻¹).den = 2) (hz : z ≤ -4096) : 256 < fl (q ^ z) := by
  obtain ⟨n, rfl⟩ : ∃ n : Nat, z = -(n : Int) := ⟨z.natAbs, by omega⟩
  rw [zpow_of_neg h0]
  exact half_fl h (by omega)
end Go.Proofs.YtifikcemcflgjaaGreat
