/-
  Powers of fractions with ints as exponents.
-/
import Derived.Test.YtifikcemcflgjaaGreatK8
import Derived.Test.YtifikcemcflgjaaGreatK9
namespace Go.Proofs.YtifikcemcflgjaaGreat
open Go.RowKit

theorem inv_powN {a : Rat} (h : a ≠ 0) (n : Nat) : a⁻¹ ^ n = (a ^ n)⁻¹ := by
  induction n with
  | zero => rw [Rat.pow_zero, Rat.pow_zero]; grind
  | succ n ih => rw [Rat.pow_succ, Rat.pow_succ, ih]; grind
theorem fl_powN {a : Rat} {k : Nat} (h : fl a ≤ k) (n : Nat) : fl (a ^ n) ≤ n * k + 1 := by
  induction n with
  | zero => rw [Rat.pow_zero, fl_le]; exact ⟨Nat.le_trans (show ln b16 (1 : Int).natAbs ≤ 1 by decide) (by omega), Nat.le_trans (show ln b16 1 ≤ 1 by decide) (by omega)⟩
  | succ n ih =>
    rw [Rat.pow_succ]
    refine Nat.le_trans (fl_times ih h) ?_
    rw [Nat.succ_mul]; omega
theorem fl_inv {a : Rat} {k : Nat} (h : fl a ≤ k) (h0 : a.num ≠ 0) : fl a⁻¹ ≤ k := by
  obtain ⟨h1, h2⟩ := fl_le.1 h
  rw [fl_le, Rat.num_inv, Rat.den_inv, if_neg h0]
  refine ⟨?_, h1⟩
  rw [Int.natAbs_mul, Int.natAbs_sign_of_ne_zero h0, Nat.one_mul, Int.natAbs_natCast]
  exact h2
theorem num_ne {a : Rat} : a.num ≠ 0 ↔ a ≠ 0 := by
  constructor
  · intro h e; exact h (by rw [e]; rfl)
  · intro h e; exact h (Rat.num_eq_zero.1 e)
theorem zpow_of_neg {a : Rat} (h0 : a.num ≠ 0) (n : Nat) : a ^ (-(n : Int)) = a⁻¹ ^ n := by
  rw [Rat.zpow_neg, Rat.zpow_natCast, inv_powN (num_ne.1 h0)]
theorem fl_zpow {a : Rat} {k : Nat} (h : fl a ≤ k) (z : Int) (h0 : z < 0 → a.num ≠ 0) : fl (a ^ z) ≤ z.natAbs * k + 1 := by
  rcases Int.lt_or_le z 0 with hz | hz
  · obtain ⟨n, rfl⟩ : ∃ n : Nat, z = -(n : Int) := ⟨z.natAbs, by omega⟩
    rw [zpow_of_neg (h0 hz), Int.natAbs_neg, Int.natAbs_natCast]
    exact fl_powN (fl_inv h (h0 hz)) n
  · obtain ⟨n, rfl⟩ : ∃ n : Nat, z = (n : Int) := ⟨z.natAbs, by omega⟩
    rw [Rat.zpow_natCast, Int.natAbs_natCast]
    exact fl_powN h n
/-- Pow, where the power is not too long. -/
theorem fpow_z {a : Rat} {sa ta : Bool} {Aa Ba : Option Addr} {na ca ma da : Nat} {w : World} (ha : FV w a sa Aa na ta Ba ma) (la : fl a ≤ 256) (z : Int) (h1 : -9223372036854775808 ≤ z) (h2 : z ≤ 9223372036854775807) (h0 : z < 0 → a.num ≠ 0) (lr : fl (a ^ z) ≤ 256) :
    Calls Tryz.prog 20 #[.agg #[.bool sa, .slice Aa na ca, .bool ta, .slice Ba ma da], .int .i64 z] w (FOK (a ^ z) w) := by
  rcases Int.lt_or_le z 0 with hz | hz
  · obtain ⟨n, rfl⟩ : ∃ n : Nat, z = -(n : Int) := ⟨z.natAbs, by omega⟩
    have hn0 := h0 hz
    rw [zpow_of_neg hn0] at lr ⊢
    exact fpow_neg ha la hn0 (fl_inv la hn0) n (by omega) (by omega) lr
  · obtain ⟨n, rfl⟩ : ∃ n : Nat, z = (n : Int) := ⟨z.natAbs, by omega⟩
    rw [Rat.zpow_natCast] at lr ⊢
    exact fpow_pos ha la n (by omega) lr
theorem zpow_mul (a b : Rat) (z : Int) : (a * b) ^ z = a ^ z * b ^ z := by
  have key : ∀ n : Nat, (a * b) ^ n = a ^ n * b ^ n := by
    intro n
    induction n with
    | zero => rw [Rat.pow_zero, Rat.pow_zero, Rat.pow_zero]; grind
    | succ n ih => rw [Rat.pow_succ, Rat.pow_succ, Rat.pow_succ, ih]; grind
  rcases Int.lt_or_le z 0 with hz | hz
  · obtain ⟨n, rfl⟩ : ∃ n : Nat, z = -(n : Int) := ⟨z.natAbs, by omega⟩
    rw [Rat.zpow_neg, Rat.zpow_neg, Rat.zpow_neg, Rat.zpow_natCast, Rat.zpow_natCast, Rat.zpow_natCast, key, Rat.inv_mul_rev, Rat.mul_comm]
  · obtain ⟨n, rfl⟩ : ∃ n : Nat, z = (n : Int) := ⟨z.natAbs, by omega⟩
    rw [Rat.zpow_natCast, Rat.zpow_natCast, Rat.zpow_natCast, key]
theorem zpow_opp {a : Rat} (ha : a ≠ 0) (z : Int) : a ^ z * a ^ (-z) = 1 := by
  rw [← Rat.zpow_add ha, Int.add_right_neg, Rat.zpow_zero]
end Go.Proofs.YtifikcemcflgjaaGreat
