/-
  The walk of whole.shifted.
-/
import Derived.Test.YtafglggjncnkkaaDoorNum
import Derived.Test.YtafglggjncnkkaaDoorBits
import Derived.Test.YtafglggjncnkkaaDoorMath1
namespace Go.Proofs.YtafglggjncnkkaaDoor
open Go.RowKit

/-- The words after k rounds. -/
def sst (x n k j : Nat) : Nat := if j < k then dgt b32 (x * 2 ^ n) j else if j = k then shi x n k else 0
theorem or_low {s y n : Nat} (hn : n < 32) (hs : s < 2 ^ n) : bits .or .u32 (s : Int) ((y * 2 ^ n % b32 : Nat) : Int) = ((s + y * 2 ^ n % b32 : Nat) : Int) := by
  have h1 : 2 ^ n ≤ 2 ^ 31 := Nat.pow_le_pow_right (by decide) (by omega)
  have h2 : y * 2 ^ n % b32 < 4294967296 := Nat.mod_lt _ (by decide)
  rw [u32_or_nat _ _ (by omega) h2, low_mult hn, nat_or_add' hs]

set_option maxHeartbeats 400000 in
theorem shifted_any (A : Option Addr) (c x n : Nat) (w : World) (hx : Num32 w A x) (hn : n < 32) (hl : ln b32 x ≤ 1000000) :
    Calls Tryd.prog 80 #[.slice A (ln b32 x) c, .int .i64 (n : Int)] w fun e w' =>
      e = .returned (.slice (some ⟨w.heap.size, 0, none⟩) (ln b32 x + 1) (ln b32 x + 1)) ∧ Row w' w.heap.size 57 .u32 (ln b32 x + 1) (ln b32 x + 1) (dgt b32 (x * 2 ^ n)) ∧ Below w.heap.size w w' := by
  have hmk := mk32 (ln b32 x + 1) (ln b32 x + 1) (Nat.le_refl _) (by omega)
  rw [show ((ln b32 x + 1 : Nat) : Int) = (ln b32 x : Int) + 1 by omega] at hmk
  have hpow : 2 ^ n ≤ 2147483648 := Nat.pow_le_pow_right (by decide) (show n ≤ 31 by omega)
  go_enter Tryd.func80, Tryd.ntmps80
  go_wp2
  clear hmk
  go_loopw [15] (fun i wr => ∃ k : Nat, k ≤ ln b32 x ∧ i = .int .i64 k ∧ Row wr w.heap.size 57 .u32 (ln b32 x + 1) (ln b32 x + 1) (sst x n k) ∧ Below w.heap.size w wr) (fun i _ => ln b32 x - (intOf i).toNat)
  case atStart => exact ⟨0, Nat.zero_le _, rfl, Row.made.congr fun j _ => by simp [sst, shi_zero], (Below.refl _ _).alloc (Nat.le_refl _) _⟩
  case round =>
    obtain ⟨k, hk, rfl, hrow, hbel⟩ := hrel
    by_cases hlt : k < ln b32 x
    · obtain ⟨b, o, rfl, hb, hca⟩ := hx (by omega)
      have c0 := (hbel.cell (p := ⟨b, o + k, none⟩) hb).trans (hca k hlt)
      have c1 := hrow.cell (i := k) (by omega)
      have c2 := hrow.frozen k
      have c3 := hrow.cell (i := k + 1) (by omega)
      have c4 := hrow.frozen (k + 1)
      rw [show sst x n k k = shi x n k by simp [sst]] at c1
      rw [show sst x n k (k + 1) = 0 by simp only [sst]; rw [if_neg (by omega), if_neg (by omega)]] at c3
      have hxk := dgt32_lt x k
      have hsh := shi_lt x n k
      have hm : dgt b32 x k * 2 ^ n ≤ 4294967295 * 2147483648 := Nat.mul_le_mul (by omega) hpow
      have hmI : ((dgt b32 x k : Nat) : Int) * 2 ^ n < 18446744073709551616 := by
        have : ((dgt b32 x k : Nat) : Int) * 2 ^ n = ((dgt b32 x k * 2 ^ n : Nat) : Int) := by rw [Int.natCast_mul, Int.natCast_pow]; rfl
        omega
      have hw : IntKind.u64.wrap (((dgt b32 x k : Nat) : Int) * 2 ^ n) = ((dgt b32 x k * 2 ^ n : Nat) : Int) := by
        have e : ((dgt b32 x k : Nat) : Int) * 2 ^ n = ((dgt b32 x k * 2 ^ n : Nat) : Int) := by rw [Int.natCast_mul, Int.natCast_pow]; rfl
        rw [e, IntKind.wrap_u64]
        omega
      have e1 : bits .or .u32 ((shi x n k : Nat) : Int) (((dgt b32 x k * 2 ^ n : Nat) : Int) % 4294967296) = ((dgt b32 (x * 2 ^ n) k : Nat) : Int) := by
        rw [shift_digit hn, ← or_low hn hsh]; rfl
      have e2 : ((dgt b32 x k * 2 ^ n : Nat) : Int) / 4294967296 % 4294967296 = ((shi x n (k + 1) : Nat) : Int) := by
        have h1 := shi_lt x n (k + 1)
        have h2 : ((dgt b32 x k * 2 ^ n : Nat) : Int) / 4294967296 = ((shi x n (k + 1) : Nat) : Int) := by rw [shi_succ hn]; rfl
        omega
      have HW := Lib.hid hw
      have E1 := Lib.hid e1
      have E2 := Lib.hid e2
      clear hm hpow hw e1 e2 hmI
      go_wp2_with fail
      go_roundw
      case rel =>
        rw [HW.out, E1.out, E2.out]
        refine ⟨k + 1, by omega, by go_num, ?_, (hbel.setCell (Nat.le_refl _) _).setCell (Nat.le_refl _) _⟩
        exact (hrow.set (f' := fun j => if j = k then dgt b32 (x * 2 ^ n) k else sst x n k j) (by simp) fun j _ hj => by simp [hj]).set (by simp [sst]) fun j _ hj => by
          simp only [sst]
          by_cases e : j = k
          · subst e; simp
          · simp only [e, if_false, hj, show j < k + 1 ↔ j < k by omega]
      case measure => simp [intOf]; omega
    · obtain rfl : k = ln b32 x := by omega
      have htop : dgt b32 (x * 2 ^ n) (ln b32 x) = shi x n (ln b32 x) := by
        rw [shift_digit hn, dgt_of_lt (lt_pow_ln b32_two x)]; simp
      have HT := Lib.hid htop
      clear htop
      go_wp2
      go_ret
      refine ⟨rfl, hrow.congr fun j hj => ?_, hbel⟩
      simp only [sst]
      by_cases e : j < ln b32 x
      · rw [if_pos e]
      · obtain rfl : j = ln b32 x := by omega
        rw [if_neg e, if_pos rfl, HT.out]
end Go.Proofs.YtafglggjncnkkaaDoor
