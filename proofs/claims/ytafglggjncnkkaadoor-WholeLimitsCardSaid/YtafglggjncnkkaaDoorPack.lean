/-
  The walk of whole.pack.
-/
import Derived.Test.YtafglggjncnkkaaDoorNum
import Derived.Test.YtafglggjncnkkaaDoorBits
namespace Go.Proofs.YtafglggjncnkkaaDoor
open Go.RowKit

/-- The words after the first j limbs. -/
def pk (f : Nat → Nat) (j q : Nat) : Nat := (if 2 * q < j then f (2 * q) else 0) + 65536 * (if 2 * q + 1 < j then f (2 * q + 1) else 0)

theorem pk_even {f : Nat → Nat} {j : Nat} (hf : ∀ i, f i < 65536) (hp : j % 2 = 0) : bits .or .u32 ((pk f j (j / 2) : Nat) : Int) (((f j : Nat) : Int) % 4294967296) = ((pk f (j + 1) (j / 2) : Nat) : Int) := by
  have h1 := hf j
  have h2 := hf (j + 1)
  have e1 : pk f j (j / 2) = 0 := by unfold pk; rw [if_neg (by omega), if_neg (by omega)]
  have e2 : pk f (j + 1) (j / 2) = f j := by unfold pk; rw [if_pos (by omega), if_neg (by omega), show 2 * (j / 2) = j by omega]; omega
  rw [e1, e2, show ((f j : Nat) : Int) % 4294967296 = ((f j : Nat) : Int) by omega]
  exact u32_or_zero (by omega)
theorem pk_odd {f : Nat → Nat} {j : Nat} (hf : ∀ i, f i < 65536) (hp : j % 2 = 1) : bits .or .u32 ((pk f j (j / 2) : Nat) : Int) (((f j : Nat) : Int) * 65536 % 4294967296) = ((pk f (j + 1) (j / 2) : Nat) : Int) := by
  have h1 := hf j
  have h2 := hf (2 * (j / 2))
  have e1 : pk f j (j / 2) = f (2 * (j / 2)) := by unfold pk; rw [if_pos (by omega), if_neg (by omega)]; omega
  have e2 : pk f (j + 1) (j / 2) = f (2 * (j / 2)) + 65536 * f j := by
    unfold pk; rw [if_pos (by omega), if_pos (by omega)]
    have e : 2 * (j / 2) + 1 = j := by omega
    rw [e]
  rw [e1, e2, show ((f j : Nat) : Int) * 65536 % 4294967296 = ((65536 * f j : Nat) : Int) by omega]
  exact u32_or_add h2 h1
theorem pk_other {f : Nat → Nat} {j q : Nat} (h : q ≠ j / 2) : pk f (j + 1) q = pk f j q := by
  unfold pk
  have e1 : (2 * q < j + 1) ↔ (2 * q < j) := by omega
  have e2 : (2 * q + 1 < j + 1) ↔ (2 * q + 1 < j) := by omega
  simp only [e1, e2]

set_option maxHeartbeats 400000 in
theorem pack_walk (A : Option Addr) (n c : Nat) (f : Nat → Nat) (w : World) (h : Rd w.heap.size .u16 w A n f) (hf : ∀ i, f i < 65536) (hn : n ≤ 1000000) :
    Calls Tryd.prog 41 #[.slice A n c] w fun e w' => e = .returned (.slice (some ⟨w.heap.size, 0, none⟩) ((n + 1) / 2) ((n + 1) / 2)) ∧ Row w' w.heap.size 57 .u32 ((n + 1) / 2) ((n + 1) / 2) (pk f n) ∧ Below w.heap.size w w' := by
  have hmk := mk32 ((n + 1) / 2) ((n + 1) / 2) (Nat.le_refl _) (by omega)
  rw [show (((n + 1) / 2 : Nat) : Int) = ((n : Int) + 1) / 2 by omega] at hmk
  go_enter Tryd.func41, Tryd.ntmps41
  go_wp2
  clear hmk
  go_loopw [13] (fun i wr => ∃ j : Nat, j ≤ n ∧ i = .int .i64 j ∧ Row wr w.heap.size 57 .u32 ((n + 1) / 2) ((n + 1) / 2) (pk f j) ∧ Below w.heap.size w wr) (fun i _ => n - (intOf i).toNat)
  case atStart => exact ⟨0, Nat.zero_le _, rfl, Row.made.congr fun j _ => by simp [pk], (Below.refl _ _).alloc (Nat.le_refl _) _⟩
  case round =>
    obtain ⟨j, hj, rfl, hrow, hbel⟩ := hrel
    by_cases hlt : j < n
    · obtain ⟨b, o, rfl, hb, hcell⟩ := h (by omega)
      have hc1 := (hbel.cell (p := ⟨b, o + j, none⟩) hb).trans (hcell j hlt)
      have hc2 := hrow.cell (i := j / 2) (by omega)
      have hc3 := hrow.frozen (j / 2)
      have hfj := hf j
      rcases Nat.mod_two_eq_zero_or_one j with hp | hp
      · go_wp2
        go_region
        go_wp2
        go_roundw
        case rel =>
          rw [pk_even hf hp]
          exact ⟨j + 1, by omega, by go_num, hrow.drew.set rfl fun q _ hq => pk_other hq, hbel.drew.setCell (Nat.le_refl _) _⟩
        case measure => simp [intOf]; omega
      · go_wp2
        go_region
        go_wp2
        go_roundw
        case rel =>
          rw [pk_odd hf hp]
          exact ⟨j + 1, by omega, by go_num, hrow.drew.set rfl fun q _ hq => pk_other hq, hbel.drew.setCell (Nat.le_refl _) _⟩
        case measure => simp [intOf]; omega
    · obtain rfl : j = n := by omega
      go_wp2
      go_ret
      exact ⟨rfl, hrow, hbel⟩
theorem pk_dgt (x q : Nat) (hq : q < (ln b16 x + 1) / 2) : pk (dgt b16 x) (ln b16 x) q = dgt b32 x q := by
  rw [dgt32_two, pk, if_pos (by omega)]
  by_cases h : 2 * q + 1 < ln b16 x
  · rw [if_pos h]
  · rw [if_neg h, dgt_of_lt (j := 2 * q + 1) ((ln_le b16_two).1 (by omega))]
/-- pack of the limbs of x: the words of x. -/
theorem pack_any (A : Option Addr) (c x : Nat) (w : World) (h : Num16 w A x) (hn : ln b16 x ≤ 1000000) :
    Calls Tryd.prog 41 #[.slice A (ln b16 x) c] w (W32 w x) :=
  (pack_walk A _ c _ w h (fun i => dgt16_lt x i) hn).mono fun e w' ⟨he, hr, hb⟩ => by
    refine ⟨some ⟨w.heap.size, 0, none⟩, (ln b16 x + 1) / 2, by rw [he, ln32_two], by rw [ln32_two]; exact Nat.le_refl _, ?_, hb⟩
    have h1 := hr.congr (f' := dgt b32 x) fun j hj => pk_dgt x j hj
    unfold Num32
    rw [ln32_two]
    exact h1.rd (Nat.le_refl _) h1.lt
end Go.Proofs.YtafglggjncnkkaaDoor
