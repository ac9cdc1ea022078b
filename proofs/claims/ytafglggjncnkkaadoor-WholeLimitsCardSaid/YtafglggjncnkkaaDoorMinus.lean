/-
  The walk of whole.minus.
-/
import Derived.Test.YtafglggjncnkkaaDoorTrim
import Derived.Test.YtafglggjncnkkaaDoorClone
import Derived.Test.YtafglggjncnkkaaDoorBitsW
namespace Go.Proofs.YtafglggjncnkkaaDoor
open Go.RowKit

/-- The borrow before digit k, and digit k, of a difference. -/
def brw (f g : Nat → Nat) : Nat → Nat
  | 0 => 0
  | k + 1 => subB (f k) (g k) (brw f g k)
def dif (f g : Nat → Nat) (k : Nat) : Nat := subD (f k) (g k) (brw f g k)
theorem brw_le (f g : Nat → Nat) (k : Nat) : brw f g k ≤ 1 := by
  cases k with
  | zero => exact Nat.zero_le _
  | succ k => exact subB_le ..
theorem dif_sum {f g : Nat → Nat} (hf : ∀ i, f i < 4294967296) (hg : ∀ i, g i < 4294967296) (n : Nat) : vs b32 f n + b32 ^ n * brw f g n = vs b32 (dif f g) n + vs b32 g n := by
  induction n with
  | zero => simp [vs, brw]
  | succ n ih =>
    have h := sub_eq (hf n) (hg n) (brw_le f g n)
    have h2 : b32 ^ n * (f n + 4294967296 * subB (f n) (g n) (brw f g n)) = b32 ^ n * (subD (f n) (g n) (brw f g n) + g n + brw f g n) := by rw [h]
    rw [vs_succ, vs_succ, vs_succ, brw, dif, Nat.pow_succ, Nat.mul_assoc]
    simp only [Nat.mul_add] at h2
    rw [show b32 * subB (f n) (g n) (brw f g n) = 4294967296 * subB (f n) (g n) (brw f g n) by rfl]
    omega
theorem dif_lt (f g : Nat → Nat) (k : Nat) : dif f g k < 4294967296 := subD_lt ..
theorem dif_total {a b : Nat} (h : b ≤ a) : vs b32 (dif (dgt b32 a) (dgt b32 b)) (ln b32 a) = a - b := by
  have h1 := dif_sum (fun i => dgt32_lt a i) (fun i => dgt32_lt b i) (ln b32 a)
  have h2 := lt_pow_ln b32_two a
  rw [vs_dgt_lt h2, vs_dgt_lt (Nat.lt_of_le_of_lt h h2)] at h1
  have h3 : vs b32 (dif (dgt b32 a) (dgt b32 b)) (ln b32 a) < b32 ^ ln b32 a := vs_lt fun j _ => dif_lt ..
  rcases bit_cases (brw_le (dgt b32 a) (dgt b32 b) (ln b32 a)) with e | e
  · rw [e] at h1; omega
  · rw [e] at h1; omega

/-- What the words are after k rounds. -/
def mst (a b k j : Nat) : Nat := if j < k then dif (dgt b32 a) (dgt b32 b) j else dgt b32 a j

set_option maxHeartbeats 400000 in
theorem minus_any (A B : Option Addr) (c d a b : Nat) (w : World) (ha : Num32 w A a) (hb : Num32 w B b) (hba : b ≤ a) (hn : ln b32 a ≤ 1000000) :
    Calls Tryd.prog 58 #[.slice A (ln b32 a) c, .slice B (ln b32 b) d] w (W32 w (a - b)) := by
  have hlen := ln_mono b32_two hba
  have HN := Lib.hid (@dif_total a b hba)
  go_enter Tryd.func58, Tryd.ntmps58
  go_wp2_with fail
  refine (clone32_any _ _ _ (dgt b32 a) _ ha (by omega)).mono ?_
  rintro e w1 ⟨v, rfl, hown, hbel, -⟩
  obtain ⟨A1, c1, rfl, hnc, hrow⟩ := RowO.of_own hown
  clear hown
  go_wp2_with fail
  go_loopw [6, 13] (fun br i wr => ∃ k : Nat, k ≤ ln b32 a ∧ i = .int .i64 k ∧ br = .int .u32 (brw (dgt b32 a) (dgt b32 b) k : Nat) ∧ RowO w.heap.size wr A1 57 .u32 c1 (ln b32 a) (mst a b k) ∧ Below w.heap.size w wr) (fun _ i _ => ln b32 a - (intOf i).toNat)
  case atStart => exact ⟨0, Nat.zero_le _, rfl, rfl, hrow.congr fun j _ => by simp [mst], hbel⟩
  case round =>
    obtain ⟨k, hk, rfl, rfl, hrow, hbel⟩ := hrel
    have hbr := brw_le (dgt b32 a) (dgt b32 b) k
    by_cases hlt : k < ln b32 a
    · have hx := dgt32_lt a k
      have hy := dgt32_lt b k
      obtain ⟨g, rfl, hg, hr⟩ := hrow (by omega)
      have c0 := hr.cell hlt
      have c2 := hr.frozen k
      rw [show mst a b k k = dgt b32 a k by simp [mst]] at c0
      have hset : ∀ u, u = dif (dgt b32 a) (dgt b32 b) k → Row (wr.setCell ⟨g, k, none⟩ (.int .u32 (u : Int))) g 57 .u32 c1 (ln b32 a) (mst a b (k + 1)) := fun u hu =>
        hr.set (by simp [mst, hu]) fun j _ hj => by simp only [mst, show j < k + 1 ↔ j < k by omega]
      have HSET := Lib.hid hset
      clear hset
      by_cases hkb : k < ln b32 b
      · obtain ⟨p', q', rfl, hp', hcb⟩ := hb (by omega)
        have c1 := (hbel.cell (p := ⟨p', q' + k, none⟩) hp').trans (hcb k hkb)
        go_wp2_with (go_at_call 82; refine (sub32_any _ _ _ _ hx hy hbr).mono ?_; rintro e w' ⟨rfl, rfl⟩)
        go_roundw
        case rel => exact ⟨k + 1, by omega, by go_num, rfl, fun _ => ⟨g, rfl, hg, HSET.out _ rfl⟩, hbel.setCell (by exact hg) _⟩
        case measure => simp [intOf]; omega
      · have h0 : dgt b32 b k = 0 := dgt_of_lt ((ln_le b32_two).1 (by omega))
        have H0 := Lib.hid h0
        clear h0
        go_wp2_with (go_at_call 82; refine (sub32_zero _ _ _ hx hbr).mono ?_; rintro e w' ⟨rfl, rfl⟩)
        go_roundw
        case rel => exact ⟨k + 1, by omega, by go_num, by rw [brw, H0.out], fun _ => ⟨g, rfl, hg, HSET.out _ (by rw [dif, H0.out])⟩, hbel.setCell (by exact hg) _⟩
        case measure => simp [intOf]; omega
    · obtain rfl : k = ln b32 a := by omega
      have hrd := hrow.rd.congr (f' := dif (dgt b32 a) (dgt b32 b)) fun j hj => by simp only [mst, if_pos hj]
      have ht := trim_any A1 _ c1 _ wr hrd (fun i _ => dif_lt ..) hnc (by omega)
      rw [HN.out] at ht
      go_wp2_with fail
      refine ht.mono ?_
      rintro e w2 ⟨rfl, rfl, hnum, hlc⟩
      go_wp2
      go_ret
      exact ⟨A1, c1, rfl, hlc, hnum, hbel⟩
end Go.Proofs.YtafglggjncnkkaaDoor
