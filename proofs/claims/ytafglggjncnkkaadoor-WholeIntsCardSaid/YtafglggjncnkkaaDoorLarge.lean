/-
  The walk of the law's large; whole.Int at numbers; the greatest numbers of a length.
-/
import Derived.Test.YtafglggjncnkkaaDoorInt
import Derived.Test.YtafglggjncnkkaaDoorUnpack
namespace Go.Proofs.YtafglggjncnkkaaDoor
open Go.RowKit

/-- The greatest number of n limbs. -/
def bigN (n : Nat) : Nat := vs b16 (fun _ => 65535) n
theorem bigN_eq (n : Nat) : bigN n + 1 = b16 ^ n := by
  unfold bigN
  induction n with
  | zero => rfl
  | succ n ih =>
    rw [vs_succ, Nat.pow_succ, ← ih, show b16 = 65535 + 1 from rfl, Nat.mul_add, Nat.mul_one]
    omega
theorem bigN_dgt {n j : Nat} (h : j < n) : dgt b16 (bigN n) j = 65535 := dgt_vs (fun _ _ => by decide) h
theorem bigN_ln (n : Nat) : ln b16 (bigN n) = n := ln_vs b16_two (fun _ _ => by decide) (.inr (by decide))

set_option maxRecDepth 100000 in
set_option maxHeartbeats 1000000 in
theorem large_any (n : Nat) (hn : n ≤ 2000) (w : World) : Calls Tryd.prog 34 #[.int .i64 (n : Int)] w (VI ((bigN n : Nat) : Int) w) := by
  have hmk := mk16 n n (Nat.le_refl _) (by omega)
  go_enter Tryd.func34, Tryd.ntmps34
  go_wp2_with fail
  clear hmk
  go_loopw [4] (fun i wr => ∃ k : Nat, k ≤ n ∧ i = .int .i64 k ∧ Row wr (w.heap.size + 1) 40 .u16 n n (fun j => if j < k then 65535 else 0) ∧ WholeAt wr w.heap.size false (.slice none 0 0) ∧ Below w.heap.size w wr) (fun i _ => n - (intOf i).toNat)
  case atStart =>
    refine ⟨0, Nat.zero_le _, rfl, ?_, ?_, ((Below.refl _ _).alloc (Nat.le_refl _) _).alloc (by simp) _⟩
    · have hr := Row.made (w := w.alloc (.cells #[.bool false, .slice none 0 0] 24)) (t := 40) (m := n) (k := .u16)
      rw [World.size_alloc] at hr
      exact hr.congr fun j _ => by simp
    · exact (Below.heap_alloc _ _ _ (by simp)).trans (heap_alloc_new _ _)
  case round =>
    obtain ⟨k, hk, rfl, hrow, hres, hbel⟩ := hrel
    by_cases hlt : k < n
    · have c1 := hrow.cell (i := k) hlt
      have c2 := hrow.frozen k
      go_wp2_with fail
      go_roundw
      case rel =>
        refine ⟨k + 1, by omega, by go_num, ?_, (Below.heap_setCell _ _ _ _ (by simp)).trans hres, hbel.setCell (by simp) _⟩
        exact hrow.setI (f' := fun j => if j < k + 1 then 65535 else 0) (by simp) fun j _ hj => by
          by_cases h1 : j < k
          · simp only [h1, if_true]; rw [if_pos (by omega)]
          · simp only [h1, if_false]; rw [if_neg (by omega)]
      case measure => simp [intOf]; omega
    · obtain rfl : k = n := by omega
      have hrow2 := hrow.congr (f' := dgt b16 (bigN k)) fun j hj => by simp only [if_pos hj]; exact (bigN_dgt hj).symm
      obtain ⟨r0, r1⟩ := hres.cells
      have r3 := hres.frozen 0
      have r4 := hres.frozen 1
      go_wp2_with fail
      refine bodyPost_ret (v := .agg #[.bool false, .slice (some ⟨w.heap.size + 1, 0, none⟩) k k]) (by simp [results, Tryd.results34, go_sem, r0, r1]) rfl ?_
      refine ⟨false, some ⟨w.heap.size + 1, 0, none⟩, k, k, rfl, ⟨(decide_eq_false (by omega)).symm, by rw [Int.natAbs_natCast, bigN_ln], ?_⟩, (hbel.setCell (Nat.le_refl _) _).setCell (Nat.le_refl _) _⟩
      rw [Int.natAbs_natCast, bigN_ln]
      exact Own16.of_row ((hrow2.far (p := ⟨w.heap.size, 0, none⟩) (by simp) _).far (p := ⟨w.heap.size, 1, none⟩) (by simp) _) (by omega) (Nat.le_refl _) (Nat.le_refl _) (by omega)

section
variable {a b : Int} {s t : Bool} {A B : Option Addr} {n m c d : Nat} {w : World}
theorem int_v (ha : WV w a s A n) (la : n ≤ 1024) :
    Calls Tryd.prog 35 #[.agg #[.bool s, .slice A n c]] w fun e w' => ∃ r k, e = .returned (.tuple #[.int .i64 r, .int .i64 k]) ∧ IntR a r k ∧ Below w.heap.size w w' := by
  obtain ⟨rfl, rfl, hA⟩ := ha
  by_cases h4 : ln b16 a.natAbs ≤ 4
  · have h := int_walk (decide (a < 0)) A (ln b16 a.natAbs) c (dgt b16 a.natAbs) w hA (fun i => dgt16_lt _ i) (okW_num la) h4
    rw [vs_dgt_ln b16_two, toI_int] at h
    exact h
  · refine (int_long (decide (a < 0)) A (ln b16 a.natAbs) c (dgt b16 a.natAbs) w hA (fun i _ => dgt16_lt _ i) (by omega) (okW_num la) (by omega)).mono ?_
    rintro e w' ⟨rfl, hb⟩
    have h5 : ¬ a.natAbs < b16 ^ 4 := fun h => h4 ((ln_le b16_two).2 h)
    have h6 : b16 ^ 4 = 18446744073709551616 := rfl
    refine ⟨0, 3, rfl, .inr ⟨?_, rfl, rfl⟩, hb⟩
    unfold fits
    by_cases h7 : -9223372036854775808 ≤ a
    · rw [decide_eq_false (show ¬ a ≤ 9223372036854775807 by omega), Bool.and_false]
    · rw [decide_eq_false h7, Bool.false_and]
theorem int_fit (ha : WV w a s A n) (la : n ≤ 1024) (h1 : -9223372036854775808 ≤ a) (h2 : a ≤ 9223372036854775807) :
    Calls Tryd.prog 35 #[.agg #[.bool s, .slice A n c]] w fun e w' => e = .returned (.tuple #[.int .i64 a, .int .i64 0]) ∧ Below w.heap.size w w' := by
  refine (int_v ha la).mono ?_
  rintro e w' ⟨r, k, rfl, h | h, hb⟩
  · exact ⟨by rw [h.2.1, h.2.2], hb⟩
  · have h0 := h.1
    unfold fits at h0
    rw [decide_eq_true h1, decide_eq_true h2] at h0
    cases h0
theorem int_unfit (ha : WV w a s A n) (la : n ≤ 1024) (h : fits a = false) :
    Calls Tryd.prog 35 #[.agg #[.bool s, .slice A n c]] w fun e w' => e = .returned (.tuple #[.int .i64 0, .int .i64 3]) ∧ Below w.heap.size w w' := by
  refine (int_v ha la).mono ?_
  rintro e w' ⟨r, k, rfl, h1 | h1, hb⟩
  · rw [h] at h1; cases h1.1
  · exact ⟨by rw [h1.2.1, h1.2.2], hb⟩
/-- The call returned ErrLong. -/
def LongW (w : World) (e : Ending) (w' : World) : Prop := e = .returned (.tuple #[.agg #[.bool false, .slice none 0 0], .int .i64 3]) ∧ Below w.heap.size w w'
theorem RI.long {z : Int} {e : Ending} {w' : World} (h : RI w z e w') (hl : 1024 < ln b16 z.natAbs) : LongW w e w' := by
  rcases h with ⟨h1, _⟩ | ⟨_, he, hb⟩
  · omega
  · exact ⟨he, hb⟩
theorem add_long (ha : WV w a s A n) (hb : WV w b t B m) (la : n ≤ 1024) (lb : m ≤ 1024) (lr : 1024 < ln b16 (a + b).natAbs) :
    Calls Tryd.prog 24 #[.agg #[.bool s, .slice A n c], .agg #[.bool t, .slice B m d]] w (LongW w) := by
  obtain ⟨rfl, rfl, hA⟩ := ha
  obtain ⟨rfl, rfl, hB⟩ := hb
  exact (add_any a b A B c d w hA hB la lb).mono fun _ _ h => h.long lr
theorem sub_long (ha : WV w a s A n) (hb : WV w b t B m) (la : n ≤ 1024) (lb : m ≤ 1024) (lr : 1024 < ln b16 (a - b).natAbs) :
    Calls Tryd.prog 25 #[.agg #[.bool s, .slice A n c], .agg #[.bool t, .slice B m d]] w (LongW w) := by
  obtain ⟨rfl, rfl, hA⟩ := ha
  obtain ⟨rfl, rfl, hB⟩ := hb
  exact (sub_any a b A B c d w hA hB la lb).mono fun _ _ h => h.long lr
theorem mul_long (ha : WV w a s A n) (hb : WV w b t B m) (la : n ≤ 1024) (lb : m ≤ 1024) (lr : 1024 < ln b16 (a * b).natAbs) :
    Calls Tryd.prog 26 #[.agg #[.bool s, .slice A n c], .agg #[.bool t, .slice B m d]] w (LongW w) := by
  obtain ⟨rfl, rfl, hA⟩ := ha
  obtain ⟨rfl, rfl, hB⟩ := hb
  exact (mul_any a b A B c d w hA hB la lb).mono fun _ _ h => h.long lr
end
end Go.Proofs.YtafglggjncnkkaaDoor
