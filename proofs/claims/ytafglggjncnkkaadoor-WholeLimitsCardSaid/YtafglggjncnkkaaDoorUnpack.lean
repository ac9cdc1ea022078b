/-
  The walk of whole.unpack.
-/
import Derived.Test.YtafglggjncnkkaaDoorTrim
namespace Go.Proofs.YtafglggjncnkkaaDoor
open Go.RowKit

/-- The limbs after k words. -/
def ust (x k j : Nat) : Nat := if j < 2 * k then dgt b16 x j else 0

set_option maxHeartbeats 400000 in
theorem unpack_zero (z : Bool) (A : Option Addr) (c : Nat) (w : World) : Calls Tryd.prog 39 #[.bool z, .slice A 0 c] w (WW w false 0) := by
  have ht : ∀ w : World, Calls Tryd.prog 63 #[.slice A 0 c] w fun e w' => e = .returned (.slice A 0 c) ∧ w = w' := fun w => by
    have ht := trim_num A c 0 w (Num32.zero w A) (by rw [ln_zero]; omega) (by rw [ln_zero]; omega)
    rw [ln_zero] at ht
    exact ht
  have HT := Lib.hid ht
  clear ht
  go_enter Tryd.func39, Tryd.ntmps39
  go_wp2_with fail
  refine (HT.out _).mono ?_
  rintro e w1 ⟨rfl, rfl⟩
  go_wp2
  refine bodyPost_ret (v := .agg #[.bool false, .slice none 0 0]) (by simp [results, Tryd.results39, go_sem]) rfl ?_
  refine ⟨none, 0, by rw [ln_zero], ?_, ?_⟩
  · rw [ln_zero]; exact Own16.nil ..
  · repeat (first | exact Below.refl _ _ | refine Below.setCell ?_ (Nat.le_refl _) _ | refine Below.alloc ?_ (Nat.le_refl _) _)
set_option maxHeartbeats 1000000 in
theorem unpack_pos (z : Bool) (A : Option Addr) (c x : Nat) (w : World) (h : Num32 w A x) (hc : ln b32 x ≤ c) (hn : ln b32 x ≤ 1000000) (hx : 0 < x) :
    Calls Tryd.prog 39 #[.bool z, .slice A (ln b32 x) c] w (WW w z x) := by
  have hpos := (ln_pos b32_two).2 hx
  have hl2 := ln32_two x
  have hpos16 := (ln_pos b16_two).2 hx
  have HL2 := Lib.hid hl2
  have hle1 : ln b16 x ≤ 2 * ln b32 x := by omega
  have hle2 : 2 * ln b32 x ≤ ln b16 x + 1 := by omega
  clear hl2
  obtain ⟨b, o, rfl, hb, hca⟩ := h hpos
  have ht : ∀ w' : World, Below w.heap.size w w' → Calls Tryd.prog 63 #[.slice (some ⟨b, o, none⟩) (ln b32 x) c] w' fun e w1 => e = .returned (.slice (some ⟨b, o, none⟩) (ln b32 x) c) ∧ w' = w1 :=
    fun w' hb' => trim_num _ c x w' (Num32.below h hb') hc (by omega)
  have HT := Lib.hid ht
  clear ht
  have hmk := mk16 (2 * ln b32 x) (2 * ln b32 x) (Nat.le_refl _) (by omega)
  rw [show ((2 * ln b32 x : Nat) : Int) = 2 * (ln b32 x : Int) by omega] at hmk
  have k1 : (((ln b32 x : Nat) : Int) == 0) = false := by simp; omega
  go_enter Tryd.func39, Tryd.ntmps39
  go_wp2_with fail
  refine (HT.out _ ((Below.refl _ _).alloc (Nat.le_refl _) _)).mono ?_
  rintro e w1 ⟨rfl, rfl⟩
  go_wp2_with fail
  clear hmk
  go_loopw [20] (fun i wr => ∃ k : Nat, k ≤ ln b32 x ∧ i = .int .i64 k ∧ Row wr (w.heap.size + 1) 40 .u16 (2 * ln b32 x) (2 * ln b32 x) (ust x k) ∧ wr.heap[w.heap.size]? = some (.cells #[.bool false, .slice none 0 0] 24 (0, 0)) ∧ Below w.heap.size w wr) (fun i _ => ln b32 x - (intOf i).toNat)
  case atStart =>
    refine ⟨0, Nat.zero_le _, rfl, ?_, ?_, ((Below.refl _ _).alloc (Nat.le_refl _) _).alloc (by simp) _⟩
    · have hr := Row.made (w := w.alloc (.cells #[.bool false, .slice none 0 0] 24)) (t := 40) (m := 2 * ln b32 x) (k := .u16)
      rw [World.size_alloc] at hr
      exact hr.congr fun j _ => by simp [ust]
    · exact (Below.heap_alloc _ _ _ (by simp)).trans (heap_alloc_new _ _)
  case round =>
    obtain ⟨k, hk, rfl, hrow, hres, hbel⟩ := hrel
    by_cases hlt : k < ln b32 x
    · have c0 := (hbel.cell (p := ⟨b, o + k, none⟩) hb).trans (hca k hlt)
      have c1 := hrow.cell (i := 2 * k) (by omega)
      have c2 := hrow.frozen (2 * k)
      have c3 := hrow.cell (i := 2 * k + 1) (by omega)
      have c4 := hrow.frozen (2 * k + 1)
      have hxk := dgt32_lt x k
      have e1 : IntKind.u16.wrap ((dgt b32 x k : Nat) : Int) = ((dgt b16 x (2 * k) : Nat) : Int) := by
        rw [IntKind.wrap_u16]
        have h1 := dgt32_two x k
        have h2 := dgt16_lt x (2 * k)
        omega
      have e2 : ((dgt b32 x k : Nat) : Int) / 65536 = ((dgt b16 x (2 * k + 1) : Nat) : Int) := by
        have h1 := dgt32_two x k
        have h2 := dgt16_lt x (2 * k)
        omega
      have E1 := Lib.hid e1
      have E2 := Lib.hid e2
      clear e1 e2
      go_wp2_with fail
      go_roundw
      case rel =>
        rw [E1.out, E2.out]
        refine ⟨k + 1, by omega, by go_num, ?_, (Below.heap_setCell _ _ _ _ (by simp)).trans ((Below.heap_setCell _ _ _ _ (by simp)).trans hres), (hbel.setCell (by simp) _).setCell (by simp) _⟩
        exact (hrow.set (f' := fun j => if j = 2 * k then dgt b16 x (2 * k) else ust x k j) (by simp) fun j _ hj => by simp [hj]).set (by simp [ust]; omega) fun j _ hj => by
          simp only [ust]
          by_cases e : j = 2 * k
          · subst e; simp
          · simp only [e, if_false, show j < 2 * (k + 1) ↔ j < 2 * k by omega]
      case measure => simp [intOf]; omega
    · obtain rfl : k = ln b32 x := by omega
      have hrow2 := hrow.congr (f' := dgt b16 x) fun j hj => by simp only [ust, if_pos hj]
      have c0 := hrow2.cell (i := 2 * ln b32 x - 1) (by omega)
      have r0 : wr.cell? ⟨w.heap.size, 0, none⟩ = some (.bool false) := by rw [cell_of_row _ _ _ _ _ (0, 0) hres]; rfl
      have r1 : wr.cell? ⟨w.heap.size, 1, none⟩ = some (.slice none 0 0) := by rw [cell_of_row _ _ _ _ _ (0, 0) hres]; rfl
      have r2 : ∀ i, wr.frozen? ⟨w.heap.size, i, none⟩ = false := fun i => by simp [World.frozen?, hres]
      have r3 := r2 0
      have r4 := r2 1
      clear r2
      by_cases htop : ln b16 x = 2 * ln b32 x
      · have hne := dgt_top b16_two hx
        rw [htop] at hne
        have t1 : (((dgt b16 x (2 * ln b32 x - 1) : Nat) : Int) == 0) = false := by simp; exact hne
        have HTOP := Lib.hid htop
        clear htop hne
        go_wp2_with fail
        refine bodyPost_ret (v := .agg #[.bool z, .slice (some ⟨w.heap.size + 1, 0, none⟩) (2 * ln b32 x) (2 * ln b32 x)]) (by simp [results, Tryd.results39, go_sem, r0, r1]) rfl ?_
        refine ⟨_, _, by rw [HTOP.out], ?_, (hbel.setCell (Nat.le_refl _) _).setCell (Nat.le_refl _) _⟩
        exact Own16.of_row ((hrow2.far (p := ⟨w.heap.size, 0, none⟩) (by simp) _).far (p := ⟨w.heap.size, 1, none⟩) (by simp) _) (by omega) hle1 hle1 (by omega)
      · have htop2 : ln b16 x = 2 * ln b32 x - 1 := by omega
        have hz : dgt b16 x (2 * ln b32 x - 1) = 0 := dgt_of_lt ((ln_le b16_two).1 (by omega))
        have t1 : (((dgt b16 x (2 * ln b32 x - 1) : Nat) : Int) == 0) = true := by simp; exact hz
        have HTOP := Lib.hid htop2
        clear htop htop2 hz
        go_wp2_with fail
        refine bodyPost_ret (v := .agg #[.bool z, .slice (some ⟨w.heap.size + 1, 0, none⟩) (2 * ln b32 x - 1) (2 * ln b32 x)]) (by simp [results, Tryd.results39, go_sem, r0, r1]) rfl ?_
        refine ⟨_, _, by rw [HTOP.out], ?_, (hbel.setCell (Nat.le_refl _) _).setCell (Nat.le_refl _) _⟩
        exact Own16.of_row ((hrow2.far (p := ⟨w.heap.size, 0, none⟩) (by simp) _).far (p := ⟨w.heap.size, 1, none⟩) (by simp) _) (by omega) hle1 hle1 (by omega)
theorem unpack_any (z : Bool) (A : Option Addr) (c x : Nat) (w : World) (h : Num32 w A x) (hc : ln b32 x ≤ c) (hn : ln b32 x ≤ 1000000) :
    Calls Tryd.prog 39 #[.bool z, .slice A (ln b32 x) c] w (WW w (z && decide (0 < x)) x) := by
  rcases Nat.eq_zero_or_pos x with rfl | hx
  · rw [ln_zero, show (z && decide (0 < 0)) = false by cases z <;> rfl]
    exact unpack_zero z A c w
  · rw [show (z && decide (0 < x)) = z by rw [decide_eq_true hx]; cases z <;> rfl]
    exact unpack_pos z A c x w h hc hn hx
end Go.Proofs.YtafglggjncnkkaaDoor
