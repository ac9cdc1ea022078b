/-
  The walk of whole.FromInt.
-/
import Derived.Test.YtafglggjncnkkaaDoorClone
import Derived.OneCell
import Derived.Deep.CutBlock
import Derived.Deep.DeepCutAuto
namespace Go.Proofs.YtafglggjncnkkaaDoor
open Go.RowKit

/-- The call returned the whole number z, in memory of its own. -/
def WI (w : World) (z : Int) (e : Ending) (w' : World) : Prop :=
  ∃ A c, e = .returned (.agg #[.bool (decide (z < 0)), .slice A (ln b16 z.natAbs) c]) ∧ Own16 w.heap.size w' A (ln b16 z.natAbs) c (dgt b16 z.natAbs) ∧ Below w.heap.size w w'

/-- A variable that holds a whole number. -/
def WholeAt (w : World) (g : Nat) (s : Bool) (v : Value) : Prop := w.heap[g]? = some (.cells #[.bool s, v] 24 (0, 0))
theorem WholeAt.cells {w : World} {g : Nat} {s : Bool} {v : Value} (h : WholeAt w g s v) : w.cell? ⟨g, 0, none⟩ = some (.bool s) ∧ w.cell? ⟨g, 1, none⟩ = some v := by
  refine ⟨?_, ?_⟩ <;> exact (cell_of_row w g _ _ _ (0, 0) h).trans rfl
theorem WholeAt.frozen {w : World} {g : Nat} {s : Bool} {v : Value} (h : WholeAt w g s v) (i : Nat) : w.frozen? ⟨g, i, none⟩ = false := by
  simp [World.frozen?, show w.heap[g]? = _ from h]
theorem WholeAt.lt {w : World} {g : Nat} {s : Bool} {v : Value} (h : WholeAt w g s v) : g < w.heap.size := heap_lt h
theorem WholeAt.below {w w' : World} {B g : Nat} {s : Bool} {v : Value} (h : WholeAt w g s v) (hb : Below B w w') (hg : g < B) : WholeAt w' g s v := (hb.block g hg).trans h
theorem WholeAt.new (w : World) (s : Bool) (v : Value) : WholeAt (w.alloc (.cells #[.bool s, v] 24)) w.heap.size s v := heap_alloc_new _ _
theorem WholeAt.set {w : World} {g : Nat} {s : Bool} {v : Value} (h : WholeAt w g s v) (s' : Bool) (v' : Value) : WholeAt ((w.setCell ⟨g, 0, none⟩ (.bool s')).setCell ⟨g, 1, none⟩ v') g s' v' := by
  unfold WholeAt at h ⊢
  simp [World.setCell, Array.getElem?_modify, h]
theorem own_slice {base n : Nat} {w : World} {v : Value} {f : Nat → Nat} (h : w.ownsRow base 40 1 v n (nums .u16 n f)) : ∃ A c, v = .slice A n c ∧ Own16 base w A n c f := by
  rcases Row.of_own h with ⟨rfl, h0⟩ | ⟨g, c, rfl, _⟩
  · subst h0; exact ⟨none, 0, rfl, h⟩
  · exact ⟨_, _, rfl, h⟩

theorem ln_low {B : Nat} (hB : 2 ≤ B) (x k : Nat) : ln B (x % B ^ (k + 1)) = if dgt B x k = 0 then ln B (x % B ^ k) else k + 1 := by
  have hpk : 0 < B ^ k := Nat.pow_pos (by omega)
  have e : x % B ^ (k + 1) = x % B ^ k + B ^ k * dgt B x k := by
    rw [← vs_dgt, ← vs_dgt]; rfl
  have hm := Nat.mod_lt x hpk
  by_cases h0 : dgt B x k = 0
  · rw [if_pos h0, e, h0, Nat.mul_zero, Nat.add_zero]
  · rw [if_neg h0]
    refine ln_eq hB (Nat.mod_lt _ (Nat.pow_pos (by omega))) (.inr ?_)
    rw [e, Nat.add_sub_cancel]
    have : B ^ k * 1 ≤ B ^ k * dgt B x k := Nat.mul_le_mul_left _ (by omega)
    rw [Nat.mul_one] at this
    exact Nat.le_trans this (Nat.le_add_left _ _)
theorem ln_low_le {B : Nat} (hB : 2 ≤ B) (x k : Nat) : ln B (x % B ^ k) ≤ k := (ln_le hB).2 (Nat.mod_lt _ (Nat.pow_pos (by omega)))
theorem shift_dgt (x k : Nat) : ((x : Int) / 2 ^ (16 * k)) % 65536 = ((dgt b16 x k : Nat) : Int) := by
  have h : (2 : Nat) ^ (16 * k) = b16 ^ k := by rw [Nat.pow_mul]; rfl
  have e : ((x : Int) / 2 ^ (16 * k)) = ((x / 2 ^ (16 * k) : Nat) : Int) := by rw [Int.natCast_ediv, Int.natCast_pow]; rfl
  rw [e, h]; rfl

set_option maxRecDepth 100000 in
set_option maxHeartbeats 2000000 in
theorem fromInt_any (z : Int) (w : World) (h1 : -9223372036854775808 ≤ z) (h2 : z ≤ 9223372036854775807) : Calls Tryd.prog 43 #[.int .i64 z] w (WI w z) := by
  obtain ⟨x, hx⟩ : ∃ x, x = z.natAbs := ⟨_, rfl⟩
  have hx64 : x < 18446744073709551616 := by omega
  go_enter Tryd.func43, Tryd.ntmps43
  go_upto_if 10 with (fail)
  go_cut [3] (fun v wx => v = .int .u64 (x : Int) ∧ wx = w.alloc (.cells #[.bool false, .slice none 0 0] 24))
  case first =>
    by_cases hneg : z < 0
    · go_wp2_with fail
      go_meet
      refine ⟨?_, rfl⟩
      congr 1
      rw [IntKind.wrap_u64, IntKind.wrap_u64]; omega
    · go_wp2_with fail
      go_meet
      refine ⟨?_, rfl⟩
      congr 1
      rw [IntKind.wrap_u64]; omega
  case rest =>
    obtain ⟨rfl, rfl⟩ := hcut
    have HX := Lib.hid hx
    clear hx
    go_wp2_with fail
    go_loopw [5, 13] (fun cnt i wr => ∃ k : Nat, k ≤ 4 ∧ i = .int .i64 (k : Int) ∧ cnt = .int .i64 (ln b16 (x % b16 ^ k) : Nat) ∧ Row wr (w.heap.size + 1) 85 .u16 4 4 (fun j => if j < k then dgt b16 x j else 0) ∧
      wr.heap[w.heap.size]? = some (.cells #[.bool false, .slice none 0 0] 24 (0, 0)) ∧ Below w.heap.size w wr) (fun _ i _ => 4 - (intOf i).toNat)
    case atStart =>
      refine ⟨0, by omega, rfl, by simp [Nat.mod_one, ln_zero], ?_, ?_, ?_⟩
      · refine ⟨_, by have := heap_alloc_new (w.alloc (.cells #[.bool false, .slice none 0 0] 24)) (.cells #[.int .u16 0, .int .u16 0, .int .u16 0, .int .u16 0] 85); rwa [World.size_alloc] at this, rfl, fun i hi => ?_⟩
        match i, hi with
        | 0, _ => rfl
        | 1, _ => rfl
        | 2, _ => rfl
        | 3, _ => rfl
      · exact (Below.heap_alloc _ _ _ (by simp)).trans (heap_alloc_new _ _)
      · exact ((Below.refl _ w).alloc (Nat.le_refl _) _).alloc (by simp) _
    case round =>
      obtain ⟨k, hk, rfl, rfl, hrow, hres, hbel⟩ := hrel
      have hl := ln_low_le b16_two x k
      have hlt0 := hrow.lt
      by_cases hlt : k < 4
      · have c1 := hrow.cell (i := k) hlt
        have c2 := hrow.frozen k
        have hd := dgt16_lt x k
        have hsd := shift_dgt x k
        have hstep := ln_low b16_two x k
        have hw : IntKind.u16.wrap ((x : Int) / 2 ^ (16 * k)) = ((dgt b16 x k : Nat) : Int) := by rw [← hsd]; exact IntKind.wrap_u16 _
        have HST := Lib.hid hstep
        clear hsd hstep
        have hset : Row (wr.setCell ⟨w.heap.size + 1, k, none⟩ (.int .u16 (dgt b16 x k : Nat))) (w.heap.size + 1) 85 .u16 4 4 (fun j => if j < k + 1 then dgt b16 x j else 0) :=
          hrow.set (by simp) fun j _ hj => by simp only [show j < k + 1 ↔ j < k by omega]
        have hres2 := (Below.heap_setCell wr ⟨w.heap.size + 1, k, none⟩ (.int .u16 (dgt b16 x k : Nat)) w.heap.size (by simp)).trans hres
        have hbel2 := hbel.setCell (p := ⟨w.heap.size + 1, k, none⟩) (by simp) (.int .u16 (dgt b16 x k : Nat))
        have HRES := Lib.hid hres2
        clear hres2 hres
        by_cases hz : dgt b16 x k = 0
        · have tz : (((dgt b16 x k : Nat) : Int) != 0) = false := by rw [hz]; rfl
          have HZ := Lib.hid hz
          clear hz
          go_wp2_with fail
          go_roundw
          case rel => exact ⟨k + 1, by omega, by go_num, by rw [HST.out, if_pos HZ.out], hset, HRES.out, hbel2⟩
          case measure => simp [intOf]; omega
        · have tz : (((dgt b16 x k : Nat) : Int) != 0) = true := bne_iff_ne.2 (by omega)
          have HZ := Lib.hid hz
          clear hz
          go_wp2_with fail
          go_roundw
          case rel => exact ⟨k + 1, by omega, by go_num, by rw [HST.out, if_neg HZ.out]; go_num, hset, HRES.out, hbel2⟩
          case measure => simp [intOf]; omega
      · obtain rfl : k = 4 := by omega
        have e4 : x % b16 ^ 4 = x := Nat.mod_eq_of_lt hx64
        rw [e4] at hl ⊢
        have hl4 : ((ln b16 x : Nat) : Int) ≤ 4 := by omega
        have hl0 : 0 ≤ ((ln b16 x : Nat) : Int) := by omega
        have har : (Tryd.prog).arrayLen 85 = 4 := by kernel_rfl
        have hl5 : ((ln b16 x : Nat) : Int) ≤ ((Tryd.prog).arrayLen 85 : Int) := by rw [har]; omega
        clear e4
        go_wp2_with fail
        have hrd : Rd wr.heap.size .u16 wr (some ⟨w.heap.size + 1, 0, none⟩) (ln b16 x) (dgt b16 x) := (hrow.rd (n := ln b16 x) (by omega) hlt0).congr fun i hi => if_pos (show i < 4 by omega)
        refine (clone16_any _ (ln b16 x) 4 (dgt b16 x) wr hrd (by omega)).mono ?_
        rintro e w3 ⟨v, rfl, hown, hb3, -⟩
        obtain ⟨A, c, rfl, hown⟩ := own_slice hown
        have hW : WholeAt w3 w.heap.size false (.slice none 0 0) := WholeAt.below hres hb3 (by omega)
        obtain ⟨r0, r1⟩ := hW.cells
        have g0 := hW.frozen 0
        have g1 := hW.frozen 1
        have hbl3 := hbel.trans (hb3.mono hbel.size)
        have hW2 := hW.set (decide (z < 0)) (.slice A (ln b16 x) c)
        have hbl4 := (hbl3.setCell (p := ⟨w.heap.size, 0, none⟩) (Nat.le_refl _) (.bool (decide (z < 0)))).setCell (p := ⟨w.heap.size, 1, none⟩) (Nat.le_refl _) (.slice A (ln b16 x) c)
        have hR0 : w.heap.size < wr.heap.size := by omega
        have hown4 : Own16 w.heap.size ((w3.setCell ⟨w.heap.size, 0, none⟩ (.bool (decide (z < 0)))).setCell ⟨w.heap.size, 1, none⟩ (.slice A (ln b16 x) c)) A (ln b16 x) c (dgt b16 x) :=
          Own16.lower (base := wr.heap.size) (ownsRow_setCell_below (ownsRow_setCell_below hown (a := ⟨w.heap.size, 0, none⟩) hR0 _) (a := ⟨w.heap.size, 1, none⟩) hR0 _) (Nat.le_of_lt hR0)
        have HOWN := Lib.hid hown4
        have HW2 := Lib.hid hW2
        clear hown hown4 hW2
        go_wp2_with fail
        have hW2 := HW2.out
        have hown4 := HOWN.out
        clear hW r0 r1 HW2 HOWN
        generalize ((w3.setCell ⟨w.heap.size, 0, none⟩ (.bool (decide (z < 0)))).setCell ⟨w.heap.size, 1, none⟩ (.slice A (ln b16 x) c)) = WW at *
        obtain ⟨k0, k1⟩ := hW2.cells
        refine bodyPost_ret (v := .agg #[.bool (decide (z < 0)), .slice A (ln b16 x) c]) (by simp [results, Tryd.results43, go_sem, k0, k1]) rfl ?_
        rw [HX.out] at hown4 ⊢
        exact ⟨A, c, rfl, hown4, hbl4⟩
end Go.Proofs.YtafglggjncnkkaaDoor
