/-
  The walks of whole.result and whole.sum.
-/
import Derived.Test.YtafglggjncnkkaaDoorFromInt
import Derived.Test.YtafglggjncnkkaaDoorUnpack
import Derived.Test.YtafglggjncnkkaaDoorCompare
import Derived.Test.YtafglggjncnkkaaDoorPlus
import Derived.Test.YtafglggjncnkkaaDoorMinus
namespace Go.Proofs.YtafglggjncnkkaaDoor
open Go.RowKit

/-- The number of a sign and an absolute value. -/
def toI (s : Bool) (x : Nat) : Int := if s then -(x : Int) else x
theorem toI_abs (s : Bool) (x : Nat) : (toI s x).natAbs = x := by unfold toI; split <;> omega
theorem toI_neg (s : Bool) (x : Nat) : decide (toI s x < 0) = (s && decide (0 < x)) := by
  cases s
  · simp [toI]
  · simp [toI]
theorem toI_int (z : Int) : toI (decide (z < 0)) z.natAbs = z := by
  unfold toI
  by_cases h : z < 0
  · rw [if_pos (decide_eq_true h)]; omega
  · rw [if_neg (by simpa using h)]; omega
theorem store_whole {w w1 : World} {B R : Nat} {s : Bool} {v : Value} (h : WholeAt w1 R s v) (hb : Below B w w1) (hR : B ≤ R) (s' : Bool) (v' : Value) :
    WholeAt ((w1.setCell ⟨R, 0, none⟩ (.bool s')).setCell ⟨R, 1, none⟩ v') R s' v' ∧ Below B w ((w1.setCell ⟨R, 0, none⟩ (.bool s')).setCell ⟨R, 1, none⟩ v') :=
  ⟨h.set s' v', (hb.setCell (p := ⟨R, 0, none⟩) hR _).setCell (p := ⟨R, 1, none⟩) hR _⟩
theorem store_own {w1 : World} {R base n c : Nat} {A : Option Addr} {f : Nat → Nat} (h : Own16 base w1 A n c f) (hR : R < base) (s' : Bool) (v' : Value) :
    Own16 base ((w1.setCell ⟨R, 0, none⟩ (.bool s')).setCell ⟨R, 1, none⟩ v') A n c f :=
  ownsRow_setCell_below (ownsRow_setCell_below h (a := ⟨R, 0, none⟩) hR _) (a := ⟨R, 1, none⟩) hR _
/-- The call returned the whole number z, in memory of its own, or ErrLong. -/
def RI (w : World) (z : Int) (e : Ending) (w' : World) : Prop :=
  (ln b16 z.natAbs ≤ 1024 ∧ ∃ A c, e = .returned (.tuple #[.agg #[.bool (decide (z < 0)), .slice A (ln b16 z.natAbs) c], .int .i64 0]) ∧ Own16 w.heap.size w' A (ln b16 z.natAbs) c (dgt b16 z.natAbs) ∧ Below w.heap.size w w') ∨
  (1024 < ln b16 z.natAbs ∧ e = .returned (.tuple #[.agg #[.bool false, .slice none 0 0], .int .i64 3]) ∧ Below w.heap.size w w')
theorem RI.mono {w w1 : World} {z : Int} {e : Ending} {w' : World} (h : RI w1 z e w') (hb : Below w.heap.size w w1) : RI w z e w' := by
  rcases h with ⟨h1, A, c, he, ho, hb'⟩ | ⟨h1, he, hb'⟩
  · exact .inl ⟨h1, A, c, he, ho.lower hb.size, hb.trans (hb'.mono hb.size)⟩
  · exact .inr ⟨h1, he, hb.trans (hb'.mono hb.size)⟩

set_option maxRecDepth 100000 in
set_option maxHeartbeats 1000000 in
theorem result_any (s : Bool) (A : Option Addr) (c x : Nat) (w : World) (h : Num32 w A x) (hc : ln b32 x ≤ c) (hn : ln b32 x ≤ 1000000) :
    Calls Tryd.prog 48 #[.bool s, .slice A (ln b32 x) c] w (RI w (toI s x)) := by
  have hl16 : ln b16 x ≤ 2000000 := by have := ln32_two x; omega
  go_enter Tryd.func48, Tryd.ntmps48
  go_wp2_with fail
  have hR0 := WholeAt.new w false (.slice none 0 0)
  have hb0 : Below w.heap.size w (w.alloc (.cells #[.bool false, .slice none 0 0] 24)) := (Below.refl _ w).alloc (Nat.le_refl _) _
  refine (unpack_any s A c x _ (Num32.below h hb0) hc hn).mono ?_
  rintro e w1 ⟨B, d, rfl, hown, hb1⟩
  have hR1 := hR0.below hb1 hR0.lt
  have hbl1 := hb0.trans (hb1.mono hb0.size)
  obtain ⟨r0, r1⟩ := hR1.cells
  have g0 := hR1.frozen 0
  have g1 := hR1.frozen 1
  have hlt := hR1.lt
  by_cases hl : 1024 < ln b16 x
  · have t1 : (1024 : Int) < (ln b16 x : Int) := by omega
    go_wp2_with fail
    obtain ⟨hW, hbW⟩ := store_whole hR1 hbl1 (Nat.le_refl _) false (.slice none 0 0)
    generalize ((w1.setCell ⟨w.heap.size, 0, none⟩ (.bool false)).setCell ⟨w.heap.size, 1, none⟩ (.slice none 0 0)) = WW at *
    have hW2 : WholeAt (WW.alloc (.cells #[.bool (s && decide (0 < x)), .slice B (ln b16 x) d] 24)) w.heap.size false (.slice none 0 0) := (Below.heap_alloc _ _ _ hW.lt).trans hW
    obtain ⟨k0, k1⟩ := hW2.cells
    refine bodyPost_ret (v := .tuple #[.agg #[.bool false, .slice none 0 0], .int .i64 3]) (by simp [results, Tryd.results48, go_sem, k0, k1]) rfl ?_
    exact .inr ⟨by rw [toI_abs]; exact hl, rfl, hbW.alloc hbW.size _⟩
  · have t1 : ¬ ((1024 : Int) < (ln b16 x : Int)) := by omega
    go_wp2_with fail
    obtain ⟨hW, hbW⟩ := store_whole hR1 hbl1 (Nat.le_refl _) (s && decide (0 < x)) (.slice B (ln b16 x) d)
    have hO := (store_own (R := w.heap.size) hown (by simp) (s && decide (0 < x)) (.slice B (ln b16 x) d)).lower (base' := w.heap.size) (by simp)
    generalize ((w1.setCell ⟨w.heap.size, 0, none⟩ (.bool (s && decide (0 < x)))).setCell ⟨w.heap.size, 1, none⟩ (.slice B (ln b16 x) d)) = WW at *
    have hW2 : WholeAt (WW.alloc (.cells #[.bool (s && decide (0 < x)), .slice B (ln b16 x) d] 24)) w.heap.size (s && decide (0 < x)) (.slice B (ln b16 x) d) := (Below.heap_alloc _ _ _ hW.lt).trans hW
    obtain ⟨k0, k1⟩ := hW2.cells
    refine bodyPost_ret (v := .tuple #[.agg #[.bool (s && decide (0 < x)), .slice B (ln b16 x) d], .int .i64 0]) (by simp [results, Tryd.results48, go_sem, k0, k1]) rfl ?_
    refine .inl ⟨by rw [toI_abs]; omega, B, d, by rw [toI_abs, toI_neg], by rw [toI_abs]; exact hO.alloc _, hbW.alloc hbW.size _⟩
end Go.Proofs.YtafglggjncnkkaaDoor
