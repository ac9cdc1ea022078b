/-
  The walks of the laws' num, is and awake.
-/
import Derived.Test.YtafglggjncnkkaaDoorRef
import Derived.Test.YtafglggjncnkkaaDoorTextV
import Derived.Test.YtafglggjncnkkaaDoorDivModW
import Derived.Test.YtafglggjncnkkaaDoorGcdW
import Derived.Deep.RegionHeld3
namespace Go.Proofs.YtafglggjncnkkaaDoor
open Go.RowKit

set_option maxRecDepth 100000 in
theorem num_any (z : Int) (w : World) (h1 : -9223372036854775808 ≤ z) (h2 : z ≤ 9223372036854775807) : Calls Tryd.prog 20 #[.int .i64 z] w (WI w z) := by
  have hb0 : Below w.heap.size w (w.alloc (.cells #[.bool false, .slice none 0 0] 24)) := (Below.refl _ w).alloc (Nat.le_refl _) _
  have hR0 := WholeAt.new w false (.slice none 0 0)
  go_enter Tryd.func20, Tryd.ntmps20
  go_wp2_with fail
  refine (fromInt_any z _ h1 h2).mono ?_
  rintro e w1 ⟨A, c, rfl, ho, hb1⟩
  obtain ⟨s, hs⟩ : ∃ s, s = decide (z < 0) := ⟨_, rfl⟩
  rw [← hs]
  have HS := Lib.hid hs
  clear hs
  have hR1 := hR0.below hb1 hR0.lt
  have hbl1 := hb0.trans (hb1.mono hb0.size)
  obtain ⟨r0, r1⟩ := hR1.cells
  have g0 := hR1.frozen 0
  have g1 := hR1.frozen 1
  obtain ⟨hW, hbW⟩ := store_whole hR1 hbl1 (Nat.le_refl _) s (.slice A (ln b16 z.natAbs) c)
  have ho2 := (store_own (R := w.heap.size) ho (by simp) s (.slice A (ln b16 z.natAbs) c)).lower (base' := w.heap.size) (by simp)
  have HW := Lib.hid hW
  clear hW ho
  go_wp2_with fail
  have hW := HW.out
  clear HW hR1 r0 r1
  generalize ((w1.setCell ⟨w.heap.size, 0, none⟩ (.bool s)).setCell ⟨w.heap.size, 1, none⟩ (.slice A (ln b16 z.natAbs) c)) = WW at *
  obtain ⟨k0, k1⟩ := hW.cells
  refine bodyPost_ret (v := .agg #[.bool s, .slice A (ln b16 z.natAbs) c]) (by simp [results, Tryd.results20, go_sem, k0, k1]) rfl ?_
  rw [HS.out]
  exact ⟨A, c, rfl, ho2, hbW⟩
set_option maxRecDepth 100000 in
set_option maxHeartbeats 1000000 in
theorem is_yes (z : Int) (A : Option Addr) (c : Nat) (w : World) (h1 : -9223372036854775808 ≤ z) (h2 : z ≤ 9223372036854775807) (hA : Num16 w A z.natAbs) :
    Calls Tryd.prog 36 #[.agg #[.bool (decide (z < 0)), .slice A (ln b16 z.natAbs) c], .int .i64 0, .int .i64 z] w fun e w' => e = .returned (.bool true) ∧ Below w.heap.size w w' := by
  have hl4 : ln b16 z.natAbs ≤ 4 := (ln_le b16_two).2 (show z.natAbs < 18446744073709551616 by omega)
  have hb0 : Below w.heap.size w (w.alloc (.cells #[.bool (decide (z < 0)), .slice A (ln b16 z.natAbs) c] 24)) := (Below.refl _ w).alloc (Nat.le_refl _) _
  have hR0 := WholeAt.new w (decide (z < 0)) (.slice A (ln b16 z.natAbs) c)
  have D1 := Lib.hid fun w' => refFromInt_any z w' h1 h2
  have D2 := Lib.hid fun (w' : World) (B : Option Addr) (d : Nat) (hw' : Below w.heap.size w w') (hB : Num16 w' B z.natAbs) => refSame_any (decide (z < 0)) (decide (z < 0)) A B (ln b16 z.natAbs) (ln b16 z.natAbs) c d _ _ w' (Num16.below hA hw') hB (by omega) (by omega)
  have hsame := sameW_num z z
  rw [decide_eq_true rfl] at hsame
  rw [hsame] at D2
  clear hsame
  obtain ⟨s, hs⟩ : ∃ s, s = decide (z < 0) := ⟨_, rfl⟩
  unfold WI at D1
  rw [← hs] at D1 D2 hb0 hR0 ⊢
  clear hs
  go_enter Tryd.func36, Tryd.ntmps36
  go_wp2_with fail
  have hb0' := hb0.drew
  have hR0' : WholeAt (w.alloc (.cells #[.bool s, .slice A (ln b16 z.natAbs) c] 24)).drew w.heap.size s (.slice A (ln b16 z.natAbs) c) := hR0
  go_region_held3 (fun w' => w'.cell? ⟨w.heap.size, 0, none⟩ = some (.bool s) ∧ w'.cell? ⟨w.heap.size, 1, none⟩ = some (.slice A (ln b16 z.natAbs) c) ∧ WholeAt w' w.heap.size s (.slice A (ln b16 z.natAbs) c) ∧ Below w.heap.size w w')
    (first | with_reducible exact ⟨hR2.cells.1, hR2.cells.2, hR2, hb2'⟩ | with_reducible exact ⟨hR1.cells.1, hR1.cells.2, hR1, hb1'⟩ | with_reducible exact ⟨hR0'.cells.1, hR0'.cells.2, hR0', hb0'⟩)
    (first
      | (go_at_call 61; refine (D1.out _).mono ?_; rintro e w1 ⟨B, d, rfl, ho, hb1⟩; have hR1 := hR0'.below hb1 hR0'.lt; have hb1' := hb0'.trans (hb1.mono hb0'.size))
      | (go_at_call 42; refine (D2.out _ B d hb1' ho.num).mono ?_; rintro e w2 ⟨rfl, hb2⟩; have hR2 := hR1.below hb2 hR1.lt; have hb2' := hb1'.trans (hb2.mono hb1'.size)))
  go_wp2
  go_ret
  exact ⟨rfl, hb2'⟩
/-- The call returned a zero value and an error. -/
def ErrW1 (k : Int) (w : World) (e : Ending) (w' : World) : Prop := e = .returned (.tuple #[.agg #[.bool false, .slice none 0 0], .int .i64 k]) ∧ Below w.heap.size w w'
set_option maxRecDepth 100000 in
set_option maxHeartbeats 1000000 in
theorem parse007 (w : World) : Calls Tryd.prog 22 #[.string ⟨#[48, 48, 55]⟩] w (ErrW1 10 w) := by
  have hb0 : Below w.heap.size w (w.alloc (.cells #[.bool false, .slice none 0 0] 24)) := (Below.refl _ w).alloc (Nat.le_refl _) _
  have hR0 := WholeAt.new w false (.slice none 0 0)
  go_enter Tryd.func22, Tryd.ntmps22
  go_wp2_with fail
  exact bodyPost_ret (v := .tuple #[.agg #[.bool false, .slice none 0 0], .int .i64 10]) (by simp [results, Tryd.results22, go_sem]) rfl ⟨rfl, hb0⟩
end Go.Proofs.YtafglggjncnkkaaDoor
