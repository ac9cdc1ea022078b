/-
  The walk of whole.short.
-/
import Derived.Test.YtafglggjncnkkaaDoorTrim
namespace Go.Proofs.YtafglggjncnkkaaDoor
open Go.RowKit

theorem vs_two_words (x : Nat) : vs b32 (fun i => if i = 0 then x % 4294967296 else x / 4294967296) 2 = x := by
  simp [vs, b32]; omega
set_option maxRecDepth 100000 in
theorem short_any (x : Nat) (w : World) (hx : x < 18446744073709551616) : Calls Tryd.prog 67 #[.int .u64 (x : Int)] w (W32 w x) := by
  have h1 : x / 4294967296 < 4294967296 := by omega
  go_enter Tryd.func67, Tryd.ntmps67
  go_wp2_with fail
  have hrd : Rd (w.alloc (.cells #[.int .u32 ((x : Int) % 4294967296), .int .u32 ((x : Int) / 4294967296)] 57)).heap.size .u32 (w.alloc (.cells #[.int .u32 ((x : Int) % 4294967296), .int .u32 ((x : Int) / 4294967296)] 57)) (some ⟨w.heap.size, 0, none⟩) 2 (fun i => if i = 0 then x % 4294967296 else x / 4294967296) := fun _ =>
    ⟨w.heap.size, 0, rfl, by simp, fun i hi => by
      rw [Nat.zero_add, cell_of_row _ _ _ _ _ (0, 0) (heap_alloc_new _ _)]
      match i, hi with
      | 0, _ => rfl
      | 1, _ => rfl⟩
  have ht := trim_any (some ⟨w.heap.size, 0, none⟩) 2 2 _ _ hrd (fun i _ => by split <;> omega) (Nat.le_refl _) (by omega)
  rw [vs_two_words x] at ht
  refine ht.mono ?_
  rintro e w1 ⟨rfl, rfl, hnum, hlc⟩
  go_wp2_with fail
  go_ret
  exact ⟨_, _, rfl, hlc, hnum, (Below.refl _ _).alloc (Nat.le_refl _) _⟩
end Go.Proofs.YtafglggjncnkkaaDoor
