/-
  The closure of whole.collector.
-/
import Derived.Test.YtafglggjncnkkaaDoorNum
import Derived.OneCell
namespace Go.Proofs.YtafglggjncnkkaaDoor
open Go.RowKit

/-- What a collector works on: the carry, the box of the pointer, the slice variable, and the row of words; the words are f 0, .., f (n - 1). -/
structure Coll (B0 Bc Bb Bv g c : Nat) (f : Nat → Nat) (w : World) (n carry : Nat) : Prop where
  carryC : w.heap[Bc]? = some (.cells #[.int .u64 (carry : Int)] 64 (0, 0))
  box : w.heap[Bb]? = some (.cells #[.pointer (some ⟨Bv, 0, none⟩)] 92 (0, 0))
  var : w.heap[Bv]? = some (.cells #[.slice (some ⟨g, 0, none⟩) n c] 54 (0, 0))
  row : Row w g 57 .u32 c n f
  lows : B0 ≤ Bc ∧ B0 ≤ Bb ∧ B0 ≤ Bv ∧ B0 ≤ g ∧ Bc ≠ Bb ∧ Bc ≠ Bv ∧ Bc ≠ g ∧ Bb ≠ Bv ∧ Bb ≠ g ∧ Bv ≠ g

theorem coll_step {B0 Bc Bb Bv g c : Nat} {f : Nat → Nat} {w : World} {n carry : Nat} (h : Coll B0 Bc Bb Bv g c f w n carry) (hn : n < c) {x v : Int} {carry' : Nat} {o : Obj} (hx : x = (f n : Int)) (hv : v = (carry' : Int)) :
    Coll B0 Bc Bb Bv g c f ((((w.setCell ⟨g, n, none⟩ (.int .u32 x)).setCell ⟨Bv, 0, none⟩ (.slice (some ⟨g, 0, none⟩) (n + 1) c)).setCell ⟨Bc, 0, none⟩ (.int .u64 v)).alloc o).drew (n + 1) carry' := by
  subst hx hv
  obtain ⟨h1, h2, h3, h4, l1, l2, l3, l4, d1, d2, d3, d4, d5, d6⟩ := h
  have e1 := one_setCell (u := .int .u64 (carry' : Int)) ((Below.heap_setCell (w.setCell ⟨g, n, none⟩ (.int .u32 (f n : Int))) ⟨Bv, 0, none⟩ (.slice (some ⟨g, 0, none⟩) (n + 1) c) Bc d2).trans ((Below.heap_setCell w ⟨g, n, none⟩ (.int .u32 (f n : Int)) Bc d3).trans h1))
  have e3 := one_setCell (u := .slice (some ⟨g, 0, none⟩) (n + 1) c) ((Below.heap_setCell w ⟨g, n, none⟩ (.int .u32 (f n : Int)) Bv d6).trans h3)
  have f3 := (Below.heap_setCell _ ⟨Bc, 0, none⟩ (.int .u64 (carry' : Int)) Bv (Ne.symm d2)).trans e3
  have f2 := (Below.heap_setCell _ ⟨Bc, 0, none⟩ (.int .u64 (carry' : Int)) Bb (Ne.symm d1)).trans ((Below.heap_setCell (w.setCell ⟨g, n, none⟩ (.int .u32 (f n : Int))) ⟨Bv, 0, none⟩ (.slice (some ⟨g, 0, none⟩) (n + 1) c) Bb d4).trans ((Below.heap_setCell w ⟨g, n, none⟩ (.int .u32 (f n : Int)) Bb d5).trans h2))
  have f4 := ((h4.push hn rfl).far (p := ⟨Bv, 0, none⟩) (Ne.symm d6) (.slice (some ⟨g, 0, none⟩) (n + 1) c)).far (p := ⟨Bc, 0, none⟩) (Ne.symm d3) (.int .u64 (carry' : Int))
  exact ⟨(Below.heap_alloc _ _ _ (lt_of_block e1)).trans e1, (Below.heap_alloc _ _ _ (lt_of_block f2)).trans f2, (Below.heap_alloc _ _ _ (lt_of_block f3)).trans f3, (f4.alloc _).drew, l1, l2, l3, l4, d1, d2, d3, d4, d5, d6⟩
set_option maxHeartbeats 400000 in
theorem collect_any (B0 Bc Bb Bv g c : Nat) (f : Nat → Nat) (n carry sum : Nat) (w : World) (h : Coll B0 Bc Bb Bv g c f w n carry) (hn : n < c) (hs : sum + carry < 18446744073709551616)
    (hf : f n = (sum + carry) % 4294967296) :
    Calls Tryd.prog 89 #[.int .u64 (sum : Int), .pointer (some ⟨Bc, 0, none⟩), .pointer (some ⟨Bb, 0, none⟩)] w fun e w' => e = .returned (.tuple #[]) ∧ Coll B0 Bc Bb Bv g c f w' (n + 1) ((sum + carry) / 4294967296) ∧ Below B0 w w' := by
  obtain ⟨h1, h2, h3, ⟨cur, hrow, hsz, hcur⟩, l1, l2, l3, l4, d1, d2, d3, d4, d5, d6⟩ := h
  have c1 := cell_of_one h1
  have c2 := cell_of_one h2
  have c3 := cell_of_one h3
  have k1 := free_of_one h1
  have k3 := free_of_one h3
  have c4 : w.cell? ⟨g, n, none⟩ = some cur[n] := by
    rw [cell_of_row w g n _ _ (0, 0) hrow]
    exact Array.getElem?_eq_getElem (by omega)
  have k4 : w.frozen? ⟨g, n, none⟩ = false := by simp [World.frozen?, hrow]
  have b1 := lt_of_block h1
  have b2 := lt_of_block h2
  have b3 := lt_of_block h3
  have b4 := heap_lt hrow
  have hn1 : n + 1 ≤ c := by omega
  have HF := Lib.hid hf
  have HR := Lib.hid hcur
  clear hf hcur
  go_enter Tryd.func89, Tryd.ntmps89
  go_wp2
  go_region
  go_wp2
  go_end0
  refine ⟨rfl, coll_step ⟨h1, h2, h3, ⟨cur, hrow, hsz, HR.out⟩, l1, l2, l3, l4, d1, d2, d3, d4, d5, d6⟩ hn (by rw [HF.out]; omega) (by omega), ?_⟩
  exact ((((Below.refl _ _).setCell (p := ⟨g, n, none⟩) l4 _).setCell (p := ⟨Bv, 0, none⟩) l3 _).setCell (p := ⟨Bc, 0, none⟩) l1 _).alloc (by simp [World.setCell]; omega) _ |>.drew
theorem collect_int (B0 Bc Bb Bv g c : Nat) (f : Nat → Nat) (n carry sum : Nat) (s : Int) (w : World) (h : Coll B0 Bc Bb Bv g c f w n carry) (hn : n < c) (hs : sum + carry < 18446744073709551616)
    (hf : f n = (sum + carry) % 4294967296) (e : s = (sum : Int)) :
    Calls Tryd.prog 89 #[.int .u64 s, .pointer (some ⟨Bc, 0, none⟩), .pointer (some ⟨Bb, 0, none⟩)] w fun e w' => e = .returned (.tuple #[]) ∧ Coll B0 Bc Bb Bv g c f w' (n + 1) ((sum + carry) / 4294967296) ∧ Below B0 w w' := by
  subst e
  exact collect_any B0 Bc Bb Bv g c f n carry sum w h hn hs hf
theorem collector_any (p : Addr) (w : World) : Calls Tryd.prog 72 #[.pointer (some p)] w fun e w' =>
    e = .returned (.func (.func 89) #[] #[.pointer (some ⟨w.heap.size + 1, 0, none⟩), .pointer (some ⟨w.heap.size, 0, none⟩)]) ∧ (w.alloc (.cells #[.pointer (some p)] 92)).alloc (.cells #[.int .u64 0] 64) = w' := by
  go_enter Tryd.func72, Tryd.ntmps72
  go_wp2
  go_ret
  exact ⟨rfl, rfl⟩
/-- The world in which plus and timesShort begin to collect. -/
theorem coll_start (w : World) (c : Nat) (f : Nat → Nat) :
    Coll w.heap.size (w.heap.size + 1 + 1 + 1) (w.heap.size + 1 + 1) (w.heap.size + 1) w.heap.size c f
      ((((w.alloc (.cells (madeCells #[.int .u32 0] c) 57)).alloc (.cells #[.slice (some ⟨w.heap.size, 0, none⟩) 0 c] 54)).alloc (.cells #[.pointer (some ⟨w.heap.size + 1, 0, none⟩)] 92)).alloc (.cells #[.int .u64 0] 64)) 0 0 := by
  refine ⟨?_, ?_, ?_, ((((Row.made.shorter (Nat.zero_le _)).congr fun j hj => absurd hj (by omega)).alloc _).alloc _).alloc _, by omega, by omega, by omega, by omega, by omega, by omega, by omega, by omega, by omega, by omega⟩
  · have := heap_alloc_new (((w.alloc (.cells (madeCells #[.int .u32 0] c) 57)).alloc (.cells #[.slice (some ⟨w.heap.size, 0, none⟩) 0 c] 54)).alloc (.cells #[.pointer (some ⟨w.heap.size + 1, 0, none⟩)] 92)) (.cells #[.int .u64 0] 64)
    simpa using this
  · have := heap_alloc_new ((w.alloc (.cells (madeCells #[.int .u32 0] c) 57)).alloc (.cells #[.slice (some ⟨w.heap.size, 0, none⟩) 0 c] 54)) (.cells #[.pointer (some ⟨w.heap.size + 1, 0, none⟩)] 92)
    refine (Below.heap_alloc _ _ _ (by simp)).trans ?_
    simpa using this
  · have := heap_alloc_new (w.alloc (.cells (madeCells #[.int .u32 0] c) 57)) (.cells #[.slice (some ⟨w.heap.size, 0, none⟩) 0 c] 54)
    refine (Below.heap_alloc _ _ _ (by simp)).trans ((Below.heap_alloc _ _ _ (by simp)).trans ?_)
    simpa using this
theorem coll_below (w : World) (o1 o2 : Obj) (o3 o4 : Obj) : Below w.heap.size w ((((w.alloc o1).alloc o2).alloc o3).alloc o4) :=
  ((((Below.refl _ w).alloc (Nat.le_refl _) _).alloc (by simp) _).alloc (by simp; omega) _).alloc (by simp; omega) _
end Go.Proofs.YtafglggjncnkkaaDoor
