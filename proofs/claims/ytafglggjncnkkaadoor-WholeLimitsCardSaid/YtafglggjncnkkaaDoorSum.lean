/-
  The walk of whole.sum.
-/
import Derived.Test.YtafglggjncnkkaaDoorResult
namespace Go.Proofs.YtafglggjncnkkaaDoor
open Go.RowKit

/-- What a call that returns a whole number and an error hands back: the number z, or ErrLong. -/
def RIv (base : Nat) (w' : World) (z : Int) (s : Bool) (A : Option Addr) (n c : Nat) (k : Int) : Prop :=
  (ln b16 z.natAbs ≤ 1024 ∧ s = decide (z < 0) ∧ n = ln b16 z.natAbs ∧ k = 0 ∧ Own16 base w' A n c (dgt b16 z.natAbs)) ∨
  (1024 < ln b16 z.natAbs ∧ s = false ∧ A = none ∧ n = 0 ∧ c = 0 ∧ k = 3)
theorem RI.vals {w w' : World} {z : Int} {e : Ending} (h : RI w z e w') : ∃ s A n c k, e = .returned (.tuple #[.agg #[.bool s, .slice A n c], .int .i64 k]) ∧ RIv w.heap.size w' z s A n c k ∧ Below w.heap.size w w' := by
  rcases h with ⟨h1, A, c, he, ho, hb⟩ | ⟨h1, he, hb⟩
  · exact ⟨_, _, _, _, _, he, .inl ⟨h1, rfl, rfl, rfl, ho⟩, hb⟩
  · exact ⟨_, _, _, _, _, he, .inr ⟨h1, rfl, rfl, rfl, rfl, rfl⟩, hb⟩
theorem RIv.ri {w w' : World} {z : Int} {s : Bool} {A : Option Addr} {n c : Nat} {k : Int} (h : RIv w.heap.size w' z s A n c k) (hb : Below w.heap.size w w') : RI w z (.returned (.tuple #[.agg #[.bool s, .slice A n c], .int .i64 k])) w' := by
  rcases h with ⟨h1, rfl, rfl, rfl, ho⟩ | ⟨h1, rfl, rfl, rfl, rfl, rfl⟩
  · exact .inl ⟨h1, A, c, rfl, ho, hb⟩
  · exact .inr ⟨h1, rfl, hb⟩
theorem RIv.store {base R : Nat} {w' : World} {z : Int} {s : Bool} {A : Option Addr} {n c : Nat} {k : Int} (h : RIv base w' z s A n c k) (hR : R < base) (s' : Bool) (v' : Value) : RIv base ((w'.setCell ⟨R, 0, none⟩ (.bool s')).setCell ⟨R, 1, none⟩ v') z s A n c k := by
  rcases h with ⟨h1, e1, e2, e3, ho⟩ | h
  · exact .inl ⟨h1, e1, e2, e3, store_own ho hR s' v'⟩
  · exact .inr h
theorem RIv.lower {base base' : Nat} {w' : World} {z : Int} {s : Bool} {A : Option Addr} {n c : Nat} {k : Int} (h : RIv base w' z s A n c k) (hb : base' ≤ base) : RIv base' w' z s A n c k := by
  rcases h with ⟨h1, e1, e2, e3, ho⟩ | h
  · exact .inl ⟨h1, e1, e2, e3, ho.lower hb⟩
  · exact .inr h
theorem RIv.alloc {base : Nat} {w' : World} {z : Int} {s : Bool} {A : Option Addr} {n c : Nat} {k : Int} (h : RIv base w' z s A n c k) (o : Obj) : RIv base (w'.alloc o) z s A n c k := by
  rcases h with ⟨h1, e1, e2, e3, ho⟩ | h
  · exact .inl ⟨h1, e1, e2, e3, ho.alloc _⟩
  · exact .inr h

theorem ln_add {B x y m : Nat} (hB : 2 ≤ B) (hx : ln B x ≤ m) (hy : ln B y ≤ m) : ln B (x + y) ≤ m + 1 := by
  have h1 := (ln_le hB).1 hx
  have h2 := (ln_le hB).1 hy
  refine (ln_le hB).2 ?_
  have h3 : B ^ m * 2 ≤ B ^ m * B := Nat.mul_le_mul_left _ hB
  rw [Nat.pow_succ]
  omega
theorem toI_same {s : Bool} {x y : Nat} : toI s (x + y) = toI s x + toI s y := by cases s <;> simp [toI] <;> omega
theorem toI_diff {s t : Bool} {x y : Nat} (h : s ≠ t) (hyx : y ≤ x) : toI s (x - y) = toI s x + toI t y := by
  cases s <;> cases t <;> simp_all [toI] <;> omega
theorem cmp_ge {a b : Nat} : 0 ≤ cmpI a b ↔ b ≤ a := by
  unfold cmpI; split <;> (try split) <;> omega
set_option maxRecDepth 100000 in
set_option maxHeartbeats 1000000 in
theorem sum_any (s t : Bool) (A B : Option Addr) (c d x y : Nat) (w : World) (hx : Num32 w A x) (hy : Num32 w B y) (hn : ln b32 x ≤ 900000) (hm : ln b32 y ≤ 900000) :
    Calls Tryd.prog 49 #[.bool s, .slice A (ln b32 x) c, .bool t, .slice B (ln b32 y) d] w (RI w (toI s x + toI t y)) := by
  have hR0 := WholeAt.new w false (.slice none 0 0)
  have hb0 : Below w.heap.size w (w.alloc (.cells #[.bool false, .slice none 0 0] 24)) := (Below.refl _ w).alloc (Nat.le_refl _) _
  have hx0 := Num32.below hx hb0
  have hy0 := Num32.below hy hb0
  have hxy : ln b32 (x + y) ≤ 900000 + 1 := ln_add b32_two hn hm
  go_enter Tryd.func49, Tryd.ntmps49
  by_cases hst : s = t
  · subst hst
    rw [← toI_same]
    go_wp2_with fail
    refine (plus_any A B c d x y _ hx0 hy0 (by omega) (by omega)).mono ?_
    rintro e w1 ⟨C, cc, rfl, hcc, hnum, hb1⟩
    go_wp2_with fail
    refine (result_any s C cc (x + y) w1 hnum hcc (by omega)).mono ?_
    rintro e w2 hri
    obtain ⟨s', A', n', c', k, rfl, hv, hb2⟩ := hri.vals
    have hR2 := (hR0.below hb1 hR0.lt).below hb2 (Nat.lt_of_lt_of_le hR0.lt hb1.size)
    have hbl2 := (hb0.trans (hb1.mono hb0.size)).trans (hb2.mono (Nat.le_trans hb0.size hb1.size))
    have hlt := Nat.lt_of_lt_of_le hR0.lt hb1.size
    obtain ⟨r0, r1⟩ := hR2.cells
    have g0 := hR2.frozen 0
    have g1 := hR2.frozen 1
    obtain ⟨hW, hbW⟩ := store_whole hR2 hbl2 (Nat.le_refl _) s' (.slice A' n' c')
    have hv2 := (hv.store hlt s' (.slice A' n' c')).lower (Nat.le_of_lt hlt)
    have HW := Lib.hid hW
    have HV := Lib.hid hv2
    clear hv hv2 hW hri
    go_wp2_with fail
    have hW := HW.out
    have hv2 := HV.out
    clear HW HV hR2 r0 r1
    generalize ((w2.setCell ⟨w.heap.size, 0, none⟩ (.bool s')).setCell ⟨w.heap.size, 1, none⟩ (.slice A' n' c')) = WW at *
    obtain ⟨k0, k1⟩ := hW.cells
    refine bodyPost_ret (v := .tuple #[.agg #[.bool s', .slice A' n' c'], .int .i64 k]) (by simp [results, Tryd.results49, go_sem, k0, k1]) rfl ?_
    exact hv2.ri hbW
  · have t1 : (s == t) = false := by simp [hst]
    go_wp2_with fail
    refine (compare_any A B c d x y _ hx0 hy0 (by omega)).mono ?_
    rintro e w1 ⟨rfl, n, rfl⟩
    have hbn := belowN (Below.refl (w.alloc (.cells #[.bool false, .slice none 0 0] 24)).heap.size (w.alloc (.cells #[.bool false, .slice none 0 0] 24))) n
    by_cases hle : y ≤ x
    · have h1 := cmp_ge.2 hle
      go_wp2_with fail
      refine (minus_any A B c d x y _ (Num32.below hx0 hbn) (Num32.below hy0 hbn) hle (by omega)).mono ?_
      rintro e w1 ⟨C, cc, rfl, hcc, hnum, hb1'⟩
      have hb1 := hbn.trans hb1'
      go_wp2_with fail
      refine (result_any s C cc (x - y) w1 hnum hcc (Nat.le_trans (ln_mono b32_two (Nat.sub_le x y)) (by omega))).mono ?_
      rintro e w2 hri
      obtain ⟨s', A', n', c', k, rfl, hv, hb2⟩ := hri.vals
      have hR2 := (hR0.below hb1 hR0.lt).below hb2 (Nat.lt_of_lt_of_le hR0.lt hb1.size)
      have hbl2 := (hb0.trans (hb1.mono hb0.size)).trans (hb2.mono (Nat.le_trans hb0.size hb1.size))
      have hlt := Nat.lt_of_lt_of_le hR0.lt hb1.size
      obtain ⟨r0, r1⟩ := hR2.cells
      have g0 := hR2.frozen 0
      have g1 := hR2.frozen 1
      obtain ⟨hW, hbW⟩ := store_whole hR2 hbl2 (Nat.le_refl _) s' (.slice A' n' c')
      have hv2 := (hv.store hlt s' (.slice A' n' c')).lower (Nat.le_of_lt hlt)
      have HW := Lib.hid hW
      have HV := Lib.hid hv2
      clear hv hv2 hW hri
      go_wp2_with fail
      have hW := HW.out
      have hv2 := HV.out
      clear HW HV hR2 r0 r1
      generalize ((w2.setCell ⟨w.heap.size, 0, none⟩ (.bool s')).setCell ⟨w.heap.size, 1, none⟩ (.slice A' n' c')) = WW at *
      obtain ⟨k0, k1⟩ := hW.cells
      refine bodyPost_ret (v := .tuple #[.agg #[.bool s', .slice A' n' c'], .int .i64 k]) (by simp [results, Tryd.results49, go_sem, k0, k1]) rfl ?_
      rw [toI_diff hst hle] at hv2
      exact hv2.ri hbW
    · have h1 : ¬ (0 ≤ cmpI x y) := fun h => hle (cmp_ge.1 h)
      go_wp2_with fail
      refine (minus_any B A d c y x _ (Num32.below hy0 hbn) (Num32.below hx0 hbn) (by omega) (by omega)).mono ?_
      rintro e w1 ⟨C, cc, rfl, hcc, hnum, hb1'⟩
      have hb1 := hbn.trans hb1'
      go_wp2_with fail
      refine (result_any t C cc (y - x) w1 hnum hcc (Nat.le_trans (ln_mono b32_two (Nat.sub_le y x)) (by omega))).mono ?_
      rintro e w2 hri
      obtain ⟨s', A', n', c', k, rfl, hv, hb2⟩ := hri.vals
      have hR2 := (hR0.below hb1 hR0.lt).below hb2 (Nat.lt_of_lt_of_le hR0.lt hb1.size)
      have hbl2 := (hb0.trans (hb1.mono hb0.size)).trans (hb2.mono (Nat.le_trans hb0.size hb1.size))
      have hlt := Nat.lt_of_lt_of_le hR0.lt hb1.size
      obtain ⟨r0, r1⟩ := hR2.cells
      have g0 := hR2.frozen 0
      have g1 := hR2.frozen 1
      obtain ⟨hW, hbW⟩ := store_whole hR2 hbl2 (Nat.le_refl _) s' (.slice A' n' c')
      have hv2 := (hv.store hlt s' (.slice A' n' c')).lower (Nat.le_of_lt hlt)
      have HW := Lib.hid hW
      have HV := Lib.hid hv2
      clear hv hv2 hW hri
      go_wp2_with fail
      have hW := HW.out
      have hv2 := HV.out
      clear HW HV hR2 r0 r1
      generalize ((w2.setCell ⟨w.heap.size, 0, none⟩ (.bool s')).setCell ⟨w.heap.size, 1, none⟩ (.slice A' n' c')) = WW at *
      obtain ⟨k0, k1⟩ := hW.cells
      refine bodyPost_ret (v := .tuple #[.agg #[.bool s', .slice A' n' c'], .int .i64 k]) (by simp [results, Tryd.results49, go_sem, k0, k1]) rfl ?_
      rw [toI_diff (Ne.symm hst) (show x ≤ y by omega), Int.add_comm] at hv2
      exact hv2.ri hbW
end Go.Proofs.YtafglggjncnkkaaDoor
