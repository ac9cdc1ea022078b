/-
  Several texts in one: The walk of whole.DivMod: a divisor that is not 0. The walks of the laws' num, is and awake.
-/
import Derived.Test.YtjgihmmeimfheaaGreatK13
import Derived.Test.YtjgihmmeimfheaaGreatK10
import Derived.Deep.CutBlock
import Derived.Deep.DeepCutAuto
import Derived.Test.YtjgihmmeimfheaaGreatK12
import Derived.Test.YtjgihmmeimfheaaGreatK14
import Derived.Deep.RegionHeld3
namespace Go.Proofs.YtjgihmmeimfheaaGreat
open Go.RowKit

theorem Two2.below {w : World} {s t : Bool} {A B : Option Addr} {n m c d : Nat} {w' w'' : World} (h : Two2 w s t A B n m c d w') (h2 : Below w'.heap.size w' w'') : Two2 w s t A B n m c d w'' :=
 ⟨h.p0.below h2 h.p0.lt, h.p1.below h2 h.p1.lt, h.r.below h2 h.r.lt, h.q.below h2 h.q.lt, h.bel.trans (h2.mono h.bel.size)⟩
theorem Own16.lt {base : Nat} {w : World} {A : Option Addr} {n c : Nat} {f : Nat → Nat} (h : Own16 base w A n c f) : ∀ p, A = some p → p.block < w.heap.size := by
 intro p hp
 rcases h.2 with ⟨hv, -⟩ | ⟨g, cap, cur, hv, _, hh, _⟩
 ·
  injection hv with e1
  rw [hp] at e1; cases e1
 ·
  injection hv with e1
  rw [hp] at e1
  injection e1 with e1
  subst e1
  exact heap_lt hh
/-- The call returned two whole numbers, in memory of their own (the first one's block lies below m, the second one's from m on). -/
def DM (w : World) (q r : Int) (e : Ending) (w' : World) : Prop :=
 ∃ A c B d m, e = .returned (.tuple #[.agg #[.bool (decide (q < 0)), .slice A (ln b16 q.natAbs) c], .agg #[.bool (decide (r < 0)), .slice B (ln b16 r.natAbs) d], .int .i64 0]) ∧
  Own16 w.heap.size w' A (ln b16 q.natAbs) c (dgt b16 q.natAbs) ∧ (∀ p, A = some p → p.block < m) ∧ w.heap.size ≤ m ∧ Own16 m w' B (ln b16 r.natAbs) d (dgt b16 r.natAbs) ∧ Below w.heap.size w w'
theorem WW.vals {w w' : World} {z : Bool} {x : Nat} {e : Ending} (h : WW w z x e w') : ∃ s A c, e = .returned (.agg #[.bool s, .slice A (ln b16 x) c]) ∧ Hid (s = z) ∧ Own16 w.heap.size w' A (ln b16 x) c (dgt b16 x) ∧ Below w.heap.size w w' := by
 obtain ⟨A, c, he, ho, hb⟩ := h
 exact ⟨z, A, c, he, Lib.hid rfl, ho, hb⟩
theorem num32_one (w : World) : Num32 (w.alloc (.cells #[.int .u32 1] 144)) (some ⟨w.heap.size, 0, none⟩) 1 := fun _ =>
 ⟨w.heap.size, 0, rfl, by simp, fun i hi => by
  have e1 : ln b32 1 = 1 := ln_small b32_two (by decide) (by decide)
  obtain rfl : i = 0 := by omega
  exact cell_of_row _ _ 0 _ _ (0, 0) (heap_alloc_new _ _)⟩
theorem TwoP.storeAt {w : World} {s t : Bool} {A B : Option Addr} {n m c d : Nat} {w' : World} (h : TwoP w s t A B n m c d w') {R : Nat} (hR : w.heap.size + 1 < R) (s' : Bool) (v' : Value) :
  TwoP w s t A B n m c d ((w'.setCell ⟨R, 0, none⟩ (.bool s')).setCell ⟨R, 1, none⟩ v') :=
 have e0 : w.heap.size ≠ R := by omega
 have e1 : w.heap.size + 1 ≠ R := by omega
 have e2 : w.heap.size ≤ R := by omega
 ⟨h.p0.other e0 s' v', h.p1.other e1 s' v', (h.bel.setCell (p := ⟨R, 0, none⟩) e2 _).setCell (p := ⟨R, 1, none⟩) e2 _⟩
set_option maxRecDepth 100000 in
set_option maxHeartbeats 4000000 in
theorem divMod_walk (s t : Bool) (x y : Nat) (zq zr : Int) (A B : Option Addr) (c d : Nat) (w : World) (hA : Num16 w A x) (hB : Num16 w B y) (la : ln b16 x ≤ 1024) (lb : ln b16 y ≤ 1024) (hy : 0 < y)
  (hok : (okW s (ln b16 x) (dgt b16 x) && okW t (ln b16 y) (dgt b16 y)) = true)
  (HSAME : Hid (¬ (s ≠ t ∧ 0 < x % y) → toI (s != t) (x / y) = zq ∧ toI t (x % y) = zr)) (HUP : Hid (s ≠ t → 0 < x % y → toI (s != t) (x / y + 1) = zq ∧ toI t (y - x % y) = zr)) :
  Calls Tryz.prog 92 #[.agg #[.bool s, .slice A (ln b16 x) c], .agg #[.bool t, .slice B (ln b16 y) d]] w (DM w zq zr) := by
 have htwo := two_call3 s t A B (ln b16 x) (ln b16 y) c d _ _ w hA hB (fun i => dgt16_lt _ i) (fun i => dgt16_lt _ i) (by omega) (by omega)
 rw [hok] at htwo
 clear hok
 have la2 := ln32_short la
 have lb2 := ln32_short lb
 have hyl : 0 < ln b16 y := (ln_pos b16_two).2 hy
 have tb0 : (((ln b16 y : Nat) : Int) == 0) = false := beq_eq_false_iff_ne.2 (by omega)
 have hqx : x / y ≤ x := Nat.div_le_self ..
 have hmod := Nat.mod_lt x hy
 have lq : ln b32 (x / y) ≤ 512 := Nat.le_trans (ln_mono b32_two hqx) la2
 have lr : ln b32 (x % y) ≤ 512 := Nat.le_trans (ln_mono b32_two (Nat.le_of_lt hmod)) lb2
 have hcases : (s = t ∨ (s ≠ t ∧ x % y = 0)) ∨ (s ≠ t ∧ 0 < x % y) := by
  by_cases hst : s = t
  · exact .inl (.inl hst)
  ·
   rcases Nat.eq_zero_or_pos (x % y) with h0 | h0
   · exact .inl (.inr ⟨hst, h0⟩)
   · exact .inr ⟨hst, h0⟩
 go_enter Tryz.func92, Tryz.ntmps92
 go_wp2_with fail
 refine htwo.mono ?_
 rintro e w1 ⟨rfl, ht⟩
 obtain ⟨p2, p3⟩ := ht.p1.cells
 go_wp2_with fail
 refine (pack_any B d y w1 (Num16.below hB ht.bel) (by omega)).mono ?_
 rintro e w2 ⟨A2, c2, rfl, hc2, hn2, hb2⟩
 have ht2 := ht.below hb2
 clear ht p2 p3
 obtain ⟨p0, p1⟩ := ht2.p0.cells
 obtain ⟨p2, p3⟩ := ht2.p1.cells
 go_wp2_with fail
 refine (pack_any A c x w2 (Num16.below hA ht2.bel) (by omega)).mono ?_
 rintro e w3 ⟨A3, c3, rfl, hc3, hn3, hb3⟩
 have ht3 := ht2.below hb3
 have hn2' := Num32.below hn2 hb3
 clear ht2 p0 p1 p2 p3
 go_wp2_with fail
 refine (divide_any A3 A2 c3 c2 x y w3 hn3 hn2' hy (by omega)).mono ?_
 rintro e w4 ⟨A4, c4, A5, c5, rfl, hc4, hc5, hn4, hn5, hb4⟩
 have ht4 := ht3.below hb4
 have hn2'' := Num32.below hn2' hb4
 clear ht3 hn2' hn2
 obtain ⟨p0, p1⟩ := ht4.p0.cells
 obtain ⟨p2, p3⟩ := ht4.p1.cells
 rcases hcases with (hst | ⟨hst, hr0⟩) | ⟨hst, hrp⟩
 ·
  subst hst
  have hz : (s != s) = false := by simp
  obtain ⟨hq, hr⟩ := HSAME.out (by simp)
  rw [hz] at hq
  have HQ := Lib.hid hq
  have HR := Lib.hid hr
  clear hq hr hz
  go_wp2_with fail
  have ht0 : Two2 w s s A B (ln b16 x) (ln b16 y) c d w4.drew := ⟨ht4.p0, ht4.p1, ht4.r, ht4.q, ht4.bel.drew⟩
  have D1 := Lib.hid fun (w' : World) (hw' : Below w4.heap.size w4 w') => unpack_any false _ _ _ w' (Num32.below hn4 hw') hc4 (by omega)
  have D2 := Lib.hid fun (w' : World) (hw' : Below w4.heap.size w4 w') => unpack_any s _ _ _ w' (Num32.below hn5 hw') hc5 (by omega)
  have hrefl := (Below.refl w4.heap.size w4).drew
  have hl1 := ht4.r.lt
  have hl2 := ht4.q.lt
  clear p0 p1 p2 p3 ht4
  go_region_held3 (fun w' => w'.cell? ⟨w.heap.size, 0, none⟩ = some (.bool s) ∧ w'.cell? ⟨w.heap.size + 1, 0, none⟩ = some (.bool s) ∧ TwoP w s s A B (ln b16 x) (ln b16 y) c d w')
   (first | with_reducible exact ⟨hP4.p0.cells.1, hP4.p1.cells.1, hP4⟩ | with_reducible exact ⟨hP3.p0.cells.1, hP3.p1.cells.1, hP3⟩ | with_reducible exact ⟨hP2.p0.cells.1, hP2.p1.cells.1, hP2⟩ | with_reducible exact ⟨hP1.p0.cells.1, hP1.p1.cells.1, hP1⟩ | with_reducible exact ⟨ht0.p0.cells.1, ht0.p1.cells.1, ht0.p0, ht0.p1, ht0.bel⟩)
   (first
    | (go_at_call_of 128 (Value.bool false); refine (D1.out _ hrefl).mono ?_; rintro e w5 hww1; obtain ⟨s1, B1, d1, rfl, hS1, hO1, hb5⟩ := hww1.vals; have ht1 := ht0.below hb5; have hP1 : TwoP w s s A B (ln b16 x) (ln b16 y) c d w5 := ⟨ht1.p0, ht1.p1, ht1.bel⟩)
    | (go_at_call_of 128 (Value.bool s); refine (D2.out _ (hrefl.trans (hb5.mono hrefl.size))).mono ?_; rintro e w6 hww2; obtain ⟨s2, B2, d2, rfl, hS2, hO2, hb6⟩ := hww2.vals; have ht2 := ht1.below hb6; have hP2 : TwoP w s s A B (ln b16 x) (ln b16 y) c d w6 := ⟨ht2.p0, ht2.p1, ht2.bel⟩; obtain ⟨r0, r1⟩ := ht2.r.cells; have g0 := ht2.r.frozen 0; have g1 := ht2.r.frozen 1; obtain ⟨r2, r3⟩ := ht2.q.cells; have g2 := ht2.q.frozen 0; have g3 := ht2.q.frozen 1; have hP3 := hP2.storeAt (R := w.heap.size + 1 + 1) (by omega) s1 (.slice B1 (ln b16 (x / y)) d1); have hP4 := hP3.storeAt (R := w.heap.size + 1 + 1 + 1) (by omega) s2 (.slice B2 (ln b16 (x % y)) d2)))
  obtain ⟨hW, hbW⟩ := store_whole ht2.r ht2.bel (show w.heap.size ≤ w.heap.size + 1 + 1 by omega) s1 (.slice B1 (ln b16 (x / y)) d1)
  have hQ := ht2.q.other (R := w.heap.size + 1 + 1) (by omega) s1 (.slice B1 (ln b16 (x / y)) d1)
  obtain ⟨hW2, hbW2⟩ := store_whole hQ hbW (show w.heap.size ≤ w.heap.size + 1 + 1 + 1 by omega) s2 (.slice B2 (ln b16 (x % y)) d2)
  have hW1 := hW.other (R := w.heap.size + 1 + 1 + 1) (by omega) s2 (.slice B2 (ln b16 (x % y)) d2)
  have hl5 : w4.heap.size ≤ w5.heap.size := hb5.size
  have o1 := store_own (store_own (hO1.below hb6 (Nat.le_refl _)) hl1 s1 (.slice B1 (ln b16 (x / y)) d1)) hl2 s2 (.slice B2 (ln b16 (x % y)) d2)
  have o2 := store_own (store_own hO2 (Nat.lt_of_lt_of_le hl1 hl5) s1 (.slice B1 (ln b16 (x / y)) d1)) (Nat.lt_of_lt_of_le hl2 hl5) s2 (.slice B2 (ln b16 (x % y)) d2)
  have o1l := hO1.lt
  clear hW hQ r0 r1 r2 r3 g0 g1 g2 g3 ht0 ht1 ht2 hP1 hP2 hP3 hP4 hbW hO1 hO2 D1 D2
  go_wp2
  generalize ((((w6.setCell ⟨w.heap.size + 1 + 1, 0, none⟩ (.bool s1)).setCell ⟨w.heap.size + 1 + 1, 1, none⟩ (.slice B1 (ln b16 (x / y)) d1)).setCell ⟨w.heap.size + 1 + 1 + 1, 0, none⟩ (.bool s2)).setCell ⟨w.heap.size + 1 + 1 + 1, 1, none⟩ (.slice B2 (ln b16 (x % y)) d2)) = W7 at *
  obtain ⟨k0, k1⟩ := hW1.cells
  obtain ⟨k2, k3⟩ := hW2.cells
  refine bodyPost_ret (v := .tuple #[.agg #[.bool s1, .slice B1 (ln b16 (x / y)) d1], .agg #[.bool s2, .slice B2 (ln b16 (x % y)) d2], .int .i64 0]) (by simp [results, Tryz.results92, go_sem, k0, k1, k2, k3]) rfl ?_
  rw [← HQ.out, ← HR.out]
  exact ⟨B1, d1, B2, d2, w5.heap.size, by rw [toI_neg, toI_abs, toI_neg, toI_abs, hS1.out, hS2.out], by rw [toI_abs]; exact o1.lower (show w.heap.size ≤ w4.heap.size by omega), o1l, by omega, by rw [toI_abs]; exact o2, hbW2⟩
 ·
  have hz : (s != t) = true := bne_iff_ne.2 hst
  have t1 : (s == t) = false := beq_eq_false_iff_ne.2 hst
  have hl0 : ((ln b32 (x % y) : Nat) : Int) ≤ 0 := by rw [hr0, ln_zero]; decide
  have t2 : decide ((0 : Int) < ((ln b32 (x % y) : Nat) : Int)) = false := decide_eq_false (by omega)
  obtain ⟨hq, hr⟩ := HSAME.out (fun h => by omega)
  rw [hz] at hq
  have HQ := Lib.hid hq
  have HR := Lib.hid hr
  clear hq hr hr0 hz
  go_wp2_with fail
  have ht0 : Two2 w s t A B (ln b16 x) (ln b16 y) c d w4.drew := ⟨ht4.p0, ht4.p1, ht4.r, ht4.q, ht4.bel.drew⟩
  have D1 := Lib.hid fun (w' : World) (hw' : Below w4.heap.size w4 w') => unpack_any true _ _ _ w' (Num32.below hn4 hw') hc4 (by omega)
  have D2 := Lib.hid fun (w' : World) (hw' : Below w4.heap.size w4 w') => unpack_any t _ _ _ w' (Num32.below hn5 hw') hc5 (by omega)
  have hrefl := (Below.refl w4.heap.size w4).drew
  have hl1 := ht4.r.lt
  have hl2 := ht4.q.lt
  clear p0 p1 p2 p3 ht4
  go_region_held3 (fun w' => w'.cell? ⟨w.heap.size, 0, none⟩ = some (.bool s) ∧ w'.cell? ⟨w.heap.size + 1, 0, none⟩ = some (.bool t) ∧ TwoP w s t A B (ln b16 x) (ln b16 y) c d w')
   (first | with_reducible exact ⟨hP4.p0.cells.1, hP4.p1.cells.1, hP4⟩ | with_reducible exact ⟨hP3.p0.cells.1, hP3.p1.cells.1, hP3⟩ | with_reducible exact ⟨hP2.p0.cells.1, hP2.p1.cells.1, hP2⟩ | with_reducible exact ⟨hP1.p0.cells.1, hP1.p1.cells.1, hP1⟩ | with_reducible exact ⟨ht0.p0.cells.1, ht0.p1.cells.1, ht0.p0, ht0.p1, ht0.bel⟩)
   (first
    | (go_at_call_of 128 (Value.bool true); refine (D1.out _ hrefl).mono ?_; rintro e w5 hww1; obtain ⟨s1, B1, d1, rfl, hS1, hO1, hb5⟩ := hww1.vals; have ht1 := ht0.below hb5; have hP1 : TwoP w s t A B (ln b16 x) (ln b16 y) c d w5 := ⟨ht1.p0, ht1.p1, ht1.bel⟩)
    | (go_at_call_of 128 (Value.bool t); refine (D2.out _ (hrefl.trans (hb5.mono hrefl.size))).mono ?_; rintro e w6 hww2; obtain ⟨s2, B2, d2, rfl, hS2, hO2, hb6⟩ := hww2.vals; have ht2 := ht1.below hb6; have hP2 : TwoP w s t A B (ln b16 x) (ln b16 y) c d w6 := ⟨ht2.p0, ht2.p1, ht2.bel⟩; obtain ⟨r0, r1⟩ := ht2.r.cells; have g0 := ht2.r.frozen 0; have g1 := ht2.r.frozen 1; obtain ⟨r2, r3⟩ := ht2.q.cells; have g2 := ht2.q.frozen 0; have g3 := ht2.q.frozen 1; have hP3 := hP2.storeAt (R := w.heap.size + 1 + 1) (by omega) s1 (.slice B1 (ln b16 (x / y)) d1); have hP4 := hP3.storeAt (R := w.heap.size + 1 + 1 + 1) (by omega) s2 (.slice B2 (ln b16 (x % y)) d2)))
  obtain ⟨hW, hbW⟩ := store_whole ht2.r ht2.bel (show w.heap.size ≤ w.heap.size + 1 + 1 by omega) s1 (.slice B1 (ln b16 (x / y)) d1)
  have hQ := ht2.q.other (R := w.heap.size + 1 + 1) (by omega) s1 (.slice B1 (ln b16 (x / y)) d1)
  obtain ⟨hW2, hbW2⟩ := store_whole hQ hbW (show w.heap.size ≤ w.heap.size + 1 + 1 + 1 by omega) s2 (.slice B2 (ln b16 (x % y)) d2)
  have hW1 := hW.other (R := w.heap.size + 1 + 1 + 1) (by omega) s2 (.slice B2 (ln b16 (x % y)) d2)
  have hl5 : w4.heap.size ≤ w5.heap.size := hb5.size
  have o1 := store_own (store_own (hO1.below hb6 (Nat.le_refl _)) hl1 s1 (.slice B1 (ln b16 (x / y)) d1)) hl2 s2 (.slice B2 (ln b16 (x % y)) d2)
  have o2 := store_own (store_own hO2 (Nat.lt_of_lt_of_le hl1 hl5) s1 (.slice B1 (ln b16 (x / y)) d1)) (Nat.lt_of_lt_of_le hl2 hl5) s2 (.slice B2 (ln b16 (x % y)) d2)
  have o1l := hO1.lt
  clear hW hQ r0 r1 r2 r3 g0 g1 g2 g3 ht0 ht1 ht2 hP1 hP2 hP3 hP4 hbW hO1 hO2 D1 D2
  go_wp2
  generalize ((((w6.setCell ⟨w.heap.size + 1 + 1, 0, none⟩ (.bool s1)).setCell ⟨w.heap.size + 1 + 1, 1, none⟩ (.slice B1 (ln b16 (x / y)) d1)).setCell ⟨w.heap.size + 1 + 1 + 1, 0, none⟩ (.bool s2)).setCell ⟨w.heap.size + 1 + 1 + 1, 1, none⟩ (.slice B2 (ln b16 (x % y)) d2)) = W7 at *
  obtain ⟨k0, k1⟩ := hW1.cells
  obtain ⟨k2, k3⟩ := hW2.cells
  refine bodyPost_ret (v := .tuple #[.agg #[.bool s1, .slice B1 (ln b16 (x / y)) d1], .agg #[.bool s2, .slice B2 (ln b16 (x % y)) d2], .int .i64 0]) (by simp [results, Tryz.results92, go_sem, k0, k1, k2, k3]) rfl ?_
  rw [← HQ.out, ← HR.out]
  exact ⟨B1, d1, B2, d2, w5.heap.size, by rw [toI_neg, toI_abs, toI_neg, toI_abs, hS1.out, hS2.out], by rw [toI_abs]; exact o1.lower (show w.heap.size ≤ w4.heap.size by omega), o1l, by omega, by rw [toI_abs]; exact o2, hbW2⟩
 ·
  have hz : (s != t) = true := bne_iff_ne.2 hst
  have t1 : (s == t) = false := beq_eq_false_iff_ne.2 hst
  have hl0 : 0 < ln b32 (x % y) := (ln_pos b32_two).2 hrp
  have t2 : decide ((0 : Int) < ((ln b32 (x % y) : Nat) : Int)) = true := decide_eq_true (by omega)
  obtain ⟨hq, hr⟩ := HUP.out hst hrp
  rw [hz] at hq
  have HQ := Lib.hid hq
  have HR := Lib.hid hr
  clear hq hr hz
  go_wp2_with fail
  have b1 : Below w4.heap.size w4 (w4.alloc (.cells #[.int .u32 1] 144)) := (Below.refl _ w4).alloc (Nat.le_refl _) _
  have hone : Num32 (w4.alloc (.cells #[.int .u32 1] 144)) (some ⟨w4.heap.size, 0, none⟩) 1 := num32_one w4
  have e1 : ln b32 1 = 1 := ln_small b32_two (by decide) (by decide)
  have hplus := plus_any A4 (some ⟨w4.heap.size, 0, none⟩) c4 1 (x / y) 1 _ (Num32.below hn4 b1) hone (by omega) (by omega)
  rw [e1] at hplus
  refine hplus.mono ?_
  clear hplus e1 hone
  rintro e w8 ⟨A8, c8, rfl, hc8, hn8, hb8⟩
  have ht8 := (ht4.below b1).below hb8
  have hn5b := Num32.below (Num32.below hn5 b1) hb8
  have hn2c := Num32.below (Num32.below hn2'' b1) hb8
  have lq1 : ln b32 (x / y + 1) ≤ 512 + 1 := ln_add b32_two lq (by rw [ln_small b32_two (by decide) (by decide)]; decide)
  have lr1 : ln b32 (y - x % y) ≤ 512 := Nat.le_trans (ln_mono b32_two (Nat.sub_le ..)) lb2
  clear hn4 hn5 hn2'' ht4 p0 p1 p2 p3
  obtain ⟨p0, p1⟩ := ht8.p0.cells
  obtain ⟨p2, p3⟩ := ht8.p1.cells
  go_wp2_with fail
  refine (minus_any A2 A5 c2 c5 y (x % y) _ hn2c hn5b (Nat.le_of_lt hmod) (by omega)).mono ?_
  rintro e w9 ⟨A9, c9, rfl, hc9, hn9, hb9⟩
  have ht9 := ht8.below hb9
  have hn8b := Num32.below hn8 hb9
  clear ht8 hn5b hn2c hn8 p0 p1 p2 p3
  obtain ⟨p0, p1⟩ := ht9.p0.cells
  obtain ⟨p2, p3⟩ := ht9.p1.cells
  go_wp2_with fail
  have ht0 : Two2 w s t A B (ln b16 x) (ln b16 y) c d w9.drew := ⟨ht9.p0, ht9.p1, ht9.r, ht9.q, ht9.bel.drew⟩
  have D1 := Lib.hid fun (w' : World) (hw' : Below w9.heap.size w9 w') => unpack_any true _ _ _ w' (Num32.below hn8b hw') hc8 (by omega)
  have D2 := Lib.hid fun (w' : World) (hw' : Below w9.heap.size w9 w') => unpack_any t _ _ _ w' (Num32.below hn9 hw') hc9 (by omega)
  have hrefl := (Below.refl w9.heap.size w9).drew
  have hl1 := ht9.r.lt
  have hl2 := ht9.q.lt
  clear p0 p1 p2 p3 ht9
  go_region_held3 (fun w' => w'.cell? ⟨w.heap.size, 0, none⟩ = some (.bool s) ∧ w'.cell? ⟨w.heap.size + 1, 0, none⟩ = some (.bool t) ∧ TwoP w s t A B (ln b16 x) (ln b16 y) c d w')
   (first | with_reducible exact ⟨hP4.p0.cells.1, hP4.p1.cells.1, hP4⟩ | with_reducible exact ⟨hP3.p0.cells.1, hP3.p1.cells.1, hP3⟩ | with_reducible exact ⟨hP2.p0.cells.1, hP2.p1.cells.1, hP2⟩ | with_reducible exact ⟨hP1.p0.cells.1, hP1.p1.cells.1, hP1⟩ | with_reducible exact ⟨ht0.p0.cells.1, ht0.p1.cells.1, ht0.p0, ht0.p1, ht0.bel⟩)
   (first
    | (go_at_call_of 128 (Value.bool true); refine (D1.out _ hrefl).mono ?_; rintro e w5 hww1; obtain ⟨s1, B1, d1, rfl, hS1, hO1, hb5⟩ := hww1.vals; have ht1 := ht0.below hb5; have hP1 : TwoP w s t A B (ln b16 x) (ln b16 y) c d w5 := ⟨ht1.p0, ht1.p1, ht1.bel⟩)
    | (go_at_call_of 128 (Value.bool t); refine (D2.out _ (hrefl.trans (hb5.mono hrefl.size))).mono ?_; rintro e w6 hww2; obtain ⟨s2, B2, d2, rfl, hS2, hO2, hb6⟩ := hww2.vals; have ht2 := ht1.below hb6; have hP2 : TwoP w s t A B (ln b16 x) (ln b16 y) c d w6 := ⟨ht2.p0, ht2.p1, ht2.bel⟩; obtain ⟨r0, r1⟩ := ht2.r.cells; have g0 := ht2.r.frozen 0; have g1 := ht2.r.frozen 1; obtain ⟨r2, r3⟩ := ht2.q.cells; have g2 := ht2.q.frozen 0; have g3 := ht2.q.frozen 1; have hP3 := hP2.storeAt (R := w.heap.size + 1 + 1) (by omega) s1 (.slice B1 (ln b16 (x / y + 1)) d1); have hP4 := hP3.storeAt (R := w.heap.size + 1 + 1 + 1) (by omega) s2 (.slice B2 (ln b16 (y - x % y)) d2)))
  obtain ⟨hW, hbW⟩ := store_whole ht2.r ht2.bel (show w.heap.size ≤ w.heap.size + 1 + 1 by omega) s1 (.slice B1 (ln b16 (x / y + 1)) d1)
  have hQ := ht2.q.other (R := w.heap.size + 1 + 1) (by omega) s1 (.slice B1 (ln b16 (x / y + 1)) d1)
  obtain ⟨hW2, hbW2⟩ := store_whole hQ hbW (show w.heap.size ≤ w.heap.size + 1 + 1 + 1 by omega) s2 (.slice B2 (ln b16 (y - x % y)) d2)
  have hW1 := hW.other (R := w.heap.size + 1 + 1 + 1) (by omega) s2 (.slice B2 (ln b16 (y - x % y)) d2)
  have hl5 : w9.heap.size ≤ w5.heap.size := hb5.size
  have o1 := store_own (store_own (hO1.below hb6 (Nat.le_refl _)) hl1 s1 (.slice B1 (ln b16 (x / y + 1)) d1)) hl2 s2 (.slice B2 (ln b16 (y - x % y)) d2)
  have o2 := store_own (store_own hO2 (Nat.lt_of_lt_of_le hl1 hl5) s1 (.slice B1 (ln b16 (x / y + 1)) d1)) (Nat.lt_of_lt_of_le hl2 hl5) s2 (.slice B2 (ln b16 (y - x % y)) d2)
  have o1l := hO1.lt
  clear hW hQ r0 r1 r2 r3 g0 g1 g2 g3 ht0 ht1 ht2 hP1 hP2 hP3 hP4 hbW hO1 hO2 D1 D2
  go_wp2
  generalize ((((w6.setCell ⟨w.heap.size + 1 + 1, 0, none⟩ (.bool s1)).setCell ⟨w.heap.size + 1 + 1, 1, none⟩ (.slice B1 (ln b16 (x / y + 1)) d1)).setCell ⟨w.heap.size + 1 + 1 + 1, 0, none⟩ (.bool s2)).setCell ⟨w.heap.size + 1 + 1 + 1, 1, none⟩ (.slice B2 (ln b16 (y - x % y)) d2)) = W7 at *
  obtain ⟨k0, k1⟩ := hW1.cells
  obtain ⟨k2, k3⟩ := hW2.cells
  refine bodyPost_ret (v := .tuple #[.agg #[.bool s1, .slice B1 (ln b16 (x / y + 1)) d1], .agg #[.bool s2, .slice B2 (ln b16 (y - x % y)) d2], .int .i64 0]) (by simp [results, Tryz.results92, go_sem, k0, k1, k2, k3]) rfl ?_
  rw [← HQ.out, ← HR.out]
  exact ⟨B1, d1, B2, d2, w5.heap.size, by rw [toI_neg, toI_abs, toI_neg, toI_abs, hS1.out, hS2.out], by rw [toI_abs]; exact o1.lower (show w.heap.size ≤ w9.heap.size by omega), o1l, by omega, by rw [toI_abs]; exact o2, hbW2⟩

theorem divMod_any (a b : Int) (A B : Option Addr) (c d : Nat) (w : World) (hA : Num16 w A a.natAbs) (hB : Num16 w B b.natAbs) (ha : ln b16 a.natAbs ≤ 1024) (hb : ln b16 b.natAbs ≤ 1024) (hb0 : b ≠ 0) :
  Calls Tryz.prog 92 #[.agg #[.bool (decide (a < 0)), .slice A (ln b16 a.natAbs) c], .agg #[.bool (decide (b < 0)), .slice B (ln b16 b.natAbs) d]] w (DM w (a.fdiv b) (a.fmod b)) :=
 divMod_walk _ _ _ _ _ _ A B c d w hA hB ha hb (by omega) (okW_two ha hb) (Lib.hid (floor_same a hb0)) (Lib.hid (floor_up a hb0))
end Go.Proofs.YtjgihmmeimfheaaGreat
namespace Go.Proofs.YtjgihmmeimfheaaGreat
open Go.RowKit

/-- The call returned a zero value and an error. -/
def ErrW1 (k : Int) (w : World) (e : Ending) (w' : World) : Prop := e = .returned (.tuple #[.agg #[.bool false, .slice none 0 0], .int .i64 k]) ∧ Below w.heap.size w w'
end Go.Proofs.YtjgihmmeimfheaaGreat
