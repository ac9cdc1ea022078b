/-
  The walks of whole.Add, Sub, Mul and Gcd.
-/
import Derived.Test.YtafglggjncnkkaaDoorSum
import Derived.Test.YtafglggjncnkkaaDoorValid
import Derived.Test.YtafglggjncnkkaaDoorPack
import Derived.Test.YtafglggjncnkkaaDoorTimes
import Derived.Test.YtafglggjncnkkaaDoorGcd
import Derived.Deep.RegionHeld3
namespace Go.Proofs.YtafglggjncnkkaaDoor
open Go.RowKit

theorem allValid_two (g : Nat) (s t : Bool) (A B : Option Addr) (n m c d : Nat) (f h : Nat → Nat) (w : World)
    (hg : w.heap[g]? = some (.cells #[.bool s, .slice A n c, .bool t, .slice B m d] 24 (0, 0)))
    (hA : Rd w.heap.size .u16 w A n f) (hB : Rd w.heap.size .u16 w B m h) (hf : ∀ i, f i < 65536) (hh : ∀ i, h i < 65536) (hn : n ≤ 1000000) (hm : m ≤ 1000000) :
    Calls Tryd.prog 38 #[.slice (some ⟨g, 0, none⟩) 2 2] w fun e w' => e = .returned (.bool (okW s n f && okW t m h)) ∧ Below w.heap.size w w' := by
  refine (allValid_any g 0 2 (fun i => if i = 0 then s else t) (fun i => if i = 0 then A else B) (fun i => if i = 0 then n else m) (fun i => if i = 0 then c else d) (fun i => if i = 0 then f else h) w ?_ (heap_lt hg) (by omega)).mono ?_
  · intro i hi
    match i, hi with
    | 0, _ => exact ⟨(cell_of_row w g 0 _ _ (0, 0) hg).trans rfl, (cell_of_row w g 1 _ _ (0, 0) hg).trans rfl, hA, fun j _ => hf j, hn⟩
    | 1, _ => exact ⟨(cell_of_row w g 2 _ _ (0, 0) hg).trans rfl, (cell_of_row w g 3 _ _ (0, 0) hg).trans rfl, hB, fun j _ => hh j, hm⟩
  · rintro e w' ⟨rfl, hb⟩
    exact ⟨ret_bool (by simp [okAll]), hb⟩

/-- The boxes of the two arguments and the result's variable. -/
structure Two (w : World) (s t : Bool) (A B : Option Addr) (n m c d : Nat) (w' : World) : Prop where
  p0 : WholeAt w' w.heap.size s (.slice A n c)
  p1 : WholeAt w' (w.heap.size + 1) t (.slice B m d)
  r : WholeAt w' (w.heap.size + 1 + 1) false (.slice none 0 0)
  bel : Below w.heap.size w w'
theorem two_call (s t : Bool) (A B : Option Addr) (n m c d : Nat) (f h : Nat → Nat) (w : World)
    (hA : Rd w.heap.size .u16 w A n f) (hB : Rd w.heap.size .u16 w B m h) (hf : ∀ i, f i < 65536) (hh : ∀ i, h i < 65536) (hn : n ≤ 1000000) (hm : m ≤ 1000000) :
    Calls Tryd.prog 38 #[.slice (some ⟨w.heap.size + 1 + 1 + 1, 0, none⟩) 2 2]
      ((((w.alloc (.cells #[.bool s, .slice A n c] 24)).alloc (.cells #[.bool t, .slice B m d] 24)).alloc (.cells #[.bool false, .slice none 0 0] 24)).alloc (.cells #[.bool s, .slice A n c, .bool t, .slice B m d] 24))
      fun e w' => e = .returned (.bool (okW s n f && okW t m h)) ∧ Two w s t A B n m c d w' := by
  have b1 : Below w.heap.size w (w.alloc (.cells #[.bool s, .slice A n c] 24)) := (Below.refl _ w).alloc (Nat.le_refl _) _
  have b2 := b1.alloc (by simp) (.cells #[.bool t, .slice B m d] 24)
  have b3 := b2.alloc (by first | (simp; done) | (simp; omega)) (.cells #[.bool false, .slice none 0 0] 24)
  have b4 := b3.alloc (by first | (simp; done) | (simp; omega)) (.cells #[.bool s, .slice A n c, .bool t, .slice B m d] 24)
  have q0 := WholeAt.new w s (.slice A n c)
  have q1 := WholeAt.new (w.alloc (.cells #[.bool s, .slice A n c] 24)) t (.slice B m d)
  have q2 := WholeAt.new ((w.alloc (.cells #[.bool s, .slice A n c] 24)).alloc (.cells #[.bool t, .slice B m d] 24)) false (.slice none 0 0)
  have q3 := heap_alloc_new (((w.alloc (.cells #[.bool s, .slice A n c] 24)).alloc (.cells #[.bool t, .slice B m d] 24)).alloc (.cells #[.bool false, .slice none 0 0] 24)) (.cells #[.bool s, .slice A n c, .bool t, .slice B m d] 24)
  simp only [World.size_alloc] at q1 q2 q3
  refine (allValid_two (w.heap.size + 1 + 1 + 1) s t A B n m c d f h _ q3 ((hA.below b4).more b4.size) ((hB.below b4).more b4.size) hf hh hn hm).mono ?_
  rintro e w' ⟨rfl, hb⟩
  refine ⟨rfl, ?_, ?_, ?_, b4.trans (hb.mono b4.size)⟩
  · refine WholeAt.below ?_ hb (by first | (simp; done) | (simp; omega))
    exact (Below.heap_alloc _ _ _ (by first | (simp; done) | (simp; omega))).trans ((Below.heap_alloc _ _ _ (by first | (simp; done) | (simp; omega))).trans ((Below.heap_alloc _ _ _ (by simp)).trans q0))
  · refine WholeAt.below ?_ hb (by first | (simp; done) | (simp; omega))
    exact (Below.heap_alloc _ _ _ (by first | (simp; done) | (simp; omega))).trans ((Below.heap_alloc _ _ _ (by simp)).trans q1)
  · refine WholeAt.below ?_ hb (by simp)
    exact (Below.heap_alloc _ _ _ (by simp)).trans q2

/-- The call returned zero values and ErrArg. -/
def ErrArgW (w : World) (e : Ending) (w' : World) : Prop := e = .returned (.tuple #[.agg #[.bool false, .slice none 0 0], .int .i64 2]) ∧ Below w.heap.size w w'

set_option maxRecDepth 100000 in
set_option maxHeartbeats 1000000 in
theorem add_bad (s t : Bool) (A B : Option Addr) (n m c d : Nat) (f h : Nat → Nat) (w : World)
    (hA : Rd w.heap.size .u16 w A n f) (hB : Rd w.heap.size .u16 w B m h) (hf : ∀ i, f i < 65536) (hh : ∀ i, h i < 65536) (hn : n ≤ 1000000) (hm : m ≤ 1000000)
    (hok : (okW s n f && okW t m h) = false) :
    Calls Tryd.prog 24 #[.agg #[.bool s, .slice A n c], .agg #[.bool t, .slice B m d]] w (ErrArgW w) := by
  go_enter Tryd.func24, Tryd.ntmps24
  go_wp2_with fail
  refine (two_call s t A B n m c d f h w hA hB hf hh hn hm).mono ?_
  rintro e w1 ⟨rfl, ht⟩
  rw [hok]
  obtain ⟨r0, r1⟩ := ht.r.cells
  have g0 := ht.r.frozen 0
  have g1 := ht.r.frozen 1
  obtain ⟨hW, hbW⟩ := store_whole ht.r ht.bel (by omega) false (.slice none 0 0)
  have HW := Lib.hid hW
  clear hW
  go_wp2_with fail
  have hW := HW.out
  clear HW ht r0 r1
  generalize ((w1.setCell ⟨w.heap.size + 1 + 1, 0, none⟩ (.bool false)).setCell ⟨w.heap.size + 1 + 1, 1, none⟩ (.slice none 0 0)) = WW at *
  obtain ⟨k0, k1⟩ := hW.cells
  refine bodyPost_ret (v := .tuple #[.agg #[.bool false, .slice none 0 0], .int .i64 2]) (by simp [results, Tryd.results24, go_sem, k0, k1]) rfl ?_
  exact ⟨rfl, hbW⟩

/-- The boxes of the two arguments. -/
structure TwoP (w : World) (s t : Bool) (A B : Option Addr) (n m c d : Nat) (w' : World) : Prop where
  p0 : WholeAt w' w.heap.size s (.slice A n c)
  p1 : WholeAt w' (w.heap.size + 1) t (.slice B m d)
  bel : Below w.heap.size w w'
theorem TwoP.below {w : World} {s t : Bool} {A B : Option Addr} {n m c d : Nat} {w' w'' : World} (h : TwoP w s t A B n m c d w') (h2 : Below w'.heap.size w' w'') : TwoP w s t A B n m c d w'' :=
  ⟨h.p0.below h2 h.p0.lt, h.p1.below h2 h.p1.lt, h.bel.trans (h2.mono h.bel.size)⟩
theorem TwoP.store {w : World} {s t : Bool} {A B : Option Addr} {n m c d : Nat} {w' : World} (h : TwoP w s t A B n m c d w') (s' : Bool) (v' : Value) :
    TwoP w s t A B n m c d ((w'.setCell ⟨w.heap.size + 1 + 1, 0, none⟩ (.bool s')).setCell ⟨w.heap.size + 1 + 1, 1, none⟩ v') :=
  have e0 : w.heap.size ≠ w.heap.size + 1 + 1 := by omega
  have e1 : w.heap.size + 1 ≠ w.heap.size + 1 + 1 := by omega
  have e2 : w.heap.size ≤ w.heap.size + 1 + 1 := by omega
  ⟨(Below.heap_setCell _ _ _ _ e0).trans ((Below.heap_setCell _ _ _ _ e0).trans h.p0), (Below.heap_setCell _ _ _ _ e1).trans ((Below.heap_setCell _ _ _ _ e1).trans h.p1),
    (h.bel.setCell (p := ⟨w.heap.size + 1 + 1, 0, none⟩) e2 _).setCell (p := ⟨w.heap.size + 1 + 1, 1, none⟩) e2 _⟩
theorem TwoP.s {w : World} {s t : Bool} {A B : Option Addr} {n m c d : Nat} {w' : World} (h : TwoP w s t A B n m c d w') :
    w'.cell? ⟨w.heap.size, 0, none⟩ = some (.bool s) ∧ w'.cell? ⟨w.heap.size, 1, none⟩ = some (.slice A n c) ∧ w'.cell? ⟨w.heap.size + 1, 0, none⟩ = some (.bool t) ∧ w'.cell? ⟨w.heap.size + 1, 1, none⟩ = some (.slice B m d) ∧ TwoP w s t A B n m c d w' := ⟨h.p0.cells.1, h.p0.cells.2, h.p1.cells.1, h.p1.cells.2, h⟩
theorem okW_two {a b : Int} (ha : ln b16 a.natAbs ≤ 1024) (hb : ln b16 b.natAbs ≤ 1024) : (okW (decide (a < 0)) (ln b16 a.natAbs) (dgt b16 a.natAbs) && okW (decide (b < 0)) (ln b16 b.natAbs) (dgt b16 b.natAbs)) = true := by
  rw [okW_num ha, okW_num hb]; rfl
theorem ln32_short {x : Nat} (h : ln b16 x ≤ 1024) : ln b32 x ≤ 512 := by rw [ln32_two]; omega

set_option maxRecDepth 100000 in
set_option maxHeartbeats 4000000 in
theorem add_any (a b : Int) (A B : Option Addr) (c d : Nat) (w : World) (hA : Num16 w A a.natAbs) (hB : Num16 w B b.natAbs) (ha : ln b16 a.natAbs ≤ 1024) (hb : ln b16 b.natAbs ≤ 1024) :
    Calls Tryd.prog 24 #[.agg #[.bool (decide (a < 0)), .slice A (ln b16 a.natAbs) c], .agg #[.bool (decide (b < 0)), .slice B (ln b16 b.natAbs) d]] w (RI w (a + b)) := by
  have htwo := two_call (decide (a < 0)) (decide (b < 0)) A B (ln b16 a.natAbs) (ln b16 b.natAbs) c d _ _ w hA hB (fun i => dgt16_lt _ i) (fun i => dgt16_lt _ i) (by omega) (by omega)
  rw [okW_two ha hb] at htwo
  have la := ln32_short ha
  have lb := ln32_short hb
  have hsum : toI (decide (a < 0)) a.natAbs + toI (decide (b < 0)) b.natAbs = a + b := by rw [toI_int, toI_int]
  have HSUM := Lib.hid hsum
  clear hsum
  obtain ⟨s, hs⟩ : ∃ s, s = decide (a < 0) := ⟨_, rfl⟩
  obtain ⟨t, ht⟩ : ∃ t, t = decide (b < 0) := ⟨_, rfl⟩
  rw [← hs, ← ht] at htwo HSUM ⊢
  clear hs ht
  go_enter Tryd.func24, Tryd.ntmps24
  go_wp2_with fail
  refine htwo.mono ?_
  rintro e w1 ⟨rfl, ht⟩
  have D1 := Lib.hid fun (w' : World) (hw' : Below w.heap.size w w') => pack_any A c a.natAbs w' (Num16.below hA hw') (by omega)
  have D2 := Lib.hid fun (w' : World) (hw' : Below w.heap.size w w') => pack_any B d b.natAbs w' (Num16.below hB hw') (by omega)
  have hT0 : TwoP w s t A B (ln b16 a.natAbs) (ln b16 b.natAbs) c d w1.drew := ⟨ht.p0, ht.p1, ht.bel.drew⟩
  have hR0 : WholeAt w1.drew (w.heap.size + 1 + 1) false (.slice none 0 0) := ht.r
  have HT := Lib.hid ht
  clear ht
  go_wp2_with fail
  go_region_held3 (fun w' => w'.cell? ⟨w.heap.size, 0, none⟩ = some (.bool s) ∧ w'.cell? ⟨w.heap.size, 1, none⟩ = some (.slice A (ln b16 a.natAbs) c) ∧ w'.cell? ⟨w.heap.size + 1, 0, none⟩ = some (.bool t) ∧ w'.cell? ⟨w.heap.size + 1, 1, none⟩ = some (.slice B (ln b16 b.natAbs) d) ∧ TwoP w s t A B (ln b16 a.natAbs) (ln b16 b.natAbs) c d w')
    (first | with_reducible exact hT4.s | with_reducible exact hT3.s | with_reducible exact hT2.s | with_reducible exact hT1.s | with_reducible exact hT0.s)
    (first
      | (go_at_call_of 41 (Value.slice A (ln b16 a.natAbs) c); refine (D1.out _ hT0.bel).mono ?_; rintro e w2 ⟨A1, c1, rfl, hc1, hn1, hb1⟩; have hT1 := hT0.below hb1)
      | (go_at_call_of 41 (Value.slice B (ln b16 b.natAbs) d); refine (D2.out _ hT1.bel).mono ?_; rintro e w3 ⟨A2, c2, rfl, hc2, hn2, hb2⟩; have hT2 := hT1.below hb2)
      | (go_at_call 49; refine (sum_any s t A1 A2 c1 c2 a.natAbs b.natAbs _ (Num32.below hn1 hb2) hn2 (by omega) (by omega)).mono ?_; rintro e w4 hri; obtain ⟨s', A', n', c', k, rfl, hv, hb3⟩ := hri.vals; have hT3 := hT2.below hb3; have hR1 := hR0.below hb1 hR0.lt; have hR2 := hR1.below hb2 hR1.lt; have hR3 := hR2.below hb3 hR2.lt; obtain ⟨r0, r1⟩ := hR3.cells; have g0 := hR3.frozen 0; have g1 := hR3.frozen 1; have hT4 := hT3.store s' (.slice A' n' c')))
  obtain ⟨hW, hbW⟩ := store_whole hR3 hT3.bel (show w.heap.size ≤ w.heap.size + 1 + 1 by omega) s' (.slice A' n' c')
  have hsz := hT2.bel.size
  have hv2 := (hv.store hR2.lt s' (.slice A' n' c')).lower hsz
  rw [HSUM.out] at hv2
  clear hv hT0 hT1 hT2 hT3 hT4 hR0 hR1 hR2 hR3 r0 r1 g0 g1 hri
  go_wp2
  generalize ((w4.setCell ⟨w.heap.size + 1 + 1, 0, none⟩ (.bool s')).setCell ⟨w.heap.size + 1 + 1, 1, none⟩ (.slice A' n' c')) = WW at *
  obtain ⟨k0, k1⟩ := hW.cells
  refine bodyPost_ret (v := .tuple #[.agg #[.bool s', .slice A' n' c'], .int .i64 k]) (by simp [results, Tryd.results24, go_sem, k0, k1]) rfl ?_
  exact hv2.ri hbW
end Go.Proofs.YtafglggjncnkkaaDoor
