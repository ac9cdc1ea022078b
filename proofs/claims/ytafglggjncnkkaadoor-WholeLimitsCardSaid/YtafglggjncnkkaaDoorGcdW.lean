/-
  The walk of whole.Gcd.
-/
import Derived.Test.YtafglggjncnkkaaDoorAdd
namespace Go.Proofs.YtafglggjncnkkaaDoor
open Go.RowKit

theorem ln_gcd (a b : Nat) (m : Nat) (ha : ln b16 a ≤ m) (hb : ln b16 b ≤ m) : ln b16 (Nat.gcd a b) ≤ m := by
  rcases Nat.eq_zero_or_pos a with rfl | h
  · rw [Nat.gcd_zero_left]; exact hb
  · exact Nat.le_trans (ln_mono b16_two (Nat.gcd_le_left b h)) ha
theorem WW.riv {w w' : World} {x : Nat} {e : Ending} (h : WW w (false && decide (0 < x)) x e w') (hl : ln b16 x ≤ 1024) : ∃ A c, e = .returned (.agg #[.bool false, .slice A (ln b16 x) c]) ∧ RIv w.heap.size w' (x : Int) false A (ln b16 x) c 0 ∧ Below w.heap.size w w' := by
  obtain ⟨A, c, he, ho, hb⟩ := h
  refine ⟨A, c, he, .inl ⟨hl, ?_, rfl, rfl, ho⟩, hb⟩
  simp
set_option maxRecDepth 100000 in
set_option maxHeartbeats 1000000 in
theorem gcd_bad (s t : Bool) (A B : Option Addr) (n m c d : Nat) (f h : Nat → Nat) (w : World)
    (hA : Rd w.heap.size .u16 w A n f) (hB : Rd w.heap.size .u16 w B m h) (hf : ∀ i, f i < 65536) (hh : ∀ i, h i < 65536) (hn : n ≤ 1000000) (hm : m ≤ 1000000)
    (hok : (okW s n f && okW t m h) = false) :
    Calls Tryd.prog 14 #[.agg #[.bool s, .slice A n c], .agg #[.bool t, .slice B m d]] w (ErrArgW w) := by
  go_enter Tryd.func14, Tryd.ntmps14
  go_wp2_with fail
  refine (two_call s t A B n m c d f h w hA hB hf hh hn hm).mono ?_
  rintro e w1 ⟨rfl, ht⟩
  rw [hok]
  obtain ⟨r0, r1⟩ := ht.r.cells
  have g0 := ht.r.frozen 0
  have g1 := ht.r.frozen 1
  obtain ⟨hW, hbW⟩ := store_whole ht.r ht.bel (by omega) false (.slice none 0 0)
  have HW := Lib.hid hW
  clear hW
  go_wp2_with fail
  have hW := HW.out
  clear HW ht r0 r1
  generalize ((w1.setCell ⟨w.heap.size + 1 + 1, 0, none⟩ (.bool false)).setCell ⟨w.heap.size + 1 + 1, 1, none⟩ (.slice none 0 0)) = WW at *
  obtain ⟨k0, k1⟩ := hW.cells
  refine bodyPost_ret (v := .tuple #[.agg #[.bool false, .slice none 0 0], .int .i64 2]) (by simp [results, Tryd.results14, go_sem, k0, k1]) rfl ?_
  exact ⟨rfl, hbW⟩

set_option maxRecDepth 100000 in
set_option maxHeartbeats 4000000 in
theorem gcd_any (a b : Int) (A B : Option Addr) (c d : Nat) (w : World) (hA : Num16 w A a.natAbs) (hB : Num16 w B b.natAbs) (ha : ln b16 a.natAbs ≤ 1024) (hb : ln b16 b.natAbs ≤ 1024) :
    Calls Tryd.prog 14 #[.agg #[.bool (decide (a < 0)), .slice A (ln b16 a.natAbs) c], .agg #[.bool (decide (b < 0)), .slice B (ln b16 b.natAbs) d]] w (RI w ((Nat.gcd a.natAbs b.natAbs : Nat) : Int)) := by
  have htwo := two_call (decide (a < 0)) (decide (b < 0)) A B (ln b16 a.natAbs) (ln b16 b.natAbs) c d _ _ w hA hB (fun i => dgt16_lt _ i) (fun i => dgt16_lt _ i) (by omega) (by omega)
  rw [okW_two ha hb] at htwo
  have la := ln32_short ha
  have lb := ln32_short hb
  have lg := ln_gcd a.natAbs b.natAbs 1024 ha hb
  have lg32 := ln32_short lg
  obtain ⟨s, hs⟩ : ∃ s, s = decide (a < 0) := ⟨_, rfl⟩
  obtain ⟨t, ht⟩ : ∃ t, t = decide (b < 0) := ⟨_, rfl⟩
  rw [← hs, ← ht] at htwo ⊢
  clear hs ht
  go_enter Tryd.func14, Tryd.ntmps14
  go_wp2_with fail
  refine htwo.mono ?_
  rintro e w1 ⟨rfl, ht⟩
  have D1 := Lib.hid fun (w' : World) (hw' : Below w.heap.size w w') => pack_any A c a.natAbs w' (Num16.below hA hw') (by omega)
  have D2 := Lib.hid fun (w' : World) (hw' : Below w.heap.size w w') => pack_any B d b.natAbs w' (Num16.below hB hw') (by omega)
  have hT0 : TwoP w s t A B (ln b16 a.natAbs) (ln b16 b.natAbs) c d w1.drew := ⟨ht.p0, ht.p1, ht.bel.drew⟩
  have hR0 : WholeAt w1.drew (w.heap.size + 1 + 1) false (.slice none 0 0) := ht.r
  have HT := Lib.hid ht
  clear ht
  go_wp2_with fail
  go_region_held3 (fun w' => w'.cell? ⟨w.heap.size, 0, none⟩ = some (.bool s) ∧ w'.cell? ⟨w.heap.size, 1, none⟩ = some (.slice A (ln b16 a.natAbs) c) ∧ w'.cell? ⟨w.heap.size + 1, 0, none⟩ = some (.bool t) ∧ w'.cell? ⟨w.heap.size + 1, 1, none⟩ = some (.slice B (ln b16 b.natAbs) d) ∧ TwoP w s t A B (ln b16 a.natAbs) (ln b16 b.natAbs) c d w')
    (first | with_reducible exact hT4.s | with_reducible exact hT3.s | with_reducible exact hT5.s | with_reducible exact hT2.s | with_reducible exact hT1.s | with_reducible exact hT0.s)
    (first
      | (go_at_call_of 41 (Value.slice A (ln b16 a.natAbs) c); refine (D1.out _ hT0.bel).mono ?_; rintro e w2 ⟨A1, c1, rfl, hc1, hn1, hb1⟩; have hT1 := hT0.below hb1)
      | (go_at_call_of 41 (Value.slice B (ln b16 b.natAbs) d); refine (D2.out _ hT1.bel).mono ?_; rintro e w3 ⟨A2, c2, rfl, hc2, hn2, hb2⟩; have hT2 := hT1.below hb2)
      | (go_at_call 40; refine (commonDivisor_any A1 A2 c1 c2 a.natAbs b.natAbs _ (Num32.below hn1 hb2) hn2 (by omega) (by omega) hc1 hc2).mono ?_; rintro e w5 ⟨A3, c3, rfl, hc3, hn3, hb5⟩; have hT5 := hT2.below hb5)
      | (go_at_call 39; refine (unpack_any false A3 c3 (Nat.gcd a.natAbs b.natAbs) _ hn3 hc3 (by omega)).mono ?_; rintro e w4 hri; obtain ⟨A', c', rfl, hv, hb3⟩ := WW.riv hri lg; have hT3 := hT5.below hb3; have hR1 := hR0.below hb1 hR0.lt; have hR2 := hR1.below hb2 hR1.lt; have hR5 := hR2.below hb5 hR2.lt; have hR3 := hR5.below hb3 hR5.lt; obtain ⟨r0, r1⟩ := hR3.cells; have g0 := hR3.frozen 0; have g1 := hR3.frozen 1; have hT4 := hT3.store false (.slice A' (ln b16 (Nat.gcd a.natAbs b.natAbs)) c')))
  obtain ⟨hW, hbW⟩ := store_whole hR3 hT3.bel (show w.heap.size ≤ w.heap.size + 1 + 1 by omega) false (.slice A' (ln b16 (Nat.gcd a.natAbs b.natAbs)) c')
  have hsz := hT5.bel.size
  have hv2 := (hv.store hR5.lt false (.slice A' (ln b16 (Nat.gcd a.natAbs b.natAbs)) c')).lower hsz
  clear hv hT0 hT1 hT2 hT3 hT4 hT5 hR0 hR1 hR2 hR3 hR5 r0 r1 g0 g1 hri
  go_wp2
  generalize ((w4.setCell ⟨w.heap.size + 1 + 1, 0, none⟩ (.bool false)).setCell ⟨w.heap.size + 1 + 1, 1, none⟩ (.slice A' (ln b16 (Nat.gcd a.natAbs b.natAbs)) c')) = WW at *
  obtain ⟨k0, k1⟩ := hW.cells
  refine bodyPost_ret (v := .tuple #[.agg #[.bool false, .slice A' (ln b16 (Nat.gcd a.natAbs b.natAbs)) c'], .int .i64 0]) (by simp [results, Tryd.results14, go_sem, k0, k1]) rfl ?_
  exact hv2.ri hbW
end Go.Proofs.YtafglggjncnkkaaDoor
