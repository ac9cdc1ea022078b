/-
  Several texts in one: The walk of whole.Gcd. The walk of whole.Sub. The walk of whole.Cmp.
-/
import Derived.Test.YtjgihmmeimfheaaGreatK11
namespace Go.Proofs.YtjgihmmeimfheaaGreat
open Go.RowKit

theorem ln_gcd (a b : Nat) (m : Nat) (ha : ln b16 a ≤ m) (hb : ln b16 b ≤ m) : ln b16 (Nat.gcd a b) ≤ m := by
 rcases Nat.eq_zero_or_pos a with rfl | h
 · rw [Nat.gcd_zero_left]; exact hb
 · exact Nat.le_trans (ln_mono b16_two (Nat.gcd_le_left b h)) ha
theorem WW.riv {w w' : World} {x : Nat} {e : Ending} (h : WW w (false && decide (0 < x)) x e w') (hl : ln b16 x ≤ 1024) : ∃ A c, e = .returned (.agg #[.bool false, .slice A (ln b16 x) c]) ∧ RIv w.heap.size w' (x : Int) false A (ln b16 x) c 0 ∧ Below w.heap.size w w' := by
 obtain ⟨A, c, he, ho, hb⟩ := h
 refine ⟨A, c, he, .inl ⟨hl, ?_, rfl, rfl, ho⟩, hb⟩
 simp
set_option maxRecDepth 100000 in
set_option maxHeartbeats 1000000 in
theorem gcd_bad (s t : Bool) (A B : Option Addr) (n m c d : Nat) (f h : Nat → Nat) (w : World)
  (hA : Rd w.heap.size .u16 w A n f) (hB : Rd w.heap.size .u16 w B m h) (hf : ∀ i, f i < 65536) (hh : ∀ i, h i < 65536) (hn : n ≤ 1000000) (hm : m ≤ 1000000)
  (hok : (okW s n f && okW t m h) = false) :
  Calls Tryz.prog 123 #[.agg #[.bool s, .slice A n c], .agg #[.bool t, .slice B m d]] w (ErrArgW w) := by
 go_enter Tryz.func123, Tryz.ntmps123
 go_wp2_with fail
 refine (two_call s t A B n m c d f h w hA hB hf hh hn hm).mono ?_
 rintro e w1 ⟨rfl, ht⟩
 rw [hok]
 obtain ⟨r0, r1⟩ := ht.r.cells
 have g0 := ht.r.frozen 0
 have g1 := ht.r.frozen 1
 obtain ⟨hW, hbW⟩ := store_whole ht.r ht.bel (by omega) false (.slice none 0 0)
 have HW := Lib.hid hW
 clear hW
 go_wp2_with fail
 have hW := HW.out
 clear HW ht r0 r1
 generalize ((w1.setCell ⟨w.heap.size + 1 + 1, 0, none⟩ (.bool false)).setCell ⟨w.heap.size + 1 + 1, 1, none⟩ (.slice none 0 0)) = WW at *
 obtain ⟨k0, k1⟩ := hW.cells
 refine bodyPost_ret (v := .tuple #[.agg #[.bool false, .slice none 0 0], .int .i64 2]) (by simp [results, Tryz.results123, go_sem, k0, k1]) rfl ?_
 exact ⟨rfl, hbW⟩

set_option maxRecDepth 100000 in
set_option maxHeartbeats 4000000 in
theorem gcd_any (a b : Int) (A B : Option Addr) (c d : Nat) (w : World) (hA : Num16 w A a.natAbs) (hB : Num16 w B b.natAbs) (ha : ln b16 a.natAbs ≤ 1024) (hb : ln b16 b.natAbs ≤ 1024) :
  Calls Tryz.prog 123 #[.agg #[.bool (decide (a < 0)), .slice A (ln b16 a.natAbs) c], .agg #[.bool (decide (b < 0)), .slice B (ln b16 b.natAbs) d]] w (RI w ((Nat.gcd a.natAbs b.natAbs : Nat) : Int)) := by
 have htwo := two_call (decide (a < 0)) (decide (b < 0)) A B (ln b16 a.natAbs) (ln b16 b.natAbs) c d _ _ w hA hB (fun i => dgt16_lt _ i) (fun i => dgt16_lt _ i) (by omega) (by omega)
 rw [okW_two ha hb] at htwo
 have la := ln32_short ha
 have lb := ln32_short hb
 have lg := ln_gcd a.natAbs b.natAbs 1024 ha hb
 have lg32 := ln32_short lg
 obtain ⟨s, hs⟩ : ∃ s, s = decide (a < 0) := ⟨_, rfl⟩
 obtain ⟨t, ht⟩ : ∃ t, t = decide (b < 0) := ⟨_, rfl⟩
 rw [← hs, ← ht] at htwo ⊢
 clear hs ht
 go_enter Tryz.func123, Tryz.ntmps123
 go_wp2_with fail
 refine htwo.mono ?_
 rintro e w1 ⟨rfl, ht⟩
 have D1 := Lib.hid fun (w' : World) (hw' : Below w.heap.size w w') => pack_any A c a.natAbs w' (Num16.below hA hw') (by omega)
 have D2 := Lib.hid fun (w' : World) (hw' : Below w.heap.size w w') => pack_any B d b.natAbs w' (Num16.below hB hw') (by omega)
 have hT0 : TwoP w s t A B (ln b16 a.natAbs) (ln b16 b.natAbs) c d w1.drew := ⟨ht.p0, ht.p1, ht.bel.drew⟩
 have hR0 : WholeAt w1.drew (w.heap.size + 1 + 1) false (.slice none 0 0) := ht.r
 have HT := Lib.hid ht
 clear ht
 go_wp2_with fail
 go_region_held3 (fun w' => w'.cell? ⟨w.heap.size, 0, none⟩ = some (.bool s) ∧ w'.cell? ⟨w.heap.size, 1, none⟩ = some (.slice A (ln b16 a.natAbs) c) ∧ w'.cell? ⟨w.heap.size + 1, 0, none⟩ = some (.bool t) ∧ w'.cell? ⟨w.heap.size + 1, 1, none⟩ = some (.slice B (ln b16 b.natAbs) d) ∧ TwoP w s t A B (ln b16 a.natAbs) (ln b16 b.natAbs) c d w')
  (first | with_reducible exact hT4.s | with_reducible exact hT3.s | with_reducible exact hT5.s | with_reducible exact hT2.s | with_reducible exact hT1.s | with_reducible exact hT0.s)
  (first
   | (go_at_call_of 87 (Value.slice A (ln b16 a.natAbs) c); refine (D1.out _ hT0.bel).mono ?_; rintro e w2 ⟨A1, c1, rfl, hc1, hn1, hb1⟩; have hT1 := hT0.below hb1)
   | (go_at_call_of 87 (Value.slice B (ln b16 b.natAbs) d); refine (D2.out _ hT1.bel).mono ?_; rintro e w3 ⟨A2, c2, rfl, hc2, hn2, hb2⟩; have hT2 := hT1.below hb2)
   | (go_at_call 146; refine (commonDivisor_any A1 A2 c1 c2 a.natAbs b.natAbs _ (Num32.below hn1 hb2) hn2 (by omega) (by omega) hc1 hc2).mono ?_; rintro e w5 ⟨A3, c3, rfl, hc3, hn3, hb5⟩; have hT5 := hT2.below hb5)
   | (go_at_call 128; refine (unpack_any false A3 c3 (Nat.gcd a.natAbs b.natAbs) _ hn3 hc3 (by omega)).mono ?_; rintro e w4 hri; obtain ⟨A', c', rfl, hv, hb3⟩ := WW.riv hri lg; have hT3 := hT5.below hb3; have hR1 := hR0.below hb1 hR0.lt; have hR2 := hR1.below hb2 hR1.lt; have hR5 := hR2.below hb5 hR2.lt; have hR3 := hR5.below hb3 hR5.lt; obtain ⟨r0, r1⟩ := hR3.cells; have g0 := hR3.frozen 0; have g1 := hR3.frozen 1; have hT4 := hT3.store false (.slice A' (ln b16 (Nat.gcd a.natAbs b.natAbs)) c')))
 obtain ⟨hW, hbW⟩ := store_whole hR3 hT3.bel (show w.heap.size ≤ w.heap.size + 1 + 1 by omega) false (.slice A' (ln b16 (Nat.gcd a.natAbs b.natAbs)) c')
 have hsz := hT5.bel.size
 have hv2 := (hv.store hR5.lt false (.slice A' (ln b16 (Nat.gcd a.natAbs b.natAbs)) c')).lower hsz
 clear hv hT0 hT1 hT2 hT3 hT4 hT5 hR0 hR1 hR2 hR3 hR5 r0 r1 g0 g1 hri
 go_wp2
 generalize ((w4.setCell ⟨w.heap.size + 1 + 1, 0, none⟩ (.bool false)).setCell ⟨w.heap.size + 1 + 1, 1, none⟩ (.slice A' (ln b16 (Nat.gcd a.natAbs b.natAbs)) c')) = WW at *
 obtain ⟨k0, k1⟩ := hW.cells
 refine bodyPost_ret (v := .tuple #[.agg #[.bool false, .slice A' (ln b16 (Nat.gcd a.natAbs b.natAbs)) c'], .int .i64 0]) (by simp [results, Tryz.results123, go_sem, k0, k1]) rfl ?_
 exact hv2.ri hbW
end Go.Proofs.YtjgihmmeimfheaaGreat
namespace Go.Proofs.YtjgihmmeimfheaaGreat
open Go.RowKit

theorem toI_not (z : Int) : toI (!decide (z < 0)) z.natAbs = -z := by
 unfold toI
 by_cases h : z < 0
 · simp [h]; omega
 · simp [h]; omega
end Go.Proofs.YtjgihmmeimfheaaGreat
/-! The walk of whole.Mul. -/
namespace Go.Proofs.YtjgihmmeimfheaaGreat
open Go.RowKit

theorem toI_mul (a b : Int) : toI (decide (a < 0) != decide (b < 0)) (a.natAbs * b.natAbs) = a * b := by
 rw [← Int.natAbs_mul]
 by_cases ha : a < 0 <;> by_cases hb : b < 0
 ·
  have := Int.mul_pos_of_neg_of_neg ha hb
  simp [ha, hb, toI]; omega
 ·
  have : a * b ≤ 0 := Int.mul_nonpos_of_nonpos_of_nonneg (by omega) (by omega)
  simp [ha, hb, toI]; omega
 ·
  have : a * b ≤ 0 := Int.mul_nonpos_of_nonneg_of_nonpos (by omega) (by omega)
  simp [ha, hb, toI]; omega
 ·
  have : 0 ≤ a * b := Int.mul_nonneg (by omega) (by omega)
  simp [ha, hb, toI]; omega
theorem ln_mul {B x y m n : Nat} (hB : 2 ≤ B) (hx : ln B x ≤ m) (hy : ln B y ≤ n) : ln B (x * y) ≤ m + n := by
 refine (ln_le hB).2 ?_
 rw [Nat.pow_add]
 exact Nat.mul_lt_mul'' ((ln_le hB).1 hx) ((ln_le hB).1 hy)
set_option maxRecDepth 100000 in
set_option maxHeartbeats 1000000 in
theorem mul_bad (s t : Bool) (A B : Option Addr) (n m c d : Nat) (f h : Nat → Nat) (w : World)
  (hA : Rd w.heap.size .u16 w A n f) (hB : Rd w.heap.size .u16 w B m h) (hf : ∀ i, f i < 65536) (hh : ∀ i, h i < 65536) (hn : n ≤ 1000000) (hm : m ≤ 1000000)
  (hok : (okW s n f && okW t m h) = false) :
  Calls Tryz.prog 88 #[.agg #[.bool s, .slice A n c], .agg #[.bool t, .slice B m d]] w (ErrArgW w) := by
 go_enter Tryz.func88, Tryz.ntmps88
 go_wp2_with fail
 refine (two_call s t A B n m c d f h w hA hB hf hh hn hm).mono ?_
 rintro e w1 ⟨rfl, ht⟩
 rw [hok]
 obtain ⟨r0, r1⟩ := ht.r.cells
 have g0 := ht.r.frozen 0
 have g1 := ht.r.frozen 1
 obtain ⟨hW, hbW⟩ := store_whole ht.r ht.bel (by omega) false (.slice none 0 0)
 have HW := Lib.hid hW
 clear hW
 go_wp2_with fail
 have hW := HW.out
 clear HW ht r0 r1
 generalize ((w1.setCell ⟨w.heap.size + 1 + 1, 0, none⟩ (.bool false)).setCell ⟨w.heap.size + 1 + 1, 1, none⟩ (.slice none 0 0)) = WW at *
 obtain ⟨k0, k1⟩ := hW.cells
 refine bodyPost_ret (v := .tuple #[.agg #[.bool false, .slice none 0 0], .int .i64 2]) (by simp [results, Tryz.results88, go_sem, k0, k1]) rfl ?_
 exact ⟨rfl, hbW⟩

set_option maxRecDepth 100000 in
set_option maxHeartbeats 4000000 in
theorem mul_any (a b : Int) (A B : Option Addr) (c d : Nat) (w : World) (hA : Num16 w A a.natAbs) (hB : Num16 w B b.natAbs) (ha : ln b16 a.natAbs ≤ 1024) (hb : ln b16 b.natAbs ≤ 1024) :
  Calls Tryz.prog 88 #[.agg #[.bool (decide (a < 0)), .slice A (ln b16 a.natAbs) c], .agg #[.bool (decide (b < 0)), .slice B (ln b16 b.natAbs) d]] w (RI w (a * b)) := by
 have htwo := two_call (decide (a < 0)) (decide (b < 0)) A B (ln b16 a.natAbs) (ln b16 b.natAbs) c d _ _ w hA hB (fun i => dgt16_lt _ i) (fun i => dgt16_lt _ i) (by omega) (by omega)
 rw [okW_two ha hb] at htwo
 have la := ln32_short ha
 have lb := ln32_short hb
 have hsum : toI (decide (a < 0) != decide (b < 0)) (a.natAbs * b.natAbs) = a * b := toI_mul a b
 have lm := ln_mul b32_two la lb
 have HSUM := Lib.hid hsum
 clear hsum
 obtain ⟨s, hs⟩ : ∃ s, s = decide (a < 0) := ⟨_, rfl⟩
 obtain ⟨t, ht⟩ : ∃ t, t = decide (b < 0) := ⟨_, rfl⟩
 rw [← hs, ← ht] at htwo HSUM ⊢
 clear hs ht
 go_enter Tryz.func88, Tryz.ntmps88
 go_wp2_with fail
 refine htwo.mono ?_
 rintro e w1 ⟨rfl, ht⟩
 have D1 := Lib.hid fun (w' : World) (hw' : Below w.heap.size w w') => pack_any A c a.natAbs w' (Num16.below hA hw') (by omega)
 have D2 := Lib.hid fun (w' : World) (hw' : Below w.heap.size w w') => pack_any B d b.natAbs w' (Num16.below hB hw') (by omega)
 have hT0 : TwoP w s t A B (ln b16 a.natAbs) (ln b16 b.natAbs) c d w1.drew := ⟨ht.p0, ht.p1, ht.bel.drew⟩
 have hR0 : WholeAt w1.drew (w.heap.size + 1 + 1) false (.slice none 0 0) := ht.r
 have HT := Lib.hid ht
 clear ht
 go_wp2_with fail
 go_region_held3 (fun w' => w'.cell? ⟨w.heap.size, 0, none⟩ = some (.bool s) ∧ w'.cell? ⟨w.heap.size, 1, none⟩ = some (.slice A (ln b16 a.natAbs) c) ∧ w'.cell? ⟨w.heap.size + 1, 0, none⟩ = some (.bool t) ∧ w'.cell? ⟨w.heap.size + 1, 1, none⟩ = some (.slice B (ln b16 b.natAbs) d) ∧ TwoP w s t A B (ln b16 a.natAbs) (ln b16 b.natAbs) c d w')
  (first | with_reducible exact hT4.s | with_reducible exact hT3.s | with_reducible exact hT5.s | with_reducible exact hT2.s | with_reducible exact hT1.s | with_reducible exact hT0.s)
  (first
   | (go_at_call_of 87 (Value.slice A (ln b16 a.natAbs) c); refine (D1.out _ hT0.bel).mono ?_; rintro e w2 ⟨A1, c1, rfl, hc1, hn1, hb1⟩; have hT1 := hT0.below hb1)
   | (go_at_call_of 87 (Value.slice B (ln b16 b.natAbs) d); refine (D2.out _ hT1.bel).mono ?_; rintro e w3 ⟨A2, c2, rfl, hc2, hn2, hb2⟩; have hT2 := hT1.below hb2)
   | (go_at_call 122; refine (times_any A1 A2 c1 c2 a.natAbs b.natAbs _ (Num32.below hn1 hb2) hn2 (by omega) (by omega)).mono ?_; rintro e w5 ⟨A3, c3, rfl, hc3, hn3, hb5⟩; have hT5 := hT2.below hb5)
   | (go_at_call 121; refine (result_any (s != t) A3 c3 (a.natAbs * b.natAbs) _ hn3 hc3 (by omega)).mono ?_; rintro e w4 hri; obtain ⟨s', A', n', c', k, rfl, hv, hb3⟩ := hri.vals; have hT3 := hT5.below hb3; have hR1 := hR0.below hb1 hR0.lt; have hR2 := hR1.below hb2 hR1.lt; have hR5 := hR2.below hb5 hR2.lt; have hR3 := hR5.below hb3 hR5.lt; obtain ⟨r0, r1⟩ := hR3.cells; have g0 := hR3.frozen 0; have g1 := hR3.frozen 1; have hT4 := hT3.store s' (.slice A' n' c')))
 obtain ⟨hW, hbW⟩ := store_whole hR3 hT3.bel (show w.heap.size ≤ w.heap.size + 1 + 1 by omega) s' (.slice A' n' c')
 have hsz := hT5.bel.size
 have hv2 := (hv.store hR5.lt s' (.slice A' n' c')).lower hsz
 rw [HSUM.out] at hv2
 clear hv hT0 hT1 hT2 hT3 hT4 hT5 hR0 hR1 hR2 hR3 hR5 r0 r1 g0 g1 hri
 go_wp2
 generalize ((w4.setCell ⟨w.heap.size + 1 + 1, 0, none⟩ (.bool s')).setCell ⟨w.heap.size + 1 + 1, 1, none⟩ (.slice A' n' c')) = WW at *
 obtain ⟨k0, k1⟩ := hW.cells
 refine bodyPost_ret (v := .tuple #[.agg #[.bool s', .slice A' n' c'], .int .i64 k]) (by simp [results, Tryz.results88, go_sem, k0, k1]) rfl ?_
 exact hv2.ri hbW
end Go.Proofs.YtjgihmmeimfheaaGreat
namespace Go.Proofs.YtjgihmmeimfheaaGreat
open Go.RowKit

/-- The order of two ints. -/
def cmpZ (a b : Int) : Int := if a < b then -1 else if b < a then 1 else 0
theorem two_call2 (s t : Bool) (A B : Option Addr) (n m c d : Nat) (f h : Nat → Nat) (w : World)
  (hA : Rd w.heap.size .u16 w A n f) (hB : Rd w.heap.size .u16 w B m h) (hf : ∀ i, f i < 65536) (hh : ∀ i, h i < 65536) (hn : n ≤ 1000000) (hm : m ≤ 1000000) :
  Calls Tryz.prog 85 #[.slice (some ⟨w.heap.size + 1 + 1, 0, none⟩) 2 2]
   (((w.alloc (.cells #[.bool s, .slice A n c] 27)).alloc (.cells #[.bool t, .slice B m d] 27)).alloc (.cells #[.bool s, .slice A n c, .bool t, .slice B m d] 27))
   fun e w' => e = .returned (.bool (okW s n f && okW t m h)) ∧ TwoP w s t A B n m c d w' := by
 have b1 : Below w.heap.size w (w.alloc (.cells #[.bool s, .slice A n c] 27)) := (Below.refl _ w).alloc (Nat.le_refl _) _
 have b2 := b1.alloc b1.size (.cells #[.bool t, .slice B m d] 27)
 have b4 := b2.alloc b2.size (.cells #[.bool s, .slice A n c, .bool t, .slice B m d] 27)
 have q0 := WholeAt.new w s (.slice A n c)
 have q1 := WholeAt.new (w.alloc (.cells #[.bool s, .slice A n c] 27)) t (.slice B m d)
 have q3 := heap_alloc_new ((w.alloc (.cells #[.bool s, .slice A n c] 27)).alloc (.cells #[.bool t, .slice B m d] 27)) (.cells #[.bool s, .slice A n c, .bool t, .slice B m d] 27)
 simp only [World.size_alloc] at q1 q3
 refine (allValid_two (w.heap.size + 1 + 1) s t A B n m c d f h _ q3 ((hA.below b4).more b4.size) ((hB.below b4).more b4.size) hf hh hn hm).mono ?_
 rintro e w' ⟨rfl, hb⟩
 refine ⟨rfl, ?_, ?_, b4.trans (hb.mono b4.size)⟩
 ·
  refine WholeAt.below ?_ hb (by first | (simp; done) | (simp; omega))
  exact (Below.heap_alloc _ _ _ (by first | (simp; done) | (simp; omega))).trans ((Below.heap_alloc _ _ _ (by simp)).trans q0)
 ·
  refine WholeAt.below ?_ hb (by first | (simp; done) | (simp; omega))
  exact (Below.heap_alloc _ _ _ (by simp)).trans q1
set_option maxRecDepth 100000 in
set_option maxHeartbeats 1000000 in
theorem cmp_bad (s t : Bool) (A B : Option Addr) (n m c d : Nat) (f h : Nat → Nat) (w : World)
  (hA : Rd w.heap.size .u16 w A n f) (hB : Rd w.heap.size .u16 w B m h) (hf : ∀ i, f i < 65536) (hh : ∀ i, h i < 65536) (hn : n ≤ 1000000) (hm : m ≤ 1000000)
  (hok : (okW s n f && okW t m h) = false) :
  Calls Tryz.prog 47 #[.agg #[.bool s, .slice A n c], .agg #[.bool t, .slice B m d]] w fun e w' => e = .returned (.int .i64 0) ∧ Below w.heap.size w w' := by
 go_enter Tryz.func47, Tryz.ntmps47
 go_wp2_with fail
 refine (two_call2 s t A B n m c d f h w hA hB hf hh hn hm).mono ?_
 rintro e w1 ⟨rfl, ht⟩
 rw [hok]
 go_wp2_with fail
 go_ret
 exact ⟨rfl, ht.bel⟩

set_option maxRecDepth 100000 in
set_option maxHeartbeats 4000000 in
theorem cmp_any (a b : Int) (A B : Option Addr) (c d : Nat) (w : World) (hA : Num16 w A a.natAbs) (hB : Num16 w B b.natAbs) (ha : ln b16 a.natAbs ≤ 1024) (hb : ln b16 b.natAbs ≤ 1024) :
  Calls Tryz.prog 47 #[.agg #[.bool (decide (a < 0)), .slice A (ln b16 a.natAbs) c], .agg #[.bool (decide (b < 0)), .slice B (ln b16 b.natAbs) d]] w fun e w' => e = .returned (.int .i64 (cmpZ a b)) ∧ Below w.heap.size w w' := by
 have htwo := two_call2 (decide (a < 0)) (decide (b < 0)) A B (ln b16 a.natAbs) (ln b16 b.natAbs) c d _ _ w hA hB (fun i => dgt16_lt _ i) (fun i => dgt16_lt _ i) (by omega) (by omega)
 rw [okW_two ha hb] at htwo
 have la := ln32_short ha
 have lb := ln32_short hb
 obtain ⟨s, hs⟩ : ∃ s, s = decide (a < 0) := ⟨_, rfl⟩
 obtain ⟨t, ht⟩ : ∃ t, t = decide (b < 0) := ⟨_, rfl⟩
 rw [← hs, ← ht] at htwo ⊢
 have HS := Lib.hid hs
 have HT' := Lib.hid ht
 clear hs ht
 go_enter Tryz.func47, Tryz.ntmps47
 go_wp2_with fail
 refine htwo.mono ?_
 rintro e w1 ⟨rfl, ht⟩
 obtain ⟨p0, p1⟩ := ht.p0.cells
 obtain ⟨p2, p3⟩ := ht.p1.cells
 by_cases hst : s = t
 ·
  subst hst
  have t0 : (s != s) = false := by simp
  have D1 := Lib.hid fun (w' : World) (hw' : Below w.heap.size w w') => pack_any A c a.natAbs w' (Num16.below hA hw') (by omega)
  have D2 := Lib.hid fun (w' : World) (hw' : Below w.heap.size w w') => pack_any B d b.natAbs w' (Num16.below hB hw') (by omega)
  have hT0 : TwoP w s s A B (ln b16 a.natAbs) (ln b16 b.natAbs) c d w1.drew := ⟨ht.p0, ht.p1, ht.bel.drew⟩
  have hcz : cmpZ a b = if s then -cmpI a.natAbs b.natAbs else cmpI a.natAbs b.natAbs := by
   have h1 := HS.out
   have h2 := HT'.out
   unfold cmpZ cmpI
   cases s
   ·
    have h1 : 0 ≤ a := by simpa using h1.symm
    have h2 : 0 ≤ b := by simpa using h2.symm
    simp only [Bool.false_eq_true, if_false]
    split <;> split <;> (try split) <;> (try split) <;> omega
   ·
    have h1 : a < 0 := by simpa using h1.symm
    have h2 : b < 0 := by simpa using h2.symm
    simp only [if_true]
    split <;> split <;> (try split) <;> (try split) <;> omega
  have HCZ := Lib.hid hcz
  clear hcz
  go_wp2_with fail
  clear p0 p1 p2 p3
  go_region_held3 (fun w' => w'.cell? ⟨w.heap.size, 0, none⟩ = some (.bool s) ∧ w'.cell? ⟨w.heap.size, 1, none⟩ = some (.slice A (ln b16 a.natAbs) c) ∧ w'.cell? ⟨w.heap.size + 1, 0, none⟩ = some (.bool s) ∧ w'.cell? ⟨w.heap.size + 1, 1, none⟩ = some (.slice B (ln b16 b.natAbs) d) ∧ TwoP w s s A B (ln b16 a.natAbs) (ln b16 b.natAbs) c d w')
   (first | with_reducible exact hT3.s | with_reducible exact hT2.s | with_reducible exact hT1.s | with_reducible exact hT0.s)
   (first
    | (go_at_call_of 87 (Value.slice A (ln b16 a.natAbs) c); refine (D1.out _ hT0.bel).mono ?_; rintro e w2 ⟨A1, c1, rfl, hc1, hn1, hb1⟩; have hT1 := hT0.below hb1)
    | (go_at_call_of 87 (Value.slice B (ln b16 b.natAbs) d); refine (D2.out _ hT1.bel).mono ?_; rintro e w3 ⟨A2, c2, rfl, hc2, hn2, hb2⟩; have hT2 := hT1.below hb2)
    | (go_at_call 86; refine (compare_any A1 A2 c1 c2 a.natAbs b.natAbs _ (Num32.below hn1 hb2) hn2 (by omega)).mono ?_; rintro e w4 ⟨rfl, q, rfl⟩; have hT3 := hT2.below (belowN (Below.refl _ _) q)))
  obtain ⟨k0, -⟩ := hT3.p0.cells
  have hbf := hT3.bel
  cases s
  ·
   go_wp2
   go_ret
   exact ⟨ret_int (by rw [HCZ.out]; rfl), hbf⟩
  ·
   go_wp2
   go_ret
   exact ⟨ret_int (by rw [HCZ.out]; simp only [if_true]; unfold cmpI; split <;> (try split) <;> simp [wrap64]), hbf⟩
 ·
  have hval : cmpZ a b = if s then -1 else 1 := by
   have h1 := HS.out
   have h2 := HT'.out
   unfold cmpZ
   cases s <;> cases t <;> simp_all <;> omega
  have HV := Lib.hid hval
  clear hval
  cases s <;> cases t
  · exact absurd rfl hst
  ·
   go_wp2_with fail
   go_ret
   exact ⟨ret_int (by rw [HV.out]; rfl), ht.bel⟩
  ·
   go_wp2_with fail
   go_ret
   exact ⟨ret_int (by rw [HV.out]; rfl), ht.bel⟩
  · exact absurd rfl hst
end Go.Proofs.YtjgihmmeimfheaaGreat
