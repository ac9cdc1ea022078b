/-
  The walk of whole.Cmp.
-/
import Derived.Test.YtafglggjncnkkaaDoorAdd
namespace Go.Proofs.YtafglggjncnkkaaDoor
open Go.RowKit

/-- The order of two ints. -/
def cmpZ (a b : Int) : Int := if a < b then -1 else if b < a then 1 else 0
theorem two_call2 (s t : Bool) (A B : Option Addr) (n m c d : Nat) (f h : Nat → Nat) (w : World)
    (hA : Rd w.heap.size .u16 w A n f) (hB : Rd w.heap.size .u16 w B m h) (hf : ∀ i, f i < 65536) (hh : ∀ i, h i < 65536) (hn : n ≤ 1000000) (hm : m ≤ 1000000) :
    Calls Tryd.prog 38 #[.slice (some ⟨w.heap.size + 1 + 1, 0, none⟩) 2 2]
      (((w.alloc (.cells #[.bool s, .slice A n c] 24)).alloc (.cells #[.bool t, .slice B m d] 24)).alloc (.cells #[.bool s, .slice A n c, .bool t, .slice B m d] 24))
      fun e w' => e = .returned (.bool (okW s n f && okW t m h)) ∧ TwoP w s t A B n m c d w' := by
  have b1 : Below w.heap.size w (w.alloc (.cells #[.bool s, .slice A n c] 24)) := (Below.refl _ w).alloc (Nat.le_refl _) _
  have b2 := b1.alloc b1.size (.cells #[.bool t, .slice B m d] 24)
  have b4 := b2.alloc b2.size (.cells #[.bool s, .slice A n c, .bool t, .slice B m d] 24)
  have q0 := WholeAt.new w s (.slice A n c)
  have q1 := WholeAt.new (w.alloc (.cells #[.bool s, .slice A n c] 24)) t (.slice B m d)
  have q3 := heap_alloc_new ((w.alloc (.cells #[.bool s, .slice A n c] 24)).alloc (.cells #[.bool t, .slice B m d] 24)) (.cells #[.bool s, .slice A n c, .bool t, .slice B m d] 24)
  simp only [World.size_alloc] at q1 q3
  refine (allValid_two (w.heap.size + 1 + 1) s t A B n m c d f h _ q3 ((hA.below b4).more b4.size) ((hB.below b4).more b4.size) hf hh hn hm).mono ?_
  rintro e w' ⟨rfl, hb⟩
  refine ⟨rfl, ?_, ?_, b4.trans (hb.mono b4.size)⟩
  · refine WholeAt.below ?_ hb (by first | (simp; done) | (simp; omega))
    exact (Below.heap_alloc _ _ _ (by first | (simp; done) | (simp; omega))).trans ((Below.heap_alloc _ _ _ (by simp)).trans q0)
  · refine WholeAt.below ?_ hb (by first | (simp; done) | (simp; omega))
    exact (Below.heap_alloc _ _ _ (by simp)).trans q1
set_option maxRecDepth 100000 in
set_option maxHeartbeats 1000000 in
theorem cmp_bad (s t : Bool) (A B : Option Addr) (n m c d : Nat) (f h : Nat → Nat) (w : World)
    (hA : Rd w.heap.size .u16 w A n f) (hB : Rd w.heap.size .u16 w B m h) (hf : ∀ i, f i < 65536) (hh : ∀ i, h i < 65536) (hn : n ≤ 1000000) (hm : m ≤ 1000000)
    (hok : (okW s n f && okW t m h) = false) :
    Calls Tryd.prog 33 #[.agg #[.bool s, .slice A n c], .agg #[.bool t, .slice B m d]] w fun e w' => e = .returned (.int .i64 0) ∧ Below w.heap.size w w' := by
  go_enter Tryd.func33, Tryd.ntmps33
  go_wp2_with fail
  refine (two_call2 s t A B n m c d f h w hA hB hf hh hn hm).mono ?_
  rintro e w1 ⟨rfl, ht⟩
  rw [hok]
  go_wp2_with fail
  go_ret
  exact ⟨rfl, ht.bel⟩

set_option maxRecDepth 100000 in
set_option maxHeartbeats 4000000 in
theorem cmp_any (a b : Int) (A B : Option Addr) (c d : Nat) (w : World) (hA : Num16 w A a.natAbs) (hB : Num16 w B b.natAbs) (ha : ln b16 a.natAbs ≤ 1024) (hb : ln b16 b.natAbs ≤ 1024) :
    Calls Tryd.prog 33 #[.agg #[.bool (decide (a < 0)), .slice A (ln b16 a.natAbs) c], .agg #[.bool (decide (b < 0)), .slice B (ln b16 b.natAbs) d]] w fun e w' => e = .returned (.int .i64 (cmpZ a b)) ∧ Below w.heap.size w w' := by
  have htwo := two_call2 (decide (a < 0)) (decide (b < 0)) A B (ln b16 a.natAbs) (ln b16 b.natAbs) c d _ _ w hA hB (fun i => dgt16_lt _ i) (fun i => dgt16_lt _ i) (by omega) (by omega)
  rw [okW_two ha hb] at htwo
  have la := ln32_short ha
  have lb := ln32_short hb
  obtain ⟨s, hs⟩ : ∃ s, s = decide (a < 0) := ⟨_, rfl⟩
  obtain ⟨t, ht⟩ : ∃ t, t = decide (b < 0) := ⟨_, rfl⟩
  rw [← hs, ← ht] at htwo ⊢
  have HS := Lib.hid hs
  have HT' := Lib.hid ht
  clear hs ht
  go_enter Tryd.func33, Tryd.ntmps33
  go_wp2_with fail
  refine htwo.mono ?_
  rintro e w1 ⟨rfl, ht⟩
  obtain ⟨p0, p1⟩ := ht.p0.cells
  obtain ⟨p2, p3⟩ := ht.p1.cells
  by_cases hst : s = t
  · subst hst
    have t0 : (s != s) = false := by simp
    have D1 := Lib.hid fun (w' : World) (hw' : Below w.heap.size w w') => pack_any A c a.natAbs w' (Num16.below hA hw') (by omega)
    have D2 := Lib.hid fun (w' : World) (hw' : Below w.heap.size w w') => pack_any B d b.natAbs w' (Num16.below hB hw') (by omega)
    have hT0 : TwoP w s s A B (ln b16 a.natAbs) (ln b16 b.natAbs) c d w1.drew := ⟨ht.p0, ht.p1, ht.bel.drew⟩
    have hcz : cmpZ a b = if s then -cmpI a.natAbs b.natAbs else cmpI a.natAbs b.natAbs := by
      have h1 := HS.out
      have h2 := HT'.out
      unfold cmpZ cmpI
      cases s
      · have h1 : 0 ≤ a := by simpa using h1.symm
        have h2 : 0 ≤ b := by simpa using h2.symm
        simp only [Bool.false_eq_true, if_false]
        split <;> split <;> (try split) <;> (try split) <;> omega
      · have h1 : a < 0 := by simpa using h1.symm
        have h2 : b < 0 := by simpa using h2.symm
        simp only [if_true]
        split <;> split <;> (try split) <;> (try split) <;> omega
    have HCZ := Lib.hid hcz
    clear hcz
    go_wp2_with fail
    clear p0 p1 p2 p3
    go_region_held3 (fun w' => w'.cell? ⟨w.heap.size, 0, none⟩ = some (.bool s) ∧ w'.cell? ⟨w.heap.size, 1, none⟩ = some (.slice A (ln b16 a.natAbs) c) ∧ w'.cell? ⟨w.heap.size + 1, 0, none⟩ = some (.bool s) ∧ w'.cell? ⟨w.heap.size + 1, 1, none⟩ = some (.slice B (ln b16 b.natAbs) d) ∧ TwoP w s s A B (ln b16 a.natAbs) (ln b16 b.natAbs) c d w')
      (first | with_reducible exact hT3.s | with_reducible exact hT2.s | with_reducible exact hT1.s | with_reducible exact hT0.s)
      (first
        | (go_at_call_of 41 (Value.slice A (ln b16 a.natAbs) c); refine (D1.out _ hT0.bel).mono ?_; rintro e w2 ⟨A1, c1, rfl, hc1, hn1, hb1⟩; have hT1 := hT0.below hb1)
        | (go_at_call_of 41 (Value.slice B (ln b16 b.natAbs) d); refine (D2.out _ hT1.bel).mono ?_; rintro e w3 ⟨A2, c2, rfl, hc2, hn2, hb2⟩; have hT2 := hT1.below hb2)
        | (go_at_call 59; refine (compare_any A1 A2 c1 c2 a.natAbs b.natAbs _ (Num32.below hn1 hb2) hn2 (by omega)).mono ?_; rintro e w4 ⟨rfl, q, rfl⟩; have hT3 := hT2.below (belowN (Below.refl _ _) q)))
    obtain ⟨k0, -⟩ := hT3.p0.cells
    have hbf := hT3.bel
    cases s
    · go_wp2
      go_ret
      exact ⟨ret_int (by rw [HCZ.out]; rfl), hbf⟩
    · go_wp2
      go_ret
      exact ⟨ret_int (by rw [HCZ.out]; simp only [if_true]; unfold cmpI; split <;> (try split) <;> simp [wrap64]), hbf⟩
  · have hval : cmpZ a b = if s then -1 else 1 := by
      have h1 := HS.out
      have h2 := HT'.out
      unfold cmpZ
      cases s <;> cases t <;> simp_all <;> omega
    have HV := Lib.hid hval
    clear hval
    cases s <;> cases t
    · exact absurd rfl hst
    · go_wp2_with fail
      go_ret
      exact ⟨ret_int (by rw [HV.out]; rfl), ht.bel⟩
    · go_wp2_with fail
      go_ret
      exact ⟨ret_int (by rw [HV.out]; rfl), ht.bel⟩
    · exact absurd rfl hst
end Go.Proofs.YtafglggjncnkkaaDoor
