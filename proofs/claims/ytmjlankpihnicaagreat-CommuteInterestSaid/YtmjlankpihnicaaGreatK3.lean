/-
  Several texts in one: The walk of whole.divide. The walk of whole.simulate. The walk of whole.difference. The walk of whole.short. The range-function whole.downwards at words, and whole.long, which ranges over it. The walk of whole.commonDivisor. The walks of whole.Add, Sub, Mul and Gcd. The walks of annuitantref01's Make, FromInt and Same, of the laws' num and is.
-/
import Derived.Test.YtmjlankpihnicaaGreatK1
import Derived.Test.YtmjlankpihnicaaGreatK2
import Derived.Test.YtmjlankpihnicaaGreatShelf
import Derived.Laws.Small
import Derived.RangeFuncNested
import Derived.RangeFuncBound
import Derived.RangeFuncCalls
import Derived.RangeFuncLeaves
import Derived.RangeFuncBox
import Derived.Shelf.Abstract
import Derived.Shelf.RegionOpen
import Derived.OwnWalkIn
import Derived.TacticsInMore
import Derived.LoopNIn
import Derived.LoopIn
import Derived.Deep.RegionHeld3
import Derived.Deep.CutBlock
import Derived.Deep.DeepCutAuto
namespace Go.Proofs.YtmjlankpihnicaaGreat
open Go.RowKit

/-- The call returned the words of the quotient and of the remainder. -/
def DivPost (a b : Nat) (w : World) (e : Ending) (w' : World) : Prop :=
  ∃ A c A' c', e = .returned (.tuple #[.slice A (ln b32 (a / b)) c, .slice A' (ln b32 (a % b)) c']) ∧ ln b32 (a / b) ≤ c ∧ ln b32 (a % b) ≤ c' ∧ Num32 w' A (a / b) ∧ Num32 w' A' (a % b) ∧ Below w.heap.size w w'

set_option maxHeartbeats 400000 in
theorem divide_small (A B : Option Addr) (c d a b : Nat) (w : World) (ha : Num32 w A a) (hb : Num32 w B b) (hab : a < b) (hn : ln b32 a ≤ 1000000) :
    Calls Tryz.prog 162 #[.slice A (ln b32 a) c, .slice B (ln b32 b) d] w (DivPost a b w) := by
  have t1 : cmpI a b < 0 := by rw [cmpI_lt hab]; decide
  have hq : a / b = 0 := Nat.div_eq_of_lt hab
  have hr : a % b = a := Nat.mod_eq_of_lt hab
  have HQ := Lib.hid hq
  have HR := Lib.hid hr
  clear hq hr
  go_enter Tryz.func162, Tryz.ntmps162
  go_wp2_with fail
  refine (compare_any _ _ _ _ a b _ ha hb (by omega)).mono ?_
  rintro e w1 ⟨rfl, m, rfl⟩
  go_wp2_with fail
  refine (clone32_any A _ c (dgt b32 a) (w.drewN m) (Rd.drewN ha m) (by omega)).mono ?_
  rintro e w1 ⟨v, rfl, hown, hbel, -⟩
  obtain ⟨A1, c1, rfl, hnc, hrow⟩ := RowO.of_own hown
  go_wp2_with fail
  go_ret2
  refine ⟨none, 0, A1, c1, by rw [HQ.out, HR.out, ln_zero]; rfl, by rw [HQ.out, ln_zero]; omega, by rw [HR.out]; exact hnc, by rw [HQ.out]; exact Num32.zero _ _, by rw [HR.out]; exact hrow.rd, ?_⟩
  exact (belowN (Below.refl _ w) m).trans hbel

set_option maxRecDepth 100000 in
set_option maxHeartbeats 400000 in
theorem divide_one (A B : Option Addr) (c d a b : Nat) (w : World) (ha : Num32 w A a) (hb : Num32 w B b) (hab : b ≤ a) (hn : ln b32 a ≤ 1000000) (h1 : ln b32 b = 1) :
    Calls Tryz.prog 162 #[.slice A (ln b32 a) c, .slice B (ln b32 b) d] w (DivPost a b w) := by
  have t1 : decide (cmpI a b < 0) = false := by
    rcases Nat.lt_or_eq_of_le hab with h | h
    · rw [cmpI_gt h]; decide
    · rw [cmpI_eq h.symm]; decide
  have hb0 : 0 < b := (ln_pos b32_two).1 (by omega)
  have hb1 : b < 4294967296 := by have := (ln_le b32_two (x := b) (k := 1)).1 (by omega); rw [Nat.pow_one] at this; exact this
  have hd0 : dgt b32 b 0 = b := dgt_one hb1
  obtain ⟨p, q, rfl, hp, hcb⟩ := hb (by omega)
  have c0 := hcb 0 (by omega)
  rw [hd0, Nat.add_zero] at c0
  have t2 : (((ln b32 b : Nat) : Int) == 1) = true := by rw [h1]; rfl
  have hl := Nat.mod_lt a hb0
  have HL1 := Lib.hid h1
  have t3 : 1 ≤ ln b32 b := by omega
  clear h1 hd0
  have hcmp := compare_any A (some ⟨p, q, none⟩) c d a b w ha hb (by omega)
  have hdiv := fun w' (hb' : Below w.heap.size w w') => divShort_any A c a b w' (ha.below hb') hb0 hb1 hn
  have HC := Lib.hid hcmp
  have HD := Lib.hid hdiv
  clear hcmp hdiv
  go_enter Tryz.func162, Tryz.ntmps162
  go_wp2_with fail
  refine HC.out.mono ?_
  rintro e w1 ⟨rfl, m, rfl⟩
  go_wp2_with fail
  refine (HD.out _ (belowN (Below.refl _ w) m)).mono ?_
  rintro e w1 ⟨A1, c1, rfl, hc1, hnum1, hbel1⟩
  go_wp2_with fail
  have e1 : (a : Int) % b = ((a % b : Nat) : Int) := (Int.natCast_emod ..).symm
  have ht := trim_one w1.heap.size (a % b) 1 (w1.alloc (.cells #[.int .u32 ((a : Int) % b)] 152)) (by rw [World.cell?_alloc_new, e1]; rfl) (by simp) (by omega) (Nat.le_refl _)
  clear e1
  have HT := Lib.hid ht
  clear ht
  refine HT.out.mono ?_
  rintro e w2 ⟨rfl, rfl, hnum2, hl2⟩
  go_wp2_with fail
  go_ret2
  exact ⟨A1, c1, _, 1, rfl, hc1, hl2, hnum1.below ((Below.refl _ _).alloc (Nat.le_refl _) _), hnum2, ((belowN (Below.refl _ w) m).trans hbel1).alloc (by simpa using hbel1.size) _⟩

theorem lz_any (x : Nat) (w : World) (h0 : 0 < x) (h : x < 4294967296) : Calls Tryz.prog 171 #[.int .u32 (x : Int)] w fun e w' => e = .returned (.int .i64 (lz x : Int)) ∧ w = w' :=
  (Tryz.bits_LeadingZeros32 (x : Int) w (by omega) (by omega)).mono fun e w' ⟨he, hw⟩ => ⟨by
    obtain ⟨_, _, _, h4⟩ := lz_spec h0 h
    rw [he, Int.toNat_natCast, h4], hw.symm⟩

/-- The state of the long division before digit k - 1 of the quotient. -/
structure DivSt (H gu gv gq la n A2 V k : Nat) (w wr : World) (F : Nat → Nat) : Prop where
  u : Row wr gu 152 .u32 (la + 1) (la + 1) F
  fu : ∀ i, F i < 4294967296
  win : vs b32 (fun i => F (k + i)) (la + 1 - k) = A2 / b32 ^ k % V
  low : ∀ i, i < k → F i = dgt b32 A2 i
  v : Row wr gv 152 .u32 (n + 1) (n + 1) (dgt b32 V)
  q : Row wr gq 152 .u32 (la - n + 1) (la - n + 1) (fun j => if k ≤ j then dgt b32 (A2 / V) j else 0)
  below : Below H w wr

theorem DivSt.high {H gu gv gq la n A2 V k : Nat} {w wr : World} {F : Nat → Nat} (h : DivSt H gu gv gq la n A2 V k w wr F) (hk : k ≤ la + 1) (hV : 0 < V) (hVn : V < b32 ^ n) (i : Nat) (hi : n ≤ i) (hi2 : k + i < la + 1) : F (k + i) = 0 := by
  have h1 := dgt_vs (B := b32) (f := fun i => F (k + i)) (m := la + 1 - k) (j := i) (fun j _ => h.fu (k + j)) (by omega)
  rw [h.win] at h1
  rw [← h1]
  have h2 := Nat.mod_lt (A2 / b32 ^ k) hV
  exact dgt_of_lt (Nat.lt_of_lt_of_le h2 (Nat.le_of_lt (Nat.lt_of_lt_of_le hVn (Nat.pow_le_pow_right (by decide) hi))))
theorem DivSt.window {H gu gv gq la n A2 V j : Nat} {w wr : World} {F : Nat → Nat} (h : DivSt H gu gv gq la n A2 V (j + 1) w wr F) (hj : j + n < la + 1) (hV : 0 < V) (hVn : V < b32 ^ n) :
    vs b32 (fun i => F (j + i)) (n + 1) = b32 * (A2 / b32 ^ (j + 1) % V) + dgt b32 A2 j := by
  rw [vs_first]
  have e1 : vs b32 (fun i => F (j + (i + 1))) n = A2 / b32 ^ (j + 1) % V := by
    have h1 := vs_add b32 (fun i => F (j + 1 + i)) n (la + 1 - (j + 1) - n)
    rw [show n + (la + 1 - (j + 1) - n) = la + 1 - (j + 1) by omega, h.win, vs_zeros fun i hi => h.high (by omega) hV hVn (n + i) (by omega) (by omega), Nat.mul_zero, Nat.add_zero] at h1
    rw [h1]
    exact vs_congr fun i _ => by rw [show j + (i + 1) = j + 1 + i by omega]
  rw [e1, show F (j + 0) = dgt b32 A2 j from h.low j (by omega)]
  omega
/-- What the step leaves is the state before the next digit. -/
theorem DivSt.step {H gu gv gq la n A2 V j : Nat} {w wr w2 : World} {F F' : Nat → Nat} (h : DivSt H gu gv gq la n A2 V (j + 1) w wr F) (hj : j + n < la + 1) (hV : 0 < V) (hVn : V < b32 ^ n) (hgu : H ≤ gu) (hgq : H ≤ gq) (huv : gv ≠ gu) (hqu : gq ≠ gu) (hqv : gq ≠ gv)
    (h1 : Row w2 gu 152 .u32 (la + 1) (la + 1) F') (h2 : ∀ i, F' i < 4294967296) (h3 : ∀ i, i < j ∨ j + n < i → F' i = F i)
    (h4 : vs b32 (fun i => F' (j + i)) (n + 1) = vs b32 (fun i => F (j + i)) (n + 1) % V) (h5 : wr.grownBy w2 (some gu)) {u : Int} (hu : u = ((vs b32 (fun i => F (j + i)) (n + 1) / V : Nat) : Int)) :
    DivSt H gu gv gq la n A2 V j w (w2.setCell ⟨gq, j, none⟩ (.int .u32 u)) F' := by
  have hw := h.window hj hV hVn
  obtain ⟨s1, s2⟩ := short_step (B := b32) (x := A2) (k := j) hV
  have hq : vs b32 (fun i => F (j + i)) (n + 1) / V = dgt b32 (A2 / V) j := by
    rw [hw, ← s1]
    refine (Nat.mod_eq_of_lt ?_).symm
    rw [Nat.div_lt_iff_lt_mul hV]
    have h6 := Nat.mod_lt (A2 / b32 ^ (j + 1)) hV
    have h7 : b32 * (A2 / b32 ^ (j + 1) % V + 1) ≤ b32 * V := Nat.mul_le_mul_left _ h6
    have h8 := dgt32_lt A2 j
    rw [Nat.mul_add] at h7
    have h9 : b32 = 4294967296 := rfl
    omega
  have hbel : Below H w w2 := h.below.grown h5 (Nat.le_trans hgq (Nat.le_of_lt h.q.lt)) (fun k e => by cases e; exact hgu)
  refine ⟨h1.far (p := ⟨gq, j, none⟩) (Ne.symm hqu) _, h2, ?_, fun i hi => by rw [h3 i (by omega)]; exact h.low i (by omega), (h.v.grown h5 (by simpa using huv)).far (p := ⟨gq, j, none⟩) (Ne.symm hqv) _, ?_, hbel.setCell (by exact hgq) _⟩
  · have e := vs_add b32 (fun i => F' (j + i)) (n + 1) (la + 1 - j - (n + 1))
    have ez : vs b32 (fun i => F' (j + (n + 1 + i))) (la + 1 - j - (n + 1)) = 0 := vs_zeros fun i hi => by
      show F' (j + (n + 1 + i)) = 0
      rw [h3 _ (by omega), show j + (n + 1 + i) = j + 1 + (n + i) by omega]
      exact h.high (by omega) hV hVn (n + i) (by omega) (by omega)
    rw [show n + 1 + (la + 1 - j - (n + 1)) = la + 1 - j by omega, h4, hw, s2, ez] at e
    rw [e]; omega
  · refine (h.q.grown h5 (by simpa using hqu)).setI ?_ fun p _ hp => ?_
    · rw [hu, hq, if_pos (Nat.le_refl _)]
    · simp only [show j + 1 ≤ p ↔ j ≤ p by omega]

set_option maxRecDepth 100000 in
set_option maxHeartbeats 2000000 in
theorem divide_long (A B : Option Addr) (c d a b : Nat) (w : World) (ha : Num32 w A a) (hb : Num32 w B b) (hab : b ≤ a) (hn : ln b32 a ≤ 1000000) (h2 : 2 ≤ ln b32 b) :
    Calls Tryz.prog 162 #[.slice A (ln b32 a) c, .slice B (ln b32 b) d] w (DivPost a b w) := by
  have t1 : decide (cmpI a b < 0) = false := by
    rcases Nat.lt_or_eq_of_le hab with h | h
    · rw [cmpI_gt h]; decide
    · rw [cmpI_eq h.symm]; decide
  have hb0 : 0 < b := (ln_pos b32_two).1 (by omega)
  have hna := ln_mono b32_two hab
  obtain ⟨p, q, rfl, hp, hcb⟩ := hb (by omega)
  have c0 := hcb (ln b32 b - 1) (by omega)
  have t2 : (((ln b32 b : Nat) : Int) == 1) = false := by simp; omega
  obtain ⟨s, hs⟩ : ∃ s, s = lz (dgt b32 b (ln b32 b - 1)) := ⟨_, rfl⟩
  obtain ⟨hs32, hVn, hVtop, hVge⟩ := norm_div rfl hb0 hs
  have hlz := fun w => lz_any (dgt b32 b (ln b32 b - 1)) w (by have := dgt_top b32_two hb0; omega) (dgt32_lt ..)
  rw [← hs] at hlz
  have hV0 : 0 < b * 2 ^ s := Nat.mul_pos hb0 (Nat.pow_pos (by decide))
  have hcmp := compare_any A (some ⟨p, q, none⟩) c d a b w ha hb (by omega)
  have hsh1 := fun w' (hb' : Below w.heap.size w w') => shifted_any (some ⟨p, q, none⟩) d b s w' (hb.below hb') hs32 (by omega)
  have hsh2 := fun w' (hb' : Below w.heap.size w w') => shifted_any A c a s w' (ha.below hb') hs32 hn
  have hmk := mk32 (ln b32 a - ln b32 b + 1) (ln b32 a - ln b32 b + 1) (Nat.le_refl _) (by omega)
  rw [show ((ln b32 a - ln b32 b + 1 : Nat) : Int) = (ln b32 a : Int) - (ln b32 b : Int) + 1 by omega] at hmk
  have HC := Lib.hid hcmp
  have HS1 := Lib.hid hsh1
  have HS2 := Lib.hid hsh2
  have HLZ := Lib.hid hlz
  have HVn := Lib.hid hVn
  have HVtop := Lib.hid hVtop
  have HVge := Lib.hid hVge
  have HS := Lib.hid hs
  clear hcmp hsh1 hsh2 hlz hVn hVtop hVge hs
  go_enter Tryz.func162, Tryz.ntmps162
  go_wp2_with fail
  refine HC.out.mono ?_
  rintro e w1 ⟨rfl, m, rfl⟩
  go_wp2_with fail
  refine (HLZ.out _).mono ?_
  rintro e w1 ⟨rfl, rfl⟩
  go_wp2_with fail
  refine (HS1.out _ (belowN (Below.refl _ w) m)).mono ?_
  rintro e w1 ⟨rfl, hrv, hbel1⟩
  go_wp2_with fail
  have hbel1' : Below w.heap.size w w1 := (belowN (Below.refl _ w) m).trans hbel1
  refine (HS2.out _ hbel1').mono ?_
  rintro e w2 ⟨rfl, hru, hbel2⟩
  go_wp2_with fail
  clear hmk
  have l1 := hrv.lt
  have l2 := hru.lt
  have l3 := hbel2.size
  have l4 := hbel1'.size
  simp only [World.heap_drewN] at hrv l1
  have hrv2 := hrv.below hbel2 hrv.lt
  go_loopw [13] (fun i wr => ∃ (k : Nat) (F : Nat → Nat), k ≤ ln b32 a - ln b32 b + 1 ∧ i = .int .i64 ((k : Int) - 1) ∧ DivSt w.heap.size w1.heap.size w.heap.size w2.heap.size (ln b32 a) (ln b32 b) (a * 2 ^ s) (b * 2 ^ s) k w wr F) (fun i _ => (intOf i + 1).toNat)
  case atStart =>
    refine ⟨ln b32 a - ln b32 b + 1, dgt b32 (a * 2 ^ s), Nat.le_refl _, ?_, hru.alloc _, fun i => dgt32_lt _ i, ?_, fun _ _ => rfl, hrv2.alloc _, Row.made.congr fun j hj => by rw [if_neg (by omega)], (hbel1'.trans (hbel2.mono (by omega))).alloc (by omega) _⟩
    · congr 1; omega
    · have h3 := win_start (A2 := a * 2 ^ s) (V := b * 2 ^ s) (n := ln b32 b) (lt_pow_ln b32_two a) rfl hs32 (by omega) hna HVge.out
      rw [Nat.mod_eq_of_lt h3]
      have h4 : a * 2 ^ s < b32 ^ (ln b32 a + 1) := by
        rw [Nat.pow_succ]
        have h5 := lt_pow_ln b32_two a
        have h6 : 2 ^ s < b32 := Nat.lt_of_le_of_lt (Nat.pow_le_pow_right (by decide) (show s ≤ 31 by omega)) (by decide)
        exact Nat.lt_of_lt_of_le (Nat.mul_lt_mul_of_pos_right h5 (Nat.pow_pos (by decide))) (Nat.mul_le_mul_left _ (Nat.le_of_lt h6))
      have h7 := div_vs (B := b32) (f := dgt b32 (a * 2 ^ s)) (m := ln b32 a + 1) (j := ln b32 a - ln b32 b + 1) (fun i _ => dgt32_lt _ i) (by omega)
      rw [vs_dgt_lt h4] at h7
      exact h7.symm
  case round =>
    obtain ⟨k, F, hk, rfl, hst⟩ := hrel
    rcases Nat.eq_zero_or_pos k with rfl | hk0
    · obtain ⟨R, hR⟩ : ∃ R, R = a * 2 ^ s % (b * 2 ^ s) := ⟨_, rfl⟩
      obtain ⟨Q, hQ⟩ : ∃ Q, Q = a * 2 ^ s / (b * 2 ^ s) := ⟨_, rfl⟩
      have hrF : Row wr w1.heap.size 152 .u32 (ln b32 a + 1) (ln b32 a + 1) (dgt b32 R) := hst.u.congr fun i hi => by
        have h1 := hst.win
        simp only [Nat.zero_add, Nat.sub_zero, Nat.pow_zero, Nat.div_one] at h1
        rw [← hR] at h1
        rw [← h1]
        exact (dgt_vs (fun j _ => hst.fu j) hi).symm
      have hrQ : Row wr w2.heap.size 152 .u32 (ln b32 a - ln b32 b + 1) (ln b32 a - ln b32 b + 1) (dgt b32 Q) := hst.q.congr fun i _ => by rw [if_pos (Nat.zero_le _), hQ]
      have hbelw := hst.below
      have HR := Lib.hid hR
      have HQ := Lib.hid hQ
      clear hst hR hQ
      go_wp2_with fail
      go_loopw [78] (fun i wx => ∃ k : Nat, k ≤ ln b32 b ∧ i = .int .i64 k ∧ Row wx w1.heap.size 152 .u32 (ln b32 a + 1) (ln b32 a + 1) (fun q => if q < k then dgt b32 (R / 2 ^ s) q else dgt b32 R q) ∧ Row wx w2.heap.size 152 .u32 (ln b32 a - ln b32 b + 1) (ln b32 a - ln b32 b + 1) (dgt b32 Q) ∧ Below w.heap.size w wx) (fun i _ => ln b32 b - (intOf i).toNat)
      case atStart => exact ⟨0, Nat.zero_le _, rfl, hrF.congr fun i _ => by rw [if_neg (by omega)], hrQ, hbelw⟩
      case round =>
        obtain ⟨k, hk, rfl, hrow, hrq, hbelx⟩ := hrel
        by_cases hlt : k < ln b32 b
        · have c1 := hrow.cell (i := k) (by omega)
          have c2 := hrow.cell (i := k + 1) (by omega)
          have c3 := hrow.frozen k
          rw [if_neg (by omega)] at c1 c2
          have d1 := dgt32_lt R k
          have d2 := dgt32_lt R (k + 1)
          have o1 := u64_or_add d2 d1
          obtain ⟨X, hX⟩ : ∃ X, X = 4294967296 * dgt b32 R (k + 1) + dgt b32 R k := ⟨_, rfl⟩
          rw [← hX, show ((4294967296 * dgt b32 R (k + 1) : Nat) : Int) = (dgt b32 R (k + 1) : Int) * 4294967296 by omega] at o1
          have hX64 : X < 18446744073709551616 := by omega
          have HX := Lib.hid hX
          clear hX
          go_wp2_with fail
          go_region
          go_wp2_with fail
          go_roundw
          case rel =>
            refine ⟨k + 1, by omega, by go_num, (hrow.setI ?_ fun p _ hp => ?_).drew, (hrq.far (p := ⟨w1.heap.size, k, none⟩) (by simp; omega) _).drew, (hbelx.setCell (by simp; omega) _).drew⟩
            · rw [if_pos (by omega), ← unshift_digit hs32, Nat.mul_comm (dgt b32 R (k + 1)), ← HX.out, Int.natCast_emod, Int.natCast_ediv, Int.natCast_pow]; rfl
            · simp only [show p < k + 1 ↔ p < k by omega]
          case measure => simp [intOf]; omega
        · obtain rfl : k = ln b32 b := by omega
          have hp2 : 0 < 2 ^ s := Nat.pow_pos (by decide)
          have hRv : R / 2 ^ s = a % b := by rw [HR.out, Nat.mul_mod_mul_right, Nat.mul_div_cancel _ hp2]
          have hQv : Q = a / b := by rw [HQ.out, Nat.mul_div_mul_right _ _ hp2]
          have hRlt : R / 2 ^ s < b32 ^ ln b32 b := by rw [hRv]; exact Nat.lt_trans (Nat.mod_lt _ hb0) (lt_pow_ln b32_two b)
          have hQlt : Q < b32 ^ (ln b32 a - ln b32 b + 1) := by rw [hQv]; exact quo_len (lt_pow_ln b32_two a) (pow_le_of_ln b32_two hb0) (by omega) hna
          have hr2 : Row wr w1.heap.size 152 .u32 (ln b32 a + 1) (ln b32 b) (dgt b32 (R / 2 ^ s)) := (hrow.shorter (by omega)).congr fun i hi => by rw [if_pos hi]
          have q1 := fun n => trim_any (some ⟨w2.heap.size, 0, none⟩) _ (ln b32 a - ln b32 b + 1) (dgt b32 Q) (wr.drewN n) ((hrq.rd (Nat.le_refl _) hrq.lt).drewN n) (fun i _ => dgt32_lt Q i) (Nat.le_refl _) (by omega)
          have q2 := fun n => trim_any (some ⟨w1.heap.size, 0, none⟩) _ (ln b32 a + 1) (dgt b32 (R / 2 ^ s)) (wr.drewN n) ((hr2.rd (Nat.le_refl _) hr2.lt).drewN n) (fun i _ => dgt32_lt (R / 2 ^ s) i) (by omega) (by omega)
          rw [vs_dgt_lt hQlt, hQv] at q1
          rw [vs_dgt_lt hRlt, hRv] at q2
          have Q1 := Lib.hid fun n => (q1 n).mono (R' := fun e w' => e = .returned (.slice (some ⟨w2.heap.size, 0, none⟩) (ln b32 (a / b)) (ln b32 a - ln b32 b + 1)) ∧ w' = wr.drewN n) fun _ _ ⟨he, hw, _⟩ => ⟨he, hw.symm⟩
          have Q2 := Lib.hid fun n => (q2 n).mono (R' := fun e w' => e = .returned (.slice (some ⟨w1.heap.size, 0, none⟩) (ln b32 (a % b)) (ln b32 a + 1)) ∧ w' = wr.drewN n) fun _ _ ⟨he, hw, _⟩ => ⟨he, hw.symm⟩
          have N1 : Num32 wr (some ⟨w2.heap.size, 0, none⟩) (a / b) := by
            have h := Num32.of_rd (hrq.rd (Nat.le_refl _) hrq.lt) (fun i _ => dgt32_lt Q i)
            rw [vs_dgt_lt hQlt, hQv] at h
            exact h
          have N2 : Num32 wr (some ⟨w1.heap.size, 0, none⟩) (a % b) := by
            have h := Num32.of_rd (hr2.rd (Nat.le_refl _) hr2.lt) (fun i _ => dgt32_lt (R / 2 ^ s) i)
            rw [vs_dgt_lt hRlt, hRv] at h
            exact h
          have L1 : ln b32 (a / b) ≤ ln b32 a - ln b32 b + 1 := by rw [← hQv]; exact (ln_le b32_two).2 hQlt
          have L2 : ln b32 (a % b) ≤ ln b32 a + 1 := Nat.le_trans (ln_mono b32_two (Nat.mod_le a b)) (Nat.le_succ _)
          clear q1 q2 hRv hQv hRlt hQlt hr2
          go_wp2_with fail
          go_quiet ((go_at_call 158; first | (with_reducible exact Calls.quiet_of_same (Q1.out _)) | (with_reducible exact Calls.quiet_of_same (Q2.out _))))
          go_wp2_with fail
          go_ret2
          exact ⟨_, _, _, _, rfl, L1, L2, N1, N2, belowN hbelx _⟩
    · obtain ⟨j, rfl⟩ : ∃ j, k = j + 1 := ⟨k - 1, by omega⟩
      have ej : (((j + 1 : Nat) : Int) - 1) = (j : Int) := by omega
      rw [ej]
      have hw := hst.window (by omega) hV0 HVn.out
      have hlt : vs b32 (fun i => F (j + i)) (ln b32 b + 1) < vs b32 (dgt b32 (b * 2 ^ s)) (ln b32 b) * b32 := by
        rw [hw, vs_dgt_lt HVn.out]
        have h6 := Nat.mod_lt (a * 2 ^ s / b32 ^ (j + 1)) hV0
        have h7 : b32 * (a * 2 ^ s / b32 ^ (j + 1) % (b * 2 ^ s) + 1) ≤ b32 * (b * 2 ^ s) := Nat.mul_le_mul_left _ h6
        have h8 := dgt32_lt (a * 2 ^ s) j
        rw [Nat.mul_add] at h7
        rw [Nat.mul_comm _ b32]
        have h9 : b32 = 4294967296 := rfl
        omega
      have hcall := divStep_walk w1.heap.size j (ln b32 a + 1 - j) w.heap.size (ln b32 b + 1) (ln b32 b) (ln b32 a + 1) (ln b32 b + 1) F (dgt b32 (b * 2 ^ s)) wr hst.u hst.fu hst.v (fun i => dgt32_lt _ i) (by omega) h2 (by omega) (by omega) (by omega) HVtop.out hlt
      rw [vs_dgt_lt HVn.out] at hcall
      have HCA := Lib.hid hcall
      have HW := Lib.hid hw
      have c5 := hst.q.cell (i := j) (by omega)
      clear hcall hw hlt ej
      go_wp2_with fail
      rw [show j + ln b32 b + 1 - j = ln b32 b + 1 by omega]
      refine HCA.out.mono ?_
      rintro e w5 ⟨F', rfl, r1, r2, r3, r4, r5⟩
      have hrq := hst.q.grown r5 (by simp; omega)
      have c6 := hrq.cell (i := j) (by omega)
      have c7 := hrq.frozen j
      have HST := Lib.hid (fun u hu => hst.step (w2 := w5) (F' := F') (u := u) (by omega) hV0 HVn.out (by omega) (by omega) (by omega) (by omega) (by omega) r1 r2 r3 r4 r5 hu)
      clear r2 r3 r4
      go_wp2_with fail
      go_roundw
      case rel => exact ⟨j, F', by omega, by go_num, HST.out _ rfl⟩
      case measure => simp [intOf]
/-- divide: quotient and remainder. -/
theorem divide_any (A B : Option Addr) (c d a b : Nat) (w : World) (ha : Num32 w A a) (hb : Num32 w B b) (hb0 : 0 < b) (hn : ln b32 a ≤ 1000000) :
    Calls Tryz.prog 162 #[.slice A (ln b32 a) c, .slice B (ln b32 b) d] w (DivPost a b w) := by
  by_cases hab : a < b
  · exact divide_small A B c d a b w ha hb hab hn
  · have := (ln_pos b32_two).2 hb0
    by_cases h1 : ln b32 b = 1
    · exact divide_one A B c d a b w ha hb (by omega) hn h1
    · exact divide_long A B c d a b w ha hb (by omega) hn (by omega)
end Go.Proofs.YtmjlankpihnicaaGreat
namespace Go.Proofs.YtmjlankpihnicaaGreat
open Go.RowKit

/-- The variable s: the steps so far. -/
def StepsAt (w : World) (g : Nat) (ev : Bool) (u0 u1 v0 v1 : Nat) : Prop :=
  w.heap[g]? = some (.cells #[.int .u64 (u0 : Int), .int .u64 (u1 : Int), .int .u64 (v0 : Int), .int .u64 (v1 : Int), .bool ev] 165 (0, 0))

theorem StepsAt.cells {w : World} {g : Nat} {ev : Bool} {u0 u1 v0 v1 : Nat} (h : StepsAt w g ev u0 u1 v0 v1) :
    w.cell? ⟨g, 0, none⟩ = some (.int .u64 (u0 : Int)) ∧ w.cell? ⟨g, 1, none⟩ = some (.int .u64 (u1 : Int)) ∧ w.cell? ⟨g, 2, none⟩ = some (.int .u64 (v0 : Int)) ∧ w.cell? ⟨g, 3, none⟩ = some (.int .u64 (v1 : Int)) ∧ w.cell? ⟨g, 4, none⟩ = some (.bool ev) := by
  refine ⟨?_, ?_, ?_, ?_, ?_⟩ <;> exact (cell_of_row w g _ _ _ (0, 0) h).trans rfl
theorem StepsAt.frozen {w : World} {g : Nat} {ev : Bool} {u0 u1 v0 v1 : Nat} (h : StepsAt w g ev u0 u1 v0 v1) (i : Nat) : w.frozen? ⟨g, i, none⟩ = false := by
  simp [World.frozen?, show w.heap[g]? = _ from h]
theorem StepsAt.lt {w : World} {g : Nat} {ev : Bool} {u0 u1 v0 v1 : Nat} (h : StepsAt w g ev u0 u1 v0 v1) : g < w.heap.size := heap_lt h
theorem StepsAt.far {w : World} {g : Nat} {ev : Bool} {u0 u1 v0 v1 : Nat} (h : StepsAt w g ev u0 u1 v0 v1) {p : Addr} (hp : g ≠ p.block) (u : Value) : StepsAt (w.setCell p u) g ev u0 u1 v0 v1 :=
  (Below.heap_setCell w p u g hp).trans h
theorem StepsAt.set {w : World} {g : Nat} {ev : Bool} {u0 u1 v0 v1 : Nat} (h : StepsAt w g ev u0 u1 v0 v1) (u0' u1' v0' v1' : Nat) (ev' : Bool) :
    StepsAt (((((w.setCell ⟨g, 0, none⟩ (.int .u64 (u0' : Int))).setCell ⟨g, 1, none⟩ (.int .u64 (u1' : Int))).setCell ⟨g, 2, none⟩ (.int .u64 (v0' : Int))).setCell ⟨g, 3, none⟩ (.int .u64 (v1' : Int))).setCell ⟨g, 4, none⟩ (.bool ev')) g ev' u0' u1' v0' v1' := by
  unfold StepsAt at h ⊢
  simp [World.setCell, Array.getElem?_modify, h]

def SimPost (a b : Nat) (w : World) (e : Ending) (w' : World) : Prop :=
  ∃ ev u0 u1 v0 v1, e = .returned (.agg #[.int .u64 ((u0 : Nat) : Int), .int .u64 ((u1 : Nat) : Int), .int .u64 ((v0 : Nat) : Int), .int .u64 ((v1 : Nat) : Int), .bool ev]) ∧ (v0 = 0 ∨ StepsOK a b ev u0 u1 v0 v1) ∧ Below w.heap.size w w'

set_option maxRecDepth 100000 in
set_option maxHeartbeats 2000000 in
theorem simulate_any (A B : Option Addr) (c d a b : Nat) (w : World) (ha : Num32 w A a) (hb : Num32 w B b) (hba : b ≤ a) (hn : ln b32 a ≤ 1000000) (h3 : 3 ≤ ln b32 b) :
    Calls Tryz.prog 165 #[.slice A (ln b32 a) c, .slice B (ln b32 b) d] w (SimPost a b w) := by
  have hlb : ln b32 b ≤ ln b32 a := (ln_le b32_two).2 (Nat.lt_of_le_of_lt hba (lt_pow_ln b32_two a))
  have ha0 : 0 < a := (ln_pos b32_two).1 (by omega)
  have htop := dgt_top b32_two ha0
  have htlt := dgt32_lt a (ln b32 a - 1)
  obtain ⟨s, hs⟩ : ∃ s, s = lz (dgt b32 a (ln b32 a - 1)) := ⟨_, rfl⟩
  obtain ⟨hs32, han, _, _⟩ := norm_div rfl ha0 hs
  have hbn : b * 2 ^ s < b32 ^ ln b32 a := Nat.lt_of_le_of_lt (Nat.mul_le_mul_right _ hba) han
  obtain ⟨pa, qa, rfl, hpa, hca⟩ := ha (by omega)
  have c1 := hca (ln b32 a - 1) (by omega)
  have HAN := Lib.hid han
  have HBN := Lib.hid hbn
  have HS := Lib.hid hs
  have hi1 : 0 ≤ (ln b32 a : Int) - 1 := by omega
  have hi2 : (ln b32 a : Int) - 1 < (ln b32 a : Int) := by omega
  have hi3 : ((ln b32 a : Int) - 1).toNat = ln b32 a - 1 := by omega
  clear han hbn hs hca
  go_enter Tryz.func165, Tryz.ntmps165
  go_wp2_with fail
  refine (lz_any (dgt b32 a (ln b32 a - 1)) _ (by omega) htlt).mono ?_
  rintro e w1 ⟨rfl, rfl⟩
  rw [← HS.out]
  go_wp2_with fail
  have bl0 : Below w.heap.size w (w.alloc (.cells #[.int .u64 0, .int .u64 0, .int .u64 0, .int .u64 0, .bool false] 165)) := (Below.refl _ w).alloc (Nat.le_refl _) _
  refine (head_any a (ln b32 a) s _ c _ (Num32.below ha bl0) (Nat.le_refl _) (by omega) hn hs32 HAN.out).mono ?_
  rintro e w1 ⟨rfl, hw1⟩
  go_wp2_with fail
  refine (head_any b (ln b32 a) s _ d _ (Num32.below (Num32.below hb bl0) hw1) hlb (by omega) hn hs32 HBN.out).mono ?_
  rintro e w2 ⟨rfl, hw2⟩
  go_wp2_with fail
  have hR : StepsAt (w.alloc (.cells #[.int .u64 0, .int .u64 0, .int .u64 0, .int .u64 0, .bool false] 165)) w.heap.size false 0 0 0 0 := heap_alloc_new _ _
  have hR2 : StepsAt w2 w.heap.size false 0 0 0 0 := (hw2.block _ (Nat.lt_of_lt_of_le hR.lt hw1.size)).trans ((hw1.block _ hR.lt).trans hR)
  have hbl2 : Below w.heap.size w w2 := (bl0.trans (hw1.mono (by simp))).trans (hw2.mono (by have := hw1.size; simp at this; omega))
  have hlt2 := hR2.lt
  have hal := hdv_lt (show 3 ≤ ln b32 a by omega) hs32 HAN.out
  have hle : hdv b (ln b32 a) s ≤ hdv a (ln b32 a) s := Nat.div_le_div_right hba
  have hKpos : 0 < b32 ^ (ln b32 a - 3) * 2 ^ (32 - s) := Nat.mul_pos (Nat.pow_pos (by decide)) (Nat.pow_pos (by decide))
  have hea : a = b32 ^ (ln b32 a - 3) * 2 ^ (32 - s) * hdv a (ln b32 a) s + a % (b32 ^ (ln b32 a - 3) * 2 ^ (32 - s)) := (Nat.div_add_mod _ _).symm
  have heb : b = b32 ^ (ln b32 a - 3) * 2 ^ (32 - s) * hdv b (ln b32 a) s + b % (b32 ^ (ln b32 a - 3) * 2 ^ (32 - s)) := (Nat.div_add_mod _ _).symm
  have hma := Nat.mod_lt a hKpos
  have hmb := Nat.mod_lt b hKpos
  have STEP := Lib.hid fun (ev : Bool) (u0 u1 u2 v0 v1 v2 x1 x2 : Nat) (h : Sim a b (hdv a (ln b32 a) s) (hdv b (ln b32 a) s) ev u0 u1 u2 v0 v1 v2 x1 x2) => sim_step hea heb hma hmb hal h
  clear hea heb hma hmb hKpos hR
  generalize hdv a (ln b32 a) s = al at *
  generalize hdv b (ln b32 a) s = be at *
  go_loopw [7, 8, 10, 11] (fun x1 x2 u2 v2 wr => ∃ ev U0 U1 U2 V0 V1 V2 X1 X2, x1 = .int .u64 ((X1 : Nat) : Int) ∧ x2 = .int .u64 ((X2 : Nat) : Int) ∧ u2 = .int .u64 ((U2 : Nat) : Int) ∧ v2 = .int .u64 ((V2 : Nat) : Int) ∧ Sim a b al be ev U0 U1 U2 V0 V1 V2 X1 X2 ∧
      StepsAt wr w2.heap.size ev U0 U1 V0 V1 ∧ StepsAt wr w.heap.size false 0 0 0 0 ∧ Below w.heap.size w wr) (fun _ x2 _ _ _ => (intOf x2).toNat)
  case atStart => exact ⟨false, 0, 1, 0, 0, 0, 1, _, _, rfl, rfl, rfl, rfl, sim_start hle, heap_alloc_new _ _, (Below.heap_alloc _ _ _ hlt2).trans hR2, hbl2.alloc hbl2.size _⟩
  case round =>
    obtain ⟨ev, U0, U1, U2, V0, V1, V2, X1, X2, rfl, rfl, rfl, rfl, hsim, hS, hR, hbel⟩ := hrel
    obtain ⟨s0, s1, s2, s3, s4⟩ := hS.cells
    have f0 := hS.frozen 0
    have f1 := hS.frozen 1
    have f2 := hS.frozen 2
    have f3 := hS.frozen 3
    have f4 := hS.frozen 4
    have hSlt := hS.lt
    have hle12 := hsim.le
    have hv2p := hsim.v2pos
    have HSIM := Lib.hid hsim
    have hx1lt : X1 < 18446744073709551616 := by
      have h1 := hsim.sum
      have h2 : X1 ≤ V2 * X1 := Nat.le_mul_of_pos_left _ hv2p
      omega
    have hr0 := hR.cells
    have hg0 := hR.frozen 0
    have hg1 := hR.frozen 1
    have hg2 := hR.frozen 2
    have hg3 := hR.frozen 3
    have hg4 := hR.frozen 4
    obtain ⟨r0, r1, r2, r3, r4⟩ := hr0
    by_cases t1 : V2 ≤ X2
    · obtain ⟨fa, fb, fc⟩ := sim_fits hsim hal (show 1 ≤ X2 by omega)
      have hx0 : ((X2 : Nat) : Int) ≠ 0 := by omega
      by_cases t2 : V1 + V2 ≤ X1 - X2
      · obtain ⟨Q, hQ⟩ : ∃ Q, Q = X1 / X2 := ⟨_, rfl⟩
        obtain ⟨R, hR'⟩ : ∃ R, R = X1 % X2 := ⟨_, rfl⟩
        have h64 : X1 / X2 ≤ X1 := Nat.div_le_self _ _
        have hq64 : Q < 18446744073709551616 := by rw [hQ]; omega
        have hr64 : R < 18446744073709551616 := by have := Nat.mod_lt X1 (show 0 < X2 by omega); omega
        rw [← hQ] at fb fc
        have q1 : (0 : Int) ≤ (Q : Int) * (V2 : Int) := by rw [← Int.natCast_mul]; omega
        have q2 : (0 : Int) ≤ (Q : Int) * (U2 : Int) := by rw [← Int.natCast_mul]; omega
        have q3 : (V1 : Int) + (Q : Int) * (V2 : Int) < 18446744073709551616 := by rw [← Int.natCast_mul]; omega
        have q4 : (U1 : Int) + (Q : Int) * (U2 : Int) < 18446744073709551616 := by rw [← Int.natCast_mul]; omega
        have T2 : (V1 : Int) + (V2 : Int) ≤ (X1 : Int) - (X2 : Int) := by omega
        have e1 : (X1 : Int) / (X2 : Int) = (Q : Int) := by rw [hQ]; rfl
        have e2 : (X1 : Int) % (X2 : Int) = (R : Int) := by rw [hR']; rfl
        have E1 := Lib.hid e1
        have E2 := Lib.hid e2
        have HQ := Lib.hid hQ
        have HR := Lib.hid hR'
        clear hsim e1 e2 hQ hR' fb fc t2 h64
        go_wp2_with fail
        go_quiet (fail)
        rw [E1.out, E2.out]
        go_wp2_with fail
        go_roundw
        case rel =>
          have hst := STEP.out _ _ _ _ _ _ _ _ _ HSIM.out t1 (by omega)
          rw [← HQ.out, ← HR.out] at hst
          refine ⟨!ev, U1, U2, U1 + Q * U2, V1, V2, V1 + Q * V2, X2, R, rfl, rfl, rfl, rfl, hst, ?_, ?_, ?_⟩
          · exact hS.set U1 U2 V1 V2 (!ev)
          · have h1 := (((hR.far (p := ⟨w2.heap.size, 0, none⟩) (by simp; omega) (.int .u64 (U1 : Int))).far (p := ⟨w2.heap.size, 1, none⟩) (by simp; omega) (.int .u64 (U2 : Int))).far (p := ⟨w2.heap.size, 2, none⟩) (by simp; omega) (.int .u64 (V1 : Int))).far (p := ⟨w2.heap.size, 3, none⟩) (by simp; omega) (.int .u64 (V2 : Int))
            exact h1.far (p := ⟨w2.heap.size, 4, none⟩) (by simp; omega) _
          · have hb1 := ((((belowN hbel nq).setCell (p := ⟨w2.heap.size, 0, none⟩) (Nat.le_of_lt hlt2) (.int .u64 (U1 : Int))).setCell (p := ⟨w2.heap.size, 1, none⟩) (Nat.le_of_lt hlt2) (.int .u64 (U2 : Int))).setCell (p := ⟨w2.heap.size, 2, none⟩) (Nat.le_of_lt hlt2) (.int .u64 (V1 : Int))).setCell (p := ⟨w2.heap.size, 3, none⟩) (Nat.le_of_lt hlt2) (.int .u64 (V2 : Int))
            exact hb1.setCell (p := ⟨w2.heap.size, 4, none⟩) (Nat.le_of_lt hlt2) _
        case measure =>
          have hm := Nat.mod_lt X1 (show 0 < X2 by omega)
          rw [← HR.out] at hm
          simp [intOf]; omega
      · have T2 : decide ((X1 : Int) - (X2 : Int) ≥ (V1 : Int) + (V2 : Int)) = false := decide_eq_false (by omega)
        clear hsim t2
        go_wp2_with fail
        have hW := hR.set U0 U1 V0 V1 ev
        have hb1 := ((((hbel.setCell (p := ⟨w.heap.size, 0, none⟩) (Nat.le_refl _) (.int .u64 (U0 : Int))).setCell (p := ⟨w.heap.size, 1, none⟩) (Nat.le_refl _) (.int .u64 (U1 : Int))).setCell (p := ⟨w.heap.size, 2, none⟩) (Nat.le_refl _) (.int .u64 (V0 : Int))).setCell (p := ⟨w.heap.size, 3, none⟩) (Nat.le_refl _) (.int .u64 (V1 : Int))).setCell (p := ⟨w.heap.size, 4, none⟩) (Nat.le_refl _) (.bool ev)
        clear hR r0 r1 r2 r3 r4
        generalize (((((wr.setCell ⟨w.heap.size, 0, none⟩ (.int .u64 (U0 : Int))).setCell ⟨w.heap.size, 1, none⟩ (.int .u64 (U1 : Int))).setCell ⟨w.heap.size, 2, none⟩ (.int .u64 (V0 : Int))).setCell ⟨w.heap.size, 3, none⟩ (.int .u64 (V1 : Int))).setCell ⟨w.heap.size, 4, none⟩ (.bool ev)) = WW at *
        obtain ⟨k0, k1, k2, k3, k4⟩ := hW.cells
        refine bodyPost_ret (v := .agg #[.int .u64 (U0 : Int), .int .u64 (U1 : Int), .int .u64 (V0 : Int), .int .u64 (V1 : Int), .bool ev]) (by simp [results, Tryz.results165, go_sem, k0, k1, k2, k3, k4]) rfl ?_
        exact ⟨ev, U0, U1, V0, V1, rfl, HSIM.out.out, hb1⟩
    · have T1 : decide ((X2 : Int) ≥ (V2 : Int)) = false := decide_eq_false (by omega)
      clear hsim
      go_wp2_with fail
      have hW := hR.set U0 U1 V0 V1 ev
      have hb1 := ((((hbel.setCell (p := ⟨w.heap.size, 0, none⟩) (Nat.le_refl _) (.int .u64 (U0 : Int))).setCell (p := ⟨w.heap.size, 1, none⟩) (Nat.le_refl _) (.int .u64 (U1 : Int))).setCell (p := ⟨w.heap.size, 2, none⟩) (Nat.le_refl _) (.int .u64 (V0 : Int))).setCell (p := ⟨w.heap.size, 3, none⟩) (Nat.le_refl _) (.int .u64 (V1 : Int))).setCell (p := ⟨w.heap.size, 4, none⟩) (Nat.le_refl _) (.bool ev)
      clear hR r0 r1 r2 r3 r4
      generalize (((((wr.setCell ⟨w.heap.size, 0, none⟩ (.int .u64 (U0 : Int))).setCell ⟨w.heap.size, 1, none⟩ (.int .u64 (U1 : Int))).setCell ⟨w.heap.size, 2, none⟩ (.int .u64 (V0 : Int))).setCell ⟨w.heap.size, 3, none⟩ (.int .u64 (V1 : Int))).setCell ⟨w.heap.size, 4, none⟩ (.bool ev)) = WW at *
      obtain ⟨k0, k1, k2, k3, k4⟩ := hW.cells
      refine bodyPost_ret (v := .agg #[.int .u64 (U0 : Int), .int .u64 (U1 : Int), .int .u64 (V0 : Int), .int .u64 (V1 : Int), .bool ev]) (by simp [results, Tryz.results165, go_sem, k0, k1, k2, k3, k4]) rfl ?_
      exact ⟨ev, U0, U1, V0, V1, rfl, HSIM.out.out, hb1⟩
end Go.Proofs.YtmjlankpihnicaaGreat
namespace Go.Proofs.YtmjlankpihnicaaGreat
open Go.RowKit

theorem mlo_sum (d : Nat) (v : Nat → Nat) (n : Nat) : vs b32 (mlo d v) n + b32 ^ n * mcr d v n = d * vs b32 v n := by
  induction n with
  | zero => simp [vs, mcr]
  | succ n ih =>
    have h := carry_step (t := d * v n) ih (show mlo d v n = (d * v n + mcr d v n) % b32 by rfl)
    rw [vs_succ b32 v, Nat.mul_add, Nat.mul_left_comm d]
    exact h
theorem mlo_total {d x n : Nat} (hd : d < 4294967296) (hn : ln b32 x < n) : vs b32 (mlo d (dgt b32 x)) n = d * x := by
  have h1 := mlo_sum d (dgt b32 x) n
  have hx : x < b32 ^ n := (ln_le b32_two).1 (by omega)
  rw [vs_dgt_lt hx] at h1
  have h2 : d * x < b32 ^ n := by
    obtain ⟨m, rfl⟩ : ∃ m, n = m + 1 := ⟨n - 1, by omega⟩
    have h3 : x < b32 ^ m := (ln_le b32_two).1 (by omega)
    rw [Nat.pow_succ, Nat.mul_comm (b32 ^ m)]
    exact Nat.mul_lt_mul_of_lt_of_le hd (Nat.le_of_lt h3) (Nat.pow_pos (by decide))
  rcases Nat.eq_zero_or_pos (mcr d (dgt b32 x) n) with h0 | h0
  · rw [h0, Nat.mul_zero, Nat.add_zero] at h1; exact h1
  · have h4 : b32 ^ n * 1 ≤ b32 ^ n * mcr d (dgt b32 x) n := Nat.mul_le_mul_left _ h0
    omega
theorem diff_total {u v a b n : Nat} (hu : u < 4294967296) (hv : v < 4294967296) (ha : ln b32 a < n) (hb : ln b32 b < n) (h : v * b ≤ u * a) : vs b32 (dif (mlo u (dgt b32 a)) (mlo v (dgt b32 b))) n = u * a - v * b := by
  have h1 := dif_sum (f := mlo u (dgt b32 a)) (g := mlo v (dgt b32 b)) (fun i => mlo_lt ..) (fun i => mlo_lt ..) n
  rw [mlo_total hu ha, mlo_total hv hb] at h1
  have h2 : vs b32 (dif (mlo u (dgt b32 a)) (mlo v (dgt b32 b))) n < b32 ^ n := vs_lt fun j _ => dif_lt ..
  have h3 : vs b32 (mlo u (dgt b32 a)) n < b32 ^ n := vs_lt fun j _ => mlo_lt ..
  rw [mlo_total hu ha] at h3
  rcases bit_cases (brw_le (mlo u (dgt b32 a)) (mlo v (dgt b32 b)) n) with e | e
  · rw [e] at h1; omega
  · rw [e] at h1; omega
theorem mcr_nul {d k : Nat} {v : Nat → Nat} (h : v k = 0) (hc : mcr d v k < 4294967296) : mlo d v k = mcr d v k ∧ mcr d v (k + 1) = 0 := by
  rw [mlo, mcr, h, Nat.mul_zero, Nat.zero_add]
  exact ⟨Nat.mod_eq_of_lt hc, Nat.div_eq_of_lt hc⟩

/-- The words after k rounds. -/
def dst (f g : Nat → Nat) (k j : Nat) : Nat := if j < k then dif f g j else 0

set_option maxRecDepth 100000 in
set_option maxHeartbeats 2000000 in
theorem difference_any (A B : Option Addr) (c d u v a b : Nat) (w : World) (ha : Num32 w A a) (hb : Num32 w B b) (hu : u < 4294967296) (hv : v < 4294967296) (hab : v * b ≤ u * a) (hn : ln b32 a ≤ 1000000) (hm : ln b32 b ≤ 1000000) :
    Calls Tryz.prog 166 #[.int .u64 (u : Int), .slice A (ln b32 a) c, .int .u64 (v : Int), .slice B (ln b32 b) d] w (W32 w (u * a - v * b)) := by
  obtain ⟨N, hN⟩ : ∃ N, N = max (ln b32 a) (ln b32 b) := ⟨_, rfl⟩
  have hNa : ln b32 a ≤ N := by omega
  have hNb : ln b32 b ≤ N := by omega
  have hN1 : N ≤ 1000000 := by omega
  have htot := diff_total hu hv (show ln b32 a < N + 1 by omega) (show ln b32 b < N + 1 by omega) hab
  have HT0 := Lib.hid htot
  have hmk := mk32 (N + 1) (N + 1) (Nat.le_refl _) (by omega)
  have hmax : ∀ (w : World) (ts : Array TypeId) (t : TypeId), (Builtin.max_ ts t #[.int .i64 (ln b32 a : Int), .int .i64 (ln b32 b : Int)]).run Tryz.prog w = .ok (.int .i64 (N : Int)) w := by
    intro w ts t
    rw [run_max_int2]
    congr 2
    split <;> omega
  rw [show ((N + 1 : Nat) : Int) = (N : Int) + 1 by omega] at hmk
  clear htot hN
  go_enter Tryz.func166, Tryz.ntmps166
  go_wp2_with fail
  clear hmk hmax
  go_loopw [10, 11, 12, 23] (fun x y bo i wr => ∃ k : Nat, k ≤ N + 1 ∧ i = .int .i64 k ∧ x = .int .u64 (mcr u (dgt b32 a) k : Nat) ∧ y = .int .u64 (mcr v (dgt b32 b) k : Nat) ∧ bo = .int .u32 (brw (mlo u (dgt b32 a)) (mlo v (dgt b32 b)) k : Nat) ∧
      Row wr w.heap.size 152 .u32 (N + 1) (N + 1) (dst (mlo u (dgt b32 a)) (mlo v (dgt b32 b)) k) ∧ Below w.heap.size w wr) (fun _ _ _ i _ => N + 1 - (intOf i).toNat)
  case atStart => exact ⟨0, Nat.zero_le _, rfl, rfl, rfl, rfl, Row.made.congr fun j _ => by simp [dst], (Below.refl _ _).alloc (Nat.le_refl _) _⟩
  case round =>
    obtain ⟨k, hk, rfl, rfl, rfl, rfl, hrow, hbel⟩ := hrel
    have hbr := brw_le (mlo u (dgt b32 a)) (mlo v (dgt b32 b)) k
    have m1 := mcr_lt hu (fun i => dgt32_lt a i) k
    have m2 := mcr_lt hv (fun i => dgt32_lt b i) k
    by_cases hlt : k < N + 1
    · have w1 := hrow.cell (i := k) (by omega)
      have w2 := hrow.frozen k
      have hset := fun (p : Int) (hp : p = ((subD (mlo u (dgt b32 a) k) (mlo v (dgt b32 b) k) (brw (mlo u (dgt b32 a)) (mlo v (dgt b32 b)) k) : Nat) : Int)) => hrow.setI (i := k) (x := p) (f' := dst (mlo u (dgt b32 a)) (mlo v (dgt b32 b)) (k + 1)) (by rw [hp]; simp [dst, dif]) fun j _ hj => by simp only [dst, show j < k + 1 ↔ j < k by omega]
      have HSET := Lib.hid hset
      clear hset
      by_cases hak : k < ln b32 a
      · by_cases hbk : k < ln b32 b
        · have ad := dgt32_lt a k
          obtain ⟨pa, qa, rfl, hpa, hca⟩ := ha (by omega)
          have ac := (hbel.cell (p := ⟨pa, qa + k, none⟩) hpa).trans (hca k hak)
          have ap := mul_digit hu ad
          have aI : (u : Int) * (dgt b32 a k : Nat) ≤ 18446744065119617025 := by rw [← Int.natCast_mul]; omega
          have a0 : 0 ≤ (u : Int) * (dgt b32 a k : Nat) := by rw [← Int.natCast_mul]; omega
          have ae1 : (((mcr u (dgt b32 a) k : Nat) : Int) + (u : Int) * (dgt b32 a k : Nat)) % 4294967296 = ((mlo u (dgt b32 a) k : Nat) : Int) := by rw [Int.add_comm]; exact mlo_int ..
          have ae2 : (((mcr u (dgt b32 a) k : Nat) : Int) + (u : Int) * (dgt b32 a k : Nat)) / 4294967296 = ((mcr u (dgt b32 a) (k + 1) : Nat) : Int) := by rw [Int.add_comm]; exact mcr_int ..
          have AE1 := Lib.hid ae1
          have AE2 := Lib.hid ae2
          clear ap ae1 ae2
          have bd := dgt32_lt b k
          obtain ⟨pb, qb, rfl, hpb, hcb⟩ := hb (by omega)
          have bc := (hbel.cell (p := ⟨pb, qb + k, none⟩) hpb).trans (hcb k hbk)
          have bp := mul_digit hv bd
          have bI : (v : Int) * (dgt b32 b k : Nat) ≤ 18446744065119617025 := by rw [← Int.natCast_mul]; omega
          have b0 : 0 ≤ (v : Int) * (dgt b32 b k : Nat) := by rw [← Int.natCast_mul]; omega
          have be1 : (((mcr v (dgt b32 b) k : Nat) : Int) + (v : Int) * (dgt b32 b k : Nat)) % 4294967296 = ((mlo v (dgt b32 b) k : Nat) : Int) := by rw [Int.add_comm]; exact mlo_int ..
          have be2 : (((mcr v (dgt b32 b) k : Nat) : Int) + (v : Int) * (dgt b32 b k : Nat)) / 4294967296 = ((mcr v (dgt b32 b) (k + 1) : Nat) : Int) := by rw [Int.add_comm]; exact mcr_int ..
          have BE1 := Lib.hid be1
          have BE2 := Lib.hid be2
          clear bp be1 be2
          go_wp2_with fail
          refine (sub32_int (Z := brw (mlo u (dgt b32 a)) (mlo v (dgt b32 b)) k) AE1.out BE1.out rfl (mlo_lt ..) (mlo_lt ..) hbr _).mono ?_
          rintro e w3 ⟨rfl, rfl⟩
          go_wp2_with fail
          go_roundw
          case rel => exact ⟨k + 1, by omega, by go_num, (congrArg (Value.int .u64) AE2.out), (congrArg (Value.int .u64) BE2.out), rfl, HSET.out _ rfl, hbel.setCell (Nat.le_refl _) _⟩
          case measure => simp [intOf]; omega
        · have ad := dgt32_lt a k
          obtain ⟨pa, qa, rfl, hpa, hca⟩ := ha (by omega)
          have ac := (hbel.cell (p := ⟨pa, qa + k, none⟩) hpa).trans (hca k hak)
          have ap := mul_digit hu ad
          have aI : (u : Int) * (dgt b32 a k : Nat) ≤ 18446744065119617025 := by rw [← Int.natCast_mul]; omega
          have a0 : 0 ≤ (u : Int) * (dgt b32 a k : Nat) := by rw [← Int.natCast_mul]; omega
          have ae1 : (((mcr u (dgt b32 a) k : Nat) : Int) + (u : Int) * (dgt b32 a k : Nat)) % 4294967296 = ((mlo u (dgt b32 a) k : Nat) : Int) := by rw [Int.add_comm]; exact mlo_int ..
          have ae2 : (((mcr u (dgt b32 a) k : Nat) : Int) + (u : Int) * (dgt b32 a k : Nat)) / 4294967296 = ((mcr u (dgt b32 a) (k + 1) : Nat) : Int) := by rw [Int.add_comm]; exact mcr_int ..
          have AE1 := Lib.hid ae1
          have AE2 := Lib.hid ae2
          clear ap ae1 ae2
          obtain ⟨be1, be2⟩ := mcr_nul (d := v) (v := dgt b32 b) (dgt_of_lt ((ln_le b32_two).1 (show ln b32 b ≤ k by omega))) m2
          have BE1 := Lib.hid be1
          have BE2 := Lib.hid be2
          clear be1 be2
          go_wp2_with fail
          refine (sub32_int (Z := brw (mlo u (dgt b32 a)) (mlo v (dgt b32 b)) k) AE1.out (by rw [BE1.out]) rfl (mlo_lt ..) (mlo_lt ..) hbr _).mono ?_
          rintro e w3 ⟨rfl, rfl⟩
          go_wp2_with fail
          go_roundw
          case rel => exact ⟨k + 1, by omega, by go_num, (congrArg (Value.int .u64) AE2.out), (congrArg (Value.int .u64) (by rw [BE2.out]; omega)), rfl, HSET.out _ rfl, hbel.setCell (Nat.le_refl _) _⟩
          case measure => simp [intOf]; omega
      · by_cases hbk : k < ln b32 b
        · obtain ⟨ae1, ae2⟩ := mcr_nul (d := u) (v := dgt b32 a) (dgt_of_lt ((ln_le b32_two).1 (show ln b32 a ≤ k by omega))) m1
          have AE1 := Lib.hid ae1
          have AE2 := Lib.hid ae2
          clear ae1 ae2
          have bd := dgt32_lt b k
          obtain ⟨pb, qb, rfl, hpb, hcb⟩ := hb (by omega)
          have bc := (hbel.cell (p := ⟨pb, qb + k, none⟩) hpb).trans (hcb k hbk)
          have bp := mul_digit hv bd
          have bI : (v : Int) * (dgt b32 b k : Nat) ≤ 18446744065119617025 := by rw [← Int.natCast_mul]; omega
          have b0 : 0 ≤ (v : Int) * (dgt b32 b k : Nat) := by rw [← Int.natCast_mul]; omega
          have be1 : (((mcr v (dgt b32 b) k : Nat) : Int) + (v : Int) * (dgt b32 b k : Nat)) % 4294967296 = ((mlo v (dgt b32 b) k : Nat) : Int) := by rw [Int.add_comm]; exact mlo_int ..
          have be2 : (((mcr v (dgt b32 b) k : Nat) : Int) + (v : Int) * (dgt b32 b k : Nat)) / 4294967296 = ((mcr v (dgt b32 b) (k + 1) : Nat) : Int) := by rw [Int.add_comm]; exact mcr_int ..
          have BE1 := Lib.hid be1
          have BE2 := Lib.hid be2
          clear bp be1 be2
          go_wp2_with fail
          refine (sub32_int (Z := brw (mlo u (dgt b32 a)) (mlo v (dgt b32 b)) k) (by rw [AE1.out]) BE1.out rfl (mlo_lt ..) (mlo_lt ..) hbr _).mono ?_
          rintro e w3 ⟨rfl, rfl⟩
          go_wp2_with fail
          go_roundw
          case rel => exact ⟨k + 1, by omega, by go_num, (congrArg (Value.int .u64) (by rw [AE2.out]; omega)), (congrArg (Value.int .u64) BE2.out), rfl, HSET.out _ rfl, hbel.setCell (Nat.le_refl _) _⟩
          case measure => simp [intOf]; omega
        · obtain ⟨ae1, ae2⟩ := mcr_nul (d := u) (v := dgt b32 a) (dgt_of_lt ((ln_le b32_two).1 (show ln b32 a ≤ k by omega))) m1
          have AE1 := Lib.hid ae1
          have AE2 := Lib.hid ae2
          clear ae1 ae2
          obtain ⟨be1, be2⟩ := mcr_nul (d := v) (v := dgt b32 b) (dgt_of_lt ((ln_le b32_two).1 (show ln b32 b ≤ k by omega))) m2
          have BE1 := Lib.hid be1
          have BE2 := Lib.hid be2
          clear be1 be2
          go_wp2_with fail
          refine (sub32_int (Z := brw (mlo u (dgt b32 a)) (mlo v (dgt b32 b)) k) (by rw [AE1.out]) (by rw [BE1.out]) rfl (mlo_lt ..) (mlo_lt ..) hbr _).mono ?_
          rintro e w3 ⟨rfl, rfl⟩
          go_wp2_with fail
          go_roundw
          case rel => exact ⟨k + 1, by omega, by go_num, (congrArg (Value.int .u64) (by rw [AE2.out]; omega)), (congrArg (Value.int .u64) (by rw [BE2.out]; omega)), rfl, HSET.out _ rfl, hbel.setCell (Nat.le_refl _) _⟩
          case measure => simp [intOf]; omega
    · obtain rfl : k = N + 1 := by omega
      have hrd := (hrow.rd (Nat.le_refl _) hrow.lt).congr (f' := dif (mlo u (dgt b32 a)) (mlo v (dgt b32 b))) fun j hj => by simp only [dst, if_pos hj]
      have ht := trim_any (some ⟨w.heap.size, 0, none⟩) _ (N + 1) _ wr hrd (fun i _ => dif_lt ..) (Nat.le_refl _) (by omega)
      rw [HT0.out] at ht
      have HT := Lib.hid ht
      clear ht
      go_wp2_with fail
      refine HT.out.mono ?_
      rintro e w3 ⟨rfl, rfl, hnum, hlc⟩
      go_wp2
      go_ret
      exact ⟨_, _, rfl, hlc, hnum, hbel⟩
end Go.Proofs.YtmjlankpihnicaaGreat
namespace Go.Proofs.YtmjlankpihnicaaGreat
open Go.RowKit

theorem vs_two_words (x : Nat) : vs b32 (fun i => if i = 0 then x % 4294967296 else x / 4294967296) 2 = x := by
  simp [vs, b32]; omega
set_option maxRecDepth 100000 in
theorem short_any (x : Nat) (w : World) (hx : x < 18446744073709551616) : Calls Tryz.prog 168 #[.int .u64 (x : Int)] w (W32 w x) := by
  have h1 : x / 4294967296 < 4294967296 := by omega
  go_enter Tryz.func168, Tryz.ntmps168
  go_wp2_with fail
  have hrd : Rd (w.alloc (.cells #[.int .u32 ((x : Int) % 4294967296), .int .u32 ((x : Int) / 4294967296)] 152)).heap.size .u32 (w.alloc (.cells #[.int .u32 ((x : Int) % 4294967296), .int .u32 ((x : Int) / 4294967296)] 152)) (some ⟨w.heap.size, 0, none⟩) 2 (fun i => if i = 0 then x % 4294967296 else x / 4294967296) := fun _ =>
    ⟨w.heap.size, 0, rfl, by simp, fun i hi => by
      rw [Nat.zero_add, cell_of_row _ _ _ _ _ (0, 0) (heap_alloc_new _ _)]
      match i, hi with
      | 0, _ => rfl
      | 1, _ => rfl⟩
  have ht := trim_any (some ⟨w.heap.size, 0, none⟩) 2 2 _ _ hrd (fun i _ => by split <;> omega) (Nat.le_refl _) (by omega)
  rw [vs_two_words x] at ht
  refine ht.mono ?_
  rintro e w1 ⟨rfl, rfl, hnum, hlc⟩
  go_wp2_with fail
  go_ret
  exact ⟨_, _, rfl, hlc, hnum, (Below.refl _ _).alloc (Nat.le_refl _) _⟩
end Go.Proofs.YtmjlankpihnicaaGreat
namespace Go.Proofs.YtmjlankpihnicaaGreat
open Go.RowKit Go.Shelf
attribute [local go_sem] Oper.semAt_some

/-- A number below a bound. -/
abbrev Bd (b : Nat) := { x : Nat // x < b }
/-- The first k of the numbers f (n - 1), .., f 0. -/
def dn (b : Nat) (f : Nat → Nat) (hf : ∀ i, f i < b) (n k : Nat) : List (Bd b) := (List.range k).map fun j => ⟨f (n - 1 - j), hf _⟩
theorem dn_succ (b : Nat) (f : Nat → Nat) (hf : ∀ i, f i < b) (n k : Nat) : dn b f hf n (k + 1) = dn b f hf n k ++ [⟨f (n - 1 - k), hf _⟩] := by simp [dn, List.range_succ]
theorem dn_length (b : Nat) (f : Nat → Nat) (hf : ∀ i, f i < b) (n k : Nat) : (dn b f hf n k).length = k := by simp [dn]
/-- Its value: each further digit is the least significant one. -/
def dval (B : Nat) {b : Nat} (l : List (Bd b)) : Nat := l.foldl (fun s x => s * B + x.1) 0
theorem dval_snoc (B : Nat) {b : Nat} (l : List (Bd b)) (x : Bd b) : dval B (l ++ [x]) = dval B l * B + x.1 := by simp [dval]
theorem dval_dn (B b : Nat) (f : Nat → Nat) (hf : ∀ i, f i < b) (n k : Nat) (hk : k ≤ n) : dval B (dn b f hf n k) = vs B (fun i => f (n - k + i)) k := by
  induction k with
  | zero => rfl
  | succ k ih =>
    rw [dn_succ, dval_snoc, ih (by omega), vs_first, Nat.mul_comm, Nat.add_comm]
    congr 1
    · rw [show n - 1 - k = n - (k + 1) + 0 by omega]
    · congr 1
      exact vs_congr fun i _ => by rw [show n - k + i = n - (k + 1) + (i + 1) by omega]
theorem dval_all (B b : Nat) (f : Nat → Nat) (hf : ∀ i, f i < b) (n : Nat) : dval B (dn b f hf n n) = vs B f n := by
  rw [dval_dn B b f hf n n (Nat.le_refl _)]
  exact vs_congr fun i _ => by rw [Nat.sub_self, Nat.zero_add]
theorem dval_lt {B b : Nat} (hb : b ≤ B) (l : List (Bd b)) : dval B l < B ^ l.length := by
  rw [← List.reverse_reverse l]
  generalize l.reverse = m
  induction m with
  | nil => simp [dval]
  | cons x m ih =>
    rw [List.reverse_cons, dval_snoc, List.length_append, List.length_singleton, Nat.pow_succ]
    have h1 : (dval B m.reverse + 1) * B ≤ B ^ m.reverse.length * B := Nat.mul_le_mul_right _ ih
    have h2 := x.2
    rw [Nat.add_mul, Nat.one_mul] at h1
    omega

/-- What a round keeps: all below block n₀, and the iterator's own box. -/
def KpB (n₀ Bs : Nat) (W W' : World) : Prop := Below n₀ W W' ∧ W'.heap[Bs]? = W.heap[Bs]?
theorem KpB.t {n₀ Bs : Nat} {A B C : World} (h : KpB n₀ Bs A B) (k : KpB n₀ Bs B C) : KpB n₀ Bs A C := ⟨h.1.trans k.1, k.2.trans h.2⟩
theorem KpB.b {n₀ Bs : Nat} {w : World} (hn : n₀ ≤ w.heap.size) (hB : Bs < w.heap.size) (W : World) (l : Nat) (o o' : Obj) (hl : w.heap.size ≤ l) (h : W.heap[l]? = some o) (h1 : o.isCells = false) (h2 : o.isWalk = false) : KpB n₀ Bs W (W.putObj l o') :=
  ⟨belowK_b hn W l o o' hl h h1 h2, World.putObj_heap_other (by omega)⟩
theorem KpB.cell {n₀ Bs : Nat} {W W' : World} (h : KpB n₀ Bs W W') : W'.cell? ⟨Bs, 0, none⟩ = W.cell? ⟨Bs, 0, none⟩ := World.cell?_of_block (w := W) h.2

set_option maxRecDepth 100000 in
set_option maxHeartbeats 2000000 in
theorem down1_in (F : Fence) (m : Nat) (hg : F.fn 183) (hro : F.round = none) (hm : 1 ≤ m) (l Bs n₀ n c : Nat) (A : Option Addr) (f : Nat → Nat) (hf : ∀ i, f i < 4294967296) (hn : n ≤ 1000000) (J Jx : List (Bd 4294967296) → World → Prop)
    (hY : ∀ pre x W, J pre W → pre.length < n → YieldAt F (m - 1) Tryz.prog l #[.int .u32 ((x : Bd 4294967296).1 : Int)] W fun e W' =>
      (e = .returned (.bool true) ∧ J (pre ++ [x]) W' ∧ KpB n₀ Bs W W') ∨ (e = .returned (.bool false) ∧ Jx (pre ++ [x]) W'))
    (W : World) (hBs : W.cell? ⟨Bs, 0, none⟩ = some (.slice A n c)) (hc : Rd n₀ .u32 W A n f) (h0 : J [] W) :
    CallsIn F m Tryz.prog 183 #[.func (.yield l) #[] #[], .pointer (some ⟨Bs, 0, none⟩)] W fun e W' => (∃ v, e = .returned v) ∧
      ((∃ ys, ys = dn 4294967296 f hf n n ∧ J ys W') ∨ (∃ pre, (∃ k, k ≤ n ∧ pre = dn 4294967296 f hf n k) ∧ Jx pre W')) := by
  refine callsIn_of_wp Tryz.func183 rfl hg ?_ hro
  simp only [Tryz.ntmps183, List.size_toArray, List.length_cons, List.length_nil, Nat.reduceAdd, Nat.reduceSub, Array.replicate_succ, Array.replicate_zero, List.push_toArray, List.append_toArray, List.nil_append, List.cons_append]
  gi_wp2
  gi_loopw [3] (fun i wr => ∃ k : Nat, k ≤ n ∧ i = .int .i64 ((n : Int) - k - 1) ∧ J (dn 4294967296 f hf n k) wr ∧ KpB n₀ Bs W wr)
    (fun i _ => (intOf i + 1).toNat)
  case atStart => exact ⟨0, Nat.zero_le _, by simp, h0, Below.refl _ _, rfl⟩
  case round =>
    obtain ⟨k, hk, rfl, hJs, hnx⟩ := hrel
    have hbs := hnx.cell.trans hBs
    by_cases hlt : k < n
    · obtain ⟨b, o, rfl, hb, hcc⟩ := hc (by omega)
      obtain ⟨fn, tmps, assign, body, hy, hR⟩ := hY _ (⟨f (n - 1 - k), hf _⟩) wr hJs (by rw [dn_length]; exact hlt)
      dsimp only at hy
      have hcx := (hnx.1.cell (p := ⟨b, o + (n - 1 - k), none⟩) hb).trans (hcc (n - 1 - k) (by omega))
      have ek : ((n : Int) - k - 1) = ((n - 1 - k : Nat) : Int) := by omega
      rw [ek]
      clear ek
      gi_wp2
      refine hR.mono ?_
      rintro e W3 (⟨rfl, hJ3, hk3⟩ | ⟨rfl, hJx3⟩)
      · have hbs3 := hk3.cell.trans hbs
        gi_wp2
        go_roundw
        case rel => exact ⟨k + 1, by omega, by congr 1; omega, by rw [dn_succ]; exact hJ3, hnx.t hk3⟩
        case measure => simp [intOf] <;> omega
      · gi_wp2
        refine bodyPost_ret (results_none rfl _ _ _) rfl ?_
        exact ⟨⟨_, rfl⟩, .inr ⟨_, ⟨k + 1, by omega, (dn_succ ..).symm⟩, hJx3⟩⟩
    · obtain rfl : k = n := by omega
      rw [show (k : Int) - k - 1 = -1 by omega]
      gi_wp2
      go_end0
      exact ⟨⟨_, rfl⟩, .inl ⟨_, rfl, hJs⟩⟩

set_option maxHeartbeats 1000000 in
theorem down_in (F : Fence) (m : Nat) (hg : F.fn 177) (hro : F.round = none) (a : Option Addr) (len cap : Nat) (w : World) :
    CallsIn F m Tryz.prog 177 #[.slice a len cap] w fun e w' => e = .returned (.func (.func 183) #[] #[.pointer (some ⟨w.heap.size, 0, none⟩)]) ∧ w' = w.alloc (.cells #[.slice a len cap] 136) := by
  refine callsIn_of_wp Tryz.func177 rfl hg ?_ hro
  simp only [Tryz.ntmps177, List.size_toArray, List.length_cons, List.length_nil, Nat.reduceAdd, Nat.reduceSub, Array.replicate_succ, Array.replicate_zero, List.push_toArray, List.append_toArray, List.nil_append, List.cons_append]
  gi_wp2
  go_ret
  exact ⟨rfl, rfl⟩

theorem down_stops (F : Fence) (m : Nat) (hg : F.fn 183) (hro : F.round = none) (hm : 1 ≤ m) (Bs n₀ n c : Nat) (A : Option Addr) (f : Nat → Nat) (hf : ∀ i, f i < 4294967296) (hn : n ≤ 1000000) (w : World) (hBs : Bs < w.heap.size) (hn₀ : n₀ ≤ w.heap.size)
    (hc : w.cell? ⟨Bs, 0, none⟩ = some (.slice A n c)) (hI : Rd n₀ .u32 w A n f) :
    SeqStopsK F m Tryz.prog 183 #[.pointer (some ⟨Bs, 0, none⟩)] (fun x : Bd 4294967296 => #[Value.int .u32 (x.1 : Int)]) (KpB n₀ Bs) (fun ys => ys = dn 4294967296 f hf n n) (fun pre => ∃ k, k ≤ n ∧ pre = dn 4294967296 f hf n k) n w := fun l J Jx W hW _ _ hY h0 => by
  have hc' := (hW.cell (p := ⟨Bs, 0, none⟩) hBs).trans hc
  exact down1_in F m hg hro hm l Bs n₀ n c A f hf hn J Jx hY W hc' (hI.below (hW.mono hn₀)) h0

set_option maxRecDepth 100000 in
set_option maxHeartbeats 2000000 in
/-- long: the value of at most two words. -/
theorem long_walk (A : Option Addr) (n c : Nat) (f : Nat → Nat) (hf : ∀ i, f i < 4294967296) (w : World) (hx : Rd w.heap.size .u32 w A n f) (hn : n ≤ 2) :
    Calls Tryz.prog 167 #[.slice A n c] w fun e w' => e = .returned (.int .u64 ((vs b32 f n : Nat) : Int)) ∧ Below w.heap.size w w' := by
  refine (callsIn_wide (n := 5)).1 ?_
  have hro : Fence.wide.round = none := rfl
  refine callsIn_of_wp_marks Tryz.func167 rfl trivial ?_ hro
  simp only [Tryz.ntmps167, List.size_toArray, List.length_cons, List.length_nil, Nat.reduceAdd, Nat.reduceSub, Array.replicate_succ, Array.replicate_zero, List.push_toArray, List.append_toArray, List.nil_append, List.cons_append]
  gi_wp2_with (refine ⟨trivial, ?_⟩; gi_at_call 177; refine (down_in Fence.wide (5 - 1) trivial hro _ _ _ _).mono ?_; rintro e w' ⟨rfl, rfl⟩)
  have bS := Boxed.new w 115 (.int .u64 0)
  have bN := Boxed.new (w.alloc (.cells #[.int .u64 0] 115)) 136 (.slice A n c)
  rw [World.size_alloc] at bN
  have hB0 : Below w.heap.size w ((w.alloc (.cells #[.int .u64 0] 115)).alloc (.cells #[.slice A n c] 136)) := ((Below.refl _ w).alloc (Nat.le_refl _) _).alloc (by simp) _
  refine wpIn_rangeFunc_ownG hro (by decide) (gf := 183) (lb := #[.pointer (some ⟨w.heap.size + 1, 0, none⟩)]) rfl trivial (enters_of Tryz.func183 (by kernel_rfl) rfl)
    (down_stops Fence.wide (5 - 1) trivial hro (by decide) (w.heap.size + 1) w.heap.size n c A f hf (by omega) _ (by simp) (by simp; omega) bN.cell (hx.below hB0)) KpB.t (KpB.b (by simp; omega) (by simp)) (Below.refl _ _) (fun _ => rfl)
    (fun pre W => (W.cell? ⟨w.heap.size, 0, none⟩ = some (.int .u64 ((dval b32 pre : Nat) : Int)) ∧ W.frozen? ⟨w.heap.size, 0, none⟩ = false) ∧ Below w.heap.size w W)
    (fun _ _ _ => False)
    (OwnFrom.and (Own.from (fun s A B row hs hg hr => ⟨cell_kept hs.1 hg hr, (frozen_kept hs.1 hg hr).trans hs.2⟩) _) (ownFrom_below (Nat.le_refl _) (by simp; omega)))
    (fun _ _ _ _ _ hs _ _ => hs)
    ⟨⟨(bS.alloc _).cell, (bS.alloc _).frozen⟩, hB0⟩
    (fun x => { tmps := #[.slice A n c, undef, .int .u64 0, .pointer (some ⟨w.heap.size, 0, none⟩), .int .u32 (x.1 : Int), .slice A n c, .func (.func 183) #[] #[.pointer (some ⟨w.heap.size + 1, 0, none⟩)], .int .u32 (x.1 : Int), undef, undef, undef, undef, undef, undef], defers := [] }) ?assign ?body ?done ?stop
  case assign =>
    intro l x W K hK
    gi_wp2
    exact hK
  case body =>
    rintro l pre x W ⟨⟨hc, hf⟩, hB⟩ hl
    have h1 := dval_lt (B := b32) (b := 4294967296) (Nat.le_refl _) pre
    have hv : dval b32 pre < 4294967296 := Nat.lt_of_lt_of_le h1 (Nat.pow_le_pow_right (by decide) (show pre.length ≤ 1 by omega))
    have h2 := x.2
    have o1 := u64_or_add hv h2
    obtain ⟨X, hX⟩ : ∃ X, X = 4294967296 * dval b32 pre + x.1 := ⟨_, rfl⟩
    rw [← hX, show ((4294967296 * dval b32 pre : Nat) : Int) = (dval b32 pre : Int) * 4294967296 by omega] at o1
    have HX := Lib.hid hX
    clear hX h1
    gi_wp2
    refine ⟨(KeepsOthers.setCell _ _ _).from _, ⟨(Below.refl w.heap.size W).setCell (p := ⟨w.heap.size, 0, none⟩) (Nat.le_refl _) _, Below.heap_setCell _ _ _ _ (by simp)⟩, ⟨?_, by rw [World.frozen?_setCell]; exact hf⟩, hB.setCell (p := ⟨w.heap.size, 0, none⟩) (Nat.le_refl _) _⟩
    have e : dval b32 (pre ++ [x]) = X := by rw [dval_snoc, HX.out, Nat.mul_comm]; rfl
    rw [e]
    exact World.cell?_setCell_same' _ _ _ (by rw [hc]; rfl)
  case done =>
    rintro D ys W hD rfl ⟨⟨hc, _⟩, hB⟩ hK
    rw [dval_all] at hc
    gi_wp2
    refine ⟨by simp, .inl ⟨_, _, rfl, run_takeDeferred hK, ?_⟩⟩
    exact ⟨_, results_tmp rfl _ _ _, rfl, hB.trans (belowK_b (w := w) (Nat.le_refl _) W D _ _ (by simp at hD; omega) hK rfl rfl)⟩
  case stop =>
    rintro D c pre W _ _ h _
    exact h.elim
theorem long_any (A : Option Addr) (c x : Nat) (w : World) (hx : Num32 w A x) (hn : ln b32 x ≤ 2) :
    Calls Tryz.prog 167 #[.slice A (ln b32 x) c] w fun e w' => e = .returned (.int .u64 ((x : Nat) : Int)) ∧ Below w.heap.size w w' := by
  have h := long_walk A (ln b32 x) c (dgt b32 x) (fun i => dgt32_lt x i) w hx hn
  rw [vs_dgt_ln b32_two] at h
  exact h
end Go.Proofs.YtmjlankpihnicaaGreat
namespace Go.Proofs.YtmjlankpihnicaaGreat
open Go.RowKit

/-- The number that a slice value of words stands for, read from memory. -/
def valOf (w : World) : Value → Nat
  | .slice (some p) n _ => vs b32 (fun i => match w.cell? ⟨p.block, p.off + i, none⟩ with | some (.int _ z) => z.toNat | _ => 0) n
  | _ => 0
theorem valOf_num {w : World} {A : Option Addr} {x c : Nat} (h : Num32 w A x) : valOf w (.slice A (ln b32 x) c) = x := by
  rcases Nat.eq_zero_or_pos (ln b32 x) with h0 | h0
  · have hx : x = 0 := by
      rcases Nat.eq_zero_or_pos x with e | e
      · exact e
      · have := (ln_pos b32_two).2 e; omega
    subst hx
    cases A <;> simp [valOf, ln_zero, vs]
  · obtain ⟨b, o, rfl, hb, hc⟩ := h h0
    have h1 : vs b32 (fun i => match w.cell? ⟨b, o + i, none⟩ with | some (.int _ z) => z.toNat | _ => 0) (ln b32 x) = vs b32 (dgt b32 x) (ln b32 x) := vs_congr fun i hi => by rw [hc i hi]; simp
    show vs b32 (fun i => match w.cell? ⟨b, o + i, none⟩ with | some (.int _ z) => z.toNat | _ => 0) (ln b32 x) = x
    rw [h1, vs_dgt_ln b32_two]

/-- The two slices a and b of the loop. -/
def Pair (w0 : World) (G : Nat) (x y : Value) (wr : World) (b' : Nat) : Prop :=
  ∃ A c B d a', x = .slice A (ln b32 a') c ∧ y = .slice B (ln b32 b') d ∧ Num32 wr A a' ∧ Num32 wr B b' ∧ b' ≤ a' ∧ Nat.gcd a' b' = G ∧ ln b32 a' ≤ 1000000 ∧ ln b32 a' ≤ c ∧ ln b32 b' ≤ d ∧ Below w0.heap.size w0 wr

theorem gcd_swap {a b G : Nat} (h : Nat.gcd a b = G) : Nat.gcd b a = G := by rw [Nat.gcd_comm]; exact h
theorem cmp_neg {a b : Nat} : cmpI a b < 0 ↔ a < b := by
  unfold cmpI; split <;> (try split) <;> omega
set_option maxRecDepth 100000 in
set_option maxHeartbeats 4000000 in
theorem commonDivisor_any (A B : Option Addr) (c d a b : Nat) (w : World) (ha : Num32 w A a) (hb : Num32 w B b) (hn : ln b32 a ≤ 1000000) (hm : ln b32 b ≤ 1000000) (hac : ln b32 a ≤ c) (hbd : ln b32 b ≤ d) :
    Calls Tryz.prog 156 #[.slice A (ln b32 a) c, .slice B (ln b32 b) d] w (W32 w (Nat.gcd a b)) := by
  obtain ⟨G, hG⟩ : ∃ G, Nat.gcd a b = G := ⟨_, rfl⟩
  rw [hG]
  have HG := Lib.hid hG
  clear hG
  go_enter Tryz.func156, Tryz.ntmps156
  go_wp2_with fail
  refine (compare_any A B c d a b w ha hb (by omega)).mono ?_
  rintro e w1 ⟨rfl, n, rfl⟩
  go_upto_if 15 with (fail)
  go_cut [0, 1] (fun x y wx => ∃ b', Pair w G x y wx b')
  case first =>
    by_cases hlt : a < b
    · have h1 := cmp_neg.2 hlt
      go_wp2_with fail
      go_meet
      exact ⟨a, B, d, A, c, b, rfl, rfl, hb, ha, Nat.le_of_lt hlt, gcd_swap HG.out, hm, hbd, hac, belowN (Below.refl _ _) n⟩
    · have h1 : ¬ cmpI a b < 0 := fun h => hlt (cmp_neg.1 h)
      go_wp2_with fail
      go_meet
      exact ⟨b, A, c, B, d, a, rfl, rfl, ha, hb, by omega, HG.out, hn, hac, hbd, belowN (Below.refl _ _) n⟩
  case rest =>
    obtain ⟨b0, hP⟩ := hcut
    go_wp2_with fail
    go_loopw [0, 1] (fun x y wr => ∃ b', Pair w G x y wr b') (fun _ y wr => valOf wr y)
    case atStart => exact ⟨b0, hP⟩
    case round =>
      obtain ⟨b', hP⟩ := hrel
      obtain ⟨A, c, B, d, a', rfl, rfl, ha, hb, hba, hg, hn, hc, hd, hbel⟩ := hP
      by_cases h3 : 3 ≤ ln b32 b'
      · have t3 : (2 : Int) < (ln b32 b' : Int) := by omega
        go_wp2_with fail
        refine (simulate_any A B c d a' b' wr ha hb hba hn h3).mono ?_
        rintro e w2 ⟨ev, u0, u1, v0, v1, rfl, hst, hb2⟩
        have hbS : Below wr.heap.size wr (w2.alloc (.cells #[.int .u64 (u0 : Int), .int .u64 (u1 : Int), .int .u64 (v0 : Int), .int .u64 (v1 : Int), .bool ev] 165)) := hb2.alloc hb2.size _
        have hS : StepsAt (w2.alloc (.cells #[.int .u64 (u0 : Int), .int .u64 (u1 : Int), .int .u64 (v0 : Int), .int .u64 (v1 : Int), .bool ev] 165)) w2.heap.size ev u0 u1 v0 v1 := heap_alloc_new _ _
        have haS := Num32.below ha hbS
        have hbS' := Num32.below hb hbS
        have hbelS := hbel.trans (hbS.mono hbel.size)
        have hbm : ln b32 b' ≤ 1000000 := Nat.le_trans ((ln_le b32_two).2 (Nat.lt_of_le_of_lt hba (lt_pow_ln b32_two a'))) hn
        have hval := valOf_num (c := d) hb
        obtain ⟨s0, s1, s2, s3, s4⟩ := hS.cells
        have hSlt := hS.lt
        by_cases hv : v0 = 0
        · subst hv
          have hb0 : 0 < b' := (ln_pos b32_two).1 (by omega)
          go_wp2_with fail
          refine (divide_any A B c d a' b' _ haS hbS' hb0 hn).mono ?_
          rintro e w3 ⟨Aq, cq, Ar, cr, rfl, hq1, hr1, hq, hr, hb3⟩
          have hmod := Nat.mod_lt a' hb0
          have hlr : ln b32 (a' % b') ≤ 1000000 := Nat.le_trans ((ln_le b32_two).2 (Nat.lt_trans hmod (lt_pow_ln b32_two b'))) hbm
          have hval2 := valOf_num (c := cr) hr
          go_wp2_with fail
          go_roundw
          case rel => exact ⟨a' % b', B, d, Ar, cr, b', rfl, rfl, Num32.below hbS' hb3, hr, Nat.le_of_lt hmod, by rw [Nat.gcd_comm, ← Nat.gcd_rec, Nat.gcd_comm]; exact hg, hbm, hd, hr1, hbelS.trans (hb3.mono hbelS.size)⟩
          case measure => rw [hval, hval2]; exact hmod
        · have hv0 : ((v0 : Int) == 0) = false := by simpa using hv
          have hok := hst.resolve_left hv
          cases ev
          · obtain ⟨k1, k2, k3, k4⟩ := steps_odd hok
            have la := hok.le0
            have lb := hok.le1
            simp only [Bool.false_eq_true, if_false] at la lb
            have D1 := Lib.hid fun (w' : World) (hw' : Below (w2.alloc (.cells #[.int .u64 (u0 : Int), .int .u64 (u1 : Int), .int .u64 (v0 : Int), .int .u64 (v1 : Int), .bool false] 165)).heap.size (w2.alloc (.cells #[.int .u64 (u0 : Int), .int .u64 (u1 : Int), .int .u64 (v0 : Int), .int .u64 (v1 : Int), .bool false] 165)) w') => difference_any B A d c v0 u0 b' a' w' (Num32.below hbS' hw') (Num32.below haS hw') hok.v0lt hok.u0lt la hbm hn
            have D2 := Lib.hid fun (w' : World) (hw' : Below (w2.alloc (.cells #[.int .u64 (u0 : Int), .int .u64 (u1 : Int), .int .u64 (v0 : Int), .int .u64 (v1 : Int), .bool false] 165)).heap.size (w2.alloc (.cells #[.int .u64 (u0 : Int), .int .u64 (u1 : Int), .int .u64 (v0 : Int), .int .u64 (v1 : Int), .bool false] 165)) w') => difference_any A B c d u1 v1 a' b' w' (Num32.below haS hw') (Num32.below hbS' hw') hok.u1lt hok.v1lt lb hn hbm
            have KS := Lib.hid fun (w' w'' : World) (h : Below (w2.alloc (.cells #[.int .u64 (u0 : Int), .int .u64 (u1 : Int), .int .u64 (v0 : Int), .int .u64 (v1 : Int), .bool false] 165)).heap.size (w2.alloc (.cells #[.int .u64 (u0 : Int), .int .u64 (u1 : Int), .int .u64 (v0 : Int), .int .u64 (v1 : Int), .bool false] 165)) w') (h2 : Below w'.heap.size w' w'') => (show w''.cell? ⟨w2.heap.size, 0, none⟩ = some (.int .u64 (u0 : Int)) ∧ w''.cell? ⟨w2.heap.size, 1, none⟩ = some (.int .u64 (u1 : Int)) ∧ w''.cell? ⟨w2.heap.size, 2, none⟩ = some (.int .u64 (v0 : Int)) ∧ w''.cell? ⟨w2.heap.size, 3, none⟩ = some (.int .u64 (v1 : Int)) ∧ Below (w2.alloc (.cells #[.int .u64 (u0 : Int), .int .u64 (u1 : Int), .int .u64 (v0 : Int), .int .u64 (v1 : Int), .bool false] 165)).heap.size (w2.alloc (.cells #[.int .u64 (u0 : Int), .int .u64 (u1 : Int), .int .u64 (v0 : Int), .int .u64 (v1 : Int), .bool false] 165)) w'' from
              have h3 := h.trans (h2.mono h.size)
              ⟨(h3.cell (p := ⟨w2.heap.size, 0, none⟩) hSlt).trans s0, (h3.cell (p := ⟨w2.heap.size, 1, none⟩) hSlt).trans s1, (h3.cell (p := ⟨w2.heap.size, 2, none⟩) hSlt).trans s2, (h3.cell (p := ⟨w2.heap.size, 3, none⟩) hSlt).trans s3, h3⟩)
            have hrefl := Below.refl (w2.alloc (.cells #[.int .u64 (u0 : Int), .int .u64 (u1 : Int), .int .u64 (v0 : Int), .int .u64 (v1 : Int), .bool false] 165)).heap.size (w2.alloc (.cells #[.int .u64 (u0 : Int), .int .u64 (u1 : Int), .int .u64 (v0 : Int), .int .u64 (v1 : Int), .bool false] 165))
            go_wp2_with fail
            go_region_held3? (fun w' => w'.cell? ⟨w2.heap.size, 0, none⟩ = some (.int .u64 (u0 : Int)) ∧ w'.cell? ⟨w2.heap.size, 1, none⟩ = some (.int .u64 (u1 : Int)) ∧ w'.cell? ⟨w2.heap.size, 2, none⟩ = some (.int .u64 (v0 : Int)) ∧ w'.cell? ⟨w2.heap.size, 3, none⟩ = some (.int .u64 (v1 : Int)) ∧ Below (w2.alloc (.cells #[.int .u64 (u0 : Int), .int .u64 (u1 : Int), .int .u64 (v0 : Int), .int .u64 (v1 : Int), .bool false] 165)).heap.size (w2.alloc (.cells #[.int .u64 (u0 : Int), .int .u64 (u1 : Int), .int .u64 (v0 : Int), .int .u64 (v1 : Int), .bool false] 165)) w') (first | exact ⟨s0, s1, s2, s3, hrefl.drew⟩ | with_reducible exact KS.out _ _ hrefl.drew hb1 | with_reducible exact KS.out _ _ hrefl.drew hb2 | exact KS.out _ _ (hrefl.drew.trans hb1) hb2 | exact KS.out _ _ (hrefl.drew.trans hb2) hb1)
              (first | (go_at_call_of 166 (Value.int .u64 (v0 : Int)); refine (D1.out _ (by first | exact hrefl.drew | exact (hrefl.drew.trans hb2))).mono ?_; rintro e w'' ⟨A1, c1, rfl, hc1, hn1, hb1⟩) | (go_at_call_of 166 (Value.int .u64 (u1 : Int)); refine (D2.out _ (by first | exact hrefl.drew | exact (hrefl.drew.trans hb1))).mono ?_; rintro e w'' ⟨A2, c2, rfl, hc2, hn2, hb2⟩))
            have hval2 := valOf_num (c := c2) hn2
            have hbl : Below wr.heap.size wr w'' := hbS.trans (((hrefl.drew.trans hb1).trans (hb2.mono (hrefl.drew.trans hb1).size)).mono hbS.size)
            have hl1 : ln b32 (v0 * b' - u0 * a') ≤ 1000000 := Nat.le_trans ((ln_le b32_two).2 (Nat.lt_of_le_of_lt k4 (lt_pow_ln b32_two b'))) hbm
            go_wp2
            go_roundw
            case rel => exact ⟨_, A1, c1, A2, c2, _, rfl, rfl, Num32.below hn1 hb2, hn2, Nat.le_of_lt k3, k1.trans hg, hl1, hc1, hc2, hbel.trans (hbl.mono hbel.size)⟩
            case measure => rw [hval, hval2]; exact k2
          · obtain ⟨k1, k2, k3, k4⟩ := steps_even hok
            have la := hok.le0
            have lb := hok.le1
            simp only [if_true] at la lb
            have D1 := Lib.hid fun (w' : World) (hw' : Below (w2.alloc (.cells #[.int .u64 (u0 : Int), .int .u64 (u1 : Int), .int .u64 (v0 : Int), .int .u64 (v1 : Int), .bool true] 165)).heap.size (w2.alloc (.cells #[.int .u64 (u0 : Int), .int .u64 (u1 : Int), .int .u64 (v0 : Int), .int .u64 (v1 : Int), .bool true] 165)) w') => difference_any A B c d u0 v0 a' b' w' (Num32.below haS hw') (Num32.below hbS' hw') hok.u0lt hok.v0lt la hn hbm
            have D2 := Lib.hid fun (w' : World) (hw' : Below (w2.alloc (.cells #[.int .u64 (u0 : Int), .int .u64 (u1 : Int), .int .u64 (v0 : Int), .int .u64 (v1 : Int), .bool true] 165)).heap.size (w2.alloc (.cells #[.int .u64 (u0 : Int), .int .u64 (u1 : Int), .int .u64 (v0 : Int), .int .u64 (v1 : Int), .bool true] 165)) w') => difference_any B A d c v1 u1 b' a' w' (Num32.below hbS' hw') (Num32.below haS hw') hok.v1lt hok.u1lt lb hbm hn
            have KS := Lib.hid fun (w' w'' : World) (h : Below (w2.alloc (.cells #[.int .u64 (u0 : Int), .int .u64 (u1 : Int), .int .u64 (v0 : Int), .int .u64 (v1 : Int), .bool true] 165)).heap.size (w2.alloc (.cells #[.int .u64 (u0 : Int), .int .u64 (u1 : Int), .int .u64 (v0 : Int), .int .u64 (v1 : Int), .bool true] 165)) w') (h2 : Below w'.heap.size w' w'') => (show w''.cell? ⟨w2.heap.size, 0, none⟩ = some (.int .u64 (u0 : Int)) ∧ w''.cell? ⟨w2.heap.size, 1, none⟩ = some (.int .u64 (u1 : Int)) ∧ w''.cell? ⟨w2.heap.size, 2, none⟩ = some (.int .u64 (v0 : Int)) ∧ w''.cell? ⟨w2.heap.size, 3, none⟩ = some (.int .u64 (v1 : Int)) ∧ Below (w2.alloc (.cells #[.int .u64 (u0 : Int), .int .u64 (u1 : Int), .int .u64 (v0 : Int), .int .u64 (v1 : Int), .bool true] 165)).heap.size (w2.alloc (.cells #[.int .u64 (u0 : Int), .int .u64 (u1 : Int), .int .u64 (v0 : Int), .int .u64 (v1 : Int), .bool true] 165)) w'' from
              have h3 := h.trans (h2.mono h.size)
              ⟨(h3.cell (p := ⟨w2.heap.size, 0, none⟩) hSlt).trans s0, (h3.cell (p := ⟨w2.heap.size, 1, none⟩) hSlt).trans s1, (h3.cell (p := ⟨w2.heap.size, 2, none⟩) hSlt).trans s2, (h3.cell (p := ⟨w2.heap.size, 3, none⟩) hSlt).trans s3, h3⟩)
            have hrefl := Below.refl (w2.alloc (.cells #[.int .u64 (u0 : Int), .int .u64 (u1 : Int), .int .u64 (v0 : Int), .int .u64 (v1 : Int), .bool true] 165)).heap.size (w2.alloc (.cells #[.int .u64 (u0 : Int), .int .u64 (u1 : Int), .int .u64 (v0 : Int), .int .u64 (v1 : Int), .bool true] 165))
            go_wp2_with fail
            go_region_held3? (fun w' => w'.cell? ⟨w2.heap.size, 0, none⟩ = some (.int .u64 (u0 : Int)) ∧ w'.cell? ⟨w2.heap.size, 1, none⟩ = some (.int .u64 (u1 : Int)) ∧ w'.cell? ⟨w2.heap.size, 2, none⟩ = some (.int .u64 (v0 : Int)) ∧ w'.cell? ⟨w2.heap.size, 3, none⟩ = some (.int .u64 (v1 : Int)) ∧ Below (w2.alloc (.cells #[.int .u64 (u0 : Int), .int .u64 (u1 : Int), .int .u64 (v0 : Int), .int .u64 (v1 : Int), .bool true] 165)).heap.size (w2.alloc (.cells #[.int .u64 (u0 : Int), .int .u64 (u1 : Int), .int .u64 (v0 : Int), .int .u64 (v1 : Int), .bool true] 165)) w') (first | exact ⟨s0, s1, s2, s3, hrefl.drew⟩ | with_reducible exact KS.out _ _ hrefl.drew hb1 | with_reducible exact KS.out _ _ hrefl.drew hb2 | exact KS.out _ _ (hrefl.drew.trans hb1) hb2 | exact KS.out _ _ (hrefl.drew.trans hb2) hb1)
              (first | (go_at_call_of 166 (Value.int .u64 (u0 : Int)); refine (D1.out _ (by first | exact hrefl.drew | exact (hrefl.drew.trans hb2))).mono ?_; rintro e w'' ⟨A1, c1, rfl, hc1, hn1, hb1⟩) | (go_at_call_of 166 (Value.int .u64 (v1 : Int)); refine (D2.out _ (by first | exact hrefl.drew | exact (hrefl.drew.trans hb1))).mono ?_; rintro e w'' ⟨A2, c2, rfl, hc2, hn2, hb2⟩))
            have hval2 := valOf_num (c := c2) hn2
            have hbl : Below wr.heap.size wr w'' := hbS.trans (((hrefl.drew.trans hb1).trans (hb2.mono (hrefl.drew.trans hb1).size)).mono hbS.size)
            have hl1 : ln b32 (u0 * a' - v0 * b') ≤ 1000000 := Nat.le_trans ((ln_le b32_two).2 (Nat.lt_of_le_of_lt k4 (lt_pow_ln b32_two b'))) hbm
            go_wp2
            go_roundw
            case rel => exact ⟨_, A1, c1, A2, c2, _, rfl, rfl, Num32.below hn1 hb2, hn2, Nat.le_of_lt k3, k1.trans hg, hl1, hc1, hc2, hbel.trans (hbl.mono hbel.size)⟩
            case measure => rw [hval, hval2]; exact k2
      · have t3 : ¬ ((2 : Int) < (ln b32 b' : Int)) := by omega
        by_cases hz : b' = 0
        · subst hz
          rw [ln_zero] at *
          go_wp2_with fail
          go_ret
          rw [Nat.gcd_zero_right] at hg
          subst hg
          exact ⟨A, c, rfl, hc, ha, hbel⟩
        · have hbl : ln b32 b' ≠ 0 := by have := (ln_pos b32_two).2 (show 0 < b' by omega); omega
          have hb0 : 0 < b' := by omega
          have tz : ((ln b32 b' : Int) == 0) = false := by simp; omega
          go_upto_if 71 with (fail)
          have hval := hz
          go_cut [0, 1] (fun x y wx => ∃ A c B d a'' b'', x = .slice A (ln b32 a'') c ∧ y = .slice B (ln b32 b'') d ∧ ln b32 a'' ≤ 2 ∧ ln b32 b'' ≤ 2 ∧ Num32 wx A a'' ∧ Num32 wx B b'' ∧ Nat.gcd a'' b'' = G ∧ Below w.heap.size w wx)
          case first =>
            by_cases ht : 3 ≤ ln b32 a'
            · have t4 : (2 : Int) < (ln b32 a' : Int) := by omega
              go_wp2_with fail
              refine (divide_any A B c d a' b' _ ha hb hb0 hn).mono ?_
              rintro e w3 ⟨Aq, cq, Ar, cr, rfl, hq1, hr1, hq, hr, hb3⟩
              have hmod := Nat.mod_lt a' hb0
              have hlr : ln b32 (a' % b') ≤ 2 := Nat.le_trans ((ln_le b32_two).2 (Nat.lt_trans hmod (lt_pow_ln b32_two b'))) (by omega)
              go_wp2_with fail
              go_meet
              exact ⟨B, d, Ar, cr, b', a' % b', rfl, rfl, by omega, hlr, Num32.below hb hb3, hr, by rw [Nat.gcd_comm, ← Nat.gcd_rec, Nat.gcd_comm]; exact hg, hbel.trans (hb3.mono hbel.size)⟩
            · have t4 : ¬ ((2 : Int) < (ln b32 a' : Int)) := by omega
              go_wp2_with fail
              go_meet
              exact ⟨A, c, B, d, a', b', rfl, rfl, by omega, by omega, ha, hb, hg, hbel⟩
          case rest =>
            obtain ⟨A, c, B, d, x, y, rfl, rfl, hx2, hy2, hnx, hny, hg, hbel⟩ := hcut
            have hx64 : x < 18446744073709551616 := Nat.lt_of_lt_of_le ((ln_le b32_two).1 hx2) (Nat.le_refl _)
            have hy64 : y < 18446744073709551616 := Nat.lt_of_lt_of_le ((ln_le b32_two).1 hy2) (Nat.le_refl _)
            go_wp2_with fail
            refine (long_any A c x _ hnx hx2).mono ?_
            rintro e w3 ⟨rfl, hb3⟩
            go_wp2_with fail
            refine (long_any B d y _ (Num32.below hny hb3) hy2).mono ?_
            rintro e w4 ⟨rfl, hb4⟩
            have hb34 := hbel.trans ((hb3.trans (hb4.mono hb3.size)).mono hbel.size)
            go_wp2_with fail
            go_loopw [10, 11] (fun p q wr => ∃ X Y : Nat, p = .int .u64 (X : Int) ∧ q = .int .u64 (Y : Int) ∧ X < 18446744073709551616 ∧ Y < 18446744073709551616 ∧ Nat.gcd X Y = G ∧ Below w.heap.size w wr) (fun _ q _ => (intOf q).toNat)
            case atStart => exact ⟨x, y, rfl, rfl, hx64, hy64, hg, hb34⟩
            case round =>
              obtain ⟨X, Y, rfl, rfl, hX, hY, hg, hbel⟩ := hrel
              by_cases hY0 : Y = 0
              · subst hY0
                go_wp2_with fail
                refine (short_any X _ hX).mono ?_
                rintro e w5 ⟨A5, c5, rfl, hc5, hn5, hb5⟩
                rw [Nat.gcd_zero_right] at hg
                subst hg
                go_wp2_with fail
                go_ret
                exact ⟨A5, c5, rfl, hc5, hn5, hbel.trans (hb5.mono hbel.size)⟩
              · have t5 : ((Y : Int) != 0) = true := by simp; omega
                have t6 : (Y : Int) ≠ 0 := by omega
                have hmod := Nat.mod_lt X (show 0 < Y by omega)
                go_wp2_with fail
                go_quiet (fail)
                go_wp2
                go_roundw
                case rel => exact ⟨Y, X % Y, rfl, rfl, hY, by omega, by rw [Nat.gcd_comm, ← Nat.gcd_rec, Nat.gcd_comm]; exact hg, belowN hbel nq⟩
                case measure => simp [intOf]; omega
end Go.Proofs.YtmjlankpihnicaaGreat
namespace Go.Proofs.YtmjlankpihnicaaGreat
open Go.RowKit

theorem allValid_two (g : Nat) (s t : Bool) (A B : Option Addr) (n m c d : Nat) (f h : Nat → Nat) (w : World)
    (hg : w.heap[g]? = some (.cells #[.bool s, .slice A n c, .bool t, .slice B m d] 27 (0, 0)))
    (hA : Rd w.heap.size .u16 w A n f) (hB : Rd w.heap.size .u16 w B m h) (hf : ∀ i, f i < 65536) (hh : ∀ i, h i < 65536) (hn : n ≤ 1000000) (hm : m ≤ 1000000) :
    Calls Tryz.prog 116 #[.slice (some ⟨g, 0, none⟩) 2 2] w fun e w' => e = .returned (.bool (okW s n f && okW t m h)) ∧ Below w.heap.size w w' := by
  refine (allValid_any g 0 2 (fun i => if i = 0 then s else t) (fun i => if i = 0 then A else B) (fun i => if i = 0 then n else m) (fun i => if i = 0 then c else d) (fun i => if i = 0 then f else h) w ?_ (heap_lt hg) (by omega)).mono ?_
  · intro i hi
    match i, hi with
    | 0, _ => exact ⟨(cell_of_row w g 0 _ _ (0, 0) hg).trans rfl, (cell_of_row w g 1 _ _ (0, 0) hg).trans rfl, hA, fun j _ => hf j, hn⟩
    | 1, _ => exact ⟨(cell_of_row w g 2 _ _ (0, 0) hg).trans rfl, (cell_of_row w g 3 _ _ (0, 0) hg).trans rfl, hB, fun j _ => hh j, hm⟩
  · rintro e w' ⟨rfl, hb⟩
    exact ⟨ret_bool (by simp [okAll]), hb⟩

/-- The boxes of the two arguments and the result's variable. -/
structure Two (w : World) (s t : Bool) (A B : Option Addr) (n m c d : Nat) (w' : World) : Prop where
  p0 : WholeAt w' w.heap.size s (.slice A n c)
  p1 : WholeAt w' (w.heap.size + 1) t (.slice B m d)
  r : WholeAt w' (w.heap.size + 1 + 1) false (.slice none 0 0)
  bel : Below w.heap.size w w'
theorem two_call (s t : Bool) (A B : Option Addr) (n m c d : Nat) (f h : Nat → Nat) (w : World)
    (hA : Rd w.heap.size .u16 w A n f) (hB : Rd w.heap.size .u16 w B m h) (hf : ∀ i, f i < 65536) (hh : ∀ i, h i < 65536) (hn : n ≤ 1000000) (hm : m ≤ 1000000) :
    Calls Tryz.prog 116 #[.slice (some ⟨w.heap.size + 1 + 1 + 1, 0, none⟩) 2 2]
      ((((w.alloc (.cells #[.bool s, .slice A n c] 27)).alloc (.cells #[.bool t, .slice B m d] 27)).alloc (.cells #[.bool false, .slice none 0 0] 27)).alloc (.cells #[.bool s, .slice A n c, .bool t, .slice B m d] 27))
      fun e w' => e = .returned (.bool (okW s n f && okW t m h)) ∧ Two w s t A B n m c d w' := by
  have b1 : Below w.heap.size w (w.alloc (.cells #[.bool s, .slice A n c] 27)) := (Below.refl _ w).alloc (Nat.le_refl _) _
  have b2 := b1.alloc (by simp) (.cells #[.bool t, .slice B m d] 27)
  have b3 := b2.alloc (by first | (simp; done) | (simp; omega)) (.cells #[.bool false, .slice none 0 0] 27)
  have b4 := b3.alloc (by first | (simp; done) | (simp; omega)) (.cells #[.bool s, .slice A n c, .bool t, .slice B m d] 27)
  have q0 := WholeAt.new w s (.slice A n c)
  have q1 := WholeAt.new (w.alloc (.cells #[.bool s, .slice A n c] 27)) t (.slice B m d)
  have q2 := WholeAt.new ((w.alloc (.cells #[.bool s, .slice A n c] 27)).alloc (.cells #[.bool t, .slice B m d] 27)) false (.slice none 0 0)
  have q3 := heap_alloc_new (((w.alloc (.cells #[.bool s, .slice A n c] 27)).alloc (.cells #[.bool t, .slice B m d] 27)).alloc (.cells #[.bool false, .slice none 0 0] 27)) (.cells #[.bool s, .slice A n c, .bool t, .slice B m d] 27)
  simp only [World.size_alloc] at q1 q2 q3
  refine (allValid_two (w.heap.size + 1 + 1 + 1) s t A B n m c d f h _ q3 ((hA.below b4).more b4.size) ((hB.below b4).more b4.size) hf hh hn hm).mono ?_
  rintro e w' ⟨rfl, hb⟩
  refine ⟨rfl, ?_, ?_, ?_, b4.trans (hb.mono b4.size)⟩
  · refine WholeAt.below ?_ hb (by first | (simp; done) | (simp; omega))
    exact (Below.heap_alloc _ _ _ (by first | (simp; done) | (simp; omega))).trans ((Below.heap_alloc _ _ _ (by first | (simp; done) | (simp; omega))).trans ((Below.heap_alloc _ _ _ (by simp)).trans q0))
  · refine WholeAt.below ?_ hb (by first | (simp; done) | (simp; omega))
    exact (Below.heap_alloc _ _ _ (by first | (simp; done) | (simp; omega))).trans ((Below.heap_alloc _ _ _ (by simp)).trans q1)
  · refine WholeAt.below ?_ hb (by simp)
    exact (Below.heap_alloc _ _ _ (by simp)).trans q2

/-- The boxes of the two arguments. -/
structure TwoP (w : World) (s t : Bool) (A B : Option Addr) (n m c d : Nat) (w' : World) : Prop where
  p0 : WholeAt w' w.heap.size s (.slice A n c)
  p1 : WholeAt w' (w.heap.size + 1) t (.slice B m d)
  bel : Below w.heap.size w w'
theorem TwoP.below {w : World} {s t : Bool} {A B : Option Addr} {n m c d : Nat} {w' w'' : World} (h : TwoP w s t A B n m c d w') (h2 : Below w'.heap.size w' w'') : TwoP w s t A B n m c d w'' :=
  ⟨h.p0.below h2 h.p0.lt, h.p1.below h2 h.p1.lt, h.bel.trans (h2.mono h.bel.size)⟩
theorem TwoP.store {w : World} {s t : Bool} {A B : Option Addr} {n m c d : Nat} {w' : World} (h : TwoP w s t A B n m c d w') (s' : Bool) (v' : Value) :
    TwoP w s t A B n m c d ((w'.setCell ⟨w.heap.size + 1 + 1, 0, none⟩ (.bool s')).setCell ⟨w.heap.size + 1 + 1, 1, none⟩ v') :=
  have e0 : w.heap.size ≠ w.heap.size + 1 + 1 := by omega
  have e1 : w.heap.size + 1 ≠ w.heap.size + 1 + 1 := by omega
  have e2 : w.heap.size ≤ w.heap.size + 1 + 1 := by omega
  ⟨(Below.heap_setCell _ _ _ _ e0).trans ((Below.heap_setCell _ _ _ _ e0).trans h.p0), (Below.heap_setCell _ _ _ _ e1).trans ((Below.heap_setCell _ _ _ _ e1).trans h.p1),
    (h.bel.setCell (p := ⟨w.heap.size + 1 + 1, 0, none⟩) e2 _).setCell (p := ⟨w.heap.size + 1 + 1, 1, none⟩) e2 _⟩
theorem TwoP.s {w : World} {s t : Bool} {A B : Option Addr} {n m c d : Nat} {w' : World} (h : TwoP w s t A B n m c d w') :
    w'.cell? ⟨w.heap.size, 0, none⟩ = some (.bool s) ∧ w'.cell? ⟨w.heap.size, 1, none⟩ = some (.slice A n c) ∧ w'.cell? ⟨w.heap.size + 1, 0, none⟩ = some (.bool t) ∧ w'.cell? ⟨w.heap.size + 1, 1, none⟩ = some (.slice B m d) ∧ TwoP w s t A B n m c d w' := ⟨h.p0.cells.1, h.p0.cells.2, h.p1.cells.1, h.p1.cells.2, h⟩
theorem okW_two {a b : Int} (ha : ln b16 a.natAbs ≤ 1024) (hb : ln b16 b.natAbs ≤ 1024) : (okW (decide (a < 0)) (ln b16 a.natAbs) (dgt b16 a.natAbs) && okW (decide (b < 0)) (ln b16 b.natAbs) (dgt b16 b.natAbs)) = true := by
  rw [okW_num ha, okW_num hb]; rfl
theorem ln32_short {x : Nat} (h : ln b16 x ≤ 1024) : ln b32 x ≤ 512 := by rw [ln32_two]; omega

set_option maxRecDepth 100000 in
set_option maxHeartbeats 4000000 in
theorem add_any (a b : Int) (A B : Option Addr) (c d : Nat) (w : World) (hA : Num16 w A a.natAbs) (hB : Num16 w B b.natAbs) (ha : ln b16 a.natAbs ≤ 1024) (hb : ln b16 b.natAbs ≤ 1024) :
    Calls Tryz.prog 136 #[.agg #[.bool (decide (a < 0)), .slice A (ln b16 a.natAbs) c], .agg #[.bool (decide (b < 0)), .slice B (ln b16 b.natAbs) d]] w (RI w (a + b)) := by
  have htwo := two_call (decide (a < 0)) (decide (b < 0)) A B (ln b16 a.natAbs) (ln b16 b.natAbs) c d _ _ w hA hB (fun i => dgt16_lt _ i) (fun i => dgt16_lt _ i) (by omega) (by omega)
  rw [okW_two ha hb] at htwo
  have la := ln32_short ha
  have lb := ln32_short hb
  have hsum : toI (decide (a < 0)) a.natAbs + toI (decide (b < 0)) b.natAbs = a + b := by rw [toI_int, toI_int]
  have HSUM := Lib.hid hsum
  clear hsum
  obtain ⟨s, hs⟩ : ∃ s, s = decide (a < 0) := ⟨_, rfl⟩
  obtain ⟨t, ht⟩ : ∃ t, t = decide (b < 0) := ⟨_, rfl⟩
  rw [← hs, ← ht] at htwo HSUM ⊢
  clear hs ht
  go_enter Tryz.func136, Tryz.ntmps136
  go_wp2_with fail
  refine htwo.mono ?_
  rintro e w1 ⟨rfl, ht⟩
  have D1 := Lib.hid fun (w' : World) (hw' : Below w.heap.size w w') => pack_any A c a.natAbs w' (Num16.below hA hw') (by omega)
  have D2 := Lib.hid fun (w' : World) (hw' : Below w.heap.size w w') => pack_any B d b.natAbs w' (Num16.below hB hw') (by omega)
  have hT0 : TwoP w s t A B (ln b16 a.natAbs) (ln b16 b.natAbs) c d w1.drew := ⟨ht.p0, ht.p1, ht.bel.drew⟩
  have hR0 : WholeAt w1.drew (w.heap.size + 1 + 1) false (.slice none 0 0) := ht.r
  have HT := Lib.hid ht
  clear ht
  go_wp2_with fail
  go_region_held3 (fun w' => w'.cell? ⟨w.heap.size, 0, none⟩ = some (.bool s) ∧ w'.cell? ⟨w.heap.size, 1, none⟩ = some (.slice A (ln b16 a.natAbs) c) ∧ w'.cell? ⟨w.heap.size + 1, 0, none⟩ = some (.bool t) ∧ w'.cell? ⟨w.heap.size + 1, 1, none⟩ = some (.slice B (ln b16 b.natAbs) d) ∧ TwoP w s t A B (ln b16 a.natAbs) (ln b16 b.natAbs) c d w')
    (first | with_reducible exact hT4.s | with_reducible exact hT3.s | with_reducible exact hT2.s | with_reducible exact hT1.s | with_reducible exact hT0.s)
    (first
      | (go_at_call_of 118 (Value.slice A (ln b16 a.natAbs) c); refine (D1.out _ hT0.bel).mono ?_; rintro e w2 ⟨A1, c1, rfl, hc1, hn1, hb1⟩; have hT1 := hT0.below hb1)
      | (go_at_call_of 118 (Value.slice B (ln b16 b.natAbs) d); refine (D2.out _ hT1.bel).mono ?_; rintro e w3 ⟨A2, c2, rfl, hc2, hn2, hb2⟩; have hT2 := hT1.below hb2)
      | (go_at_call 154; refine (sum_any s t A1 A2 c1 c2 a.natAbs b.natAbs _ (Num32.below hn1 hb2) hn2 (by omega) (by omega)).mono ?_; rintro e w4 hri; obtain ⟨s', A', n', c', k, rfl, hv, hb3⟩ := hri.vals; have hT3 := hT2.below hb3; have hR1 := hR0.below hb1 hR0.lt; have hR2 := hR1.below hb2 hR1.lt; have hR3 := hR2.below hb3 hR2.lt; obtain ⟨r0, r1⟩ := hR3.cells; have g0 := hR3.frozen 0; have g1 := hR3.frozen 1; have hT4 := hT3.store s' (.slice A' n' c')))
  obtain ⟨hW, hbW⟩ := store_whole hR3 hT3.bel (show w.heap.size ≤ w.heap.size + 1 + 1 by omega) s' (.slice A' n' c')
  have hsz := hT2.bel.size
  have hv2 := (hv.store hR2.lt s' (.slice A' n' c')).lower hsz
  rw [HSUM.out] at hv2
  clear hv hT0 hT1 hT2 hT3 hT4 hR0 hR1 hR2 hR3 r0 r1 g0 g1 hri
  go_wp2
  generalize ((w4.setCell ⟨w.heap.size + 1 + 1, 0, none⟩ (.bool s')).setCell ⟨w.heap.size + 1 + 1, 1, none⟩ (.slice A' n' c')) = WW at *
  obtain ⟨k0, k1⟩ := hW.cells
  refine bodyPost_ret (v := .tuple #[.agg #[.bool s', .slice A' n' c'], .int .i64 k]) (by simp [results, Tryz.results136, go_sem, k0, k1]) rfl ?_
  exact hv2.ri hbW
end Go.Proofs.YtmjlankpihnicaaGreat
namespace Go.Proofs.YtmjlankpihnicaaGreat
open Go.RowKit

set_option maxRecDepth 100000 in
theorem make_any (t : Bool) (A : Option Addr) (n c : Nat) (w : World) : Calls Tryz.prog 109 #[.bool t, .slice A n c] w fun e w' => e = .returned (.agg #[.bool (t && decide (0 < n)), .slice A n c]) ∧ Below w.heap.size w w' := by
  have b1 : Below w.heap.size w (w.alloc (.cells #[.bool false, .slice none 0 0] 27)) := (Below.refl _ w).alloc (Nat.le_refl _) _
  go_enter Tryz.func109, Tryz.ntmps109
  cases t
  · go_wp2_with fail
    exact bodyPost_ret (v := .agg #[.bool false, .slice A n c]) (by simp [results, Tryz.results109, go_sem]) rfl ⟨by simp, (Below.refl _ w).alloc (Nat.le_refl _) _⟩
  · by_cases hn : 0 < n
    · have t1 : (0 : Int) < (n : Int) := by omega
      go_wp2_with fail
      exact bodyPost_ret (v := .agg #[.bool true, .slice A n c]) (by simp [results, Tryz.results109, go_sem]) rfl ⟨by simp [hn], (Below.refl _ w).alloc (Nat.le_refl _) _⟩
    · obtain rfl : n = 0 := by omega
      go_wp2_with fail
      exact bodyPost_ret (v := .agg #[.bool false, .slice A 0 c]) (by simp [results, Tryz.results109, go_sem]) rfl ⟨by simp, (Below.refl _ w).alloc (Nat.le_refl _) _⟩

theorem own_slice16 {base n : Nat} {w : World} {v : Value} {xs : List Value} (h : w.ownsRow base 116 1 v n xs) : ∃ A c, v = .slice A n c := by
  rcases h.2 with ⟨hv, hn⟩ | ⟨g, cap, cur, hv, _⟩
  · exact ⟨none, 0, by rw [hv, hn]⟩
  · exact ⟨_, _, hv⟩
theorem ln16_step {x k : Nat} : 0 < x / 65536 ^ k ↔ k < ln b16 x := by
  rw [ln_lt b16_two, Nat.div_pos_iff]
  exact ⟨fun h => h.2, fun h => ⟨Nat.pow_pos (by decide), h⟩⟩
set_option maxRecDepth 100000 in
set_option maxHeartbeats 2000000 in
theorem refFromInt_any (z : Int) (w : World) (h1 : -9223372036854775808 ≤ z) (h2 : z ≤ 9223372036854775807) : Calls Tryz.prog 68 #[.int .i64 z] w (WI w z) := by
  obtain ⟨x, hx⟩ : ∃ x, x = z.natAbs := ⟨_, rfl⟩
  have hx64 : x < 18446744073709551616 := by omega
  have hl4 : ln b16 x ≤ 4 := (ln_le b16_two).2 hx64
  obtain ⟨i0, hi, hz0, hz1, hz2⟩ := info_parts info_u16
  go_enter Tryz.func68, Tryz.ntmps68
  go_upto_if 8 with (fail)
  go_cut [3] (fun v wx => v = .int .u64 (x : Int) ∧ wx = w.alloc (.cells #[.bool false, .slice none 0 0] 27))
  case first =>
    by_cases hneg : z < 0
    · go_wp2_with fail
      go_meet
      refine ⟨?_, rfl⟩
      congr 1
      rw [IntKind.wrap_u64, IntKind.wrap_u64]; omega
    · go_wp2_with fail
      go_meet
      refine ⟨?_, rfl⟩
      congr 1
      rw [IntKind.wrap_u64]; omega
  case rest =>
    obtain ⟨rfl, rfl⟩ := hcut
    have HX := Lib.hid hx
    clear hx
    have hR0 := WholeAt.new w false (.slice none 0 0)
    have hb0 : Below w.heap.size w (w.alloc (.cells #[.bool false, .slice none 0 0] 27)) := (Below.refl _ w).alloc (Nat.le_refl _) _
    go_wp2_with fail
    go_loopw [3, 4] (fun u v wr => ∃ k X, u = .int .u64 ((X : Nat) : Int) ∧ Hid (X = x / 65536 ^ k) ∧ X < 18446744073709551616 ∧ k ≤ ln b16 x ∧ Hid (lenV v = k) ∧ wr.ownsRow (w.heap.size + 1) 116 1 v k (nums .u16 k (dgt b16 x)) ∧ WholeAt wr w.heap.size false (.slice none 0 0) ∧ Below w.heap.size w wr) (fun _ v _ => ln b16 x - lenV v)
    case atStart => exact ⟨0, x, rfl, Lib.hid (by simp), hx64, Nat.zero_le _, Lib.hid rfl, World.ownsRow_nil .., hR0, hb0⟩
    case round =>
      obtain ⟨k, X, rfl, hX, hX64, hk, hlv, hown, hp, hbl⟩ := hrel
      have hsz := hbl.size
      have hpl := hp.lt
      by_cases hX0 : 0 < X
      · have t1 : (0 : Int) < (X : Int) := by omega
        have hd : X % 65536 = dgt b16 x k := by rw [hX.out]; rfl
        have hk9 : k < ln b16 x := ln16_step.1 (by rw [← hX.out]; exact hX0)
        have hdl := dgt16_lt x k
        have e3 : (X : Int) % 65536 = ((dgt b16 x k : Nat) : Int) := by omega
        have HD := Lib.hid hd
        clear hd
        go_wp2_with (at_builtin; refine wpList_append_own _ rfl _ _ 25 rfl (w.heap.size + 1) 116 i0 (.int .u16 0) 1 2 Tryz.underlying25 hi hz0 hz1 hz2 rfl (by decide) _ _ _ rfl (hown.alloc _) ⟨wr.heap.size, 0, none⟩ 1 1 [.int .u16 ((dgt b16 x k : Nat) : Int)] rfl rfl (cell_one_new _ _ _) (by simp [Value.oneCell']) (by unfold maxLen; omega) (by omega) (by simp; omega) ?_; intro v' w5 hown5 hgrow _; obtain ⟨g', cap', rfl⟩ := ownsRow_succ hown5)
        go_roundw
        case rel =>
          rw [nums_succ] at hown5
          exact ⟨k + 1, X / 65536, by congr 1, Lib.hid (by rw [hX.out, Nat.div_div_eq_div_mul, Nat.pow_succ]), by omega, hk9, Lib.hid rfl, hown5, (hp.alloc' _).grown hgrow (own_not hown (Nat.lt_succ_self _)), (hbl.alloc hsz (.cells #[.int .u16 ((dgt b16 x k : Nat) : Int)] 116)).grown hgrow (by simp; omega) (fun g hg => by have := (hown.lt g hg).1; omega)⟩
        case measure => show ln b16 x - (k + 1) < ln b16 x - lenV u4; rw [hlv.out]; omega
      · obtain rfl : X = 0 := by omega
        have hkk : k = ln b16 x := by
          have := mt ln16_step.2 (by rw [← hX.out]; decide : ¬ 0 < x / 65536 ^ k)
          omega
        subst hkk
        obtain ⟨A, c, rfl⟩ := own_slice16 hown
        have hm := make_any (decide (z < 0)) A (ln b16 x) c wr
        rw [show (decide (z < 0) && decide (0 < ln b16 x)) = decide (z < 0) by
          by_cases hz : z < 0
          · have := (ln_pos b16_two (x := x)).2 (by have := HX.out; omega)
            simp [hz, this]
          · simp [hz]] at hm
        have HM := Lib.hid hm
        clear hm
        obtain ⟨s, hs⟩ : ∃ s, s = decide (z < 0) := ⟨_, rfl⟩
        rw [← hs] at HM
        have HS := Lib.hid hs
        go_wp2_with fail
        rw [← HS.out]
        clear hs
        refine HM.out.mono ?_
        rintro e w5 ⟨rfl, hb5⟩
        have hR5 := hp.below hb5 hpl
        have hbl5 := hbl.trans (hb5.mono hsz)
        have ho5 : Own16 (w.heap.size + 1) w5 A (ln b16 x) c (dgt b16 x) := own_below hown hb5 (Nat.le_refl _)
        obtain ⟨r0, r1⟩ := hR5.cells
        have g0 := hR5.frozen 0
        have g1 := hR5.frozen 1
        obtain ⟨hW, hbW⟩ := store_whole hR5 hbl5 (Nat.le_refl _) s (.slice A (ln b16 x) c)
        have ho6 := (store_own (R := w.heap.size) ho5 (Nat.lt_succ_self _) s (.slice A (ln b16 x) c)).lower (base' := w.heap.size) (by omega)
        have HW := Lib.hid hW
        clear hW ho5 hown
        go_wp2_with fail
        have hW := HW.out
        clear HW hR5 r0 r1
        generalize ((w5.setCell ⟨w.heap.size, 0, none⟩ (.bool s)).setCell ⟨w.heap.size, 1, none⟩ (.slice A (ln b16 x) c)) = WW at *
        obtain ⟨k0, k1⟩ := hW.cells
        refine bodyPost_ret (v := .agg #[.bool s, .slice A (ln b16 x) c]) (by simp [results, Tryz.results68, go_sem, k0, k1]) rfl ?_
        rw [HX.out] at ho6 ⊢
        rw [HS.out]
        exact ⟨A, c, rfl, ho6, hbW⟩

theorem TwoP.start (w : World) (s t : Bool) (A B : Option Addr) (n m c d : Nat) : TwoP w s t A B n m c d ((w.alloc (.cells #[.bool s, .slice A n c] 27)).alloc (.cells #[.bool t, .slice B m d] 27)) := by
  have b1 : Below w.heap.size w (w.alloc (.cells #[.bool s, .slice A n c] 27)) := (Below.refl _ w).alloc (Nat.le_refl _) _
  have q1 := WholeAt.new (w.alloc (.cells #[.bool s, .slice A n c] 27)) t (.slice B m d)
  rw [World.size_alloc] at q1
  exact ⟨(Below.heap_alloc _ _ _ (by simp)).trans (WholeAt.new w s (.slice A n c)), q1, b1.alloc b1.size _⟩
theorem TwoP.drewN {w : World} {s t : Bool} {A B : Option Addr} {n m c d : Nat} {w' : World} (h : TwoP w s t A B n m c d w') (q : Nat) : TwoP w s t A B n m c d (w'.drewN q) := ⟨h.p0, h.p1, belowN h.bel q⟩
set_option maxRecDepth 100000 in
set_option maxHeartbeats 1000000 in
theorem refSame_any (s t : Bool) (A B : Option Addr) (n m c d : Nat) (f h : Nat → Nat) (w : World) (hA : Rd w.heap.size .u16 w A n f) (hB : Rd w.heap.size .u16 w B m h) (hn : n ≤ 1000000) (hm : m ≤ 1000000) :
    Calls Tryz.prog 99 #[.agg #[.bool s, .slice A n c], .agg #[.bool t, .slice B m d]] w fun e w' => e = .returned (.bool (sameW s t n m f h)) ∧ Below w.heap.size w w' := by
  have hT := TwoP.start w s t A B n m c d
  by_cases hst : s = t
  · subst hst
    by_cases hl : n = m
    · subst hl
      go_enter Tryz.func99, Tryz.ntmps99
      go_wp2_with fail
      go_loopw [5] (fun i wr => ∃ k : Nat, k ≤ n ∧ i = .int .i64 (k : Int) ∧ Hid (eqU f h k = true) ∧ TwoP w s s A B n n c d wr) (fun i _ => n - (intOf i).toNat)
      case atStart => exact ⟨0, Nat.zero_le _, rfl, Lib.hid rfl, hT⟩
      case round =>
        obtain ⟨k, hk, rfl, hok, hT⟩ := hrel
        obtain ⟨p0, p1⟩ := hT.p0.cells
        obtain ⟨p2, p3⟩ := hT.p1.cells
        by_cases hlt : k < n
        · obtain ⟨pa, qa, rfl, hpa, hca⟩ := (hA.below hT.bel) (by omega)
          obtain ⟨pb, qb, rfl, hpb, hcb⟩ := (hB.below hT.bel) (by omega)
          have c1 := hca k hlt
          have c2 := hcb k hlt
          clear hca hcb
          by_cases he : f k = h k
          · have t1 : (((f k : Nat) : Int) != ((h k : Nat) : Int)) = false := by rw [he]; simp
            have HE := Lib.hid he
            clear he
            go_wp2_with fail
            go_quiet (fail)
            go_wp2
            go_roundw
            case rel => exact ⟨k + 1, by omega, by go_num, Lib.hid (eqU_step hok.out HE.out), hT.drewN _⟩
            case measure => simp [intOf]; omega
          · have t1 : (((f k : Nat) : Int) != ((h k : Nat) : Int)) = true := bne_iff_ne.2 (by omega)
            have hfin : sameW s s n n f h = false := by unfold sameW eqL; rw [eqU_false hlt he, Bool.and_false, Bool.and_false]
            have HF := Lib.hid hfin
            clear hfin he
            go_wp2_with fail
            go_quiet (fail)
            go_wp2
            go_ret
            exact ⟨ret_bool HF.out.symm, (hT.drewN _).bel⟩
        · obtain rfl : k = n := by omega
          have hfin : sameW s s k k f h = true := by unfold sameW eqL; rw [hok.out]; simp
          have HF := Lib.hid hfin
          clear hfin
          go_wp2_with fail
          go_ret
          exact ⟨ret_bool HF.out.symm, hT.bel⟩
    · have t0 : ((n : Int) != (m : Int)) = true := bne_iff_ne.2 (by omega)
      have hfin : sameW s s n m f h = false := by unfold sameW eqL; rw [beq_false_of_ne hl, Bool.false_and, Bool.and_false]
      have HF := Lib.hid hfin
      clear hfin
      go_enter Tryz.func99, Tryz.ntmps99
      go_wp2_with fail
      go_ret
      exact ⟨ret_bool HF.out.symm, hT.bel⟩
  · have t0 : (s == t) = false := by simp [hst]
    have hfin : sameW s t n m f h = false := by unfold sameW; rw [t0, Bool.false_and]
    have HF := Lib.hid hfin
    clear hfin
    go_enter Tryz.func99, Tryz.ntmps99
    go_wp2_with fail
    go_ret
    exact ⟨ret_bool HF.out.symm, hT.bel⟩
theorem eqU_iff {f h : Nat → Nat} {n : Nat} : eqU f h n = true ↔ ∀ i, i < n → f i = h i := by
  induction n with
  | zero => simp [eqU]
  | succ n ih =>
    simp only [eqU, Bool.and_eq_true, ih, beq_iff_eq]
    exact ⟨fun ⟨h1, h2⟩ i hi => by
      rcases Nat.lt_or_ge i n with h3 | h3
      · exact h1 i h3
      · rw [show i = n by omega]; exact h2, fun h => ⟨fun i hi => h i (by omega), h n (by omega)⟩⟩
/-- Two numbers are the same where they are equal. -/
theorem sameW_num (a b : Int) : sameW (decide (a < 0)) (decide (b < 0)) (ln b16 a.natAbs) (ln b16 b.natAbs) (dgt b16 a.natAbs) (dgt b16 b.natAbs) = decide (a = b) := by
  by_cases hab : a = b
  · subst hab
    simp [sameW, eqL, eqU_iff.2 (fun i _ => rfl)]
  · rw [decide_eq_false hab]
    unfold sameW eqL
    by_cases hs : decide (a < 0) = decide (b < 0)
    · rw [hs, beq_self_eq_true, Bool.true_and]
      by_cases hl : ln b16 a.natAbs = ln b16 b.natAbs
      · rw [hl, beq_self_eq_true, Bool.true_and]
        cases he : eqU (dgt b16 a.natAbs) (dgt b16 b.natAbs) (ln b16 b.natAbs) with
        | false => rfl
        | true =>
          have h1 := vs_congr (B := b16) (eqU_iff.1 he)
          rw [← hl, vs_dgt_ln b16_two, hl, vs_dgt_ln b16_two] at h1
          exfalso
          by_cases h0 : a < 0 <;> by_cases h00 : b < 0 <;> simp [h0, h00] at hs <;> omega
      · rw [beq_false_of_ne hl, Bool.false_and]
    · rw [beq_false_of_ne hs, Bool.false_and]
end Go.Proofs.YtmjlankpihnicaaGreat
