/-
  Several texts in one: The walks of the methods of frac.term, and of frac.Valid. The walks of frac.Valid and of frac.allValid at two fractions. The walks of frac.result, FromInt, Same, Add, Sub, Mul and Cmp at fractions.
-/
import Derived.Test.YtjgihmmeimfheaaGreatK9
import Derived.Test.YtjgihmmeimfheaaGreatK10
import Derived.Test.YtjgihmmeimfheaaGreatK3
import Derived.Test.YtjgihmmeimfheaaGreatK8
set_option maxRecDepth 100000
set_option linter.unusedSimpArgs false
set_option maxHeartbeats 4000000
namespace Go.Proofs.YtjgihmmeimfheaaGreat
section
open Go.RowKit

def okF (s : Bool) (n : Nat) (f : Nat → Nat) (t : Bool) (m : Nat) (g : Nat → Nat) : Bool :=
 !(decide (256 < n) || decide (256 < m)) && (okW s n f && (okW t m g && (!t && (!decide (m = 0) && (Nat.gcd (vs b16 f n) (vs b16 g m) == 1)))))
def FRd (w : World) (A : Option Addr) (n : Nat) (f : Nat → Nat) (B : Option Addr) (m : Nat) (g : Nat → Nat) : Prop :=
 Rd w.heap.size .u16 w A n f ∧ Rd w.heap.size .u16 w B m g ∧ (∀ j, j < n → f j < 65536) ∧ (∀ j, j < m → g j < 65536)
theorem FRd.below {w w' : World} {A B : Option Addr} {n m : Nat} {f g : Nat → Nat} (h : FRd w A n f B m g) (hb : Below w.heap.size w w') : FRd w' A n f B m g :=
 ⟨(h.1.below hb).more hb.size, (h.2.1.below hb).more hb.size, h.2.2.1, h.2.2.2⟩
theorem FV.rd {w : World} {q : Rat} {s t : Bool} {A B : Option Addr} {n m : Nat} (h : FV w q s A n t B m) : FRd w A n (dgt b16 q.num.natAbs) B m (dgt b16 q.den) := by
 obtain ⟨⟨-, h1, h2⟩, ⟨-, h3, h4⟩⟩ := h;unfold Num16 at h2 h4;rw [← h1] at h2;rw [← h3] at h4;rw [Int.natAbs_natCast] at h4;exact ⟨h2, h4, fun j _ => dgt16_lt _ j, fun j _ => dgt16_lt _ j⟩
theorem okF_of {w : World} {q : Rat} {s t : Bool} {A B : Option Addr} {n m : Nat} (h : FV w q s A n t B m) (hq : fl q ≤ 256) : okF s n (dgt b16 q.num.natAbs) t m (dgt b16 q.den) = true := by
 obtain ⟨l1, l2⟩ := fl_le.1 hq;obtain ⟨⟨h0, h1, h2⟩, ⟨h5, h3, h4⟩⟩ := h;rw [Int.natAbs_natCast] at h3;have e1 := okW_num (z := q.num) (by omega);have e2 := okW_num (z := ((q.den : Nat) : Int)) (by rw [Int.natAbs_natCast]; omega);rw [Int.natAbs_natCast] at e2;have hd := den_pos q
 have hm : 0 < m := by rw [h3]; exact (ln_pos b16_two).2 hd
 unfold okF;rw [decide_eq_false (show ¬ 256 < n by omega), decide_eq_false (show ¬ 256 < m by omega), decide_eq_false (show ¬ m = 0 by omega), h0, h5, h1, h3, e1, e2, vs_dgt_ln b16_two, vs_dgt_ln b16_two, beq_iff_eq.2 (show Nat.gcd q.num.natAbs q.den = 1 from q.reduced)];rw [decide_eq_false (show ¬ ((q.den : Nat) : Int) < 0 by omega)];rfl
theorem okW_wv {w : World} {s : Bool} {A : Option Addr} {n : Nat} {f : Nat → Nat} (hr : Rd w.heap.size .u16 w A n f) (hf : ∀ j, j < n → f j < 65536) (h : okW s n f = true) : WV w (toI s (vs b16 f n)) s A n := by
 have hln : ln b16 (vs b16 f n) = n := by
  unfold okW at h
  by_cases h0 : n = 0
  · subst h0; rw [vs_zero, ln_zero]
  ·
   rw [if_neg h0, Bool.and_eq_true] at h;exact ln_vs b16_two hf (.inr (by simpa using h.2))
 refine ⟨?_, by rw [toI_abs, hln], ?_⟩
 ·
  rw [toI_neg];unfold okW at h
  by_cases h0 : n = 0
  ·
   subst h0;rw [if_pos rfl] at h;rw [vs_zero]
   revert h; cases s <;> simp
  ·
   have : 0 < vs b16 f n := (ln_pos b16_two).1 (by omega);rw [decide_eq_true this, Bool.and_true]
 ·
  rw [toI_abs];exact Num16.of_rd hr hf
theorem flong_any (s t : Bool) (A B : Option Addr) (n m c d : Nat) (w : World) :
  Calls Tryz.prog 91 #[.agg #[.bool s, .slice A n c, .bool t, .slice B m d]] w fun e w' => e = .returned (.bool (decide (256 < n) || decide (256 < m))) ∧ Below w.heap.size w w' := by
 have hbl : Below w.heap.size w (w.alloc (.cells #[.bool s, .slice A n c, .bool t, .slice B m d] 85)) := (Below.refl _ _).alloc (Nat.le_refl _) _
 by_cases h1 : 256 < n
 ·
  have HE := Lib.hid (decide_eq_true h1);have t1 : decide ((256 : Int) < (n : Int)) = true := decide_eq_true (by omega);clear h1
  go_enter Tryz.func91, Tryz.ntmps91
  go_wp2_with fail
  go_ret
  exact ⟨ret_bool (by rw [HE.out]; rfl), hbl⟩
 ·
  have HE := Lib.hid (decide_eq_false h1);have t1 : decide ((256 : Int) < (n : Int)) = false := decide_eq_false (by omega);clear h1
  by_cases h2 : 256 < m
  ·
   have HE2 := Lib.hid (decide_eq_true h2);have t2 : decide ((256 : Int) < (m : Int)) = true := decide_eq_true (by omega);clear h2
   go_enter Tryz.func91, Tryz.ntmps91
   go_wp2_with fail
   go_ret
   exact ⟨ret_bool (by rw [HE.out, HE2.out]; rfl), hbl⟩
  ·
   have HE2 := Lib.hid (decide_eq_false h2);have t2 : decide ((256 : Int) < (m : Int)) = false := decide_eq_false (by omega);clear h2
   go_enter Tryz.func91, Tryz.ntmps91
   go_wp2_with fail
   go_ret
   exact ⟨ret_bool (by rw [HE.out, HE2.out]; rfl), hbl⟩
theorem fintegral_v {s t : Bool} {A B : Option Addr} {n m c d : Nat} {z : Int} {w : World} (hB : WV w z t B m) (hm : m ≤ 1000000) :
  Calls Tryz.prog 77 #[.agg #[.bool s, .slice A n c, .bool t, .slice B m d]] w fun e w' => e = .returned (.bool (decide (z = 1))) ∧ Below w.heap.size w w' := by
 have hbl : Below w.heap.size w (w.alloc (.cells #[.bool s, .slice A n c, .bool t, .slice B m d] 85)) := (Below.refl _ _).alloc (Nat.le_refl _) _;have HC := Lib.hid (isOne_v (c := d) (hB.below hbl) hm);clear hB
 go_enter Tryz.func77, Tryz.ntmps77
 go_wp2_with fail
 refine HC.out.mono ?_
 rintro e w1 ⟨rfl, hb⟩
 obtain ⟨y, hy⟩ : ∃ y, y = decide (z = 1) := ⟨_, rfl⟩
 rw [← hy];have HY := Lib.hid hy;clear hy HC;go_wp2_with fail
 go_ret
 exact ⟨ret_bool HY.out, hbl.trans (hb.mono hbl.size)⟩
theorem whole_valid_any (s : Bool) (A : Option Addr) (n c : Nat) (f : Nat → Nat) (w : World) (h : Rd w.heap.size .u16 w A n f) (hf : ∀ i, i < n → f i < 65536) (hn : n ≤ 1000000) (r : Bool) (hr : okW s n f = r) :
  Calls Tryz.prog 55 #[.agg #[.bool s, .slice A n c]] w fun e w' => e = .returned (.bool r) ∧ Below w.heap.size w w' := by
 subst hr;exact valid_any s A n c f w h hf hn
theorem flong_r (s t : Bool) (A B : Option Addr) (n m c d : Nat) (w : World) (r : Bool) (hr : (decide (256 < n) || decide (256 < m)) = r) :
  Calls Tryz.prog 91 #[.agg #[.bool s, .slice A n c, .bool t, .slice B m d]] w fun e w' => e = .returned (.bool r) ∧ Below w.heap.size w w' := by
 subst hr;exact flong_any s t A B n m c d w
theorem gcd_toI (s t : Bool) (x y : Nat) : Nat.gcd (toI s x).natAbs (toI t y).natAbs = Nat.gcd x y := by rw [toI_abs, toI_abs]
theorem ftvalid_any (s t : Bool) (A B : Option Addr) (n m c d : Nat) (f g : Nat → Nat) (w : World) (hr : FRd w A n f B m g) (hn : n ≤ 1000000) (hm : m ≤ 1000000) :
  Calls Tryz.prog 67 #[.agg #[.bool s, .slice A n c, .bool t, .slice B m d]] w fun e w' => e = .returned (.bool (okF s n f t m g)) ∧ Below w.heap.size w w' := by
 have hE := (Env.start w).blk 85 #[.bool s, .slice A n c, .bool t, .slice B m d] (g := w.heap.size) rfl
 obtain ⟨W0, hW0⟩ : ∃ W0, W0 = w.alloc (.cells #[.bool s, .slice A n c, .bool t, .slice B m d] 85) := ⟨_, rfl⟩
 rw [← hW0] at hE;have HW0 := Lib.hid hW0;clear hW0
 obtain ⟨r, hres⟩ : ∃ r, r = okF s n f t m g := ⟨_, rfl⟩
 rw [← hres];unfold okF at hres
 obtain ⟨L, hL⟩ : ∃ L, (decide (256 < n) || decide (256 < m)) = L := ⟨_, rfl⟩
 obtain ⟨v1, hv1⟩ : ∃ v1, okW s n f = v1 := ⟨_, rfl⟩
 obtain ⟨v2, hv2⟩ : ∃ v2, okW t m g = v2 := ⟨_, rfl⟩
 rw [hL, hv1, hv2] at hres;have HL := Lib.hid hL;have HV1 := Lib.hid hv1;have HV2 := Lib.hid hv2;clear hL hv1 hv2
 cases L with
 | true =>
  obtain rfl : r = false := by rw [hres]; rfl
  clear hres
  go_enter Tryz.func67, Tryz.ntmps67
  go_upto_region 1 with (fail)
  rw [← HW0.out];obtain ⟨k1, k2, k3, k4⟩ := hE.here.2.c4;go_wp2_with fail
  refine (flong_r s t A B n m c d _ _ HL.out).mono ?_
  rintro e w1 ⟨rfl, hb⟩
  clear k1 k2 k3 k4;go_wp2_with fail
  go_ret
  exact ⟨rfl, (hE.step hb).bel⟩
 | false =>
  have hlen : n ≤ 256 ∧ m ≤ 256 := by have := HL.out; simp only [Bool.or_eq_false_iff, decide_eq_false_iff_not] at this; omega
  cases v1 with
  | false =>
   obtain rfl : r = false := by rw [hres]; rfl
   clear hres
   go_enter Tryz.func67, Tryz.ntmps67
   go_upto_region 1 with (fail)
   rw [← HW0.out];obtain ⟨k1, k2, k3, k4⟩ := hE.here.2.c4;go_wp2_with fail
   refine (flong_r s t A B n m c d _ _ HL.out).mono ?_
   rintro e w1 ⟨rfl, hb⟩
   clear k1 k2 k3 k4;replace hE := hE.step hb;clear hb;obtain ⟨k1, k2, k3, k4⟩ := hE.here.2.c4;go_wp2_with fail
   refine (whole_valid_any s A n c f _ (hr.below hE.bel).1 hr.2.2.1 hn _ HV1.out).mono ?_
   rintro e w2 ⟨rfl, hb⟩
   clear k1 k2 k3 k4;go_wp2_with fail
   go_ret
   exact ⟨rfl, (hE.step hb).bel⟩
  | true =>
   cases v2 with
   | false =>
    obtain rfl : r = false := by rw [hres]; rfl
    clear hres
    go_enter Tryz.func67, Tryz.ntmps67
    go_upto_region 1 with (fail)
    rw [← HW0.out];obtain ⟨k1, k2, k3, k4⟩ := hE.here.2.c4;go_wp2_with fail
    refine (flong_r s t A B n m c d _ _ HL.out).mono ?_
    rintro e w1 ⟨rfl, hb⟩
    clear k1 k2 k3 k4;replace hE := hE.step hb;clear hb;obtain ⟨k1, k2, k3, k4⟩ := hE.here.2.c4;go_wp2_with fail
    refine (whole_valid_any s A n c f _ (hr.below hE.bel).1 hr.2.2.1 hn _ HV1.out).mono ?_
    rintro e w2 ⟨rfl, hb⟩
    clear k1 k2 k3 k4;replace hE := hE.step hb;clear hb;obtain ⟨k1, k2, k3, k4⟩ := hE.here.2.c4;go_wp2_with fail
    refine (whole_valid_any t B m d g _ (hr.below hE.bel).2.1 hr.2.2.2 hm _ HV2.out).mono ?_
    rintro e w3 ⟨rfl, hb⟩
    clear k1 k2 k3 k4;go_wp2_with fail
    go_ret
    exact ⟨rfl, (hE.step hb).bel⟩
   | true =>
    have w1 := okW_wv hr.1 hr.2.2.1 HV1.out;have w2 := okW_wv hr.2.1 hr.2.2.2 HV2.out
    obtain ⟨x, hx⟩ : ∃ x, toI s (vs b16 f n) = x := ⟨_, rfl⟩
    obtain ⟨y, hy⟩ : ∃ y, toI t (vs b16 g m) = y := ⟨_, rfl⟩
    have hgc := gcd_toI s t (vs b16 f n) (vs b16 g m);rw [hx, hy] at hgc;rw [hx] at w1;rw [hy] at w2;rw [← hgc] at hres
    have hyy : y = 1 → Nat.gcd x.natAbs y.natAbs = 1 := fun e => by rw [e]; exact Nat.gcd_one_right _
    clear hx hy hgc
    cases t with
    | true =>
     obtain rfl : r = false := by rw [hres]; rfl
     clear hres
     go_enter Tryz.func67, Tryz.ntmps67
     go_upto_region 1 with (fail)
     rw [← HW0.out];obtain ⟨k1, k2, k3, k4⟩ := hE.here.2.c4;go_wp2_with fail
     refine (flong_r s _ A B n _ c d _ _ HL.out).mono ?_
     rintro e w1' ⟨rfl, hb⟩
     clear k1 k2 k3 k4;replace hE := hE.step hb;clear hb;obtain ⟨k1, k2, k3, k4⟩ := hE.here.2.c4;go_wp2_with fail
     refine (whole_valid_any s A n c f _ (hr.below hE.bel).1 hr.2.2.1 hn _ HV1.out).mono ?_
     rintro e w2' ⟨rfl, hb⟩
     clear k1 k2 k3 k4;replace hE := hE.step hb;clear hb;obtain ⟨k1, k2, k3, k4⟩ := hE.here.2.c4;go_wp2_with fail
     refine (whole_valid_any _ B _ d g _ (hr.below hE.bel).2.1 hr.2.2.2 hm _ HV2.out).mono ?_
     rintro e w3 ⟨rfl, hb⟩
     clear k1 k2 k3 k4;replace hE := hE.step hb;clear hb;obtain ⟨k1, k2, k3, k4⟩ := hE.here.2.c4;go_wp2_with fail
     go_ret
     exact ⟨rfl, hE.bel⟩
    | false =>
     by_cases hm0 : m = 0
     ·
      obtain rfl : r = false := by rw [hres, decide_eq_true hm0]; rfl
      subst hm0;clear hres
      go_enter Tryz.func67, Tryz.ntmps67
      go_upto_region 1 with (fail)
      rw [← HW0.out];obtain ⟨k1, k2, k3, k4⟩ := hE.here.2.c4;go_wp2_with fail
      refine (flong_r s _ A B n _ c d _ _ HL.out).mono ?_
      rintro e w1' ⟨rfl, hb⟩
      clear k1 k2 k3 k4;replace hE := hE.step hb;clear hb;obtain ⟨k1, k2, k3, k4⟩ := hE.here.2.c4;go_wp2_with fail
      refine (whole_valid_any s A n c f _ (hr.below hE.bel).1 hr.2.2.1 hn _ HV1.out).mono ?_
      rintro e w2' ⟨rfl, hb⟩
      clear k1 k2 k3 k4;replace hE := hE.step hb;clear hb;obtain ⟨k1, k2, k3, k4⟩ := hE.here.2.c4;go_wp2_with fail
      refine (whole_valid_any _ B _ d g _ (hr.below hE.bel).2.1 hr.2.2.2 hm _ HV2.out).mono ?_
      rintro e w3 ⟨rfl, hb⟩
      clear k1 k2 k3 k4;replace hE := hE.step hb;clear hb;obtain ⟨k1, k2, k3, k4⟩ := hE.here.2.c4;go_wp2_with fail
      go_ret
      exact ⟨rfl, hE.bel⟩
     ·
      have t1 : ((m : Int) == 0) = false := beq_eq_false_iff_ne.2 (by omega)
      have hres2 : r = (Nat.gcd x.natAbs y.natAbs == 1) := by rw [hres, decide_eq_false hm0]; rfl
      clear hres;have HR := Lib.hid hres2;clear hres2
      go_enter Tryz.func67, Tryz.ntmps67
      go_upto_region 1 with (fail)
      rw [← HW0.out];obtain ⟨k1, k2, k3, k4⟩ := hE.here.2.c4;go_wp2_with fail
      refine (flong_r s _ A B n _ c d _ _ HL.out).mono ?_
      rintro e w1' ⟨rfl, hb⟩
      clear k1 k2 k3 k4;replace hE := hE.step hb;clear hb;obtain ⟨k1, k2, k3, k4⟩ := hE.here.2.c4;go_wp2_with fail
      refine (whole_valid_any s A n c f _ (hr.below hE.bel).1 hr.2.2.1 hn _ HV1.out).mono ?_
      rintro e w2' ⟨rfl, hb⟩
      clear k1 k2 k3 k4;replace hE := hE.step hb;clear hb;obtain ⟨k1, k2, k3, k4⟩ := hE.here.2.c4;go_wp2_with fail
      refine (whole_valid_any _ B _ d g _ (hr.below hE.bel).2.1 hr.2.2.2 hm _ HV2.out).mono ?_
      rintro e w3 ⟨rfl, hb⟩
      clear k1 k2 k3 k4;replace hE := hE.step hb;clear hb;obtain ⟨k1, k2, k3, k4⟩ := hE.here.2.c4;go_wp2_with fail
      refine (fintegral_v (w := w3) (w2.below hE.bel) hm).mono ?_;clear k1 k2 k3 k4
      rintro e w4 ⟨rfl, hb⟩
      replace hE := hE.step hb;clear hb t1
      by_cases hy1 : y = 1
      ·
       have hg := hyy hy1;rw [decide_eq_true hy1]
       have hr1 : r = true := by rw [HR.out, hg]; rfl
       clear hg hy1 hyy;have HR1 := Lib.hid hr1;clear hr1;go_wp2_with fail
       go_ret
       exact ⟨ret_bool HR1.out.symm, hE.bel⟩
      ·
       rw [decide_eq_false hy1];clear hyy hy1;obtain ⟨k1, k2, k3, k4⟩ := hE.here.2.c4;go_wp2_with fail
       refine (fdivisor_v (ca := c) (cb := d) (w1.below hE.bel) (w2.below hE.bel) (by omega) (by omega)).mono ?_;clear k1 k2 k3 k4
       rintro e w5 ⟨sg, Ag, ng, cg, rfl, hg, hb⟩
       replace hE := hE.step hb;clear hb
       have hgl : ng ≤ 1024 := by
        rw [hg.len, Int.natAbs_natCast];refine ln_gcd _ _ _ ?_ ?_
        · rw [← w1.len]; omega
        · rw [← w2.len]; omega
       go_wp2_with fail
       refine (isOne_v (c := cg) hg (by omega)).mono ?_
       rintro e w6 ⟨rfl, hb⟩
       have hq : decide (((Nat.gcd x.natAbs y.natAbs : Nat) : Int) = 1) = r := by rw [HR.out, Bool.eq_iff_iff, decide_eq_true_iff, beq_iff_eq]; omega
       rw [hq];clear hq;go_wp2_with fail
       go_ret
       exact ⟨rfl, (hE.step hb).bel⟩
end
section
open Go.RowKit

theorem ftvalid_r (s t : Bool) (A B : Option Addr) (n m c d : Nat) (f g : Nat → Nat) (w : World) (hr : FRd w A n f B m g) (hn : n ≤ 1000000) (hm : m ≤ 1000000) (r : Bool) (h : okF s n f t m g = r) :
  Calls Tryz.prog 67 #[.agg #[.bool s, .slice A n c, .bool t, .slice B m d]] w fun e w' => e = .returned (.bool r) ∧ Below w.heap.size w w' := by
 subst h;exact ftvalid_any s t A B n m c d f g w hr hn hm
theorem fvalid_r (s t : Bool) (A B : Option Addr) (n m c d : Nat) (f g : Nat → Nat) (w : World) (hr : FRd w A n f B m g) (hn : n ≤ 1000000) (hm : m ≤ 1000000) (r : Bool) (h : okF s n f t m g = r) :
  Calls Tryz.prog 32 #[.agg #[.bool s, .slice A n c, .bool t, .slice B m d]] w fun e w' => e = .returned (.bool r) ∧ Below w.heap.size w w' := by
 have hbl : Below w.heap.size w (w.alloc (.cells #[.bool s, .slice A n c, .bool t, .slice B m d] 29)) := (Below.refl _ _).alloc (Nat.le_refl _) _;have HC := Lib.hid (ftvalid_r s t A B n m c d f g _ (hr.below hbl) hn hm r h);clear h hr
 go_enter Tryz.func32, Tryz.ntmps32
 go_wp2_with fail
 refine HC.out.mono ?_
 rintro e w1 ⟨rfl, hb⟩
 clear HC;go_wp2_with fail
 go_ret
 exact ⟨rfl, hbl.trans (hb.mono hbl.size)⟩
theorem fvalid1_r (s t : Bool) (A B : Option Addr) (n m c d : Nat) (f g : Nat → Nat) (w : World) (hr : FRd w A n f B m g) (hn : n ≤ 1000000) (hm : m ≤ 1000000) (r : Bool) (h : okF s n f t m g = r) :
  Calls Tryz.prog 84 #[.agg #[.bool s, .slice A n c, .bool t, .slice B m d]] w fun e w' => e = .returned (.bool (!r)) ∧ Below w.heap.size w w' := by
 have hbl : Below w.heap.size w (w.alloc (.cells #[.bool s, .slice A n c, .bool t, .slice B m d] 29)) := (Below.refl _ _).alloc (Nat.le_refl _) _;have HC := Lib.hid (fvalid_r s t A B n m c d f g _ (hr.below hbl) hn hm r h);clear h hr
 go_enter Tryz.func84, Tryz.ntmps84
 go_wp2_with fail
 refine HC.out.mono ?_
 rintro e w1 ⟨rfl, hb⟩
 clear HC;go_wp2_with fail
 go_ret
 exact ⟨rfl, hbl.trans (hb.mono hbl.size)⟩
theorem Blk.c8 {t : TypeId} {g : Nat} {w : World} {a b c d e f x y : Value} (h : Blk t g #[a, b, c, d, e, f, x, y] w) :
  (w.cell? ⟨g, 0, none⟩ = some a ∧ w.cell? ⟨g, 1, none⟩ = some b ∧ w.cell? ⟨g, 2, none⟩ = some c ∧ w.cell? ⟨g, 3, none⟩ = some d) ∧ w.cell? ⟨g, 4, none⟩ = some e ∧ w.cell? ⟨g, 5, none⟩ = some f ∧ w.cell? ⟨g, 6, none⟩ = some x ∧ w.cell? ⟨g, 7, none⟩ = some y :=
 ⟨⟨h.cell 0, h.cell 1, h.cell 2, h.cell 3⟩, h.cell 4, h.cell 5, h.cell 6, h.cell 7⟩
def firstBad (r1 r2 : Bool) : Int := if r1 then (if r2 then -1 else 1) else 0
theorem findex_two (S : Nat) (s t s2 t2 : Bool) (A B A2 B2 : Option Addr) (n m c d n2 m2 c2 d2 : Nat) (f g f2 g2 : Nat → Nat) (w : World) (hS : Blk 29 S #[.bool s, .slice A n c, .bool t, .slice B m d, .bool s2, .slice A2 n2 c2, .bool t2, .slice B2 m2 d2] w)
  (hr : FRd w A n f B m g) (hr2 : FRd w A2 n2 f2 B2 m2 g2) (hn : n ≤ 1000000) (hm : m ≤ 1000000) (hn2 : n2 ≤ 1000000) (hm2 : m2 ≤ 1000000) (r1 r2 : Bool) (h1 : okF s n f t m g = r1) (h2 : okF s2 n2 f2 t2 m2 g2 = r2) :
  Calls Tryz.prog 120 #[.slice (some ⟨S, 0, none⟩) 2 2, .func (.func 84) #[] #[]] w fun e w' => e = .returned (.int .i64 (firstBad r1 r2)) ∧ Below w.heap.size w w' := by
 have hE := (Env.start w).blkI hS;have H1 := Lib.hid h1;have H2 := Lib.hid h2;clear h1 h2
 go_enter Tryz.func120, Tryz.ntmps120
 go_wp2_with fail
 go_loopw [8] (fun i wr => ∃ k : Nat, k ≤ 2 ∧ i = .int .i64 (k : Int) ∧ Hid ((0 < k → r1 = true) ∧ (1 < k → r2 = true)) ∧ Env w (fun V => True ∧ Blk 29 S #[.bool s, .slice A n c, .bool t, .slice B m d, .bool s2, .slice A2 n2 c2, .bool t2, .slice B2 m2 d2] V) wr) (fun i _ => 2 - (intOf i).toNat)
 case atStart => exact ⟨0, by omega, rfl, Lib.hid ⟨fun h => absurd h (by omega), fun h => absurd h (by omega)⟩, hE⟩
 case round =>
  obtain ⟨k, hk, rfl, HK, hE⟩ := hrel
  rcases (show k = 0 ∨ k = 1 ∨ k = 2 by omega) with rfl | rfl | rfl
  ·
   obtain ⟨⟨k1, k2, k3, k4⟩, -⟩ := hE.here.2.c8
   cases r1 with
   | true =>
    go_wp2_with fail
    refine (fvalid1_r s t A B n m c d f g _ (hr.below hE.bel) hn hm _ H1.out).mono ?_
    rintro e w1 ⟨rfl, hb⟩
    clear k1 k2 k3 k4;go_wp2_with fail
    go_roundw
    case rel => exact ⟨1, by omega, rfl, Lib.hid ⟨fun _ => (by first | rfl | trivial), fun h => absurd h (by omega)⟩, hE.step hb⟩
    case measure => simp [intOf]
   | false =>
    go_wp2_with fail
    refine (fvalid1_r s t A B n m c d f g _ (hr.below hE.bel) hn hm _ H1.out).mono ?_
    rintro e w1 ⟨rfl, hb⟩
    clear k1 k2 k3 k4;go_wp2_with fail
    go_ret
    exact ⟨rfl, (hE.step hb).bel⟩
  ·
   obtain ⟨-, k1, k2, k3, k4⟩ := hE.here.2.c8;have hr1 := HK.out.1 (by omega)
   cases r2 with
   | true =>
    go_wp2_with fail
    refine (fvalid1_r s2 t2 A2 B2 n2 m2 c2 d2 f2 g2 _ (hr2.below hE.bel) hn2 hm2 _ H2.out).mono ?_
    rintro e w1 ⟨rfl, hb⟩
    clear k1 k2 k3 k4;go_wp2_with fail
    go_roundw
    case rel => exact ⟨2, by omega, rfl, Lib.hid ⟨fun _ => hr1, fun _ => (by first | rfl | trivial)⟩, hE.step hb⟩
    case measure => simp [intOf]
   | false =>
    go_wp2_with fail
    refine (fvalid1_r s2 t2 A2 B2 n2 m2 c2 d2 f2 g2 _ (hr2.below hE.bel) hn2 hm2 _ H2.out).mono ?_
    rintro e w1 ⟨rfl, hb⟩
    clear k1 k2 k3 k4;go_wp2_with fail
    go_ret
    exact ⟨by rw [hr1]; rfl, (hE.step hb).bel⟩
  ·
   have hr1 := HK.out.1 (by omega);have hr2' := HK.out.2 (by omega);have HR := Lib.hid hr1;have HR2 := Lib.hid hr2';clear hr1 hr2';go_wp2_with fail
   go_ret
   exact ⟨by rw [HR.out, HR2.out]; rfl, hE.bel⟩
theorem firstBad_ge (r1 r2 : Bool) : decide ((0 : Int) ≤ firstBad r1 r2) = !(r1 && r2) := by cases r1 <;> cases r2 <;> rfl
section
variable (S : Nat) (s t s2 t2 : Bool) (A B A2 B2 : Option Addr) (n m c d n2 m2 c2 d2 : Nat) (f g f2 g2 : Nat → Nat) (w : World) (hS : Blk 29 S #[.bool s, .slice A n c, .bool t, .slice B m d, .bool s2, .slice A2 n2 c2, .bool t2, .slice B2 m2 d2] w)
  (hr : FRd w A n f B m g) (hr2 : FRd w A2 n2 f2 B2 m2 g2) (hn : n ≤ 1000000) (hm : m ≤ 1000000) (hn2 : n2 ≤ 1000000) (hm2 : m2 ≤ 1000000) (r1 r2 : Bool) (h1 : okF s n f t m g = r1) (h2 : okF s2 n2 f2 t2 m2 g2 = r2)
include hS hr hr2 hn hm hn2 hm2 h1 h2
theorem fcontains_two :
  Calls Tryz.prog 83 #[.slice (some ⟨S, 0, none⟩) 2 2, .func (.func 84) #[] #[]] w fun e w' => e = .returned (.bool (!(r1 && r2))) ∧ Below w.heap.size w w' := by
 have HC := Lib.hid (findex_two S s t s2 t2 A B A2 B2 n m c d n2 m2 c2 d2 f g f2 g2 w hS hr hr2 hn hm hn2 hm2 r1 r2 h1 h2);have hf := firstBad_ge r1 r2
 obtain ⟨v, hv⟩ : ∃ v, v = firstBad r1 r2 := ⟨_, rfl⟩
 rw [← hv] at hf HC;have HF := Lib.hid hf;clear hf hv h1 h2
 go_enter Tryz.func83, Tryz.ntmps83
 go_wp2_with fail
 refine HC.out.mono ?_
 rintro e w1 ⟨rfl, hb⟩
 clear HC;go_wp2_with fail
 go_ret
 exact ⟨ret_bool HF.out, hb⟩
theorem fallValid_two :
  Calls Tryz.prog 46 #[.slice (some ⟨S, 0, none⟩) 2 2] w fun e w' => e = .returned (.bool (r1 && r2)) ∧ Below w.heap.size w w' := by
 have HC := Lib.hid (fcontains_two S s t s2 t2 A B A2 B2 n m c d n2 m2 c2 d2 f g f2 g2 w hS hr hr2 hn hm hn2 hm2 r1 r2 h1 h2);clear h1 h2
 obtain ⟨v, hv⟩ : ∃ v, v = (r1 && r2) := ⟨_, rfl⟩
 rw [← hv] at HC;have HV := Lib.hid hv;clear hv
 go_enter Tryz.func46, Tryz.ntmps46
 go_wp2_with fail
 refine HC.out.mono ?_
 rintro e w1 ⟨rfl, hb⟩
 clear HC;go_wp2_with fail
 go_ret
 exact ⟨ret_bool HV.out, hb⟩
end
theorem fallValid_v {p q : Rat} {s t s2 t2 : Bool} {A B A2 B2 : Option Addr} {n m c d n2 m2 c2 d2 : Nat} {W : World} (h1 : FV W p s A n t B m) (h2 : FV W q s2 A2 n2 t2 B2 m2) (l1 : fl p ≤ 256) (l2 : fl q ≤ 256) :
  Calls Tryz.prog 46 #[.slice (some ⟨W.heap.size, 0, none⟩) 2 2] (W.alloc (.cells #[.bool s, .slice A n c, .bool t, .slice B m d, .bool s2, .slice A2 n2 c2, .bool t2, .slice B2 m2 d2] 29)) fun e w' => e = .returned (.bool true) ∧ Below W.heap.size W w' := by
 have hb := (Below.refl W.heap.size W).alloc (Nat.le_refl _) (.cells #[.bool s, .slice A n c, .bool t, .slice B m d, .bool s2, .slice A2 n2 c2, .bool t2, .slice B2 m2 d2] 29);have e1 := h1.ln l1;have e2 := h2.ln l2;have h := fallValid_two W.heap.size s t s2 t2 A B A2 B2 n m c d n2 m2 c2 d2 _ _ _ _ _ (Blk.new W _ _) (h1.below hb).rd (h2.below hb).rd (by omega) (by omega) (by omega) (by omega) true true (okF_of h1 l1) (okF_of h2 l2)
 exact h.mono fun e w' ⟨he, hb'⟩ => ⟨he, hb.trans (hb'.mono hb.size)⟩
end
section
open Go.RowKit

def FOK (q : Rat) (w : World) (e : Ending) (w' : World) : Prop := ∃ s A n c t B m d, e = .returned (.tuple #[.agg #[.bool s, .slice A n c, .bool t, .slice B m d], .int .i64 0]) ∧ FV w' q s A n t B m ∧ Below w.heap.size w w'
theorem long_of {w : World} {q : Rat} {s t : Bool} {A B : Option Addr} {n m : Nat} (h : FV w q s A n t B m) (r : Bool) (hq : decide (256 < fl q) = r) : (decide (256 < n) || decide (256 < m)) = r := by
 have h1 := h.1.len;have h3 := h.2.len;rw [Int.natAbs_natCast] at h3;rw [← hq, Bool.eq_iff_iff, Bool.or_eq_true, decide_eq_true_iff, decide_eq_true_iff, decide_eq_true_iff];unfold fl;omega
theorem fresult_ok {q : Rat} {s t : Bool} {A B : Option Addr} {n m c d : Nat} {w : World} (ha : FV w q s A n t B m) (hf : fl q ≤ 256) :
  Calls Tryz.prog 53 #[.agg #[.bool s, .slice A n c, .bool t, .slice B m d]] w (FOK q w) := by
 have hq := long_of ha false (decide_eq_false (by omega));have hE := ((Env.start w).fv ha).blk 85 #[.bool s, .slice A n c, .bool t, .slice B m d] (g := w.heap.size) rfl;have hE := hE.blk 29 #[.bool false, .slice none 0 0, .bool false, .slice none 0 0] (g := w.heap.size + 1) (by simp)
 obtain ⟨W0, hW0⟩ : ∃ W0, W0 = ((w.alloc (.cells #[.bool s, .slice A n c, .bool t, .slice B m d] 85)).alloc (.cells #[.bool false, .slice none 0 0, .bool false, .slice none 0 0] 29)) := ⟨_, rfl⟩
 rw [← hW0] at hE;have HW0 := Lib.hid hW0;clear hW0
 go_enter Tryz.func53, Tryz.ntmps53
 go_upto_region 1 with (fail)
 rw [← HW0.out];obtain ⟨k1, k2, k3, k4⟩ := (hE.here.1.2).c4;go_wp2_with fail
 refine hE.br (flong_r s t A B n m c d W0 false hq) ?_;clear hE k1 k2 k3 k4;intro w5 hE;obtain ⟨k6, k7, k8, k9⟩ := (hE.here.1.2).c4
 have hRl : w.heap.size ≤ w.heap.size + 1 := by omega
 obtain ⟨WW, hWW, hB, hV, hBel⟩ := ret_frac hE hE.here.2 hRl hE.h2 c d;obtain ⟨x0, x1, x2, x3⟩ := (hE.here.2).c4;obtain ⟨fz0, fz1, fz2, fz3⟩ := hE.here.2.f4;have HWW := Lib.hid hWW;clear hWW;go_wp2_with fail
 clear k6 k7 k8 k9;rw [← HWW.out];obtain ⟨y0, y1, y2, y3⟩ := hB.c4;refine bodyPost_ret (v := .tuple #[.agg #[.bool s, .slice A n c, .bool t, .slice B m d], .int .i64 0]) (by simp [results, Tryz.results53, go_sem, y0, y1, y2, y3]) rfl ?_;exact ⟨s, A, n, c, t, B, m, d, rfl, hV, hBel⟩
theorem fromInt_v (z : Int) (w : World) (h1 : -9223372036854775808 ≤ z) (h2 : z ≤ 9223372036854775807) : Calls Tryz.prog 49 #[.int .i64 z] w (WR z w) :=
 (fromInt_any z w h1 h2).mono fun _ _ h => by obtain ⟨s, A, n, c, he, ho, hb⟩ := h.vi; exact ⟨s, A, n, c, he, ho.v, hb⟩
theorem ffromInt_v (z : Int) (w : World) (h1 : -9223372036854775808 ≤ z) (h2 : z ≤ 9223372036854775807) :
  Calls Tryz.prog 18 #[.int .i64 z] w (FR (z : Rat) w) := by
 have hE := Env.start w;have hE := hE.blk 29 #[.bool false, .slice none 0 0, .bool false, .slice none 0 0] (g := w.heap.size) rfl
 obtain ⟨W0, hW0⟩ : ∃ W0, W0 = (w.alloc (.cells #[.bool false, .slice none 0 0, .bool false, .slice none 0 0] 29)) := ⟨_, rfl⟩
 rw [← hW0] at hE;have HW0 := Lib.hid hW0;clear hW0
 go_enter Tryz.func18, Tryz.ntmps18
 go_upto_region 1 with (fail)
 rw [← HW0.out];go_wp2_with fail
 have hc := fromInt_v z W0 h1 h2;refine hc.mono ?_;clear hc
 rintro e w1 ⟨sn, An, nn, cn, rfl, hn, hb⟩
 replace hE := hE.step hb;clear hb;replace hE := hE.wv hn;clear hn;go_wp2_with fail
 have hc := fromInt_v 1 w1 (by decide) (by decide);refine hc.mono ?_;clear hc
 rintro e w2 ⟨sd, Ad, nd, cd, rfl, hd, hb⟩
 replace hE := hE.step hb;clear hb;replace hE := hE.wv hd;clear hd;have hfv : FV w2 (z : Rat) sn An nn sd Ad nd := ⟨hE.here.1.2, hE.here.2⟩;replace hE := hE.fv hfv;clear hfv
 have hRl : w.heap.size ≤ w.heap.size := by omega
 obtain ⟨WW, hWW, hB, hV, hBel⟩ := ret_frac hE hE.h3 hRl hE.here.2 cn cd;obtain ⟨x0, x1, x2, x3⟩ := (hE.h3).c4;obtain ⟨fz0, fz1, fz2, fz3⟩ := hE.h3.f4;have HWW := Lib.hid hWW;clear hWW;go_wp2_with fail
 rw [← HWW.out];obtain ⟨y0, y1, y2, y3⟩ := hB.c4;refine bodyPost_ret (v := .agg #[.bool sn, .slice An nn cn, .bool sd, .slice Ad nd cd]) (by simp [results, Tryz.results18, go_sem, y0, y1, y2, y3]) rfl ?_;exact ⟨sn, An, nn, cn, sd, Ad, nd, cd, rfl, hV, hBel⟩
theorem den_ne (a b : Rat) : (a.den : Int) * (b.den : Int) ≠ 0 := by
 have h1 := den_pos a;have h2 := den_pos b;have := Int.mul_pos (show (0 : Int) < a.den by omega) (show (0 : Int) < b.den by omega);omega
theorem fadd_v {a b : Rat} {sa ta sb tb : Bool} {Aa Ba Ab Bb : Option Addr} {na ca ma da nb cb mb db : Nat} {w : World} (ha : FV w a sa Aa na ta Ba ma) (hb : FV w b sb Ab nb tb Bb mb) (la : fl a ≤ 256) (lb : fl b ≤ 256) (lr : fl (a + b) ≤ 256) :
  Calls Tryz.prog 66 #[.agg #[.bool sa, .slice Aa na ca, .bool ta, .slice Ba ma da], .agg #[.bool sb, .slice Ab nb cb, .bool tb, .slice Bb mb db]] w (FOK (a + b) w) := by
 have hE := ((((Env.start w).fv ha).fv hb).blk 29 #[.bool sa, .slice Aa na ca, .bool ta, .slice Ba ma da] (g := w.heap.size) rfl).blk 29 #[.bool sb, .slice Ab nb cb, .bool tb, .slice Bb mb db] (g := w.heap.size + 1) (by simp);have hE := hE.blk 29 #[.bool false, .slice none 0 0, .bool false, .slice none 0 0] (g := w.heap.size + 1 + 1) (by simp)
 obtain ⟨W0, hW0⟩ : ∃ W0, W0 = (((w.alloc (.cells #[.bool sa, .slice Aa na ca, .bool ta, .slice Ba ma da] 29)).alloc (.cells #[.bool sb, .slice Ab nb cb, .bool tb, .slice Bb mb db] 29)).alloc (.cells #[.bool false, .slice none 0 0, .bool false, .slice none 0 0] 29)) := ⟨_, rfl⟩
 rw [← hW0] at hE;have HW0 := Lib.hid hW0;clear hW0
 go_enter Tryz.func66, Tryz.ntmps66
 go_upto_region 1 with (fail)
 rw [← HW0.out];obtain ⟨k1, k2, k3, k4⟩ := (hE.h2).c4;obtain ⟨k5, k6, k7, k8⟩ := (hE.here.1.2).c4;go_wp2_with fail
 have hc := fallValid_v (c := ca) (d := da) (c2 := cb) (d2 := db) hE.h4 hE.h3 la lb;refine hc.mono ?_;clear hc;clear k1 k2 k3 k4 k5 k6 k7 k8
 rintro e w9 ⟨rfl, hb⟩
 replace hE := hE.step hb;clear hb
 go_upto_region 3 with (fail)
 obtain ⟨qa1, qa2⟩ := fl_le.1 la;obtain ⟨qb1, qb2⟩ := fl_le.1 lb;obtain ⟨ha1, ha2⟩ := (hE.h4).ln la;obtain ⟨hb1, hb2⟩ := (hE.h3).ln lb
 have qa2 : ln b16 ((a.den : Nat) : Int).natAbs ≤ 256 := by rw [Int.natAbs_natCast]; exact qa2
 have qb2 : ln b16 ((b.den : Nat) : Int).natAbs ≤ 256 := by rw [Int.natAbs_natCast]; exact qb2
 replace hE := hE.drew;refine wp_region_held_drew (S := fun w' => w'.cell? ⟨w.heap.size, 0, none⟩ = some (.bool sa) ∧ w'.cell? ⟨w.heap.size, 1, none⟩ = some (.slice Aa na ca) ∧ w'.cell? ⟨w.heap.size, 2, none⟩ = some (.bool ta) ∧ w'.cell? ⟨w.heap.size, 3, none⟩ = some (.slice Ba ma da) ∧ w'.cell? ⟨w.heap.size + 1, 0, none⟩ = some (.bool sb) ∧ w'.cell? ⟨w.heap.size + 1, 1, none⟩ = some (.slice Ab nb cb) ∧ w'.cell? ⟨w.heap.size + 1, 2, none⟩ = some (.bool tb) ∧ w'.cell? ⟨w.heap.size + 1, 3, none⟩ = some (.slice Bb mb db)) (by kernel_rfl) (hE.h2.j4 hE.here.1.2.c4) (fun hHeld => ?_);refine tk 0 ?_;refine tk 1 ?_;refine tk 2 ?_;refine tk 3 ?_;refine tk 5 ?_;refine tk 6 ?_;refine tk 7 ?_;refine tk 8 ?_;refine tk 11 ?_;refine tk 12 ?_;refine tk 13 ?_;refine tk 14 ?_;refine r1 4 (fun K hK => ?_);go_simp;have hc := ftimes_v (ca := ca) (cb := db) (hE.h4).1 (hE.h3).2 (Nat.le_trans ha1 (by decide)) (Nat.le_trans hb2 (by decide)) (Nat.le_trans (ln_mulZ (m := 256) (n := 256) qa1 qb2) (by decide));refine hc.mono ?_;clear hc
 rintro e w10 ⟨sx, Ax, nx, cx, rfl, hx, hb⟩
 replace hE := hE.step hb;clear hb;replace hE := hE.wv hx;clear hx
 have lx : nx ≤ 512 := by rw [(hE.here.2).len]; exact (ln_mulZ (m := 256) (n := 256) qa1 qb2)
 go_wp2_with fail
 refine hK.out _ _ (hE.h3.j4 hE.h2.c4) (fun hHeld => ?_);clear hK K;try simp only [PL]
 refine r1 9 (fun K hK => ?_);go_simp;have hc := ftimes_v (ca := cb) (cb := da) (hE.h4).1 (hE.h5).2 (Nat.le_trans hb1 (by decide)) (Nat.le_trans ha2 (by decide)) (Nat.le_trans (ln_mulZ (m := 256) (n := 256) qb1 qa2) (by decide));refine hc.mono ?_;clear hc
 rintro e w11 ⟨sy, Ay, ny, cy, rfl, hy, hb⟩
 replace hE := hE.step hb;clear hb;replace hE := hE.wv hy;clear hy
 have ly : ny ≤ 512 := by rw [(hE.here.2).len]; exact (ln_mulZ (m := 256) (n := 256) qb1 qa2)
 go_wp2_with fail
 refine hK.out _ _ (hE.h4.j4 hE.h3.c4) (fun hHeld => ?_);clear hK K;try simp only [PL]
 refine r1 10 (fun K hK => ?_);go_simp;have hc := fplus_v (ca := cx) (cb := cy) hE.here.1.2 hE.here.2 (Nat.le_trans lx (by decide)) (Nat.le_trans ly (by decide)) (Nat.le_trans (ln_addZ (m := 512) (by rw [← (hE.here.1.2).len]; exact lx) (by rw [← (hE.here.2).len]; exact ly)) (by decide));refine hc.mono ?_;clear hc
 rintro e w12 ⟨sz, Az, nz, cz, rfl, hz, hb⟩
 replace hE := hE.step hb;clear hb;replace hE := hE.wv hz;clear hz
 have lz : nz ≤ 513 := by rw [(hE.here.2).len]; exact (ln_addZ (m := 512) (by rw [← (hE.h2).len]; exact lx) (by rw [← (hE.here.1.2).len]; exact ly))
 go_wp2_with fail
 refine hK.out _ _ (hE.h5.j4 hE.h4.c4) (fun hHeld => ?_);clear hK K;try simp only [PL]
 refine r1 15 (fun K hK => ?_);go_simp;have hc := ftimes_v (ca := da) (cb := db) (hE.h7).2 (hE.h6).2 (Nat.le_trans ha2 (by decide)) (Nat.le_trans hb2 (by decide)) (Nat.le_trans (ln_mulZ (m := 256) (n := 256) qa2 qb2) (by decide));refine hc.mono ?_;clear hc
 rintro e w13 ⟨su, Au, nu, cu, rfl, hu, hb⟩
 replace hE := hE.step hb;clear hb;replace hE := hE.wv hu;clear hu
 have lu : nu ≤ 512 := by rw [(hE.here.2).len]; exact (ln_mulZ (m := 256) (n := 256) qa2 qb2)
 go_wp2_with fail
 refine hK.out _ _ (hE.h6.j4 hE.h5.c4) (fun hHeld => ?_);clear hK K;try simp only [PL]
 refine r1 16 (fun K hK => ?_);go_simp;have hc := flowest_v (ca := cz) (cb := cu) hE.here.1.2 hE.here.2 (Nat.le_trans lz (by decide)) (Nat.le_trans lu (by decide)) (den_ne a b);rw [add_low a b] at hc;refine hE.fr hc ?_;clear hE hc;intro sf Af nf cf tf Bf mf df w14 hE;go_wp2_with fail
 refine hK.out _ _ (hE.h7.j4 hE.h6.c4) (fun hHeld => ?_);clear hK K;try simp only [PL]
 refine r1 17 (fun K hK => ?_);go_simp;refine hE.fr (fresult_ok (c := cf) (d := df) hE.here.2 lr) ?_;clear hE;intro sr Ar nr cr tr Br mr dr w15 hE;go_wp2_with fail
 refine hK.out _ _ (hE.h8.j4 hE.h7.c4) (fun hHeld => ?_);clear hK K;try simp only [PL]
 refine tk 18 ?_;refine tk 19 ?_;refine r1 20 (fun K hK => ?_)
 have hRl : w.heap.size ≤ w.heap.size + 1 + 1 := by omega
 obtain ⟨WW, hWW, hB, hV, hBel⟩ := ret_frac hE hE.h6 hRl hE.here.2 cr dr;obtain ⟨x0, x1, x2, x3⟩ := (hE.h6).c4;obtain ⟨fz0, fz1, fz2, fz3⟩ := hE.h6.f4;have HWW := Lib.hid hWW;clear hWW;have q16 := (hE.h8).far4 (R := w.heap.size + 1 + 1) (by omega) (.bool sr) (.slice Ar nr cr) (.bool tr) (.slice Br mr dr);rw [← HWW.out] at q16;have q17 := (hE.h7).far4 (R := w.heap.size + 1 + 1) (by omega) (.bool sr) (.slice Ar nr cr) (.bool tr) (.slice Br mr dr);rw [← HWW.out] at q17;go_simp;rw [← HWW.out];refine hK.out _ _ (q16.j4 q17.c4) (fun hHeld => ?_);clear hK K;try simp only [PL]
 refine tk 21 ?_;refine wpAnyH_done (by kernel_rfl) ?_ _;go_wp2_with fail
 obtain ⟨y0, y1, y2, y3⟩ := hB.c4;refine bodyPost_ret (v := .tuple #[.agg #[.bool sr, .slice Ar nr cr, .bool tr, .slice Br mr dr], .int .i64 0]) (by simp [results, Tryz.results66, go_sem, y0, y1, y2, y3]) rfl ?_;exact ⟨sr, Ar, nr, cr, tr, Br, mr, dr, rfl, hV, hBel⟩
theorem fsub_v {a b : Rat} {sa ta sb tb : Bool} {Aa Ba Ab Bb : Option Addr} {na ca ma da nb cb mb db : Nat} {w : World} (ha : FV w a sa Aa na ta Ba ma) (hb : FV w b sb Ab nb tb Bb mb) (la : fl a ≤ 256) (lb : fl b ≤ 256) (lr : fl (a - b) ≤ 256) :
  Calls Tryz.prog 19 #[.agg #[.bool sa, .slice Aa na ca, .bool ta, .slice Ba ma da], .agg #[.bool sb, .slice Ab nb cb, .bool tb, .slice Bb mb db]] w (FOK (a - b) w) := by
 have hE := ((((Env.start w).fv ha).fv hb).blk 29 #[.bool sa, .slice Aa na ca, .bool ta, .slice Ba ma da] (g := w.heap.size) rfl).blk 29 #[.bool sb, .slice Ab nb cb, .bool tb, .slice Bb mb db] (g := w.heap.size + 1) (by simp);have hE := hE.blk 29 #[.bool false, .slice none 0 0, .bool false, .slice none 0 0] (g := w.heap.size + 1 + 1) (by simp)
 obtain ⟨W0, hW0⟩ : ∃ W0, W0 = (((w.alloc (.cells #[.bool sa, .slice Aa na ca, .bool ta, .slice Ba ma da] 29)).alloc (.cells #[.bool sb, .slice Ab nb cb, .bool tb, .slice Bb mb db] 29)).alloc (.cells #[.bool false, .slice none 0 0, .bool false, .slice none 0 0] 29)) := ⟨_, rfl⟩
 rw [← hW0] at hE;have HW0 := Lib.hid hW0;clear hW0
 go_enter Tryz.func19, Tryz.ntmps19
 go_upto_region 1 with (fail)
 rw [← HW0.out];obtain ⟨k1, k2, k3, k4⟩ := (hE.h2).c4;obtain ⟨k5, k6, k7, k8⟩ := (hE.here.1.2).c4;go_wp2_with fail
 have hc := fallValid_v (c := ca) (d := da) (c2 := cb) (d2 := db) hE.h4 hE.h3 la lb;refine hc.mono ?_;clear hc;clear k1 k2 k3 k4 k5 k6 k7 k8
 rintro e w9 ⟨rfl, hb⟩
 replace hE := hE.step hb;clear hb
 go_upto_region 3 with (fail)
 obtain ⟨qa1, qa2⟩ := fl_le.1 la;obtain ⟨qb1, qb2⟩ := fl_le.1 lb;obtain ⟨ha1, ha2⟩ := (hE.h4).ln la;obtain ⟨hb1, hb2⟩ := (hE.h3).ln lb
 have qa2 : ln b16 ((a.den : Nat) : Int).natAbs ≤ 256 := by rw [Int.natAbs_natCast]; exact qa2
 have qb2 : ln b16 ((b.den : Nat) : Int).natAbs ≤ 256 := by rw [Int.natAbs_natCast]; exact qb2
 replace hE := hE.drew;refine wp_region_held_drew (S := fun w' => w'.cell? ⟨w.heap.size, 0, none⟩ = some (.bool sa) ∧ w'.cell? ⟨w.heap.size, 1, none⟩ = some (.slice Aa na ca) ∧ w'.cell? ⟨w.heap.size, 2, none⟩ = some (.bool ta) ∧ w'.cell? ⟨w.heap.size, 3, none⟩ = some (.slice Ba ma da) ∧ w'.cell? ⟨w.heap.size + 1, 0, none⟩ = some (.bool sb) ∧ w'.cell? ⟨w.heap.size + 1, 1, none⟩ = some (.slice Ab nb cb) ∧ w'.cell? ⟨w.heap.size + 1, 2, none⟩ = some (.bool tb) ∧ w'.cell? ⟨w.heap.size + 1, 3, none⟩ = some (.slice Bb mb db)) (by kernel_rfl) (hE.h2.j4 hE.here.1.2.c4) (fun hHeld => ?_);refine tk 0 ?_;refine tk 1 ?_;refine tk 2 ?_;refine tk 3 ?_;refine tk 5 ?_;refine tk 6 ?_;refine tk 7 ?_;refine tk 8 ?_;refine tk 12 ?_;refine tk 13 ?_;refine tk 14 ?_;refine tk 15 ?_;refine r1 4 (fun K hK => ?_);go_simp;have hc := ftimes_v (ca := ca) (cb := db) (hE.h4).1 (hE.h3).2 (Nat.le_trans ha1 (by decide)) (Nat.le_trans hb2 (by decide)) (Nat.le_trans (ln_mulZ (m := 256) (n := 256) qa1 qb2) (by decide));refine hc.mono ?_;clear hc
 rintro e w10 ⟨sx, Ax, nx, cx, rfl, hx, hb⟩
 replace hE := hE.step hb;clear hb;replace hE := hE.wv hx;clear hx
 have lx : nx ≤ 512 := by rw [(hE.here.2).len]; exact (ln_mulZ (m := 256) (n := 256) qa1 qb2)
 go_wp2_with fail
 refine hK.out _ _ (hE.h3.j4 hE.h2.c4) (fun hHeld => ?_);clear hK K;try simp only [PL]
 refine r1 9 (fun K hK => ?_);go_simp;have hc := ftimes_v (ca := cb) (cb := da) (hE.h4).1 (hE.h5).2 (Nat.le_trans hb1 (by decide)) (Nat.le_trans ha2 (by decide)) (Nat.le_trans (ln_mulZ (m := 256) (n := 256) qb1 qa2) (by decide));refine hc.mono ?_;clear hc
 rintro e w11 ⟨sy, Ay, ny, cy, rfl, hy, hb⟩
 replace hE := hE.step hb;clear hb;replace hE := hE.wv hy;clear hy
 have ly : ny ≤ 512 := by rw [(hE.here.2).len]; exact (ln_mulZ (m := 256) (n := 256) qb1 qa2)
 go_wp2_with fail
 refine hK.out _ _ (hE.h4.j4 hE.h3.c4) (fun hHeld => ?_);clear hK K;try simp only [PL]
 refine r1 10 (fun K hK => ?_);go_simp;have hc := fopposite_v (c := cy) hE.here.2 (Nat.le_trans ly (by decide));refine hc.mono ?_;clear hc
 rintro e w12 ⟨so, Ao, no, co, rfl, ho, hb⟩
 replace hE := hE.step hb;clear hb;replace hE := hE.wv ho;clear ho;have lo := neg_len hE.here.1.2 hE.here.2 ly;go_wp2_with fail
 refine hK.out _ _ (hE.h5.j4 hE.h4.c4) (fun hHeld => ?_);clear hK K;try simp only [PL]
 refine r1 11 (fun K hK => ?_);go_simp;have hc := fplus_v (ca := cx) (cb := co) hE.h2 hE.here.2 (Nat.le_trans lx (by decide)) (Nat.le_trans lo (by decide)) (Nat.le_trans (ln_addZ (m := 512) (by rw [← (hE.h2).len]; exact lx) (by rw [← (hE.here.2).len]; exact lo)) (by decide));refine hc.mono ?_;clear hc
 rintro e w13 ⟨sz, Az, nz, cz, rfl, hz, hb⟩
 replace hE := hE.step hb;clear hb;replace hE := hE.wv hz;clear hz
 have lz : nz ≤ 513 := by rw [(hE.here.2).len]; exact (ln_addZ (m := 512) (by rw [← (hE.h3).len]; exact lx) (by rw [← (hE.here.1.2).len]; exact lo))
 go_wp2_with fail
 refine hK.out _ _ (hE.h6.j4 hE.h5.c4) (fun hHeld => ?_);clear hK K;try simp only [PL]
 refine r1 16 (fun K hK => ?_);go_simp;have hc := ftimes_v (ca := da) (cb := db) (hE.h8).2 (hE.h7).2 (Nat.le_trans ha2 (by decide)) (Nat.le_trans hb2 (by decide)) (Nat.le_trans (ln_mulZ (m := 256) (n := 256) qa2 qb2) (by decide));refine hc.mono ?_;clear hc
 rintro e w14 ⟨su, Au, nu, cu, rfl, hu, hb⟩
 replace hE := hE.step hb;clear hb;replace hE := hE.wv hu;clear hu
 have lu : nu ≤ 512 := by rw [(hE.here.2).len]; exact (ln_mulZ (m := 256) (n := 256) qa2 qb2)
 go_wp2_with fail
 refine hK.out _ _ (hE.h7.j4 hE.h6.c4) (fun hHeld => ?_);clear hK K;try simp only [PL]
 refine r1 17 (fun K hK => ?_);go_simp;have hc := flowest_v (ca := cz) (cb := cu) hE.here.1.2 hE.here.2 (Nat.le_trans lz (by decide)) (Nat.le_trans lu (by decide)) (den_ne a b);rw [sub_low a b] at hc;refine hE.fr hc ?_;clear hE hc;intro sf Af nf cf tf Bf mf df w15 hE;go_wp2_with fail
 refine hK.out _ _ (hE.h8.j4 hE.h7.c4) (fun hHeld => ?_);clear hK K;try simp only [PL]
 refine r1 18 (fun K hK => ?_);go_simp;refine hE.fr (fresult_ok (c := cf) (d := df) hE.here.2 lr) ?_;clear hE;intro sr Ar nr cr tr Br mr dr w16 hE;go_wp2_with fail
 refine hK.out _ _ (hE.h9.j4 hE.h8.c4) (fun hHeld => ?_);clear hK K;try simp only [PL]
 refine tk 19 ?_;refine tk 20 ?_;refine r1 21 (fun K hK => ?_)
 have hRl : w.heap.size ≤ w.heap.size + 1 + 1 := by omega
 obtain ⟨WW, hWW, hB, hV, hBel⟩ := ret_frac hE hE.h7 hRl hE.here.2 cr dr;obtain ⟨x0, x1, x2, x3⟩ := (hE.h7).c4;obtain ⟨fz0, fz1, fz2, fz3⟩ := hE.h7.f4;have HWW := Lib.hid hWW;clear hWW;have q17 := (hE.h9).far4 (R := w.heap.size + 1 + 1) (by omega) (.bool sr) (.slice Ar nr cr) (.bool tr) (.slice Br mr dr);rw [← HWW.out] at q17;have q18 := (hE.h8).far4 (R := w.heap.size + 1 + 1) (by omega) (.bool sr) (.slice Ar nr cr) (.bool tr) (.slice Br mr dr);rw [← HWW.out] at q18;go_simp;rw [← HWW.out];refine hK.out _ _ (q17.j4 q18.c4) (fun hHeld => ?_);clear hK K;try simp only [PL]
 refine tk 22 ?_;refine wpAnyH_done (by kernel_rfl) ?_ _;go_wp2_with fail
 obtain ⟨y0, y1, y2, y3⟩ := hB.c4;refine bodyPost_ret (v := .tuple #[.agg #[.bool sr, .slice Ar nr cr, .bool tr, .slice Br mr dr], .int .i64 0]) (by simp [results, Tryz.results19, go_sem, y0, y1, y2, y3]) rfl ?_;exact ⟨sr, Ar, nr, cr, tr, Br, mr, dr, rfl, hV, hBel⟩
theorem fmul_v {a b : Rat} {sa ta sb tb : Bool} {Aa Ba Ab Bb : Option Addr} {na ca ma da nb cb mb db : Nat} {w : World} (ha : FV w a sa Aa na ta Ba ma) (hb : FV w b sb Ab nb tb Bb mb) (la : fl a ≤ 256) (lb : fl b ≤ 256) (lr : fl (a * b) ≤ 256) :
  Calls Tryz.prog 35 #[.agg #[.bool sa, .slice Aa na ca, .bool ta, .slice Ba ma da], .agg #[.bool sb, .slice Ab nb cb, .bool tb, .slice Bb mb db]] w (FOK (a * b) w) := by
 have hE := ((((Env.start w).fv ha).fv hb).blk 29 #[.bool sa, .slice Aa na ca, .bool ta, .slice Ba ma da] (g := w.heap.size) rfl).blk 29 #[.bool sb, .slice Ab nb cb, .bool tb, .slice Bb mb db] (g := w.heap.size + 1) (by simp);have hE := hE.blk 29 #[.bool false, .slice none 0 0, .bool false, .slice none 0 0] (g := w.heap.size + 1 + 1) (by simp)
 obtain ⟨W0, hW0⟩ : ∃ W0, W0 = (((w.alloc (.cells #[.bool sa, .slice Aa na ca, .bool ta, .slice Ba ma da] 29)).alloc (.cells #[.bool sb, .slice Ab nb cb, .bool tb, .slice Bb mb db] 29)).alloc (.cells #[.bool false, .slice none 0 0, .bool false, .slice none 0 0] 29)) := ⟨_, rfl⟩
 rw [← hW0] at hE;have HW0 := Lib.hid hW0;clear hW0
 go_enter Tryz.func35, Tryz.ntmps35
 go_upto_region 1 with (fail)
 rw [← HW0.out];obtain ⟨k1, k2, k3, k4⟩ := (hE.h2).c4;obtain ⟨k5, k6, k7, k8⟩ := (hE.here.1.2).c4;go_wp2_with fail
 have hc := fallValid_v (c := ca) (d := da) (c2 := cb) (d2 := db) hE.h4 hE.h3 la lb;refine hc.mono ?_;clear hc;clear k1 k2 k3 k4 k5 k6 k7 k8
 rintro e w9 ⟨rfl, hb⟩
 replace hE := hE.step hb;clear hb
 go_upto_region 3 with (fail)
 obtain ⟨qa1, qa2⟩ := fl_le.1 la;obtain ⟨qb1, qb2⟩ := fl_le.1 lb;obtain ⟨ha1, ha2⟩ := (hE.h4).ln la;obtain ⟨hb1, hb2⟩ := (hE.h3).ln lb
 have qa2 : ln b16 ((a.den : Nat) : Int).natAbs ≤ 256 := by rw [Int.natAbs_natCast]; exact qa2
 have qb2 : ln b16 ((b.den : Nat) : Int).natAbs ≤ 256 := by rw [Int.natAbs_natCast]; exact qb2
 replace hE := hE.drew;refine wp_region_held_drew (S := fun w' => w'.cell? ⟨w.heap.size, 0, none⟩ = some (.bool sa) ∧ w'.cell? ⟨w.heap.size, 1, none⟩ = some (.slice Aa na ca) ∧ w'.cell? ⟨w.heap.size, 2, none⟩ = some (.bool ta) ∧ w'.cell? ⟨w.heap.size, 3, none⟩ = some (.slice Ba ma da) ∧ w'.cell? ⟨w.heap.size + 1, 0, none⟩ = some (.bool sb) ∧ w'.cell? ⟨w.heap.size + 1, 1, none⟩ = some (.slice Ab nb cb) ∧ w'.cell? ⟨w.heap.size + 1, 2, none⟩ = some (.bool tb) ∧ w'.cell? ⟨w.heap.size + 1, 3, none⟩ = some (.slice Bb mb db)) (by kernel_rfl) (hE.h2.j4 hE.here.1.2.c4) (fun hHeld => ?_);refine tk 0 ?_;refine tk 1 ?_;refine tk 2 ?_;refine tk 3 ?_;refine tk 5 ?_;refine tk 6 ?_;refine tk 7 ?_;refine tk 8 ?_;refine r1 4 (fun K hK => ?_);go_simp;have hc := ftimes_v (ca := ca) (cb := cb) (hE.h4).1 (hE.h3).1 (Nat.le_trans ha1 (by decide)) (Nat.le_trans hb1 (by decide)) (Nat.le_trans (ln_mulZ (m := 256) (n := 256) qa1 qb1) (by decide));refine hc.mono ?_;clear hc
 rintro e w10 ⟨sx, Ax, nx, cx, rfl, hx, hb⟩
 replace hE := hE.step hb;clear hb;replace hE := hE.wv hx;clear hx
 have lx : nx ≤ 512 := by rw [(hE.here.2).len]; exact (ln_mulZ (m := 256) (n := 256) qa1 qb1)
 go_wp2_with fail
 refine hK.out _ _ (hE.h3.j4 hE.h2.c4) (fun hHeld => ?_);clear hK K;try simp only [PL]
 refine r1 9 (fun K hK => ?_);go_simp;have hc := ftimes_v (ca := da) (cb := db) (hE.h5).2 (hE.h4).2 (Nat.le_trans ha2 (by decide)) (Nat.le_trans hb2 (by decide)) (Nat.le_trans (ln_mulZ (m := 256) (n := 256) qa2 qb2) (by decide));refine hc.mono ?_;clear hc
 rintro e w11 ⟨su, Au, nu, cu, rfl, hu, hb⟩
 replace hE := hE.step hb;clear hb;replace hE := hE.wv hu;clear hu
 have lu : nu ≤ 512 := by rw [(hE.here.2).len]; exact (ln_mulZ (m := 256) (n := 256) qa2 qb2)
 go_wp2_with fail
 refine hK.out _ _ (hE.h4.j4 hE.h3.c4) (fun hHeld => ?_);clear hK K;try simp only [PL]
 refine r1 10 (fun K hK => ?_);go_simp;have hc := flowest_v (ca := cx) (cb := cu) hE.here.1.2 hE.here.2 (Nat.le_trans lx (by decide)) (Nat.le_trans lu (by decide)) (den_ne a b);rw [mul_low a b] at hc;refine hE.fr hc ?_;clear hE hc;intro sf Af nf cf tf Bf mf df w12 hE;go_wp2_with fail
 refine hK.out _ _ (hE.h5.j4 hE.h4.c4) (fun hHeld => ?_);clear hK K;try simp only [PL]
 refine r1 11 (fun K hK => ?_);go_simp;refine hE.fr (fresult_ok (c := cf) (d := df) hE.here.2 lr) ?_;clear hE;intro sr Ar nr cr tr Br mr dr w13 hE;go_wp2_with fail
 refine hK.out _ _ (hE.h6.j4 hE.h5.c4) (fun hHeld => ?_);clear hK K;try simp only [PL]
 refine tk 12 ?_;refine tk 13 ?_;refine r1 14 (fun K hK => ?_)
 have hRl : w.heap.size ≤ w.heap.size + 1 + 1 := by omega
 obtain ⟨WW, hWW, hB, hV, hBel⟩ := ret_frac hE hE.h4 hRl hE.here.2 cr dr;obtain ⟨x0, x1, x2, x3⟩ := (hE.h4).c4;obtain ⟨fz0, fz1, fz2, fz3⟩ := hE.h4.f4;have HWW := Lib.hid hWW;clear hWW;have q14 := (hE.h6).far4 (R := w.heap.size + 1 + 1) (by omega) (.bool sr) (.slice Ar nr cr) (.bool tr) (.slice Br mr dr);rw [← HWW.out] at q14;have q15 := (hE.h5).far4 (R := w.heap.size + 1 + 1) (by omega) (.bool sr) (.slice Ar nr cr) (.bool tr) (.slice Br mr dr);rw [← HWW.out] at q15;go_simp;rw [← HWW.out];refine hK.out _ _ (q14.j4 q15.c4) (fun hHeld => ?_);clear hK K;try simp only [PL]
 refine tk 15 ?_;refine wpAnyH_done (by kernel_rfl) ?_ _;go_wp2_with fail
 obtain ⟨y0, y1, y2, y3⟩ := hB.c4;refine bodyPost_ret (v := .tuple #[.agg #[.bool sr, .slice Ar nr cr, .bool tr, .slice Br mr dr], .int .i64 0]) (by simp [results, Tryz.results35, go_sem, y0, y1, y2, y3]) rfl ?_;exact ⟨sr, Ar, nr, cr, tr, Br, mr, dr, rfl, hV, hBel⟩
end
end Go.Proofs.YtjgihmmeimfheaaGreat
