/-
  Several texts in one: The walks of the methods of frac.term, and of frac.Valid. The walks of frac.Valid and of frac.allValid at two fractions.
-/
import Derived.Test.YtjgihmmeimfheaaGreatK21
import Derived.Test.YtjgihmmeimfheaaGreatK22
namespace Go.Proofs.YtjgihmmeimfheaaGreat
open Go.RowKit

/-- What frac.Valid says of two numbers. -/
def okF (s : Bool) (n : Nat) (f : Nat → Nat) (t : Bool) (m : Nat) (g : Nat → Nat) : Bool :=
 !(decide (256 < n) || decide (256 < m)) && (okW s n f && (okW t m g && (!t && (!decide (m = 0) && (Nat.gcd (vs b16 f n) (vs b16 g m) == 1)))))
/-- The four cells of a fraction: two slices that read as limbs. -/
def FRd (w : World) (A : Option Addr) (n : Nat) (f : Nat → Nat) (B : Option Addr) (m : Nat) (g : Nat → Nat) : Prop :=
 Rd w.heap.size .u16 w A n f ∧ Rd w.heap.size .u16 w B m g ∧ (∀ j, j < n → f j < 65536) ∧ (∀ j, j < m → g j < 65536)
theorem FRd.below {w w' : World} {A B : Option Addr} {n m : Nat} {f g : Nat → Nat} (h : FRd w A n f B m g) (hb : Below w.heap.size w w') : FRd w' A n f B m g :=
 ⟨(h.1.below hb).more hb.size, (h.2.1.below hb).more hb.size, h.2.2.1, h.2.2.2⟩
theorem FV.rd {w : World} {q : Rat} {s t : Bool} {A B : Option Addr} {n m : Nat} (h : FV w q s A n t B m) : FRd w A n (dgt b16 q.num.natAbs) B m (dgt b16 q.den) := by
 obtain ⟨⟨-, h1, h2⟩, ⟨-, h3, h4⟩⟩ := h
 unfold Num16 at h2 h4
 rw [← h1] at h2
 rw [← h3] at h4
 rw [Int.natAbs_natCast] at h4
 exact ⟨h2, h4, fun j _ => dgt16_lt _ j, fun j _ => dgt16_lt _ j⟩
theorem okF_of {w : World} {q : Rat} {s t : Bool} {A B : Option Addr} {n m : Nat} (h : FV w q s A n t B m) (hq : fl q ≤ 256) : okF s n (dgt b16 q.num.natAbs) t m (dgt b16 q.den) = true := by
 obtain ⟨l1, l2⟩ := fl_le.1 hq
 obtain ⟨⟨h0, h1, h2⟩, ⟨h5, h3, h4⟩⟩ := h
 rw [Int.natAbs_natCast] at h3
 have e1 := okW_num (z := q.num) (by omega)
 have e2 := okW_num (z := ((q.den : Nat) : Int)) (by rw [Int.natAbs_natCast]; omega)
 rw [Int.natAbs_natCast] at e2
 have hd := den_pos q
 have hm : 0 < m := by rw [h3]; exact (ln_pos b16_two).2 hd
 unfold okF
 rw [decide_eq_false (show ¬ 256 < n by omega), decide_eq_false (show ¬ 256 < m by omega), decide_eq_false (show ¬ m = 0 by omega), h0, h5, h1, h3, e1, e2, vs_dgt_ln b16_two, vs_dgt_ln b16_two, beq_iff_eq.2 (show Nat.gcd q.num.natAbs q.den = 1 from q.reduced)]
 rw [decide_eq_false (show ¬ ((q.den : Nat) : Int) < 0 by omega)]
 rfl
theorem okW_wv {w : World} {s : Bool} {A : Option Addr} {n : Nat} {f : Nat → Nat} (hr : Rd w.heap.size .u16 w A n f) (hf : ∀ j, j < n → f j < 65536) (h : okW s n f = true) : WV w (toI s (vs b16 f n)) s A n := by
 have hln : ln b16 (vs b16 f n) = n := by
  unfold okW at h
  by_cases h0 : n = 0
  · subst h0; rw [vs_zero, ln_zero]
  ·
   rw [if_neg h0, Bool.and_eq_true] at h
   exact ln_vs b16_two hf (.inr (by simpa using h.2))
 refine ⟨?_, by rw [toI_abs, hln], ?_⟩
 ·
  rw [toI_neg]
  unfold okW at h
  by_cases h0 : n = 0
  ·
   subst h0
   rw [if_pos rfl] at h
   rw [vs_zero]
   revert h; cases s <;> simp
  ·
   have : 0 < vs b16 f n := (ln_pos b16_two).1 (by omega)
   rw [decide_eq_true this, Bool.and_true]
 ·
  rw [toI_abs]
  exact Num16.of_rd hr hf
/-- A valid fraction is a rational number. -/
theorem okF_fv {w : World} {s t : Bool} {A B : Option Addr} {n m : Nat} {f g : Nat → Nat} (hr : FRd w A n f B m g) (h : okF s n f t m g = true) : ∃ q : Rat, FV w q s A n t B m ∧ n ≤ 256 ∧ m ≤ 256 ∧ fl q ≤ 256 := by
 unfold okF at h
 simp only [Bool.and_eq_true, Bool.not_eq_true', Bool.or_eq_false_iff, decide_eq_false_iff_not, beq_iff_eq] at h
 obtain ⟨⟨h1, h2⟩, h3, h4, h5, h6, h7⟩ := h
 subst h5
 have w1 := okW_wv hr.1 hr.2.2.1 h3
 have w2 := okW_wv hr.2.1 hr.2.2.2 h4
 have hd : 0 < vs b16 g m := by
  have := w2.len
  rw [toI_abs] at this
  exact (ln_pos b16_two).1 (by omega)
 have hm := mk_low (n := toI s (vs b16 f n)) (d := vs b16 g m) hd (by rw [toI_abs]; exact h7)
 refine ⟨Rat.divInt (toI s (vs b16 f n)) (vs b16 g m), ⟨by rw [hm.1]; exact w1, by rw [hm.2]; exact w2⟩, by omega, by omega, ?_⟩
 rw [fl_le, hm.1, hm.2]
 have l1 := w1.len
 have l2 := w2.len
 rw [toI_abs] at l1 l2
 rw [toI_abs]
 omega

set_option maxRecDepth 100000 in
theorem flong_any (s t : Bool) (A B : Option Addr) (n m c d : Nat) (w : World) :
  Calls Tryz.prog 91 #[.agg #[.bool s, .slice A n c, .bool t, .slice B m d]] w fun e w' => e = .returned (.bool (decide (256 < n) || decide (256 < m))) ∧ Below w.heap.size w w' := by
 have hbl : Below w.heap.size w (w.alloc (.cells #[.bool s, .slice A n c, .bool t, .slice B m d] 85)) := (Below.refl _ _).alloc (Nat.le_refl _) _
 by_cases h1 : 256 < n
 ·
  have HE := Lib.hid (decide_eq_true h1)
  have t1 : decide ((256 : Int) < (n : Int)) = true := decide_eq_true (by omega)
  clear h1
  go_enter Tryz.func91, Tryz.ntmps91
  go_wp2_with fail
  go_ret
  exact ⟨ret_bool (by rw [HE.out]; rfl), hbl⟩
 ·
  have HE := Lib.hid (decide_eq_false h1)
  have t1 : decide ((256 : Int) < (n : Int)) = false := decide_eq_false (by omega)
  clear h1
  by_cases h2 : 256 < m
  ·
   have HE2 := Lib.hid (decide_eq_true h2)
   have t2 : decide ((256 : Int) < (m : Int)) = true := decide_eq_true (by omega)
   clear h2
   go_enter Tryz.func91, Tryz.ntmps91
   go_wp2_with fail
   go_ret
   exact ⟨ret_bool (by rw [HE.out, HE2.out]; rfl), hbl⟩
  ·
   have HE2 := Lib.hid (decide_eq_false h2)
   have t2 : decide ((256 : Int) < (m : Int)) = false := decide_eq_false (by omega)
   clear h2
   go_enter Tryz.func91, Tryz.ntmps91
   go_wp2_with fail
   go_ret
   exact ⟨ret_bool (by rw [HE.out, HE2.out]; rfl), hbl⟩
set_option maxRecDepth 100000 in
theorem fintegral_v {s t : Bool} {A B : Option Addr} {n m c d : Nat} {z : Int} {w : World} (hB : WV w z t B m) (hm : m ≤ 1000000) :
  Calls Tryz.prog 77 #[.agg #[.bool s, .slice A n c, .bool t, .slice B m d]] w fun e w' => e = .returned (.bool (decide (z = 1))) ∧ Below w.heap.size w w' := by
 have hbl : Below w.heap.size w (w.alloc (.cells #[.bool s, .slice A n c, .bool t, .slice B m d] 85)) := (Below.refl _ _).alloc (Nat.le_refl _) _
 have HC := Lib.hid (isOne_v (c := d) (hB.below hbl) hm)
 clear hB
 go_enter Tryz.func77, Tryz.ntmps77
 go_wp2_with fail
 refine HC.out.mono ?_
 rintro e w1 ⟨rfl, hb⟩
 obtain ⟨y, hy⟩ : ∃ y, y = decide (z = 1) := ⟨_, rfl⟩
 rw [← hy]
 have HY := Lib.hid hy
 clear hy HC
 go_wp2_with fail
 go_ret
 exact ⟨ret_bool HY.out, hbl.trans (hb.mono hbl.size)⟩
theorem whole_valid_any (s : Bool) (A : Option Addr) (n c : Nat) (f : Nat → Nat) (w : World) (h : Rd w.heap.size .u16 w A n f) (hf : ∀ i, i < n → f i < 65536) (hn : n ≤ 1000000) (r : Bool) (hr : okW s n f = r) :
  Calls Tryz.prog 55 #[.agg #[.bool s, .slice A n c]] w fun e w' => e = .returned (.bool r) ∧ Below w.heap.size w w' := by
 subst hr
 exact valid_any s A n c f w h hf hn
theorem flong_r (s t : Bool) (A B : Option Addr) (n m c d : Nat) (w : World) (r : Bool) (hr : (decide (256 < n) || decide (256 < m)) = r) :
  Calls Tryz.prog 91 #[.agg #[.bool s, .slice A n c, .bool t, .slice B m d]] w fun e w' => e = .returned (.bool r) ∧ Below w.heap.size w w' := by
 subst hr
 exact flong_any s t A B n m c d w
theorem gcd_toI (s t : Bool) (x y : Nat) : Nat.gcd (toI s x).natAbs (toI t y).natAbs = Nat.gcd x y := by rw [toI_abs, toI_abs]
set_option linter.unusedSimpArgs false in
set_option maxRecDepth 100000 in
set_option maxHeartbeats 4000000 in
theorem ftvalid_any (s t : Bool) (A B : Option Addr) (n m c d : Nat) (f g : Nat → Nat) (w : World) (hr : FRd w A n f B m g) (hn : n ≤ 1000000) (hm : m ≤ 1000000) :
  Calls Tryz.prog 67 #[.agg #[.bool s, .slice A n c, .bool t, .slice B m d]] w fun e w' => e = .returned (.bool (okF s n f t m g)) ∧ Below w.heap.size w w' := by
 have hE := (Env.start w).blk 85 #[.bool s, .slice A n c, .bool t, .slice B m d] (g := w.heap.size) rfl
 obtain ⟨W0, hW0⟩ : ∃ W0, W0 = w.alloc (.cells #[.bool s, .slice A n c, .bool t, .slice B m d] 85) := ⟨_, rfl⟩
 rw [← hW0] at hE
 have HW0 := Lib.hid hW0
 clear hW0
 obtain ⟨r, hres⟩ : ∃ r, r = okF s n f t m g := ⟨_, rfl⟩
 rw [← hres]
 unfold okF at hres
 obtain ⟨L, hL⟩ : ∃ L, (decide (256 < n) || decide (256 < m)) = L := ⟨_, rfl⟩
 obtain ⟨v1, hv1⟩ : ∃ v1, okW s n f = v1 := ⟨_, rfl⟩
 obtain ⟨v2, hv2⟩ : ∃ v2, okW t m g = v2 := ⟨_, rfl⟩
 rw [hL, hv1, hv2] at hres
 have HL := Lib.hid hL
 have HV1 := Lib.hid hv1
 have HV2 := Lib.hid hv2
 clear hL hv1 hv2
 cases L with
 | true =>
  obtain rfl : r = false := by rw [hres]; rfl
  clear hres
  go_enter Tryz.func67, Tryz.ntmps67
  go_upto_region 1 with (fail)
  rw [← HW0.out]
  obtain ⟨k1, k2, k3, k4⟩ := hE.here.2.c4
  go_wp2_with fail
  refine (flong_r s t A B n m c d _ _ HL.out).mono ?_
  rintro e w1 ⟨rfl, hb⟩
  clear k1 k2 k3 k4
  go_wp2_with fail
  go_ret
  exact ⟨rfl, (hE.step hb).bel⟩
 | false =>
  have hlen : n ≤ 256 ∧ m ≤ 256 := by have := HL.out; simp only [Bool.or_eq_false_iff, decide_eq_false_iff_not] at this; omega
  cases v1 with
  | false =>
   obtain rfl : r = false := by rw [hres]; rfl
   clear hres
   go_enter Tryz.func67, Tryz.ntmps67
   go_upto_region 1 with (fail)
   rw [← HW0.out]
   obtain ⟨k1, k2, k3, k4⟩ := hE.here.2.c4
   go_wp2_with fail
   refine (flong_r s t A B n m c d _ _ HL.out).mono ?_
   rintro e w1 ⟨rfl, hb⟩
   clear k1 k2 k3 k4
   replace hE := hE.step hb
   clear hb
   obtain ⟨k1, k2, k3, k4⟩ := hE.here.2.c4
   go_wp2_with fail
   refine (whole_valid_any s A n c f _ (hr.below hE.bel).1 hr.2.2.1 hn _ HV1.out).mono ?_
   rintro e w2 ⟨rfl, hb⟩
   clear k1 k2 k3 k4
   go_wp2_with fail
   go_ret
   exact ⟨rfl, (hE.step hb).bel⟩
  | true =>
   cases v2 with
   | false =>
    obtain rfl : r = false := by rw [hres]; rfl
    clear hres
    go_enter Tryz.func67, Tryz.ntmps67
    go_upto_region 1 with (fail)
    rw [← HW0.out]
    obtain ⟨k1, k2, k3, k4⟩ := hE.here.2.c4
    go_wp2_with fail
    refine (flong_r s t A B n m c d _ _ HL.out).mono ?_
    rintro e w1 ⟨rfl, hb⟩
    clear k1 k2 k3 k4
    replace hE := hE.step hb
    clear hb
    obtain ⟨k1, k2, k3, k4⟩ := hE.here.2.c4
    go_wp2_with fail
    refine (whole_valid_any s A n c f _ (hr.below hE.bel).1 hr.2.2.1 hn _ HV1.out).mono ?_
    rintro e w2 ⟨rfl, hb⟩
    clear k1 k2 k3 k4
    replace hE := hE.step hb
    clear hb
    obtain ⟨k1, k2, k3, k4⟩ := hE.here.2.c4
    go_wp2_with fail
    refine (whole_valid_any t B m d g _ (hr.below hE.bel).2.1 hr.2.2.2 hm _ HV2.out).mono ?_
    rintro e w3 ⟨rfl, hb⟩
    clear k1 k2 k3 k4
    go_wp2_with fail
    go_ret
    exact ⟨rfl, (hE.step hb).bel⟩
   | true =>
    have w1 := okW_wv hr.1 hr.2.2.1 HV1.out
    have w2 := okW_wv hr.2.1 hr.2.2.2 HV2.out
    obtain ⟨x, hx⟩ : ∃ x, toI s (vs b16 f n) = x := ⟨_, rfl⟩
    obtain ⟨y, hy⟩ : ∃ y, toI t (vs b16 g m) = y := ⟨_, rfl⟩
    have hgc := gcd_toI s t (vs b16 f n) (vs b16 g m)
    rw [hx, hy] at hgc
    rw [hx] at w1
    rw [hy] at w2
    rw [← hgc] at hres
    have hyy : y = 1 → Nat.gcd x.natAbs y.natAbs = 1 := fun e => by rw [e]; exact Nat.gcd_one_right _
    clear hx hy hgc
    cases t with
    | true =>
     obtain rfl : r = false := by rw [hres]; rfl
     clear hres
     go_enter Tryz.func67, Tryz.ntmps67
     go_upto_region 1 with (fail)
     rw [← HW0.out]
     obtain ⟨k1, k2, k3, k4⟩ := hE.here.2.c4
     go_wp2_with fail
     refine (flong_r s _ A B n _ c d _ _ HL.out).mono ?_
     rintro e w1' ⟨rfl, hb⟩
     clear k1 k2 k3 k4
     replace hE := hE.step hb
     clear hb
     obtain ⟨k1, k2, k3, k4⟩ := hE.here.2.c4
     go_wp2_with fail
     refine (whole_valid_any s A n c f _ (hr.below hE.bel).1 hr.2.2.1 hn _ HV1.out).mono ?_
     rintro e w2' ⟨rfl, hb⟩
     clear k1 k2 k3 k4
     replace hE := hE.step hb
     clear hb
     obtain ⟨k1, k2, k3, k4⟩ := hE.here.2.c4
     go_wp2_with fail
     refine (whole_valid_any _ B _ d g _ (hr.below hE.bel).2.1 hr.2.2.2 hm _ HV2.out).mono ?_
     rintro e w3 ⟨rfl, hb⟩
     clear k1 k2 k3 k4
     replace hE := hE.step hb
     clear hb
     obtain ⟨k1, k2, k3, k4⟩ := hE.here.2.c4
     go_wp2_with fail
     go_ret
     exact ⟨rfl, hE.bel⟩
    | false =>
     by_cases hm0 : m = 0
     ·
      obtain rfl : r = false := by rw [hres, decide_eq_true hm0]; rfl
      subst hm0
      clear hres
      go_enter Tryz.func67, Tryz.ntmps67
      go_upto_region 1 with (fail)
      rw [← HW0.out]
      obtain ⟨k1, k2, k3, k4⟩ := hE.here.2.c4
      go_wp2_with fail
      refine (flong_r s _ A B n _ c d _ _ HL.out).mono ?_
      rintro e w1' ⟨rfl, hb⟩
      clear k1 k2 k3 k4
      replace hE := hE.step hb
      clear hb
      obtain ⟨k1, k2, k3, k4⟩ := hE.here.2.c4
      go_wp2_with fail
      refine (whole_valid_any s A n c f _ (hr.below hE.bel).1 hr.2.2.1 hn _ HV1.out).mono ?_
      rintro e w2' ⟨rfl, hb⟩
      clear k1 k2 k3 k4
      replace hE := hE.step hb
      clear hb
      obtain ⟨k1, k2, k3, k4⟩ := hE.here.2.c4
      go_wp2_with fail
      refine (whole_valid_any _ B _ d g _ (hr.below hE.bel).2.1 hr.2.2.2 hm _ HV2.out).mono ?_
      rintro e w3 ⟨rfl, hb⟩
      clear k1 k2 k3 k4
      replace hE := hE.step hb
      clear hb
      obtain ⟨k1, k2, k3, k4⟩ := hE.here.2.c4
      go_wp2_with fail
      go_ret
      exact ⟨rfl, hE.bel⟩
     ·
      have t1 : ((m : Int) == 0) = false := beq_eq_false_iff_ne.2 (by omega)
      have hres2 : r = (Nat.gcd x.natAbs y.natAbs == 1) := by rw [hres, decide_eq_false hm0]; rfl
      clear hres
      have HR := Lib.hid hres2
      clear hres2
      go_enter Tryz.func67, Tryz.ntmps67
      go_upto_region 1 with (fail)
      rw [← HW0.out]
      obtain ⟨k1, k2, k3, k4⟩ := hE.here.2.c4
      go_wp2_with fail
      refine (flong_r s _ A B n _ c d _ _ HL.out).mono ?_
      rintro e w1' ⟨rfl, hb⟩
      clear k1 k2 k3 k4
      replace hE := hE.step hb
      clear hb
      obtain ⟨k1, k2, k3, k4⟩ := hE.here.2.c4
      go_wp2_with fail
      refine (whole_valid_any s A n c f _ (hr.below hE.bel).1 hr.2.2.1 hn _ HV1.out).mono ?_
      rintro e w2' ⟨rfl, hb⟩
      clear k1 k2 k3 k4
      replace hE := hE.step hb
      clear hb
      obtain ⟨k1, k2, k3, k4⟩ := hE.here.2.c4
      go_wp2_with fail
      refine (whole_valid_any _ B _ d g _ (hr.below hE.bel).2.1 hr.2.2.2 hm _ HV2.out).mono ?_
      rintro e w3 ⟨rfl, hb⟩
      clear k1 k2 k3 k4
      replace hE := hE.step hb
      clear hb
      obtain ⟨k1, k2, k3, k4⟩ := hE.here.2.c4
      go_wp2_with fail
      refine (fintegral_v (w := w3) (w2.below hE.bel) hm).mono ?_
      clear k1 k2 k3 k4
      rintro e w4 ⟨rfl, hb⟩
      replace hE := hE.step hb
      clear hb t1
      by_cases hy1 : y = 1
      ·
       have hg := hyy hy1
       rw [decide_eq_true hy1]
       have hr1 : r = true := by rw [HR.out, hg]; rfl
       clear hg hy1 hyy
       have HR1 := Lib.hid hr1
       clear hr1
       go_wp2_with fail
       go_ret
       exact ⟨ret_bool HR1.out.symm, hE.bel⟩
      ·
       rw [decide_eq_false hy1]
       clear hyy hy1
       obtain ⟨k1, k2, k3, k4⟩ := hE.here.2.c4
       go_wp2_with fail
       refine (fdivisor_v (ca := c) (cb := d) (w1.below hE.bel) (w2.below hE.bel) (by omega) (by omega)).mono ?_
       clear k1 k2 k3 k4
       rintro e w5 ⟨sg, Ag, ng, cg, rfl, hg, hb⟩
       replace hE := hE.step hb
       clear hb
       have hgl : ng ≤ 1024 := by
        rw [hg.len, Int.natAbs_natCast]
        refine ln_gcd _ _ _ ?_ ?_
        · rw [← w1.len]; omega
        · rw [← w2.len]; omega
       go_wp2_with fail
       refine (isOne_v (c := cg) hg (by omega)).mono ?_
       rintro e w6 ⟨rfl, hb⟩
       have hq : decide (((Nat.gcd x.natAbs y.natAbs : Nat) : Int) = 1) = r := by rw [HR.out, Bool.eq_iff_iff, decide_eq_true_iff, beq_iff_eq]; omega
       rw [hq]
       clear hq
       go_wp2_with fail
       go_ret
       exact ⟨rfl, (hE.step hb).bel⟩
end Go.Proofs.YtjgihmmeimfheaaGreat
namespace Go.Proofs.YtjgihmmeimfheaaGreat
open Go.RowKit

theorem ftvalid_r (s t : Bool) (A B : Option Addr) (n m c d : Nat) (f g : Nat → Nat) (w : World) (hr : FRd w A n f B m g) (hn : n ≤ 1000000) (hm : m ≤ 1000000) (r : Bool) (h : okF s n f t m g = r) :
  Calls Tryz.prog 67 #[.agg #[.bool s, .slice A n c, .bool t, .slice B m d]] w fun e w' => e = .returned (.bool r) ∧ Below w.heap.size w w' := by
 subst h
 exact ftvalid_any s t A B n m c d f g w hr hn hm
set_option maxRecDepth 100000 in
theorem fvalid_r (s t : Bool) (A B : Option Addr) (n m c d : Nat) (f g : Nat → Nat) (w : World) (hr : FRd w A n f B m g) (hn : n ≤ 1000000) (hm : m ≤ 1000000) (r : Bool) (h : okF s n f t m g = r) :
  Calls Tryz.prog 32 #[.agg #[.bool s, .slice A n c, .bool t, .slice B m d]] w fun e w' => e = .returned (.bool r) ∧ Below w.heap.size w w' := by
 have hbl : Below w.heap.size w (w.alloc (.cells #[.bool s, .slice A n c, .bool t, .slice B m d] 29)) := (Below.refl _ _).alloc (Nat.le_refl _) _
 have HC := Lib.hid (ftvalid_r s t A B n m c d f g _ (hr.below hbl) hn hm r h)
 clear h hr
 go_enter Tryz.func32, Tryz.ntmps32
 go_wp2_with fail
 refine HC.out.mono ?_
 rintro e w1 ⟨rfl, hb⟩
 clear HC
 go_wp2_with fail
 go_ret
 exact ⟨rfl, hbl.trans (hb.mono hbl.size)⟩
set_option maxRecDepth 100000 in
theorem fvalid1_r (s t : Bool) (A B : Option Addr) (n m c d : Nat) (f g : Nat → Nat) (w : World) (hr : FRd w A n f B m g) (hn : n ≤ 1000000) (hm : m ≤ 1000000) (r : Bool) (h : okF s n f t m g = r) :
  Calls Tryz.prog 84 #[.agg #[.bool s, .slice A n c, .bool t, .slice B m d]] w fun e w' => e = .returned (.bool (!r)) ∧ Below w.heap.size w w' := by
 have hbl : Below w.heap.size w (w.alloc (.cells #[.bool s, .slice A n c, .bool t, .slice B m d] 29)) := (Below.refl _ _).alloc (Nat.le_refl _) _
 have HC := Lib.hid (fvalid_r s t A B n m c d f g _ (hr.below hbl) hn hm r h)
 clear h hr
 go_enter Tryz.func84, Tryz.ntmps84
 go_wp2_with fail
 refine HC.out.mono ?_
 rintro e w1 ⟨rfl, hb⟩
 clear HC
 go_wp2_with fail
 go_ret
 exact ⟨rfl, hbl.trans (hb.mono hbl.size)⟩
theorem Blk.c8 {t : TypeId} {g : Nat} {w : World} {a b c d e f x y : Value} (h : Blk t g #[a, b, c, d, e, f, x, y] w) :
  (w.cell? ⟨g, 0, none⟩ = some a ∧ w.cell? ⟨g, 1, none⟩ = some b ∧ w.cell? ⟨g, 2, none⟩ = some c ∧ w.cell? ⟨g, 3, none⟩ = some d) ∧ w.cell? ⟨g, 4, none⟩ = some e ∧ w.cell? ⟨g, 5, none⟩ = some f ∧ w.cell? ⟨g, 6, none⟩ = some x ∧ w.cell? ⟨g, 7, none⟩ = some y :=
 ⟨⟨h.cell 0, h.cell 1, h.cell 2, h.cell 3⟩, h.cell 4, h.cell 5, h.cell 6, h.cell 7⟩
/-- Which of two fractions is the first invalid one. -/
def firstBad (r1 r2 : Bool) : Int := if r1 then (if r2 then -1 else 1) else 0
set_option linter.unusedSimpArgs false in
set_option maxRecDepth 100000 in
set_option maxHeartbeats 2000000 in
theorem findex_two (S : Nat) (s t s2 t2 : Bool) (A B A2 B2 : Option Addr) (n m c d n2 m2 c2 d2 : Nat) (f g f2 g2 : Nat → Nat) (w : World) (hS : Blk 29 S #[.bool s, .slice A n c, .bool t, .slice B m d, .bool s2, .slice A2 n2 c2, .bool t2, .slice B2 m2 d2] w)
  (hr : FRd w A n f B m g) (hr2 : FRd w A2 n2 f2 B2 m2 g2) (hn : n ≤ 1000000) (hm : m ≤ 1000000) (hn2 : n2 ≤ 1000000) (hm2 : m2 ≤ 1000000) (r1 r2 : Bool) (h1 : okF s n f t m g = r1) (h2 : okF s2 n2 f2 t2 m2 g2 = r2) :
  Calls Tryz.prog 120 #[.slice (some ⟨S, 0, none⟩) 2 2, .func (.func 84) #[] #[]] w fun e w' => e = .returned (.int .i64 (firstBad r1 r2)) ∧ Below w.heap.size w w' := by
 have hE := (Env.start w).blkI hS
 have H1 := Lib.hid h1
 have H2 := Lib.hid h2
 clear h1 h2
 go_enter Tryz.func120, Tryz.ntmps120
 go_wp2_with fail
 go_loopw [8] (fun i wr => ∃ k : Nat, k ≤ 2 ∧ i = .int .i64 (k : Int) ∧ Hid ((0 < k → r1 = true) ∧ (1 < k → r2 = true)) ∧ Env w (fun V => True ∧ Blk 29 S #[.bool s, .slice A n c, .bool t, .slice B m d, .bool s2, .slice A2 n2 c2, .bool t2, .slice B2 m2 d2] V) wr) (fun i _ => 2 - (intOf i).toNat)
 case atStart => exact ⟨0, by omega, rfl, Lib.hid ⟨fun h => absurd h (by omega), fun h => absurd h (by omega)⟩, hE⟩
 case round =>
  obtain ⟨k, hk, rfl, HK, hE⟩ := hrel
  rcases (show k = 0 ∨ k = 1 ∨ k = 2 by omega) with rfl | rfl | rfl
  ·
   obtain ⟨⟨k1, k2, k3, k4⟩, -⟩ := hE.here.2.c8
   cases r1 with
   | true =>
    go_wp2_with fail
    refine (fvalid1_r s t A B n m c d f g _ (hr.below hE.bel) hn hm _ H1.out).mono ?_
    rintro e w1 ⟨rfl, hb⟩
    clear k1 k2 k3 k4
    go_wp2_with fail
    go_roundw
    case rel => exact ⟨1, by omega, rfl, Lib.hid ⟨fun _ => (by first | rfl | trivial), fun h => absurd h (by omega)⟩, hE.step hb⟩
    case measure => simp [intOf]
   | false =>
    go_wp2_with fail
    refine (fvalid1_r s t A B n m c d f g _ (hr.below hE.bel) hn hm _ H1.out).mono ?_
    rintro e w1 ⟨rfl, hb⟩
    clear k1 k2 k3 k4
    go_wp2_with fail
    go_ret
    exact ⟨rfl, (hE.step hb).bel⟩
  ·
   obtain ⟨-, k1, k2, k3, k4⟩ := hE.here.2.c8
   have hr1 := HK.out.1 (by omega)
   cases r2 with
   | true =>
    go_wp2_with fail
    refine (fvalid1_r s2 t2 A2 B2 n2 m2 c2 d2 f2 g2 _ (hr2.below hE.bel) hn2 hm2 _ H2.out).mono ?_
    rintro e w1 ⟨rfl, hb⟩
    clear k1 k2 k3 k4
    go_wp2_with fail
    go_roundw
    case rel => exact ⟨2, by omega, rfl, Lib.hid ⟨fun _ => hr1, fun _ => (by first | rfl | trivial)⟩, hE.step hb⟩
    case measure => simp [intOf]
   | false =>
    go_wp2_with fail
    refine (fvalid1_r s2 t2 A2 B2 n2 m2 c2 d2 f2 g2 _ (hr2.below hE.bel) hn2 hm2 _ H2.out).mono ?_
    rintro e w1 ⟨rfl, hb⟩
    clear k1 k2 k3 k4
    go_wp2_with fail
    go_ret
    exact ⟨by rw [hr1]; rfl, (hE.step hb).bel⟩
  ·
   have hr1 := HK.out.1 (by omega)
   have hr2' := HK.out.2 (by omega)
   have HR := Lib.hid hr1
   have HR2 := Lib.hid hr2'
   clear hr1 hr2'
   go_wp2_with fail
   go_ret
   exact ⟨by rw [HR.out, HR2.out]; rfl, hE.bel⟩
theorem firstBad_ge (r1 r2 : Bool) : decide ((0 : Int) ≤ firstBad r1 r2) = !(r1 && r2) := by cases r1 <;> cases r2 <;> rfl
section
variable (S : Nat) (s t s2 t2 : Bool) (A B A2 B2 : Option Addr) (n m c d n2 m2 c2 d2 : Nat) (f g f2 g2 : Nat → Nat) (w : World) (hS : Blk 29 S #[.bool s, .slice A n c, .bool t, .slice B m d, .bool s2, .slice A2 n2 c2, .bool t2, .slice B2 m2 d2] w)
  (hr : FRd w A n f B m g) (hr2 : FRd w A2 n2 f2 B2 m2 g2) (hn : n ≤ 1000000) (hm : m ≤ 1000000) (hn2 : n2 ≤ 1000000) (hm2 : m2 ≤ 1000000) (r1 r2 : Bool) (h1 : okF s n f t m g = r1) (h2 : okF s2 n2 f2 t2 m2 g2 = r2)
include hS hr hr2 hn hm hn2 hm2 h1 h2
set_option maxRecDepth 100000 in
theorem fcontains_two :
  Calls Tryz.prog 83 #[.slice (some ⟨S, 0, none⟩) 2 2, .func (.func 84) #[] #[]] w fun e w' => e = .returned (.bool (!(r1 && r2))) ∧ Below w.heap.size w w' := by
 have HC := Lib.hid (findex_two S s t s2 t2 A B A2 B2 n m c d n2 m2 c2 d2 f g f2 g2 w hS hr hr2 hn hm hn2 hm2 r1 r2 h1 h2)
 have hf := firstBad_ge r1 r2
 obtain ⟨v, hv⟩ : ∃ v, v = firstBad r1 r2 := ⟨_, rfl⟩
 rw [← hv] at hf HC
 have HF := Lib.hid hf
 clear hf hv h1 h2
 go_enter Tryz.func83, Tryz.ntmps83
 go_wp2_with fail
 refine HC.out.mono ?_
 rintro e w1 ⟨rfl, hb⟩
 clear HC
 go_wp2_with fail
 go_ret
 exact ⟨ret_bool HF.out, hb⟩
set_option maxRecDepth 100000 in
theorem fallValid_two :
  Calls Tryz.prog 46 #[.slice (some ⟨S, 0, none⟩) 2 2] w fun e w' => e = .returned (.bool (r1 && r2)) ∧ Below w.heap.size w w' := by
 have HC := Lib.hid (fcontains_two S s t s2 t2 A B A2 B2 n m c d n2 m2 c2 d2 f g f2 g2 w hS hr hr2 hn hm hn2 hm2 r1 r2 h1 h2)
 clear h1 h2
 obtain ⟨v, hv⟩ : ∃ v, v = (r1 && r2) := ⟨_, rfl⟩
 rw [← hv] at HC
 have HV := Lib.hid hv
 clear hv
 go_enter Tryz.func46, Tryz.ntmps46
 go_wp2_with fail
 refine HC.out.mono ?_
 rintro e w1 ⟨rfl, hb⟩
 clear HC
 go_wp2_with fail
 go_ret
 exact ⟨ret_bool HV.out, hb⟩
end
/-- Two valid fractions in the slice that was just made. -/
theorem fallValid_v {p q : Rat} {s t s2 t2 : Bool} {A B A2 B2 : Option Addr} {n m c d n2 m2 c2 d2 : Nat} {W : World} (h1 : FV W p s A n t B m) (h2 : FV W q s2 A2 n2 t2 B2 m2) (l1 : fl p ≤ 256) (l2 : fl q ≤ 256) :
  Calls Tryz.prog 46 #[.slice (some ⟨W.heap.size, 0, none⟩) 2 2] (W.alloc (.cells #[.bool s, .slice A n c, .bool t, .slice B m d, .bool s2, .slice A2 n2 c2, .bool t2, .slice B2 m2 d2] 29)) fun e w' => e = .returned (.bool true) ∧ Below W.heap.size W w' := by
 have hb := (Below.refl W.heap.size W).alloc (Nat.le_refl _) (.cells #[.bool s, .slice A n c, .bool t, .slice B m d, .bool s2, .slice A2 n2 c2, .bool t2, .slice B2 m2 d2] 29)
 have e1 := h1.ln l1
 have e2 := h2.ln l2
 have h := fallValid_two W.heap.size s t s2 t2 A B A2 B2 n m c d n2 m2 c2 d2 _ _ _ _ _ (Blk.new W _ _) (h1.below hb).rd (h2.below hb).rd (by omega) (by omega) (by omega) (by omega) true true (okF_of h1 l1) (okF_of h2 l2)
 exact h.mono fun e w' ⟨he, hb'⟩ => ⟨he, hb.trans (hb'.mono hb.size)⟩
end Go.Proofs.YtjgihmmeimfheaaGreat
