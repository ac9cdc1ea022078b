/-
  The walks of the reference's Fits, told and Valid of fractions.
-/
import Derived.Test.YtifikcemcflgjaaGreatGB
import Derived.Test.YtifikcemcflgjaaGreatRFrac
namespace Go.Proofs.YtifikcemcflgjaaGreat
open Go.RowKit

set_option linter.unusedSimpArgs false in
set_option maxRecDepth 100000 in
set_option maxHeartbeats 2000000 in
theorem rffits_any {sa ta : Bool} {Aa Ba : Option Addr} {na ca ma da : Nat} {w : World} :
    Calls Tryz.prog 23 #[.agg #[.bool sa, .slice Aa na ca, .bool ta, .slice Ba ma da]] w (fun e w' => e = .returned (.bool (decide (na ≤ 256) && decide (ma ≤ 256))) ∧ Below w.heap.size w w') := by
  have hE := (Env.start w).blk 26 #[.bool sa, .slice Aa na ca, .bool ta, .slice Ba ma da] (g := w.heap.size) rfl
  obtain ⟨W0, hW0⟩ : ∃ W0, W0 = (w.alloc (.cells #[.bool sa, .slice Aa na ca, .bool ta, .slice Ba ma da] 26)) := ⟨_, rfl⟩
  rw [← hW0] at hE
  have HW0 := Lib.hid hW0
  clear hW0
  go_enter Tryz.func23, Tryz.ntmps23
  go_upto_region 1 with (fail)
  rw [← HW0.out]
  by_cases h1 : na ≤ 256
  · skip
    have una : decide ((na : Int) ≤ 256) = true := decide_eq_true (by omega)
    have xna : decide (na ≤ 256) = true := decide_eq_true (by omega)
    by_cases h2 : ma ≤ 256
    · skip
      have uma : decide ((ma : Int) ≤ 256) = true := decide_eq_true (by omega)
      have xma : decide (ma ≤ 256) = true := decide_eq_true (by omega)
      obtain ⟨k1, k2, k3, k4⟩ := (hE.here.2).c4
      go_wp2_with fail
      go_ret
      exact ⟨by rw [xna, xma]; rfl, hE.bel⟩
    · skip
      have uma : decide ((ma : Int) ≤ 256) = false := decide_eq_false (by omega)
      have xma : decide (ma ≤ 256) = false := decide_eq_false (by omega)
      obtain ⟨k5, k6, k7, k8⟩ := (hE.here.2).c4
      go_wp2_with fail
      go_ret
      exact ⟨by rw [xna, xma]; rfl, hE.bel⟩
  · skip
    have una : decide ((na : Int) ≤ 256) = false := decide_eq_false (by omega)
    have xna : decide (na ≤ 256) = false := decide_eq_false (by omega)
    obtain ⟨k9, k10, k11, k12⟩ := (hE.here.2).c4
    go_wp2_with fail
    go_ret
    exact ⟨by rw [xna]; rfl, hE.bel⟩
theorem fits_of {w : World} {q : Rat} {s t : Bool} {A B : Option Addr} {n m : Nat} (h : FV w q s A n t B m) (r : Bool) (hq : decide (fl q ≤ 256) = r) : (decide (n ≤ 256) && decide (m ≤ 256)) = r := by
  have h1 := h.1.len
  have h2 := h.2.len
  rw [Int.natAbs_natCast] at h2
  rw [← hq]
  by_cases h3 : fl q ≤ 256
  · obtain ⟨e1, e2⟩ := fl_le.1 h3
    rw [decide_eq_true h3, decide_eq_true (by omega), decide_eq_true (by omega)]; rfl
  · rw [decide_eq_false h3]
    rw [fl_le] at h3
    by_cases h4 : n ≤ 256
    · rw [decide_eq_false (show ¬ m ≤ 256 by omega), Bool.and_false]
    · rw [decide_eq_false h4]; rfl
theorem rffits_v {q : Rat} {s t : Bool} {A B : Option Addr} {n m c d : Nat} {w : World} (h : FV w q s A n t B m) (r : Bool) (hq : decide (fl q ≤ 256) = r) :
    Calls Tryz.prog 23 #[.agg #[.bool s, .slice A n c, .bool t, .slice B m d]] w fun e w' => e = .returned (.bool r) ∧ Below w.heap.size w w' := by
  have hc := rffits_any (sa := s) (ta := t) (Aa := A) (Ba := B) (na := n) (ca := c) (ma := m) (da := d) (w := w)
  rwa [fits_of h r hq] at hc
set_option linter.unusedSimpArgs false in
set_option maxRecDepth 100000 in
set_option maxHeartbeats 2000000 in
theorem told_ok {a : Rat} {sa ta : Bool} {Aa Ba : Option Addr} {na ca ma da : Nat} {w : World} (ha : FV w a sa Aa na ta Ba ma) (la : fl a ≤ 256) :
    Calls Tryz.prog 67 #[.agg #[.bool sa, .slice Aa na ca, .bool ta, .slice Ba ma da]] w (FOK a w) := by
  have hE := ((Env.start w).fv ha).blk 26 #[.bool sa, .slice Aa na ca, .bool ta, .slice Ba ma da] (g := w.heap.size) rfl
  have hE := hE.blk 26 #[.bool false, .slice none 0 0, .bool false, .slice none 0 0] (g := w.heap.size + 1) (by simp)
  obtain ⟨W0, hW0⟩ : ∃ W0, W0 = ((w.alloc (.cells #[.bool sa, .slice Aa na ca, .bool ta, .slice Ba ma da] 26)).alloc (.cells #[.bool false, .slice none 0 0, .bool false, .slice none 0 0] 26)) := ⟨_, rfl⟩
  rw [← hW0] at hE
  have HW0 := Lib.hid hW0
  clear hW0
  go_enter Tryz.func67, Tryz.ntmps67
  go_upto_region 1 with (fail)
  rw [← HW0.out]
  obtain ⟨k1, k2, k3, k4⟩ := (hE.here.1.2).c4
  go_wp2_with fail
  have hc := rffits_v (c := ca) (d := da) hE.here.1.1.2 true (decide_eq_true la)
  refine hc.mono ?_
  clear hc
  clear k1 k2 k3 k4
  rintro e w5 ⟨rfl, hb⟩
  replace hE := hE.step hb
  clear hb
  obtain ⟨k6, k7, k8, k9⟩ := (hE.here.1.2).c4
  have hRl : w.heap.size ≤ w.heap.size + 1 := by omega
  obtain ⟨WW, hWW, hB, hV, hBel⟩ := ret_frac hE hE.here.2 hRl hE.here.1.1.2 ca da
  obtain ⟨x0, x1, x2, x3⟩ := (hE.here.2).c4
  obtain ⟨fz0, fz1, fz2, fz3⟩ := hE.here.2.f4
  have HWW := Lib.hid hWW
  clear hWW
  go_wp2_with fail
  clear x0 x1 x2 x3
  rw [← HWW.out]
  obtain ⟨y0, y1, y2, y3⟩ := hB.c4
  refine bodyPost_ret (v := .tuple #[.agg #[.bool sa, .slice Aa na ca, .bool ta, .slice Ba ma da], .int .i64 0]) (by simp [results, Tryz.results67, go_sem, y0, y1, y2, y3]) rfl ?_
  exact ⟨sa, Aa, na, ca, ta, Ba, ma, da, rfl, hV, hBel⟩
set_option linter.unusedSimpArgs false in
set_option maxRecDepth 100000 in
set_option maxHeartbeats 2000000 in
theorem told_long {a : Rat} {sa ta : Bool} {Aa Ba : Option Addr} {na ca ma da : Nat} {w : World} (ha : FV w a sa Aa na ta Ba ma) (la : 256 < fl a) :
    Calls Tryz.prog 67 #[.agg #[.bool sa, .slice Aa na ca, .bool ta, .slice Ba ma da]] w (FErr 3 w) := by
  have hE := ((Env.start w).fv ha).blk 26 #[.bool sa, .slice Aa na ca, .bool ta, .slice Ba ma da] (g := w.heap.size) rfl
  have hE := hE.blk 26 #[.bool false, .slice none 0 0, .bool false, .slice none 0 0] (g := w.heap.size + 1) (by simp)
  obtain ⟨W0, hW0⟩ : ∃ W0, W0 = ((w.alloc (.cells #[.bool sa, .slice Aa na ca, .bool ta, .slice Ba ma da] 26)).alloc (.cells #[.bool false, .slice none 0 0, .bool false, .slice none 0 0] 26)) := ⟨_, rfl⟩
  rw [← hW0] at hE
  have HW0 := Lib.hid hW0
  clear hW0
  go_enter Tryz.func67, Tryz.ntmps67
  go_upto_region 1 with (fail)
  rw [← HW0.out]
  obtain ⟨k1, k2, k3, k4⟩ := (hE.here.1.2).c4
  go_wp2_with fail
  have hc := rffits_v (c := ca) (d := da) hE.here.1.1.2 false (decide_eq_false (by omega))
  refine hc.mono ?_
  clear hc
  clear k1 k2 k3 k4
  rintro e w5 ⟨rfl, hb⟩
  replace hE := hE.step hb
  clear hb
  go_upto_region 2 with (fail)
  have hRl : w.heap.size ≤ w.heap.size + 1 := by omega
  have hB := (hE.here.2).s4 (.bool false) (.slice none 0 0) (.bool false) (.slice none 0 0)
  have hBel := bel4 hE.bel hRl (.bool false) (.slice none 0 0) (.bool false) (.slice none 0 0)
  obtain ⟨WW, hWW⟩ : ∃ x, x = ((((w5.setCell ⟨w.heap.size + 1, 0, none⟩ (.bool false)).setCell ⟨w.heap.size + 1, 1, none⟩ (.slice none 0 0)).setCell ⟨w.heap.size + 1, 2, none⟩ (.bool false)).setCell ⟨w.heap.size + 1, 3, none⟩ (.slice none 0 0)) := ⟨_, rfl⟩
  rw [← hWW] at hB hBel
  obtain ⟨x0, x1, x2, x3⟩ := (hE.here.2).c4
  obtain ⟨fz0, fz1, fz2, fz3⟩ := (hE.here.2).f4
  have HWW := Lib.hid hWW
  clear hWW
  go_wp2_with fail
  clear x0 x1 x2 x3
  rw [← HWW.out]
  obtain ⟨y0, y1, y2, y3⟩ := hB.c4
  refine bodyPost_ret (v := .tuple #[.agg #[.bool false, .slice none 0 0, .bool false, .slice none 0 0], .int .i64 3]) (by simp [results, Tryz.results67, go_sem, y0, y1, y2, y3]) rfl ?_
  exact ⟨rfl, hBel⟩
theorem gcd_len2 {f g : Nat → Nat} {n m : Nat} (hg : ∀ j, j < m → g j < 65536) (hm : 0 < vs b16 g m) : ln b16 (Nat.gcd (vs b16 f n) (vs b16 g m)) ≤ m := by
  rw [ln_le b16_two]
  exact Nat.lt_of_le_of_lt (Nat.le_of_dvd hm (Nat.gcd_dvd_right _ _)) (vs_lt hg)
theorem vs_top {b : Nat} (hb : 2 ≤ b) (f : Nat → Nat) {n : Nat} (hn : n ≠ 0) (h : f (n - 1) ≠ 0) : vs b f n ≠ 0 := by
  obtain ⟨k, rfl⟩ : ∃ k, n = k + 1 := ⟨n - 1, by omega⟩
  rw [vs_succ]
  have h1 : f k ≠ 0 := h
  have h2 : 0 < b ^ k := Nat.pow_pos (by omega)
  have h3 := Nat.mul_pos (Nat.pos_of_ne_zero h1) h2
  rw [Nat.mul_comm] at h3
  omega
set_option linter.unusedSimpArgs false in
set_option maxRecDepth 100000 in
set_option maxHeartbeats 4000000 in
theorem rfvalid_any {sa ta : Bool} {Aa Ba : Option Addr} {na ca ma da : Nat} {fa ga : Nat → Nat} {w : World} (ra : FRd w Aa na fa Ba ma ga) (hn : na ≤ 900000) (hm : ma ≤ 900000) :
    Calls Tryz.prog 65 #[.agg #[.bool sa, .slice Aa na ca, .bool ta, .slice Ba ma da]] w (fun e w' => e = .returned (.bool (okF sa na fa ta ma ga)) ∧ Below w.heap.size w w') := by
  obtain ⟨r, hres⟩ : ∃ r, r = okF sa na fa ta ma ga := ⟨_, rfl⟩
  rw [← hres]
  unfold okF at hres
  have HR := Lib.hid hres
  clear hres
  obtain ⟨rd1, rd2, rd3, rd4⟩ := ra
  have R1 := Lib.hid rd1
  have R2 := Lib.hid rd2
  have R3 := Lib.hid rd3
  have R4 := Lib.hid rd4
  clear rd1 rd2 rd3 rd4
  have hE := (Env.start w).blk 26 #[.bool sa, .slice Aa na ca, .bool ta, .slice Ba ma da] (g := w.heap.size) rfl
  obtain ⟨W0, hW0⟩ : ∃ W0, W0 = (w.alloc (.cells #[.bool sa, .slice Aa na ca, .bool ta, .slice Ba ma da] 26)) := ⟨_, rfl⟩
  rw [← hW0] at hE
  have HW0 := Lib.hid hW0
  clear hW0
  go_enter Tryz.func65, Tryz.ntmps65
  go_upto_region 1 with (fail)
  rw [← HW0.out]
  obtain ⟨v1, hv1⟩ : ∃ v1, okW sa na fa = v1 := ⟨_, rfl⟩
  obtain ⟨v2, hv2⟩ : ∃ v2, okW ta ma ga = v2 := ⟨_, rfl⟩
  have HV1 := Lib.hid hv1
  have HV2 := Lib.hid hv2
  clear hv1 hv2
  obtain ⟨k1, k2, k3, k4⟩ := (hE.here.2).c4
  go_wp2_with fail
  have hc := rvalid_any sa Aa na ca fa _ ((R1.out.below hE.bel).more hE.bel.size) R3.out (by omega)
  rw [HV1.out] at hc
  refine hc.mono ?_
  clear hc
  clear k1 k2 k3 k4
  rintro e v01 ⟨rfl, hb⟩
  replace hE := hE.step hb
  clear hb
  cases v1
  · skip
    go_wp2_with fail
    go_ret
    refine ⟨ret_bool ?_, hE.bel⟩
    rw [HR.out]
    rw [HV1.out]; cases decide (256 < na) <;> cases decide (256 < ma) <;> rfl
  · skip
    obtain ⟨k5, k6, k7, k8⟩ := (hE.here.2).c4
    go_wp2_with fail
    have hc := rvalid_any ta Ba ma da ga _ ((R2.out.below hE.bel).more hE.bel.size) R4.out (by omega)
    rw [HV2.out] at hc
    refine hc.mono ?_
    clear hc
    clear k5 k6 k7 k8
    rintro e v02 ⟨rfl, hb⟩
    replace hE := hE.step hb
    clear hb
    cases v2
    · skip
      go_wp2_with fail
      go_ret
      refine ⟨ret_bool ?_, hE.bel⟩
      rw [HR.out]
      rw [HV1.out, HV2.out]; cases decide (256 < na) <;> cases decide (256 < ma) <;> rfl
    · skip
      obtain ⟨v3, hv3⟩ : ∃ v3, (decide (na ≤ 256) && decide (ma ≤ 256)) = v3 := ⟨_, rfl⟩
      have HV3 := Lib.hid hv3
      clear hv3
      obtain ⟨k9, k10, k11, k12⟩ := (hE.here.2).c4
      go_wp2_with fail
      have hc := rffits_any (sa := sa) (ta := ta) (Aa := Aa) (Ba := Ba) (na := na) (ca := ca) (ma := ma) (da := da) (w := v02)
      rw [HV3.out] at hc
      refine hc.mono ?_
      clear hc
      clear k9 k10 k11 k12
      rintro e v03 ⟨rfl, hb⟩
      replace hE := hE.step hb
      clear hb
      have hfit : (decide (256 < na) || decide (256 < ma)) = !v3 := by
        rw [← HV3.out, Bool.not_and, ← decide_not, ← decide_not]; simp only [Nat.not_le]
      have HF := Lib.hid hfit
      clear hfit
      cases v3
      · skip
        go_wp2_with fail
        go_ret
        refine ⟨ret_bool ?_, hE.bel⟩
        rw [HR.out]
        rw [HF.out]; rfl
      · skip
        cases ta
        rotate_left
        · skip
          obtain ⟨k13, k14, k15, k16⟩ := (hE.here.2).c4
          go_wp2_with fail
          go_ret
          refine ⟨ret_bool ?_, hE.bel⟩
          rw [HR.out]
          rw [HF.out, HV1.out, HV2.out]; rfl
        by_cases h0 : ma = 0
        · subst h0
          obtain ⟨k17, k18, k19, k20⟩ := (hE.here.2).c4
          go_wp2_with fail
          go_ret
          refine ⟨ret_bool ?_, hE.bel⟩
          rw [HR.out]
          rw [HF.out, HV1.out, HV2.out]; rfl
        · have t1 : ((ma : Int) == 0) = false := beq_eq_false_iff_ne.2 (by omega)
          have t2 : (ma == 0) = false := beq_eq_false_iff_ne.2 h0
          have T0 := Lib.hid h0
          clear h0
          have x1 := okW_wv ((R1.out.below hE.bel).more hE.bel.size) R3.out HV1.out
          have x2 := okW_wv ((R2.out.below hE.bel).more hE.bel.size) R4.out HV2.out
          have hE := (hE.wv x1).wv x2
          clear x1 x2
          obtain ⟨gg, hgg⟩ : ∃ x, x = Nat.gcd (vs b16 fa na) (vs b16 ga ma) := ⟨_, rfl⟩
          have HG := Lib.hid hgg
          clear hgg
          obtain ⟨k21, k22, k23, k24⟩ := (hE.here.1.1.2).c4
          go_wp2_with fail
          have hc := rcommon_v (c := ca) (d := da) (hE.here.1.2) (hE.here.2) (by omega) (by omega)
          rw [toI_abs, toI_abs, ← HG.out] at hc
          refine hc.mono ?_
          clear hc
          clear k21 k22 k23 k24
          rintro e v04 ⟨Ag, ng, cg, rfl, hg, hb⟩
          replace hE := hE.step hb
          clear hb
          replace hE := hE.wv hg
          have hng : ng ≤ 1000000 := by
            rw [hg.len, HG.out, Int.natAbs_natCast]
            refine Nat.le_trans (gcd_len2 (f := fa) (g := ga) R4.out ?_) (by omega)
            have hx := HV2.out
            unfold okW at hx
            rw [if_neg T0.out] at hx
            have hy := (Bool.and_eq_true_iff.1 hx).2
            exact Nat.pos_of_ne_zero (fun h => by have := vs_top b16_two ga T0.out (fun h9 => by rw [h9] at hy; exact absurd hy (by decide)); omega)
          clear hg
          go_wp2_with fail
          have hc := rone_v (c := cg) (hE.here.2) hng
          refine hc.mono ?_
          clear hc
          rintro e v05 ⟨rfl, hb⟩
          replace hE := hE.step hb
          clear hb
          obtain ⟨v5, hv5⟩ : ∃ v, v = decide (((gg : Nat) : Int) = 1) := ⟨_, rfl⟩
          rw [← hv5]
          have HV5 := Lib.hid hv5
          clear hv5
          go_wp2_with fail
          go_ret
          refine ⟨ret_bool ?_, hE.bel⟩
          rw [HR.out, HF.out, HV1.out, HV2.out, HV5.out, HG.out, decide_eq_false T0.out]
          generalize Nat.gcd (vs b16 fa na) (vs b16 ga ma) = x
          have h9 : decide ((x : Int) = 1) = (x == 1) := by rw [Bool.eq_iff_iff, decide_eq_true_iff, beq_iff_eq]; omega
          rw [h9]
          rfl
end Go.Proofs.YtifikcemcflgjaaGreat
