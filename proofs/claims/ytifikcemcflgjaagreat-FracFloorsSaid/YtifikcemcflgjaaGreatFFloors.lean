/-
  The walk of FracFloors.
-/
import Derived.Test.YtifikcemcflgjaaGreatGQ
import Derived.Test.YtifikcemcflgjaaGreatGA
namespace Go.Proofs.YtifikcemcflgjaaGreat
open Go.RowKit

theorem floorQ_ln {a : Rat} {k : Nat} (h : fl a ≤ k) (hk : 1 ≤ k) : ln b16 (floorQ a).natAbs ≤ k + 1 := fdiv_len2 (fl_z h).1 hk
theorem fl_int {z : Int} {k : Nat} (h : ln b16 z.natAbs ≤ k) (hk : 1 ≤ k) : fl ((z : Int) : Rat) ≤ k := by
  rw [fl_le, (int_num z).1, (int_num z).2]
  exact ⟨h, Nat.le_trans (by decide) hk⟩
theorem cmp_le0 {a b : Rat} (h : a ≤ b) : decide (0 < cmpQ a b) = false := by
  rw [cmpQ_val]; refine decide_eq_false ?_; grind
theorem cmp_ge0 {a b : Rat} (h : b ≤ a) : decide (cmpQ a b < 0) = false := by
  rw [cmpQ_val]; refine decide_eq_false ?_; grind
theorem ceilQ_ge (a : Rat) : a ≤ ((ceilQ a : Int) : Rat) := by
  rw [ceilQ_val]
  have h1 := floorQ_lt a
  have h3 := floorQ_int (a := a)
  by_cases h : (a.den : Int) = 1
  · rw [if_pos h, h3.1 h]; exact Rat.le_refl
  · rw [if_neg h]; exact Rat.le_of_lt h1
theorem ceilQ_gt {a : Rat} (h : ¬ (a.den : Int) = 1) : cmpQ ((ceilQ a : Int) : Rat) a = 1 := by
  rw [ceilQ_val, if_neg h, cmpQ_val]
  have h1 := floorQ_lt a
  grind
theorem floorQ_cmp1 {a : Rat} (h : (a.den : Int) = 1) : cmpQ ((floorQ a : Int) : Rat) a = 0 := by
  rw [floorQ_int.1 h, cmpQ_val]; grind
theorem floorQ_cmp2 {a : Rat} (h : ¬ (a.den : Int) = 1) : cmpQ ((floorQ a : Int) : Rat) a = -1 := by
  rw [cmpQ_val]
  have h1 := floorQ_le a
  have h2 : ¬ ((floorQ a : Int) : Rat) = a := fun x => h (floorQ_int.2 x)
  grind
theorem ffloor_q {a : Rat} {sa ta : Bool} {Aa Ba : Option Addr} {na ca ma da : Nat} {w : World} (ha : FV w a sa Aa na ta Ba ma) (la : fl a ≤ 256) :
    Calls Tryz.prog 48 #[.agg #[.bool sa, .slice Aa na ca, .bool ta, .slice Ba ma da]] w (WOK (floorQ a) w) := ffloor_v ha la
set_option linter.unusedSimpArgs false in
set_option maxRecDepth 100000 in
set_option maxHeartbeats 16000000 in
theorem ffloors_walk {sa ta : Bool} {Aa Ba : Option Addr} {na ca ma da : Nat} {fa ga : Nat → Nat} {k0 : Int} {w : World} (hlt : 0 < w.heap.size) (hm : w.cell? ⟨0, 0, none⟩ = some (.int .i64 k0)) (ra : FRd w Aa na fa Ba ma ga) :
    Calls Tryz.prog 11 #[.agg #[.bool sa, .slice Aa na ca, .bool ta, .slice Ba ma da]] w (fun e w' => e = .returned (.bool true) ∧ Below w.heap.size w w') := by
  have hE := (((Env.start w).at_ hlt hm).frd ra).blk 26 #[.bool sa, .slice Aa na ca, .bool ta, .slice Ba ma da] (g := w.heap.size) rfl
  obtain ⟨W0, hW0⟩ : ∃ W0, W0 = (w.alloc (.cells #[.bool sa, .slice Aa na ca, .bool ta, .slice Ba ma da] 26)) := ⟨_, rfl⟩
  rw [← hW0] at hE
  have HW0 := Lib.hid hW0
  clear hW0
  go_enter Tryz.func11, Tryz.ntmps11
  go_upto_region 1 with (fail)
  rw [← HW0.out]
  go_wp2_with fail
  refine (awake2_t _ (hE.here.1.1.2).2 (hE.here.1.1.2).1).mono ?_
  rintro e w1 ⟨rfl, hb⟩
  replace hE := hE.step hb
  clear hb
  obtain ⟨k2, k3, k4, k5⟩ := (hE.here.2).c4
  go_wp2_with fail
  refine (usable1 ⟨sa, Aa, na, ca, fa, ta, Ba, ma, da, ga⟩ _ (hE.here.1.2)).mono ?_
  clear k2 k3 k4 k5
  rintro e w6 ⟨v, rfl, hv, hb⟩
  replace hE := hE.step hb
  clear hb
  cases v with
  | false =>
    clear hv
    go_wp2_with fail
    go_ret
    exact ⟨rfl, hE.bel⟩
  | true =>
    have ua := hv rfl
    clear hv
    obtain ⟨a, ha, la⟩ := us_fv ua (hE.here.1.2)
    replace hE := (hE.fv ha)
    clear ha ua
    have lF : ln b16 (floorQ a).natAbs ≤ 41 := floorQ_ln la (by decide)
    have lC : ln b16 (ceilQ a).natAbs ≤ 42 := by rw [ceilQ_val]; split; exact Nat.le_trans lF (by decide); exact ln_addZ (m := 41) lF (by decide)
    have lG : ln b16 (floorQ (-a)).natAbs ≤ 41 := floorQ_ln (by rw [fl_neg]; exact la) (by decide)
    have lF1 : ln b16 (floorQ a + 1).natAbs ≤ 42 := ln_addZ (m := 41) lF (by decide)
    have hsum := ceil_floor a
    have HlF := Lib.hid lF
    clear lF
    have HlC := Lib.hid lC
    clear lC
    have HlG := Lib.hid lG
    clear lG
    have HlF1 := Lib.hid lF1
    clear lF1
    have Hhsum := Lib.hid hsum
    clear hsum
    go_wp2_with fail
    refine (rfromInt_v 1 _ (by decide) (by decide)).mono ?_
    rintro e w7 ⟨so, Ao, no, co, rfl, ho, hb⟩
    replace hE := hE.step hb
    clear hb
    replace hE := hE.wv ho
    clear ho
    go_upto_region 6 with (fail)
    obtain ⟨g8, hg8⟩ : ∃ g8, g8 = w7.heap.size := ⟨_, rfl⟩
    have hl8_2 : w.heap.size < g8 := by rw [hg8]; exact (hE.here.1.1.2).lt
    replace hE := hE.blk 24 #[.bool so, .slice Ao no co] (g := g8) hg8.symm
    generalize w7.alloc (.cells #[.bool so, .slice Ao no co] 24) = W8 at hE ⊢
    rw [← hg8]
    clear hg8
    obtain ⟨k9, k10, k11, k12⟩ := (hE.here.1.1.1.2).c4
    go_wp2_with fail
    refine (ffloor_q (ca := ca) (da := da) hE.here.1.1.2 (fl_le2 la (by decide))).mono ?_
    clear k9 k10 k11 k12
    rintro e w13 ⟨sm, Am, nm, cm, rfl, hm, hb⟩
    replace hE := hE.step hb
    clear hb
    replace hE := hE.wv hm
    clear hm
    go_upto_region 7 with (fail)
    obtain ⟨g14, hg14⟩ : ∃ g14, g14 = w13.heap.size := ⟨_, rfl⟩
    have hl14_2 : w.heap.size < g14 := by rw [hg14]; exact (hE.here.1.1.1.1.2).lt
    have hl14_5 : g8 < g14 := by rw [hg14]; exact (hE.here.1.2).lt
    replace hE := hE.blk 24 #[.bool sm, .slice Am nm cm] (g := g14) hg14.symm
    generalize w13.alloc (.cells #[.bool sm, .slice Am nm cm] 24) = W14 at hE ⊢
    rw [← hg14]
    clear hg14
    obtain ⟨k15, k16, k17, k18⟩ := (hE.here.1.1.1.1.1.2).c4
    go_wp2_with fail
    refine (fceil_v (ca := ca) (da := da) hE.here.1.1.1.1.2 (fl_le2 la (by decide))).mono ?_
    clear k15 k16 k17 k18
    rintro e w19 ⟨sn, An, nn, cn, rfl, hn, hb⟩
    replace hE := hE.step hb
    clear hb
    replace hE := hE.wv hn
    clear hn
    go_upto_region 8 with (fail)
    obtain ⟨g20, hg20⟩ : ∃ g20, g20 = w19.heap.size := ⟨_, rfl⟩
    have hl20_2 : w.heap.size < g20 := by rw [hg20]; exact (hE.here.1.1.1.1.1.1.2).lt
    have hl20_5 : g8 < g20 := by rw [hg20]; exact (hE.here.1.1.1.2).lt
    have hl20_7 : g14 < g20 := by rw [hg20]; exact (hE.here.1.2).lt
    replace hE := hE.blk 24 #[.bool sn, .slice An nn cn] (g := g20) hg20.symm
    generalize w19.alloc (.cells #[.bool sn, .slice An nn cn] 24) = W20 at hE ⊢
    rw [← hg20]
    clear hg20
    obtain ⟨k21, k22, k23, k24⟩ := (hE.here.1.1.1.1.1.1.1.2).c4
    go_wp2_with fail
    refine (fneg_v (ca := ca) (da := da) hE.here.1.1.1.1.1.1.2 (fl_le2 la (by decide))).mono ?_
    clear k21 k22 k23 k24
    rintro e w25 ⟨si, Ai, ni, ci, ti, Bi, mi, di, rfl, hi, hb⟩
    replace hE := hE.step hb
    clear hb
    replace hE := hE.fv hi
    clear hi
    go_upto_region 9 with (fail)
    obtain ⟨g26, hg26⟩ : ∃ g26, g26 = w25.heap.size := ⟨_, rfl⟩
    have hl26_2 : w.heap.size < g26 := by rw [hg26]; exact (hE.here.1.1.1.1.1.1.1.1.2).lt
    have hl26_5 : g8 < g26 := by rw [hg26]; exact (hE.here.1.1.1.1.1.2).lt
    have hl26_7 : g14 < g26 := by rw [hg26]; exact (hE.here.1.1.1.2).lt
    have hl26_9 : g20 < g26 := by rw [hg26]; exact (hE.here.1.2).lt
    replace hE := hE.blk 26 #[.bool si, .slice Ai ni ci, .bool ti, .slice Bi mi di] (g := g26) hg26.symm
    generalize w25.alloc (.cells #[.bool si, .slice Ai ni ci, .bool ti, .slice Bi mi di] 26) = W26 at hE ⊢
    rw [← hg26]
    clear hg26
    obtain ⟨k27, k28, k29, k30⟩ := (hE.here.2).c4
    go_wp2_with fail
    refine (ffloor_q (ca := ci) (da := di) hE.here.1.2 (fl_le2 (by rw [fl_neg]; exact la : fl (-a) ≤ 40) (by decide))).mono ?_
    clear k27 k28 k29 k30
    rintro e w31 ⟨sp, Ap, np, cp, rfl, hp, hb⟩
    replace hE := hE.step hb
    clear hb
    replace hE := hE.wv hp
    clear hp
    go_upto_region 10 with (fail)
    obtain ⟨g32, hg32⟩ : ∃ g32, g32 = w31.heap.size := ⟨_, rfl⟩
    have hl32_2 : w.heap.size < g32 := by rw [hg32]; exact (hE.here.1.1.1.1.1.1.1.1.1.1.2).lt
    have hl32_5 : g8 < g32 := by rw [hg32]; exact (hE.here.1.1.1.1.1.1.1.2).lt
    have hl32_7 : g14 < g32 := by rw [hg32]; exact (hE.here.1.1.1.1.1.2).lt
    have hl32_9 : g20 < g32 := by rw [hg32]; exact (hE.here.1.1.1.2).lt
    have hl32_11 : g26 < g32 := by rw [hg32]; exact (hE.here.1.2).lt
    replace hE := hE.blk 24 #[.bool sp, .slice Ap np cp] (g := g32) hg32.symm
    generalize w31.alloc (.cells #[.bool sp, .slice Ap np cp] 24) = W32 at hE ⊢
    rw [← hg32]
    clear hg32
    have no4 : no ≤ 4 := small_len (hE.here.1.1.1.1.1.1.1.1.1.2) (by decide) (by decide)
    have nm9 : nm ≤ 41 := by rw [(hE.here.1.1.1.1.1.1.1.2).len]; exact HlF.out
    have nn9 : nn ≤ 42 := by rw [(hE.here.1.1.1.1.1.2).len]; exact HlC.out
    have np9 : np ≤ 41 := by rw [(hE.here.1.2).len]; exact HlG.out
    obtain ⟨k33, k34⟩ := (hE.here.1.1.1.1.1.1.2).c2
    obtain ⟨k35, k36⟩ := (hE.here.1.1.1.1.1.1.1.1.2).c2
    go_wp2_with fail
    have hc := fmake_v (cx := cm) (cy := co) (hE.here.1.1.1.1.1.1.1.2) (hE.here.1.1.1.1.1.1.1.1.1.2) (by omega) (by omega) (by decide) (by rw [int_low]; exact (fl_le2 (fl_int HlF.out (by decide)) (by decide)))
    rw [int_low] at hc
    refine (hc).mono ?_
    clear k33 k34 k35 k36
    rintro e w37 ⟨sl, Al, nl, cl, tl, Bl, ml, dl, rfl, hl, hb⟩
    replace hE := hE.step hb
    clear hb
    replace hE := hE.fv hl
    clear hl
    clear hc
    go_upto_region 13 with (fail)
    obtain ⟨g38, hg38⟩ : ∃ g38, g38 = w37.heap.size := ⟨_, rfl⟩
    have hl38_2 : w.heap.size < g38 := by rw [hg38]; exact (hE.here.1.1.1.1.1.1.1.1.1.1.1.1.2).lt
    have hl38_5 : g8 < g38 := by rw [hg38]; exact (hE.here.1.1.1.1.1.1.1.1.1.2).lt
    have hl38_7 : g14 < g38 := by rw [hg38]; exact (hE.here.1.1.1.1.1.1.1.2).lt
    have hl38_9 : g20 < g38 := by rw [hg38]; exact (hE.here.1.1.1.1.1.2).lt
    have hl38_11 : g26 < g38 := by rw [hg38]; exact (hE.here.1.1.1.2).lt
    have hl38_13 : g32 < g38 := by rw [hg38]; exact (hE.here.1.2).lt
    replace hE := hE.blk 26 #[.bool sl, .slice Al nl cl, .bool tl, .slice Bl ml dl] (g := g38) hg38.symm
    generalize w37.alloc (.cells #[.bool sl, .slice Al nl cl, .bool tl, .slice Bl ml dl] 26) = W38 at hE ⊢
    rw [← hg38]
    clear hg38
    obtain ⟨k39, k40⟩ := (hE.here.1.1.1.1.1.1.2).c2
    obtain ⟨k41, k42⟩ := (hE.here.1.1.1.1.1.1.1.1.1.1.2).c2
    go_wp2_with fail
    have hc := fmake_v (cx := cn) (cy := co) (hE.here.1.1.1.1.1.1.1.2) (hE.here.1.1.1.1.1.1.1.1.1.1.1.2) (by omega) (by omega) (by decide) (by rw [int_low]; exact (fl_le2 (fl_int HlC.out (by decide)) (by decide)))
    rw [int_low] at hc
    refine (hc).mono ?_
    clear k39 k40 k41 k42
    rintro e w43 ⟨sh, Ah, nh, ch, th, Bh, mh, dh, rfl, hh, hb⟩
    replace hE := hE.step hb
    clear hb
    replace hE := hE.fv hh
    clear hh
    clear hc
    go_upto_region 14 with (fail)
    obtain ⟨g44, hg44⟩ : ∃ g44, g44 = w43.heap.size := ⟨_, rfl⟩
    have hl44_2 : w.heap.size < g44 := by rw [hg44]; exact (hE.here.1.1.1.1.1.1.1.1.1.1.1.1.1.1.2).lt
    have hl44_5 : g8 < g44 := by rw [hg44]; exact (hE.here.1.1.1.1.1.1.1.1.1.1.1.2).lt
    have hl44_7 : g14 < g44 := by rw [hg44]; exact (hE.here.1.1.1.1.1.1.1.1.1.2).lt
    have hl44_9 : g20 < g44 := by rw [hg44]; exact (hE.here.1.1.1.1.1.1.1.2).lt
    have hl44_11 : g26 < g44 := by rw [hg44]; exact (hE.here.1.1.1.1.1.2).lt
    have hl44_13 : g32 < g44 := by rw [hg44]; exact (hE.here.1.1.1.2).lt
    have hl44_15 : g38 < g44 := by rw [hg44]; exact (hE.here.1.2).lt
    replace hE := hE.blk 26 #[.bool sh, .slice Ah nh ch, .bool th, .slice Bh mh dh] (g := g44) hg44.symm
    generalize w43.alloc (.cells #[.bool sh, .slice Ah nh ch, .bool th, .slice Bh mh dh] 26) = W44 at hE ⊢
    rw [← hg44]
    clear hg44
    obtain ⟨k45, k46⟩ := (hE.here.1.1.1.1.1.1.1.1.1.1.2).c2
    obtain ⟨k47, k48⟩ := (hE.here.1.1.1.1.1.1.1.1.1.1.1.1.2).c2
    go_wp2_with fail
    refine (add_v (c := cm) (d := co) (hE.here.1.1.1.1.1.1.1.1.1.1.1.2) (hE.here.1.1.1.1.1.1.1.1.1.1.1.1.1.2) (by omega) (by omega) (Nat.le_trans HlF1.out (by decide))).mono ?_
    clear k45 k46 k47 k48
    rintro e w49 ⟨sx, Ax, nx, cx, rfl, hx, hb⟩
    replace hE := hE.step hb
    clear hb
    replace hE := hE.wv hx.v
    clear hx
    go_upto_region 15 with (fail)
    obtain ⟨g50, hg50⟩ : ∃ g50, g50 = w49.heap.size := ⟨_, rfl⟩
    have hl50_2 : w.heap.size < g50 := by rw [hg50]; exact (hE.here.1.1.1.1.1.1.1.1.1.1.1.1.1.1.1.1.2).lt
    have hl50_5 : g8 < g50 := by rw [hg50]; exact (hE.here.1.1.1.1.1.1.1.1.1.1.1.1.1.2).lt
    have hl50_7 : g14 < g50 := by rw [hg50]; exact (hE.here.1.1.1.1.1.1.1.1.1.1.1.2).lt
    have hl50_9 : g20 < g50 := by rw [hg50]; exact (hE.here.1.1.1.1.1.1.1.1.1.2).lt
    have hl50_11 : g26 < g50 := by rw [hg50]; exact (hE.here.1.1.1.1.1.1.1.2).lt
    have hl50_13 : g32 < g50 := by rw [hg50]; exact (hE.here.1.1.1.1.1.2).lt
    have hl50_15 : g38 < g50 := by rw [hg50]; exact (hE.here.1.1.1.2).lt
    have hl50_17 : g44 < g50 := by rw [hg50]; exact (hE.here.1.2).lt
    replace hE := hE.blk 24 #[.bool sx, .slice Ax nx cx] (g := g50) hg50.symm
    generalize w49.alloc (.cells #[.bool sx, .slice Ax nx cx] 24) = W50 at hE ⊢
    rw [← hg50]
    clear hg50
    obtain ⟨k51, k52⟩ := (hE.here.1.1.1.1.1.1.1.1.1.1.2).c2
    obtain ⟨k53, k54⟩ := (hE.here.1.1.1.1.1.1.2).c2
    go_wp2_with fail
    refine (add_v (c := cn) (d := cp) (hE.here.1.1.1.1.1.1.1.1.1.1.1.2) (hE.here.1.1.1.1.1.1.1.2) (by omega) (by omega) (by rw [Hhsum.out]; decide)).mono ?_
    clear k51 k52 k53 k54
    rintro e w55 ⟨sy, Ay, ny, cy, rfl, hy, hb⟩
    replace hE := hE.step hb
    clear hb
    replace hE := hE.wv hy.v
    clear hy
    go_upto_region 16 with (fail)
    obtain ⟨g56, hg56⟩ : ∃ g56, g56 = w55.heap.size := ⟨_, rfl⟩
    have hl56_2 : w.heap.size < g56 := by rw [hg56]; exact (hE.here.1.1.1.1.1.1.1.1.1.1.1.1.1.1.1.1.1.1.2).lt
    have hl56_5 : g8 < g56 := by rw [hg56]; exact (hE.here.1.1.1.1.1.1.1.1.1.1.1.1.1.1.1.2).lt
    have hl56_7 : g14 < g56 := by rw [hg56]; exact (hE.here.1.1.1.1.1.1.1.1.1.1.1.1.1.2).lt
    have hl56_9 : g20 < g56 := by rw [hg56]; exact (hE.here.1.1.1.1.1.1.1.1.1.1.1.2).lt
    have hl56_11 : g26 < g56 := by rw [hg56]; exact (hE.here.1.1.1.1.1.1.1.1.1.2).lt
    have hl56_13 : g32 < g56 := by rw [hg56]; exact (hE.here.1.1.1.1.1.1.1.2).lt
    have hl56_15 : g38 < g56 := by rw [hg56]; exact (hE.here.1.1.1.1.1.2).lt
    have hl56_17 : g44 < g56 := by rw [hg56]; exact (hE.here.1.1.1.2).lt
    have hl56_19 : g50 < g56 := by rw [hg56]; exact (hE.here.1.2).lt
    replace hE := hE.blk 24 #[.bool sy, .slice Ay ny cy] (g := g56) hg56.symm
    generalize w55.alloc (.cells #[.bool sy, .slice Ay ny cy] 24) = W56 at hE ⊢
    rw [← hg56]
    clear hg56
    obtain rfl : ny = 0 := by rw [(hE.here.1.2).len, Hhsum.out]; exact ln_zero
    have nx9 : nx ≤ 42 := by rw [(hE.here.1.1.1.2).len]; exact HlF1.out
    have d1 : decide (0 < cmpQ ((floorQ a : Int) : Rat) a) = false := cmp_le0 (floorQ_le a)
    have d2 : decide (cmpQ ((ceilQ a : Int) : Rat) a < 0) = false := cmp_ge0 (ceilQ_ge a)
    have d3 : ¬ 0 < cmpQ ((floorQ a : Int) : Rat) a := of_decide_eq_false d1
    have d4 : ¬ cmpQ ((ceilQ a : Int) : Rat) a < 0 := of_decide_eq_false d2
    obtain ⟨k57, k58⟩ := (hE.here.2).c2
    obtain ⟨k59, k60, k61, k62⟩ := (hE.here.1.1.1.1.1.1.2).c4
    obtain ⟨k63, k64, k65, k66⟩ := (hE.here.1.1.1.1.1.1.1.1.1.1.1.1.1.1.1.1.1.1.1.2).c4
    go_wp2_with fail
    refine (fcmp_v (ca := cl) (da := dl) (cb := ca) (db := da) (hE.here.1.1.1.1.1.1.1.2) (hE.here.1.1.1.1.1.1.1.1.1.1.1.1.1.1.1.1.1.1.2) (fl_le2 (fl_int HlF.out (by decide)) (by decide)) (fl_le2 la (by decide))).mono ?_
    clear k57 k58 k59 k60 k61 k62 k63 k64 k65 k66
    rintro e w67 ⟨rfl, hb⟩
    replace hE := hE.step hb
    clear hb
    obtain ⟨k68, k69, k70, k71⟩ := (hE.here.1.1.1.1.2).c4
    obtain ⟨k72, k73, k74, k75⟩ := (hE.here.1.1.1.1.1.1.1.1.1.1.1.1.1.1.1.1.1.1.1.2).c4
    go_wp2_with fail
    refine (fcmp_v (ca := ch) (da := dh) (cb := ca) (db := da) (hE.here.1.1.1.1.1.2) (hE.here.1.1.1.1.1.1.1.1.1.1.1.1.1.1.1.1.1.1.2) (fl_le2 (fl_int HlC.out (by decide)) (by decide)) (fl_le2 la (by decide))).mono ?_
    clear k68 k69 k70 k71 k72 k73 k74 k75
    rintro e w76 ⟨rfl, hb⟩
    replace hE := hE.step hb
    clear hb
    go_upto_region 18 with (fail)
    clear d1 d2 d3 d4
    by_cases h1 : (a.den : Int) = 1
    · skip
      obtain ⟨k77, k78, k79, k80⟩ := (hE.here.1.1.1.1.1.1.2).c4
      obtain ⟨k81, k82, k83, k84⟩ := (hE.here.1.1.1.1.1.1.1.1.1.1.1.1.1.1.1.1.1.1.1.2).c4
      go_wp2_with fail
      have hc := fcmp_v (ca := cl) (da := dl) (cb := ca) (db := da) (hE.here.1.1.1.1.1.1.1.2) (hE.here.1.1.1.1.1.1.1.1.1.1.1.1.1.1.1.1.1.1.2) (fl_le2 (fl_int HlF.out (by decide)) (by decide)) (fl_le2 la (by decide))
      rw [floorQ_cmp1 h1] at hc
      refine (hc).mono ?_
      clear k77 k78 k79 k80 k81 k82 k83 k84
      rintro e w85 ⟨rfl, hb⟩
      replace hE := hE.step hb
      clear hb
      clear hc
      obtain ⟨k86, k87, k88, k89⟩ := (hE.here.1.1.1.1.1.1.1.1.1.1.1.1.1.1.1.1.1.1.1.2).c4
      go_wp2_with fail
      refine (fint_v (ca := ca) (da := da) hE.here.1.1.1.1.1.1.1.1.1.1.1.1.1.1.1.1.1.1.2 (fl_le2 la (by decide))).mono ?_
      clear k86 k87 k88 k89
      rintro e w90 ⟨r, k, rfl, hr, hb⟩
      replace hE := hE.step hb
      clear hb
      have hFC : floorQ a = ceilQ a := by rw [ceilQ_val, if_pos h1]
      have hFa : ((floorQ a : Int) : Rat) = a := floorQ_int.1 h1
      have hnum : ((a.num : Int) : Rat) = a := z_eq.2 (by rw [h1, Int.mul_one])
      have HhFC := Lib.hid hFC
      clear hFC
      have Hhnum := Lib.hid hnum
      clear hnum
      rcases hr with ⟨-, hr⟩ | ⟨hx, -⟩
      · rcases hr with ⟨hf, rfl, rfl⟩ | ⟨hf, rfl, rfl⟩
        · skip
          obtain ⟨b1, b2⟩ : -9223372036854775808 ≤ a.num ∧ a.num ≤ 9223372036854775807 := by unfold fits at hf; simpa using hf
          clear hf
          go_upto_region 21 with (fail)
          replace hE := hE.drew
          refine wp_region_held_drew (S := fun w' => w'.cell? ⟨g14, 0, none⟩ = some (.bool sm) ∧ w'.cell? ⟨g14, 1, none⟩ = some (.slice Am nm cm) ∧ w'.cell? ⟨g20, 0, none⟩ = some (.bool sn) ∧ w'.cell? ⟨g20, 1, none⟩ = some (.slice An nn cn) ∧ w'.cell? ⟨w.heap.size, 0, none⟩ = some (.bool sa) ∧ w'.cell? ⟨w.heap.size, 1, none⟩ = some (.slice Aa na ca) ∧ w'.cell? ⟨w.heap.size, 2, none⟩ = some (.bool ta) ∧ w'.cell? ⟨w.heap.size, 3, none⟩ = some (.slice Ba ma da)) (by kernel_rfl) (⟨(hE.here.1.1.1.1.1.1.1.1.1.1.1.1.1.1.2).c2.1, (hE.here.1.1.1.1.1.1.1.1.1.1.1.1.1.1.2).c2.2, (hE.here.1.1.1.1.1.1.1.1.1.1.1.1.2).c2.1, (hE.here.1.1.1.1.1.1.1.1.1.1.1.1.2).c2.2, (hE.here.1.1.1.1.1.1.1.1.1.1.1.1.1.1.1.1.1.1.1.2).c4.1, (hE.here.1.1.1.1.1.1.1.1.1.1.1.1.1.1.1.1.1.1.1.2).c4.2.1, (hE.here.1.1.1.1.1.1.1.1.1.1.1.1.1.1.1.1.1.1.1.2).c4.2.2.1, (hE.here.1.1.1.1.1.1.1.1.1.1.1.1.1.1.1.1.1.1.1.2).c4.2.2.2⟩) (fun hHeld => ?_)
          refine wpAnyH_take (i := 0) (v := ?v1_0_1) rfl (by kernel_rfl) (by kernel_rfl) (by kernel_rfl) (fun _ _ _ h => h) (Or.inl ⟨by rfl, ?hy1_0_1⟩) (by assumption) ?rest1_0_1
          case hy1_0_1 => intro w hSw; (try dsimp only at hSw); first | (go_simp; done) | (go_simp; with_reducible rfl)
          try simp only [Act.put, List.setIfInBounds_toArray, List.set_cons_zero, List.set_cons_succ, List.getElem_toArray, List.getElem_cons_succ, List.getElem_cons_zero]
          refine wpAnyH_take (i := 1) (v := ?v1_1_2) rfl (by kernel_rfl) (by kernel_rfl) (by kernel_rfl) (fun _ _ _ h => h) (Or.inl ⟨by rfl, ?hy1_1_2⟩) (by assumption) ?rest1_1_2
          case hy1_1_2 => intro w hSw; (try dsimp only at hSw); first | (go_simp; done) | (go_simp; with_reducible rfl)
          try simp only [Act.put, List.setIfInBounds_toArray, List.set_cons_zero, List.set_cons_succ, List.getElem_toArray, List.getElem_cons_succ, List.getElem_cons_zero]
          refine wpAnyH_ready (rs := [2]) (by kernel_rfl) (by simp) (AllReadyH.cons rfl (fun K hK => ?_) (AllReadyH.nil))
          go_simp
          have hc := same_v (c := cm) (d := cn) (hE.here.1.1.1.1.1.1.1.1.1.1.1.1.1.1.1.2) (hE.here.1.1.1.1.1.1.1.1.1.1.1.1.1.2) (by omega) (by omega)
          rw [decide_eq_true HhFC.out] at hc
          refine (hc).mono ?_
          rintro e w91 ⟨rfl, hb⟩
          replace hE := hE.step hb
          clear hb
          clear hc
          go_wp2_with fail
          refine hK.out _ _ (⟨(hE.here.1.1.1.1.1.1.1.1.1.1.1.1.1.1.2).c2.1, (hE.here.1.1.1.1.1.1.1.1.1.1.1.1.1.1.2).c2.2, (hE.here.1.1.1.1.1.1.1.1.1.1.1.1.2).c2.1, (hE.here.1.1.1.1.1.1.1.1.1.1.1.1.2).c2.2, (hE.here.1.1.1.1.1.1.1.1.1.1.1.1.1.1.1.1.1.1.1.2).c4.1, (hE.here.1.1.1.1.1.1.1.1.1.1.1.1.1.1.1.1.1.1.1.2).c4.2.1, (hE.here.1.1.1.1.1.1.1.1.1.1.1.1.1.1.1.1.1.1.1.2).c4.2.2.1, (hE.here.1.1.1.1.1.1.1.1.1.1.1.1.1.1.1.1.1.1.1.2).c4.2.2.2⟩) (fun hHeld => ?_)
          clear hK K
          try simp only [Act.put, List.setIfInBounds_toArray, List.set_cons_zero, List.set_cons_succ, List.getElem_toArray, List.getElem_cons_succ, List.getElem_cons_zero]
          refine wpAnyH_take (i := 3) (v := ?v1_3_3) rfl (by kernel_rfl) (by kernel_rfl) (by kernel_rfl) (fun _ _ _ h => h) (Or.inl ⟨by rfl, ?hy1_3_3⟩) (by assumption) ?rest1_3_3
          case hy1_3_3 => intro w hSw; (try dsimp only at hSw); first | (go_simp; done) | (go_simp; with_reducible rfl)
          try simp only [Act.put, List.setIfInBounds_toArray, List.set_cons_zero, List.set_cons_succ, List.getElem_toArray, List.getElem_cons_succ, List.getElem_cons_zero]
          refine wpAnyH_take (i := 4) (v := ?v1_4_4) rfl (by kernel_rfl) (by kernel_rfl) (by kernel_rfl) (fun _ _ _ h => h) (Or.inl ⟨by rfl, ?hy1_4_4⟩) (by assumption) ?rest1_4_4
          case hy1_4_4 => intro w hSw; (try dsimp only at hSw); first | (go_simp; done) | (go_simp; with_reducible rfl)
          try simp only [Act.put, List.setIfInBounds_toArray, List.set_cons_zero, List.set_cons_succ, List.getElem_toArray, List.getElem_cons_succ, List.getElem_cons_zero]
          refine wpAnyH_take (i := 5) (v := ?v1_5_5) rfl (by kernel_rfl) (by kernel_rfl) (by kernel_rfl) (fun _ _ _ h => h) (Or.inl ⟨by rfl, ?hy1_5_5⟩) (by assumption) ?rest1_5_5
          case hy1_5_5 => intro w hSw; (try dsimp only at hSw); first | (go_simp; done) | (go_simp; with_reducible rfl)
          try simp only [Act.put, List.setIfInBounds_toArray, List.set_cons_zero, List.set_cons_succ, List.getElem_toArray, List.getElem_cons_succ, List.getElem_cons_zero]
          refine wpAnyH_take (i := 6) (v := ?v1_6_6) rfl (by kernel_rfl) (by kernel_rfl) (by kernel_rfl) (fun _ _ _ h => h) (Or.inl ⟨by rfl, ?hy1_6_6⟩) (by assumption) ?rest1_6_6
          case hy1_6_6 => intro w hSw; (try dsimp only at hSw); first | (go_simp; done) | (go_simp; with_reducible rfl)
          try simp only [Act.put, List.setIfInBounds_toArray, List.set_cons_zero, List.set_cons_succ, List.getElem_toArray, List.getElem_cons_succ, List.getElem_cons_zero]
          refine wpAnyH_take (i := 7) (v := ?v1_7_7) rfl (by kernel_rfl) (by kernel_rfl) (by kernel_rfl) (fun _ _ _ h => h) (Or.inl ⟨by rfl, ?hy1_7_7⟩) (by assumption) ?rest1_7_7
          case hy1_7_7 => intro w hSw; (try dsimp only at hSw); first | (go_simp; done) | (go_simp; with_reducible rfl)
          try simp only [Act.put, List.setIfInBounds_toArray, List.set_cons_zero, List.set_cons_succ, List.getElem_toArray, List.getElem_cons_succ, List.getElem_cons_zero]
          refine wpAnyH_take (i := 8) (v := ?v1_8_8) rfl (by kernel_rfl) (by kernel_rfl) (by kernel_rfl) (fun _ _ _ h => h) (Or.inl ⟨by rfl, ?hy1_8_8⟩) (by assumption) ?rest1_8_8
          case hy1_8_8 => intro w hSw; (try dsimp only at hSw); first | (go_simp; done) | (go_simp; with_reducible rfl)
          try simp only [Act.put, List.setIfInBounds_toArray, List.set_cons_zero, List.set_cons_succ, List.getElem_toArray, List.getElem_cons_succ, List.getElem_cons_zero]
          refine wpAnyH_take (i := 9) (v := ?v1_9_9) rfl (by kernel_rfl) (by kernel_rfl) (by kernel_rfl) (fun _ _ _ h => h) (Or.inl ⟨by rfl, ?hy1_9_9⟩) (by assumption) ?rest1_9_9
          case hy1_9_9 => intro w hSw; (try dsimp only at hSw); first | (go_simp; done) | (go_simp; with_reducible rfl)
          try simp only [Act.put, List.setIfInBounds_toArray, List.set_cons_zero, List.set_cons_succ, List.getElem_toArray, List.getElem_cons_succ, List.getElem_cons_zero]
          refine wpAnyH_take (i := 10) (v := ?v1_10_10) rfl (by kernel_rfl) (by kernel_rfl) (by kernel_rfl) (fun _ _ _ h => h) (Or.inl ⟨by rfl, ?hy1_10_10⟩) (by assumption) ?rest1_10_10
          case hy1_10_10 => intro w hSw; (try dsimp only at hSw); first | (go_simp; done) | (go_simp; with_reducible rfl)
          try simp only [Act.put, List.setIfInBounds_toArray, List.set_cons_zero, List.set_cons_succ, List.getElem_toArray, List.getElem_cons_succ, List.getElem_cons_zero]
          refine wpAnyH_take (i := 11) (v := ?v1_11_11) rfl (by kernel_rfl) (by kernel_rfl) (by kernel_rfl) (fun _ _ _ h => h) (Or.inl ⟨by rfl, ?hy1_11_11⟩) (by assumption) ?rest1_11_11
          case hy1_11_11 => intro w hSw; (try dsimp only at hSw); first | (go_simp; done) | (go_simp; with_reducible rfl)
          try simp only [Act.put, List.setIfInBounds_toArray, List.set_cons_zero, List.set_cons_succ, List.getElem_toArray, List.getElem_cons_succ, List.getElem_cons_zero]
          refine wpAnyH_take (i := 13) (v := ?v1_13_12) rfl (by kernel_rfl) (by kernel_rfl) (by kernel_rfl) (fun _ _ _ h => h) (Or.inl ⟨by rfl, ?hy1_13_12⟩) (by assumption) ?rest1_13_12
          case hy1_13_12 => intro w hSw; (try dsimp only at hSw); first | (go_simp; done) | (go_simp; with_reducible rfl)
          try simp only [Act.put, List.setIfInBounds_toArray, List.set_cons_zero, List.set_cons_succ, List.getElem_toArray, List.getElem_cons_succ, List.getElem_cons_zero]
          refine wpAnyH_ready (rs := [12]) (by kernel_rfl) (by simp) (AllReadyH.cons rfl (fun K hK => ?_) (AllReadyH.nil))
          go_simp
          refine (ffromInt_v a.num _ b1 b2).mono ?_
          rintro e w92 ⟨sq, Aq, nq, cq, tq, Bq, mq, dq, rfl, hq, hb⟩
          replace hE := hE.step hb
          clear hb
          replace hE := hE.fv hq
          clear hq
          go_wp2_with fail
          refine hK.out _ _ (⟨(hE.here.1.1.1.1.1.1.1.1.1.1.1.1.1.1.1.2).c2.1, (hE.here.1.1.1.1.1.1.1.1.1.1.1.1.1.1.1.2).c2.2, (hE.here.1.1.1.1.1.1.1.1.1.1.1.1.1.2).c2.1, (hE.here.1.1.1.1.1.1.1.1.1.1.1.1.1.2).c2.2, (hE.here.1.1.1.1.1.1.1.1.1.1.1.1.1.1.1.1.1.1.1.1.2).c4.1, (hE.here.1.1.1.1.1.1.1.1.1.1.1.1.1.1.1.1.1.1.1.1.2).c4.2.1, (hE.here.1.1.1.1.1.1.1.1.1.1.1.1.1.1.1.1.1.1.1.1.2).c4.2.2.1, (hE.here.1.1.1.1.1.1.1.1.1.1.1.1.1.1.1.1.1.1.1.1.2).c4.2.2.2⟩) (fun hHeld => ?_)
          clear hK K
          try simp only [Act.put, List.setIfInBounds_toArray, List.set_cons_zero, List.set_cons_succ, List.getElem_toArray, List.getElem_cons_succ, List.getElem_cons_zero]
          refine wpAnyH_ready (rs := [14]) (by kernel_rfl) (by simp) (AllReadyH.cons rfl (fun K hK => ?_) (AllReadyH.nil))
          go_simp
          have hc := fcmp_v (ca := cq) (da := dq) (cb := ca) (db := da) (hE.here.2) (hE.here.1.1.1.1.1.1.1.1.1.1.1.1.1.1.1.1.1.1.1.2) (fl_le2 (show fl ((a.num : Int) : Rat) ≤ 40 by rw [Hhnum.out]; exact la) (by decide)) (fl_le2 la (by decide))
          rw [show cmpQ ((a.num : Int) : Rat) a = 0 by rw [Hhnum.out, cmpQ_val]; grind] at hc
          refine (hc).mono ?_
          rintro e w93 ⟨rfl, hb⟩
          replace hE := hE.step hb
          clear hb
          clear hc
          go_wp2_with fail
          refine hK.out _ _ (⟨(hE.here.1.1.1.1.1.1.1.1.1.1.1.1.1.1.1.2).c2.1, (hE.here.1.1.1.1.1.1.1.1.1.1.1.1.1.1.1.2).c2.2, (hE.here.1.1.1.1.1.1.1.1.1.1.1.1.1.2).c2.1, (hE.here.1.1.1.1.1.1.1.1.1.1.1.1.1.2).c2.2, (hE.here.1.1.1.1.1.1.1.1.1.1.1.1.1.1.1.1.1.1.1.1.2).c4.1, (hE.here.1.1.1.1.1.1.1.1.1.1.1.1.1.1.1.1.1.1.1.1.2).c4.2.1, (hE.here.1.1.1.1.1.1.1.1.1.1.1.1.1.1.1.1.1.1.1.1.2).c4.2.2.1, (hE.here.1.1.1.1.1.1.1.1.1.1.1.1.1.1.1.1.1.1.1.1.2).c4.2.2.2⟩) (fun hHeld => ?_)
          clear hK K
          try simp only [Act.put, List.setIfInBounds_toArray, List.set_cons_zero, List.set_cons_succ, List.getElem_toArray, List.getElem_cons_succ, List.getElem_cons_zero]
          refine wpAnyH_take (i := 15) (v := ?v1_15_13) rfl (by kernel_rfl) (by kernel_rfl) (by kernel_rfl) (fun _ _ _ h => h) (Or.inl ⟨by rfl, ?hy1_15_13⟩) (by assumption) ?rest1_15_13
          case hy1_15_13 => intro w hSw; (try dsimp only at hSw); first | (go_simp; done) | (go_simp; with_reducible rfl)
          try simp only [Act.put, List.setIfInBounds_toArray, List.set_cons_zero, List.set_cons_succ, List.getElem_toArray, List.getElem_cons_succ, List.getElem_cons_zero]
          refine wpAnyH_take (i := 16) (v := ?v1_16_14) rfl (by kernel_rfl) (by kernel_rfl) (by kernel_rfl) (fun _ _ _ h => h) (Or.inl ⟨by rfl, ?hy1_16_14⟩) (by assumption) ?rest1_16_14
          case hy1_16_14 => intro w hSw; (try dsimp only at hSw); first | (go_simp; done) | (go_simp; with_reducible rfl)
          try simp only [Act.put, List.setIfInBounds_toArray, List.set_cons_zero, List.set_cons_succ, List.getElem_toArray, List.getElem_cons_succ, List.getElem_cons_zero]
          refine wpAnyH_take (i := 17) (v := ?v1_17_15) rfl (by kernel_rfl) (by kernel_rfl) (by kernel_rfl) (fun _ _ _ h => h) (Or.inl ⟨by rfl, ?hy1_17_15⟩) (by assumption) ?rest1_17_15
          case hy1_17_15 => intro w hSw; (try dsimp only at hSw); first | (go_simp; done) | (go_simp; with_reducible rfl)
          try simp only [Act.put, List.setIfInBounds_toArray, List.set_cons_zero, List.set_cons_succ, List.getElem_toArray, List.getElem_cons_succ, List.getElem_cons_zero]
          refine wpAnyH_take (i := 18) (v := ?v1_18_16) rfl (by kernel_rfl) (by kernel_rfl) (by kernel_rfl) (fun _ _ _ h => h) (Or.inl ⟨by rfl, ?hy1_18_16⟩) (by assumption) ?rest1_18_16
          case hy1_18_16 => intro w hSw; (try dsimp only at hSw); first | (go_simp; done) | (go_simp; with_reducible rfl)
          try simp only [Act.put, List.setIfInBounds_toArray, List.set_cons_zero, List.set_cons_succ, List.getElem_toArray, List.getElem_cons_succ, List.getElem_cons_zero]
          refine wpAnyH_done (by kernel_rfl) ?_ _
          go_wp2_with fail
          go_ret
          exact ⟨rfl, hE.bel⟩
        · clear hf
          go_upto_region 21 with (fail)
          replace hE := hE.drew
          refine wp_region_held_drew (S := fun w' => w'.cell? ⟨g14, 0, none⟩ = some (.bool sm) ∧ w'.cell? ⟨g14, 1, none⟩ = some (.slice Am nm cm) ∧ w'.cell? ⟨g20, 0, none⟩ = some (.bool sn) ∧ w'.cell? ⟨g20, 1, none⟩ = some (.slice An nn cn)) (by kernel_rfl) (⟨(hE.here.1.1.1.1.1.1.1.1.1.1.1.1.1.1.2).c2.1, (hE.here.1.1.1.1.1.1.1.1.1.1.1.1.1.1.2).c2.2, (hE.here.1.1.1.1.1.1.1.1.1.1.1.1.2).c2.1, (hE.here.1.1.1.1.1.1.1.1.1.1.1.1.2).c2.2⟩) (fun hHeld => ?_)
          refine wpAnyH_take (i := 0) (v := ?v2_0_1) rfl (by kernel_rfl) (by kernel_rfl) (by kernel_rfl) (fun _ _ _ h => h) (Or.inl ⟨by rfl, ?hy2_0_1⟩) (by assumption) ?rest2_0_1
          case hy2_0_1 => intro w hSw; (try dsimp only at hSw); first | (go_simp; done) | (go_simp; with_reducible rfl)
          try simp only [Act.put, List.setIfInBounds_toArray, List.set_cons_zero, List.set_cons_succ, List.getElem_toArray, List.getElem_cons_succ, List.getElem_cons_zero]
          refine wpAnyH_take (i := 1) (v := ?v2_1_2) rfl (by kernel_rfl) (by kernel_rfl) (by kernel_rfl) (fun _ _ _ h => h) (Or.inl ⟨by rfl, ?hy2_1_2⟩) (by assumption) ?rest2_1_2
          case hy2_1_2 => intro w hSw; (try dsimp only at hSw); first | (go_simp; done) | (go_simp; with_reducible rfl)
          try simp only [Act.put, List.setIfInBounds_toArray, List.set_cons_zero, List.set_cons_succ, List.getElem_toArray, List.getElem_cons_succ, List.getElem_cons_zero]
          refine wpAnyH_ready (rs := [2]) (by kernel_rfl) (by simp) (AllReadyH.cons rfl (fun K hK => ?_) (AllReadyH.nil))
          go_simp
          have hc := same_v (c := cm) (d := cn) (hE.here.1.1.1.1.1.1.1.1.1.1.1.1.1.1.1.2) (hE.here.1.1.1.1.1.1.1.1.1.1.1.1.1.2) (by omega) (by omega)
          rw [decide_eq_true HhFC.out] at hc
          refine (hc).mono ?_
          rintro e w94 ⟨rfl, hb⟩
          replace hE := hE.step hb
          clear hb
          clear hc
          go_wp2_with fail
          refine hK.out _ _ (⟨(hE.here.1.1.1.1.1.1.1.1.1.1.1.1.1.1.2).c2.1, (hE.here.1.1.1.1.1.1.1.1.1.1.1.1.1.1.2).c2.2, (hE.here.1.1.1.1.1.1.1.1.1.1.1.1.2).c2.1, (hE.here.1.1.1.1.1.1.1.1.1.1.1.1.2).c2.2⟩) (fun hHeld => ?_)
          clear hK K
          try simp only [Act.put, List.setIfInBounds_toArray, List.set_cons_zero, List.set_cons_succ, List.getElem_toArray, List.getElem_cons_succ, List.getElem_cons_zero]
          refine wpAnyH_take (i := 3) (v := ?v2_3_3) rfl (by kernel_rfl) (by kernel_rfl) (by kernel_rfl) (fun _ _ _ h => h) (Or.inl ⟨by rfl, ?hy2_3_3⟩) (by assumption) ?rest2_3_3
          case hy2_3_3 => intro w hSw; (try dsimp only at hSw); first | (go_simp; done) | (go_simp; with_reducible rfl)
          try simp only [Act.put, List.setIfInBounds_toArray, List.set_cons_zero, List.set_cons_succ, List.getElem_toArray, List.getElem_cons_succ, List.getElem_cons_zero]
          refine wpAnyH_take (i := 4) (v := ?v2_4_4) rfl (by kernel_rfl) (by kernel_rfl) (by kernel_rfl) (fun _ _ _ h => h) (Or.inl ⟨by rfl, ?hy2_4_4⟩) (by assumption) ?rest2_4_4
          case hy2_4_4 => intro w hSw; (try dsimp only at hSw); first | (go_simp; done) | (go_simp; with_reducible rfl)
          try simp only [Act.put, List.setIfInBounds_toArray, List.set_cons_zero, List.set_cons_succ, List.getElem_toArray, List.getElem_cons_succ, List.getElem_cons_zero]
          refine wpAnyH_take (i := 5) (v := ?v2_5_5) rfl (by kernel_rfl) (by kernel_rfl) (by kernel_rfl) (fun _ _ _ h => h) (Or.inl ⟨by rfl, ?hy2_5_5⟩) (by assumption) ?rest2_5_5
          case hy2_5_5 => intro w hSw; (try dsimp only at hSw); first | (go_simp; done) | (go_simp; with_reducible rfl)
          try simp only [Act.put, List.setIfInBounds_toArray, List.set_cons_zero, List.set_cons_succ, List.getElem_toArray, List.getElem_cons_succ, List.getElem_cons_zero]
          refine wpAnyH_take (i := 6) (v := ?v2_6_6) rfl (by kernel_rfl) (by kernel_rfl) (by kernel_rfl) (fun _ _ _ h => h) (Or.inl ⟨by rfl, ?hy2_6_6⟩) (by assumption) ?rest2_6_6
          case hy2_6_6 => intro w hSw; (try dsimp only at hSw); first | (go_simp; done) | (go_simp; with_reducible rfl)
          try simp only [Act.put, List.setIfInBounds_toArray, List.set_cons_zero, List.set_cons_succ, List.getElem_toArray, List.getElem_cons_succ, List.getElem_cons_zero]
          refine wpAnyH_take (i := 7) (v := ?v2_7_7) rfl (by kernel_rfl) (by kernel_rfl) (by kernel_rfl) (fun _ _ _ h => h) (Or.inl ⟨by rfl, ?hy2_7_7⟩) (by assumption) ?rest2_7_7
          case hy2_7_7 => intro w hSw; (try dsimp only at hSw); first | (go_simp; done) | (go_simp; with_reducible rfl)
          try simp only [Act.put, List.setIfInBounds_toArray, List.set_cons_zero, List.set_cons_succ, List.getElem_toArray, List.getElem_cons_succ, List.getElem_cons_zero]
          refine wpAnyH_take (i := 8) (v := ?v2_8_8) rfl (by kernel_rfl) (by kernel_rfl) (by kernel_rfl) (fun _ _ _ h => h) (Or.inl ⟨by rfl, ?hy2_8_8⟩) (by assumption) ?rest2_8_8
          case hy2_8_8 => intro w hSw; (try dsimp only at hSw); first | (go_simp; done) | (go_simp; with_reducible rfl)
          try simp only [Act.put, List.setIfInBounds_toArray, List.set_cons_zero, List.set_cons_succ, List.getElem_toArray, List.getElem_cons_succ, List.getElem_cons_zero]
          refine wpAnyH_take (i := 9) (v := ?v2_9_9) rfl (by kernel_rfl) (by kernel_rfl) (by kernel_rfl) (fun _ _ _ h => h) (Or.inl ⟨by rfl, ?hy2_9_9⟩) (by assumption) ?rest2_9_9
          case hy2_9_9 => intro w hSw; (try dsimp only at hSw); first | (go_simp; done) | (go_simp; with_reducible rfl)
          try simp only [Act.put, List.setIfInBounds_toArray, List.set_cons_zero, List.set_cons_succ, List.getElem_toArray, List.getElem_cons_succ, List.getElem_cons_zero]
          refine wpAnyH_take (i := 10) (v := ?v2_10_10) rfl (by kernel_rfl) (by kernel_rfl) (by kernel_rfl) (fun _ _ _ h => h) (Or.inl ⟨by rfl, ?hy2_10_10⟩) (by assumption) ?rest2_10_10
          case hy2_10_10 => intro w hSw; (try dsimp only at hSw); first | (go_simp; done) | (go_simp; with_reducible rfl)
          try simp only [Act.put, List.setIfInBounds_toArray, List.set_cons_zero, List.set_cons_succ, List.getElem_toArray, List.getElem_cons_succ, List.getElem_cons_zero]
          refine wpAnyH_take (i := 11) (v := undef) rfl (by kernel_rfl) (by kernel_rfl) (by kernel_rfl) (fun _ _ _ h => h) (Or.inr ⟨by rfl, rfl⟩) (by assumption) ?rest2_11_11
          try simp only [Act.put, List.setIfInBounds_toArray, List.set_cons_zero, List.set_cons_succ, List.getElem_toArray, List.getElem_cons_succ, List.getElem_cons_zero]
          refine wpAnyH_take (i := 12) (v := undef) rfl (by kernel_rfl) (by kernel_rfl) (by kernel_rfl) (fun _ _ _ h => h) (Or.inr ⟨by rfl, rfl⟩) (by assumption) ?rest2_12_12
          try simp only [Act.put, List.setIfInBounds_toArray, List.set_cons_zero, List.set_cons_succ, List.getElem_toArray, List.getElem_cons_succ, List.getElem_cons_zero]
          refine wpAnyH_take (i := 13) (v := undef) rfl (by kernel_rfl) (by kernel_rfl) (by kernel_rfl) (fun _ _ _ h => h) (Or.inr ⟨by rfl, rfl⟩) (by assumption) ?rest2_13_13
          try simp only [Act.put, List.setIfInBounds_toArray, List.set_cons_zero, List.set_cons_succ, List.getElem_toArray, List.getElem_cons_succ, List.getElem_cons_zero]
          refine wpAnyH_take (i := 14) (v := undef) rfl (by kernel_rfl) (by kernel_rfl) (by kernel_rfl) (fun _ _ _ h => h) (Or.inr ⟨by rfl, rfl⟩) (by assumption) ?rest2_14_14
          try simp only [Act.put, List.setIfInBounds_toArray, List.set_cons_zero, List.set_cons_succ, List.getElem_toArray, List.getElem_cons_succ, List.getElem_cons_zero]
          refine wpAnyH_take (i := 15) (v := undef) rfl (by kernel_rfl) (by kernel_rfl) (by kernel_rfl) (fun _ _ _ h => h) (Or.inr ⟨by rfl, rfl⟩) (by assumption) ?rest2_15_15
          try simp only [Act.put, List.setIfInBounds_toArray, List.set_cons_zero, List.set_cons_succ, List.getElem_toArray, List.getElem_cons_succ, List.getElem_cons_zero]
          refine wpAnyH_take (i := 16) (v := ?v2_16_16) rfl (by kernel_rfl) (by kernel_rfl) (by kernel_rfl) (fun _ _ _ h => h) (Or.inl ⟨by rfl, ?hy2_16_16⟩) (by assumption) ?rest2_16_16
          case hy2_16_16 => intro w hSw; (try dsimp only at hSw); first | (go_simp; done) | (go_simp; with_reducible rfl)
          try simp only [Act.put, List.setIfInBounds_toArray, List.set_cons_zero, List.set_cons_succ, List.getElem_toArray, List.getElem_cons_succ, List.getElem_cons_zero]
          refine wpAnyH_take (i := 17) (v := ?v2_17_17) rfl (by kernel_rfl) (by kernel_rfl) (by kernel_rfl) (fun _ _ _ h => h) (Or.inl ⟨by rfl, ?hy2_17_17⟩) (by assumption) ?rest2_17_17
          case hy2_17_17 => intro w hSw; (try dsimp only at hSw); first | (go_simp; done) | (go_simp; with_reducible rfl)
          try simp only [Act.put, List.setIfInBounds_toArray, List.set_cons_zero, List.set_cons_succ, List.getElem_toArray, List.getElem_cons_succ, List.getElem_cons_zero]
          refine wpAnyH_take (i := 18) (v := ?v2_18_18) rfl (by kernel_rfl) (by kernel_rfl) (by kernel_rfl) (fun _ _ _ h => h) (Or.inl ⟨by rfl, ?hy2_18_18⟩) (by assumption) ?rest2_18_18
          case hy2_18_18 => intro w hSw; (try dsimp only at hSw); first | (go_simp; done) | (go_simp; with_reducible rfl)
          try simp only [Act.put, List.setIfInBounds_toArray, List.set_cons_zero, List.set_cons_succ, List.getElem_toArray, List.getElem_cons_succ, List.getElem_cons_zero]
          refine wpAnyH_done (by kernel_rfl) ?_ _
          go_wp2_with fail
          go_ret
          exact ⟨rfl, hE.bel⟩
      · exact absurd h1 hx
    · skip
      obtain ⟨k95, k96, k97, k98⟩ := (hE.here.1.1.1.1.1.1.2).c4
      obtain ⟨k99, k100, k101, k102⟩ := (hE.here.1.1.1.1.1.1.1.1.1.1.1.1.1.1.1.1.1.1.1.2).c4
      go_wp2_with fail
      have hc := fcmp_v (ca := cl) (da := dl) (cb := ca) (db := da) (hE.here.1.1.1.1.1.1.1.2) (hE.here.1.1.1.1.1.1.1.1.1.1.1.1.1.1.1.1.1.1.2) (fl_le2 (fl_int HlF.out (by decide)) (by decide)) (fl_le2 la (by decide))
      rw [floorQ_cmp2 h1] at hc
      refine (hc).mono ?_
      clear k95 k96 k97 k98 k99 k100 k101 k102
      rintro e w103 ⟨rfl, hb⟩
      replace hE := hE.step hb
      clear hb
      clear hc
      obtain ⟨k104, k105, k106, k107⟩ := (hE.here.1.1.1.1.1.1.1.1.1.1.1.1.1.1.1.1.1.1.1.2).c4
      go_wp2_with fail
      refine (fint_v (ca := ca) (da := da) hE.here.1.1.1.1.1.1.1.1.1.1.1.1.1.1.1.1.1.1.2 (fl_le2 la (by decide))).mono ?_
      clear k104 k105 k106 k107
      rintro e w108 ⟨r, k, rfl, hr, hb⟩
      replace hE := hE.step hb
      clear hb
      have hFC : floorQ a + 1 = ceilQ a := by rw [ceilQ_val, if_neg h1]
      have HhFC := Lib.hid hFC
      clear hFC
      obtain ⟨rfl, rfl⟩ : r = 0 ∧ k = 22 := by rcases hr with ⟨hx, -⟩ | ⟨-, h⟩; exact absurd hx h1; exact h
      clear hr
      obtain ⟨k109, k110⟩ := (hE.here.1.1.2).c2
      obtain ⟨k111, k112⟩ := (hE.here.1.1.1.1.1.1.1.1.1.1.1.1.2).c2
      go_wp2_with fail
      have hc := same_v (c := cx) (d := cn) (hE.here.1.1.1.2) (hE.here.1.1.1.1.1.1.1.1.1.1.1.1.1.2) (by omega) (by omega)
      rw [decide_eq_true HhFC.out] at hc
      refine (hc).mono ?_
      clear k109 k110 k111 k112
      rintro e w113 ⟨rfl, hb⟩
      replace hE := hE.step hb
      clear hb
      clear hc
      obtain ⟨k114, k115, k116, k117⟩ := (hE.here.1.1.1.1.2).c4
      obtain ⟨k118, k119, k120, k121⟩ := (hE.here.1.1.1.1.1.1.1.1.1.1.1.1.1.1.1.1.1.1.1.2).c4
      go_wp2_with fail
      have hc := fcmp_v (ca := ch) (da := dh) (cb := ca) (db := da) (hE.here.1.1.1.1.1.2) (hE.here.1.1.1.1.1.1.1.1.1.1.1.1.1.1.1.1.1.1.2) (fl_le2 (fl_int HlC.out (by decide)) (by decide)) (fl_le2 la (by decide))
      rw [ceilQ_gt h1] at hc
      refine (hc).mono ?_
      clear k114 k115 k116 k117 k118 k119 k120 k121
      rintro e w122 ⟨rfl, hb⟩
      replace hE := hE.step hb
      clear hb
      clear hc
      go_wp2_with fail
      go_ret
      exact ⟨rfl, hE.bel⟩
end Go.Proofs.YtifikcemcflgjaaGreat
