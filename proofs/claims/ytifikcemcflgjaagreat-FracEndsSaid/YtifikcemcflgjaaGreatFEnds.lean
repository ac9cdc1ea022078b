/-
  The walk of FracEnds.
-/
import Derived.Test.YtifikcemcflgjaaGreatGY
import Derived.Test.YtifikcemcflgjaaGreatK10
import Derived.Test.YtifikcemcflgjaaGreatGA
namespace Go.Proofs.YtifikcemcflgjaaGreat
open Go.RowKit

theorem en_fl {z : Int} (h : ln b16 z.natAbs ≤ 4) : fl ((z : Int) : Rat) ≤ 4 := by
  rw [fl_le, Rat.num_intCast, Rat.den_intCast]
  exact ⟨h, by decide⟩
theorem en_two : Rat.divInt 2 1 = 2 ∧ Rat.divInt 1 2 = (1 / 2 : Rat) ∧ Rat.divInt (-2) 1 = -2 ∧ Rat.divInt (-1) 1 = -1 ∧ Rat.divInt 0 1 = 0 ∧ Rat.divInt 1 1 = 1 := by decide +kernel
theorem en_fls : fl 2 ≤ 1 ∧ fl (1 / 2 : Rat) ≤ 1 ∧ fl (-2) ≤ 1 ∧ fl (-1) ≤ 1 ∧ fl 0 ≤ 1 ∧ fl 1 ≤ 1 := by
  refine ⟨?_, ?_, ?_, ?_, ?_, ?_⟩ <;> rw [fl_le] <;> exact ⟨by decide +kernel, by decide +kernel⟩
theorem en_nums : (2 : Rat).num ≠ 0 ∧ (-2 : Rat).num ≠ 0 ∧ (-1 : Rat).num ≠ 0 ∧ (0 : Rat).num = 0 ∧ (1 / 2 : Rat).den = 2 ∧ ((-2 : Rat)⁻¹).den = 2 := by decide +kernel
set_option linter.unusedSimpArgs false in
set_option maxRecDepth 100000 in
set_option maxHeartbeats 16000000 in
theorem fends_walk {k0 : Int} {w : World} (hlt : 0 < w.heap.size) (hm : w.cell? ⟨0, 0, none⟩ = some (.int .i64 k0)) :
    Calls Tryz.prog 9 #[] w (fun e w' => e = .returned (.bool true) ∧ Below w.heap.size w w') := by
  obtain ⟨Ka, hKa⟩ : ∃ k : Int, k = 4095 := ⟨_, rfl⟩
  obtain ⟨Kf, hKf⟩ : ∃ k : Int, k = 4096 := ⟨_, rfl⟩
  obtain ⟨Kb, hKb⟩ : ∃ k : Int, k = -4095 := ⟨_, rfl⟩
  obtain ⟨Kl, hKl⟩ : ∃ k : Int, k = -9223372036854775808 := ⟨_, rfl⟩
  obtain ⟨Km, hKm⟩ : ∃ k : Int, k = 9223372036854775807 := ⟨_, rfl⟩
  obtain ⟨q2, q12, qm2, qm1, q0, q1⟩ := en_two
  obtain ⟨f2, f12, fm2, fm1, f0, f1⟩ := en_fls
  obtain ⟨n2, nm2, nm1, n0, d12, dm2⟩ := en_nums
  obtain ⟨X, hX⟩ : ∃ X, X = (2 : Rat) ^ Ka := ⟨_, rfl⟩
  obtain ⟨Y, hY⟩ : ∃ X, X = (2 : Rat) ^ Kb := ⟨_, rfl⟩
  have lX : fl X ≤ 256 := by rw [hX]; exact fl_two_z (k := 256) (by omega) (by decide)
  have lY : fl Y ≤ 256 := by rw [hY]; exact fl_two_z (k := 256) (by omega) (by decide)
  have hXY : X * Y = 1 := by rw [hX, hY, show Kb = -Ka by omega]; exact zpow_opp (num_ne.1 n2) Ka
  have g1 : 256 < fl ((2 : Rat) ^ Kf) := long_two (by omega)
  have g2 : 256 < fl ((1 / 2 : Rat) ^ Kf) := long_half d12 (by omega)
  have g3 : 256 < fl ((-2 : Rat) ^ Kl) := long_neg nm2 dm2 (by omega)
  have g4 : (1 : Rat) = (-1) ^ Kl := (neg1_even (j := -4611686018427387904) (by omega)).symm
  have g5 : (-1 : Rat) = (-1) ^ Km := (neg1_odd (j := 4611686018427387903) (by omega)).symm
  have g6 : (0 : Rat) = 0 ^ Km := (zero_zpow (by omega)).symm
  have HhX := Lib.hid hX
  clear hX
  have HhY := Lib.hid hY
  clear hY
  have HhXY := Lib.hid hXY
  clear hXY
  have Hg1 := Lib.hid g1
  clear g1
  have Hg2 := Lib.hid g2
  clear g2
  have Hg3 := Lib.hid g3
  clear g3
  have Hg4 := Lib.hid g4
  clear g4
  have Hg5 := Lib.hid g5
  clear g5
  have Hg6 := Lib.hid g6
  clear g6
  have Hq2 := Lib.hid q2
  clear q2
  have Hq12 := Lib.hid q12
  clear q12
  have Hqm2 := Lib.hid qm2
  clear qm2
  have Hqm1 := Lib.hid qm1
  clear qm1
  have Hq0 := Lib.hid q0
  clear q0
  have Hq1 := Lib.hid q1
  clear q1
  have Hn2 := Lib.hid n2
  clear n2
  have Hnm2 := Lib.hid nm2
  clear nm2
  have Hnm1 := Lib.hid nm1
  clear nm1
  have Hn0 := Lib.hid n0
  clear n0
  have Hd12 := Lib.hid d12
  clear d12
  have Hdm2 := Lib.hid dm2
  clear dm2
  have HhKa := Lib.hid hKa
  clear hKa
  have HhKf := Lib.hid hKf
  clear hKf
  have HhKb := Lib.hid hKb
  clear hKb
  have HhKl := Lib.hid hKl
  clear hKl
  have HhKm := Lib.hid hKm
  clear hKm
  have hE := (Env.start w).at_ hlt hm
  go_enter Tryz.func9, Tryz.ntmps9
  go_upto_region 1 with (fail)
  go_wp2_with fail
  have hc := law_quick 2 1 w (by decide) (by decide) (by decide) (by decide) (by decide)
  rw [Hq2.out] at hc
  refine (hc).mono ?_
  rintro e w1 ⟨sq1, Aq1, nq1, cq1, tq1, Bq1, mq1, dq1, rfl, hq1, hb⟩
  replace hE := hE.step hb
  clear hb
  replace hE := hE.fv hq1
  clear hq1
  clear hc
  go_wp2_with fail
  refine (fpow_zz (ca := cq1) (da := dq1) (hE.here.2) (fl_le2 f2 (by decide)) 4095 Ka HhKa.out (by rw [HhKa.out]; decide) (by rw [HhKa.out]; decide) (fun _ => Hn2.out) X HhX.out lX).mono ?_
  rintro e w2 ⟨sa, Aa, na, ca, ta, Ba, ma, da, rfl, ha, hb⟩
  replace hE := hE.step hb
  clear hb
  replace hE := hE.fv ha
  clear ha
  go_upto_region 3 with (fail)
  replace hE := (((Env.again hE.bel).atI hE.here.1.1.2).fv hE.here.2)
  obtain ⟨g3, hg3⟩ : ∃ g3, g3 = w2.heap.size := ⟨_, rfl⟩
  replace hE := hE.blk 26 #[.bool sa, .slice Aa na ca, .bool ta, .slice Ba ma da] (g := g3) hg3.symm
  generalize w2.alloc (.cells #[.bool sa, .slice Aa na ca, .bool ta, .slice Ba ma da] 26) = W3 at hE ⊢
  rw [← hg3]
  clear hg3
  go_wp2_with fail
  have hc := law_quick 2 1 W3 (by decide) (by decide) (by decide) (by decide) (by decide)
  rw [Hq2.out] at hc
  refine (hc).mono ?_
  rintro e w4 ⟨sq2, Aq2, nq2, cq2, tq2, Bq2, mq2, dq2, rfl, hq2, hb⟩
  replace hE := hE.step hb
  clear hb
  replace hE := hE.fv hq2
  clear hq2
  clear hc
  go_wp2_with fail
  refine (fpow_lz (ca := cq2) (da := dq2) (hE.here.2) (fl_le2 f2 (by decide)) 4096 Kf HhKf.out (by rw [HhKf.out]; decide) (by rw [HhKf.out]; decide) (fun _ => Hn2.out) Hg1.out).mono ?_
  rintro e w5 ⟨rfl, hb⟩
  replace hE := hE.step hb
  clear hb
  go_upto_region 4 with (fail)
  replace hE := ((((Env.again hE.bel).atI hE.here.1.1.1.2).fv hE.here.1.1.2).blkI hE.here.1.2)
  obtain ⟨g6, hg6⟩ : ∃ g6, g6 = w5.heap.size := ⟨_, rfl⟩
  have hl6_2 : g3 < g6 := by rw [hg6]; exact (hE.here.2).lt
  replace hE := hE.blk 26 #[.bool false, .slice none 0 0, .bool false, .slice none 0 0] (g := g6) hg6.symm
  generalize w5.alloc (.cells #[.bool false, .slice none 0 0, .bool false, .slice none 0 0] 26) = W6 at hE ⊢
  rw [← hg6]
  clear hg6
  replace hE := ((((Env.again hE.bel).atI hE.here.1.1.1.2).fv hE.here.1.1.2).blkI hE.here.1.2)
  go_wp2_with fail
  have hc := law_quick 1 2 W6 (by decide) (by decide) (by decide) (by decide) (by decide)
  rw [Hq12.out] at hc
  refine (hc).mono ?_
  rintro e w7 ⟨sq3, Aq3, nq3, cq3, tq3, Bq3, mq3, dq3, rfl, hq3, hb⟩
  replace hE := hE.step hb
  clear hb
  replace hE := hE.fv hq3
  clear hq3
  clear hc
  go_wp2_with fail
  refine (fpow_lz (ca := cq3) (da := dq3) (hE.here.2) (fl_le2 f12 (by decide)) 4096 Kf HhKf.out (by rw [HhKf.out]; decide) (by rw [HhKf.out]; decide) (fun h => absurd h (by rw [HhKf.out]; decide)) Hg2.out).mono ?_
  rintro e w8 ⟨rfl, hb⟩
  replace hE := hE.step hb
  clear hb
  go_upto_region 5 with (fail)
  replace hE := ((((Env.again hE.bel).atI hE.here.1.1.1.2).fv hE.here.1.1.2).blkI hE.here.1.2)
  obtain ⟨g9, hg9⟩ : ∃ g9, g9 = w8.heap.size := ⟨_, rfl⟩
  have hl9_2 : g3 < g9 := by rw [hg9]; exact (hE.here.2).lt
  replace hE := hE.blk 26 #[.bool false, .slice none 0 0, .bool false, .slice none 0 0] (g := g9) hg9.symm
  generalize w8.alloc (.cells #[.bool false, .slice none 0 0, .bool false, .slice none 0 0] 26) = W9 at hE ⊢
  rw [← hg9]
  clear hg9
  replace hE := ((((Env.again hE.bel).atI hE.here.1.1.1.2).fv hE.here.1.1.2).blkI hE.here.1.2)
  go_wp2_with fail
  have hc := law_quick 2 1 W9 (by decide) (by decide) (by decide) (by decide) (by decide)
  rw [Hq2.out] at hc
  refine (hc).mono ?_
  rintro e w10 ⟨sq4, Aq4, nq4, cq4, tq4, Bq4, mq4, dq4, rfl, hq4, hb⟩
  replace hE := hE.step hb
  clear hb
  replace hE := hE.fv hq4
  clear hq4
  clear hc
  go_wp2_with fail
  refine (fpow_zz (ca := cq4) (da := dq4) (hE.here.2) (fl_le2 f2 (by decide)) (-4095) Kb HhKb.out (by rw [HhKb.out]; decide) (by rw [HhKb.out]; decide) (fun _ => Hn2.out) Y HhY.out lY).mono ?_
  rintro e w11 ⟨sb, Ab, nb, cb, tb, Bb, mb, db, rfl, hb, hb⟩
  replace hE := hE.step hb
  clear hb
  replace hE := hE.fv hb
  clear hb
  go_upto_region 6 with (fail)
  replace hE := (((((Env.again hE.bel).atI hE.here.1.1.1.1.2).fv hE.here.1.1.1.2).blkI hE.here.1.1.2).fv hE.here.2)
  obtain ⟨g12, hg12⟩ : ∃ g12, g12 = w11.heap.size := ⟨_, rfl⟩
  have hl12_2 : g3 < g12 := by rw [hg12]; exact (hE.here.1.2).lt
  replace hE := hE.blk 26 #[.bool sb, .slice Ab nb cb, .bool tb, .slice Bb mb db] (g := g12) hg12.symm
  generalize w11.alloc (.cells #[.bool sb, .slice Ab nb cb, .bool tb, .slice Bb mb db] 26) = W12 at hE ⊢
  rw [← hg12]
  clear hg12
  go_wp2_with fail
  have hc := law_quick (-2) 1 W12 (by decide) (by decide) (by decide) (by decide) (by decide)
  rw [Hqm2.out] at hc
  refine (hc).mono ?_
  rintro e w13 ⟨sq5, Aq5, nq5, cq5, tq5, Bq5, mq5, dq5, rfl, hq5, hb⟩
  replace hE := hE.step hb
  clear hb
  replace hE := hE.fv hq5
  clear hq5
  clear hc
  go_wp2_with fail
  refine (fpow_lz (ca := cq5) (da := dq5) (hE.here.2) (fl_le2 fm2 (by decide)) (-9223372036854775808) Kl HhKl.out (by rw [HhKl.out]; decide) (by rw [HhKl.out]; decide) (fun _ => Hnm2.out) Hg3.out).mono ?_
  rintro e w14 ⟨rfl, hb⟩
  replace hE := hE.step hb
  clear hb
  go_upto_region 7 with (fail)
  replace hE := ((((((Env.again hE.bel).atI hE.here.1.1.1.1.1.2).fv hE.here.1.1.1.1.2).blkI hE.here.1.1.1.2).fv hE.here.1.1.2).blkI hE.here.1.2)
  obtain ⟨g15, hg15⟩ : ∃ g15, g15 = w14.heap.size := ⟨_, rfl⟩
  have hl15_2 : g3 < g15 := by rw [hg15]; exact (hE.here.1.1.2).lt
  have hl15_4 : g12 < g15 := by rw [hg15]; exact (hE.here.2).lt
  replace hE := hE.blk 26 #[.bool false, .slice none 0 0, .bool false, .slice none 0 0] (g := g15) hg15.symm
  generalize w14.alloc (.cells #[.bool false, .slice none 0 0, .bool false, .slice none 0 0] 26) = W15 at hE ⊢
  rw [← hg15]
  clear hg15
  replace hE := ((((((Env.again hE.bel).atI hE.here.1.1.1.1.1.2).fv hE.here.1.1.1.1.2).blkI hE.here.1.1.1.2).fv hE.here.1.1.2).blkI hE.here.1.2)
  go_wp2_with fail
  have hc := law_quick (-1) 1 W15 (by decide) (by decide) (by decide) (by decide) (by decide)
  rw [Hqm1.out] at hc
  refine (hc).mono ?_
  rintro e w16 ⟨sq6, Aq6, nq6, cq6, tq6, Bq6, mq6, dq6, rfl, hq6, hb⟩
  replace hE := hE.step hb
  clear hb
  replace hE := hE.fv hq6
  clear hq6
  clear hc
  go_wp2_with fail
  refine (fpow_zz (ca := cq6) (da := dq6) (hE.here.2) (fl_le2 fm1 (by decide)) (-9223372036854775808) Kl HhKl.out (by rw [HhKl.out]; decide) (by rw [HhKl.out]; decide) (fun _ => Hnm1.out) 1 Hg4.out (fl_le2 f1 (by decide))).mono ?_
  rintro e w17 ⟨sc, Ac, nc, cc, tc, Bc, mc, dc, rfl, hc, hb⟩
  replace hE := hE.step hb
  clear hb
  replace hE := hE.fv hc
  clear hc
  go_upto_region 8 with (fail)
  replace hE := (((((((Env.again hE.bel).atI hE.here.1.1.1.1.1.1.2).fv hE.here.1.1.1.1.1.2).blkI hE.here.1.1.1.1.2).fv hE.here.1.1.1.2).blkI hE.here.1.1.2).fv hE.here.2)
  obtain ⟨g18, hg18⟩ : ∃ g18, g18 = w17.heap.size := ⟨_, rfl⟩
  have hl18_2 : g3 < g18 := by rw [hg18]; exact (hE.here.1.1.1.2).lt
  have hl18_4 : g12 < g18 := by rw [hg18]; exact (hE.here.1.2).lt
  replace hE := hE.blk 26 #[.bool sc, .slice Ac nc cc, .bool tc, .slice Bc mc dc] (g := g18) hg18.symm
  generalize w17.alloc (.cells #[.bool sc, .slice Ac nc cc, .bool tc, .slice Bc mc dc] 26) = W18 at hE ⊢
  rw [← hg18]
  clear hg18
  go_wp2_with fail
  have hc := law_quick (-1) 1 W18 (by decide) (by decide) (by decide) (by decide) (by decide)
  rw [Hqm1.out] at hc
  refine (hc).mono ?_
  rintro e w19 ⟨sq7, Aq7, nq7, cq7, tq7, Bq7, mq7, dq7, rfl, hq7, hb⟩
  replace hE := hE.step hb
  clear hb
  replace hE := hE.fv hq7
  clear hq7
  clear hc
  go_wp2_with fail
  refine (fpow_zz (ca := cq7) (da := dq7) (hE.here.2) (fl_le2 fm1 (by decide)) 9223372036854775807 Km HhKm.out (by rw [HhKm.out]; decide) (by rw [HhKm.out]; decide) (fun _ => Hnm1.out) (-1) Hg5.out (fl_le2 fm1 (by decide))).mono ?_
  rintro e w20 ⟨sd, Ad, nd, cd, td, Bd, md, dd, rfl, hd, hb⟩
  replace hE := hE.step hb
  clear hb
  replace hE := hE.fv hd
  clear hd
  go_upto_region 9 with (fail)
  replace hE := (((((((((Env.again hE.bel).atI hE.here.1.1.1.1.1.1.1.1.2).fv hE.here.1.1.1.1.1.1.1.2).blkI hE.here.1.1.1.1.1.1.2).fv hE.here.1.1.1.1.1.2).blkI hE.here.1.1.1.1.2).fv hE.here.1.1.1.2).blkI hE.here.1.1.2).fv hE.here.2)
  obtain ⟨g21, hg21⟩ : ∃ g21, g21 = w20.heap.size := ⟨_, rfl⟩
  have hl21_2 : g3 < g21 := by rw [hg21]; exact (hE.here.1.1.1.1.1.2).lt
  have hl21_4 : g12 < g21 := by rw [hg21]; exact (hE.here.1.1.1.2).lt
  have hl21_6 : g18 < g21 := by rw [hg21]; exact (hE.here.1.2).lt
  replace hE := hE.blk 26 #[.bool sd, .slice Ad nd cd, .bool td, .slice Bd md dd] (g := g21) hg21.symm
  generalize w20.alloc (.cells #[.bool sd, .slice Ad nd cd, .bool td, .slice Bd md dd] 26) = W21 at hE ⊢
  rw [← hg21]
  clear hg21
  go_wp2_with fail
  have hc := law_quick 0 1 W21 (by decide) (by decide) (by decide) (by decide) (by decide)
  rw [Hq0.out] at hc
  refine (hc).mono ?_
  rintro e w22 ⟨sq8, Aq8, nq8, cq8, tq8, Bq8, mq8, dq8, rfl, hq8, hb⟩
  replace hE := hE.step hb
  clear hb
  replace hE := hE.fv hq8
  clear hq8
  clear hc
  go_wp2_with fail
  refine (fpow_err0 (ca := cq8) (da := dq8) (hE.here.2) (fl_le2 f0 (by decide)) Hn0.out (-9223372036854775808) (by decide)).mono ?_
  rintro e w23 ⟨rfl, hb⟩
  replace hE := hE.step hb
  clear hb
  go_upto_region 10 with (fail)
  replace hE := ((((((((((Env.again hE.bel).atI hE.here.1.1.1.1.1.1.1.1.1.2).fv hE.here.1.1.1.1.1.1.1.1.2).blkI hE.here.1.1.1.1.1.1.1.2).fv hE.here.1.1.1.1.1.1.2).blkI hE.here.1.1.1.1.1.2).fv hE.here.1.1.1.1.2).blkI hE.here.1.1.1.2).fv hE.here.1.1.2).blkI hE.here.1.2)
  obtain ⟨g24, hg24⟩ : ∃ g24, g24 = w23.heap.size := ⟨_, rfl⟩
  have hl24_2 : g3 < g24 := by rw [hg24]; exact (hE.here.1.1.1.1.1.1.2).lt
  have hl24_4 : g12 < g24 := by rw [hg24]; exact (hE.here.1.1.1.1.2).lt
  have hl24_6 : g18 < g24 := by rw [hg24]; exact (hE.here.1.1.2).lt
  have hl24_8 : g21 < g24 := by rw [hg24]; exact (hE.here.2).lt
  replace hE := hE.blk 26 #[.bool false, .slice none 0 0, .bool false, .slice none 0 0] (g := g24) hg24.symm
  generalize w23.alloc (.cells #[.bool false, .slice none 0 0, .bool false, .slice none 0 0] 26) = W24 at hE ⊢
  rw [← hg24]
  clear hg24
  replace hE := ((((((((((Env.again hE.bel).atI hE.here.1.1.1.1.1.1.1.1.1.2).fv hE.here.1.1.1.1.1.1.1.1.2).blkI hE.here.1.1.1.1.1.1.1.2).fv hE.here.1.1.1.1.1.1.2).blkI hE.here.1.1.1.1.1.2).fv hE.here.1.1.1.1.2).blkI hE.here.1.1.1.2).fv hE.here.1.1.2).blkI hE.here.1.2)
  go_wp2_with fail
  have hc := law_quick 0 1 W24 (by decide) (by decide) (by decide) (by decide) (by decide)
  rw [Hq0.out] at hc
  refine (hc).mono ?_
  rintro e w25 ⟨sq9, Aq9, nq9, cq9, tq9, Bq9, mq9, dq9, rfl, hq9, hb⟩
  replace hE := hE.step hb
  clear hb
  replace hE := hE.fv hq9
  clear hq9
  clear hc
  go_wp2_with fail
  refine (fpow_zz (ca := cq9) (da := dq9) (hE.here.2) (fl_le2 f0 (by decide)) 9223372036854775807 Km HhKm.out (by rw [HhKm.out]; decide) (by rw [HhKm.out]; decide) (fun h => absurd h (by rw [HhKm.out]; decide)) 0 Hg6.out (fl_le2 f0 (by decide))).mono ?_
  rintro e w26 ⟨sz, Az, nz, cz, tz, Bz, mz, dz, rfl, hz, hb⟩
  replace hE := hE.step hb
  clear hb
  replace hE := hE.fv hz
  clear hz
  go_upto_region 11 with (fail)
  replace hE := (((((((((((Env.again hE.bel).atI hE.here.1.1.1.1.1.1.1.1.1.1.2).fv hE.here.1.1.1.1.1.1.1.1.1.2).blkI hE.here.1.1.1.1.1.1.1.1.2).fv hE.here.1.1.1.1.1.1.1.2).blkI hE.here.1.1.1.1.1.1.2).fv hE.here.1.1.1.1.1.2).blkI hE.here.1.1.1.1.2).fv hE.here.1.1.1.2).blkI hE.here.1.1.2).fv hE.here.2)
  obtain ⟨g27, hg27⟩ : ∃ g27, g27 = w26.heap.size := ⟨_, rfl⟩
  have hl27_2 : g3 < g27 := by rw [hg27]; exact (hE.here.1.1.1.1.1.1.1.2).lt
  have hl27_4 : g12 < g27 := by rw [hg27]; exact (hE.here.1.1.1.1.1.2).lt
  have hl27_6 : g18 < g27 := by rw [hg27]; exact (hE.here.1.1.1.2).lt
  have hl27_8 : g21 < g27 := by rw [hg27]; exact (hE.here.1.2).lt
  replace hE := hE.blk 26 #[.bool sz, .slice Az nz cz, .bool tz, .slice Bz mz dz] (g := g27) hg27.symm
  generalize w26.alloc (.cells #[.bool sz, .slice Az nz cz, .bool tz, .slice Bz mz dz] 26) = W27 at hE ⊢
  rw [← hg27]
  clear hg27
  go_wp2_with fail
  have hc := law_quick 0 1 W27 (by decide) (by decide) (by decide) (by decide) (by decide)
  rw [Hq0.out] at hc
  refine (hc).mono ?_
  rintro e w28 ⟨sq10, Aq10, nq10, cq10, tq10, Bq10, mq10, dq10, rfl, hq10, hb⟩
  replace hE := hE.step hb
  clear hb
  replace hE := hE.fv hq10
  clear hq10
  clear hc
  go_wp2_with fail
  refine (fpow_zz (ca := cq10) (da := dq10) (hE.here.2) (fl_le2 f0 (by decide)) 0 0 rfl (by decide) (by decide) (fun h => absurd h (by decide)) 1 (Rat.zpow_zero _).symm (fl_le2 f1 (by decide))).mono ?_
  rintro e w29 ⟨sh, Ah, nh, ch, th, Bh, mh, dh, rfl, hh, hb⟩
  replace hE := hE.step hb
  clear hb
  replace hE := hE.fv hh
  clear hh
  go_upto_region 12 with (fail)
  replace hE := (((((((((((((Env.again hE.bel).atI hE.here.1.1.1.1.1.1.1.1.1.1.1.1.2).fv hE.here.1.1.1.1.1.1.1.1.1.1.1.2).blkI hE.here.1.1.1.1.1.1.1.1.1.1.2).fv hE.here.1.1.1.1.1.1.1.1.1.2).blkI hE.here.1.1.1.1.1.1.1.1.2).fv hE.here.1.1.1.1.1.1.1.2).blkI hE.here.1.1.1.1.1.1.2).fv hE.here.1.1.1.1.1.2).blkI hE.here.1.1.1.1.2).fv hE.here.1.1.1.2).blkI hE.here.1.1.2).fv hE.here.2)
  obtain ⟨g30, hg30⟩ : ∃ g30, g30 = w29.heap.size := ⟨_, rfl⟩
  have hl30_2 : g3 < g30 := by rw [hg30]; exact (hE.here.1.1.1.1.1.1.1.1.1.2).lt
  have hl30_4 : g12 < g30 := by rw [hg30]; exact (hE.here.1.1.1.1.1.1.1.2).lt
  have hl30_6 : g18 < g30 := by rw [hg30]; exact (hE.here.1.1.1.1.1.2).lt
  have hl30_8 : g21 < g30 := by rw [hg30]; exact (hE.here.1.1.1.2).lt
  have hl30_10 : g27 < g30 := by rw [hg30]; exact (hE.here.1.2).lt
  replace hE := hE.blk 26 #[.bool sh, .slice Ah nh ch, .bool th, .slice Bh mh dh] (g := g30) hg30.symm
  generalize w29.alloc (.cells #[.bool sh, .slice Ah nh ch, .bool th, .slice Bh mh dh] 26) = W30 at hE ⊢
  rw [← hg30]
  clear hg30
  obtain ⟨k31, k32, k33, k34⟩ := (hE.here.1.1.1.1.1.1.1.1.1.1.2).c4
  obtain ⟨k35, k36, k37, k38⟩ := (hE.here.1.1.1.1.1.1.1.1.2).c4
  go_wp2_with fail
  have hc := fmul_v (ca := ca) (da := da) (cb := cb) (db := db) (hE.here.1.1.1.1.1.1.1.1.1.1.1.2) (hE.here.1.1.1.1.1.1.1.1.1.2) lX lY (by rw [HhXY.out]; exact fl_le2 f1 (by decide))
  rw [HhXY.out] at hc
  refine (hc).mono ?_
  clear k31 k32 k33 k34 k35 k36 k37 k38
  rintro e w39 ⟨sp, Ap, np, cp, tp, Bp, mp, dp, rfl, hp, hb⟩
  replace hE := hE.step hb
  clear hb
  replace hE := hE.fv hp
  clear hp
  clear hc
  go_upto_region 13 with (fail)
  obtain ⟨g40, hg40⟩ : ∃ g40, g40 = w39.heap.size := ⟨_, rfl⟩
  have hl40_2 : g3 < g40 := by rw [hg40]; exact (hE.here.1.1.1.1.1.1.1.1.1.1.1.2).lt
  have hl40_4 : g12 < g40 := by rw [hg40]; exact (hE.here.1.1.1.1.1.1.1.1.1.2).lt
  have hl40_6 : g18 < g40 := by rw [hg40]; exact (hE.here.1.1.1.1.1.1.1.2).lt
  have hl40_8 : g21 < g40 := by rw [hg40]; exact (hE.here.1.1.1.1.1.2).lt
  have hl40_10 : g27 < g40 := by rw [hg40]; exact (hE.here.1.1.1.2).lt
  have hl40_12 : g30 < g40 := by rw [hg40]; exact (hE.here.1.2).lt
  replace hE := hE.blk 26 #[.bool sp, .slice Ap np cp, .bool tp, .slice Bp mp dp] (g := g40) hg40.symm
  generalize w39.alloc (.cells #[.bool sp, .slice Ap np cp, .bool tp, .slice Bp mp dp] 26) = W40 at hE ⊢
  rw [← hg40]
  clear hg40
  go_wp2_with fail
  refine (ffromInt_v (-9223372036854775808) _ (by decide) (by decide)).mono ?_
  rintro e w41 ⟨si, Ai, ni, ci, ti, Bi, mi, di, rfl, hi, hb⟩
  replace hE := hE.step hb
  clear hb
  replace hE := hE.fv hi
  clear hi
  go_wp2_with fail
  refine (fint_v (ca := ci) (da := di) (hE.here.2) (fl_le2 (en_fl (z := -9223372036854775808) (by decide +kernel)) (by decide))).mono ?_
  rintro e w42 ⟨r, k, rfl, hr, hb⟩
  replace hE := hE.step hb
  clear hb
  obtain ⟨rfl, rfl⟩ : r = -9223372036854775808 ∧ k = 0 := by
    unfold FIntR at hr
    rw [Rat.num_intCast, Rat.den_intCast] at hr
    rcases hr with ⟨-, hr⟩ | ⟨hx, -⟩
    · rcases hr with ⟨-, h1, h2⟩ | ⟨hf, -⟩
      · exact ⟨h1, h2⟩
      · exact absurd hf (by decide)
    · exact absurd rfl hx
  clear hr
  go_upto_region 16 with (fail)
  obtain ⟨k43, k44, k45, k46⟩ := (hE.here.1.2).c4
  go_wp2_with fail
  refine (law_is (ca := cp) (da := dp) (hE.here.1.1.2) (fl_le2 f1 (by decide)) (by decide) (by decide) (by decide) (by decide) (by decide) Hq1.out.symm).mono ?_
  clear k43 k44 k45 k46
  rintro e w47 ⟨rfl, hb⟩
  replace hE := hE.step hb
  clear hb
  obtain ⟨k48, k49, k50, k51⟩ := (hE.here.1.1.1.1.1.1.1.1.1.2).c4
  go_wp2_with fail
  refine (law_is (ca := cc) (da := dc) (hE.here.1.1.1.1.1.1.1.1.1.1.2) (fl_le2 f1 (by decide)) (by decide) (by decide) (by decide) (by decide) (by decide) Hq1.out.symm).mono ?_
  clear k48 k49 k50 k51
  rintro e w52 ⟨rfl, hb⟩
  replace hE := hE.step hb
  clear hb
  obtain ⟨k53, k54, k55, k56⟩ := (hE.here.1.1.1.1.1.1.1.2).c4
  go_wp2_with fail
  refine (law_is (ca := cd) (da := dd) (hE.here.1.1.1.1.1.1.1.1.2) (fl_le2 fm1 (by decide)) (by decide) (by decide) (by decide) (by decide) (by decide) Hqm1.out.symm).mono ?_
  clear k53 k54 k55 k56
  rintro e w57 ⟨rfl, hb⟩
  replace hE := hE.step hb
  clear hb
  obtain ⟨k58, k59, k60, k61⟩ := (hE.here.1.1.1.1.1.2).c4
  go_wp2_with fail
  refine (law_is (ca := cz) (da := dz) (hE.here.1.1.1.1.1.1.2) (fl_le2 f0 (by decide)) (by decide) (by decide) (by decide) (by decide) (by decide) Hq0.out.symm).mono ?_
  clear k58 k59 k60 k61
  rintro e w62 ⟨rfl, hb⟩
  replace hE := hE.step hb
  clear hb
  obtain ⟨k63, k64, k65, k66⟩ := (hE.here.1.1.1.2).c4
  go_wp2_with fail
  refine (law_is (ca := ch) (da := dh) (hE.here.1.1.1.1.2) (fl_le2 f1 (by decide)) (by decide) (by decide) (by decide) (by decide) (by decide) Hq1.out.symm).mono ?_
  clear k63 k64 k65 k66
  rintro e w67 ⟨rfl, hb⟩
  replace hE := hE.step hb
  clear hb
  go_wp2_with fail
  refine (awake2_t _ (hE.here.1.1.1.1.1.1.1.1.1.1.1.1.1.1.1.2).2 (hE.here.1.1.1.1.1.1.1.1.1.1.1.1.1.1.1.2).1).mono ?_
  rintro e w68 ⟨rfl, hb⟩
  replace hE := hE.step hb
  clear hb
  go_wp2_with fail
  go_ret
  exact ⟨rfl, hE.bel⟩
end Go.Proofs.YtifikcemcflgjaaGreat
