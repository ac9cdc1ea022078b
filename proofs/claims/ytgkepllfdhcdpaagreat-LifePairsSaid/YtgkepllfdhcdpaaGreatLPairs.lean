/-
  The walk of LifePairs.
-/
import Derived.Test.YtgkepllfdhcdpaaGreatK14
namespace Go.Proofs.YtgkepllfdhcdpaaGreat
open Go.RowKit


/-- One of two, just one of them: its length. -/
theorem just_one_l {P Q : Rat} (sP : Sm P 112) (sQ : Sm Q 112) : fl ((1 - Q) * P + (1 - P) * Q) ≤ 256 := by
  obtain ⟨p1, p2, D, p3, p4, p5⟩ := sP
  obtain ⟨q1, q2, E, q3, q4, q5⟩ := sQ
  have e1 : 0 ≤ (1 - Q) * P := Rat.mul_nonneg (by grind) p1
  have e2 : 0 ≤ (1 - P) * Q := Rat.mul_nonneg (by grind) q1
  have e3 : 0 ≤ P * Q := Rat.mul_nonneg p1 q1
  have e4 : 0 ≤ (1 - P) * (1 - Q) := Rat.mul_nonneg (by grind) (by grind)
  have d1 : Dv ((1 - Q) * P) (D * E) := by
    rw [Nat.mul_comm]
    exact (((Dv.int 1).more (Nat.one_dvd _)).sub q4).mul p4
  have d2 : Dv ((1 - P) * Q) (D * E) := (((Dv.int 1).more (Nat.one_dvd _)).sub p4).mul q4
  refine Nat.le_trans (fl_of (k := 224) (Nat.mul_pos p3 q3) (d1.add d2) (by grind) (by grind) ?_) (by decide)
  rw [show 224 = 112 + 112 from rfl, Nat.pow_add]
  exact Nat.mul_le_mul p5 q5
set_option linter.unusedSimpArgs false in
set_option maxRecDepth 100000 in
set_option maxHeartbeats 16000000 in
theorem lpairs_walk (F S E Y E2 Y2 : Int) (A : Option Addr) (n c : Nat) (r : Nat → RH) (w : World) (hT : TabM w A n r) (z : Int) (_ : -9223372036854775808 ≤ z) (hz2 : z ≤ 9223372036854775807) :
    Calls Tryz.prog 10 #[.agg #[.int .i64 F, .int .i64 S, .slice A n c], .agg #[.int .i64 E, .int .i64 Y], .agg #[.int .i64 E2, .int .i64 Y2], .int .i64 z] w fun e w' => e = .returned (.bool true) ∧ Below w.heap.size w w' := by
  have HT := Lib.hid hT
  clear hT
  by_cases hU : TabS n r 25 8 2 ∧ RightP F S n r E Y
  · have HU := Lib.hid hU
    have HB := Lib.hid (hU.1.b (by decide) (by decide) (by decide))
    clear hU
    by_cases hR2 : RightP F S n r E2 Y2
    · have HR2 := Lib.hid hR2
      clear hR2
      by_cases hz : z < 0
      · skip
        have t1 : decide (z < 0) = true := decide_eq_true hz
        clear hz
        have hE := (((Env.start w).blk 24 #[.int .i64 F, .int .i64 S, .slice A n c] (g := w.heap.size) rfl).blk 26 #[.int .i64 E, .int .i64 Y] (g := w.heap.size + 1) (by simp)).blk 26 #[.int .i64 E2, .int .i64 Y2] (g := w.heap.size + 1 + 1) (by simp)
        obtain ⟨W0, hW0⟩ : ∃ W0, W0 = (((w.alloc (.cells #[.int .i64 F, .int .i64 S, .slice A n c] 24)).alloc (.cells #[.int .i64 E, .int .i64 Y] 26)).alloc (.cells #[.int .i64 E2, .int .i64 Y2] 26)) := ⟨_, rfl⟩
        rw [← hW0] at hE
        have HW0 := Lib.hid hW0
        clear hW0
        go_enter Tryz.func10, Tryz.ntmps10
        go_upto_region 1 with (fail)
        rw [← HW0.out]
        go_wp2_with fail
        refine (awake_t _).mono ?_
        rintro e w1 ⟨rfl, hb⟩
        replace hE := hE.step hb
        clear hb
        obtain ⟨k2, k3, k4⟩ := (hE.here.1.1.2).c3
        obtain ⟨k5, k6⟩ := (hE.here.1.2).c2
        obtain ⟨k7, k8⟩ := (hE.here.2).c2
        go_wp2_with fail
        refine (usable_t (HT.out.below hE.bel) HU.out).mono ?_
        clear k2 k3 k4 k5 k6 k7 k8
        rintro e w9 ⟨rfl, hb⟩
        replace hE := hE.step hb
        clear hb
        obtain ⟨k10, k11, k12⟩ := (hE.here.1.1.2).c3
        obtain ⟨k13, k14⟩ := (hE.here.1.2).c2
        obtain ⟨k15, k16⟩ := (hE.here.2).c2
        go_wp2_with fail
        refine (lright_t (HT.out.below hE.bel) HB.out HR2.out).mono ?_
        clear k10 k11 k12 k13 k14 k15 k16
        rintro e w17 ⟨rfl, hb⟩
        replace hE := hE.step hb
        clear hb
        go_wp2_with fail
        go_ret
        exact ⟨rfl, hE.bel⟩
      · skip
        obtain ⟨k, rfl⟩ := Int.eq_ofNat_of_zero_le (show 0 ≤ z by omega)
        have hk : k ≤ 9223372036854775807 := by omega
        have t1 : decide ((k : Int) < 0) = false := decide_eq_false (by omega)
        have t2 : ¬ (k : Int) < 0 := by omega
        clear hz
        obtain ⟨P, hP⟩ : ∃ q, q = pr (fr F S n r E Y) k := ⟨_, rfl⟩
        obtain ⟨Q, hQ⟩ : ∃ q, q = pr (fr F S n r E2 Y2) k := ⟨_, rfl⟩
        have sP : Sm P 112 := by rw [hP]; exact life_sm HT.out HU.out.2 k
        have sQ : Sm Q 112 := by rw [hQ]; exact life_sm HT.out HR2.out k
        have c1 := fun w (h : TabM w A n r) => lBoth_v (c := c) h HB.out HU.out.2 HR2.out k hk
        have c2 := fun w (h : TabM w A n r) => lBoth_v (c := c) h HB.out HR2.out HU.out.2 k hk
        have c3 := fun w (h : TabM w A n r) => lLeft_v (c := c) h HB.out HR2.out HU.out.2 k hk
        have c4 := fun w (h : TabM w A n r) => lLeft_v (c := c) h HB.out HU.out.2 HR2.out k hk
        have c5 := fun w (h : TabM w A n r) => lEither_v (c := c) h HB.out HU.out.2 HR2.out k hk
        have c6 := fun w (h : TabM w A n r) => lEither_v (c := c) h HB.out HR2.out HU.out.2 k hk
        have c7 := fun w (h : TabM w A n r) => lAlive_v (c := c) h HB.out HU.out.2 k hk
        have c8 := fun w (h : TabM w A n r) => lAlive_v (c := c) h HB.out HR2.out k hk
        rw [← hP, ← hQ] at c1 c2 c3 c4 c5 c6
        rw [← hP] at c7
        rw [← hQ] at c8
        have Hc1 := Lib.hid c1
        clear c1
        have Hc2 := Lib.hid c2
        clear c2
        have Hc3 := Lib.hid c3
        clear c3
        have Hc4 := Lib.hid c4
        clear c4
        have Hc5 := Lib.hid c5
        clear c5
        have Hc6 := Lib.hid c6
        clear c6
        have Hc7 := Lib.hid c7
        clear c7
        have Hc8 := Lib.hid c8
        clear c8
        have HhP := Lib.hid hP
        clear hP
        have HhQ := Lib.hid hQ
        clear hQ
        have Hhk := Lib.hid hk
        clear hk
        have f1 : fl ((1 - Q) * P + (1 - P) * Q) ≤ 256 := just_one_l sP sQ
        have g1 : P * Q = Q * P := by grind
        have g2 : 1 - (1 - P) * (1 - Q) = 1 - (1 - Q) * (1 - P) := by grind
        have g3 : 1 - (1 - P) * (1 - Q) = P * Q + ((1 - Q) * P + (1 - P) * Q) := by grind
        have g4 : 1 - (1 - (1 - P) * (1 - Q)) = (1 - P) * (1 - Q) := by grind
        have g5 : P = P * Q + (1 - Q) * P := by grind
        have g6 : Q = P * Q + (1 - P) * Q := by grind
        have f2 : fl (P * Q + ((1 - Q) * P + (1 - P) * Q)) ≤ 256 := by rw [← g3]; exact (sP.no.mul sQ.no).no.l (by decide)
        have f5 : fl (P * Q + (1 - Q) * P) ≤ 256 := by rw [← g5]; exact sP.l (by decide)
        have f6 : fl (P * Q + (1 - P) * Q) ≤ 256 := by rw [← g6]; exact sQ.l (by decide)
        have Hf1 := Lib.hid f1
        clear f1
        have Hf2 := Lib.hid f2
        clear f2
        have Hf5 := Lib.hid f5
        clear f5
        have Hf6 := Lib.hid f6
        clear f6
        have Hg1 := Lib.hid g1
        clear g1
        have Hg2 := Lib.hid g2
        clear g2
        have Hg3 := Lib.hid g3
        clear g3
        have Hg4 := Lib.hid g4
        clear g4
        have Hg5 := Lib.hid g5
        clear g5
        have Hg6 := Lib.hid g6
        clear g6
        have HsP := Lib.hid sP
        clear sP
        have HsQ := Lib.hid sQ
        clear sQ
        have hE := (((Env.start w).blk 24 #[.int .i64 F, .int .i64 S, .slice A n c] (g := w.heap.size) rfl).blk 26 #[.int .i64 E, .int .i64 Y] (g := w.heap.size + 1) (by simp)).blk 26 #[.int .i64 E2, .int .i64 Y2] (g := w.heap.size + 1 + 1) (by simp)
        obtain ⟨W0, hW0⟩ : ∃ W0, W0 = (((w.alloc (.cells #[.int .i64 F, .int .i64 S, .slice A n c] 24)).alloc (.cells #[.int .i64 E, .int .i64 Y] 26)).alloc (.cells #[.int .i64 E2, .int .i64 Y2] 26)) := ⟨_, rfl⟩
        rw [← hW0] at hE
        have HW0 := Lib.hid hW0
        clear hW0
        go_enter Tryz.func10, Tryz.ntmps10
        go_upto_region 1 with (fail)
        rw [← HW0.out]
        go_wp2_with fail
        refine (awake_t _).mono ?_
        rintro e w1 ⟨rfl, hb⟩
        replace hE := hE.step hb
        clear hb
        obtain ⟨k2, k3, k4⟩ := (hE.here.1.1.2).c3
        obtain ⟨k5, k6⟩ := (hE.here.1.2).c2
        obtain ⟨k7, k8⟩ := (hE.here.2).c2
        go_wp2_with fail
        refine (usable_t (HT.out.below hE.bel) HU.out).mono ?_
        clear k2 k3 k4 k5 k6 k7 k8
        rintro e w9 ⟨rfl, hb⟩
        replace hE := hE.step hb
        clear hb
        obtain ⟨k10, k11, k12⟩ := (hE.here.1.1.2).c3
        obtain ⟨k13, k14⟩ := (hE.here.1.2).c2
        obtain ⟨k15, k16⟩ := (hE.here.2).c2
        go_wp2_with fail
        refine (lright_t (HT.out.below hE.bel) HB.out HR2.out).mono ?_
        clear k10 k11 k12 k13 k14 k15 k16
        rintro e w17 ⟨rfl, hb⟩
        replace hE := hE.step hb
        clear hb
        go_upto_region 5 with (fail)
        obtain ⟨k18, k19, k20⟩ := (hE.here.1.1.2).c3
        obtain ⟨k21, k22⟩ := (hE.here.1.2).c2
        obtain ⟨k23, k24⟩ := (hE.here.2).c2
        go_wp2_with fail
        refine (Hc1.out _ (HT.out.below hE.bel)).mono ?_
        clear k18 k19 k20 k21 k22 k23 k24
        rintro e w25 ⟨sbo, Abo, nbo, cbo, tibo, Bbo, mbo, dbo, rfl, hbo, hb⟩
        replace hE := hE.step hb
        clear hb
        replace hE := hE.fv hbo
        clear hbo
        go_upto_region 6 with (fail)
        obtain ⟨g26, hg26⟩ : ∃ g26, g26 = w25.heap.size := ⟨_, rfl⟩
        have hl26_0 : w.heap.size < g26 := by rw [hg26]; exact (hE.here.1.1.1.2).lt
        have hl26_1 : w.heap.size + 1 < g26 := by rw [hg26]; exact (hE.here.1.1.2).lt
        have hl26_2 : w.heap.size + 1 + 1 < g26 := by rw [hg26]; exact (hE.here.1.2).lt
        replace hE := hE.blk 40 #[.bool sbo, .slice Abo nbo cbo, .bool tibo, .slice Bbo mbo dbo] (g := g26) hg26.symm
        generalize w25.alloc (.cells #[.bool sbo, .slice Abo nbo cbo, .bool tibo, .slice Bbo mbo dbo] 40) = W26 at hE ⊢
        rw [← hg26]
        clear hg26
        obtain ⟨k27, k28, k29⟩ := (hE.here.1.1.1.1.2).c3
        obtain ⟨k30, k31⟩ := (hE.here.1.1.1.2).c2
        obtain ⟨k32, k33⟩ := (hE.here.1.1.2).c2
        go_wp2_with fail
        refine (Hc2.out _ (HT.out.below hE.bel)).mono ?_
        clear k27 k28 k29 k30 k31 k32 k33
        rintro e w34 ⟨sba, Aba, nba, cba, tiba, Bba, mba, dba, rfl, hba, hb⟩
        replace hE := hE.step hb
        clear hb
        replace hE := hE.fv hba
        clear hba
        go_upto_region 7 with (fail)
        obtain ⟨g35, hg35⟩ : ∃ g35, g35 = w34.heap.size := ⟨_, rfl⟩
        have hl35_0 : w.heap.size < g35 := by rw [hg35]; exact (hE.here.1.1.1.1.1.2).lt
        have hl35_1 : w.heap.size + 1 < g35 := by rw [hg35]; exact (hE.here.1.1.1.1.2).lt
        have hl35_2 : w.heap.size + 1 + 1 < g35 := by rw [hg35]; exact (hE.here.1.1.1.2).lt
        have hl35_4 : g26 < g35 := by rw [hg35]; exact (hE.here.1.2).lt
        replace hE := hE.blk 40 #[.bool sba, .slice Aba nba cba, .bool tiba, .slice Bba mba dba] (g := g35) hg35.symm
        generalize w34.alloc (.cells #[.bool sba, .slice Aba nba cba, .bool tiba, .slice Bba mba dba] 40) = W35 at hE ⊢
        rw [← hg35]
        clear hg35
        obtain ⟨k36, k37, k38⟩ := (hE.here.1.1.1.1.1.1.2).c3
        obtain ⟨k39, k40⟩ := (hE.here.1.1.1.1.1.2).c2
        obtain ⟨k41, k42⟩ := (hE.here.1.1.1.1.2).c2
        go_wp2_with fail
        refine (Hc3.out _ (HT.out.below hE.bel)).mono ?_
        clear k36 k37 k38 k39 k40 k41 k42
        rintro e w43 ⟨sfi, Afi, nfi, cfi, tifi, Bfi, mfi, dfi, rfl, hfi, hb⟩
        replace hE := hE.step hb
        clear hb
        replace hE := hE.fv hfi
        clear hfi
        go_upto_region 8 with (fail)
        obtain ⟨g44, hg44⟩ : ∃ g44, g44 = w43.heap.size := ⟨_, rfl⟩
        have hl44_0 : w.heap.size < g44 := by rw [hg44]; exact (hE.here.1.1.1.1.1.1.1.2).lt
        have hl44_1 : w.heap.size + 1 < g44 := by rw [hg44]; exact (hE.here.1.1.1.1.1.1.2).lt
        have hl44_2 : w.heap.size + 1 + 1 < g44 := by rw [hg44]; exact (hE.here.1.1.1.1.1.2).lt
        have hl44_4 : g26 < g44 := by rw [hg44]; exact (hE.here.1.1.1.2).lt
        have hl44_6 : g35 < g44 := by rw [hg44]; exact (hE.here.1.2).lt
        replace hE := hE.blk 40 #[.bool sfi, .slice Afi nfi cfi, .bool tifi, .slice Bfi mfi dfi] (g := g44) hg44.symm
        generalize w43.alloc (.cells #[.bool sfi, .slice Afi nfi cfi, .bool tifi, .slice Bfi mfi dfi] 40) = W44 at hE ⊢
        rw [← hg44]
        clear hg44
        obtain ⟨k45, k46, k47⟩ := (hE.here.1.1.1.1.1.1.1.1.2).c3
        obtain ⟨k48, k49⟩ := (hE.here.1.1.1.1.1.1.1.2).c2
        obtain ⟨k50, k51⟩ := (hE.here.1.1.1.1.1.1.2).c2
        go_wp2_with fail
        refine (Hc4.out _ (HT.out.below hE.bel)).mono ?_
        clear k45 k46 k47 k48 k49 k50 k51
        rintro e w52 ⟨sse, Ase, nse, cse, tise, Bse, mse, dse, rfl, hse, hb⟩
        replace hE := hE.step hb
        clear hb
        replace hE := hE.fv hse
        clear hse
        go_upto_region 9 with (fail)
        obtain ⟨g53, hg53⟩ : ∃ g53, g53 = w52.heap.size := ⟨_, rfl⟩
        have hl53_0 : w.heap.size < g53 := by rw [hg53]; exact (hE.here.1.1.1.1.1.1.1.1.1.2).lt
        have hl53_1 : w.heap.size + 1 < g53 := by rw [hg53]; exact (hE.here.1.1.1.1.1.1.1.1.2).lt
        have hl53_2 : w.heap.size + 1 + 1 < g53 := by rw [hg53]; exact (hE.here.1.1.1.1.1.1.1.2).lt
        have hl53_4 : g26 < g53 := by rw [hg53]; exact (hE.here.1.1.1.1.1.2).lt
        have hl53_6 : g35 < g53 := by rw [hg53]; exact (hE.here.1.1.1.2).lt
        have hl53_8 : g44 < g53 := by rw [hg53]; exact (hE.here.1.2).lt
        replace hE := hE.blk 40 #[.bool sse, .slice Ase nse cse, .bool tise, .slice Bse mse dse] (g := g53) hg53.symm
        generalize w52.alloc (.cells #[.bool sse, .slice Ase nse cse, .bool tise, .slice Bse mse dse] 40) = W53 at hE ⊢
        rw [← hg53]
        clear hg53
        obtain ⟨k54, k55, k56⟩ := (hE.here.1.1.1.1.1.1.1.1.1.1.2).c3
        obtain ⟨k57, k58⟩ := (hE.here.1.1.1.1.1.1.1.1.1.2).c2
        obtain ⟨k59, k60⟩ := (hE.here.1.1.1.1.1.1.1.1.2).c2
        go_wp2_with fail
        refine (Hc5.out _ (HT.out.below hE.bel)).mono ?_
        clear k54 k55 k56 k57 k58 k59 k60
        rintro e w61 ⟨sso, Aso, nso, cso, tiso, Bso, mso, dso, rfl, hso, hb⟩
        replace hE := hE.step hb
        clear hb
        replace hE := hE.fv hso
        clear hso
        go_upto_region 10 with (fail)
        obtain ⟨g62, hg62⟩ : ∃ g62, g62 = w61.heap.size := ⟨_, rfl⟩
        have hl62_0 : w.heap.size < g62 := by rw [hg62]; exact (hE.here.1.1.1.1.1.1.1.1.1.1.1.2).lt
        have hl62_1 : w.heap.size + 1 < g62 := by rw [hg62]; exact (hE.here.1.1.1.1.1.1.1.1.1.1.2).lt
        have hl62_2 : w.heap.size + 1 + 1 < g62 := by rw [hg62]; exact (hE.here.1.1.1.1.1.1.1.1.1.2).lt
        have hl62_4 : g26 < g62 := by rw [hg62]; exact (hE.here.1.1.1.1.1.1.1.2).lt
        have hl62_6 : g35 < g62 := by rw [hg62]; exact (hE.here.1.1.1.1.1.2).lt
        have hl62_8 : g44 < g62 := by rw [hg62]; exact (hE.here.1.1.1.2).lt
        have hl62_10 : g53 < g62 := by rw [hg62]; exact (hE.here.1.2).lt
        replace hE := hE.blk 40 #[.bool sso, .slice Aso nso cso, .bool tiso, .slice Bso mso dso] (g := g62) hg62.symm
        generalize w61.alloc (.cells #[.bool sso, .slice Aso nso cso, .bool tiso, .slice Bso mso dso] 40) = W62 at hE ⊢
        rw [← hg62]
        clear hg62
        obtain ⟨k63, k64, k65⟩ := (hE.here.1.1.1.1.1.1.1.1.1.1.1.1.2).c3
        obtain ⟨k66, k67⟩ := (hE.here.1.1.1.1.1.1.1.1.1.1.1.2).c2
        obtain ⟨k68, k69⟩ := (hE.here.1.1.1.1.1.1.1.1.1.1.2).c2
        go_wp2_with fail
        refine (Hc6.out _ (HT.out.below hE.bel)).mono ?_
        clear k63 k64 k65 k66 k67 k68 k69
        rintro e w70 ⟨sot, Aot, not, cot, tiot, Bot, mot, dot, rfl, hot, hb⟩
        replace hE := hE.step hb
        clear hb
        replace hE := hE.fv hot
        clear hot
        go_upto_region 11 with (fail)
        obtain ⟨g71, hg71⟩ : ∃ g71, g71 = w70.heap.size := ⟨_, rfl⟩
        have hl71_0 : w.heap.size < g71 := by rw [hg71]; exact (hE.here.1.1.1.1.1.1.1.1.1.1.1.1.1.2).lt
        have hl71_1 : w.heap.size + 1 < g71 := by rw [hg71]; exact (hE.here.1.1.1.1.1.1.1.1.1.1.1.1.2).lt
        have hl71_2 : w.heap.size + 1 + 1 < g71 := by rw [hg71]; exact (hE.here.1.1.1.1.1.1.1.1.1.1.1.2).lt
        have hl71_4 : g26 < g71 := by rw [hg71]; exact (hE.here.1.1.1.1.1.1.1.1.1.2).lt
        have hl71_6 : g35 < g71 := by rw [hg71]; exact (hE.here.1.1.1.1.1.1.1.2).lt
        have hl71_8 : g44 < g71 := by rw [hg71]; exact (hE.here.1.1.1.1.1.2).lt
        have hl71_10 : g53 < g71 := by rw [hg71]; exact (hE.here.1.1.1.2).lt
        have hl71_12 : g62 < g71 := by rw [hg71]; exact (hE.here.1.2).lt
        replace hE := hE.blk 40 #[.bool sot, .slice Aot not cot, .bool tiot, .slice Bot mot dot] (g := g71) hg71.symm
        generalize w70.alloc (.cells #[.bool sot, .slice Aot not cot, .bool tiot, .slice Bot mot dot] 40) = W71 at hE ⊢
        rw [← hg71]
        clear hg71
        obtain ⟨k72, k73, k74⟩ := (hE.here.1.1.1.1.1.1.1.1.1.1.1.1.1.1.2).c3
        obtain ⟨k75, k76⟩ := (hE.here.1.1.1.1.1.1.1.1.1.1.1.1.1.2).c2
        go_wp2_with fail
        refine (Hc7.out _ (HT.out.below hE.bel)).mono ?_
        clear k72 k73 k74 k75 k76
        rintro e w77 ⟨sp, Ap, np, cp, tip, Bp, mp, dp, rfl, hp, hb⟩
        replace hE := hE.step hb
        clear hb
        replace hE := hE.fv hp
        clear hp
        go_upto_region 12 with (fail)
        obtain ⟨g78, hg78⟩ : ∃ g78, g78 = w77.heap.size := ⟨_, rfl⟩
        have hl78_0 : w.heap.size < g78 := by rw [hg78]; exact (hE.here.1.1.1.1.1.1.1.1.1.1.1.1.1.1.1.2).lt
        have hl78_1 : w.heap.size + 1 < g78 := by rw [hg78]; exact (hE.here.1.1.1.1.1.1.1.1.1.1.1.1.1.1.2).lt
        have hl78_2 : w.heap.size + 1 + 1 < g78 := by rw [hg78]; exact (hE.here.1.1.1.1.1.1.1.1.1.1.1.1.1.2).lt
        have hl78_4 : g26 < g78 := by rw [hg78]; exact (hE.here.1.1.1.1.1.1.1.1.1.1.1.2).lt
        have hl78_6 : g35 < g78 := by rw [hg78]; exact (hE.here.1.1.1.1.1.1.1.1.1.2).lt
        have hl78_8 : g44 < g78 := by rw [hg78]; exact (hE.here.1.1.1.1.1.1.1.2).lt
        have hl78_10 : g53 < g78 := by rw [hg78]; exact (hE.here.1.1.1.1.1.2).lt
        have hl78_12 : g62 < g78 := by rw [hg78]; exact (hE.here.1.1.1.2).lt
        have hl78_14 : g71 < g78 := by rw [hg78]; exact (hE.here.1.2).lt
        replace hE := hE.blk 40 #[.bool sp, .slice Ap np cp, .bool tip, .slice Bp mp dp] (g := g78) hg78.symm
        generalize w77.alloc (.cells #[.bool sp, .slice Ap np cp, .bool tip, .slice Bp mp dp] 40) = W78 at hE ⊢
        rw [← hg78]
        clear hg78
        obtain ⟨k79, k80, k81⟩ := (hE.here.1.1.1.1.1.1.1.1.1.1.1.1.1.1.1.1.2).c3
        obtain ⟨k82, k83⟩ := (hE.here.1.1.1.1.1.1.1.1.1.1.1.1.1.1.2).c2
        go_wp2_with fail
        refine (Hc8.out _ (HT.out.below hE.bel)).mono ?_
        clear k79 k80 k81 k82 k83
        rintro e w84 ⟨sq, Aq, nq, cq, tiq, Bq, mq, dq, rfl, hq, hb⟩
        replace hE := hE.step hb
        clear hb
        replace hE := hE.fv hq
        clear hq
        go_upto_region 13 with (fail)
        obtain ⟨g85, hg85⟩ : ∃ g85, g85 = w84.heap.size := ⟨_, rfl⟩
        have hl85_0 : w.heap.size < g85 := by rw [hg85]; exact (hE.here.1.1.1.1.1.1.1.1.1.1.1.1.1.1.1.1.1.2).lt
        have hl85_1 : w.heap.size + 1 < g85 := by rw [hg85]; exact (hE.here.1.1.1.1.1.1.1.1.1.1.1.1.1.1.1.1.2).lt
        have hl85_2 : w.heap.size + 1 + 1 < g85 := by rw [hg85]; exact (hE.here.1.1.1.1.1.1.1.1.1.1.1.1.1.1.1.2).lt
        have hl85_4 : g26 < g85 := by rw [hg85]; exact (hE.here.1.1.1.1.1.1.1.1.1.1.1.1.1.2).lt
        have hl85_6 : g35 < g85 := by rw [hg85]; exact (hE.here.1.1.1.1.1.1.1.1.1.1.1.2).lt
        have hl85_8 : g44 < g85 := by rw [hg85]; exact (hE.here.1.1.1.1.1.1.1.1.1.2).lt
        have hl85_10 : g53 < g85 := by rw [hg85]; exact (hE.here.1.1.1.1.1.1.1.2).lt
        have hl85_12 : g62 < g85 := by rw [hg85]; exact (hE.here.1.1.1.1.1.2).lt
        have hl85_14 : g71 < g85 := by rw [hg85]; exact (hE.here.1.1.1.2).lt
        have hl85_16 : g78 < g85 := by rw [hg85]; exact (hE.here.1.2).lt
        replace hE := hE.blk 40 #[.bool sq, .slice Aq nq cq, .bool tiq, .slice Bq mq dq] (g := g85) hg85.symm
        generalize w84.alloc (.cells #[.bool sq, .slice Aq nq cq, .bool tiq, .slice Bq mq dq] 40) = W85 at hE ⊢
        rw [← hg85]
        clear hg85
        obtain ⟨k86, k87, k88, k89⟩ := (hE.here.1.1.1.1.1.1.1.1.1.1.1.1.1.1.2).c4
        go_wp2_with fail
        refine (law_chance hE.here.1.1.1.1.1.1.1.1.1.1.1.1.1.1.1.2 ((HsP.out.mul HsQ.out).l (by decide)) (HsP.out.mul HsQ.out).1 (HsP.out.mul HsQ.out).2.1).mono ?_
        clear k86 k87 k88 k89
        rintro e w90 ⟨rfl, hb⟩
        replace hE := hE.step hb
        clear hb
        obtain ⟨k91, k92, k93, k94⟩ := (hE.here.1.1.1.1.1.1.1.1.1.1.2).c4
        go_wp2_with fail
        refine (law_chance hE.here.1.1.1.1.1.1.1.1.1.1.1.2 ((HsQ.out.no.mul HsP.out).l (by decide)) (HsQ.out.no.mul HsP.out).1 (HsQ.out.no.mul HsP.out).2.1).mono ?_
        clear k91 k92 k93 k94
        rintro e w95 ⟨rfl, hb⟩
        replace hE := hE.step hb
        clear hb
        obtain ⟨k96, k97, k98, k99⟩ := (hE.here.1.1.1.1.1.1.1.1.2).c4
        go_wp2_with fail
        refine (law_chance hE.here.1.1.1.1.1.1.1.1.1.2 ((HsP.out.no.mul HsQ.out).l (by decide)) (HsP.out.no.mul HsQ.out).1 (HsP.out.no.mul HsQ.out).2.1).mono ?_
        clear k96 k97 k98 k99
        rintro e w100 ⟨rfl, hb⟩
        replace hE := hE.step hb
        clear hb
        obtain ⟨k101, k102, k103, k104⟩ := (hE.here.1.1.1.1.1.1.2).c4
        go_wp2_with fail
        refine (law_chance hE.here.1.1.1.1.1.1.1.2 ((HsP.out.no.mul HsQ.out.no).no.l (by decide)) (HsP.out.no.mul HsQ.out.no).no.1 (HsP.out.no.mul HsQ.out.no).no.2.1).mono ?_
        clear k101 k102 k103 k104
        rintro e w105 ⟨rfl, hb⟩
        replace hE := hE.step hb
        clear hb
        go_upto_region 15 with (fail)
        replace hE := hE.drew
        refine wp_region_held_drew (S := fun w' => w'.cell? ⟨g26, 0, none⟩ = some (.bool sbo) ∧ w'.cell? ⟨g26, 1, none⟩ = some (.slice Abo nbo cbo) ∧ w'.cell? ⟨g26, 2, none⟩ = some (.bool tibo) ∧ w'.cell? ⟨g26, 3, none⟩ = some (.slice Bbo mbo dbo) ∧ w'.cell? ⟨g35, 0, none⟩ = some (.bool sba) ∧ w'.cell? ⟨g35, 1, none⟩ = some (.slice Aba nba cba) ∧ w'.cell? ⟨g35, 2, none⟩ = some (.bool tiba) ∧ w'.cell? ⟨g35, 3, none⟩ = some (.slice Bba mba dba) ∧ w'.cell? ⟨g62, 0, none⟩ = some (.bool sso) ∧ w'.cell? ⟨g62, 1, none⟩ = some (.slice Aso nso cso) ∧ w'.cell? ⟨g62, 2, none⟩ = some (.bool tiso) ∧ w'.cell? ⟨g62, 3, none⟩ = some (.slice Bso mso dso) ∧ w'.cell? ⟨g71, 0, none⟩ = some (.bool sot) ∧ w'.cell? ⟨g71, 1, none⟩ = some (.slice Aot not cot) ∧ w'.cell? ⟨g71, 2, none⟩ = some (.bool tiot) ∧ w'.cell? ⟨g71, 3, none⟩ = some (.slice Bot mot dot) ∧ w'.cell? ⟨g44, 0, none⟩ = some (.bool sfi) ∧ w'.cell? ⟨g44, 1, none⟩ = some (.slice Afi nfi cfi) ∧ w'.cell? ⟨g44, 2, none⟩ = some (.bool tifi) ∧ w'.cell? ⟨g44, 3, none⟩ = some (.slice Bfi mfi dfi) ∧ w'.cell? ⟨g53, 0, none⟩ = some (.bool sse) ∧ w'.cell? ⟨g53, 1, none⟩ = some (.slice Ase nse cse) ∧ w'.cell? ⟨g53, 2, none⟩ = some (.bool tise) ∧ w'.cell? ⟨g53, 3, none⟩ = some (.slice Bse mse dse) ∧ w'.cell? ⟨g78, 0, none⟩ = some (.bool sp) ∧ w'.cell? ⟨g78, 1, none⟩ = some (.slice Ap np cp) ∧ w'.cell? ⟨g78, 2, none⟩ = some (.bool tip) ∧ w'.cell? ⟨g78, 3, none⟩ = some (.slice Bp mp dp) ∧ w'.cell? ⟨g85, 0, none⟩ = some (.bool sq) ∧ w'.cell? ⟨g85, 1, none⟩ = some (.slice Aq nq cq) ∧ w'.cell? ⟨g85, 2, none⟩ = some (.bool tiq) ∧ w'.cell? ⟨g85, 3, none⟩ = some (.slice Bq mq dq)) (by kernel_rfl) (⟨(hE.here.1.1.1.1.1.1.1.1.1.1.1.1.1.1.2).c4.1, (hE.here.1.1.1.1.1.1.1.1.1.1.1.1.1.1.2).c4.2.1, (hE.here.1.1.1.1.1.1.1.1.1.1.1.1.1.1.2).c4.2.2.1, (hE.here.1.1.1.1.1.1.1.1.1.1.1.1.1.1.2).c4.2.2.2, (hE.here.1.1.1.1.1.1.1.1.1.1.1.1.2).c4.1, (hE.here.1.1.1.1.1.1.1.1.1.1.1.1.2).c4.2.1, (hE.here.1.1.1.1.1.1.1.1.1.1.1.1.2).c4.2.2.1, (hE.here.1.1.1.1.1.1.1.1.1.1.1.1.2).c4.2.2.2, (hE.here.1.1.1.1.1.1.2).c4.1, (hE.here.1.1.1.1.1.1.2).c4.2.1, (hE.here.1.1.1.1.1.1.2).c4.2.2.1, (hE.here.1.1.1.1.1.1.2).c4.2.2.2, (hE.here.1.1.1.1.2).c4.1, (hE.here.1.1.1.1.2).c4.2.1, (hE.here.1.1.1.1.2).c4.2.2.1, (hE.here.1.1.1.1.2).c4.2.2.2, (hE.here.1.1.1.1.1.1.1.1.1.1.2).c4.1, (hE.here.1.1.1.1.1.1.1.1.1.1.2).c4.2.1, (hE.here.1.1.1.1.1.1.1.1.1.1.2).c4.2.2.1, (hE.here.1.1.1.1.1.1.1.1.1.1.2).c4.2.2.2, (hE.here.1.1.1.1.1.1.1.1.2).c4.1, (hE.here.1.1.1.1.1.1.1.1.2).c4.2.1, (hE.here.1.1.1.1.1.1.1.1.2).c4.2.2.1, (hE.here.1.1.1.1.1.1.1.1.2).c4.2.2.2, (hE.here.1.1.2).c4.1, (hE.here.1.1.2).c4.2.1, (hE.here.1.1.2).c4.2.2.1, (hE.here.1.1.2).c4.2.2.2, (hE.here.2).c4.1, (hE.here.2).c4.2.1, (hE.here.2).c4.2.2.1, (hE.here.2).c4.2.2.2⟩) (fun hHeld => ?_)
        refine wpAnyH_take (i := 0) (v := ?v1_0_1) rfl (by kernel_rfl) (by kernel_rfl) (by kernel_rfl) (fun _ _ _ h => h) (Or.inl ⟨by rfl, ?hy1_0_1⟩) (by assumption) ?rest1_0_1
        case hy1_0_1 => intro w hSw; (try dsimp only at hSw); first | (go_simp; done) | (go_simp; with_reducible rfl)
        try simp only [Act.put, List.setIfInBounds_toArray, List.set_cons_zero, List.set_cons_succ, List.getElem_toArray, List.getElem_cons_succ, List.getElem_cons_zero]
        refine wpAnyH_take (i := 1) (v := ?v1_1_2) rfl (by kernel_rfl) (by kernel_rfl) (by kernel_rfl) (fun _ _ _ h => h) (Or.inl ⟨by rfl, ?hy1_1_2⟩) (by assumption) ?rest1_1_2
        case hy1_1_2 => intro w hSw; (try dsimp only at hSw); first | (go_simp; done) | (go_simp; with_reducible rfl)
        try simp only [Act.put, List.setIfInBounds_toArray, List.set_cons_zero, List.set_cons_succ, List.getElem_toArray, List.getElem_cons_succ, List.getElem_cons_zero]
        refine wpAnyH_ready (rs := [2]) (by kernel_rfl) (by simp) (AllReadyH.cons rfl (fun K hK => ?_) (AllReadyH.nil))
        go_simp
        refine (lw_equal (v := true) (ca := cbo) (da := dbo) (cb := cba) (db := dba) hE.here.1.1.1.1.1.1.1.1.1.1.1.1.1.1.1.2 hE.here.1.1.1.1.1.1.1.1.1.1.1.1.1.2 ((HsP.out.mul HsQ.out).l (by decide)) ((HsQ.out.mul HsP.out).l (by decide)) (decide_eq_true Hg1.out)).mono ?_
        rintro e w106 ⟨rfl, hb⟩
        replace hE := hE.step hb
        clear hb
        go_wp2_with fail
        refine hK.out _ _ (⟨(hE.here.1.1.1.1.1.1.1.1.1.1.1.1.1.1.2).c4.1, (hE.here.1.1.1.1.1.1.1.1.1.1.1.1.1.1.2).c4.2.1, (hE.here.1.1.1.1.1.1.1.1.1.1.1.1.1.1.2).c4.2.2.1, (hE.here.1.1.1.1.1.1.1.1.1.1.1.1.1.1.2).c4.2.2.2, (hE.here.1.1.1.1.1.1.1.1.1.1.1.1.2).c4.1, (hE.here.1.1.1.1.1.1.1.1.1.1.1.1.2).c4.2.1, (hE.here.1.1.1.1.1.1.1.1.1.1.1.1.2).c4.2.2.1, (hE.here.1.1.1.1.1.1.1.1.1.1.1.1.2).c4.2.2.2, (hE.here.1.1.1.1.1.1.2).c4.1, (hE.here.1.1.1.1.1.1.2).c4.2.1, (hE.here.1.1.1.1.1.1.2).c4.2.2.1, (hE.here.1.1.1.1.1.1.2).c4.2.2.2, (hE.here.1.1.1.1.2).c4.1, (hE.here.1.1.1.1.2).c4.2.1, (hE.here.1.1.1.1.2).c4.2.2.1, (hE.here.1.1.1.1.2).c4.2.2.2, (hE.here.1.1.1.1.1.1.1.1.1.1.2).c4.1, (hE.here.1.1.1.1.1.1.1.1.1.1.2).c4.2.1, (hE.here.1.1.1.1.1.1.1.1.1.1.2).c4.2.2.1, (hE.here.1.1.1.1.1.1.1.1.1.1.2).c4.2.2.2, (hE.here.1.1.1.1.1.1.1.1.2).c4.1, (hE.here.1.1.1.1.1.1.1.1.2).c4.2.1, (hE.here.1.1.1.1.1.1.1.1.2).c4.2.2.1, (hE.here.1.1.1.1.1.1.1.1.2).c4.2.2.2, (hE.here.1.1.2).c4.1, (hE.here.1.1.2).c4.2.1, (hE.here.1.1.2).c4.2.2.1, (hE.here.1.1.2).c4.2.2.2, (hE.here.2).c4.1, (hE.here.2).c4.2.1, (hE.here.2).c4.2.2.1, (hE.here.2).c4.2.2.2⟩) (fun hHeld => ?_)
        clear hK K
        try simp only [Act.put, List.setIfInBounds_toArray, List.set_cons_zero, List.set_cons_succ, List.getElem_toArray, List.getElem_cons_succ, List.getElem_cons_zero]
        refine wpAnyH_take (i := 3) (v := ?v1_3_3) rfl (by kernel_rfl) (by kernel_rfl) (by kernel_rfl) (fun _ _ _ h => h) (Or.inl ⟨by rfl, ?hy1_3_3⟩) (by assumption) ?rest1_3_3
        case hy1_3_3 => intro w hSw; (try dsimp only at hSw); first | (go_simp; done) | (go_simp; with_reducible rfl)
        try simp only [Act.put, List.setIfInBounds_toArray, List.set_cons_zero, List.set_cons_succ, List.getElem_toArray, List.getElem_cons_succ, List.getElem_cons_zero]
        refine wpAnyH_take (i := 4) (v := ?v1_4_4) rfl (by kernel_rfl) (by kernel_rfl) (by kernel_rfl) (fun _ _ _ h => h) (Or.inl ⟨by rfl, ?hy1_4_4⟩) (by assumption) ?rest1_4_4
        case hy1_4_4 => intro w hSw; (try dsimp only at hSw); first | (go_simp; done) | (go_simp; with_reducible rfl)
        try simp only [Act.put, List.setIfInBounds_toArray, List.set_cons_zero, List.set_cons_succ, List.getElem_toArray, List.getElem_cons_succ, List.getElem_cons_zero]
        refine wpAnyH_take (i := 5) (v := ?v1_5_5) rfl (by kernel_rfl) (by kernel_rfl) (by kernel_rfl) (fun _ _ _ h => h) (Or.inl ⟨by rfl, ?hy1_5_5⟩) (by assumption) ?rest1_5_5
        case hy1_5_5 => intro w hSw; (try dsimp only at hSw); first | (go_simp; done) | (go_simp; with_reducible rfl)
        try simp only [Act.put, List.setIfInBounds_toArray, List.set_cons_zero, List.set_cons_succ, List.getElem_toArray, List.getElem_cons_succ, List.getElem_cons_zero]
        refine wpAnyH_ready (rs := [6]) (by kernel_rfl) (by simp) (AllReadyH.cons rfl (fun K hK => ?_) (AllReadyH.nil))
        go_simp
        refine (lw_equal (v := true) (ca := cso) (da := dso) (cb := cot) (db := dot) hE.here.1.1.1.1.1.1.1.2 hE.here.1.1.1.1.1.2 ((HsP.out.no.mul HsQ.out.no).no.l (by decide)) ((HsQ.out.no.mul HsP.out.no).no.l (by decide)) (decide_eq_true Hg2.out)).mono ?_
        rintro e w107 ⟨rfl, hb⟩
        replace hE := hE.step hb
        clear hb
        go_wp2_with fail
        refine hK.out _ _ (⟨(hE.here.1.1.1.1.1.1.1.1.1.1.1.1.1.1.2).c4.1, (hE.here.1.1.1.1.1.1.1.1.1.1.1.1.1.1.2).c4.2.1, (hE.here.1.1.1.1.1.1.1.1.1.1.1.1.1.1.2).c4.2.2.1, (hE.here.1.1.1.1.1.1.1.1.1.1.1.1.1.1.2).c4.2.2.2, (hE.here.1.1.1.1.1.1.1.1.1.1.1.1.2).c4.1, (hE.here.1.1.1.1.1.1.1.1.1.1.1.1.2).c4.2.1, (hE.here.1.1.1.1.1.1.1.1.1.1.1.1.2).c4.2.2.1, (hE.here.1.1.1.1.1.1.1.1.1.1.1.1.2).c4.2.2.2, (hE.here.1.1.1.1.1.1.2).c4.1, (hE.here.1.1.1.1.1.1.2).c4.2.1, (hE.here.1.1.1.1.1.1.2).c4.2.2.1, (hE.here.1.1.1.1.1.1.2).c4.2.2.2, (hE.here.1.1.1.1.2).c4.1, (hE.here.1.1.1.1.2).c4.2.1, (hE.here.1.1.1.1.2).c4.2.2.1, (hE.here.1.1.1.1.2).c4.2.2.2, (hE.here.1.1.1.1.1.1.1.1.1.1.2).c4.1, (hE.here.1.1.1.1.1.1.1.1.1.1.2).c4.2.1, (hE.here.1.1.1.1.1.1.1.1.1.1.2).c4.2.2.1, (hE.here.1.1.1.1.1.1.1.1.1.1.2).c4.2.2.2, (hE.here.1.1.1.1.1.1.1.1.2).c4.1, (hE.here.1.1.1.1.1.1.1.1.2).c4.2.1, (hE.here.1.1.1.1.1.1.1.1.2).c4.2.2.1, (hE.here.1.1.1.1.1.1.1.1.2).c4.2.2.2, (hE.here.1.1.2).c4.1, (hE.here.1.1.2).c4.2.1, (hE.here.1.1.2).c4.2.2.1, (hE.here.1.1.2).c4.2.2.2, (hE.here.2).c4.1, (hE.here.2).c4.2.1, (hE.here.2).c4.2.2.1, (hE.here.2).c4.2.2.2⟩) (fun hHeld => ?_)
        clear hK K
        try simp only [Act.put, List.setIfInBounds_toArray, List.set_cons_zero, List.set_cons_succ, List.getElem_toArray, List.getElem_cons_succ, List.getElem_cons_zero]
        refine wpAnyH_take (i := 7) (v := ?v1_7_6) rfl (by kernel_rfl) (by kernel_rfl) (by kernel_rfl) (fun _ _ _ h => h) (Or.inl ⟨by rfl, ?hy1_7_6⟩) (by assumption) ?rest1_7_6
        case hy1_7_6 => intro w hSw; (try dsimp only at hSw); first | (go_simp; done) | (go_simp; with_reducible rfl)
        try simp only [Act.put, List.setIfInBounds_toArray, List.set_cons_zero, List.set_cons_succ, List.getElem_toArray, List.getElem_cons_succ, List.getElem_cons_zero]
        refine wpAnyH_take (i := 8) (v := ?v1_8_7) rfl (by kernel_rfl) (by kernel_rfl) (by kernel_rfl) (fun _ _ _ h => h) (Or.inl ⟨by rfl, ?hy1_8_7⟩) (by assumption) ?rest1_8_7
        case hy1_8_7 => intro w hSw; (try dsimp only at hSw); first | (go_simp; done) | (go_simp; with_reducible rfl)
        try simp only [Act.put, List.setIfInBounds_toArray, List.set_cons_zero, List.set_cons_succ, List.getElem_toArray, List.getElem_cons_succ, List.getElem_cons_zero]
        refine wpAnyH_take (i := 9) (v := ?v1_9_8) rfl (by kernel_rfl) (by kernel_rfl) (by kernel_rfl) (fun _ _ _ h => h) (Or.inl ⟨by rfl, ?hy1_9_8⟩) (by assumption) ?rest1_9_8
        case hy1_9_8 => intro w hSw; (try dsimp only at hSw); first | (go_simp; done) | (go_simp; with_reducible rfl)
        try simp only [Act.put, List.setIfInBounds_toArray, List.set_cons_zero, List.set_cons_succ, List.getElem_toArray, List.getElem_cons_succ, List.getElem_cons_zero]
        refine wpAnyH_take (i := 10) (v := ?v1_10_9) rfl (by kernel_rfl) (by kernel_rfl) (by kernel_rfl) (fun _ _ _ h => h) (Or.inl ⟨by rfl, ?hy1_10_9⟩) (by assumption) ?rest1_10_9
        case hy1_10_9 => intro w hSw; (try dsimp only at hSw); first | (go_simp; done) | (go_simp; with_reducible rfl)
        try simp only [Act.put, List.setIfInBounds_toArray, List.set_cons_zero, List.set_cons_succ, List.getElem_toArray, List.getElem_cons_succ, List.getElem_cons_zero]
        refine wpAnyH_take (i := 11) (v := ?v1_11_10) rfl (by kernel_rfl) (by kernel_rfl) (by kernel_rfl) (fun _ _ _ h => h) (Or.inl ⟨by rfl, ?hy1_11_10⟩) (by assumption) ?rest1_11_10
        case hy1_11_10 => intro w hSw; (try dsimp only at hSw); first | (go_simp; done) | (go_simp; with_reducible rfl)
        try simp only [Act.put, List.setIfInBounds_toArray, List.set_cons_zero, List.set_cons_succ, List.getElem_toArray, List.getElem_cons_succ, List.getElem_cons_zero]
        refine wpAnyH_take (i := 12) (v := ?v1_12_11) rfl (by kernel_rfl) (by kernel_rfl) (by kernel_rfl) (fun _ _ _ h => h) (Or.inl ⟨by rfl, ?hy1_12_11⟩) (by assumption) ?rest1_12_11
        case hy1_12_11 => intro w hSw; (try dsimp only at hSw); first | (go_simp; done) | (go_simp; with_reducible rfl)
        try simp only [Act.put, List.setIfInBounds_toArray, List.set_cons_zero, List.set_cons_succ, List.getElem_toArray, List.getElem_cons_succ, List.getElem_cons_zero]
        refine wpAnyH_ready (rs := [13]) (by kernel_rfl) (by simp) (AllReadyH.cons rfl (fun K hK => ?_) (AllReadyH.nil))
        go_simp
        refine (lw_sum (ca := cfi) (da := dfi) (cb := cse) (db := dse) hE.here.1.1.1.1.1.1.1.1.1.1.1.2 hE.here.1.1.1.1.1.1.1.1.1.2 ((HsQ.out.no.mul HsP.out).l (by decide)) ((HsP.out.no.mul HsQ.out).l (by decide)) Hf1.out).mono ?_
        rintro e w108 ⟨ss1, As1, ns1, cs1, tis1, Bs1, ms1, ds1, rfl, hs1, hb⟩
        replace hE := hE.step hb
        clear hb
        replace hE := hE.fv hs1
        clear hs1
        go_wp2_with fail
        refine hK.out _ _ (⟨(hE.here.1.1.1.1.1.1.1.1.1.1.1.1.1.1.1.2).c4.1, (hE.here.1.1.1.1.1.1.1.1.1.1.1.1.1.1.1.2).c4.2.1, (hE.here.1.1.1.1.1.1.1.1.1.1.1.1.1.1.1.2).c4.2.2.1, (hE.here.1.1.1.1.1.1.1.1.1.1.1.1.1.1.1.2).c4.2.2.2, (hE.here.1.1.1.1.1.1.1.1.1.1.1.1.1.2).c4.1, (hE.here.1.1.1.1.1.1.1.1.1.1.1.1.1.2).c4.2.1, (hE.here.1.1.1.1.1.1.1.1.1.1.1.1.1.2).c4.2.2.1, (hE.here.1.1.1.1.1.1.1.1.1.1.1.1.1.2).c4.2.2.2, (hE.here.1.1.1.1.1.1.1.2).c4.1, (hE.here.1.1.1.1.1.1.1.2).c4.2.1, (hE.here.1.1.1.1.1.1.1.2).c4.2.2.1, (hE.here.1.1.1.1.1.1.1.2).c4.2.2.2, (hE.here.1.1.1.1.1.2).c4.1, (hE.here.1.1.1.1.1.2).c4.2.1, (hE.here.1.1.1.1.1.2).c4.2.2.1, (hE.here.1.1.1.1.1.2).c4.2.2.2, (hE.here.1.1.1.1.1.1.1.1.1.1.1.2).c4.1, (hE.here.1.1.1.1.1.1.1.1.1.1.1.2).c4.2.1, (hE.here.1.1.1.1.1.1.1.1.1.1.1.2).c4.2.2.1, (hE.here.1.1.1.1.1.1.1.1.1.1.1.2).c4.2.2.2, (hE.here.1.1.1.1.1.1.1.1.1.2).c4.1, (hE.here.1.1.1.1.1.1.1.1.1.2).c4.2.1, (hE.here.1.1.1.1.1.1.1.1.1.2).c4.2.2.1, (hE.here.1.1.1.1.1.1.1.1.1.2).c4.2.2.2, (hE.here.1.1.1.2).c4.1, (hE.here.1.1.1.2).c4.2.1, (hE.here.1.1.1.2).c4.2.2.1, (hE.here.1.1.1.2).c4.2.2.2, (hE.here.1.2).c4.1, (hE.here.1.2).c4.2.1, (hE.here.1.2).c4.2.2.1, (hE.here.1.2).c4.2.2.2⟩) (fun hHeld => ?_)
        clear hK K
        try simp only [Act.put, List.setIfInBounds_toArray, List.set_cons_zero, List.set_cons_succ, List.getElem_toArray, List.getElem_cons_succ, List.getElem_cons_zero]
        refine wpAnyH_ready (rs := [14]) (by kernel_rfl) (by simp) (AllReadyH.cons rfl (fun K hK => ?_) (AllReadyH.nil))
        go_simp
        refine (lw_sum (ca := cbo) (da := dbo) (cb := cs1) (db := ds1) hE.here.1.1.1.1.1.1.1.1.1.1.1.1.1.1.1.1.2 hE.here.2 ((HsP.out.mul HsQ.out).l (by decide)) Hf1.out Hf2.out).mono ?_
        rintro e w109 ⟨ss2, As2, ns2, cs2, tis2, Bs2, ms2, ds2, rfl, hs2, hb⟩
        replace hE := hE.step hb
        clear hb
        replace hE := hE.fv hs2
        clear hs2
        go_wp2_with fail
        refine hK.out _ _ (⟨(hE.here.1.1.1.1.1.1.1.1.1.1.1.1.1.1.1.1.2).c4.1, (hE.here.1.1.1.1.1.1.1.1.1.1.1.1.1.1.1.1.2).c4.2.1, (hE.here.1.1.1.1.1.1.1.1.1.1.1.1.1.1.1.1.2).c4.2.2.1, (hE.here.1.1.1.1.1.1.1.1.1.1.1.1.1.1.1.1.2).c4.2.2.2, (hE.here.1.1.1.1.1.1.1.1.1.1.1.1.1.1.2).c4.1, (hE.here.1.1.1.1.1.1.1.1.1.1.1.1.1.1.2).c4.2.1, (hE.here.1.1.1.1.1.1.1.1.1.1.1.1.1.1.2).c4.2.2.1, (hE.here.1.1.1.1.1.1.1.1.1.1.1.1.1.1.2).c4.2.2.2, (hE.here.1.1.1.1.1.1.1.1.2).c4.1, (hE.here.1.1.1.1.1.1.1.1.2).c4.2.1, (hE.here.1.1.1.1.1.1.1.1.2).c4.2.2.1, (hE.here.1.1.1.1.1.1.1.1.2).c4.2.2.2, (hE.here.1.1.1.1.1.1.2).c4.1, (hE.here.1.1.1.1.1.1.2).c4.2.1, (hE.here.1.1.1.1.1.1.2).c4.2.2.1, (hE.here.1.1.1.1.1.1.2).c4.2.2.2, (hE.here.1.1.1.1.1.1.1.1.1.1.1.1.2).c4.1, (hE.here.1.1.1.1.1.1.1.1.1.1.1.1.2).c4.2.1, (hE.here.1.1.1.1.1.1.1.1.1.1.1.1.2).c4.2.2.1, (hE.here.1.1.1.1.1.1.1.1.1.1.1.1.2).c4.2.2.2, (hE.here.1.1.1.1.1.1.1.1.1.1.2).c4.1, (hE.here.1.1.1.1.1.1.1.1.1.1.2).c4.2.1, (hE.here.1.1.1.1.1.1.1.1.1.1.2).c4.2.2.1, (hE.here.1.1.1.1.1.1.1.1.1.1.2).c4.2.2.2, (hE.here.1.1.1.1.2).c4.1, (hE.here.1.1.1.1.2).c4.2.1, (hE.here.1.1.1.1.2).c4.2.2.1, (hE.here.1.1.1.1.2).c4.2.2.2, (hE.here.1.1.2).c4.1, (hE.here.1.1.2).c4.2.1, (hE.here.1.1.2).c4.2.2.1, (hE.here.1.1.2).c4.2.2.2⟩) (fun hHeld => ?_)
        clear hK K
        try simp only [Act.put, List.setIfInBounds_toArray, List.set_cons_zero, List.set_cons_succ, List.getElem_toArray, List.getElem_cons_succ, List.getElem_cons_zero]
        refine wpAnyH_ready (rs := [15]) (by kernel_rfl) (by simp) (AllReadyH.cons rfl (fun K hK => ?_) (AllReadyH.nil))
        go_simp
        refine (lw_equal (v := true) (ca := cso) (da := dso) (cb := cs2) (db := ds2) hE.here.1.1.1.1.1.1.1.1.1.2 hE.here.2 ((HsP.out.no.mul HsQ.out.no).no.l (by decide)) Hf2.out (decide_eq_true Hg3.out)).mono ?_
        rintro e w110 ⟨rfl, hb⟩
        replace hE := hE.step hb
        clear hb
        go_wp2_with fail
        refine hK.out _ _ (⟨(hE.here.1.1.1.1.1.1.1.1.1.1.1.1.1.1.1.1.2).c4.1, (hE.here.1.1.1.1.1.1.1.1.1.1.1.1.1.1.1.1.2).c4.2.1, (hE.here.1.1.1.1.1.1.1.1.1.1.1.1.1.1.1.1.2).c4.2.2.1, (hE.here.1.1.1.1.1.1.1.1.1.1.1.1.1.1.1.1.2).c4.2.2.2, (hE.here.1.1.1.1.1.1.1.1.1.1.1.1.1.1.2).c4.1, (hE.here.1.1.1.1.1.1.1.1.1.1.1.1.1.1.2).c4.2.1, (hE.here.1.1.1.1.1.1.1.1.1.1.1.1.1.1.2).c4.2.2.1, (hE.here.1.1.1.1.1.1.1.1.1.1.1.1.1.1.2).c4.2.2.2, (hE.here.1.1.1.1.1.1.1.1.2).c4.1, (hE.here.1.1.1.1.1.1.1.1.2).c4.2.1, (hE.here.1.1.1.1.1.1.1.1.2).c4.2.2.1, (hE.here.1.1.1.1.1.1.1.1.2).c4.2.2.2, (hE.here.1.1.1.1.1.1.2).c4.1, (hE.here.1.1.1.1.1.1.2).c4.2.1, (hE.here.1.1.1.1.1.1.2).c4.2.2.1, (hE.here.1.1.1.1.1.1.2).c4.2.2.2, (hE.here.1.1.1.1.1.1.1.1.1.1.1.1.2).c4.1, (hE.here.1.1.1.1.1.1.1.1.1.1.1.1.2).c4.2.1, (hE.here.1.1.1.1.1.1.1.1.1.1.1.1.2).c4.2.2.1, (hE.here.1.1.1.1.1.1.1.1.1.1.1.1.2).c4.2.2.2, (hE.here.1.1.1.1.1.1.1.1.1.1.2).c4.1, (hE.here.1.1.1.1.1.1.1.1.1.1.2).c4.2.1, (hE.here.1.1.1.1.1.1.1.1.1.1.2).c4.2.2.1, (hE.here.1.1.1.1.1.1.1.1.1.1.2).c4.2.2.2, (hE.here.1.1.1.1.2).c4.1, (hE.here.1.1.1.1.2).c4.2.1, (hE.here.1.1.1.1.2).c4.2.2.1, (hE.here.1.1.1.1.2).c4.2.2.2, (hE.here.1.1.2).c4.1, (hE.here.1.1.2).c4.2.1, (hE.here.1.1.2).c4.2.2.1, (hE.here.1.1.2).c4.2.2.2⟩) (fun hHeld => ?_)
        clear hK K
        try simp only [Act.put, List.setIfInBounds_toArray, List.set_cons_zero, List.set_cons_succ, List.getElem_toArray, List.getElem_cons_succ, List.getElem_cons_zero]
        refine wpAnyH_take (i := 16) (v := ?v1_16_12) rfl (by kernel_rfl) (by kernel_rfl) (by kernel_rfl) (fun _ _ _ h => h) (Or.inl ⟨by rfl, ?hy1_16_12⟩) (by assumption) ?rest1_16_12
        case hy1_16_12 => intro w hSw; (try dsimp only at hSw); first | (go_simp; done) | (go_simp; with_reducible rfl)
        try simp only [Act.put, List.setIfInBounds_toArray, List.set_cons_zero, List.set_cons_succ, List.getElem_toArray, List.getElem_cons_succ, List.getElem_cons_zero]
        refine wpAnyH_take (i := 17) (v := ?v1_17_13) rfl (by kernel_rfl) (by kernel_rfl) (by kernel_rfl) (fun _ _ _ h => h) (Or.inl ⟨by rfl, ?hy1_17_13⟩) (by assumption) ?rest1_17_13
        case hy1_17_13 => intro w hSw; (try dsimp only at hSw); first | (go_simp; done) | (go_simp; with_reducible rfl)
        try simp only [Act.put, List.setIfInBounds_toArray, List.set_cons_zero, List.set_cons_succ, List.getElem_toArray, List.getElem_cons_succ, List.getElem_cons_zero]
        refine wpAnyH_take (i := 18) (v := ?v1_18_14) rfl (by kernel_rfl) (by kernel_rfl) (by kernel_rfl) (fun _ _ _ h => h) (Or.inl ⟨by rfl, ?hy1_18_14⟩) (by assumption) ?rest1_18_14
        case hy1_18_14 => intro w hSw; (try dsimp only at hSw); first | (go_simp; done) | (go_simp; with_reducible rfl)
        try simp only [Act.put, List.setIfInBounds_toArray, List.set_cons_zero, List.set_cons_succ, List.getElem_toArray, List.getElem_cons_succ, List.getElem_cons_zero]
        refine wpAnyH_take (i := 20) (v := ?v1_20_15) rfl (by kernel_rfl) (by kernel_rfl) (by kernel_rfl) (fun _ _ _ h => h) (Or.inl ⟨by rfl, ?hy1_20_15⟩) (by assumption) ?rest1_20_15
        case hy1_20_15 => intro w hSw; (try dsimp only at hSw); first | (go_simp; done) | (go_simp; with_reducible rfl)
        try simp only [Act.put, List.setIfInBounds_toArray, List.set_cons_zero, List.set_cons_succ, List.getElem_toArray, List.getElem_cons_succ, List.getElem_cons_zero]
        refine wpAnyH_take (i := 22) (v := ?v1_22_16) rfl (by kernel_rfl) (by kernel_rfl) (by kernel_rfl) (fun _ _ _ h => h) (Or.inl ⟨by rfl, ?hy1_22_16⟩) (by assumption) ?rest1_22_16
        case hy1_22_16 => intro w hSw; (try dsimp only at hSw); first | (go_simp; done) | (go_simp; with_reducible rfl)
        try simp only [Act.put, List.setIfInBounds_toArray, List.set_cons_zero, List.set_cons_succ, List.getElem_toArray, List.getElem_cons_succ, List.getElem_cons_zero]
        refine wpAnyH_ready (rs := [19]) (by kernel_rfl) (by simp) (AllReadyH.cons rfl (fun K hK => ?_) (AllReadyH.nil))
        go_simp
        refine (law_not (ca := cso) (da := dso) hE.here.1.1.1.1.1.1.1.1.1.2 ((HsP.out.no.mul HsQ.out.no).no.l (by decide)) ((HsP.out.no.mul HsQ.out.no).no.no.l (by decide))).mono ?_
        rintro e w111 ⟨sns, Ans, nns, cns, tins, Bns, mns, dns, rfl, hns, hb⟩
        replace hE := hE.step hb
        clear hb
        replace hE := hE.fv hns
        clear hns
        go_wp2_with fail
        refine hK.out _ _ (⟨(hE.here.1.1.1.1.1.1.1.1.1.1.1.1.1.1.1.1.1.2).c4.1, (hE.here.1.1.1.1.1.1.1.1.1.1.1.1.1.1.1.1.1.2).c4.2.1, (hE.here.1.1.1.1.1.1.1.1.1.1.1.1.1.1.1.1.1.2).c4.2.2.1, (hE.here.1.1.1.1.1.1.1.1.1.1.1.1.1.1.1.1.1.2).c4.2.2.2, (hE.here.1.1.1.1.1.1.1.1.1.1.1.1.1.1.1.2).c4.1, (hE.here.1.1.1.1.1.1.1.1.1.1.1.1.1.1.1.2).c4.2.1, (hE.here.1.1.1.1.1.1.1.1.1.1.1.1.1.1.1.2).c4.2.2.1, (hE.here.1.1.1.1.1.1.1.1.1.1.1.1.1.1.1.2).c4.2.2.2, (hE.here.1.1.1.1.1.1.1.1.1.2).c4.1, (hE.here.1.1.1.1.1.1.1.1.1.2).c4.2.1, (hE.here.1.1.1.1.1.1.1.1.1.2).c4.2.2.1, (hE.here.1.1.1.1.1.1.1.1.1.2).c4.2.2.2, (hE.here.1.1.1.1.1.1.1.2).c4.1, (hE.here.1.1.1.1.1.1.1.2).c4.2.1, (hE.here.1.1.1.1.1.1.1.2).c4.2.2.1, (hE.here.1.1.1.1.1.1.1.2).c4.2.2.2, (hE.here.1.1.1.1.1.1.1.1.1.1.1.1.1.2).c4.1, (hE.here.1.1.1.1.1.1.1.1.1.1.1.1.1.2).c4.2.1, (hE.here.1.1.1.1.1.1.1.1.1.1.1.1.1.2).c4.2.2.1, (hE.here.1.1.1.1.1.1.1.1.1.1.1.1.1.2).c4.2.2.2, (hE.here.1.1.1.1.1.1.1.1.1.1.1.2).c4.1, (hE.here.1.1.1.1.1.1.1.1.1.1.1.2).c4.2.1, (hE.here.1.1.1.1.1.1.1.1.1.1.1.2).c4.2.2.1, (hE.here.1.1.1.1.1.1.1.1.1.1.1.2).c4.2.2.2, (hE.here.1.1.1.1.1.2).c4.1, (hE.here.1.1.1.1.1.2).c4.2.1, (hE.here.1.1.1.1.1.2).c4.2.2.1, (hE.here.1.1.1.1.1.2).c4.2.2.2, (hE.here.1.1.1.2).c4.1, (hE.here.1.1.1.2).c4.2.1, (hE.here.1.1.1.2).c4.2.2.1, (hE.here.1.1.1.2).c4.2.2.2⟩) (fun hHeld => ?_)
        clear hK K
        try simp only [Act.put, List.setIfInBounds_toArray, List.set_cons_zero, List.set_cons_succ, List.getElem_toArray, List.getElem_cons_succ, List.getElem_cons_zero]
        refine wpAnyH_ready (rs := [21]) (by kernel_rfl) (by simp) (AllReadyH.cons rfl (fun K hK => ?_) (AllReadyH.nil))
        go_simp
        refine (law_not (ca := cp) (da := dp) hE.here.1.1.1.1.1.1.2 (HsP.out.l (by decide)) (HsP.out.no.l (by decide))).mono ?_
        rintro e w112 ⟨snp, Anp, nnp, cnp, tinp, Bnp, mnp, dnp, rfl, hnp, hb⟩
        replace hE := hE.step hb
        clear hb
        replace hE := hE.fv hnp
        clear hnp
        go_wp2_with fail
        refine hK.out _ _ (⟨(hE.here.1.1.1.1.1.1.1.1.1.1.1.1.1.1.1.1.1.1.2).c4.1, (hE.here.1.1.1.1.1.1.1.1.1.1.1.1.1.1.1.1.1.1.2).c4.2.1, (hE.here.1.1.1.1.1.1.1.1.1.1.1.1.1.1.1.1.1.1.2).c4.2.2.1, (hE.here.1.1.1.1.1.1.1.1.1.1.1.1.1.1.1.1.1.1.2).c4.2.2.2, (hE.here.1.1.1.1.1.1.1.1.1.1.1.1.1.1.1.1.2).c4.1, (hE.here.1.1.1.1.1.1.1.1.1.1.1.1.1.1.1.1.2).c4.2.1, (hE.here.1.1.1.1.1.1.1.1.1.1.1.1.1.1.1.1.2).c4.2.2.1, (hE.here.1.1.1.1.1.1.1.1.1.1.1.1.1.1.1.1.2).c4.2.2.2, (hE.here.1.1.1.1.1.1.1.1.1.1.2).c4.1, (hE.here.1.1.1.1.1.1.1.1.1.1.2).c4.2.1, (hE.here.1.1.1.1.1.1.1.1.1.1.2).c4.2.2.1, (hE.here.1.1.1.1.1.1.1.1.1.1.2).c4.2.2.2, (hE.here.1.1.1.1.1.1.1.1.2).c4.1, (hE.here.1.1.1.1.1.1.1.1.2).c4.2.1, (hE.here.1.1.1.1.1.1.1.1.2).c4.2.2.1, (hE.here.1.1.1.1.1.1.1.1.2).c4.2.2.2, (hE.here.1.1.1.1.1.1.1.1.1.1.1.1.1.1.2).c4.1, (hE.here.1.1.1.1.1.1.1.1.1.1.1.1.1.1.2).c4.2.1, (hE.here.1.1.1.1.1.1.1.1.1.1.1.1.1.1.2).c4.2.2.1, (hE.here.1.1.1.1.1.1.1.1.1.1.1.1.1.1.2).c4.2.2.2, (hE.here.1.1.1.1.1.1.1.1.1.1.1.1.2).c4.1, (hE.here.1.1.1.1.1.1.1.1.1.1.1.1.2).c4.2.1, (hE.here.1.1.1.1.1.1.1.1.1.1.1.1.2).c4.2.2.1, (hE.here.1.1.1.1.1.1.1.1.1.1.1.1.2).c4.2.2.2, (hE.here.1.1.1.1.1.1.2).c4.1, (hE.here.1.1.1.1.1.1.2).c4.2.1, (hE.here.1.1.1.1.1.1.2).c4.2.2.1, (hE.here.1.1.1.1.1.1.2).c4.2.2.2, (hE.here.1.1.1.1.2).c4.1, (hE.here.1.1.1.1.2).c4.2.1, (hE.here.1.1.1.1.2).c4.2.2.1, (hE.here.1.1.1.1.2).c4.2.2.2⟩) (fun hHeld => ?_)
        clear hK K
        try simp only [Act.put, List.setIfInBounds_toArray, List.set_cons_zero, List.set_cons_succ, List.getElem_toArray, List.getElem_cons_succ, List.getElem_cons_zero]
        refine wpAnyH_ready (rs := [23]) (by kernel_rfl) (by simp) (AllReadyH.cons rfl (fun K hK => ?_) (AllReadyH.nil))
        go_simp
        refine (law_not (ca := cq) (da := dq) hE.here.1.1.1.1.1.2 (HsQ.out.l (by decide)) (HsQ.out.no.l (by decide))).mono ?_
        rintro e w113 ⟨snq, Anq, nnq, cnq, tinq, Bnq, mnq, dnq, rfl, hnq, hb⟩
        replace hE := hE.step hb
        clear hb
        replace hE := hE.fv hnq
        clear hnq
        go_wp2_with fail
        refine hK.out _ _ (⟨(hE.here.1.1.1.1.1.1.1.1.1.1.1.1.1.1.1.1.1.1.1.2).c4.1, (hE.here.1.1.1.1.1.1.1.1.1.1.1.1.1.1.1.1.1.1.1.2).c4.2.1, (hE.here.1.1.1.1.1.1.1.1.1.1.1.1.1.1.1.1.1.1.1.2).c4.2.2.1, (hE.here.1.1.1.1.1.1.1.1.1.1.1.1.1.1.1.1.1.1.1.2).c4.2.2.2, (hE.here.1.1.1.1.1.1.1.1.1.1.1.1.1.1.1.1.1.2).c4.1, (hE.here.1.1.1.1.1.1.1.1.1.1.1.1.1.1.1.1.1.2).c4.2.1, (hE.here.1.1.1.1.1.1.1.1.1.1.1.1.1.1.1.1.1.2).c4.2.2.1, (hE.here.1.1.1.1.1.1.1.1.1.1.1.1.1.1.1.1.1.2).c4.2.2.2, (hE.here.1.1.1.1.1.1.1.1.1.1.1.2).c4.1, (hE.here.1.1.1.1.1.1.1.1.1.1.1.2).c4.2.1, (hE.here.1.1.1.1.1.1.1.1.1.1.1.2).c4.2.2.1, (hE.here.1.1.1.1.1.1.1.1.1.1.1.2).c4.2.2.2, (hE.here.1.1.1.1.1.1.1.1.1.2).c4.1, (hE.here.1.1.1.1.1.1.1.1.1.2).c4.2.1, (hE.here.1.1.1.1.1.1.1.1.1.2).c4.2.2.1, (hE.here.1.1.1.1.1.1.1.1.1.2).c4.2.2.2, (hE.here.1.1.1.1.1.1.1.1.1.1.1.1.1.1.1.2).c4.1, (hE.here.1.1.1.1.1.1.1.1.1.1.1.1.1.1.1.2).c4.2.1, (hE.here.1.1.1.1.1.1.1.1.1.1.1.1.1.1.1.2).c4.2.2.1, (hE.here.1.1.1.1.1.1.1.1.1.1.1.1.1.1.1.2).c4.2.2.2, (hE.here.1.1.1.1.1.1.1.1.1.1.1.1.1.2).c4.1, (hE.here.1.1.1.1.1.1.1.1.1.1.1.1.1.2).c4.2.1, (hE.here.1.1.1.1.1.1.1.1.1.1.1.1.1.2).c4.2.2.1, (hE.here.1.1.1.1.1.1.1.1.1.1.1.1.1.2).c4.2.2.2, (hE.here.1.1.1.1.1.1.1.2).c4.1, (hE.here.1.1.1.1.1.1.1.2).c4.2.1, (hE.here.1.1.1.1.1.1.1.2).c4.2.2.1, (hE.here.1.1.1.1.1.1.1.2).c4.2.2.2, (hE.here.1.1.1.1.1.2).c4.1, (hE.here.1.1.1.1.1.2).c4.2.1, (hE.here.1.1.1.1.1.2).c4.2.2.1, (hE.here.1.1.1.1.1.2).c4.2.2.2⟩) (fun hHeld => ?_)
        clear hK K
        try simp only [Act.put, List.setIfInBounds_toArray, List.set_cons_zero, List.set_cons_succ, List.getElem_toArray, List.getElem_cons_succ, List.getElem_cons_zero]
        refine wpAnyH_ready (rs := [24]) (by kernel_rfl) (by simp) (AllReadyH.cons rfl (fun K hK => ?_) (AllReadyH.nil))
        go_simp
        refine (lw_product (ca := cnp) (da := dnp) (cb := cnq) (db := dnq) hE.here.1.2 hE.here.2 (HsP.out.no.l (by decide)) (HsQ.out.no.l (by decide)) ((HsP.out.no.mul HsQ.out.no).l (by decide))).mono ?_
        rintro e w114 ⟨spq, Apq, npq, cpq, tipq, Bpq, mpq, dpq, rfl, hpq, hb⟩
        replace hE := hE.step hb
        clear hb
        replace hE := hE.fv hpq
        clear hpq
        go_wp2_with fail
        refine hK.out _ _ (⟨(hE.here.1.1.1.1.1.1.1.1.1.1.1.1.1.1.1.1.1.1.1.1.2).c4.1, (hE.here.1.1.1.1.1.1.1.1.1.1.1.1.1.1.1.1.1.1.1.1.2).c4.2.1, (hE.here.1.1.1.1.1.1.1.1.1.1.1.1.1.1.1.1.1.1.1.1.2).c4.2.2.1, (hE.here.1.1.1.1.1.1.1.1.1.1.1.1.1.1.1.1.1.1.1.1.2).c4.2.2.2, (hE.here.1.1.1.1.1.1.1.1.1.1.1.1.1.1.1.1.1.1.2).c4.1, (hE.here.1.1.1.1.1.1.1.1.1.1.1.1.1.1.1.1.1.1.2).c4.2.1, (hE.here.1.1.1.1.1.1.1.1.1.1.1.1.1.1.1.1.1.1.2).c4.2.2.1, (hE.here.1.1.1.1.1.1.1.1.1.1.1.1.1.1.1.1.1.1.2).c4.2.2.2, (hE.here.1.1.1.1.1.1.1.1.1.1.1.1.2).c4.1, (hE.here.1.1.1.1.1.1.1.1.1.1.1.1.2).c4.2.1, (hE.here.1.1.1.1.1.1.1.1.1.1.1.1.2).c4.2.2.1, (hE.here.1.1.1.1.1.1.1.1.1.1.1.1.2).c4.2.2.2, (hE.here.1.1.1.1.1.1.1.1.1.1.2).c4.1, (hE.here.1.1.1.1.1.1.1.1.1.1.2).c4.2.1, (hE.here.1.1.1.1.1.1.1.1.1.1.2).c4.2.2.1, (hE.here.1.1.1.1.1.1.1.1.1.1.2).c4.2.2.2, (hE.here.1.1.1.1.1.1.1.1.1.1.1.1.1.1.1.1.2).c4.1, (hE.here.1.1.1.1.1.1.1.1.1.1.1.1.1.1.1.1.2).c4.2.1, (hE.here.1.1.1.1.1.1.1.1.1.1.1.1.1.1.1.1.2).c4.2.2.1, (hE.here.1.1.1.1.1.1.1.1.1.1.1.1.1.1.1.1.2).c4.2.2.2, (hE.here.1.1.1.1.1.1.1.1.1.1.1.1.1.1.2).c4.1, (hE.here.1.1.1.1.1.1.1.1.1.1.1.1.1.1.2).c4.2.1, (hE.here.1.1.1.1.1.1.1.1.1.1.1.1.1.1.2).c4.2.2.1, (hE.here.1.1.1.1.1.1.1.1.1.1.1.1.1.1.2).c4.2.2.2, (hE.here.1.1.1.1.1.1.1.1.2).c4.1, (hE.here.1.1.1.1.1.1.1.1.2).c4.2.1, (hE.here.1.1.1.1.1.1.1.1.2).c4.2.2.1, (hE.here.1.1.1.1.1.1.1.1.2).c4.2.2.2, (hE.here.1.1.1.1.1.1.2).c4.1, (hE.here.1.1.1.1.1.1.2).c4.2.1, (hE.here.1.1.1.1.1.1.2).c4.2.2.1, (hE.here.1.1.1.1.1.1.2).c4.2.2.2⟩) (fun hHeld => ?_)
        clear hK K
        try simp only [Act.put, List.setIfInBounds_toArray, List.set_cons_zero, List.set_cons_succ, List.getElem_toArray, List.getElem_cons_succ, List.getElem_cons_zero]
        refine wpAnyH_ready (rs := [25]) (by kernel_rfl) (by simp) (AllReadyH.cons rfl (fun K hK => ?_) (AllReadyH.nil))
        go_simp
        refine (lw_equal (v := true) (ca := cns) (da := dns) (cb := cpq) (db := dpq) hE.here.1.1.1.2 hE.here.2 ((HsP.out.no.mul HsQ.out.no).no.no.l (by decide)) ((HsP.out.no.mul HsQ.out.no).l (by decide)) (decide_eq_true Hg4.out)).mono ?_
        rintro e w115 ⟨rfl, hb⟩
        replace hE := hE.step hb
        clear hb
        go_wp2_with fail
        refine hK.out _ _ (⟨(hE.here.1.1.1.1.1.1.1.1.1.1.1.1.1.1.1.1.1.1.1.1.2).c4.1, (hE.here.1.1.1.1.1.1.1.1.1.1.1.1.1.1.1.1.1.1.1.1.2).c4.2.1, (hE.here.1.1.1.1.1.1.1.1.1.1.1.1.1.1.1.1.1.1.1.1.2).c4.2.2.1, (hE.here.1.1.1.1.1.1.1.1.1.1.1.1.1.1.1.1.1.1.1.1.2).c4.2.2.2, (hE.here.1.1.1.1.1.1.1.1.1.1.1.1.1.1.1.1.1.1.2).c4.1, (hE.here.1.1.1.1.1.1.1.1.1.1.1.1.1.1.1.1.1.1.2).c4.2.1, (hE.here.1.1.1.1.1.1.1.1.1.1.1.1.1.1.1.1.1.1.2).c4.2.2.1, (hE.here.1.1.1.1.1.1.1.1.1.1.1.1.1.1.1.1.1.1.2).c4.2.2.2, (hE.here.1.1.1.1.1.1.1.1.1.1.1.1.2).c4.1, (hE.here.1.1.1.1.1.1.1.1.1.1.1.1.2).c4.2.1, (hE.here.1.1.1.1.1.1.1.1.1.1.1.1.2).c4.2.2.1, (hE.here.1.1.1.1.1.1.1.1.1.1.1.1.2).c4.2.2.2, (hE.here.1.1.1.1.1.1.1.1.1.1.2).c4.1, (hE.here.1.1.1.1.1.1.1.1.1.1.2).c4.2.1, (hE.here.1.1.1.1.1.1.1.1.1.1.2).c4.2.2.1, (hE.here.1.1.1.1.1.1.1.1.1.1.2).c4.2.2.2, (hE.here.1.1.1.1.1.1.1.1.1.1.1.1.1.1.1.1.2).c4.1, (hE.here.1.1.1.1.1.1.1.1.1.1.1.1.1.1.1.1.2).c4.2.1, (hE.here.1.1.1.1.1.1.1.1.1.1.1.1.1.1.1.1.2).c4.2.2.1, (hE.here.1.1.1.1.1.1.1.1.1.1.1.1.1.1.1.1.2).c4.2.2.2, (hE.here.1.1.1.1.1.1.1.1.1.1.1.1.1.1.2).c4.1, (hE.here.1.1.1.1.1.1.1.1.1.1.1.1.1.1.2).c4.2.1, (hE.here.1.1.1.1.1.1.1.1.1.1.1.1.1.1.2).c4.2.2.1, (hE.here.1.1.1.1.1.1.1.1.1.1.1.1.1.1.2).c4.2.2.2, (hE.here.1.1.1.1.1.1.1.1.2).c4.1, (hE.here.1.1.1.1.1.1.1.1.2).c4.2.1, (hE.here.1.1.1.1.1.1.1.1.2).c4.2.2.1, (hE.here.1.1.1.1.1.1.1.1.2).c4.2.2.2, (hE.here.1.1.1.1.1.1.2).c4.1, (hE.here.1.1.1.1.1.1.2).c4.2.1, (hE.here.1.1.1.1.1.1.2).c4.2.2.1, (hE.here.1.1.1.1.1.1.2).c4.2.2.2⟩) (fun hHeld => ?_)
        clear hK K
        try simp only [Act.put, List.setIfInBounds_toArray, List.set_cons_zero, List.set_cons_succ, List.getElem_toArray, List.getElem_cons_succ, List.getElem_cons_zero]
        refine wpAnyH_take (i := 26) (v := ?v1_26_17) rfl (by kernel_rfl) (by kernel_rfl) (by kernel_rfl) (fun _ _ _ h => h) (Or.inl ⟨by rfl, ?hy1_26_17⟩) (by assumption) ?rest1_26_17
        case hy1_26_17 => intro w hSw; (try dsimp only at hSw); first | (go_simp; done) | (go_simp; with_reducible rfl)
        try simp only [Act.put, List.setIfInBounds_toArray, List.set_cons_zero, List.set_cons_succ, List.getElem_toArray, List.getElem_cons_succ, List.getElem_cons_zero]
        refine wpAnyH_take (i := 27) (v := ?v1_27_18) rfl (by kernel_rfl) (by kernel_rfl) (by kernel_rfl) (fun _ _ _ h => h) (Or.inl ⟨by rfl, ?hy1_27_18⟩) (by assumption) ?rest1_27_18
        case hy1_27_18 => intro w hSw; (try dsimp only at hSw); first | (go_simp; done) | (go_simp; with_reducible rfl)
        try simp only [Act.put, List.setIfInBounds_toArray, List.set_cons_zero, List.set_cons_succ, List.getElem_toArray, List.getElem_cons_succ, List.getElem_cons_zero]
        refine wpAnyH_take (i := 28) (v := ?v1_28_19) rfl (by kernel_rfl) (by kernel_rfl) (by kernel_rfl) (fun _ _ _ h => h) (Or.inl ⟨by rfl, ?hy1_28_19⟩) (by assumption) ?rest1_28_19
        case hy1_28_19 => intro w hSw; (try dsimp only at hSw); first | (go_simp; done) | (go_simp; with_reducible rfl)
        try simp only [Act.put, List.setIfInBounds_toArray, List.set_cons_zero, List.set_cons_succ, List.getElem_toArray, List.getElem_cons_succ, List.getElem_cons_zero]
        refine wpAnyH_take (i := 29) (v := ?v1_29_20) rfl (by kernel_rfl) (by kernel_rfl) (by kernel_rfl) (fun _ _ _ h => h) (Or.inl ⟨by rfl, ?hy1_29_20⟩) (by assumption) ?rest1_29_20
        case hy1_29_20 => intro w hSw; (try dsimp only at hSw); first | (go_simp; done) | (go_simp; with_reducible rfl)
        try simp only [Act.put, List.setIfInBounds_toArray, List.set_cons_zero, List.set_cons_succ, List.getElem_toArray, List.getElem_cons_succ, List.getElem_cons_zero]
        refine wpAnyH_take (i := 30) (v := ?v1_30_21) rfl (by kernel_rfl) (by kernel_rfl) (by kernel_rfl) (fun _ _ _ h => h) (Or.inl ⟨by rfl, ?hy1_30_21⟩) (by assumption) ?rest1_30_21
        case hy1_30_21 => intro w hSw; (try dsimp only at hSw); first | (go_simp; done) | (go_simp; with_reducible rfl)
        try simp only [Act.put, List.setIfInBounds_toArray, List.set_cons_zero, List.set_cons_succ, List.getElem_toArray, List.getElem_cons_succ, List.getElem_cons_zero]
        refine wpAnyH_ready (rs := [31]) (by kernel_rfl) (by simp) (AllReadyH.cons rfl (fun K hK => ?_) (AllReadyH.nil))
        go_simp
        refine (lw_sum (ca := cbo) (da := dbo) (cb := cfi) (db := dfi) hE.here.1.1.1.1.1.1.1.1.1.1.1.1.1.1.1.1.1.1.1.1.1.2 hE.here.1.1.1.1.1.1.1.1.1.1.1.1.1.1.1.1.1.2 ((HsP.out.mul HsQ.out).l (by decide)) ((HsQ.out.no.mul HsP.out).l (by decide)) Hf5.out).mono ?_
        rintro e w116 ⟨ss5, As5, ns5, cs5, tis5, Bs5, ms5, ds5, rfl, hs5, hb⟩
        replace hE := hE.step hb
        clear hb
        replace hE := hE.fv hs5
        clear hs5
        go_wp2_with fail
        refine hK.out _ _ (⟨(hE.here.1.1.1.1.1.1.1.1.1.1.1.1.1.1.1.1.1.1.1.1.1.2).c4.1, (hE.here.1.1.1.1.1.1.1.1.1.1.1.1.1.1.1.1.1.1.1.1.1.2).c4.2.1, (hE.here.1.1.1.1.1.1.1.1.1.1.1.1.1.1.1.1.1.1.1.1.1.2).c4.2.2.1, (hE.here.1.1.1.1.1.1.1.1.1.1.1.1.1.1.1.1.1.1.1.1.1.2).c4.2.2.2, (hE.here.1.1.1.1.1.1.1.1.1.1.1.1.1.1.1.1.1.1.1.2).c4.1, (hE.here.1.1.1.1.1.1.1.1.1.1.1.1.1.1.1.1.1.1.1.2).c4.2.1, (hE.here.1.1.1.1.1.1.1.1.1.1.1.1.1.1.1.1.1.1.1.2).c4.2.2.1, (hE.here.1.1.1.1.1.1.1.1.1.1.1.1.1.1.1.1.1.1.1.2).c4.2.2.2, (hE.here.1.1.1.1.1.1.1.1.1.1.1.1.1.2).c4.1, (hE.here.1.1.1.1.1.1.1.1.1.1.1.1.1.2).c4.2.1, (hE.here.1.1.1.1.1.1.1.1.1.1.1.1.1.2).c4.2.2.1, (hE.here.1.1.1.1.1.1.1.1.1.1.1.1.1.2).c4.2.2.2, (hE.here.1.1.1.1.1.1.1.1.1.1.1.2).c4.1, (hE.here.1.1.1.1.1.1.1.1.1.1.1.2).c4.2.1, (hE.here.1.1.1.1.1.1.1.1.1.1.1.2).c4.2.2.1, (hE.here.1.1.1.1.1.1.1.1.1.1.1.2).c4.2.2.2, (hE.here.1.1.1.1.1.1.1.1.1.1.1.1.1.1.1.1.1.2).c4.1, (hE.here.1.1.1.1.1.1.1.1.1.1.1.1.1.1.1.1.1.2).c4.2.1, (hE.here.1.1.1.1.1.1.1.1.1.1.1.1.1.1.1.1.1.2).c4.2.2.1, (hE.here.1.1.1.1.1.1.1.1.1.1.1.1.1.1.1.1.1.2).c4.2.2.2, (hE.here.1.1.1.1.1.1.1.1.1.1.1.1.1.1.1.2).c4.1, (hE.here.1.1.1.1.1.1.1.1.1.1.1.1.1.1.1.2).c4.2.1, (hE.here.1.1.1.1.1.1.1.1.1.1.1.1.1.1.1.2).c4.2.2.1, (hE.here.1.1.1.1.1.1.1.1.1.1.1.1.1.1.1.2).c4.2.2.2, (hE.here.1.1.1.1.1.1.1.1.1.2).c4.1, (hE.here.1.1.1.1.1.1.1.1.1.2).c4.2.1, (hE.here.1.1.1.1.1.1.1.1.1.2).c4.2.2.1, (hE.here.1.1.1.1.1.1.1.1.1.2).c4.2.2.2, (hE.here.1.1.1.1.1.1.1.2).c4.1, (hE.here.1.1.1.1.1.1.1.2).c4.2.1, (hE.here.1.1.1.1.1.1.1.2).c4.2.2.1, (hE.here.1.1.1.1.1.1.1.2).c4.2.2.2⟩) (fun hHeld => ?_)
        clear hK K
        try simp only [Act.put, List.setIfInBounds_toArray, List.set_cons_zero, List.set_cons_succ, List.getElem_toArray, List.getElem_cons_succ, List.getElem_cons_zero]
        refine wpAnyH_ready (rs := [32]) (by kernel_rfl) (by simp) (AllReadyH.cons rfl (fun K hK => ?_) (AllReadyH.nil))
        go_simp
        refine (lw_equal (v := true) (ca := cp) (da := dp) (cb := cs5) (db := ds5) hE.here.1.1.1.1.1.1.1.1.1.1.2 hE.here.2 (HsP.out.l (by decide)) Hf5.out (decide_eq_true Hg5.out)).mono ?_
        rintro e w117 ⟨rfl, hb⟩
        replace hE := hE.step hb
        clear hb
        go_wp2_with fail
        refine hK.out _ _ (⟨(hE.here.1.1.1.1.1.1.1.1.1.1.1.1.1.1.1.1.1.1.1.1.1.2).c4.1, (hE.here.1.1.1.1.1.1.1.1.1.1.1.1.1.1.1.1.1.1.1.1.1.2).c4.2.1, (hE.here.1.1.1.1.1.1.1.1.1.1.1.1.1.1.1.1.1.1.1.1.1.2).c4.2.2.1, (hE.here.1.1.1.1.1.1.1.1.1.1.1.1.1.1.1.1.1.1.1.1.1.2).c4.2.2.2, (hE.here.1.1.1.1.1.1.1.1.1.1.1.1.1.1.1.1.1.1.1.2).c4.1, (hE.here.1.1.1.1.1.1.1.1.1.1.1.1.1.1.1.1.1.1.1.2).c4.2.1, (hE.here.1.1.1.1.1.1.1.1.1.1.1.1.1.1.1.1.1.1.1.2).c4.2.2.1, (hE.here.1.1.1.1.1.1.1.1.1.1.1.1.1.1.1.1.1.1.1.2).c4.2.2.2, (hE.here.1.1.1.1.1.1.1.1.1.1.1.1.1.2).c4.1, (hE.here.1.1.1.1.1.1.1.1.1.1.1.1.1.2).c4.2.1, (hE.here.1.1.1.1.1.1.1.1.1.1.1.1.1.2).c4.2.2.1, (hE.here.1.1.1.1.1.1.1.1.1.1.1.1.1.2).c4.2.2.2, (hE.here.1.1.1.1.1.1.1.1.1.1.1.2).c4.1, (hE.here.1.1.1.1.1.1.1.1.1.1.1.2).c4.2.1, (hE.here.1.1.1.1.1.1.1.1.1.1.1.2).c4.2.2.1, (hE.here.1.1.1.1.1.1.1.1.1.1.1.2).c4.2.2.2, (hE.here.1.1.1.1.1.1.1.1.1.1.1.1.1.1.1.1.1.2).c4.1, (hE.here.1.1.1.1.1.1.1.1.1.1.1.1.1.1.1.1.1.2).c4.2.1, (hE.here.1.1.1.1.1.1.1.1.1.1.1.1.1.1.1.1.1.2).c4.2.2.1, (hE.here.1.1.1.1.1.1.1.1.1.1.1.1.1.1.1.1.1.2).c4.2.2.2, (hE.here.1.1.1.1.1.1.1.1.1.1.1.1.1.1.1.2).c4.1, (hE.here.1.1.1.1.1.1.1.1.1.1.1.1.1.1.1.2).c4.2.1, (hE.here.1.1.1.1.1.1.1.1.1.1.1.1.1.1.1.2).c4.2.2.1, (hE.here.1.1.1.1.1.1.1.1.1.1.1.1.1.1.1.2).c4.2.2.2, (hE.here.1.1.1.1.1.1.1.1.1.2).c4.1, (hE.here.1.1.1.1.1.1.1.1.1.2).c4.2.1, (hE.here.1.1.1.1.1.1.1.1.1.2).c4.2.2.1, (hE.here.1.1.1.1.1.1.1.1.1.2).c4.2.2.2, (hE.here.1.1.1.1.1.1.1.2).c4.1, (hE.here.1.1.1.1.1.1.1.2).c4.2.1, (hE.here.1.1.1.1.1.1.1.2).c4.2.2.1, (hE.here.1.1.1.1.1.1.1.2).c4.2.2.2⟩) (fun hHeld => ?_)
        clear hK K
        try simp only [Act.put, List.setIfInBounds_toArray, List.set_cons_zero, List.set_cons_succ, List.getElem_toArray, List.getElem_cons_succ, List.getElem_cons_zero]
        refine wpAnyH_take (i := 33) (v := ?v1_33_22) rfl (by kernel_rfl) (by kernel_rfl) (by kernel_rfl) (fun _ _ _ h => h) (Or.inl ⟨by rfl, ?hy1_33_22⟩) (by assumption) ?rest1_33_22
        case hy1_33_22 => intro w hSw; (try dsimp only at hSw); first | (go_simp; done) | (go_simp; with_reducible rfl)
        try simp only [Act.put, List.setIfInBounds_toArray, List.set_cons_zero, List.set_cons_succ, List.getElem_toArray, List.getElem_cons_succ, List.getElem_cons_zero]
        refine wpAnyH_take (i := 34) (v := ?v1_34_23) rfl (by kernel_rfl) (by kernel_rfl) (by kernel_rfl) (fun _ _ _ h => h) (Or.inl ⟨by rfl, ?hy1_34_23⟩) (by assumption) ?rest1_34_23
        case hy1_34_23 => intro w hSw; (try dsimp only at hSw); first | (go_simp; done) | (go_simp; with_reducible rfl)
        try simp only [Act.put, List.setIfInBounds_toArray, List.set_cons_zero, List.set_cons_succ, List.getElem_toArray, List.getElem_cons_succ, List.getElem_cons_zero]
        refine wpAnyH_take (i := 35) (v := ?v1_35_24) rfl (by kernel_rfl) (by kernel_rfl) (by kernel_rfl) (fun _ _ _ h => h) (Or.inl ⟨by rfl, ?hy1_35_24⟩) (by assumption) ?rest1_35_24
        case hy1_35_24 => intro w hSw; (try dsimp only at hSw); first | (go_simp; done) | (go_simp; with_reducible rfl)
        try simp only [Act.put, List.setIfInBounds_toArray, List.set_cons_zero, List.set_cons_succ, List.getElem_toArray, List.getElem_cons_succ, List.getElem_cons_zero]
        refine wpAnyH_take (i := 36) (v := ?v1_36_25) rfl (by kernel_rfl) (by kernel_rfl) (by kernel_rfl) (fun _ _ _ h => h) (Or.inl ⟨by rfl, ?hy1_36_25⟩) (by assumption) ?rest1_36_25
        case hy1_36_25 => intro w hSw; (try dsimp only at hSw); first | (go_simp; done) | (go_simp; with_reducible rfl)
        try simp only [Act.put, List.setIfInBounds_toArray, List.set_cons_zero, List.set_cons_succ, List.getElem_toArray, List.getElem_cons_succ, List.getElem_cons_zero]
        refine wpAnyH_take (i := 37) (v := ?v1_37_26) rfl (by kernel_rfl) (by kernel_rfl) (by kernel_rfl) (fun _ _ _ h => h) (Or.inl ⟨by rfl, ?hy1_37_26⟩) (by assumption) ?rest1_37_26
        case hy1_37_26 => intro w hSw; (try dsimp only at hSw); first | (go_simp; done) | (go_simp; with_reducible rfl)
        try simp only [Act.put, List.setIfInBounds_toArray, List.set_cons_zero, List.set_cons_succ, List.getElem_toArray, List.getElem_cons_succ, List.getElem_cons_zero]
        refine wpAnyH_ready (rs := [38]) (by kernel_rfl) (by simp) (AllReadyH.cons rfl (fun K hK => ?_) (AllReadyH.nil))
        go_simp
        refine (lw_sum (ca := cbo) (da := dbo) (cb := cse) (db := dse) hE.here.1.1.1.1.1.1.1.1.1.1.1.1.1.1.1.1.1.1.1.1.1.1.2 hE.here.1.1.1.1.1.1.1.1.1.1.1.1.1.1.1.1.2 ((HsP.out.mul HsQ.out).l (by decide)) ((HsP.out.no.mul HsQ.out).l (by decide)) Hf6.out).mono ?_
        rintro e w118 ⟨ss6, As6, ns6, cs6, tis6, Bs6, ms6, ds6, rfl, hs6, hb⟩
        replace hE := hE.step hb
        clear hb
        replace hE := hE.fv hs6
        clear hs6
        go_wp2_with fail
        refine hK.out _ _ (⟨(hE.here.1.1.1.1.1.1.1.1.1.1.1.1.1.1.1.1.1.1.1.1.1.1.2).c4.1, (hE.here.1.1.1.1.1.1.1.1.1.1.1.1.1.1.1.1.1.1.1.1.1.1.2).c4.2.1, (hE.here.1.1.1.1.1.1.1.1.1.1.1.1.1.1.1.1.1.1.1.1.1.1.2).c4.2.2.1, (hE.here.1.1.1.1.1.1.1.1.1.1.1.1.1.1.1.1.1.1.1.1.1.1.2).c4.2.2.2, (hE.here.1.1.1.1.1.1.1.1.1.1.1.1.1.1.1.1.1.1.1.1.2).c4.1, (hE.here.1.1.1.1.1.1.1.1.1.1.1.1.1.1.1.1.1.1.1.1.2).c4.2.1, (hE.here.1.1.1.1.1.1.1.1.1.1.1.1.1.1.1.1.1.1.1.1.2).c4.2.2.1, (hE.here.1.1.1.1.1.1.1.1.1.1.1.1.1.1.1.1.1.1.1.1.2).c4.2.2.2, (hE.here.1.1.1.1.1.1.1.1.1.1.1.1.1.1.2).c4.1, (hE.here.1.1.1.1.1.1.1.1.1.1.1.1.1.1.2).c4.2.1, (hE.here.1.1.1.1.1.1.1.1.1.1.1.1.1.1.2).c4.2.2.1, (hE.here.1.1.1.1.1.1.1.1.1.1.1.1.1.1.2).c4.2.2.2, (hE.here.1.1.1.1.1.1.1.1.1.1.1.1.2).c4.1, (hE.here.1.1.1.1.1.1.1.1.1.1.1.1.2).c4.2.1, (hE.here.1.1.1.1.1.1.1.1.1.1.1.1.2).c4.2.2.1, (hE.here.1.1.1.1.1.1.1.1.1.1.1.1.2).c4.2.2.2, (hE.here.1.1.1.1.1.1.1.1.1.1.1.1.1.1.1.1.1.1.2).c4.1, (hE.here.1.1.1.1.1.1.1.1.1.1.1.1.1.1.1.1.1.1.2).c4.2.1, (hE.here.1.1.1.1.1.1.1.1.1.1.1.1.1.1.1.1.1.1.2).c4.2.2.1, (hE.here.1.1.1.1.1.1.1.1.1.1.1.1.1.1.1.1.1.1.2).c4.2.2.2, (hE.here.1.1.1.1.1.1.1.1.1.1.1.1.1.1.1.1.2).c4.1, (hE.here.1.1.1.1.1.1.1.1.1.1.1.1.1.1.1.1.2).c4.2.1, (hE.here.1.1.1.1.1.1.1.1.1.1.1.1.1.1.1.1.2).c4.2.2.1, (hE.here.1.1.1.1.1.1.1.1.1.1.1.1.1.1.1.1.2).c4.2.2.2, (hE.here.1.1.1.1.1.1.1.1.1.1.2).c4.1, (hE.here.1.1.1.1.1.1.1.1.1.1.2).c4.2.1, (hE.here.1.1.1.1.1.1.1.1.1.1.2).c4.2.2.1, (hE.here.1.1.1.1.1.1.1.1.1.1.2).c4.2.2.2, (hE.here.1.1.1.1.1.1.1.1.2).c4.1, (hE.here.1.1.1.1.1.1.1.1.2).c4.2.1, (hE.here.1.1.1.1.1.1.1.1.2).c4.2.2.1, (hE.here.1.1.1.1.1.1.1.1.2).c4.2.2.2⟩) (fun hHeld => ?_)
        clear hK K
        try simp only [Act.put, List.setIfInBounds_toArray, List.set_cons_zero, List.set_cons_succ, List.getElem_toArray, List.getElem_cons_succ, List.getElem_cons_zero]
        refine wpAnyH_ready (rs := [39]) (by kernel_rfl) (by simp) (AllReadyH.cons rfl (fun K hK => ?_) (AllReadyH.nil))
        go_simp
        refine (lw_equal (v := true) (ca := cq) (da := dq) (cb := cs6) (db := ds6) hE.here.1.1.1.1.1.1.1.1.1.2 hE.here.2 (HsQ.out.l (by decide)) Hf6.out (decide_eq_true Hg6.out)).mono ?_
        rintro e w119 ⟨rfl, hb⟩
        replace hE := hE.step hb
        clear hb
        go_wp2_with fail
        refine hK.out _ _ (⟨(hE.here.1.1.1.1.1.1.1.1.1.1.1.1.1.1.1.1.1.1.1.1.1.1.2).c4.1, (hE.here.1.1.1.1.1.1.1.1.1.1.1.1.1.1.1.1.1.1.1.1.1.1.2).c4.2.1, (hE.here.1.1.1.1.1.1.1.1.1.1.1.1.1.1.1.1.1.1.1.1.1.1.2).c4.2.2.1, (hE.here.1.1.1.1.1.1.1.1.1.1.1.1.1.1.1.1.1.1.1.1.1.1.2).c4.2.2.2, (hE.here.1.1.1.1.1.1.1.1.1.1.1.1.1.1.1.1.1.1.1.1.2).c4.1, (hE.here.1.1.1.1.1.1.1.1.1.1.1.1.1.1.1.1.1.1.1.1.2).c4.2.1, (hE.here.1.1.1.1.1.1.1.1.1.1.1.1.1.1.1.1.1.1.1.1.2).c4.2.2.1, (hE.here.1.1.1.1.1.1.1.1.1.1.1.1.1.1.1.1.1.1.1.1.2).c4.2.2.2, (hE.here.1.1.1.1.1.1.1.1.1.1.1.1.1.1.2).c4.1, (hE.here.1.1.1.1.1.1.1.1.1.1.1.1.1.1.2).c4.2.1, (hE.here.1.1.1.1.1.1.1.1.1.1.1.1.1.1.2).c4.2.2.1, (hE.here.1.1.1.1.1.1.1.1.1.1.1.1.1.1.2).c4.2.2.2, (hE.here.1.1.1.1.1.1.1.1.1.1.1.1.2).c4.1, (hE.here.1.1.1.1.1.1.1.1.1.1.1.1.2).c4.2.1, (hE.here.1.1.1.1.1.1.1.1.1.1.1.1.2).c4.2.2.1, (hE.here.1.1.1.1.1.1.1.1.1.1.1.1.2).c4.2.2.2, (hE.here.1.1.1.1.1.1.1.1.1.1.1.1.1.1.1.1.1.1.2).c4.1, (hE.here.1.1.1.1.1.1.1.1.1.1.1.1.1.1.1.1.1.1.2).c4.2.1, (hE.here.1.1.1.1.1.1.1.1.1.1.1.1.1.1.1.1.1.1.2).c4.2.2.1, (hE.here.1.1.1.1.1.1.1.1.1.1.1.1.1.1.1.1.1.1.2).c4.2.2.2, (hE.here.1.1.1.1.1.1.1.1.1.1.1.1.1.1.1.1.2).c4.1, (hE.here.1.1.1.1.1.1.1.1.1.1.1.1.1.1.1.1.2).c4.2.1, (hE.here.1.1.1.1.1.1.1.1.1.1.1.1.1.1.1.1.2).c4.2.2.1, (hE.here.1.1.1.1.1.1.1.1.1.1.1.1.1.1.1.1.2).c4.2.2.2, (hE.here.1.1.1.1.1.1.1.1.1.1.2).c4.1, (hE.here.1.1.1.1.1.1.1.1.1.1.2).c4.2.1, (hE.here.1.1.1.1.1.1.1.1.1.1.2).c4.2.2.1, (hE.here.1.1.1.1.1.1.1.1.1.1.2).c4.2.2.2, (hE.here.1.1.1.1.1.1.1.1.2).c4.1, (hE.here.1.1.1.1.1.1.1.1.2).c4.2.1, (hE.here.1.1.1.1.1.1.1.1.2).c4.2.2.1, (hE.here.1.1.1.1.1.1.1.1.2).c4.2.2.2⟩) (fun hHeld => ?_)
        clear hK K
        try simp only [Act.put, List.setIfInBounds_toArray, List.set_cons_zero, List.set_cons_succ, List.getElem_toArray, List.getElem_cons_succ, List.getElem_cons_zero]
        refine wpAnyH_take (i := 40) (v := ?v1_40_27) rfl (by kernel_rfl) (by kernel_rfl) (by kernel_rfl) (fun _ _ _ h => h) (Or.inl ⟨by rfl, ?hy1_40_27⟩) (by assumption) ?rest1_40_27
        case hy1_40_27 => intro w hSw; (try dsimp only at hSw); first | (go_simp; done) | (go_simp; with_reducible rfl)
        try simp only [Act.put, List.setIfInBounds_toArray, List.set_cons_zero, List.set_cons_succ, List.getElem_toArray, List.getElem_cons_succ, List.getElem_cons_zero]
        refine wpAnyH_take (i := 41) (v := ?v1_41_28) rfl (by kernel_rfl) (by kernel_rfl) (by kernel_rfl) (fun _ _ _ h => h) (Or.inl ⟨by rfl, ?hy1_41_28⟩) (by assumption) ?rest1_41_28
        case hy1_41_28 => intro w hSw; (try dsimp only at hSw); first | (go_simp; done) | (go_simp; with_reducible rfl)
        try simp only [Act.put, List.setIfInBounds_toArray, List.set_cons_zero, List.set_cons_succ, List.getElem_toArray, List.getElem_cons_succ, List.getElem_cons_zero]
        refine wpAnyH_done (by kernel_rfl) ?_ _
        go_wp2_with fail
        go_ret
        exact ⟨rfl, hE.bel⟩
    · have HR2 := Lib.hid hR2
      clear hR2 hz2
      have hE := (((Env.start w).blk 24 #[.int .i64 F, .int .i64 S, .slice A n c] (g := w.heap.size) rfl).blk 26 #[.int .i64 E, .int .i64 Y] (g := w.heap.size + 1) (by simp)).blk 26 #[.int .i64 E2, .int .i64 Y2] (g := w.heap.size + 1 + 1) (by simp)
      obtain ⟨W0, hW0⟩ : ∃ W0, W0 = (((w.alloc (.cells #[.int .i64 F, .int .i64 S, .slice A n c] 24)).alloc (.cells #[.int .i64 E, .int .i64 Y] 26)).alloc (.cells #[.int .i64 E2, .int .i64 Y2] 26)) := ⟨_, rfl⟩
      rw [← hW0] at hE
      have HW0 := Lib.hid hW0
      clear hW0
      go_enter Tryz.func10, Tryz.ntmps10
      go_upto_region 1 with (fail)
      rw [← HW0.out]
      go_wp2_with fail
      refine (awake_t _).mono ?_
      rintro e w1 ⟨rfl, hb⟩
      replace hE := hE.step hb
      clear hb
      obtain ⟨k2, k3, k4⟩ := (hE.here.1.1.2).c3
      obtain ⟨k5, k6⟩ := (hE.here.1.2).c2
      obtain ⟨k7, k8⟩ := (hE.here.2).c2
      go_wp2_with fail
      refine (usable_t (HT.out.below hE.bel) HU.out).mono ?_
      clear k2 k3 k4 k5 k6 k7 k8
      rintro e w9 ⟨rfl, hb⟩
      replace hE := hE.step hb
      clear hb
      obtain ⟨k10, k11, k12⟩ := (hE.here.1.1.2).c3
      obtain ⟨k13, k14⟩ := (hE.here.1.2).c2
      obtain ⟨k15, k16⟩ := (hE.here.2).c2
      go_wp2_with fail
      refine (lright_f (HT.out.below hE.bel) HB.out HR2.out).mono ?_
      clear k10 k11 k12 k13 k14 k15 k16
      rintro e w17 ⟨rfl, hb⟩
      replace hE := hE.step hb
      clear hb
      go_wp2_with fail
      go_ret
      exact ⟨rfl, hE.bel⟩
  · have HU := Lib.hid hU
    clear hU hz2
    have hE := (((Env.start w).blk 24 #[.int .i64 F, .int .i64 S, .slice A n c] (g := w.heap.size) rfl).blk 26 #[.int .i64 E, .int .i64 Y] (g := w.heap.size + 1) (by simp)).blk 26 #[.int .i64 E2, .int .i64 Y2] (g := w.heap.size + 1 + 1) (by simp)
    obtain ⟨W0, hW0⟩ : ∃ W0, W0 = (((w.alloc (.cells #[.int .i64 F, .int .i64 S, .slice A n c] 24)).alloc (.cells #[.int .i64 E, .int .i64 Y] 26)).alloc (.cells #[.int .i64 E2, .int .i64 Y2] 26)) := ⟨_, rfl⟩
    rw [← hW0] at hE
    have HW0 := Lib.hid hW0
    clear hW0
    go_enter Tryz.func10, Tryz.ntmps10
    go_upto_region 1 with (fail)
    rw [← HW0.out]
    go_wp2_with fail
    refine (awake_t _).mono ?_
    rintro e w1 ⟨rfl, hb⟩
    replace hE := hE.step hb
    clear hb
    obtain ⟨k2, k3, k4⟩ := (hE.here.1.1.2).c3
    obtain ⟨k5, k6⟩ := (hE.here.1.2).c2
    obtain ⟨k7, k8⟩ := (hE.here.2).c2
    go_wp2_with fail
    refine (usable_f (HT.out.below hE.bel) HU.out).mono ?_
    clear k2 k3 k4 k5 k6 k7 k8
    rintro e w9 ⟨rfl, hb⟩
    replace hE := hE.step hb
    clear hb
    go_wp2_with fail
    go_ret
    exact ⟨rfl, hE.bel⟩
end Go.Proofs.YtgkepllfdhcdpaaGreat
