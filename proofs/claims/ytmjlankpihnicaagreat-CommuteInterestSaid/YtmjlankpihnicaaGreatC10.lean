/-
  The laws' awake of layer 31: the examples of the chapter.
-/
import Derived.Test.YtmjlankpihnicaaGreatHk
import Derived.Test.YtmjlankpihnicaaGreatC8
import Derived.Test.YtmjlankpihnicaaGreatC9
import Derived.Test.YtmjlankpihnicaaGreatK9
namespace Go.Proofs.YtmjlankpihnicaaGreat
open Go.RowKit

section
variable {r : Nat → RH} (h : ((r 0).h 0).q = Rat.divInt 1 10 ∧ ((r 0).h 1).q = Rat.divInt 1 5 ∧ ((r 1).h 0).q = Rat.divInt 1 8 ∧ ((r 1).h 1).q = Rat.divInt 1 2 ∧ ((r 2).h 0).q = Rat.divInt 1 4 ∧ ((r 2).h 1).q = Rat.divInt 1 1)
include h
theorem exB_0 : fr 60 1 3 r 60 0 0 = Rat.divInt 1 10 := by
 show rt 60 1 3 r 60 0 0 = _
 unfold rt
 rw [if_neg (by decide), if_pos (by decide)]
 exact h.1
theorem exB_1 : fr 60 1 3 r 60 0 1 = Rat.divInt 1 2 := by
 show rt 60 1 3 r 60 0 1 = _
 unfold rt
 rw [if_neg (by decide), if_neg (by decide)]
 exact h.2.2.2.1
theorem exB_2 : fr 60 1 3 r 60 0 2 = Rat.divInt 1 1 := by
 show rt 60 1 3 r 60 0 2 = _
 unfold rt
 rw [if_neg (by decide), if_neg (by decide)]
 exact h.2.2.2.2.2
end
/-- The values of the examples, where the rates are 1/10, 1/2, 1. -/
def exf (k : Nat) : Rat := if k = 0 then Rat.divInt 1 10 else if k = 1 then Rat.divInt 1 2 else Rat.divInt 1 1
theorem exf_eq {r : Nat → RH} (h : ((r 0).h 0).q = Rat.divInt 1 10 ∧ ((r 0).h 1).q = Rat.divInt 1 5 ∧ ((r 1).h 0).q = Rat.divInt 1 8 ∧ ((r 1).h 1).q = Rat.divInt 1 2 ∧ ((r 2).h 0).q = Rat.divInt 1 4 ∧ ((r 2).h 1).q = Rat.divInt 1 1) : ∀ k, k < 3 → fr 60 1 3 r 60 0 k = exf k := fun k hk => by
 rcases (show k = 0 ∨ k = 1 ∨ k = 2 by omega) with rfl | rfl | rfl
 · exact exB_0 h
 · exact exB_1 h
 · exact exB_2 h
theorem intB_of {W : World} {q : Rat} {s t : Bool} {A B : Option Addr} {n m : Nat} (h : FV W q s A n t B m) (hi : Rti q) : intB s n (dgt b16 q.num.natAbs) t m (dgt b16 q.den) = true := by
 obtain ⟨l1, l2⟩ := h.ln hi.fl
 have hs : s = false := by rw [h.1.sgn]; exact decide_eq_false (by have := Rat.num_nonneg.2 hi.1; omega)
 unfold intB
 rw [okF_of h (Nat.le_trans hi.fl (by decide)), hs, decide_eq_true l1, decide_eq_true l2]
 rfl
theorem dd_ext {v : Rat} {f g : Nat → Rat} (h : ∀ k, k < 3 → f k = g k) : ∀ k, k ≤ 3 → dd v f k = dd v g k := fun k hk => dd_congr fun i hi => h i (by omega)
theorem cc_ext {v : Rat} {f g : Nat → Rat} (h : ∀ k, k < 3 → f k = g k) : ∀ k, k < 3 → cc v f k = cc v g k := fun k hk => by
 unfold cc
 rw [dd_ext h k (by omega), h k hk]
theorem ps_ext {g g' : Nat → Rat} {a b : Int} : ∀ {k : Nat}, (∀ j, j < k → g j = g' j) → ps g a b k = ps g' a b k
 | 0, _ => rfl
 | k + 1, h => by simp only [ps]; rw [ps_ext fun j hj => h j (by omega), h k (by omega)]
theorem colq_ext {v : Rat} {f g : Nat → Rat} (h : ∀ k, k < 3 → f k = g k) {k j : Nat} (hk : k < 3) : colq v f 3 k j = colq v g 3 k j := by
 have d := dd_ext (v := v) h
 have c := cc_ext (v := v) h
 unfold colq
 have e1 : ∀ k, k ≤ 3 → sf (dd v f) 3 k = sf (dd v g) 3 k := sf_congr fun j hj => d j (by omega)
 have e2 : ∀ k, k ≤ 3 → sf (cc v f) 3 k = sf (cc v g) 3 k := sf_congr fun j hj => c j hj
 have e3 : ∀ k, k ≤ 3 → sf (sf (dd v f) 3) 3 k = sf (sf (dd v g) 3) 3 k := sf_congr fun j hj => e1 j (by omega)
 have e4 : ∀ k, k ≤ 3 → sf (sf (cc v f) 3) 3 k = sf (sf (cc v g) 3) 3 k := sf_congr fun j hj => e2 j (by omega)
 rw [d k (by omega), c k hk, e1 k (by omega), e2 k (by omega), e3 k (by omega), e4 k (by omega)]
def exv : Rat := 1 / (1 + Rat.divInt 1 4)
theorem exv_eq : exv = Rat.divInt 4 5 := by decide +kernel
theorem ex_cnt : Cnt exv exf 3 := by
 refine ⟨by decide +kernel, fun k hk => ?_⟩
 rcases (show k = 0 ∨ k = 1 ∨ k = 2 by omega) with rfl | rfl | rfl <;> decide +kernel
theorem exq : colq exv exf 3 0 0 = Rat.divInt 1 1 ∧ colq exv exf 3 1 0 = Rat.divInt 18 25 ∧ colq exv exf 3 2 3 = Rat.divInt 144 625 ∧ colq exv exf 3 0 1 = Rat.divInt 251 125 ∧ colq exv exf 3 1 1 = Rat.divInt 126 125 ∧
  colq exv exf 3 0 4 = Rat.divInt 374 625 ∧ colq exv exf 3 1 4 = Rat.divInt 324 625 ∧ colq exv exf 3 0 2 = Rat.divInt 413 125 ∧ colq exv exf 3 1 2 = Rat.divInt 162 125 ∧ colq exv exf 3 2 2 = Rat.divInt 36 125 := by decide +kernel
theorem exp_ : ps (dd exv exf) 0 2 3 = Rat.divInt 43 25 ∧ ps (rs (dd exv exf) 1) 1 9 3 = Rat.divInt 162 125 ∧ ps (cc exv exf) 1 2 3 = Rat.divInt 36 125 ∧ dd exv exf 2 = Rat.divInt 36 125 := by decide +kernel

set_option linter.unusedSimpArgs false in
set_option maxRecDepth 100000 in
set_option maxHeartbeats 8000000 in
theorem awakeB_t (w : World) : Calls Tryz.prog 11 #[] w fun e w' => e = .returned (.bool true) ∧ Below w.heap.size w w' := by
 have hE := Env.start w
 go_enter Tryz.func11, Tryz.ntmps11
 go_wp2_with fail
 refine (smallB_v _).mono ?_
 rintro e w1 ⟨A, c, r, si, Ai, ni, ci, ti, Bi, mi, di, rfl, hT, hok, hq, hfv, hb⟩
 replace hE := hE.step hb
 clear hb
 have hB := hok.small (by decide) rfl
 have hR : RightP 60 1 3 r 60 0 := ⟨hok, by decide, by decide, by decide, by decide⟩
 have hri : Rti (Rat.divInt 1 4) := ⟨by decide +kernel, by decide +kernel, by decide +kernel⟩
 have hrd := hfv.rd
 have hbk : BOK 60 1 3 r si ni _ ti mi _ := ⟨hok, intB_of hfv hri⟩
 obtain ⟨hn1, hm1⟩ := hfv.ln hri.fl
 have hqv : 1 / (1 + qOf si ni (dgt b16 (Rat.divInt 1 4).num.natAbs) mi (dgt b16 (Rat.divInt 1 4).den)) = exv := by rw [qOf_fv hfv]; rfl
 have hfx := exf_eq hq
 have hN : Cnt exv (fr 60 1 3 r 60 0) 3 := ⟨by rw [dd_ext hfx 3 (by decide)]; exact ex_cnt.1, fun k hk => by rw [dd_ext hfx k (by omega)]; exact ex_cnt.2 k hk⟩
 rw [← hqv] at hN
 have hDis := fun (W : World) (hW : Below w1.heap.size w1 W) => cDiscount_v (c := c) (ci := ci) (di := di) (hT.below hW) hB (hrd.below hW) (by omega) (by omega) hbk
 have hCol := fun (W : World) (hW : Below w1.heap.size w1 W) => cColumns_v (c := c) (ci := ci) (di := di) (hT.below hW) hB (hrd.below hW) (by omega) (by omega) hbk hR 3 hN (by decide)
 have hAnn := fun (a b : Nat) (ha : a ≤ 9223372036854775807) (hb : b ≤ 9223372036854775807) (W : World) (hW : Below w1.heap.size w1 W) => cAnn_v (c := c) (ci := ci) (di := di) (hT.below hW) hB (hrd.below hW) (by omega) (by omega) hbk hR 3 hN (by decide) a b ha hb
 have hAss := fun (a b : Nat) (ha : a ≤ 9223372036854775807) (hb : b ≤ 9223372036854775807) (W : World) (hW : Below w1.heap.size w1 W) => cAss_v (c := c) (ci := ci) (di := di) (hT.below hW) hB (hrd.below hW) (by omega) (by omega) hbk hR 3 hN (by decide) a b ha hb
 have hRis := fun (a b : Nat) (ha : a ≤ 9223372036854775807) (hb : b ≤ 9223372036854775807) (W : World) (hW : Below w1.heap.size w1 W) => cRis_v (c := c) (ci := ci) (di := di) (hT.below hW) hB (hrd.below hW) (by omega) (by omega) hbk hR 3 hN (by decide) a b ha hb
 have hEnd := fun (k : Nat) (hk : k ≤ 9223372036854775807) (W : World) (hW : Below w1.heap.size w1 W) => cEnd_v (c := c) (ci := ci) (di := di) (hT.below hW) hB (hrd.below hW) (by omega) (by omega) hbk hR 3 hN (by decide) k hk
 rw [hqv] at hN
 simp only [hqv] at hDis hCol hAnn hAss hRis hEnd
 clear hqv
 have HhT := Lib.hid hT
 clear hT
 have Hhok := Lib.hid hok
 clear hok
 have Hhq := Lib.hid hq
 clear hq
 have Hhfv := Lib.hid hfv
 clear hfv
 have HhB := Lib.hid hB
 clear hB
 have HhR := Lib.hid hR
 clear hR
 have Hhri := Lib.hid hri
 clear hri
 have Hhrd := Lib.hid hrd
 clear hrd
 have Hhbk := Lib.hid hbk
 clear hbk
 have HhN := Lib.hid hN
 clear hN
 have Hhfx := Lib.hid hfx
 clear hfx
 have HhDis := Lib.hid hDis
 clear hDis
 have HhCol := Lib.hid hCol
 clear hCol
 have HhAnn := Lib.hid hAnn
 clear hAnn
 have HhAss := Lib.hid hAss
 clear hAss
 have HhRis := Lib.hid hRis
 clear hRis
 have HhEnd := Lib.hid hEnd
 clear hEnd
 clear hn1 hm1
 replace hE : Env w (fun V => True ∧ Below w1.heap.size w1 V) w1 := (Env.again hE.bel).and (fun V V' hb h => h.trans (hb.mono h.size)) (Below.refl _ _)
 go_upto_region 2 with (fail)
 replace hE := (hE.blk 31 #[.int .i64 60, .int .i64 1, .slice A 3 c, .bool si, .slice Ai ni ci, .bool ti, .slice Bi mi di] (g := w1.heap.size) rfl).blk 33 #[.int .i64 60, .int .i64 0] (g := w1.heap.size + 1) (by simp)
 generalize ((w1.alloc (.cells #[.int .i64 60, .int .i64 1, .slice A 3 c, .bool si, .slice Ai ni ci, .bool ti, .slice Bi mi di] 31)).alloc (.cells #[.int .i64 60, .int .i64 0] 33)) = W1 at hE ⊢
 obtain ⟨k1, k2, k3, k4, k5, k6, k7⟩ := (hE.here.1.2).c7
 go_wp2_with fail
 have hc := HhDis.out _ hE.h2
 rw [exv_eq] at hc
 refine hE.fr (hc) ?_
 clear hE k1 k2 k3 k4 k5 k6 k7
 intro s_v0 A_v0 n_v0 c_v0 ti_v0 B_v0 m_v0 d_v0 w8 hE
 clear hc
 go_upto_region 3 with (fail)
 obtain ⟨g9, hg9⟩ : ∃ g9, g9 = w8.heap.size := ⟨_, rfl⟩
 have hl9_1 : w1.heap.size < g9 := by rw [hg9]; exact (hE.h2).lt
 have hl9_2 : w1.heap.size + 1 < g9 := by rw [hg9]; exact (hE.here.1.2).lt
 replace hE := hE.blk 29 #[.bool s_v0, .slice A_v0 n_v0 c_v0, .bool ti_v0, .slice B_v0 m_v0 d_v0] (g := g9) hg9.symm
 generalize w8.alloc (.cells #[.bool s_v0, .slice A_v0 n_v0 c_v0, .bool ti_v0, .slice B_v0 m_v0 d_v0] 29) = W9 at hE ⊢
 rw [← hg9]
 clear hg9
 obtain ⟨k10, k11, k12, k13, k14, k15, k16⟩ := (hE.h3).c7
 obtain ⟨k17, k18⟩ := (hE.h2).c2
 go_wp2_with fail
 refine (HhCol.out _ hE.h4).mono ?_
 clear k10 k11 k12 k13 k14 k15 k16 k17 k18
 rintro e wc ⟨cv, h, rfl, hcv, hcq, hb1⟩
 replace hE := hE.step hb1
 rcases hcv with ⟨-, h0⟩ | ⟨g, cap, rfl, -, hCB⟩
 · exact absurd h0 (by decide)
 clear hb1
 replace hE := (hE.colp hCB).colq hcq
 clear hCB hcq
 go_upto_region 4 with (fail)
 obtain ⟨k19, k20, k21, k22, k23, k24, k25⟩ := (hE.h5).c7
 obtain ⟨k26, k27⟩ := (hE.h4).c2
 go_wp2_with fail
 have hc := HhAnn.out 0 2 (by decide) (by decide) _ hE.h6
 rw [show ps (dd exv (fr 60 1 3 r 60 0)) ((0 : Nat) : Int) ((2 : Nat) : Int) 3 = Rat.divInt 43 25 from (ps_ext fun j hj => dd_ext Hhfx.out j (by omega)).trans exp_.1] at hc
 refine hE.fr (hc) ?_
 clear hE k19 k20 k21 k22 k23 k24 k25 k26 k27
 intro s_v1 A_v1 n_v1 c_v1 ti_v1 B_v1 m_v1 d_v1 w28 hE
 clear hc
 go_upto_region 5 with (fail)
 obtain ⟨g29, hg29⟩ : ∃ g29, g29 = w28.heap.size := ⟨_, rfl⟩
 have hl29_1 : w1.heap.size < g29 := by rw [hg29]; exact (hE.h6).lt
 have hl29_2 : w1.heap.size + 1 < g29 := by rw [hg29]; exact (hE.h5).lt
 have hl29_4 : g9 < g29 := by rw [hg29]; exact (hE.h3).lt
 replace hE := hE.blk 29 #[.bool s_v1, .slice A_v1 n_v1 c_v1, .bool ti_v1, .slice B_v1 m_v1 d_v1] (g := g29) hg29.symm
 generalize w28.alloc (.cells #[.bool s_v1, .slice A_v1 n_v1 c_v1, .bool ti_v1, .slice B_v1 m_v1 d_v1] 29) = W29 at hE ⊢
 rw [← hg29]
 clear hg29
 obtain ⟨k30, k31, k32, k33, k34, k35, k36⟩ := (hE.h7).c7
 obtain ⟨k37, k38⟩ := (hE.h6).c2
 go_wp2_with fail
 have hc := HhRis.out 1 9 (by decide) (by decide) _ hE.h8
 rw [show ps (rs (dd exv (fr 60 1 3 r 60 0)) ((1 : Nat) : Int)) ((1 : Nat) : Int) ((9 : Nat) : Int) 3 = Rat.divInt 162 125 from (ps_ext fun j hj => by unfold rs; rw [dd_ext Hhfx.out j (by omega)]; rfl).trans exp_.2.1] at hc
 refine hE.fr (hc) ?_
 clear hE k30 k31 k32 k33 k34 k35 k36 k37 k38
 intro s_v2 A_v2 n_v2 c_v2 ti_v2 B_v2 m_v2 d_v2 w39 hE
 clear hc
 go_upto_region 6 with (fail)
 obtain ⟨g40, hg40⟩ : ∃ g40, g40 = w39.heap.size := ⟨_, rfl⟩
 have hl40_1 : w1.heap.size < g40 := by rw [hg40]; exact (hE.h8).lt
 have hl40_2 : w1.heap.size + 1 < g40 := by rw [hg40]; exact (hE.h7).lt
 have hl40_4 : g9 < g40 := by rw [hg40]; exact (hE.h5).lt
 have hl40_8 : g29 < g40 := by rw [hg40]; exact (hE.here.1.2).lt
 replace hE := hE.blk 29 #[.bool s_v2, .slice A_v2 n_v2 c_v2, .bool ti_v2, .slice B_v2 m_v2 d_v2] (g := g40) hg40.symm
 generalize w39.alloc (.cells #[.bool s_v2, .slice A_v2 n_v2 c_v2, .bool ti_v2, .slice B_v2 m_v2 d_v2] 29) = W40 at hE ⊢
 rw [← hg40]
 clear hg40
 obtain ⟨k41, k42, k43, k44, k45, k46, k47⟩ := (hE.h9).c7
 obtain ⟨k48, k49⟩ := (hE.h8).c2
 go_wp2_with fail
 have hc := HhAss.out 1 2 (by decide) (by decide) _ hE.h10
 rw [show ps (cc exv (fr 60 1 3 r 60 0)) ((1 : Nat) : Int) ((2 : Nat) : Int) 3 = Rat.divInt 36 125 from (ps_ext fun j hj => cc_ext Hhfx.out j hj).trans exp_.2.2.1] at hc
 refine hE.fr (hc) ?_
 clear hE k41 k42 k43 k44 k45 k46 k47 k48 k49
 intro s_v3 A_v3 n_v3 c_v3 ti_v3 B_v3 m_v3 d_v3 w50 hE
 clear hc
 go_upto_region 7 with (fail)
 obtain ⟨g51, hg51⟩ : ∃ g51, g51 = w50.heap.size := ⟨_, rfl⟩
 have hl51_1 : w1.heap.size < g51 := by rw [hg51]; exact (hE.h10).lt
 have hl51_2 : w1.heap.size + 1 < g51 := by rw [hg51]; exact (hE.h9).lt
 have hl51_4 : g9 < g51 := by rw [hg51]; exact (hE.h7).lt
 have hl51_8 : g29 < g51 := by rw [hg51]; exact (hE.h3).lt
 have hl51_10 : g40 < g51 := by rw [hg51]; exact (hE.here.1.2).lt
 replace hE := hE.blk 29 #[.bool s_v3, .slice A_v3 n_v3 c_v3, .bool ti_v3, .slice B_v3 m_v3 d_v3] (g := g51) hg51.symm
 generalize w50.alloc (.cells #[.bool s_v3, .slice A_v3 n_v3 c_v3, .bool ti_v3, .slice B_v3 m_v3 d_v3] 29) = W51 at hE ⊢
 rw [← hg51]
 clear hg51
 obtain ⟨k52, k53, k54, k55, k56, k57, k58⟩ := (hE.h11).c7
 obtain ⟨k59, k60⟩ := (hE.h10).c2
 go_wp2_with fail
 have hc := HhEnd.out 2 (by decide) _ hE.h12
 rw [if_pos (show 2 < 3 by decide), dd_ext Hhfx.out 2 (by decide), exp_.2.2.2] at hc
 refine hE.fr (hc) ?_
 clear hE k52 k53 k54 k55 k56 k57 k58 k59 k60
 intro s_v4 A_v4 n_v4 c_v4 ti_v4 B_v4 m_v4 d_v4 w61 hE
 clear hc
 go_upto_region 8 with (fail)
 obtain ⟨g62, hg62⟩ : ∃ g62, g62 = w61.heap.size := ⟨_, rfl⟩
 have hl62_1 : w1.heap.size < g62 := by rw [hg62]; exact (hE.h12).lt
 have hl62_2 : w1.heap.size + 1 < g62 := by rw [hg62]; exact (hE.h11).lt
 have hl62_4 : g9 < g62 := by rw [hg62]; exact (hE.h9).lt
 have hl62_8 : g29 < g62 := by rw [hg62]; exact (hE.h5).lt
 have hl62_10 : g40 < g62 := by rw [hg62]; exact (hE.h3).lt
 have hl62_12 : g51 < g62 := by rw [hg62]; exact (hE.here.1.2).lt
 replace hE := hE.blk 29 #[.bool s_v4, .slice A_v4 n_v4 c_v4, .bool ti_v4, .slice B_v4 m_v4 d_v4] (g := g62) hg62.symm
 generalize w61.alloc (.cells #[.bool s_v4, .slice A_v4 n_v4 c_v4, .bool ti_v4, .slice B_v4 m_v4 d_v4] 29) = W62 at hE ⊢
 rw [← hg62]
 clear hg62
 obtain ⟨k63, k64, k65, k66, k67, k68, k69⟩ := (hE.h13).c7
 obtain ⟨k70, k71⟩ := (hE.h12).c2
 go_wp2_with fail
 have hc := HhEnd.out 3 (by decide) _ hE.h14
 rw [if_neg (show ¬ 3 < 3 by decide), show (0 : Rat) = Rat.divInt 0 1 from by decide +kernel] at hc
 refine hE.fr (hc) ?_
 clear hE k63 k64 k65 k66 k67 k68 k69 k70 k71
 intro s_v5 A_v5 n_v5 c_v5 ti_v5 B_v5 m_v5 d_v5 w72 hE
 clear hc
 go_upto_region 9 with (fail)
 obtain ⟨g73, hg73⟩ : ∃ g73, g73 = w72.heap.size := ⟨_, rfl⟩
 have hl73_1 : w1.heap.size < g73 := by rw [hg73]; exact (hE.h14).lt
 have hl73_2 : w1.heap.size + 1 < g73 := by rw [hg73]; exact (hE.h13).lt
 have hl73_4 : g9 < g73 := by rw [hg73]; exact (hE.h11).lt
 have hl73_8 : g29 < g73 := by rw [hg73]; exact (hE.h7).lt
 have hl73_10 : g40 < g73 := by rw [hg73]; exact (hE.h5).lt
 have hl73_12 : g51 < g73 := by rw [hg73]; exact (hE.h3).lt
 have hl73_14 : g62 < g73 := by rw [hg73]; exact (hE.here.1.2).lt
 replace hE := hE.blk 29 #[.bool s_v5, .slice A_v5 n_v5 c_v5, .bool ti_v5, .slice B_v5 m_v5 d_v5] (g := g73) hg73.symm
 generalize w72.alloc (.cells #[.bool s_v5, .slice A_v5 n_v5 c_v5, .bool ti_v5, .slice B_v5 m_v5 d_v5] 29) = W73 at hE ⊢
 rw [← hg73]
 clear hg73
 obtain ⟨k74, k75, k76, k77⟩ := (hE.h12).c4
 go_wp2_with fail
 refine hE.br (c_is (ca := c_v0) (da := d_v0) (n := 4) (d := 5) (hE.h13) (by rw [fl_le]; decide +kernel) (by decide) (by decide) (by decide) (by decide) (by decide) rfl) ?_
 clear hE k74 k75 k76 k77
 intro w78 hE
 obtain ⟨k79, k80, k81, k82⟩ := (hE.h8).c4
 go_wp2_with fail
 refine hE.br (c_is (ca := c_v1) (da := d_v1) (n := 43) (d := 25) (hE.h9) (by rw [fl_le]; decide +kernel) (by decide) (by decide) (by decide) (by decide) (by decide) rfl) ?_
 clear hE k79 k80 k81 k82
 intro w83 hE
 obtain ⟨k84, k85, k86, k87⟩ := (hE.h6).c4
 go_wp2_with fail
 refine hE.br (c_is (ca := c_v2) (da := d_v2) (n := 162) (d := 125) (hE.h7) (by rw [fl_le]; decide +kernel) (by decide) (by decide) (by decide) (by decide) (by decide) rfl) ?_
 clear hE k84 k85 k86 k87
 intro w88 hE
 obtain ⟨k89, k90, k91, k92⟩ := (hE.h4).c4
 go_wp2_with fail
 refine hE.br (c_is (ca := c_v3) (da := d_v3) (n := 36) (d := 125) (hE.h5) (by rw [fl_le]; decide +kernel) (by decide) (by decide) (by decide) (by decide) (by decide) rfl) ?_
 clear hE k89 k90 k91 k92
 intro w93 hE
 obtain ⟨k94, k95, k96, k97⟩ := (hE.h2).c4
 go_wp2_with fail
 refine hE.br (c_is (ca := c_v4) (da := d_v4) (n := 36) (d := 125) (hE.h3) (by rw [fl_le]; decide +kernel) (by decide) (by decide) (by decide) (by decide) (by decide) rfl) ?_
 clear hE k94 k95 k96 k97
 intro w98 hE
 obtain ⟨k99, k100, k101, k102⟩ := (hE.here.2).c4
 go_wp2_with fail
 refine hE.br (c_is (ca := c_v5) (da := d_v5) (n := 0) (d := 1) (hE.here.1.2) (by rw [fl_le]; decide +kernel) (by decide) (by decide) (by decide) (by decide) (by decide) rfl) ?_
 clear hE k99 k100 k101 k102
 intro w103 hE
 have x104_0 := ColB.at2 (o := 0) (j := 0) (i := 0) (v := .bool (h 0 0).s) (hE.h11) (show 0 < 3 by decide) (by decide) (by decide) (by decide) rfl
 have x104_1 := ColB.at2 (o := 1) (j := 0) (i := 1) (v := .slice (h 0 0).A (h 0 0).n (h 0 0).c) (hE.h11) (show 0 < 3 by decide) (by decide) (by decide) (by decide) rfl
 have x104_2 := ColB.at2 (o := 2) (j := 0) (i := 2) (v := .bool (h 0 0).t) (hE.h11) (show 0 < 3 by decide) (by decide) (by decide) (by decide) rfl
 have x104_3 := ColB.at2 (o := 3) (j := 0) (i := 3) (v := .slice (h 0 0).B (h 0 0).m (h 0 0).d) (hE.h11) (show 0 < 3 by decide) (by decide) (by decide) (by decide) rfl
 have hv104 : FV w103 (Rat.divInt 1 1) (h 0 0).s (h 0 0).A (h 0 0).n (h 0 0).t (h 0 0).B (h 0 0).m := by have := (hE.h10) 0 (by decide) 0 (by decide) trivial; rw [colq_ext Hhfx.out (by decide), exq.1] at this; exact this
 go_wp2_with fail
 refine hE.br (c_is (ca := (h 0 0).c) (da := (h 0 0).d) (n := 1) (d := 1) hv104 (by rw [fl_le]; decide +kernel) (by decide) (by decide) (by decide) (by decide) (by decide) rfl) ?_
 clear hE x104_0 x104_1 x104_2 x104_3 hv104
 intro w204 hE
 have x105_0 := ColB.at2 (o := 24) (j := 0) (i := 0) (v := .bool (h 1 0).s) (hE.h11) (show 1 < 3 by decide) (by decide) (by decide) (by decide) rfl
 have x105_1 := ColB.at2 (o := 25) (j := 0) (i := 1) (v := .slice (h 1 0).A (h 1 0).n (h 1 0).c) (hE.h11) (show 1 < 3 by decide) (by decide) (by decide) (by decide) rfl
 have x105_2 := ColB.at2 (o := 26) (j := 0) (i := 2) (v := .bool (h 1 0).t) (hE.h11) (show 1 < 3 by decide) (by decide) (by decide) (by decide) rfl
 have x105_3 := ColB.at2 (o := 27) (j := 0) (i := 3) (v := .slice (h 1 0).B (h 1 0).m (h 1 0).d) (hE.h11) (show 1 < 3 by decide) (by decide) (by decide) (by decide) rfl
 have hv105 : FV w204 (Rat.divInt 18 25) (h 1 0).s (h 1 0).A (h 1 0).n (h 1 0).t (h 1 0).B (h 1 0).m := by have := (hE.h10) 1 (by decide) 0 (by decide) trivial; rw [colq_ext Hhfx.out (by decide), exq.2.1] at this; exact this
 go_wp2_with fail
 refine hE.br (c_is (ca := (h 1 0).c) (da := (h 1 0).d) (n := 18) (d := 25) hv105 (by rw [fl_le]; decide +kernel) (by decide) (by decide) (by decide) (by decide) (by decide) rfl) ?_
 clear hE x105_0 x105_1 x105_2 x105_3 hv105
 intro w205 hE
 have x106_0 := ColB.at2 (o := 60) (j := 3) (i := 0) (v := .bool (h 2 3).s) (hE.h11) (show 2 < 3 by decide) (by decide) (by decide) (by decide) rfl
 have x106_1 := ColB.at2 (o := 61) (j := 3) (i := 1) (v := .slice (h 2 3).A (h 2 3).n (h 2 3).c) (hE.h11) (show 2 < 3 by decide) (by decide) (by decide) (by decide) rfl
 have x106_2 := ColB.at2 (o := 62) (j := 3) (i := 2) (v := .bool (h 2 3).t) (hE.h11) (show 2 < 3 by decide) (by decide) (by decide) (by decide) rfl
 have x106_3 := ColB.at2 (o := 63) (j := 3) (i := 3) (v := .slice (h 2 3).B (h 2 3).m (h 2 3).d) (hE.h11) (show 2 < 3 by decide) (by decide) (by decide) (by decide) rfl
 have hv106 : FV w205 (Rat.divInt 144 625) (h 2 3).s (h 2 3).A (h 2 3).n (h 2 3).t (h 2 3).B (h 2 3).m := by have := (hE.h10) 2 (by decide) 3 (by decide) trivial; rw [colq_ext Hhfx.out (by decide), exq.2.2.1] at this; exact this
 go_wp2_with fail
 refine hE.br (c_is (ca := (h 2 3).c) (da := (h 2 3).d) (n := 144) (d := 625) hv106 (by rw [fl_le]; decide +kernel) (by decide) (by decide) (by decide) (by decide) (by decide) rfl) ?_
 clear hE x106_0 x106_1 x106_2 x106_3 hv106
 intro w206 hE
 have x107_0 := ColB.at2 (o := 4) (j := 1) (i := 0) (v := .bool (h 0 1).s) (hE.h11) (show 0 < 3 by decide) (by decide) (by decide) (by decide) rfl
 have x107_1 := ColB.at2 (o := 5) (j := 1) (i := 1) (v := .slice (h 0 1).A (h 0 1).n (h 0 1).c) (hE.h11) (show 0 < 3 by decide) (by decide) (by decide) (by decide) rfl
 have x107_2 := ColB.at2 (o := 6) (j := 1) (i := 2) (v := .bool (h 0 1).t) (hE.h11) (show 0 < 3 by decide) (by decide) (by decide) (by decide) rfl
 have x107_3 := ColB.at2 (o := 7) (j := 1) (i := 3) (v := .slice (h 0 1).B (h 0 1).m (h 0 1).d) (hE.h11) (show 0 < 3 by decide) (by decide) (by decide) (by decide) rfl
 have hv107 : FV w206 (Rat.divInt 251 125) (h 0 1).s (h 0 1).A (h 0 1).n (h 0 1).t (h 0 1).B (h 0 1).m := by have := (hE.h10) 0 (by decide) 1 (by decide) trivial; rw [colq_ext Hhfx.out (by decide), exq.2.2.2.1] at this; exact this
 go_wp2_with fail
 refine hE.br (c_is (ca := (h 0 1).c) (da := (h 0 1).d) (n := 251) (d := 125) hv107 (by rw [fl_le]; decide +kernel) (by decide) (by decide) (by decide) (by decide) (by decide) rfl) ?_
 clear hE x107_0 x107_1 x107_2 x107_3 hv107
 intro w207 hE
 have x108_0 := ColB.at2 (o := 28) (j := 1) (i := 0) (v := .bool (h 1 1).s) (hE.h11) (show 1 < 3 by decide) (by decide) (by decide) (by decide) rfl
 have x108_1 := ColB.at2 (o := 29) (j := 1) (i := 1) (v := .slice (h 1 1).A (h 1 1).n (h 1 1).c) (hE.h11) (show 1 < 3 by decide) (by decide) (by decide) (by decide) rfl
 have x108_2 := ColB.at2 (o := 30) (j := 1) (i := 2) (v := .bool (h 1 1).t) (hE.h11) (show 1 < 3 by decide) (by decide) (by decide) (by decide) rfl
 have x108_3 := ColB.at2 (o := 31) (j := 1) (i := 3) (v := .slice (h 1 1).B (h 1 1).m (h 1 1).d) (hE.h11) (show 1 < 3 by decide) (by decide) (by decide) (by decide) rfl
 have hv108 : FV w207 (Rat.divInt 126 125) (h 1 1).s (h 1 1).A (h 1 1).n (h 1 1).t (h 1 1).B (h 1 1).m := by have := (hE.h10) 1 (by decide) 1 (by decide) trivial; rw [colq_ext Hhfx.out (by decide), exq.2.2.2.2.1] at this; exact this
 go_wp2_with fail
 refine hE.br (c_is (ca := (h 1 1).c) (da := (h 1 1).d) (n := 126) (d := 125) hv108 (by rw [fl_le]; decide +kernel) (by decide) (by decide) (by decide) (by decide) (by decide) rfl) ?_
 clear hE x108_0 x108_1 x108_2 x108_3 hv108
 intro w208 hE
 have x109_0 := ColB.at2 (o := 16) (j := 4) (i := 0) (v := .bool (h 0 4).s) (hE.h11) (show 0 < 3 by decide) (by decide) (by decide) (by decide) rfl
 have x109_1 := ColB.at2 (o := 17) (j := 4) (i := 1) (v := .slice (h 0 4).A (h 0 4).n (h 0 4).c) (hE.h11) (show 0 < 3 by decide) (by decide) (by decide) (by decide) rfl
 have x109_2 := ColB.at2 (o := 18) (j := 4) (i := 2) (v := .bool (h 0 4).t) (hE.h11) (show 0 < 3 by decide) (by decide) (by decide) (by decide) rfl
 have x109_3 := ColB.at2 (o := 19) (j := 4) (i := 3) (v := .slice (h 0 4).B (h 0 4).m (h 0 4).d) (hE.h11) (show 0 < 3 by decide) (by decide) (by decide) (by decide) rfl
 have hv109 : FV w208 (Rat.divInt 374 625) (h 0 4).s (h 0 4).A (h 0 4).n (h 0 4).t (h 0 4).B (h 0 4).m := by have := (hE.h10) 0 (by decide) 4 (by decide) trivial; rw [colq_ext Hhfx.out (by decide), exq.2.2.2.2.2.1] at this; exact this
 go_wp2_with fail
 refine hE.br (c_is (ca := (h 0 4).c) (da := (h 0 4).d) (n := 374) (d := 625) hv109 (by rw [fl_le]; decide +kernel) (by decide) (by decide) (by decide) (by decide) (by decide) rfl) ?_
 clear hE x109_0 x109_1 x109_2 x109_3 hv109
 intro w209 hE
 have x110_0 := ColB.at2 (o := 40) (j := 4) (i := 0) (v := .bool (h 1 4).s) (hE.h11) (show 1 < 3 by decide) (by decide) (by decide) (by decide) rfl
 have x110_1 := ColB.at2 (o := 41) (j := 4) (i := 1) (v := .slice (h 1 4).A (h 1 4).n (h 1 4).c) (hE.h11) (show 1 < 3 by decide) (by decide) (by decide) (by decide) rfl
 have x110_2 := ColB.at2 (o := 42) (j := 4) (i := 2) (v := .bool (h 1 4).t) (hE.h11) (show 1 < 3 by decide) (by decide) (by decide) (by decide) rfl
 have x110_3 := ColB.at2 (o := 43) (j := 4) (i := 3) (v := .slice (h 1 4).B (h 1 4).m (h 1 4).d) (hE.h11) (show 1 < 3 by decide) (by decide) (by decide) (by decide) rfl
 have hv110 : FV w209 (Rat.divInt 324 625) (h 1 4).s (h 1 4).A (h 1 4).n (h 1 4).t (h 1 4).B (h 1 4).m := by have := (hE.h10) 1 (by decide) 4 (by decide) trivial; rw [colq_ext Hhfx.out (by decide), exq.2.2.2.2.2.2.1] at this; exact this
 go_wp2_with fail
 refine hE.br (c_is (ca := (h 1 4).c) (da := (h 1 4).d) (n := 324) (d := 625) hv110 (by rw [fl_le]; decide +kernel) (by decide) (by decide) (by decide) (by decide) (by decide) rfl) ?_
 clear hE x110_0 x110_1 x110_2 x110_3 hv110
 intro w210 hE
 have x111_0 := ColB.at2 (o := 8) (j := 2) (i := 0) (v := .bool (h 0 2).s) (hE.h11) (show 0 < 3 by decide) (by decide) (by decide) (by decide) rfl
 have x111_1 := ColB.at2 (o := 9) (j := 2) (i := 1) (v := .slice (h 0 2).A (h 0 2).n (h 0 2).c) (hE.h11) (show 0 < 3 by decide) (by decide) (by decide) (by decide) rfl
 have x111_2 := ColB.at2 (o := 10) (j := 2) (i := 2) (v := .bool (h 0 2).t) (hE.h11) (show 0 < 3 by decide) (by decide) (by decide) (by decide) rfl
 have x111_3 := ColB.at2 (o := 11) (j := 2) (i := 3) (v := .slice (h 0 2).B (h 0 2).m (h 0 2).d) (hE.h11) (show 0 < 3 by decide) (by decide) (by decide) (by decide) rfl
 have hv111 : FV w210 (Rat.divInt 413 125) (h 0 2).s (h 0 2).A (h 0 2).n (h 0 2).t (h 0 2).B (h 0 2).m := by have := (hE.h10) 0 (by decide) 2 (by decide) trivial; rw [colq_ext Hhfx.out (by decide), exq.2.2.2.2.2.2.2.1] at this; exact this
 go_wp2_with fail
 refine hE.br (c_is (ca := (h 0 2).c) (da := (h 0 2).d) (n := 413) (d := 125) hv111 (by rw [fl_le]; decide +kernel) (by decide) (by decide) (by decide) (by decide) (by decide) rfl) ?_
 clear hE x111_0 x111_1 x111_2 x111_3 hv111
 intro w211 hE
 have x112_0 := ColB.at2 (o := 32) (j := 2) (i := 0) (v := .bool (h 1 2).s) (hE.h11) (show 1 < 3 by decide) (by decide) (by decide) (by decide) rfl
 have x112_1 := ColB.at2 (o := 33) (j := 2) (i := 1) (v := .slice (h 1 2).A (h 1 2).n (h 1 2).c) (hE.h11) (show 1 < 3 by decide) (by decide) (by decide) (by decide) rfl
 have x112_2 := ColB.at2 (o := 34) (j := 2) (i := 2) (v := .bool (h 1 2).t) (hE.h11) (show 1 < 3 by decide) (by decide) (by decide) (by decide) rfl
 have x112_3 := ColB.at2 (o := 35) (j := 2) (i := 3) (v := .slice (h 1 2).B (h 1 2).m (h 1 2).d) (hE.h11) (show 1 < 3 by decide) (by decide) (by decide) (by decide) rfl
 have hv112 : FV w211 (Rat.divInt 162 125) (h 1 2).s (h 1 2).A (h 1 2).n (h 1 2).t (h 1 2).B (h 1 2).m := by have := (hE.h10) 1 (by decide) 2 (by decide) trivial; rw [colq_ext Hhfx.out (by decide), exq.2.2.2.2.2.2.2.2.1] at this; exact this
 go_wp2_with fail
 refine hE.br (c_is (ca := (h 1 2).c) (da := (h 1 2).d) (n := 162) (d := 125) hv112 (by rw [fl_le]; decide +kernel) (by decide) (by decide) (by decide) (by decide) (by decide) rfl) ?_
 clear hE x112_0 x112_1 x112_2 x112_3 hv112
 intro w212 hE
 have x113_0 := ColB.at2 (o := 56) (j := 2) (i := 0) (v := .bool (h 2 2).s) (hE.h11) (show 2 < 3 by decide) (by decide) (by decide) (by decide) rfl
 have x113_1 := ColB.at2 (o := 57) (j := 2) (i := 1) (v := .slice (h 2 2).A (h 2 2).n (h 2 2).c) (hE.h11) (show 2 < 3 by decide) (by decide) (by decide) (by decide) rfl
 have x113_2 := ColB.at2 (o := 58) (j := 2) (i := 2) (v := .bool (h 2 2).t) (hE.h11) (show 2 < 3 by decide) (by decide) (by decide) (by decide) rfl
 have x113_3 := ColB.at2 (o := 59) (j := 2) (i := 3) (v := .slice (h 2 2).B (h 2 2).m (h 2 2).d) (hE.h11) (show 2 < 3 by decide) (by decide) (by decide) (by decide) rfl
 have hv113 : FV w212 (Rat.divInt 36 125) (h 2 2).s (h 2 2).A (h 2 2).n (h 2 2).t (h 2 2).B (h 2 2).m := by have := (hE.h10) 2 (by decide) 2 (by decide) trivial; rw [colq_ext Hhfx.out (by decide), exq.2.2.2.2.2.2.2.2.2] at this; exact this
 go_wp2_with fail
 refine hE.br (c_is (ca := (h 2 2).c) (da := (h 2 2).d) (n := 36) (d := 125) hv113 (by rw [fl_le]; decide +kernel) (by decide) (by decide) (by decide) (by decide) (by decide) rfl) ?_
 clear hE x113_0 x113_1 x113_2 x113_3 hv113
 intro w213 hE
 go_wp2_with fail
 go_ret
 exact ⟨rfl, hE.bel⟩
end Go.Proofs.YtmjlankpihnicaaGreat
