/-
  The walk of CommuteParts.
-/
import Derived.Test.YtmjlankpihnicaaGreatK1
import Derived.Test.YtmjlankpihnicaaGreatHk
import Derived.Test.YtmjlankpihnicaaGreatC11
namespace Go.Proofs.YtmjlankpihnicaaGreat
open Go.RowKit

section
variable {v : Rat} {f : Nat → Rat} {N : Nat} (hv : Dis v) (hf : Rts f N) (h21 : N ≤ 21)
include hv hf h21
theorem pqq {g : Nat → Rat} {M : Nat} (a b : Int) (h : ∀ j, j < N → a ≤ (j : Int) → 0 ≤ g j ∧ g j ≤ (M : Rat) ∧ Dv (g j) (dE v f N)) : Ql (21 * M) (3 * N) (ps g a b N) ∧ 0 ≤ ps g a b N := by
 obtain ⟨h1, h2, h3⟩ := ps_bound2 a b h N (Nat.le_refl _)
 refine ⟨Ql.of h1 (Rat.le_trans h2 ?_) (dE_pos v f N) h3 (dE_le hv hf N (Nat.le_refl _)), h1⟩
 exact_mod_cast Nat.mul_le_mul_right M h21
theorem pdq (a b : Int) : Ql (21 * 1) (3 * N) (ps (dd v f) a b N) ∧ 0 ≤ ps (dd v f) a b N := pqq hv hf h21 a b (fun _ hj h => ddA hv hf hj a h)
theorem pcq (a b : Int) : Ql (21 * 1) (3 * N) (ps (cc v f) a b N) ∧ 0 ≤ ps (cc v f) a b N := pqq hv hf h21 a b (fun _ hj h => ccA hv hf hj a h)
theorem prq (a : Nat) (b : Int) : Ql (21 * 80) (3 * N) (ps (rs (dd v f) (a : Int)) (a : Int) b N) ∧ 0 ≤ ps (rs (dd v f) (a : Int)) (a : Int) b N := pqq hv hf h21 (a : Int) b (fun j hj h => rsA hv hf (by omega) hj a h)
end
theorem FV.pos {W : World} {q : Rat} {s t : Bool} {A B : Option Addr} {n m : Nat} (h : FV W q s A n t B m) (h0 : 0 ≤ q) : s = false := by
 rw [h.1.sgn]
 exact decide_eq_false (by have := Rat.num_nonneg.2 h0; omega)
set_option linter.unusedSimpArgs false in
set_option maxRecDepth 100000 in
set_option maxHeartbeats 8000000 in
theorem cparts_walk (F S E Y : Int) (A : Option Addr) (n c : Nat) (r : Nat → RH) (si ti : Bool) (Ai Bi : Option Addr) (ni mi ci di : Nat) (fi gi : Nat → Nat) (w : World) (hT : TabM w A n r) (hr : FRd w Ai ni fi Bi mi gi) (x : Int) (x0 : 0 ≤ x) (x1 : x ≤ 255) (y : Int) (y0 : 0 ≤ y) (y1 : y ≤ 255) (z : Int) (z0 : 0 ≤ z) (z1 : z ≤ 255) :
  Calls Tryz.prog 7 #[.agg #[.int .i64 F, .int .i64 S, .slice A n c, .bool si, .slice Ai ni ci, .bool ti, .slice Bi mi di], .agg #[.int .i64 E, .int .i64 Y], .int .u8 x, .int .u8 y, .int .u8 z] w fun e w' => e = .returned (.bool true) ∧ Below w.heap.size w w' := by
 by_cases hU : UsB F S n r E Y si ni fi ti mi gi
 ·
  by_cases h1 : y < x
  ·
   have t1 : decide (y < x) = true := decide_eq_true h1
   have HhT := Lib.hid hT
   clear hT
   have Hhr := Lib.hid hr
   clear hr
   have HhU := Lib.hid hU
   clear hU
   have hE := ((Env.start w).blk 31 #[.int .i64 F, .int .i64 S, .slice A n c, .bool si, .slice Ai ni ci, .bool ti, .slice Bi mi di] (g := w.heap.size) rfl).blk 33 #[.int .i64 E, .int .i64 Y] (g := w.heap.size + 1) (by simp)
   obtain ⟨W0, hW0⟩ : ∃ W0, W0 = ((w.alloc (.cells #[.int .i64 F, .int .i64 S, .slice A n c, .bool si, .slice Ai ni ci, .bool ti, .slice Bi mi di] 31)).alloc (.cells #[.int .i64 E, .int .i64 Y] 33)) := ⟨_, rfl⟩
   rw [← hW0] at hE
   have HW0 := Lib.hid hW0
   clear hW0
   go_enter Tryz.func7, Tryz.ntmps7
   go_upto_region 1 with (fail)
   rw [← HW0.out]
   go_wp2_with fail
   refine hE.br (awakeB_t _) ?_
   clear hE
   intro w1 hE
   obtain ⟨k2, k3, k4, k5, k6, k7, k8⟩ := (hE.here.1.2).c7
   obtain ⟨k9, k10⟩ := (hE.here.2).c2
   go_wp2_with fail
   refine hE.br (usableB_t (HhT.out.below hE.bel) (Hhr.out.below hE.bel) HhU.out) ?_
   clear hE k2 k3 k4 k5 k6 k7 k8 k9 k10
   intro w11 hE
   go_wp2_with fail
   go_ret
   exact ⟨rfl, hE.bel⟩
  by_cases h2 : z < y
  ·
   have t1 : decide (y < x) = false := decide_eq_false h1
   have t2 : decide (z < y) = true := decide_eq_true h2
   have HhT := Lib.hid hT
   clear hT
   have Hhr := Lib.hid hr
   clear hr
   have HhU := Lib.hid hU
   clear hU
   have hE := ((Env.start w).blk 31 #[.int .i64 F, .int .i64 S, .slice A n c, .bool si, .slice Ai ni ci, .bool ti, .slice Bi mi di] (g := w.heap.size) rfl).blk 33 #[.int .i64 E, .int .i64 Y] (g := w.heap.size + 1) (by simp)
   obtain ⟨W0, hW0⟩ : ∃ W0, W0 = ((w.alloc (.cells #[.int .i64 F, .int .i64 S, .slice A n c, .bool si, .slice Ai ni ci, .bool ti, .slice Bi mi di] 31)).alloc (.cells #[.int .i64 E, .int .i64 Y] 33)) := ⟨_, rfl⟩
   rw [← hW0] at hE
   have HW0 := Lib.hid hW0
   clear hW0
   go_enter Tryz.func7, Tryz.ntmps7
   go_upto_region 1 with (fail)
   rw [← HW0.out]
   go_wp2_with fail
   refine hE.br (awakeB_t _) ?_
   clear hE
   intro w1 hE
   obtain ⟨k2, k3, k4, k5, k6, k7, k8⟩ := (hE.here.1.2).c7
   obtain ⟨k9, k10⟩ := (hE.here.2).c2
   go_wp2_with fail
   refine hE.br (usableB_t (HhT.out.below hE.bel) (Hhr.out.below hE.bel) HhU.out) ?_
   clear hE k2 k3 k4 k5 k6 k7 k8 k9 k10
   intro w11 hE
   go_wp2_with fail
   go_ret
   exact ⟨rfl, hE.bel⟩
  obtain ⟨fa, rfl⟩ : ∃ k : Nat, x = (k : Int) := ⟨x.toNat, by omega⟩
  obtain ⟨fm, rfl⟩ : ∃ k : Nat, y = (k : Int) := ⟨y.toNat, by omega⟩
  obtain ⟨ft, rfl⟩ : ∃ k : Nat, z = (k : Int) := ⟨z.toNat, by omega⟩
  have hxy : (fa : Int) ≤ (fm : Int) := by omega
  have hyz : (fm : Int) ≤ (ft : Int) := by omega
  have b1 : fa ≤ 255 := by omega
  have b2 : fm ≤ 255 := by omega
  have b3 : ft ≤ 255 := by omega
  obtain ⟨hB, hn, hm, hbk, hR, N, h21, hN⟩ := hU.get (1 / (1 + qOf si ni fi mi gi))
  obtain ⟨hqv, hi⟩ := intB_rti hr hbk.2
  have hdis := hi.dis
  have hrts := rt_rates hT hR N
  have hAnn := fun (a b : Nat) (ha : a ≤ 9223372036854775807) (hb : b ≤ 9223372036854775807) (W : World) (hW : Below w.heap.size w W) => cAnn_v (c := c) (ci := ci) (di := di) (hT.below hW) hB (hr.below hW) hn hm hbk hR N hN (by omega) a b ha hb
  have hRis := fun (a b : Nat) (ha : a ≤ 9223372036854775807) (hb : b ≤ 9223372036854775807) (W : World) (hW : Below w.heap.size w W) => cRis_v (c := c) (ci := ci) (di := di) (hT.below hW) hB (hr.below hW) hn hm hbk hR N hN (by omega) a b ha hb
  have hAss := fun (a b : Nat) (ha : a ≤ 9223372036854775807) (hb : b ≤ 9223372036854775807) (W : World) (hW : Below w.heap.size w W) => cAss_v (c := c) (ci := ci) (di := di) (hT.below hW) hB (hr.below hW) hn hm hbk hR N hN (by omega) a b ha hb
  have hEnd := fun (k : Nat) (hk : k ≤ 9223372036854775807) (W : World) (hW : Below w.heap.size w W) => cEnd_v (c := c) (ci := ci) (di := di) (hT.below hW) hB (hr.below hW) hn hm hbk hR N hN (by omega) k hk
  have hCol := fun (W : World) (hW : Below w.heap.size w W) => cColumns_v (c := c) (ci := ci) (di := di) (hT.below hW) hB (hr.below hW) hn hm hbk hR N hN (by omega)
  have hN0 := hN.pos
  obtain ⟨v, hv⟩ : ∃ v, v = 1 / (1 + qOf si ni fi mi gi) := ⟨_, rfl⟩
  obtain ⟨f, hf⟩ : ∃ f, f = fr F S n r E Y := ⟨_, rfl⟩
  have hrf : Rts f N := by rw [hf]; exact hrts
  simp only [← hv, ← hf] at hAnn hRis hAss hEnd hCol hdis hN
  have hpd := fun a b => pdq hdis hrf h21 a b
  have hpc := fun a b => pcq hdis hrf h21 a b
  have hpr := fun a b => prq hdis hrf h21 a b
  have hld := fun a b => (hpd a b).1.l (by decide) (by decide) (by omega)
  have hlc := fun a b => (hpc a b).1.l (by decide) (by decide) (by omega)
  have hlr := fun a b => (hpr a b).1.l (by decide) (by decide) (by omega)
  have hs1 := ps_split (dd v f) hxy hyz N
  have hs2 := ps_split (cc v f) hxy hyz N
  have hs3 := ps_parts (dd v f) hxy hyz N
  have hlrr : fl (ps (rs (dd v f) (fa : Int)) (fa : Int) (fm : Int) N + ps (rs (dd v f) (fm : Int)) (fm : Int) (ft : Int) N) ≤ 256 := ((hpr fa fm).1.add (hpr fm ft).1).l (by decide) (by decide) (by omega)
  have hlp : fl ((((fm : Int) - (fa : Int) : Int) : Rat) * ps (dd v f) (fm : Int) (ft : Int) N) ≤ 256 := ((Ql.int ((fm : Int) - (fa : Int)) (M := 255) (by omega)).mul (hpd fm ft).1).l (by decide) (by decide) (by omega)
  have hlz : fl ((((fm : Int) - (fa : Int) : Int) : Rat)) ≤ 256 := (Ql.int ((fm : Int) - (fa : Int)) (M := 255) (by omega)).l (by decide) (by decide) (by decide)
  have t1 : decide ((fm : Int) < (fa : Int)) = false := decide_eq_false (by omega)
  have t2 : decide ((ft : Int) < (fm : Int)) = false := decide_eq_false (by omega)
  clear hv hrts hqv hi hxy hyz
  have HhT := Lib.hid hT
  clear hT
  have Hhr := Lib.hid hr
  clear hr
  have HhU := Lib.hid hU
  clear hU
  have Hhf := Lib.hid hf
  clear hf
  have HhB := Lib.hid hB
  clear hB
  have Hhbk := Lib.hid hbk
  clear hbk
  have HhR := Lib.hid hR
  clear hR
  have HhN := Lib.hid hN
  clear hN
  have Hhdis := Lib.hid hdis
  clear hdis
  have Hhrf := Lib.hid hrf
  clear hrf
  have HhAnn := Lib.hid hAnn
  clear hAnn
  have HhRis := Lib.hid hRis
  clear hRis
  have HhAss := Lib.hid hAss
  clear hAss
  have HhEnd := Lib.hid hEnd
  clear hEnd
  have HhCol := Lib.hid hCol
  clear hCol
  have Hhpd := Lib.hid hpd
  clear hpd
  have Hhpc := Lib.hid hpc
  clear hpc
  have Hhpr := Lib.hid hpr
  clear hpr
  have Hhld := Lib.hid hld
  clear hld
  have Hhlc := Lib.hid hlc
  clear hlc
  have Hhlr := Lib.hid hlr
  clear hlr
  have Hhs1 := Lib.hid hs1
  clear hs1
  have Hhs2 := Lib.hid hs2
  clear hs2
  have Hhs3 := Lib.hid hs3
  clear hs3
  have Hhlrr := Lib.hid hlrr
  clear hlrr
  have Hhlp := Lib.hid hlp
  clear hlp
  have Hhlz := Lib.hid hlz
  clear hlz
  have hE := ((Env.start w).blk 31 #[.int .i64 F, .int .i64 S, .slice A n c, .bool si, .slice Ai ni ci, .bool ti, .slice Bi mi di] (g := w.heap.size) rfl).blk 33 #[.int .i64 E, .int .i64 Y] (g := w.heap.size + 1) (by simp)
  obtain ⟨W0, hW0⟩ : ∃ W0, W0 = ((w.alloc (.cells #[.int .i64 F, .int .i64 S, .slice A n c, .bool si, .slice Ai ni ci, .bool ti, .slice Bi mi di] 31)).alloc (.cells #[.int .i64 E, .int .i64 Y] 33)) := ⟨_, rfl⟩
  rw [← hW0] at hE
  have HW0 := Lib.hid hW0
  clear hW0
  go_enter Tryz.func7, Tryz.ntmps7
  go_upto_region 1 with (fail)
  rw [← HW0.out]
  go_wp2_with fail
  refine hE.br (awakeB_t _) ?_
  clear hE
  intro w1 hE
  obtain ⟨k2, k3, k4, k5, k6, k7, k8⟩ := (hE.here.1.2).c7
  obtain ⟨k9, k10⟩ := (hE.here.2).c2
  go_wp2_with fail
  refine hE.br (usableB_t (HhT.out.below hE.bel) (Hhr.out.below hE.bel) HhU.out) ?_
  clear hE k2 k3 k4 k5 k6 k7 k8 k9 k10
  intro w11 hE
  obtain ⟨k12, k13, k14, k15, k16, k17, k18⟩ := (hE.here.1.2).c7
  obtain ⟨k19, k20⟩ := (hE.here.2).c2
  go_wp2_with fail
  have hc := HhAnn.out fa fm (by omega) (by omega) _ hE.bel
  refine hE.fr (hc) ?_
  clear hE k12 k13 k14 k15 k16 k17 k18 k19 k20
  intro sg0 Ag0 ng0 cg0 tg0 Bg0 mg0 dg0 w21 hE
  clear hc
  obtain rfl : sg0 = false := FV.pos (hE.here.2) (Hhpd.out _ _).2
  go_upto_region 7 with (fail)
  obtain ⟨g22, hg22⟩ : ∃ g22, g22 = w21.heap.size := ⟨_, rfl⟩
  have hl22_0 : w.heap.size < g22 := by rw [hg22]; exact (hE.h2).lt
  have hl22_1 : w.heap.size + 1 < g22 := by rw [hg22]; exact (hE.here.1.2).lt
  replace hE := hE.blk 29 #[.bool false, .slice Ag0 ng0 cg0, .bool tg0, .slice Bg0 mg0 dg0] (g := g22) hg22.symm
  generalize w21.alloc (.cells #[.bool false, .slice Ag0 ng0 cg0, .bool tg0, .slice Bg0 mg0 dg0] 29) = W22 at hE ⊢
  rw [← hg22]
  clear hg22
  obtain ⟨k23, k24, k25, k26, k27, k28, k29⟩ := (hE.h3).c7
  obtain ⟨k30, k31⟩ := (hE.h2).c2
  go_wp2_with fail
  have hc := HhAnn.out fm ft (by omega) (by omega) _ hE.bel
  refine hE.fr (hc) ?_
  clear hE k23 k24 k25 k26 k27 k28 k29 k30 k31
  intro sg1 Ag1 ng1 cg1 tg1 Bg1 mg1 dg1 w32 hE
  clear hc
  go_upto_region 8 with (fail)
  obtain ⟨g33, hg33⟩ : ∃ g33, g33 = w32.heap.size := ⟨_, rfl⟩
  have hl33_0 : w.heap.size < g33 := by rw [hg33]; exact (hE.h4).lt
  have hl33_1 : w.heap.size + 1 < g33 := by rw [hg33]; exact (hE.h3).lt
  have hl33_3 : g22 < g33 := by rw [hg33]; exact (hE.here.1.2).lt
  replace hE := hE.blk 29 #[.bool sg1, .slice Ag1 ng1 cg1, .bool tg1, .slice Bg1 mg1 dg1] (g := g33) hg33.symm
  generalize w32.alloc (.cells #[.bool sg1, .slice Ag1 ng1 cg1, .bool tg1, .slice Bg1 mg1 dg1] 29) = W33 at hE ⊢
  rw [← hg33]
  clear hg33
  obtain ⟨k34, k35, k36, k37, k38, k39, k40⟩ := (hE.h5).c7
  obtain ⟨k41, k42⟩ := (hE.h4).c2
  go_wp2_with fail
  have hc := HhAnn.out fa ft (by omega) (by omega) _ hE.bel
  refine hE.fr (hc) ?_
  clear hE k34 k35 k36 k37 k38 k39 k40 k41 k42
  intro sg2 Ag2 ng2 cg2 tg2 Bg2 mg2 dg2 w43 hE
  clear hc
  go_upto_region 9 with (fail)
  obtain ⟨g44, hg44⟩ : ∃ g44, g44 = w43.heap.size := ⟨_, rfl⟩
  have hl44_0 : w.heap.size < g44 := by rw [hg44]; exact (hE.h6).lt
  have hl44_1 : w.heap.size + 1 < g44 := by rw [hg44]; exact (hE.h5).lt
  have hl44_3 : g22 < g44 := by rw [hg44]; exact (hE.h3).lt
  have hl44_5 : g33 < g44 := by rw [hg44]; exact (hE.here.1.2).lt
  replace hE := hE.blk 29 #[.bool sg2, .slice Ag2 ng2 cg2, .bool tg2, .slice Bg2 mg2 dg2] (g := g44) hg44.symm
  generalize w43.alloc (.cells #[.bool sg2, .slice Ag2 ng2 cg2, .bool tg2, .slice Bg2 mg2 dg2] 29) = W44 at hE ⊢
  rw [← hg44]
  clear hg44
  obtain ⟨k45, k46, k47, k48, k49, k50, k51⟩ := (hE.h7).c7
  obtain ⟨k52, k53⟩ := (hE.h6).c2
  go_wp2_with fail
  have hc := HhAss.out fa fm (by omega) (by omega) _ hE.bel
  refine hE.fr (hc) ?_
  clear hE k45 k46 k47 k48 k49 k50 k51 k52 k53
  intro sh0 Ah0 nh0 ch0 th0 Bh0 mh0 dh0 w54 hE
  clear hc
  obtain rfl : sh0 = false := FV.pos (hE.here.2) (Hhpc.out _ _).2
  go_upto_region 10 with (fail)
  obtain ⟨g55, hg55⟩ : ∃ g55, g55 = w54.heap.size := ⟨_, rfl⟩
  have hl55_0 : w.heap.size < g55 := by rw [hg55]; exact (hE.h8).lt
  have hl55_1 : w.heap.size + 1 < g55 := by rw [hg55]; exact (hE.h7).lt
  have hl55_3 : g22 < g55 := by rw [hg55]; exact (hE.h5).lt
  have hl55_5 : g33 < g55 := by rw [hg55]; exact (hE.h3).lt
  have hl55_7 : g44 < g55 := by rw [hg55]; exact (hE.here.1.2).lt
  replace hE := hE.blk 29 #[.bool false, .slice Ah0 nh0 ch0, .bool th0, .slice Bh0 mh0 dh0] (g := g55) hg55.symm
  generalize w54.alloc (.cells #[.bool false, .slice Ah0 nh0 ch0, .bool th0, .slice Bh0 mh0 dh0] 29) = W55 at hE ⊢
  rw [← hg55]
  clear hg55
  obtain ⟨k56, k57, k58, k59, k60, k61, k62⟩ := (hE.h9).c7
  obtain ⟨k63, k64⟩ := (hE.h8).c2
  go_wp2_with fail
  have hc := HhAss.out fm ft (by omega) (by omega) _ hE.bel
  refine hE.fr (hc) ?_
  clear hE k56 k57 k58 k59 k60 k61 k62 k63 k64
  intro sh1 Ah1 nh1 ch1 th1 Bh1 mh1 dh1 w65 hE
  clear hc
  go_upto_region 11 with (fail)
  obtain ⟨g66, hg66⟩ : ∃ g66, g66 = w65.heap.size := ⟨_, rfl⟩
  have hl66_0 : w.heap.size < g66 := by rw [hg66]; exact (hE.h10).lt
  have hl66_1 : w.heap.size + 1 < g66 := by rw [hg66]; exact (hE.h9).lt
  have hl66_3 : g22 < g66 := by rw [hg66]; exact (hE.h7).lt
  have hl66_5 : g33 < g66 := by rw [hg66]; exact (hE.h5).lt
  have hl66_7 : g44 < g66 := by rw [hg66]; exact (hE.h3).lt
  have hl66_9 : g55 < g66 := by rw [hg66]; exact (hE.here.1.2).lt
  replace hE := hE.blk 29 #[.bool sh1, .slice Ah1 nh1 ch1, .bool th1, .slice Bh1 mh1 dh1] (g := g66) hg66.symm
  generalize w65.alloc (.cells #[.bool sh1, .slice Ah1 nh1 ch1, .bool th1, .slice Bh1 mh1 dh1] 29) = W66 at hE ⊢
  rw [← hg66]
  clear hg66
  obtain ⟨k67, k68, k69, k70, k71, k72, k73⟩ := (hE.h11).c7
  obtain ⟨k74, k75⟩ := (hE.h10).c2
  go_wp2_with fail
  have hc := HhAss.out fa ft (by omega) (by omega) _ hE.bel
  refine hE.fr (hc) ?_
  clear hE k67 k68 k69 k70 k71 k72 k73 k74 k75
  intro sh2 Ah2 nh2 ch2 th2 Bh2 mh2 dh2 w76 hE
  clear hc
  go_upto_region 12 with (fail)
  obtain ⟨g77, hg77⟩ : ∃ g77, g77 = w76.heap.size := ⟨_, rfl⟩
  have hl77_0 : w.heap.size < g77 := by rw [hg77]; exact (hE.h12).lt
  have hl77_1 : w.heap.size + 1 < g77 := by rw [hg77]; exact (hE.h11).lt
  have hl77_3 : g22 < g77 := by rw [hg77]; exact (hE.h9).lt
  have hl77_5 : g33 < g77 := by rw [hg77]; exact (hE.h7).lt
  have hl77_7 : g44 < g77 := by rw [hg77]; exact (hE.h5).lt
  have hl77_9 : g55 < g77 := by rw [hg77]; exact (hE.h3).lt
  have hl77_11 : g66 < g77 := by rw [hg77]; exact (hE.here.1.2).lt
  replace hE := hE.blk 29 #[.bool sh2, .slice Ah2 nh2 ch2, .bool th2, .slice Bh2 mh2 dh2] (g := g77) hg77.symm
  generalize w76.alloc (.cells #[.bool sh2, .slice Ah2 nh2 ch2, .bool th2, .slice Bh2 mh2 dh2] 29) = W77 at hE ⊢
  rw [← hg77]
  clear hg77
  obtain ⟨k78, k79, k80, k81, k82, k83, k84⟩ := (hE.h13).c7
  obtain ⟨k85, k86⟩ := (hE.h12).c2
  go_wp2_with fail
  have hc := HhRis.out fa fm (by omega) (by omega) _ hE.bel
  refine hE.fr (hc) ?_
  clear hE k78 k79 k80 k81 k82 k83 k84 k85 k86
  intro sj0 Aj0 nj0 cj0 tj0 Bj0 mj0 dj0 w87 hE
  clear hc
  obtain rfl : sj0 = false := FV.pos (hE.here.2) (Hhpr.out _ _).2
  go_upto_region 13 with (fail)
  obtain ⟨g88, hg88⟩ : ∃ g88, g88 = w87.heap.size := ⟨_, rfl⟩
  have hl88_0 : w.heap.size < g88 := by rw [hg88]; exact (hE.h14).lt
  have hl88_1 : w.heap.size + 1 < g88 := by rw [hg88]; exact (hE.h13).lt
  have hl88_3 : g22 < g88 := by rw [hg88]; exact (hE.h11).lt
  have hl88_5 : g33 < g88 := by rw [hg88]; exact (hE.h9).lt
  have hl88_7 : g44 < g88 := by rw [hg88]; exact (hE.h7).lt
  have hl88_9 : g55 < g88 := by rw [hg88]; exact (hE.h5).lt
  have hl88_11 : g66 < g88 := by rw [hg88]; exact (hE.h3).lt
  have hl88_13 : g77 < g88 := by rw [hg88]; exact (hE.here.1.2).lt
  replace hE := hE.blk 29 #[.bool false, .slice Aj0 nj0 cj0, .bool tj0, .slice Bj0 mj0 dj0] (g := g88) hg88.symm
  generalize w87.alloc (.cells #[.bool false, .slice Aj0 nj0 cj0, .bool tj0, .slice Bj0 mj0 dj0] 29) = W88 at hE ⊢
  rw [← hg88]
  clear hg88
  obtain ⟨k89, k90, k91, k92, k93, k94, k95⟩ := (hE.h15).c7
  obtain ⟨k96, k97⟩ := (hE.h14).c2
  go_wp2_with fail
  have hc := HhRis.out fm ft (by omega) (by omega) _ hE.bel
  refine hE.fr (hc) ?_
  clear hE k89 k90 k91 k92 k93 k94 k95 k96 k97
  intro sj1 Aj1 nj1 cj1 tj1 Bj1 mj1 dj1 w98 hE
  clear hc
  go_upto_region 14 with (fail)
  obtain ⟨g99, hg99⟩ : ∃ g99, g99 = w98.heap.size := ⟨_, rfl⟩
  have hl99_0 : w.heap.size < g99 := by rw [hg99]; exact (hE.h16).lt
  have hl99_1 : w.heap.size + 1 < g99 := by rw [hg99]; exact (hE.h15).lt
  have hl99_3 : g22 < g99 := by rw [hg99]; exact (hE.h13).lt
  have hl99_5 : g33 < g99 := by rw [hg99]; exact (hE.h11).lt
  have hl99_7 : g44 < g99 := by rw [hg99]; exact (hE.h9).lt
  have hl99_9 : g55 < g99 := by rw [hg99]; exact (hE.h7).lt
  have hl99_11 : g66 < g99 := by rw [hg99]; exact (hE.h5).lt
  have hl99_13 : g77 < g99 := by rw [hg99]; exact (hE.h3).lt
  have hl99_15 : g88 < g99 := by rw [hg99]; exact (hE.here.1.2).lt
  replace hE := hE.blk 29 #[.bool sj1, .slice Aj1 nj1 cj1, .bool tj1, .slice Bj1 mj1 dj1] (g := g99) hg99.symm
  generalize w98.alloc (.cells #[.bool sj1, .slice Aj1 nj1 cj1, .bool tj1, .slice Bj1 mj1 dj1] 29) = W99 at hE ⊢
  rw [← hg99]
  clear hg99
  obtain ⟨k100, k101, k102, k103, k104, k105, k106⟩ := (hE.h17).c7
  obtain ⟨k107, k108⟩ := (hE.h16).c2
  go_wp2_with fail
  have hc := HhRis.out fa ft (by omega) (by omega) _ hE.bel
  refine hE.fr (hc) ?_
  clear hE k100 k101 k102 k103 k104 k105 k106 k107 k108
  intro sj2 Aj2 nj2 cj2 tj2 Bj2 mj2 dj2 w109 hE
  clear hc
  go_upto_region 15 with (fail)
  obtain ⟨g110, hg110⟩ : ∃ g110, g110 = w109.heap.size := ⟨_, rfl⟩
  have hl110_0 : w.heap.size < g110 := by rw [hg110]; exact (hE.h18).lt
  have hl110_1 : w.heap.size + 1 < g110 := by rw [hg110]; exact (hE.h17).lt
  have hl110_3 : g22 < g110 := by rw [hg110]; exact (hE.h15).lt
  have hl110_5 : g33 < g110 := by rw [hg110]; exact (hE.h13).lt
  have hl110_7 : g44 < g110 := by rw [hg110]; exact (hE.h11).lt
  have hl110_9 : g55 < g110 := by rw [hg110]; exact (hE.h9).lt
  have hl110_11 : g66 < g110 := by rw [hg110]; exact (hE.h7).lt
  have hl110_13 : g77 < g110 := by rw [hg110]; exact (hE.h5).lt
  have hl110_15 : g88 < g110 := by rw [hg110]; exact (hE.h3).lt
  have hl110_17 : g99 < g110 := by rw [hg110]; exact (hE.here.1.2).lt
  replace hE := hE.blk 29 #[.bool sj2, .slice Aj2 nj2 cj2, .bool tj2, .slice Bj2 mj2 dj2] (g := g110) hg110.symm
  generalize w109.alloc (.cells #[.bool sj2, .slice Aj2 nj2 cj2, .bool tj2, .slice Bj2 mj2 dj2] 29) = W110 at hE ⊢
  rw [← hg110]
  clear hg110
  go_upto_region 17 with (fail)
  have o1 : IntKind.i64.wrap ((fm : Int) - (fa : Int)) = (fm : Int) - (fa : Int) := by rw [IntKind.wrap_i64]; omega
  replace hE := hE.drew
  refine wp_region_held_drew (S := fun w' => w'.cell? ⟨g22, 0, none⟩ = some (.bool false) ∧ w'.cell? ⟨g22, 1, none⟩ = some (.slice Ag0 ng0 cg0) ∧ w'.cell? ⟨g22, 2, none⟩ = some (.bool tg0) ∧ w'.cell? ⟨g22, 3, none⟩ = some (.slice Bg0 mg0 dg0) ∧ w'.cell? ⟨g33, 0, none⟩ = some (.bool sg1) ∧ w'.cell? ⟨g33, 1, none⟩ = some (.slice Ag1 ng1 cg1) ∧ w'.cell? ⟨g33, 2, none⟩ = some (.bool tg1) ∧ w'.cell? ⟨g33, 3, none⟩ = some (.slice Bg1 mg1 dg1) ∧ w'.cell? ⟨g44, 0, none⟩ = some (.bool sg2) ∧ w'.cell? ⟨g44, 1, none⟩ = some (.slice Ag2 ng2 cg2) ∧ w'.cell? ⟨g44, 2, none⟩ = some (.bool tg2) ∧ w'.cell? ⟨g44, 3, none⟩ = some (.slice Bg2 mg2 dg2) ∧ w'.cell? ⟨g55, 0, none⟩ = some (.bool false) ∧ w'.cell? ⟨g55, 1, none⟩ = some (.slice Ah0 nh0 ch0) ∧ w'.cell? ⟨g55, 2, none⟩ = some (.bool th0) ∧ w'.cell? ⟨g55, 3, none⟩ = some (.slice Bh0 mh0 dh0) ∧ w'.cell? ⟨g66, 0, none⟩ = some (.bool sh1) ∧ w'.cell? ⟨g66, 1, none⟩ = some (.slice Ah1 nh1 ch1) ∧ w'.cell? ⟨g66, 2, none⟩ = some (.bool th1) ∧ w'.cell? ⟨g66, 3, none⟩ = some (.slice Bh1 mh1 dh1) ∧ w'.cell? ⟨g77, 0, none⟩ = some (.bool sh2) ∧ w'.cell? ⟨g77, 1, none⟩ = some (.slice Ah2 nh2 ch2) ∧ w'.cell? ⟨g77, 2, none⟩ = some (.bool th2) ∧ w'.cell? ⟨g77, 3, none⟩ = some (.slice Bh2 mh2 dh2) ∧ w'.cell? ⟨g88, 0, none⟩ = some (.bool false) ∧ w'.cell? ⟨g88, 1, none⟩ = some (.slice Aj0 nj0 cj0) ∧ w'.cell? ⟨g88, 2, none⟩ = some (.bool tj0) ∧ w'.cell? ⟨g88, 3, none⟩ = some (.slice Bj0 mj0 dj0) ∧ w'.cell? ⟨g99, 0, none⟩ = some (.bool sj1) ∧ w'.cell? ⟨g99, 1, none⟩ = some (.slice Aj1 nj1 cj1) ∧ w'.cell? ⟨g99, 2, none⟩ = some (.bool tj1) ∧ w'.cell? ⟨g99, 3, none⟩ = some (.slice Bj1 mj1 dj1) ∧ w'.cell? ⟨g110, 0, none⟩ = some (.bool sj2) ∧ w'.cell? ⟨g110, 1, none⟩ = some (.slice Aj2 nj2 cj2) ∧ w'.cell? ⟨g110, 2, none⟩ = some (.bool tj2) ∧ w'.cell? ⟨g110, 3, none⟩ = some (.slice Bj2 mj2 dj2)) (by kernel_rfl) (hE.h16.j4 (hE.h14.j4 (hE.h12.j4 (hE.h10.j4 (hE.h8.j4 (hE.h6.j4 (hE.h4.j4 (hE.h2.j4 hE.here.2.c4)))))))) (fun hHeld => ?_)
  refine tk 0 ?_
  try simp only [PL]
  refine tk 1 ?_
  try simp only [PL]
  refine tk 2 ?_
  try simp only [PL]
  refine tk 3 ?_
  try simp only [PL]
  refine tk 4 ?_
  try simp only [PL]
  refine tk 5 ?_
  try simp only [PL]
  refine tk 6 ?_
  try simp only [PL]
  refine tk 7 ?_
  try simp only [PL]
  refine tk 8 ?_
  try simp only [PL]
  refine tk 9 ?_
  try simp only [PL]
  refine tk 10 ?_
  try simp only [PL]
  refine tk 11 ?_
  try simp only [PL]
  refine tk 12 ?_
  try simp only [PL]
  refine tk 13 ?_
  try simp only [PL]
  refine tk 14 ?_
  try simp only [PL]
  refine tk 15 ?_
  try simp only [PL]
  refine tk 17 ?_
  try simp only [PL]
  refine r1 16 (fun K hK => ?_)
  go_simp
  refine hE.fr (cw_sum (ca := cg0) (da := dg0) (cb := cg1) (db := dg1) (hE.h17) (hE.h15) (Hhld.out _ _) (Hhld.out _ _) (by rw [Hhs1.out]; exact Hhld.out _ _)) ?_
  clear hE
  intro su1 Au1 nu1 cu1 tu1 Bu1 mu1 du1 w111 hE
  go_wp2_with fail
  refine hK.out _ _ (hE.h17.j4 (hE.h15.j4 (hE.h13.j4 (hE.h11.j4 (hE.h9.j4 (hE.h7.j4 (hE.h5.j4 (hE.h3.j4 hE.here.1.2.c4)))))))) (fun hHeld => ?_)
  clear hK K
  try simp only [PL]
  refine r1 18 (fun K hK => ?_)
  go_simp
  refine hE.br (cw_equal (v := true) (ca := cu1) (da := du1) (cb := cg2) (db := dg2) (hE.here.2) (hE.h14) (by rw [Hhs1.out]; exact Hhld.out _ _) (Hhld.out _ _) (decide_eq_true (Hhs1.out))) ?_
  clear hE
  intro w112 hE
  go_wp2_with fail
  refine hK.out _ _ (hE.h17.j4 (hE.h15.j4 (hE.h13.j4 (hE.h11.j4 (hE.h9.j4 (hE.h7.j4 (hE.h5.j4 (hE.h3.j4 hE.here.1.2.c4)))))))) (fun hHeld => ?_)
  clear hK K
  try simp only [PL]
  refine tk 19 ?_
  try simp only [PL]
  refine tk 20 ?_
  try simp only [PL]
  refine tk 21 ?_
  try simp only [PL]
  refine tk 22 ?_
  try simp only [PL]
  refine tk 23 ?_
  try simp only [PL]
  refine tk 25 ?_
  try simp only [PL]
  refine r1 24 (fun K hK => ?_)
  go_simp
  refine hE.fr (cw_sum (ca := ch0) (da := dh0) (cb := ch1) (db := dh1) (hE.h12) (hE.h10) (Hhlc.out _ _) (Hhlc.out _ _) (by rw [Hhs2.out]; exact Hhlc.out _ _)) ?_
  clear hE
  intro su2 Au2 nu2 cu2 tu2 Bu2 mu2 du2 w113 hE
  go_wp2_with fail
  refine hK.out _ _ (hE.h18.j4 (hE.h16.j4 (hE.h14.j4 (hE.h12.j4 (hE.h10.j4 (hE.h8.j4 (hE.h6.j4 (hE.h4.j4 hE.h2.c4)))))))) (fun hHeld => ?_)
  clear hK K
  try simp only [PL]
  refine r1 26 (fun K hK => ?_)
  go_simp
  refine hE.br (cw_equal (v := true) (ca := cu2) (da := du2) (cb := ch2) (db := dh2) (hE.here.2) (hE.h9) (by rw [Hhs2.out]; exact Hhlc.out _ _) (Hhlc.out _ _) (decide_eq_true (Hhs2.out))) ?_
  clear hE
  intro w114 hE
  go_wp2_with fail
  refine hK.out _ _ (hE.h18.j4 (hE.h16.j4 (hE.h14.j4 (hE.h12.j4 (hE.h10.j4 (hE.h8.j4 (hE.h6.j4 (hE.h4.j4 hE.h2.c4)))))))) (fun hHeld => ?_)
  clear hK K
  try simp only [PL]
  refine tk 27 ?_
  try simp only [PL]
  refine tk 28 ?_
  try simp only [PL]
  refine tk 29 ?_
  try simp only [PL]
  refine tk 30 ?_
  try simp only [PL]
  refine tk 31 ?_
  try simp only [PL]
  refine tk 33 ?_
  try simp only [PL]
  refine tk 34 ?_
  try simp only [PL]
  refine tk 35 ?_
  try simp only [PL]
  refine tk 37 ?_
  try simp only [PL]
  refine tk 40 ?_
  try simp only [PL]
  refine r1 32 (fun K hK => ?_)
  go_simp
  refine hE.fr (cw_sum (ca := cj0) (da := dj0) (cb := cj1) (db := dj1) (hE.h7) (hE.h5) (Hhlr.out _ _) (Hhlr.out _ _) (Hhlrr.out)) ?_
  clear hE
  intro su3 Au3 nu3 cu3 tu3 Bu3 mu3 du3 w115 hE
  go_wp2_with fail
  refine hK.out _ _ (hE.h19.j4 (hE.h17.j4 (hE.h15.j4 (hE.h13.j4 (hE.h11.j4 (hE.h9.j4 (hE.h7.j4 (hE.h5.j4 hE.h3.c4)))))))) (fun hHeld => ?_)
  clear hK K
  try simp only [PL]
  refine r1 36 (fun K hK => ?_)
  go_simp
  refine hE.fr (ffromInt_v ((fm : Int) - (fa : Int)) _ (by omega) (by omega)) ?_
  clear hE
  intro su4 Au4 nu4 cu4 tu4 Bu4 mu4 du4 w116 hE
  go_wp2_with fail
  refine hK.out _ _ (hE.h20.j4 (hE.h18.j4 (hE.h16.j4 (hE.h14.j4 (hE.h12.j4 (hE.h10.j4 (hE.h8.j4 (hE.h6.j4 hE.h4.c4)))))))) (fun hHeld => ?_)
  clear hK K
  try simp only [PL]
  refine r1 38 (fun K hK => ?_)
  go_simp
  refine hE.fr (cw_product (ca := cu4) (da := du4) (cb := cg1) (db := dg1) (hE.here.2) (hE.h19) (Hhlz.out) (Hhld.out _ _) (Hhlp.out)) ?_
  clear hE
  intro su5 Au5 nu5 cu5 tu5 Bu5 mu5 du5 w117 hE
  go_wp2_with fail
  refine hK.out _ _ (hE.h21.j4 (hE.h19.j4 (hE.h17.j4 (hE.h15.j4 (hE.h13.j4 (hE.h11.j4 (hE.h9.j4 (hE.h7.j4 hE.h5.c4)))))))) (fun hHeld => ?_)
  clear hK K
  try simp only [PL]
  refine r1 39 (fun K hK => ?_)
  go_simp
  refine hE.fr (cw_sum (ca := cu3) (da := du3) (cb := cu5) (db := du5) (hE.h2) (hE.here.2) (Hhlrr.out) (Hhlp.out) (by rw [Hhs3.out]; exact Hhlr.out _ _)) ?_
  clear hE
  intro su6 Au6 nu6 cu6 tu6 Bu6 mu6 du6 w118 hE
  go_wp2_with fail
  refine hK.out _ _ (hE.h22.j4 (hE.h20.j4 (hE.h18.j4 (hE.h16.j4 (hE.h14.j4 (hE.h12.j4 (hE.h10.j4 (hE.h8.j4 hE.h6.c4)))))))) (fun hHeld => ?_)
  clear hK K
  try simp only [PL]
  refine r1 41 (fun K hK => ?_)
  go_simp
  refine hE.br (cw_equal (v := true) (ca := cu6) (da := du6) (cb := cj2) (db := dj2) (hE.here.2) (hE.h7) (by rw [Hhs3.out]; exact Hhlr.out _ _) (Hhlr.out _ _) (decide_eq_true (Hhs3.out))) ?_
  clear hE
  intro w119 hE
  go_wp2_with fail
  refine hK.out _ _ (hE.h22.j4 (hE.h20.j4 (hE.h18.j4 (hE.h16.j4 (hE.h14.j4 (hE.h12.j4 (hE.h10.j4 (hE.h8.j4 hE.h6.c4)))))))) (fun hHeld => ?_)
  clear hK K
  try simp only [PL]
  refine tk 42 ?_
  try simp only [PL]
  refine tk 43 ?_
  try simp only [PL]
  refine wpAnyH_done (by kernel_rfl) ?_ _
  clear o1
  go_upto_region 19 with (fail)
  by_cases hkN : fa < N
  ·
   have HkN := Lib.hid hkN
   clear hkN
   have o1 : IntKind.i64.wrap ((fa : Int) + 1) = (fa : Int) + 1 := by rw [IntKind.wrap_i64]; omega
   obtain ⟨k120, k121, k122, k123, k124, k125, k126⟩ := (hE.h25).c7
   obtain ⟨k127, k128⟩ := (hE.h24).c2
   go_wp2_with fail
   have hc := HhAnn.out fa (fa + 1) (by omega) (by omega) _ hE.bel
   rw [show ((fa + 1 : Nat) : Int) = (fa : Int) + 1 from rfl, ps_one, if_pos HkN.out] at hc
   refine hE.fr (hc) ?_
   clear hE k120 k121 k122 k123 k124 k125 k126 k127 k128
   intro so0 Ao0 no0 co0 to0 Bo0 mo0 do0 w129 hE
   clear hc
   go_upto_region 20 with (fail)
   obtain ⟨g130, hg130⟩ : ∃ g130, g130 = w129.heap.size := ⟨_, rfl⟩
   have hl130_0 : w.heap.size < g130 := by rw [hg130]; exact (hE.h26).lt
   have hl130_1 : w.heap.size + 1 < g130 := by rw [hg130]; exact (hE.h25).lt
   have hl130_3 : g22 < g130 := by rw [hg130]; exact (hE.h23).lt
   have hl130_5 : g33 < g130 := by rw [hg130]; exact (hE.h21).lt
   have hl130_7 : g44 < g130 := by rw [hg130]; exact (hE.h19).lt
   have hl130_9 : g55 < g130 := by rw [hg130]; exact (hE.h17).lt
   have hl130_11 : g66 < g130 := by rw [hg130]; exact (hE.h15).lt
   have hl130_13 : g77 < g130 := by rw [hg130]; exact (hE.h13).lt
   have hl130_15 : g88 < g130 := by rw [hg130]; exact (hE.h11).lt
   have hl130_17 : g99 < g130 := by rw [hg130]; exact (hE.h9).lt
   have hl130_19 : g110 < g130 := by rw [hg130]; exact (hE.h7).lt
   replace hE := hE.blk 29 #[.bool so0, .slice Ao0 no0 co0, .bool to0, .slice Bo0 mo0 do0] (g := g130) hg130.symm
   generalize w129.alloc (.cells #[.bool so0, .slice Ao0 no0 co0, .bool to0, .slice Bo0 mo0 do0] 29) = W130 at hE ⊢
   rw [← hg130]
   clear hg130
   obtain ⟨k131, k132, k133, k134, k135, k136, k137⟩ := (hE.h27).c7
   obtain ⟨k138, k139⟩ := (hE.h26).c2
   go_wp2_with fail
   have hc := HhEnd.out fa (by omega) _ hE.bel
   rw [if_pos HkN.out] at hc
   refine hE.fr (hc) ?_
   clear hE k131 k132 k133 k134 k135 k136 k137 k138 k139
   intro so1 Ao1 no1 co1 to1 Bo1 mo1 do1 w140 hE
   clear hc
   go_upto_region 21 with (fail)
   obtain ⟨g141, hg141⟩ : ∃ g141, g141 = w140.heap.size := ⟨_, rfl⟩
   have hl141_0 : w.heap.size < g141 := by rw [hg141]; exact (hE.h28).lt
   have hl141_1 : w.heap.size + 1 < g141 := by rw [hg141]; exact (hE.h27).lt
   have hl141_3 : g22 < g141 := by rw [hg141]; exact (hE.h25).lt
   have hl141_5 : g33 < g141 := by rw [hg141]; exact (hE.h23).lt
   have hl141_7 : g44 < g141 := by rw [hg141]; exact (hE.h21).lt
   have hl141_9 : g55 < g141 := by rw [hg141]; exact (hE.h19).lt
   have hl141_11 : g66 < g141 := by rw [hg141]; exact (hE.h17).lt
   have hl141_13 : g77 < g141 := by rw [hg141]; exact (hE.h15).lt
   have hl141_15 : g88 < g141 := by rw [hg141]; exact (hE.h13).lt
   have hl141_17 : g99 < g141 := by rw [hg141]; exact (hE.h11).lt
   have hl141_19 : g110 < g141 := by rw [hg141]; exact (hE.h9).lt
   have hl141_27 : g130 < g141 := by rw [hg141]; exact (hE.here.1.2).lt
   replace hE := hE.blk 29 #[.bool so1, .slice Ao1 no1 co1, .bool to1, .slice Bo1 mo1 do1] (g := g141) hg141.symm
   generalize w140.alloc (.cells #[.bool so1, .slice Ao1 no1 co1, .bool to1, .slice Bo1 mo1 do1] 29) = W141 at hE ⊢
   rw [← hg141]
   clear hg141
   obtain ⟨k142, k143, k144, k145, k146, k147, k148⟩ := (hE.h29).c7
   obtain ⟨k149, k150⟩ := (hE.h28).c2
   go_wp2_with fail
   have hc := HhAss.out ft fa (by omega) (by omega) _ hE.bel
   rw [ps_none (cc v f) (show (fa : Int) ≤ (ft : Int) by omega)] at hc
   refine hE.fr (hc) ?_
   clear hE k142 k143 k144 k145 k146 k147 k148 k149 k150
   intro so2 Ao2 no2 co2 to2 Bo2 mo2 do2 w151 hE
   clear hc
   obtain rfl : no2 = 0 := (FV.nz (hE.here.2)).2 rfl
   go_upto_region 22 with (fail)
   obtain ⟨g152, hg152⟩ : ∃ g152, g152 = w151.heap.size := ⟨_, rfl⟩
   have hl152_0 : w.heap.size < g152 := by rw [hg152]; exact (hE.h30).lt
   have hl152_1 : w.heap.size + 1 < g152 := by rw [hg152]; exact (hE.h29).lt
   have hl152_3 : g22 < g152 := by rw [hg152]; exact (hE.h27).lt
   have hl152_5 : g33 < g152 := by rw [hg152]; exact (hE.h25).lt
   have hl152_7 : g44 < g152 := by rw [hg152]; exact (hE.h23).lt
   have hl152_9 : g55 < g152 := by rw [hg152]; exact (hE.h21).lt
   have hl152_11 : g66 < g152 := by rw [hg152]; exact (hE.h19).lt
   have hl152_13 : g77 < g152 := by rw [hg152]; exact (hE.h17).lt
   have hl152_15 : g88 < g152 := by rw [hg152]; exact (hE.h15).lt
   have hl152_17 : g99 < g152 := by rw [hg152]; exact (hE.h13).lt
   have hl152_19 : g110 < g152 := by rw [hg152]; exact (hE.h11).lt
   have hl152_27 : g130 < g152 := by rw [hg152]; exact (hE.h3).lt
   have hl152_29 : g141 < g152 := by rw [hg152]; exact (hE.here.1.2).lt
   replace hE := hE.blk 29 #[.bool so2, .slice Ao2 0 co2, .bool to2, .slice Bo2 mo2 do2] (g := g152) hg152.symm
   generalize w151.alloc (.cells #[.bool so2, .slice Ao2 0 co2, .bool to2, .slice Bo2 mo2 do2] 29) = W152 at hE ⊢
   rw [← hg152]
   clear hg152
   obtain ⟨k153, k154, k155, k156, k157, k158, k159⟩ := (hE.here.1.1.1.1.1.1.1.1.1.1.1.1.1.1.1.1.1.1.1.1.1.1.1.1.1.1.1.1.1.1.1.2).c7
   obtain ⟨k160, k161⟩ := (hE.h30).c2
   go_wp2_with fail
   have hc := HhAss.out fa (fa + 1) (by omega) (by omega) _ hE.bel
   rw [show ((fa + 1 : Nat) : Int) = (fa : Int) + 1 from rfl, ps_one, if_pos HkN.out] at hc
   refine hE.fr (hc) ?_
   clear hE k153 k154 k155 k156 k157 k158 k159 k160 k161
   intro so3 Ao3 no3 co3 to3 Bo3 mo3 do3 w162 hE
   clear hc
   go_upto_region 23 with (fail)
   obtain ⟨g163, hg163⟩ : ∃ g163, g163 = w162.heap.size := ⟨_, rfl⟩
   have hl163_0 : w.heap.size < g163 := by rw [hg163]; exact (hE.here.1.1.1.1.1.1.1.1.1.1.1.1.1.1.1.1.1.1.1.1.1.1.1.1.1.1.1.1.1.1.1.1.2).lt
   have hl163_1 : w.heap.size + 1 < g163 := by rw [hg163]; exact (hE.here.1.1.1.1.1.1.1.1.1.1.1.1.1.1.1.1.1.1.1.1.1.1.1.1.1.1.1.1.1.1.1.2).lt
   have hl163_3 : g22 < g163 := by rw [hg163]; exact (hE.h29).lt
   have hl163_5 : g33 < g163 := by rw [hg163]; exact (hE.h27).lt
   have hl163_7 : g44 < g163 := by rw [hg163]; exact (hE.h25).lt
   have hl163_9 : g55 < g163 := by rw [hg163]; exact (hE.h23).lt
   have hl163_11 : g66 < g163 := by rw [hg163]; exact (hE.h21).lt
   have hl163_13 : g77 < g163 := by rw [hg163]; exact (hE.h19).lt
   have hl163_15 : g88 < g163 := by rw [hg163]; exact (hE.h17).lt
   have hl163_17 : g99 < g163 := by rw [hg163]; exact (hE.h15).lt
   have hl163_19 : g110 < g163 := by rw [hg163]; exact (hE.h13).lt
   have hl163_27 : g130 < g163 := by rw [hg163]; exact (hE.h5).lt
   have hl163_29 : g141 < g163 := by rw [hg163]; exact (hE.h3).lt
   have hl163_31 : g152 < g163 := by rw [hg163]; exact (hE.here.1.2).lt
   replace hE := hE.blk 29 #[.bool so3, .slice Ao3 no3 co3, .bool to3, .slice Bo3 mo3 do3] (g := g163) hg163.symm
   generalize w162.alloc (.cells #[.bool so3, .slice Ao3 no3 co3, .bool to3, .slice Bo3 mo3 do3] 29) = W163 at hE ⊢
   rw [← hg163]
   clear hg163
   clear o1
   obtain ⟨k164, k165, k166, k167, k168, k169, k170⟩ := (hE.here.1.1.1.1.1.1.1.1.1.1.1.1.1.1.1.1.1.1.1.1.1.1.1.1.1.1.1.1.1.1.1.1.1.2).c7
   obtain ⟨k171, k172⟩ := (hE.here.1.1.1.1.1.1.1.1.1.1.1.1.1.1.1.1.1.1.1.1.1.1.1.1.1.1.1.1.1.1.1.1.2).c2
   go_wp2_with fail
   refine (HhCol.out _ hE.bel).mono ?_
   clear k164 k165 k166 k167 k168 k169 k170 k171 k172
   rintro e wc ⟨cv, h, rfl, hcv, hcq, hb1⟩
   replace hE := hE.step hb1
   rcases hcv with ⟨-, h0⟩ | ⟨g, cap, rfl, -, hCB⟩
   · omega
   clear hb1
   replace hE := (hE.colp hCB).colq hcq
   clear hCB hcq
   obtain ⟨k173, k174, k175, k176⟩ := (hE.h8).c4
   obtain ⟨k177, k178, k179, k180⟩ := (hE.h6).c4
   go_wp2_with fail
   refine hE.br (cw_equal (v := true) (ca := co0) (da := do0) (cb := co1) (db := do1) (hE.h9) (hE.h7) ((by have := (dd_ql Hhdis.out Hhrf.out (Nat.le_of_lt HkN.out)).l (by decide) (by decide) (by omega); exact this)) ((by have := (dd_ql Hhdis.out Hhrf.out (Nat.le_of_lt HkN.out)).l (by decide) (by decide) (by omega); exact this)) (decide_eq_true (rfl))) ?_
   clear hE k173 k174 k175 k176 k177 k178 k179 k180
   intro w181 hE
   obtain ⟨k182, k183, k184, k185⟩ := (hE.h4).c4
   go_wp2_with fail
   refine hE.br (fvalid_v0 (c := co2) (d := do2) (hE.h5) (by rw [fl_le]; decide)) ?_
   clear hE k182 k183 k184 k185
   intro w186 hE
   have t3 : decide ((N : Int) ≤ (fa : Int)) = false := decide_eq_false (by have := HkN.out; omega)
   have t4 : ¬ (N : Int) ≤ (fa : Int) := by have := HkN.out; omega
   have t5 : (fa : Int) < (N : Int) := by have := HkN.out; omega
   go_upto_region 28 with (fail)
   replace hE := hE.fv (show FV w186 (dd v f fa) (h fa 0).s (h fa 0).A (h fa 0).n (h fa 0).t (h fa 0).B (h fa 0).m from (hE.here.2) fa HkN.out 0 (by decide) trivial)
   replace hE := hE.atI (b := g) (o := fa * 24) (v := .bool (h fa 0).s) ⟨ColP.lt hE.h2, ColB.at2 (o := fa * 24) (j := 0) (i := 0) (hE.h2) HkN.out (by decide) (by decide) (by omega) rfl⟩
   replace hE := hE.atI (b := g) (o := fa * 24 + 1) (v := .slice (h fa 0).A (h fa 0).n (h fa 0).c) ⟨ColP.lt hE.h3, ColB.at2 (o := fa * 24 + 1) (j := 0) (i := 1) (hE.h3) HkN.out (by decide) (by decide) (by omega) rfl⟩
   replace hE := hE.atI (b := g) (o := fa * 24 + 2) (v := .bool (h fa 0).t) ⟨ColP.lt hE.h4, ColB.at2 (o := fa * 24 + 2) (j := 0) (i := 2) (hE.h4) HkN.out (by decide) (by decide) (by omega) rfl⟩
   replace hE := hE.atI (b := g) (o := fa * 24 + 3) (v := .slice (h fa 0).B (h fa 0).m (h fa 0).d) ⟨ColP.lt hE.h5, ColB.at2 (o := fa * 24 + 3) (j := 0) (i := 3) (hE.h5) HkN.out (by decide) (by decide) (by omega) rfl⟩
   replace hE := hE.fv (show FV w186 (cc v f fa) (h fa 3).s (h fa 3).A (h fa 3).n (h fa 3).t (h fa 3).B (h fa 3).m from (hE.h5) fa HkN.out 3 (by decide) trivial)
   replace hE := hE.atI (b := g) (o := fa * 24 + 12) (v := .bool (h fa 3).s) ⟨ColP.lt hE.h7, ColB.at2 (o := fa * 24 + 12) (j := 3) (i := 0) (hE.h7) HkN.out (by decide) (by decide) (by omega) rfl⟩
   replace hE := hE.atI (b := g) (o := fa * 24 + 13) (v := .slice (h fa 3).A (h fa 3).n (h fa 3).c) ⟨ColP.lt hE.h8, ColB.at2 (o := fa * 24 + 13) (j := 3) (i := 1) (hE.h8) HkN.out (by decide) (by decide) (by omega) rfl⟩
   replace hE := hE.atI (b := g) (o := fa * 24 + 12 + 1) (v := .slice (h fa 3).A (h fa 3).n (h fa 3).c) ⟨ColP.lt hE.h9, ColB.at2 (o := fa * 24 + 12 + 1) (j := 3) (i := 1) (hE.h9) HkN.out (by decide) (by decide) (by omega) rfl⟩
   replace hE := hE.atI (b := g) (o := fa * 24 + 14) (v := .bool (h fa 3).t) ⟨ColP.lt hE.h10, ColB.at2 (o := fa * 24 + 14) (j := 3) (i := 2) (hE.h10) HkN.out (by decide) (by decide) (by omega) rfl⟩
   replace hE := hE.atI (b := g) (o := fa * 24 + 12 + 2) (v := .bool (h fa 3).t) ⟨ColP.lt hE.h11, ColB.at2 (o := fa * 24 + 12 + 2) (j := 3) (i := 2) (hE.h11) HkN.out (by decide) (by decide) (by omega) rfl⟩
   replace hE := hE.atI (b := g) (o := fa * 24 + 15) (v := .slice (h fa 3).B (h fa 3).m (h fa 3).d) ⟨ColP.lt hE.h12, ColB.at2 (o := fa * 24 + 15) (j := 3) (i := 3) (hE.h12) HkN.out (by decide) (by decide) (by omega) rfl⟩
   replace hE := hE.atI (b := g) (o := fa * 24 + 12 + 3) (v := .slice (h fa 3).B (h fa 3).m (h fa 3).d) ⟨ColP.lt hE.h13, ColB.at2 (o := fa * 24 + 12 + 3) (j := 3) (i := 3) (hE.h13) HkN.out (by decide) (by decide) (by omega) rfl⟩
   replace hE := hE.drew
   refine wp_region_held_drew (S := fun w' => w'.cell? ⟨g141, 0, none⟩ = some (.bool so1) ∧ w'.cell? ⟨g141, 1, none⟩ = some (.slice Ao1 no1 co1) ∧ w'.cell? ⟨g141, 2, none⟩ = some (.bool to1) ∧ w'.cell? ⟨g141, 3, none⟩ = some (.slice Bo1 mo1 do1) ∧ w'.cell? ⟨g163, 0, none⟩ = some (.bool so3) ∧ w'.cell? ⟨g163, 1, none⟩ = some (.slice Ao3 no3 co3) ∧ w'.cell? ⟨g163, 2, none⟩ = some (.bool to3) ∧ w'.cell? ⟨g163, 3, none⟩ = some (.slice Bo3 mo3 do3) ∧ w'.cell? ⟨g, fa * 24, none⟩ = some (.bool (h fa 0).s) ∧ w'.cell? ⟨g, fa * 24 + 1, none⟩ = some (.slice (h fa 0).A (h fa 0).n (h fa 0).c) ∧ w'.cell? ⟨g, fa * 24 + 2, none⟩ = some (.bool (h fa 0).t) ∧ w'.cell? ⟨g, fa * 24 + 3, none⟩ = some (.slice (h fa 0).B (h fa 0).m (h fa 0).d) ∧ w'.cell? ⟨g, fa * 24 + 12, none⟩ = some (.bool (h fa 3).s) ∧ w'.cell? ⟨g, fa * 24 + 13, none⟩ = some (.slice (h fa 3).A (h fa 3).n (h fa 3).c) ∧ w'.cell? ⟨g, fa * 24 + 12 + 1, none⟩ = some (.slice (h fa 3).A (h fa 3).n (h fa 3).c) ∧ w'.cell? ⟨g, fa * 24 + 14, none⟩ = some (.bool (h fa 3).t) ∧ w'.cell? ⟨g, fa * 24 + 12 + 2, none⟩ = some (.bool (h fa 3).t) ∧ w'.cell? ⟨g, fa * 24 + 15, none⟩ = some (.slice (h fa 3).B (h fa 3).m (h fa 3).d) ∧ w'.cell? ⟨g, fa * 24 + 12 + 3, none⟩ = some (.slice (h fa 3).B (h fa 3).m (h fa 3).d)) (by kernel_rfl) (hE.h19.j4 (hE.h15.j4 (⟨(hE.h11).2, ⟨(hE.h10).2, ⟨(hE.h9).2, ⟨(hE.h8).2, ⟨(hE.h6).2, ⟨(hE.h5).2, ⟨(hE.h4).2, ⟨(hE.h3).2, ⟨(hE.h2).2, ⟨(hE.here.1.2).2, (hE.here.2).2⟩⟩⟩⟩⟩⟩⟩⟩⟩⟩))) (fun hHeld => ?_)
   refine tk 0 ?_
   try simp only [PL]
   refine tk 1 ?_
   try simp only [PL]
   refine tk 2 ?_
   try simp only [PL]
   refine tk 3 ?_
   try simp only [PL]
   refine tk 4 ?_
   try simp only [PL]
   refine tk 5 ?_
   try simp only [PL]
   refine r1 6 (fun K hK => ?_)
   go_simp
   refine hE.br (cw_equal (v := true) (ca := co1) (da := do1) (cb := (h fa 0).c) (db := (h fa 0).d) (hE.h20) (hE.h12) ((by have := (dd_ql Hhdis.out Hhrf.out (Nat.le_of_lt HkN.out)).l (by decide) (by decide) (by omega); exact this)) ((by have := (dd_ql Hhdis.out Hhrf.out (Nat.le_of_lt HkN.out)).l (by decide) (by decide) (by omega); exact this)) (decide_eq_true (rfl))) ?_
   clear hE
   intro w187 hE
   go_wp2_with fail
   refine hK.out _ _ (hE.h19.j4 (hE.h15.j4 (⟨(hE.h11).2, ⟨(hE.h10).2, ⟨(hE.h9).2, ⟨(hE.h8).2, ⟨(hE.h6).2, ⟨(hE.h5).2, ⟨(hE.h4).2, ⟨(hE.h3).2, ⟨(hE.h2).2, ⟨(hE.here.1.2).2, (hE.here.2).2⟩⟩⟩⟩⟩⟩⟩⟩⟩⟩))) (fun hHeld => ?_)
   clear hK K
   try simp only [PL]
   refine tk 7 ?_
   try simp only [PL]
   refine tk 8 ?_
   try simp only [PL]
   refine tk 9 ?_
   try simp only [PL]
   refine tk 10 ?_
   try simp only [PL]
   refine tk 11 ?_
   try simp only [PL]
   refine tk 12 ?_
   try simp only [PL]
   refine tk 13 ?_
   try simp only [PL]
   refine r1 14 (fun K hK => ?_)
   go_simp
   refine hE.br (cw_equal (v := true) (ca := co3) (da := do3) (cb := (h fa 3).c) (db := (h fa 3).d) (hE.h16) (hE.h7) ((by have := (cc_ql Hhdis.out Hhrf.out HkN.out).l (by decide) (by decide) (by omega); exact this)) ((by have := (cc_ql Hhdis.out Hhrf.out HkN.out).l (by decide) (by decide) (by omega); exact this)) (decide_eq_true (rfl))) ?_
   clear hE
   intro w188 hE
   go_wp2_with fail
   refine hK.out _ _ (hE.h19.j4 (hE.h15.j4 (⟨(hE.h11).2, ⟨(hE.h10).2, ⟨(hE.h9).2, ⟨(hE.h8).2, ⟨(hE.h6).2, ⟨(hE.h5).2, ⟨(hE.h4).2, ⟨(hE.h3).2, ⟨(hE.h2).2, ⟨(hE.here.1.2).2, (hE.here.2).2⟩⟩⟩⟩⟩⟩⟩⟩⟩⟩))) (fun hHeld => ?_)
   clear hK K
   try simp only [PL]
   refine tk 15 ?_
   try simp only [PL]
   refine tk 16 ?_
   try simp only [PL]
   refine wpAnyH_done (by kernel_rfl) ?_ _
   go_wp2_with fail
   go_ret
   exact ⟨rfl, hE.bel⟩
  ·
   have HkN := Lib.hid hkN
   clear hkN
   have o1 : IntKind.i64.wrap ((fa : Int) + 1) = (fa : Int) + 1 := by rw [IntKind.wrap_i64]; omega
   obtain ⟨k189, k190, k191, k192, k193, k194, k195⟩ := (hE.h25).c7
   obtain ⟨k196, k197⟩ := (hE.h24).c2
   go_wp2_with fail
   have hc := HhAnn.out fa (fa + 1) (by omega) (by omega) _ hE.bel
   rw [show ((fa + 1 : Nat) : Int) = (fa : Int) + 1 from rfl, ps_one, if_neg HkN.out] at hc
   refine hE.fr (hc) ?_
   clear hE k189 k190 k191 k192 k193 k194 k195 k196 k197
   intro so0 Ao0 no0 co0 to0 Bo0 mo0 do0 w198 hE
   clear hc
   go_upto_region 20 with (fail)
   obtain ⟨g199, hg199⟩ : ∃ g199, g199 = w198.heap.size := ⟨_, rfl⟩
   have hl199_0 : w.heap.size < g199 := by rw [hg199]; exact (hE.h26).lt
   have hl199_1 : w.heap.size + 1 < g199 := by rw [hg199]; exact (hE.h25).lt
   have hl199_3 : g22 < g199 := by rw [hg199]; exact (hE.h23).lt
   have hl199_5 : g33 < g199 := by rw [hg199]; exact (hE.h21).lt
   have hl199_7 : g44 < g199 := by rw [hg199]; exact (hE.h19).lt
   have hl199_9 : g55 < g199 := by rw [hg199]; exact (hE.h17).lt
   have hl199_11 : g66 < g199 := by rw [hg199]; exact (hE.h15).lt
   have hl199_13 : g77 < g199 := by rw [hg199]; exact (hE.h13).lt
   have hl199_15 : g88 < g199 := by rw [hg199]; exact (hE.h11).lt
   have hl199_17 : g99 < g199 := by rw [hg199]; exact (hE.h9).lt
   have hl199_19 : g110 < g199 := by rw [hg199]; exact (hE.h7).lt
   replace hE := hE.blk 29 #[.bool so0, .slice Ao0 no0 co0, .bool to0, .slice Bo0 mo0 do0] (g := g199) hg199.symm
   generalize w198.alloc (.cells #[.bool so0, .slice Ao0 no0 co0, .bool to0, .slice Bo0 mo0 do0] 29) = W199 at hE ⊢
   rw [← hg199]
   clear hg199
   obtain ⟨k200, k201, k202, k203, k204, k205, k206⟩ := (hE.h27).c7
   obtain ⟨k207, k208⟩ := (hE.h26).c2
   go_wp2_with fail
   have hc := HhEnd.out fa (by omega) _ hE.bel
   rw [if_neg HkN.out] at hc
   refine hE.fr (hc) ?_
   clear hE k200 k201 k202 k203 k204 k205 k206 k207 k208
   intro so1 Ao1 no1 co1 to1 Bo1 mo1 do1 w209 hE
   clear hc
   obtain rfl : no1 = 0 := (FV.nz (hE.here.2)).2 rfl
   go_upto_region 21 with (fail)
   obtain ⟨g210, hg210⟩ : ∃ g210, g210 = w209.heap.size := ⟨_, rfl⟩
   have hl210_0 : w.heap.size < g210 := by rw [hg210]; exact (hE.h28).lt
   have hl210_1 : w.heap.size + 1 < g210 := by rw [hg210]; exact (hE.h27).lt
   have hl210_3 : g22 < g210 := by rw [hg210]; exact (hE.h25).lt
   have hl210_5 : g33 < g210 := by rw [hg210]; exact (hE.h23).lt
   have hl210_7 : g44 < g210 := by rw [hg210]; exact (hE.h21).lt
   have hl210_9 : g55 < g210 := by rw [hg210]; exact (hE.h19).lt
   have hl210_11 : g66 < g210 := by rw [hg210]; exact (hE.h17).lt
   have hl210_13 : g77 < g210 := by rw [hg210]; exact (hE.h15).lt
   have hl210_15 : g88 < g210 := by rw [hg210]; exact (hE.h13).lt
   have hl210_17 : g99 < g210 := by rw [hg210]; exact (hE.h11).lt
   have hl210_19 : g110 < g210 := by rw [hg210]; exact (hE.h9).lt
   have hl210_27 : g199 < g210 := by rw [hg210]; exact (hE.here.1.2).lt
   replace hE := hE.blk 29 #[.bool so1, .slice Ao1 0 co1, .bool to1, .slice Bo1 mo1 do1] (g := g210) hg210.symm
   generalize w209.alloc (.cells #[.bool so1, .slice Ao1 0 co1, .bool to1, .slice Bo1 mo1 do1] 29) = W210 at hE ⊢
   rw [← hg210]
   clear hg210
   obtain ⟨k211, k212, k213, k214, k215, k216, k217⟩ := (hE.h29).c7
   obtain ⟨k218, k219⟩ := (hE.h28).c2
   go_wp2_with fail
   have hc := HhAss.out ft fa (by omega) (by omega) _ hE.bel
   rw [ps_none (cc v f) (show (fa : Int) ≤ (ft : Int) by omega)] at hc
   refine hE.fr (hc) ?_
   clear hE k211 k212 k213 k214 k215 k216 k217 k218 k219
   intro so2 Ao2 no2 co2 to2 Bo2 mo2 do2 w220 hE
   clear hc
   obtain rfl : no2 = 0 := (FV.nz (hE.here.2)).2 rfl
   go_upto_region 22 with (fail)
   obtain ⟨g221, hg221⟩ : ∃ g221, g221 = w220.heap.size := ⟨_, rfl⟩
   have hl221_0 : w.heap.size < g221 := by rw [hg221]; exact (hE.h30).lt
   have hl221_1 : w.heap.size + 1 < g221 := by rw [hg221]; exact (hE.h29).lt
   have hl221_3 : g22 < g221 := by rw [hg221]; exact (hE.h27).lt
   have hl221_5 : g33 < g221 := by rw [hg221]; exact (hE.h25).lt
   have hl221_7 : g44 < g221 := by rw [hg221]; exact (hE.h23).lt
   have hl221_9 : g55 < g221 := by rw [hg221]; exact (hE.h21).lt
   have hl221_11 : g66 < g221 := by rw [hg221]; exact (hE.h19).lt
   have hl221_13 : g77 < g221 := by rw [hg221]; exact (hE.h17).lt
   have hl221_15 : g88 < g221 := by rw [hg221]; exact (hE.h15).lt
   have hl221_17 : g99 < g221 := by rw [hg221]; exact (hE.h13).lt
   have hl221_19 : g110 < g221 := by rw [hg221]; exact (hE.h11).lt
   have hl221_27 : g199 < g221 := by rw [hg221]; exact (hE.h3).lt
   have hl221_29 : g210 < g221 := by rw [hg221]; exact (hE.here.1.2).lt
   replace hE := hE.blk 29 #[.bool so2, .slice Ao2 0 co2, .bool to2, .slice Bo2 mo2 do2] (g := g221) hg221.symm
   generalize w220.alloc (.cells #[.bool so2, .slice Ao2 0 co2, .bool to2, .slice Bo2 mo2 do2] 29) = W221 at hE ⊢
   rw [← hg221]
   clear hg221
   obtain ⟨k222, k223, k224, k225, k226, k227, k228⟩ := (hE.here.1.1.1.1.1.1.1.1.1.1.1.1.1.1.1.1.1.1.1.1.1.1.1.1.1.1.1.1.1.1.1.2).c7
   obtain ⟨k229, k230⟩ := (hE.h30).c2
   go_wp2_with fail
   have hc := HhAss.out fa (fa + 1) (by omega) (by omega) _ hE.bel
   rw [show ((fa + 1 : Nat) : Int) = (fa : Int) + 1 from rfl, ps_one, if_neg HkN.out] at hc
   refine hE.fr (hc) ?_
   clear hE k222 k223 k224 k225 k226 k227 k228 k229 k230
   intro so3 Ao3 no3 co3 to3 Bo3 mo3 do3 w231 hE
   clear hc
   obtain rfl : no3 = 0 := (FV.nz (hE.here.2)).2 rfl
   go_upto_region 23 with (fail)
   obtain ⟨g232, hg232⟩ : ∃ g232, g232 = w231.heap.size := ⟨_, rfl⟩
   have hl232_0 : w.heap.size < g232 := by rw [hg232]; exact (hE.here.1.1.1.1.1.1.1.1.1.1.1.1.1.1.1.1.1.1.1.1.1.1.1.1.1.1.1.1.1.1.1.1.2).lt
   have hl232_1 : w.heap.size + 1 < g232 := by rw [hg232]; exact (hE.here.1.1.1.1.1.1.1.1.1.1.1.1.1.1.1.1.1.1.1.1.1.1.1.1.1.1.1.1.1.1.1.2).lt
   have hl232_3 : g22 < g232 := by rw [hg232]; exact (hE.h29).lt
   have hl232_5 : g33 < g232 := by rw [hg232]; exact (hE.h27).lt
   have hl232_7 : g44 < g232 := by rw [hg232]; exact (hE.h25).lt
   have hl232_9 : g55 < g232 := by rw [hg232]; exact (hE.h23).lt
   have hl232_11 : g66 < g232 := by rw [hg232]; exact (hE.h21).lt
   have hl232_13 : g77 < g232 := by rw [hg232]; exact (hE.h19).lt
   have hl232_15 : g88 < g232 := by rw [hg232]; exact (hE.h17).lt
   have hl232_17 : g99 < g232 := by rw [hg232]; exact (hE.h15).lt
   have hl232_19 : g110 < g232 := by rw [hg232]; exact (hE.h13).lt
   have hl232_27 : g199 < g232 := by rw [hg232]; exact (hE.h5).lt
   have hl232_29 : g210 < g232 := by rw [hg232]; exact (hE.h3).lt
   have hl232_31 : g221 < g232 := by rw [hg232]; exact (hE.here.1.2).lt
   replace hE := hE.blk 29 #[.bool so3, .slice Ao3 0 co3, .bool to3, .slice Bo3 mo3 do3] (g := g232) hg232.symm
   generalize w231.alloc (.cells #[.bool so3, .slice Ao3 0 co3, .bool to3, .slice Bo3 mo3 do3] 29) = W232 at hE ⊢
   rw [← hg232]
   clear hg232
   clear o1
   obtain ⟨k233, k234, k235, k236, k237, k238, k239⟩ := (hE.here.1.1.1.1.1.1.1.1.1.1.1.1.1.1.1.1.1.1.1.1.1.1.1.1.1.1.1.1.1.1.1.1.1.2).c7
   obtain ⟨k240, k241⟩ := (hE.here.1.1.1.1.1.1.1.1.1.1.1.1.1.1.1.1.1.1.1.1.1.1.1.1.1.1.1.1.1.1.1.1.2).c2
   go_wp2_with fail
   refine (HhCol.out _ hE.bel).mono ?_
   clear k233 k234 k235 k236 k237 k238 k239 k240 k241
   rintro e wc ⟨cv, h, rfl, hcv, hcq, hb1⟩
   replace hE := hE.step hb1
   rcases hcv with ⟨-, h0⟩ | ⟨g, cap, rfl, -, hCB⟩
   · omega
   clear hb1
   replace hE := (hE.colp hCB).colq hcq
   clear hCB hcq
   obtain ⟨k242, k243, k244, k245⟩ := (hE.h8).c4
   obtain ⟨k246, k247, k248, k249⟩ := (hE.h6).c4
   go_wp2_with fail
   refine hE.br (cw_equal (v := true) (ca := co0) (da := do0) (cb := co1) (db := do1) (hE.h9) (hE.h7) ((by rw [fl_le]; decide)) ((by rw [fl_le]; decide)) (decide_eq_true (rfl))) ?_
   clear hE k242 k243 k244 k245 k246 k247 k248 k249
   intro w250 hE
   obtain ⟨k251, k252, k253, k254⟩ := (hE.h4).c4
   go_wp2_with fail
   refine hE.br (fvalid_v0 (c := co2) (d := do2) (hE.h5) (by rw [fl_le]; decide)) ?_
   clear hE k251 k252 k253 k254
   intro w255 hE
   have t3 : decide ((N : Int) ≤ (fa : Int)) = true := decide_eq_true (by have := HkN.out; omega)
   have t4 : (N : Int) ≤ (fa : Int) := by have := HkN.out; omega
   obtain ⟨k256, k257, k258, k259⟩ := (hE.h6).c4
   obtain ⟨k260, k261, k262, k263⟩ := (hE.h2).c4
   go_wp2_with fail
   go_ret
   exact ⟨rfl, hE.bel⟩
 ·
  have HhT := Lib.hid hT
  clear hT
  have Hhr := Lib.hid hr
  clear hr
  have HhU := Lib.hid hU
  clear hU
  have hE := ((Env.start w).blk 31 #[.int .i64 F, .int .i64 S, .slice A n c, .bool si, .slice Ai ni ci, .bool ti, .slice Bi mi di] (g := w.heap.size) rfl).blk 33 #[.int .i64 E, .int .i64 Y] (g := w.heap.size + 1) (by simp)
  obtain ⟨W0, hW0⟩ : ∃ W0, W0 = ((w.alloc (.cells #[.int .i64 F, .int .i64 S, .slice A n c, .bool si, .slice Ai ni ci, .bool ti, .slice Bi mi di] 31)).alloc (.cells #[.int .i64 E, .int .i64 Y] 33)) := ⟨_, rfl⟩
  rw [← hW0] at hE
  have HW0 := Lib.hid hW0
  clear hW0
  go_enter Tryz.func7, Tryz.ntmps7
  go_upto_region 1 with (fail)
  rw [← HW0.out]
  go_wp2_with fail
  refine hE.br (awakeB_t _) ?_
  clear hE
  intro w1 hE
  obtain ⟨k2, k3, k4, k5, k6, k7, k8⟩ := (hE.here.1.2).c7
  obtain ⟨k9, k10⟩ := (hE.here.2).c2
  go_wp2_with fail
  refine hE.br (usableB_f (HhT.out.below hE.bel) (Hhr.out.below hE.bel) HhU.out) ?_
  clear hE k2 k3 k4 k5 k6 k7 k8 k9 k10
  intro w11 hE
  go_wp2_with fail
  go_ret
  exact ⟨rfl, hE.bel⟩
end Go.Proofs.YtmjlankpihnicaaGreat
