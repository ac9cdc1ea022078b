/-
  The walk of FracNearest.
-/
import Derived.Test.YtifikcemcflgjaaGreatK1
import Derived.Test.YtifikcemcflgjaaGreatGN
import Derived.Test.YtifikcemcflgjaaGreatG4
import Derived.Test.YtifikcemcflgjaaGreatGA
namespace Go.Proofs.YtifikcemcflgjaaGreat
open Go.RowKit

theorem near_z0 : fl ((0 : Int) : Rat) ≤ 1 := by rw [fl_le]; exact ⟨by decide, by decide⟩
theorem num_ne2 {b : Rat} (h : b.num ≠ 0) : b ≠ 0 := fun e => h (by rw [e]; rfl)
set_option linter.unusedSimpArgs false in
set_option maxRecDepth 100000 in
set_option maxHeartbeats 16000000 in
theorem fnearest_walk {sa ta sb tb : Bool} {Aa Ba Ab Bb : Option Addr} {na ca ma da nb cb mb db : Nat} {fa ga fb gb : Nat → Nat} {k0 : Int} {w : World} (hlt : 0 < w.heap.size) (hm : w.cell? ⟨0, 0, none⟩ = some (.int .i64 k0)) (ra : FRd w Aa na fa Ba ma ga) (rb : FRd w Ab nb fb Bb mb gb) (z2 : Int) (l2 : 0 ≤ z2) (u2 : z2 ≤ 255) :
    Calls Tryz.prog 7 #[.agg #[.bool sa, .slice Aa na ca, .bool ta, .slice Ba ma da], .agg #[.bool sb, .slice Ab nb cb, .bool tb, .slice Bb mb db], .int .u8 z2] w (fun e w' => e = .returned (.bool true) ∧ Below w.heap.size w w') := by
  obtain ⟨md, hmd⟩ : ∃ k : Nat, z2 = (k : Int) := ⟨z2.toNat, by omega⟩
  subst hmd
  obtain ⟨m, hm9⟩ : ∃ k : Nat, k = 1 + md % 6 := ⟨_, rfl⟩
  have m1 : 1 ≤ m := by omega
  have m6 : m ≤ 6 := by omega
  have hkey : 1 + ((md : Nat) : Int) % 6 = ((m : Nat) : Int) := by omega
  have Hhm9 := Lib.hid hm9
  clear hm9
  have Hhkey := Lib.hid hkey
  clear hkey
  have hE := (((((Env.start w).at_ hlt hm).frd ra).frd rb).blk 26 #[.bool sa, .slice Aa na ca, .bool ta, .slice Ba ma da] (g := w.heap.size) rfl).blk 26 #[.bool sb, .slice Ab nb cb, .bool tb, .slice Bb mb db] (g := w.heap.size + 1) (by simp)
  obtain ⟨W0, hW0⟩ : ∃ W0, W0 = ((w.alloc (.cells #[.bool sa, .slice Aa na ca, .bool ta, .slice Ba ma da] 26)).alloc (.cells #[.bool sb, .slice Ab nb cb, .bool tb, .slice Bb mb db] 26)) := ⟨_, rfl⟩
  rw [← hW0] at hE
  have HW0 := Lib.hid hW0
  clear hW0
  go_enter Tryz.func7, Tryz.ntmps7
  go_upto_region 1 with (fail)
  rw [← HW0.out]
  go_wp2_with fail
  refine (awake2_t _ (hE.here.1.1.1.1.2).2 (hE.here.1.1.1.1.2).1).mono ?_
  rintro e w1 ⟨rfl, hb⟩
  replace hE := hE.step hb
  clear hb
  go_wp2_with fail
  refine (ffromInt_v 0 _ (by decide) (by decide)).mono ?_
  rintro e w2 ⟨sz, Az, nz, cz, tz, Bz, mz, dz, rfl, hz, hb⟩
  replace hE := hE.step hb
  clear hb
  replace hE := hE.fv hz
  clear hz
  go_upto_region 4 with (fail)
  obtain ⟨g3, hg3⟩ : ∃ g3, g3 = w2.heap.size := ⟨_, rfl⟩
  have hl3_3 : w.heap.size < g3 := by rw [hg3]; exact (hE.here.1.1.2).lt
  have hl3_4 : w.heap.size + 1 < g3 := by rw [hg3]; exact (hE.here.1.2).lt
  replace hE := hE.blk 26 #[.bool sz, .slice Az nz cz, .bool tz, .slice Bz mz dz] (g := g3) hg3.symm
  generalize w2.alloc (.cells #[.bool sz, .slice Az nz cz, .bool tz, .slice Bz mz dz] 26) = W3 at hE ⊢
  rw [← hg3]
  clear hg3
  obtain ⟨k4, k5, k6, k7⟩ := (hE.here.1.1.1.2).c4
  obtain ⟨k8, k9, k10, k11⟩ := (hE.here.1.1.2).c4
  go_wp2_with fail
  refine (usable2 ⟨sa, Aa, na, ca, fa, ta, Ba, ma, da, ga⟩ ⟨sb, Ab, nb, cb, fb, tb, Bb, mb, db, gb⟩ _ (hE.here.1.1.1.1.1.2) (hE.here.1.1.1.1.2)).mono ?_
  clear k4 k5 k6 k7 k8 k9 k10 k11
  rintro e w12 ⟨v, rfl, hv, hb⟩
  replace hE := hE.step hb
  clear hb
  cases v with
  | false =>
    clear hv
    go_wp2_with fail
    go_ret
    exact ⟨rfl, hE.bel⟩
  | true =>
    obtain ⟨ua, ub⟩ := hv rfl
    clear hv
    obtain ⟨a, ha, la⟩ := us_fv ua (hE.here.1.1.1.1.1.2)
    obtain ⟨b, hb, lb⟩ := us_fv ub (hE.here.1.1.1.1.2)
    replace hE := ((hE.fv ha).fv hb)
    clear ha hb ua ub
    replace hE := (((((((Env.again hE.bel).blkI hE.here.1.1.1.1.1.2).blkI hE.here.1.1.1.1.2).fv hE.here.1.1.1.2).blkI hE.here.1.1.2).fv hE.here.1.2).fv hE.here.2)
    obtain ⟨k13, k14, k15, k16⟩ := (hE.here.1.1.1.1.2).c4
    obtain ⟨k17, k18, k19, k20⟩ := (hE.here.1.1.2).c4
    go_wp2_with fail
    have hc := fcmp_v (ca := cb) (da := db) (cb := cz) (db := dz) (hE.here.2) (hE.here.1.1.1.2) (fl_le2 lb (by decide)) (fl_le2 near_z0 (by decide))
    by_cases hb1 : cmpQ b ((0 : Int) : Rat) = 1
    rotate_left
    · have u1 : (cmpQ b ((0 : Int) : Rat) != 1) = true := bne_iff_ne.2 hb1
      have u2 : (cmpQ b ((0 : Int) : Rat) == 1) = false := by simp only [bne, Bool.not_eq_true'] at u1; exact u1
      generalize cmpQ b ((0 : Int) : Rat) = x at *
      refine (hc).mono ?_
      clear k13 k14 k15 k16 k17 k18 k19 k20
      rintro e w21 ⟨rfl, hb⟩
      replace hE := hE.step hb
      clear hb
      clear hc
      go_wp2_with fail
      go_ret
      exact ⟨rfl, hE.bel⟩
    rw [hb1] at hc
    refine (hc).mono ?_
    clear k13 k14 k15 k16 k17 k18 k19 k20
    rintro e w22 ⟨rfl, hb⟩
    replace hE := hE.step hb
    clear hb
    clear hc
    have hb0 := cmpQ_one hb1
    clear hb1
    have hbn : b.num ≠ 0 := by omega
    have hbq : b ≠ 0 := num_ne2 hbn
    have lrd : fl (((roundZ m a b : Int) : Rat) * b) ≤ 122 := round_fl la lb (by decide)
    have lkz : fl ((roundZ m a b : Int) : Rat) ≤ 82 := fl_intz (round_ln la lb (by decide)) (by decide)
    have ld : fl (dQ m a b) ≤ 163 := fl_minus lrd la
    have Hhbn := Lib.hid hbn
    clear hbn
    have Hhbq := Lib.hid hbq
    clear hbq
    have Hhb0 := Lib.hid hb0
    clear hb0
    obtain ⟨sd1, sd2, sd3, sd4⟩ := near_side (a := a) Hhb0.out m1 m6
    have Hsd1 := Lib.hid sd1
    clear sd1
    have Hsd2 := Lib.hid sd2
    clear sd2
    have Hsd3 := Lib.hid sd3
    clear sd3
    have Hsd4 := Lib.hid sd4
    clear sd4
    go_upto_region 7 with (fail)
    rw [Hhkey.out]
    obtain ⟨k23, k24, k25, k26⟩ := (hE.here.1.1.1.1.1.2).c4
    obtain ⟨k27, k28, k29, k30⟩ := (hE.here.1.1.1.1.2).c4
    go_wp2_with fail
    have hc := fround_v (ca := ca) (da := da) (cb := cb) (db := db) (hE.here.1.2) (hE.here.2) (fl_le2 la (by decide)) (fl_le2 lb (by decide)) Hhb0.out m m1 m6 (by rw [round_q]; exact (fl_le2 lrd (by decide)))
    rw [round_q] at hc
    refine (hc).mono ?_
    clear k23 k24 k25 k26 k27 k28 k29 k30
    rintro e w31 ⟨sr, Ar, nr, cr, tr, Br, mr, dr, rfl, hr, hb⟩
    replace hE := hE.step hb
    clear hb
    replace hE := hE.fv hr
    clear hr
    clear hc
    go_upto_region 8 with (fail)
    obtain ⟨g32, hg32⟩ : ∃ g32, g32 = w31.heap.size := ⟨_, rfl⟩
    have hl32_0 : w.heap.size < g32 := by rw [hg32]; exact (hE.here.1.1.1.1.1.1.2).lt
    have hl32_1 : w.heap.size + 1 < g32 := by rw [hg32]; exact (hE.here.1.1.1.1.1.2).lt
    have hl32_3 : g3 < g32 := by rw [hg32]; exact (hE.here.1.1.1.2).lt
    replace hE := hE.blk 26 #[.bool sr, .slice Ar nr cr, .bool tr, .slice Br mr dr] (g := g32) hg32.symm
    generalize w31.alloc (.cells #[.bool sr, .slice Ar nr cr, .bool tr, .slice Br mr dr] 26) = W32 at hE ⊢
    rw [← hg32]
    clear hg32
    go_upto_region 10 with (fail)
    obtain ⟨k33, k34, k35, k36⟩ := (hE.here.2).c4
    obtain ⟨k37, k38, k39, k40⟩ := (hE.here.1.1.1.1.1.1.2).c4
    go_wp2_with fail
    have hc := lw_over (ca := cr) (da := dr) (cb := cb) (db := db) (hE.here.1.2) (hE.here.1.1.2) (fl_le2 lrd (by decide)) (fl_le2 lb (by decide)) Hhbn.out (by rw [show ((roundZ m a b : Int) : Rat) * b / b = ((roundZ m a b : Int) : Rat) by have := Hhbq.out; grind]; exact (fl_le2 lkz (by decide)))
    rw [show ((roundZ m a b : Int) : Rat) * b / b = ((roundZ m a b : Int) : Rat) by have := Hhbq.out; grind] at hc
    refine (hc).mono ?_
    clear k33 k34 k35 k36 k37 k38 k39 k40
    rintro e w41 ⟨sj, Aj, nj, cj, tj, Bj, mj, dj, rfl, hj, hb⟩
    replace hE := hE.step hb
    clear hb
    replace hE := hE.fv hj
    clear hj
    clear hc
    go_upto_region 11 with (fail)
    obtain ⟨g42, hg42⟩ : ∃ g42, g42 = w41.heap.size := ⟨_, rfl⟩
    have hl42_0 : w.heap.size < g42 := by rw [hg42]; exact (hE.here.1.1.1.1.1.1.1.1.2).lt
    have hl42_1 : w.heap.size + 1 < g42 := by rw [hg42]; exact (hE.here.1.1.1.1.1.1.1.2).lt
    have hl42_3 : g3 < g42 := by rw [hg42]; exact (hE.here.1.1.1.1.1.2).lt
    have hl42_7 : g32 < g42 := by rw [hg42]; exact (hE.here.1.2).lt
    replace hE := hE.blk 26 #[.bool sj, .slice Aj nj cj, .bool tj, .slice Bj mj dj] (g := g42) hg42.symm
    generalize w41.alloc (.cells #[.bool sj, .slice Aj nj cj, .bool tj, .slice Bj mj dj] 26) = W42 at hE ⊢
    rw [← hg42]
    clear hg42
    obtain ⟨k43, k44, k45, k46⟩ := (hE.here.1.1.2).c4
    obtain ⟨k47, k48, k49, k50⟩ := (hE.here.1.1.1.1.1.1.1.1.1.2).c4
    go_wp2_with fail
    have hc : Calls _ _ _ _ (FR (dQ m a b) _) := lw_less (ca := cr) (da := dr) (cb := ca) (db := da) (hE.here.1.1.1.2) (hE.here.1.1.1.1.1.2) (fl_le2 lrd (by decide)) (fl_le2 la (by decide)) (fl_le2 ld (by decide))
    refine (hc).mono ?_
    clear k43 k44 k45 k46 k47 k48 k49 k50
    rintro e w51 ⟨sd, Ad, nd, cd, td, Bd, md, dd, rfl, hd, hb⟩
    replace hE := hE.step hb
    clear hb
    replace hE := hE.fv hd
    clear hd
    clear hc
    go_upto_region 12 with (fail)
    obtain ⟨g52, hg52⟩ : ∃ g52, g52 = w51.heap.size := ⟨_, rfl⟩
    have hl52_0 : w.heap.size < g52 := by rw [hg52]; exact (hE.here.1.1.1.1.1.1.1.1.1.1.2).lt
    have hl52_1 : w.heap.size + 1 < g52 := by rw [hg52]; exact (hE.here.1.1.1.1.1.1.1.1.1.2).lt
    have hl52_3 : g3 < g52 := by rw [hg52]; exact (hE.here.1.1.1.1.1.1.1.2).lt
    have hl52_7 : g32 < g52 := by rw [hg52]; exact (hE.here.1.1.1.2).lt
    have hl52_9 : g42 < g52 := by rw [hg52]; exact (hE.here.1.2).lt
    replace hE := hE.blk 26 #[.bool sd, .slice Ad nd cd, .bool td, .slice Bd md dd] (g := g52) hg52.symm
    generalize w51.alloc (.cells #[.bool sd, .slice Ad nd cd, .bool td, .slice Bd md dd] 26) = W52 at hE ⊢
    rw [← hg52]
    clear hg52
    obtain ⟨k53, k54, k55, k56⟩ := (hE.here.2).c4
    go_upto_region 13 with (fail)
    clear k53 k54 k55 k56
    obtain ⟨g57, hg57⟩ : ∃ g57, g57 = W52.heap.size := ⟨_, rfl⟩
    have hl57_0 : w.heap.size < g57 := by rw [hg57]; exact (hE.here.1.1.1.1.1.1.1.1.1.1.1.2).lt
    have hl57_1 : w.heap.size + 1 < g57 := by rw [hg57]; exact (hE.here.1.1.1.1.1.1.1.1.1.1.2).lt
    have hl57_3 : g3 < g57 := by rw [hg57]; exact (hE.here.1.1.1.1.1.1.1.1.2).lt
    have hl57_7 : g32 < g57 := by rw [hg57]; exact (hE.here.1.1.1.1.2).lt
    have hl57_9 : g42 < g57 := by rw [hg57]; exact (hE.here.1.1.2).lt
    have hl57_11 : g52 < g57 := by rw [hg57]; exact (hE.here.2).lt
    replace hE := hE.blk 26 #[.bool sd, .slice Ad nd cd, .bool td, .slice Bd md dd] (g := g57) hg57.symm
    generalize W52.alloc (.cells #[.bool sd, .slice Ad nd cd, .bool td, .slice Bd md dd] 26) = W57 at hE ⊢
    rw [← hg57]
    clear hg57
    have hk1 : WV W57 1 tj Bj mj := by have h := (hE.here.1.1.1.1.2).2; rwa [(int_num _).2] at h
    obtain rfl : mj = 1 := by rw [hk1.len]; decide
    obtain ⟨bo, oo, rfl, hbl, hcell⟩ := limb_one hk1
    have hcell2 : W57.cell? ⟨bo, oo, none⟩ = some (.int .u16 1) := hcell
    replace hE := hE.at_ hbl hcell2
    clear hk1 hbl hcell hcell2
    by_cases hen : eQ m a b < 0
    · skip
      obtain ⟨n1, n2, n3, n4, n5⟩ := near_neg (a := a) Hhb0.out m1 m6 hen
      have Hhen := Lib.hid hen
      clear hen
      obtain ⟨tv, htv⟩ : ∃ x, x = cmpQ a ((0 : Int) : Rat) := ⟨_, rfl⟩
      obtain ⟨qv, hqv⟩ : ∃ x, x = cmpQ (dQ m a b) ((0 : Int) : Rat) := ⟨_, rfl⟩
      obtain ⟨hv, hhv⟩ : ∃ x, x = cmpQ ((((0 : Int) : Rat) - dQ m a b) + (((0 : Int) : Rat) - dQ m a b)) b := ⟨_, rfl⟩
      have tvb := cmpQ_b a ((0 : Int) : Rat)
      have qvb := cmpQ_b (dQ m a b) ((0 : Int) : Rat)
      have sd1 := Hsd1.out
      have sd2 := Hsd2.out
      have sd3 := Hsd3.out
      have sd4 := Hsd4.out
      rw [← htv] at tvb n4 sd1 sd2
      rw [← hqv] at qvb n1 n4 sd1 sd2 sd3 sd4
      rw [← hhv] at n3 n4 n5
      have Hn2 := Lib.hid n2
      clear n2
      have Hn3 := Lib.hid n3
      clear n3
      have Hn4 := Lib.hid n4
      clear n4
      have Hn5 := Lib.hid n5
      clear n5
      have Hsd1 := Lib.hid sd1
      clear sd1
      have Hsd2 := Lib.hid sd2
      clear sd2
      have Hsd3 := Lib.hid sd3
      clear sd3
      have Hsd4 := Lib.hid sd4
      clear sd4
      have Hhtv := Lib.hid htv
      clear htv
      have Hhqv := Lib.hid hqv
      clear hqv
      have Hhhv := Lib.hid hhv
      clear hhv
      have Htvb := Lib.hid tvb
      clear tvb
      have Hqvb := Lib.hid qvb
      clear qvb
      subst n1
      obtain ⟨k58, k59, k60, k61⟩ := (hE.here.1.1.2).c4
      obtain ⟨k62, k63, k64, k65⟩ := (hE.here.1.1.1.1.1.1.1.1.1.1.2).c4
      go_wp2_with fail
      have hc := fcmp_v (ca := cd) (da := dd) (cb := cz) (db := dz) (hE.here.1.1.1.2) (hE.here.1.1.1.1.1.1.1.1.1.1.1.2) (fl_le2 ld (by decide)) (fl_le2 near_z0 (by decide))
      rw [← Hhqv.out] at hc
      refine (hc).mono ?_
      clear k58 k59 k60 k61 k62 k63 k64 k65
      rintro e w66 ⟨rfl, hb⟩
      replace hE := hE.step hb
      clear hb
      clear hc
      go_upto_region 14 with (fail)
      obtain ⟨k67, k68, k69, k70⟩ := (hE.here.1.1.1.1.1.1.1.1.1.1.2).c4
      obtain ⟨k71, k72, k73, k74⟩ := (hE.here.1.1.2).c4
      go_wp2_with fail
      refine (lw_less (ca := cz) (da := dz) (cb := cd) (db := dd) (hE.here.1.1.1.1.1.1.1.1.1.1.1.2) (hE.here.1.1.1.2) (fl_le2 near_z0 (by decide)) (fl_le2 ld (by decide)) (fl_le2 (zsub_fl ld) (by decide))).mono ?_
      clear k67 k68 k69 k70 k71 k72 k73 k74
      rintro e w75 ⟨sy, Ay, ny, cy, ty, By, my, dy, rfl, hy, hb⟩
      replace hE := hE.step hb
      clear hb
      replace hE := hE.fv hy
      clear hy
      have hgl76 : w.heap.size ≤ g57 := by omega
      obtain ⟨x76_0, x76_1, x76_2, x76_3⟩ := (hE.here.1.1.2).c4
      obtain ⟨f76_0, f76_1, f76_2, f76_3⟩ := hE.here.1.1.2.f4
      replace hE := ((((((((((((((((Env.again (bel4 hE.bel hgl76 (.bool sy) (.slice Ay ny cy) (.bool ty) (.slice By my dy))).blkI ((hE.here.1.1.1.1.1.1.1.1.1.1.1.1.1.1.2).far4 (R := g57) (by omega) (.bool sy) (.slice Ay ny cy) (.bool ty) (.slice By my dy))).blkI ((hE.here.1.1.1.1.1.1.1.1.1.1.1.1.1.2).far4 (R := g57) (by omega) (.bool sy) (.slice Ay ny cy) (.bool ty) (.slice By my dy))).fv ((hE.here.1.1.1.1.1.1.1.1.1.1.1.1.2).sep4 hE.here.1.1.2 rfl (.bool sy) (.slice Ay ny cy) (.bool ty) (.slice By my dy) rfl rfl rfl)).blkI ((hE.here.1.1.1.1.1.1.1.1.1.1.1.2).far4 (R := g57) (by omega) (.bool sy) (.slice Ay ny cy) (.bool ty) (.slice By my dy))).fv ((hE.here.1.1.1.1.1.1.1.1.1.1.2).sep4 hE.here.1.1.2 rfl (.bool sy) (.slice Ay ny cy) (.bool ty) (.slice By my dy) rfl rfl rfl)).fv ((hE.here.1.1.1.1.1.1.1.1.1.2).sep4 hE.here.1.1.2 rfl (.bool sy) (.slice Ay ny cy) (.bool ty) (.slice By my dy) rfl rfl rfl)).fv ((hE.here.1.1.1.1.1.1.1.1.2).sep4 hE.here.1.1.2 rfl (.bool sy) (.slice Ay ny cy) (.bool ty) (.slice By my dy) rfl rfl rfl)).blkI ((hE.here.1.1.1.1.1.1.1.2).far4 (R := g57) (by omega) (.bool sy) (.slice Ay ny cy) (.bool ty) (.slice By my dy))).fv ((hE.here.1.1.1.1.1.1.2).sep4 hE.here.1.1.2 rfl (.bool sy) (.slice Ay ny cy) (.bool ty) (.slice By my dy) rfl rfl rfl)).blkI ((hE.here.1.1.1.1.1.2).far4 (R := g57) (by omega) (.bool sy) (.slice Ay ny cy) (.bool ty) (.slice By my dy))).fv ((hE.here.1.1.1.1.2).sep4 hE.here.1.1.2 rfl (.bool sy) (.slice Ay ny cy) (.bool ty) (.slice By my dy) rfl rfl rfl)).blkI ((hE.here.1.1.1.2).far4 (R := g57) (by omega) (.bool sy) (.slice Ay ny cy) (.bool ty) (.slice By my dy))).blkI ((hE.here.1.1.2).s4 (.bool sy) (.slice Ay ny cy) (.bool ty) (.slice By my dy))).atI ((hE.here.1.2).far4 (R := g57) (by first | omega | exact At.apart (hE.here.1.2) (hE.here.1.1.2) rfl) (.bool sy) (.slice Ay ny cy) (.bool ty) (.slice By my dy))).fv ((hE.here.2).sep4 hE.here.1.1.2 rfl (.bool sy) (.slice Ay ny cy) (.bool ty) (.slice By my dy) rfl rfl rfl))
      go_upto_region 15 with (fail)
      clear x76_0 x76_1 x76_2 x76_3 f76_0 f76_1 f76_2 f76_3 hgl76
      generalize ((((w75.setCell ⟨g57, 0, none⟩ (.bool sy)).setCell ⟨g57, 1, none⟩ (.slice Ay ny cy)).setCell ⟨g57, 2, none⟩ (.bool ty)).setCell ⟨g57, 3, none⟩ (.slice By my dy)) = W76 at hE ⊢
      replace hE := hE.drew
      refine wp_region_held_drew (S := fun w' => w'.cell? ⟨g57, 0, none⟩ = some (.bool sy) ∧ w'.cell? ⟨g57, 1, none⟩ = some (.slice Ay ny cy) ∧ w'.cell? ⟨g57, 2, none⟩ = some (.bool ty) ∧ w'.cell? ⟨g57, 3, none⟩ = some (.slice By my dy) ∧ w'.cell? ⟨w.heap.size + 1, 0, none⟩ = some (.bool sb) ∧ w'.cell? ⟨w.heap.size + 1, 1, none⟩ = some (.slice Ab nb cb) ∧ w'.cell? ⟨w.heap.size + 1, 2, none⟩ = some (.bool tb) ∧ w'.cell? ⟨w.heap.size + 1, 3, none⟩ = some (.slice Bb mb db)) (by kernel_rfl) (hE.here.1.1.2.j4 hE.here.1.1.1.1.1.1.1.1.1.1.1.1.1.2.c4) (fun hHeld => ?_)
      refine tk 0 ?_
      try simp only [PL]
      refine tk 1 ?_
      try simp only [PL]
      refine tk 3 ?_
      try simp only [PL]
      refine r1 2 (fun K hK => ?_)
      go_simp
      refine (lw_sum (ca := cy) (da := dy) (cb := cy) (db := dy) (hE.here.2) (hE.here.2) (fl_le2 (zsub_fl ld) (by decide)) (fl_le2 (zsub_fl ld) (by decide)) (fl_le2 (twice_fl (zsub_fl ld)) (by decide))).mono ?_
      rintro e w77 ⟨sw, Aw, nw, cw, tw, Bw, mw, dw, rfl, hw, hb⟩
      replace hE := hE.step hb
      clear hb
      replace hE := hE.fv hw
      clear hw
      go_wp2_with fail
      refine hK.out _ _ (hE.here.1.1.1.2.j4 hE.here.1.1.1.1.1.1.1.1.1.1.1.1.1.1.2.c4) (fun hHeld => ?_)
      clear hK K
      try simp only [PL]
      refine r1 4 (fun K hK => ?_)
      go_simp
      have hc := fcmp_v (ca := cw) (da := dw) (cb := cb) (db := db) (hE.here.2) (hE.here.1.1.1.1.1.1.1.1.1.1.2) (fl_le2 (twice_fl (zsub_fl ld)) (by decide)) (fl_le2 lb (by decide))
      rw [← Hhhv.out] at hc
      refine (hc).mono ?_
      rintro e w78 ⟨rfl, hb⟩
      replace hE := hE.step hb
      clear hb
      clear hc
      go_wp2_with fail
      refine hK.out _ _ (hE.here.1.1.1.2.j4 hE.here.1.1.1.1.1.1.1.1.1.1.1.1.1.1.2.c4) (fun hHeld => ?_)
      clear hK K
      try simp only [PL]
      refine tk 5 ?_
      try simp only [PL]
      refine wpAnyH_done (by kernel_rfl) ?_ _
      go_upto_region 16 with (fail)
      by_cases h5 : 5 ≤ m
      · skip
        have t5 : decide ((5 : Int) ≤ (m : Int)) = true := decide_eq_true (by omega)
        have t6 : (5 : Int) ≤ (m : Int) := by omega
        have t6b : decide (5 ≤ m) = true := decide_eq_true h5
        have nh := Hn3.out h5
        have t7 : decide (0 < hv) = false := decide_eq_false (by omega)
        have t8 : ¬ 0 < hv := by omega
        clear nh
        obtain ⟨k79, k80, k81, k82⟩ := (hE.here.1.1.1.1.1.1.2).c4
        obtain ⟨k83, k84, k85, k86⟩ := (hE.here.1.1.1.2).c4
        obtain ⟨k87, k88, k89, k90⟩ := (hE.here.1.1.1.1.1.1.1.1.1.1.1.1.1.1.2).c4
        have k91 := (hE.here.1.1.2).2
        go_wp2_with fail
        have hc := fcmp_v (ca := cy) (da := dy) (cb := cb) (db := db) (hE.here.1.2) (hE.here.1.1.1.1.1.1.1.1.1.1.2) (fl_le2 (zsub_fl ld) (by decide)) (fl_le2 lb (by decide))
        rw [Hn2.out] at hc
        refine (hc).mono ?_
        clear k79 k80 k81 k82 k83 k84 k85 k86 k87 k88 k89 k90 k91
        rintro e w92 ⟨rfl, hb⟩
        replace hE := hE.step hb
        clear hb
        clear hc
        go_upto_region 18 with (fail)
        clear t5 t6 t6b t7 t8
        replace hE := hE.drew
        refine wp_region_held_drew (S := fun w' => w'.cell? ⟨g52, 0, none⟩ = some (.bool sd) ∧ w'.cell? ⟨g52, 1, none⟩ = some (.slice Ad nd cd) ∧ w'.cell? ⟨g52, 2, none⟩ = some (.bool td) ∧ w'.cell? ⟨g52, 3, none⟩ = some (.slice Bd md dd) ∧ w'.cell? ⟨g3, 0, none⟩ = some (.bool sz) ∧ w'.cell? ⟨g3, 1, none⟩ = some (.slice Az nz cz) ∧ w'.cell? ⟨g3, 2, none⟩ = some (.bool tz) ∧ w'.cell? ⟨g3, 3, none⟩ = some (.slice Bz mz dz) ∧ w'.cell? ⟨w.heap.size, 0, none⟩ = some (.bool sa) ∧ w'.cell? ⟨w.heap.size, 1, none⟩ = some (.slice Aa na ca) ∧ w'.cell? ⟨w.heap.size, 2, none⟩ = some (.bool ta) ∧ w'.cell? ⟨w.heap.size, 3, none⟩ = some (.slice Ba ma da)) (by kernel_rfl) (hE.here.1.1.1.1.2.j4 (hE.here.1.1.1.1.1.1.1.1.1.1.1.1.2.j4 hE.here.1.1.1.1.1.1.1.1.1.1.1.1.1.1.1.2.c4)) (fun hHeld => ?_)
        refine tk 0 ?_
        try simp only [PL]
        refine tk 1 ?_
        try simp only [PL]
        refine tk 3 ?_
        try simp only [PL]
        refine tk 4 ?_
        try simp only [PL]
        refine r1 2 (fun K hK => ?_)
        go_simp
        have hc := fcmp_v (ca := cd) (da := dd) (cb := cz) (db := dz) (hE.here.1.1.1.1.1.2) (hE.here.1.1.1.1.1.1.1.1.1.1.1.1.1.2) (fl_le2 ld (by decide)) (fl_le2 near_z0 (by decide))
        rw [← Hhqv.out] at hc
        refine (hc).mono ?_
        rintro e w93 ⟨rfl, hb⟩
        replace hE := hE.step hb
        clear hb
        clear hc
        go_wp2_with fail
        refine hK.out _ _ (hE.here.1.1.1.1.2.j4 (hE.here.1.1.1.1.1.1.1.1.1.1.1.1.2.j4 hE.here.1.1.1.1.1.1.1.1.1.1.1.1.1.1.1.2.c4)) (fun hHeld => ?_)
        clear hK K
        try simp only [PL]
        refine r1 5 (fun K hK => ?_)
        go_simp
        have hc := fcmp_v (ca := ca) (da := da) (cb := cz) (db := dz) (hE.here.1.1.1.1.1.1.1.1.1.1.1.2) (hE.here.1.1.1.1.1.1.1.1.1.1.1.1.1.2) (fl_le2 la (by decide)) (fl_le2 near_z0 (by decide))
        rw [← Hhtv.out] at hc
        refine (hc).mono ?_
        rintro e w94 ⟨rfl, hb⟩
        replace hE := hE.step hb
        clear hb
        clear hc
        go_wp2_with fail
        refine hK.out _ _ (hE.here.1.1.1.1.2.j4 (hE.here.1.1.1.1.1.1.1.1.1.1.1.1.2.j4 hE.here.1.1.1.1.1.1.1.1.1.1.1.1.1.1.1.2.c4)) (fun hHeld => ?_)
        clear hK K
        try simp only [PL]
        refine tk 6 ?_
        try simp only [PL]
        refine tk 7 ?_
        try simp only [PL]
        refine wpAnyH_done (by kernel_rfl) ?_ _
        rcases (show m = 5 ∨ m = 6 by omega) with rfl | rfl
        · skip
          rcases Hn4.out rfl with hh | hh
          · have dd : decide (hv < 0) = true := decide_eq_true hh
            go_wp2_with fail
            go_ret
            exact ⟨rfl, hE.bel⟩
          · have dd : ((-1) == tv) = true := beq_iff_eq.2 hh
            subst hh
            cases hd9 : decide (hv < 0)
            · have hd8 : ¬ hv < 0 := of_decide_eq_false hd9
              go_wp2_with fail
              go_ret
              exact ⟨rfl, hE.bel⟩
            · have hd8 : hv < 0 := of_decide_eq_true hd9
              go_wp2_with fail
              go_ret
              exact ⟨rfl, hE.bel⟩
        · skip
          cases hd9 : decide (hv < 0)
          rotate_left
          · have hd8 : hv < 0 := of_decide_eq_true hd9
            go_wp2_with fail
            go_ret
            exact ⟨rfl, hE.bel⟩
          have hd8 : ¬ hv < 0 := of_decide_eq_false hd9
          have hz2 : roundZ 6 a b % 2 = 0 := by rcases Hn5.out rfl with h | h; exact absurd h hd8; exact h
          have Hhz2 := Lib.hid hz2
          clear hz2
          by_cases hnk : nj = 0
          · subst hnk
            obtain ⟨k95, k96, k97, k98⟩ := (hE.here.1.1.1.1.1.1.2).c4
            go_wp2_with fail
            go_ret
            exact ⟨rfl, hE.bel⟩
          · obtain ⟨b2, o2_, dl, rfl, hbl, hcell, hdl⟩ := limb_zero (hE.here.1.1.1.1.1.1.1.2).1 (by omega)
            rw [(int_num _).1] at hdl
            have rm : (((dl : Nat) : Int).tmod 2 == 0) = true := by
              rw [Int.tmod_eq_emod_of_nonneg (by omega), beq_iff_eq]; have h := Hhz2.out; omega
            have rm3 : (((dl : Nat) : Int) % 2 == 0) = true := by rw [beq_iff_eq]; have h := Hhz2.out; omega
            have rm2 : (IntKind.u16.wrap (((dl : Nat) : Int).tmod 2) == 0) = true := by
              rw [Int.tmod_eq_emod_of_nonneg (by omega), IntKind.wrap_u16, beq_iff_eq]; have h := Hhz2.out; omega
            have hk0 : ((nj : Int) == 0) = false := beq_eq_false_iff_ne.2 (by omega)
            have hk2 : (nj == 0) = false := beq_eq_false_iff_ne.2 hnk
            have hk3 : 0 < nj := by omega
            have hk4 : (0 : Int) < (nj : Int) := by omega
            clear hdl
            obtain ⟨k99, k100, k101, k102⟩ := (hE.here.1.1.1.1.1.1.2).c4
            go_wp2_with fail
            go_ret
            exact ⟨rfl, hE.bel⟩
      · skip
        have t5 : decide ((5 : Int) ≤ (m : Int)) = false := decide_eq_false (by omega)
        have t6 : ¬ (5 : Int) ≤ (m : Int) := by omega
        have t6b : decide (5 ≤ m) = false := decide_eq_false h5
        obtain ⟨k103, k104, k105, k106⟩ := (hE.here.1.1.1.1.1.1.2).c4
        obtain ⟨k107, k108, k109, k110⟩ := (hE.here.1.1.1.2).c4
        obtain ⟨k111, k112, k113, k114⟩ := (hE.here.1.1.1.1.1.1.1.1.1.1.1.1.1.1.2).c4
        have k115 := (hE.here.1.1.2).2
        go_wp2_with fail
        have hc := fcmp_v (ca := cy) (da := dy) (cb := cb) (db := db) (hE.here.1.2) (hE.here.1.1.1.1.1.1.1.1.1.1.2) (fl_le2 (zsub_fl ld) (by decide)) (fl_le2 lb (by decide))
        rw [Hn2.out] at hc
        refine (hc).mono ?_
        clear k103 k104 k105 k106 k107 k108 k109 k110 k111 k112 k113 k114 k115
        rintro e w116 ⟨rfl, hb⟩
        replace hE := hE.step hb
        clear hb
        clear hc
        go_upto_region 18 with (fail)
        clear t5 t6 t6b
        replace hE := hE.drew
        refine wp_region_held_drew (S := fun w' => w'.cell? ⟨g52, 0, none⟩ = some (.bool sd) ∧ w'.cell? ⟨g52, 1, none⟩ = some (.slice Ad nd cd) ∧ w'.cell? ⟨g52, 2, none⟩ = some (.bool td) ∧ w'.cell? ⟨g52, 3, none⟩ = some (.slice Bd md dd) ∧ w'.cell? ⟨g3, 0, none⟩ = some (.bool sz) ∧ w'.cell? ⟨g3, 1, none⟩ = some (.slice Az nz cz) ∧ w'.cell? ⟨g3, 2, none⟩ = some (.bool tz) ∧ w'.cell? ⟨g3, 3, none⟩ = some (.slice Bz mz dz) ∧ w'.cell? ⟨w.heap.size, 0, none⟩ = some (.bool sa) ∧ w'.cell? ⟨w.heap.size, 1, none⟩ = some (.slice Aa na ca) ∧ w'.cell? ⟨w.heap.size, 2, none⟩ = some (.bool ta) ∧ w'.cell? ⟨w.heap.size, 3, none⟩ = some (.slice Ba ma da)) (by kernel_rfl) (hE.here.1.1.1.1.2.j4 (hE.here.1.1.1.1.1.1.1.1.1.1.1.1.2.j4 hE.here.1.1.1.1.1.1.1.1.1.1.1.1.1.1.1.2.c4)) (fun hHeld => ?_)
        refine tk 0 ?_
        try simp only [PL]
        refine tk 1 ?_
        try simp only [PL]
        refine tk 3 ?_
        try simp only [PL]
        refine tk 4 ?_
        try simp only [PL]
        refine r1 2 (fun K hK => ?_)
        go_simp
        have hc := fcmp_v (ca := cd) (da := dd) (cb := cz) (db := dz) (hE.here.1.1.1.1.1.2) (hE.here.1.1.1.1.1.1.1.1.1.1.1.1.1.2) (fl_le2 ld (by decide)) (fl_le2 near_z0 (by decide))
        rw [← Hhqv.out] at hc
        refine (hc).mono ?_
        rintro e w117 ⟨rfl, hb⟩
        replace hE := hE.step hb
        clear hb
        clear hc
        go_wp2_with fail
        refine hK.out _ _ (hE.here.1.1.1.1.2.j4 (hE.here.1.1.1.1.1.1.1.1.1.1.1.1.2.j4 hE.here.1.1.1.1.1.1.1.1.1.1.1.1.1.1.1.2.c4)) (fun hHeld => ?_)
        clear hK K
        try simp only [PL]
        refine r1 5 (fun K hK => ?_)
        go_simp
        have hc := fcmp_v (ca := ca) (da := da) (cb := cz) (db := dz) (hE.here.1.1.1.1.1.1.1.1.1.1.1.2) (hE.here.1.1.1.1.1.1.1.1.1.1.1.1.1.2) (fl_le2 la (by decide)) (fl_le2 near_z0 (by decide))
        rw [← Hhtv.out] at hc
        refine (hc).mono ?_
        rintro e w118 ⟨rfl, hb⟩
        replace hE := hE.step hb
        clear hb
        clear hc
        go_wp2_with fail
        refine hK.out _ _ (hE.here.1.1.1.1.2.j4 (hE.here.1.1.1.1.1.1.1.1.1.1.1.1.2.j4 hE.here.1.1.1.1.1.1.1.1.1.1.1.1.1.1.1.2.c4)) (fun hHeld => ?_)
        clear hK K
        try simp only [PL]
        refine tk 6 ?_
        try simp only [PL]
        refine tk 7 ?_
        try simp only [PL]
        refine wpAnyH_done (by kernel_rfl) ?_ _
        rcases (show m = 1 ∨ m = 2 ∨ m = 3 ∨ m = 4 by omega) with rfl | rfl | rfl | rfl
        · skip
          have tb := Htvb.out
          have qb := Hqvb.out
          have sd := Hsd1.out rfl
          have ow : IntKind.i64.wrap ((-1) * tv) = (-1) * tv := by
            rcases (show tv = -1 ∨ tv = 0 ∨ tv = 1 by omega) with rfl | rfl | rfl <;> rw [IntKind.wrap_i64] <;> omega
          have ow2 : IntKind.i64.wrap (-tv) = -tv := by rw [IntKind.wrap_i64]; omega
          have dd : decide ((-1) * tv ≤ 0) = true := decide_eq_true sd
          have dd2 := sd
          have dd3 : decide (-tv ≤ 0) = true := decide_eq_true (by omega)
          have dd4 : -tv ≤ 0 := by omega
          clear tb qb sd
          go_wp2_with fail
          go_ret
          exact ⟨rfl, hE.bel⟩
        · skip
          have tb := Htvb.out
          have qb := Hqvb.out
          have sd := Hsd2.out rfl
          have ow : IntKind.i64.wrap ((-1) * tv) = (-1) * tv := by
            rcases (show tv = -1 ∨ tv = 0 ∨ tv = 1 by omega) with rfl | rfl | rfl <;> rw [IntKind.wrap_i64] <;> omega
          have ow2 : IntKind.i64.wrap (-tv) = -tv := by rw [IntKind.wrap_i64]; omega
          have dd : decide (0 ≤ (-1) * tv) = true := decide_eq_true sd
          have dd2 := sd
          have dd3 : decide (0 ≤ -tv) = true := decide_eq_true (by omega)
          have dd4 : 0 ≤ -tv := by omega
          have dd5 : decide (tv ≤ 0) = true := decide_eq_true (by omega)
          clear tb qb sd
          go_wp2_with fail
          go_ret
          exact ⟨rfl, hE.bel⟩
        · skip
          have sd := Hsd3.out rfl
          clear sd
          go_wp2_with fail
          go_ret
          exact ⟨rfl, hE.bel⟩
        · skip
          have sd := Hsd4.out rfl
          exact absurd sd (by decide)
    · skip
      obtain ⟨n1, n2, n3, n4, n5⟩ := near_pos (a := a) Hhb0.out m1 m6 hen
      have Hhen := Lib.hid hen
      clear hen
      obtain ⟨tv, htv⟩ : ∃ x, x = cmpQ a ((0 : Int) : Rat) := ⟨_, rfl⟩
      obtain ⟨qv, hqv⟩ : ∃ x, x = cmpQ (dQ m a b) ((0 : Int) : Rat) := ⟨_, rfl⟩
      obtain ⟨hv, hhv⟩ : ∃ x, x = cmpQ ((dQ m a b) + (dQ m a b)) b := ⟨_, rfl⟩
      have tvb := cmpQ_b a ((0 : Int) : Rat)
      have qvb := cmpQ_b (dQ m a b) ((0 : Int) : Rat)
      have sd1 := Hsd1.out
      have sd2 := Hsd2.out
      have sd3 := Hsd3.out
      have sd4 := Hsd4.out
      rw [← htv] at tvb n4 sd1 sd2
      rw [← hqv] at qvb n1 n4 sd1 sd2 sd3 sd4
      rw [← hhv] at n3 n4 n5
      have Hn2 := Lib.hid n2
      clear n2
      have Hn3 := Lib.hid n3
      clear n3
      have Hn4 := Lib.hid n4
      clear n4
      have Hn5 := Lib.hid n5
      clear n5
      have Hsd1 := Lib.hid sd1
      clear sd1
      have Hsd2 := Lib.hid sd2
      clear sd2
      have Hsd3 := Lib.hid sd3
      clear sd3
      have Hsd4 := Lib.hid sd4
      clear sd4
      have Hhtv := Lib.hid htv
      clear htv
      have Hhqv := Lib.hid hqv
      clear hqv
      have Hhhv := Lib.hid hhv
      clear hhv
      have Htvb := Lib.hid tvb
      clear tvb
      have Hqvb := Lib.hid qvb
      clear qvb
      have t1 : decide (qv < 0) = false := decide_eq_false n1
      obtain ⟨k119, k120, k121, k122⟩ := (hE.here.1.1.2).c4
      obtain ⟨k123, k124, k125, k126⟩ := (hE.here.1.1.1.1.1.1.1.1.1.1.2).c4
      go_wp2_with fail
      have hc := fcmp_v (ca := cd) (da := dd) (cb := cz) (db := dz) (hE.here.1.1.1.2) (hE.here.1.1.1.1.1.1.1.1.1.1.1.2) (fl_le2 ld (by decide)) (fl_le2 near_z0 (by decide))
      rw [← Hhqv.out] at hc
      refine (hc).mono ?_
      clear k119 k120 k121 k122 k123 k124 k125 k126
      rintro e w127 ⟨rfl, hb⟩
      replace hE := hE.step hb
      clear hb
      clear hc
      go_upto_region 15 with (fail)
      replace hE := hE.drew
      refine wp_region_held_drew (S := fun w' => w'.cell? ⟨g57, 0, none⟩ = some (.bool sd) ∧ w'.cell? ⟨g57, 1, none⟩ = some (.slice Ad nd cd) ∧ w'.cell? ⟨g57, 2, none⟩ = some (.bool td) ∧ w'.cell? ⟨g57, 3, none⟩ = some (.slice Bd md dd) ∧ w'.cell? ⟨w.heap.size + 1, 0, none⟩ = some (.bool sb) ∧ w'.cell? ⟨w.heap.size + 1, 1, none⟩ = some (.slice Ab nb cb) ∧ w'.cell? ⟨w.heap.size + 1, 2, none⟩ = some (.bool tb) ∧ w'.cell? ⟨w.heap.size + 1, 3, none⟩ = some (.slice Bb mb db)) (by kernel_rfl) (hE.here.1.2.j4 hE.here.1.1.1.1.1.1.1.1.1.1.1.1.2.c4) (fun hHeld => ?_)
      refine tk 0 ?_
      try simp only [PL]
      refine tk 1 ?_
      try simp only [PL]
      refine tk 3 ?_
      try simp only [PL]
      refine r1 2 (fun K hK => ?_)
      go_simp
      refine (lw_sum (ca := cd) (da := dd) (cb := cd) (db := dd) (hE.here.1.1.1.2) (hE.here.1.1.1.2) (fl_le2 ld (by decide)) (fl_le2 ld (by decide)) (fl_le2 (twice_fl ld) (by decide))).mono ?_
      rintro e w128 ⟨sw, Aw, nw, cw, tw, Bw, mw, dw, rfl, hw, hb⟩
      replace hE := hE.step hb
      clear hb
      replace hE := hE.fv hw
      clear hw
      go_wp2_with fail
      refine hK.out _ _ (hE.here.1.1.2.j4 hE.here.1.1.1.1.1.1.1.1.1.1.1.1.1.2.c4) (fun hHeld => ?_)
      clear hK K
      try simp only [PL]
      refine r1 4 (fun K hK => ?_)
      go_simp
      have hc := fcmp_v (ca := cw) (da := dw) (cb := cb) (db := db) (hE.here.2) (hE.here.1.1.1.1.1.1.1.1.1.2) (fl_le2 (twice_fl ld) (by decide)) (fl_le2 lb (by decide))
      rw [← Hhhv.out] at hc
      refine (hc).mono ?_
      rintro e w129 ⟨rfl, hb⟩
      replace hE := hE.step hb
      clear hb
      clear hc
      go_wp2_with fail
      refine hK.out _ _ (hE.here.1.1.2.j4 hE.here.1.1.1.1.1.1.1.1.1.1.1.1.1.2.c4) (fun hHeld => ?_)
      clear hK K
      try simp only [PL]
      refine tk 5 ?_
      try simp only [PL]
      refine wpAnyH_done (by kernel_rfl) ?_ _
      go_upto_region 16 with (fail)
      by_cases h5 : 5 ≤ m
      · skip
        have t5 : decide ((5 : Int) ≤ (m : Int)) = true := decide_eq_true (by omega)
        have t6 : (5 : Int) ≤ (m : Int) := by omega
        have t6b : decide (5 ≤ m) = true := decide_eq_true h5
        have nh := Hn3.out h5
        have t7 : decide (0 < hv) = false := decide_eq_false (by omega)
        have t8 : ¬ 0 < hv := by omega
        clear nh
        obtain ⟨k130, k131, k132, k133⟩ := (hE.here.1.1.1.1.1.2).c4
        obtain ⟨k134, k135, k136, k137⟩ := (hE.here.1.1.2).c4
        obtain ⟨k138, k139, k140, k141⟩ := (hE.here.1.1.1.1.1.1.1.1.1.1.1.1.1.2).c4
        have k142 := (hE.here.1.2).2
        go_wp2_with fail
        have hc := fcmp_v (ca := cd) (da := dd) (cb := cb) (db := db) (hE.here.1.1.1.1.2) (hE.here.1.1.1.1.1.1.1.1.1.2) (fl_le2 ld (by decide)) (fl_le2 lb (by decide))
        rw [Hn2.out] at hc
        refine (hc).mono ?_
        clear k130 k131 k132 k133 k134 k135 k136 k137 k138 k139 k140 k141 k142
        rintro e w143 ⟨rfl, hb⟩
        replace hE := hE.step hb
        clear hb
        clear hc
        go_upto_region 18 with (fail)
        clear t5 t6 t6b t7 t8
        replace hE := hE.drew
        refine wp_region_held_drew (S := fun w' => w'.cell? ⟨g52, 0, none⟩ = some (.bool sd) ∧ w'.cell? ⟨g52, 1, none⟩ = some (.slice Ad nd cd) ∧ w'.cell? ⟨g52, 2, none⟩ = some (.bool td) ∧ w'.cell? ⟨g52, 3, none⟩ = some (.slice Bd md dd) ∧ w'.cell? ⟨g3, 0, none⟩ = some (.bool sz) ∧ w'.cell? ⟨g3, 1, none⟩ = some (.slice Az nz cz) ∧ w'.cell? ⟨g3, 2, none⟩ = some (.bool tz) ∧ w'.cell? ⟨g3, 3, none⟩ = some (.slice Bz mz dz) ∧ w'.cell? ⟨w.heap.size, 0, none⟩ = some (.bool sa) ∧ w'.cell? ⟨w.heap.size, 1, none⟩ = some (.slice Aa na ca) ∧ w'.cell? ⟨w.heap.size, 2, none⟩ = some (.bool ta) ∧ w'.cell? ⟨w.heap.size, 3, none⟩ = some (.slice Ba ma da)) (by kernel_rfl) (hE.here.1.1.1.2.j4 (hE.here.1.1.1.1.1.1.1.1.1.1.1.2.j4 hE.here.1.1.1.1.1.1.1.1.1.1.1.1.1.1.2.c4)) (fun hHeld => ?_)
        refine tk 0 ?_
        try simp only [PL]
        refine tk 1 ?_
        try simp only [PL]
        refine tk 3 ?_
        try simp only [PL]
        refine tk 4 ?_
        try simp only [PL]
        refine r1 2 (fun K hK => ?_)
        go_simp
        have hc := fcmp_v (ca := cd) (da := dd) (cb := cz) (db := dz) (hE.here.1.1.1.1.2) (hE.here.1.1.1.1.1.1.1.1.1.1.1.1.2) (fl_le2 ld (by decide)) (fl_le2 near_z0 (by decide))
        rw [← Hhqv.out] at hc
        refine (hc).mono ?_
        rintro e w144 ⟨rfl, hb⟩
        replace hE := hE.step hb
        clear hb
        clear hc
        go_wp2_with fail
        refine hK.out _ _ (hE.here.1.1.1.2.j4 (hE.here.1.1.1.1.1.1.1.1.1.1.1.2.j4 hE.here.1.1.1.1.1.1.1.1.1.1.1.1.1.1.2.c4)) (fun hHeld => ?_)
        clear hK K
        try simp only [PL]
        refine r1 5 (fun K hK => ?_)
        go_simp
        have hc := fcmp_v (ca := ca) (da := da) (cb := cz) (db := dz) (hE.here.1.1.1.1.1.1.1.1.1.1.2) (hE.here.1.1.1.1.1.1.1.1.1.1.1.1.2) (fl_le2 la (by decide)) (fl_le2 near_z0 (by decide))
        rw [← Hhtv.out] at hc
        refine (hc).mono ?_
        rintro e w145 ⟨rfl, hb⟩
        replace hE := hE.step hb
        clear hb
        clear hc
        go_wp2_with fail
        refine hK.out _ _ (hE.here.1.1.1.2.j4 (hE.here.1.1.1.1.1.1.1.1.1.1.1.2.j4 hE.here.1.1.1.1.1.1.1.1.1.1.1.1.1.1.2.c4)) (fun hHeld => ?_)
        clear hK K
        try simp only [PL]
        refine tk 6 ?_
        try simp only [PL]
        refine tk 7 ?_
        try simp only [PL]
        refine wpAnyH_done (by kernel_rfl) ?_ _
        rcases (show m = 5 ∨ m = 6 by omega) with rfl | rfl
        · skip
          rcases Hn4.out rfl with hh | hh
          · have dd : decide (hv < 0) = true := decide_eq_true hh
            go_wp2_with fail
            go_ret
            exact ⟨rfl, hE.bel⟩
          · have dd : (qv == tv) = true := beq_iff_eq.2 hh
            subst hh
            cases hd9 : decide (hv < 0)
            · have hd8 : ¬ hv < 0 := of_decide_eq_false hd9
              go_wp2_with fail
              go_ret
              exact ⟨rfl, hE.bel⟩
            · have hd8 : hv < 0 := of_decide_eq_true hd9
              go_wp2_with fail
              go_ret
              exact ⟨rfl, hE.bel⟩
        · skip
          cases hd9 : decide (hv < 0)
          rotate_left
          · have hd8 : hv < 0 := of_decide_eq_true hd9
            go_wp2_with fail
            go_ret
            exact ⟨rfl, hE.bel⟩
          have hd8 : ¬ hv < 0 := of_decide_eq_false hd9
          have hz2 : roundZ 6 a b % 2 = 0 := by rcases Hn5.out rfl with h | h; exact absurd h hd8; exact h
          have Hhz2 := Lib.hid hz2
          clear hz2
          by_cases hnk : nj = 0
          · subst hnk
            obtain ⟨k146, k147, k148, k149⟩ := (hE.here.1.1.1.1.1.2).c4
            go_wp2_with fail
            go_ret
            exact ⟨rfl, hE.bel⟩
          · obtain ⟨b2, o2_, dl, rfl, hbl, hcell, hdl⟩ := limb_zero (hE.here.1.1.1.1.1.1.2).1 (by omega)
            rw [(int_num _).1] at hdl
            have rm : (((dl : Nat) : Int).tmod 2 == 0) = true := by
              rw [Int.tmod_eq_emod_of_nonneg (by omega), beq_iff_eq]; have h := Hhz2.out; omega
            have rm3 : (((dl : Nat) : Int) % 2 == 0) = true := by rw [beq_iff_eq]; have h := Hhz2.out; omega
            have rm2 : (IntKind.u16.wrap (((dl : Nat) : Int).tmod 2) == 0) = true := by
              rw [Int.tmod_eq_emod_of_nonneg (by omega), IntKind.wrap_u16, beq_iff_eq]; have h := Hhz2.out; omega
            have hk0 : ((nj : Int) == 0) = false := beq_eq_false_iff_ne.2 (by omega)
            have hk2 : (nj == 0) = false := beq_eq_false_iff_ne.2 hnk
            have hk3 : 0 < nj := by omega
            have hk4 : (0 : Int) < (nj : Int) := by omega
            clear hdl
            obtain ⟨k150, k151, k152, k153⟩ := (hE.here.1.1.1.1.1.2).c4
            go_wp2_with fail
            go_ret
            exact ⟨rfl, hE.bel⟩
      · skip
        have t5 : decide ((5 : Int) ≤ (m : Int)) = false := decide_eq_false (by omega)
        have t6 : ¬ (5 : Int) ≤ (m : Int) := by omega
        have t6b : decide (5 ≤ m) = false := decide_eq_false h5
        obtain ⟨k154, k155, k156, k157⟩ := (hE.here.1.1.1.1.1.2).c4
        obtain ⟨k158, k159, k160, k161⟩ := (hE.here.1.1.2).c4
        obtain ⟨k162, k163, k164, k165⟩ := (hE.here.1.1.1.1.1.1.1.1.1.1.1.1.1.2).c4
        have k166 := (hE.here.1.2).2
        go_wp2_with fail
        have hc := fcmp_v (ca := cd) (da := dd) (cb := cb) (db := db) (hE.here.1.1.1.1.2) (hE.here.1.1.1.1.1.1.1.1.1.2) (fl_le2 ld (by decide)) (fl_le2 lb (by decide))
        rw [Hn2.out] at hc
        refine (hc).mono ?_
        clear k154 k155 k156 k157 k158 k159 k160 k161 k162 k163 k164 k165 k166
        rintro e w167 ⟨rfl, hb⟩
        replace hE := hE.step hb
        clear hb
        clear hc
        go_upto_region 18 with (fail)
        clear t5 t6 t6b
        replace hE := hE.drew
        refine wp_region_held_drew (S := fun w' => w'.cell? ⟨g52, 0, none⟩ = some (.bool sd) ∧ w'.cell? ⟨g52, 1, none⟩ = some (.slice Ad nd cd) ∧ w'.cell? ⟨g52, 2, none⟩ = some (.bool td) ∧ w'.cell? ⟨g52, 3, none⟩ = some (.slice Bd md dd) ∧ w'.cell? ⟨g3, 0, none⟩ = some (.bool sz) ∧ w'.cell? ⟨g3, 1, none⟩ = some (.slice Az nz cz) ∧ w'.cell? ⟨g3, 2, none⟩ = some (.bool tz) ∧ w'.cell? ⟨g3, 3, none⟩ = some (.slice Bz mz dz) ∧ w'.cell? ⟨w.heap.size, 0, none⟩ = some (.bool sa) ∧ w'.cell? ⟨w.heap.size, 1, none⟩ = some (.slice Aa na ca) ∧ w'.cell? ⟨w.heap.size, 2, none⟩ = some (.bool ta) ∧ w'.cell? ⟨w.heap.size, 3, none⟩ = some (.slice Ba ma da)) (by kernel_rfl) (hE.here.1.1.1.2.j4 (hE.here.1.1.1.1.1.1.1.1.1.1.1.2.j4 hE.here.1.1.1.1.1.1.1.1.1.1.1.1.1.1.2.c4)) (fun hHeld => ?_)
        refine tk 0 ?_
        try simp only [PL]
        refine tk 1 ?_
        try simp only [PL]
        refine tk 3 ?_
        try simp only [PL]
        refine tk 4 ?_
        try simp only [PL]
        refine r1 2 (fun K hK => ?_)
        go_simp
        have hc := fcmp_v (ca := cd) (da := dd) (cb := cz) (db := dz) (hE.here.1.1.1.1.2) (hE.here.1.1.1.1.1.1.1.1.1.1.1.1.2) (fl_le2 ld (by decide)) (fl_le2 near_z0 (by decide))
        rw [← Hhqv.out] at hc
        refine (hc).mono ?_
        rintro e w168 ⟨rfl, hb⟩
        replace hE := hE.step hb
        clear hb
        clear hc
        go_wp2_with fail
        refine hK.out _ _ (hE.here.1.1.1.2.j4 (hE.here.1.1.1.1.1.1.1.1.1.1.1.2.j4 hE.here.1.1.1.1.1.1.1.1.1.1.1.1.1.1.2.c4)) (fun hHeld => ?_)
        clear hK K
        try simp only [PL]
        refine r1 5 (fun K hK => ?_)
        go_simp
        have hc := fcmp_v (ca := ca) (da := da) (cb := cz) (db := dz) (hE.here.1.1.1.1.1.1.1.1.1.1.2) (hE.here.1.1.1.1.1.1.1.1.1.1.1.1.2) (fl_le2 la (by decide)) (fl_le2 near_z0 (by decide))
        rw [← Hhtv.out] at hc
        refine (hc).mono ?_
        rintro e w169 ⟨rfl, hb⟩
        replace hE := hE.step hb
        clear hb
        clear hc
        go_wp2_with fail
        refine hK.out _ _ (hE.here.1.1.1.2.j4 (hE.here.1.1.1.1.1.1.1.1.1.1.1.2.j4 hE.here.1.1.1.1.1.1.1.1.1.1.1.1.1.1.2.c4)) (fun hHeld => ?_)
        clear hK K
        try simp only [PL]
        refine tk 6 ?_
        try simp only [PL]
        refine tk 7 ?_
        try simp only [PL]
        refine wpAnyH_done (by kernel_rfl) ?_ _
        rcases (show m = 1 ∨ m = 2 ∨ m = 3 ∨ m = 4 by omega) with rfl | rfl | rfl | rfl
        · skip
          have tb := Htvb.out
          have qb := Hqvb.out
          have sd := Hsd1.out rfl
          have ow : IntKind.i64.wrap (qv * tv) = qv * tv := by
            rcases (show tv = -1 ∨ tv = 0 ∨ tv = 1 by omega) with rfl | rfl | rfl <;> rw [IntKind.wrap_i64] <;> omega
          have dd : decide (qv * tv ≤ 0) = true := decide_eq_true sd
          have dd2 := sd
          clear tb qb sd
          go_wp2_with fail
          go_ret
          exact ⟨rfl, hE.bel⟩
        · skip
          have tb := Htvb.out
          have qb := Hqvb.out
          have sd := Hsd2.out rfl
          have ow : IntKind.i64.wrap (qv * tv) = qv * tv := by
            rcases (show tv = -1 ∨ tv = 0 ∨ tv = 1 by omega) with rfl | rfl | rfl <;> rw [IntKind.wrap_i64] <;> omega
          have dd : decide (0 ≤ qv * tv) = true := decide_eq_true sd
          have dd2 := sd
          clear tb qb sd
          go_wp2_with fail
          go_ret
          exact ⟨rfl, hE.bel⟩
        · skip
          have sd := Hsd3.out rfl
          have dd : decide (qv ≤ 0) = true := decide_eq_true sd
          go_wp2_with fail
          go_ret
          exact ⟨rfl, hE.bel⟩
        · skip
          have sd := Hsd4.out rfl
          have dd : decide (0 ≤ qv) = true := decide_eq_true sd
          go_wp2_with fail
          go_ret
          exact ⟨rfl, hE.bel⟩
end Go.Proofs.YtifikcemcflgjaaGreat
