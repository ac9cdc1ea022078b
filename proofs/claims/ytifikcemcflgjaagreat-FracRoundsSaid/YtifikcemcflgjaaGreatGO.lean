/-
  The walks of the reference's Round and of Round's errors.
-/
import Derived.Test.YtifikcemcflgjaaGreatK1
import Derived.Test.YtifikcemcflgjaaGreatGK
import Derived.Test.YtifikcemcflgjaaGreatGO0
namespace Go.Proofs.YtifikcemcflgjaaGreat
open Go.RowKit

set_option linter.unusedSimpArgs false in
set_option maxRecDepth 100000 in
set_option maxHeartbeats 2000000 in
theorem fround_low {a b : Rat} {sa ta sb tb : Bool} {Aa Ba Ab Bb : Option Addr} {na ca ma da nb cb mb db : Nat} {w : World} {md : Int} (ha : FV w a sa Aa na ta Ba ma) (hb : FV w b sb Ab nb tb Bb mb) (la : fl a ≤ 256) (lb : fl b ≤ 256) (hm : md < 1) :
  Calls Tryz.prog 14 #[.agg #[.bool sa, .slice Aa na ca, .bool ta, .slice Ba ma da], .agg #[.bool sb, .slice Ab nb cb, .bool tb, .slice Bb mb db], .int .u8 md] w (FErr 2 w) := by
 have u1 : decide (md < 1) = true := decide_eq_true hm
 have hE := ((((Env.start w).fv ha).fv hb).blk 26 #[.bool sa, .slice Aa na ca, .bool ta, .slice Ba ma da] (g := w.heap.size) rfl).blk 26 #[.bool sb, .slice Ab nb cb, .bool tb, .slice Bb mb db] (g := w.heap.size + 1) (by simp)
 have hE := hE.blk 26 #[.bool false, .slice none 0 0, .bool false, .slice none 0 0] (g := w.heap.size + 1 + 1) (by simp)
 obtain ⟨W0, hW0⟩ : ∃ W0, W0 = (((w.alloc (.cells #[.bool sa, .slice Aa na ca, .bool ta, .slice Ba ma da] 26)).alloc (.cells #[.bool sb, .slice Ab nb cb, .bool tb, .slice Bb mb db] 26)).alloc (.cells #[.bool false, .slice none 0 0, .bool false, .slice none 0 0] 26)) := ⟨_, rfl⟩
 rw [← hW0] at hE
 have HW0 := Lib.hid hW0
 clear hW0
 go_enter Tryz.func14, Tryz.ntmps14
 go_upto_region 1 with (fail)
 rw [← HW0.out]
 obtain ⟨k1, k2, k3, k4⟩ := (hE.here.1.1.2).c4
 obtain ⟨k5, k6, k7, k8⟩ := (hE.here.1.2).c4
 go_wp2_with fail
 have hc := fallValid_v (c := ca) (d := da) (c2 := cb) (d2 := db) hE.here.1.1.1.1.2 hE.here.1.1.1.2 la lb
 refine hc.mono ?_
 clear hc
 clear k1 k2 k3 k4 k5 k6 k7 k8
 rintro e w9 ⟨rfl, hb⟩
 replace hE := hE.step hb
 clear hb
 go_upto_region 2 with (fail)
 have hRl : w.heap.size ≤ w.heap.size + 1 + 1 := by omega
 have hB := (hE.here.2).s4 (.bool false) (.slice none 0 0) (.bool false) (.slice none 0 0)
 have hBel := bel4 hE.bel hRl (.bool false) (.slice none 0 0) (.bool false) (.slice none 0 0)
 obtain ⟨WW, hWW⟩ : ∃ x, x = ((((w9.setCell ⟨w.heap.size + 1 + 1, 0, none⟩ (.bool false)).setCell ⟨w.heap.size + 1 + 1, 1, none⟩ (.slice none 0 0)).setCell ⟨w.heap.size + 1 + 1, 2, none⟩ (.bool false)).setCell ⟨w.heap.size + 1 + 1, 3, none⟩ (.slice none 0 0)) := ⟨_, rfl⟩
 rw [← hWW] at hB hBel
 obtain ⟨x0, x1, x2, x3⟩ := (hE.here.2).c4
 obtain ⟨fz0, fz1, fz2, fz3⟩ := (hE.here.2).f4
 have HWW := Lib.hid hWW
 clear hWW
 go_wp2_with fail
 clear x0 x1 x2 x3
 rw [← HWW.out]
 obtain ⟨y0, y1, y2, y3⟩ := hB.c4
 refine bodyPost_ret (v := .tuple #[.agg #[.bool false, .slice none 0 0, .bool false, .slice none 0 0], .int .i64 2]) (by simp [results, Tryz.results14, go_sem, y0, y1, y2, y3]) rfl ?_
 exact ⟨rfl, hBel⟩
set_option linter.unusedSimpArgs false in
set_option maxRecDepth 100000 in
set_option maxHeartbeats 2000000 in
theorem fround_high {a b : Rat} {sa ta sb tb : Bool} {Aa Ba Ab Bb : Option Addr} {na ca ma da nb cb mb db : Nat} {w : World} {md : Int} (ha : FV w a sa Aa na ta Ba ma) (hb : FV w b sb Ab nb tb Bb mb) (la : fl a ≤ 256) (lb : fl b ≤ 256) (hm : 6 < md) :
  Calls Tryz.prog 14 #[.agg #[.bool sa, .slice Aa na ca, .bool ta, .slice Ba ma da], .agg #[.bool sb, .slice Ab nb cb, .bool tb, .slice Bb mb db], .int .u8 md] w (FErr 2 w) := by
 have u1 : decide (md < 1) = false := decide_eq_false (by omega)
 have u2 : decide (6 < md) = true := decide_eq_true hm
 have hE := ((((Env.start w).fv ha).fv hb).blk 26 #[.bool sa, .slice Aa na ca, .bool ta, .slice Ba ma da] (g := w.heap.size) rfl).blk 26 #[.bool sb, .slice Ab nb cb, .bool tb, .slice Bb mb db] (g := w.heap.size + 1) (by simp)
 have hE := hE.blk 26 #[.bool false, .slice none 0 0, .bool false, .slice none 0 0] (g := w.heap.size + 1 + 1) (by simp)
 obtain ⟨W0, hW0⟩ : ∃ W0, W0 = (((w.alloc (.cells #[.bool sa, .slice Aa na ca, .bool ta, .slice Ba ma da] 26)).alloc (.cells #[.bool sb, .slice Ab nb cb, .bool tb, .slice Bb mb db] 26)).alloc (.cells #[.bool false, .slice none 0 0, .bool false, .slice none 0 0] 26)) := ⟨_, rfl⟩
 rw [← hW0] at hE
 have HW0 := Lib.hid hW0
 clear hW0
 go_enter Tryz.func14, Tryz.ntmps14
 go_upto_region 1 with (fail)
 rw [← HW0.out]
 obtain ⟨k1, k2, k3, k4⟩ := (hE.here.1.1.2).c4
 obtain ⟨k5, k6, k7, k8⟩ := (hE.here.1.2).c4
 go_wp2_with fail
 have hc := fallValid_v (c := ca) (d := da) (c2 := cb) (d2 := db) hE.here.1.1.1.1.2 hE.here.1.1.1.2 la lb
 refine hc.mono ?_
 clear hc
 clear k1 k2 k3 k4 k5 k6 k7 k8
 rintro e w9 ⟨rfl, hb⟩
 replace hE := hE.step hb
 clear hb
 go_upto_region 2 with (fail)
 have hRl : w.heap.size ≤ w.heap.size + 1 + 1 := by omega
 have hB := (hE.here.2).s4 (.bool false) (.slice none 0 0) (.bool false) (.slice none 0 0)
 have hBel := bel4 hE.bel hRl (.bool false) (.slice none 0 0) (.bool false) (.slice none 0 0)
 obtain ⟨WW, hWW⟩ : ∃ x, x = ((((w9.setCell ⟨w.heap.size + 1 + 1, 0, none⟩ (.bool false)).setCell ⟨w.heap.size + 1 + 1, 1, none⟩ (.slice none 0 0)).setCell ⟨w.heap.size + 1 + 1, 2, none⟩ (.bool false)).setCell ⟨w.heap.size + 1 + 1, 3, none⟩ (.slice none 0 0)) := ⟨_, rfl⟩
 rw [← hWW] at hB hBel
 obtain ⟨x0, x1, x2, x3⟩ := (hE.here.2).c4
 obtain ⟨fz0, fz1, fz2, fz3⟩ := (hE.here.2).f4
 have HWW := Lib.hid hWW
 clear hWW
 go_wp2_with fail
 clear x0 x1 x2 x3
 rw [← HWW.out]
 obtain ⟨y0, y1, y2, y3⟩ := hB.c4
 refine bodyPost_ret (v := .tuple #[.agg #[.bool false, .slice none 0 0, .bool false, .slice none 0 0], .int .i64 2]) (by simp [results, Tryz.results14, go_sem, y0, y1, y2, y3]) rfl ?_
 exact ⟨rfl, hBel⟩
set_option linter.unusedSimpArgs false in
set_option maxRecDepth 100000 in
set_option maxHeartbeats 2000000 in
theorem fround_unit0 {a b : Rat} {sa ta sb tb : Bool} {Aa Ba Ab Bb : Option Addr} {na ca ma da nb cb mb db : Nat} {w : World} (ha : FV w a sa Aa na ta Ba ma) (hb : FV w b sb Ab nb tb Bb mb) (la : fl a ≤ 256) (lb : fl b ≤ 256) (hb0 : b.num = 0) (m : Nat) (m1 : 1 ≤ m) (m6 : m ≤ 6) :
  Calls Tryz.prog 14 #[.agg #[.bool sa, .slice Aa na ca, .bool ta, .slice Ba ma da], .agg #[.bool sb, .slice Ab nb cb, .bool tb, .slice Bb mb db], .int .u8 (m : Int)] w (FErr 20 w) := by
 have u1 : decide ((m : Int) < 1) = false := decide_eq_false (by omega)
 have u2 : decide ((6 : Int) < (m : Int)) = false := decide_eq_false (by omega)
 have u3 : decide (m < 1) = false := decide_eq_false (by omega)
 have u4 : decide (6 < m) = false := decide_eq_false (by omega)
 have hE := ((((Env.start w).fv ha).fv hb).blk 26 #[.bool sa, .slice Aa na ca, .bool ta, .slice Ba ma da] (g := w.heap.size) rfl).blk 26 #[.bool sb, .slice Ab nb cb, .bool tb, .slice Bb mb db] (g := w.heap.size + 1) (by simp)
 have hE := hE.blk 26 #[.bool false, .slice none 0 0, .bool false, .slice none 0 0] (g := w.heap.size + 1 + 1) (by simp)
 obtain ⟨W0, hW0⟩ : ∃ W0, W0 = (((w.alloc (.cells #[.bool sa, .slice Aa na ca, .bool ta, .slice Ba ma da] 26)).alloc (.cells #[.bool sb, .slice Ab nb cb, .bool tb, .slice Bb mb db] 26)).alloc (.cells #[.bool false, .slice none 0 0, .bool false, .slice none 0 0] 26)) := ⟨_, rfl⟩
 rw [← hW0] at hE
 have HW0 := Lib.hid hW0
 clear hW0
 go_enter Tryz.func14, Tryz.ntmps14
 go_upto_region 1 with (fail)
 rw [← HW0.out]
 obtain ⟨k1, k2, k3, k4⟩ := (hE.here.1.1.2).c4
 obtain ⟨k5, k6, k7, k8⟩ := (hE.here.1.2).c4
 go_wp2_with fail
 have hc := fallValid_v (c := ca) (d := da) (c2 := cb) (d2 := db) hE.here.1.1.1.1.2 hE.here.1.1.1.2 la lb
 refine hc.mono ?_
 clear hc
 clear k1 k2 k3 k4 k5 k6 k7 k8
 rintro e w9 ⟨rfl, hb⟩
 replace hE := hE.step hb
 clear hb
 obtain ⟨k10, k11, k12, k13⟩ := (hE.here.1.2).c4
 go_wp2_with fail
 have hc := ftzero_v (c := cb) (d := db) hE.here.1.1.1.2 true (decide_eq_true hb0)
 refine hc.mono ?_
 clear hc
 clear k10 k11 k12 k13
 rintro e w14 ⟨rfl, hb⟩
 replace hE := hE.step hb
 clear hb
 go_upto_region 4 with (fail)
 have hRl : w.heap.size ≤ w.heap.size + 1 + 1 := by omega
 have hB := (hE.here.2).s4 (.bool false) (.slice none 0 0) (.bool false) (.slice none 0 0)
 have hBel := bel4 hE.bel hRl (.bool false) (.slice none 0 0) (.bool false) (.slice none 0 0)
 obtain ⟨WW, hWW⟩ : ∃ x, x = ((((w14.setCell ⟨w.heap.size + 1 + 1, 0, none⟩ (.bool false)).setCell ⟨w.heap.size + 1 + 1, 1, none⟩ (.slice none 0 0)).setCell ⟨w.heap.size + 1 + 1, 2, none⟩ (.bool false)).setCell ⟨w.heap.size + 1 + 1, 3, none⟩ (.slice none 0 0)) := ⟨_, rfl⟩
 rw [← hWW] at hB hBel
 obtain ⟨x0, x1, x2, x3⟩ := (hE.here.2).c4
 obtain ⟨fz0, fz1, fz2, fz3⟩ := (hE.here.2).f4
 have HWW := Lib.hid hWW
 clear hWW
 go_wp2_with fail
 clear x0 x1 x2 x3
 rw [← HWW.out]
 obtain ⟨y0, y1, y2, y3⟩ := hB.c4
 refine bodyPost_ret (v := .tuple #[.agg #[.bool false, .slice none 0 0, .bool false, .slice none 0 0], .int .i64 20]) (by simp [results, Tryz.results14, go_sem, y0, y1, y2, y3]) rfl ?_
 exact ⟨rfl, hBel⟩
set_option linter.unusedSimpArgs false in
set_option maxRecDepth 100000 in
set_option maxHeartbeats 2000000 in
theorem fround_unitn {a b : Rat} {sa ta sb tb : Bool} {Aa Ba Ab Bb : Option Addr} {na ca ma da nb cb mb db : Nat} {w : World} (ha : FV w a sa Aa na ta Ba ma) (hb : FV w b sb Ab nb tb Bb mb) (la : fl a ≤ 256) (lb : fl b ≤ 256) (hb0 : b.num < 0) (m : Nat) (m1 : 1 ≤ m) (m6 : m ≤ 6) :
  Calls Tryz.prog 14 #[.agg #[.bool sa, .slice Aa na ca, .bool ta, .slice Ba ma da], .agg #[.bool sb, .slice Ab nb cb, .bool tb, .slice Bb mb db], .int .u8 (m : Int)] w (FErr 20 w) := by
 have u1 : decide ((m : Int) < 1) = false := decide_eq_false (by omega)
 have u2 : decide ((6 : Int) < (m : Int)) = false := decide_eq_false (by omega)
 have u3 : decide (m < 1) = false := decide_eq_false (by omega)
 have u4 : decide (6 < m) = false := decide_eq_false (by omega)
 obtain rfl : sb = true := by rw [hb.1.sgn]; exact decide_eq_true hb0
 have hE := ((((Env.start w).fv ha).fv hb).blk 26 #[.bool sa, .slice Aa na ca, .bool ta, .slice Ba ma da] (g := w.heap.size) rfl).blk 26 #[.bool true, .slice Ab nb cb, .bool tb, .slice Bb mb db] (g := w.heap.size + 1) (by simp)
 have hE := hE.blk 26 #[.bool false, .slice none 0 0, .bool false, .slice none 0 0] (g := w.heap.size + 1 + 1) (by simp)
 obtain ⟨W0, hW0⟩ : ∃ W0, W0 = (((w.alloc (.cells #[.bool sa, .slice Aa na ca, .bool ta, .slice Ba ma da] 26)).alloc (.cells #[.bool true, .slice Ab nb cb, .bool tb, .slice Bb mb db] 26)).alloc (.cells #[.bool false, .slice none 0 0, .bool false, .slice none 0 0] 26)) := ⟨_, rfl⟩
 rw [← hW0] at hE
 have HW0 := Lib.hid hW0
 clear hW0
 go_enter Tryz.func14, Tryz.ntmps14
 go_upto_region 1 with (fail)
 rw [← HW0.out]
 obtain ⟨k1, k2, k3, k4⟩ := (hE.here.1.1.2).c4
 obtain ⟨k5, k6, k7, k8⟩ := (hE.here.1.2).c4
 go_wp2_with fail
 have hc := fallValid_v (c := ca) (d := da) (c2 := cb) (d2 := db) hE.here.1.1.1.1.2 hE.here.1.1.1.2 la lb
 refine hc.mono ?_
 clear hc
 clear k1 k2 k3 k4 k5 k6 k7 k8
 rintro e w9 ⟨rfl, hb⟩
 replace hE := hE.step hb
 clear hb
 obtain ⟨k10, k11, k12, k13⟩ := (hE.here.1.2).c4
 go_wp2_with fail
 have hc := ftzero_v (c := cb) (d := db) hE.here.1.1.1.2 false (decide_eq_false (by omega))
 refine hc.mono ?_
 clear hc
 clear k10 k11 k12 k13
 rintro e w14 ⟨rfl, hb⟩
 replace hE := hE.step hb
 clear hb
 obtain ⟨k15, k16, k17, k18⟩ := (hE.here.1.2).c4
 go_wp2_with fail
 have hc := ftneg_v (c := cb) (d := db) hE.here.1.1.1.2
 refine hc.mono ?_
 clear hc
 clear k15 k16 k17 k18
 rintro e w19 ⟨rfl, hb⟩
 replace hE := hE.step hb
 clear hb
 go_upto_region 4 with (fail)
 have hRl : w.heap.size ≤ w.heap.size + 1 + 1 := by omega
 have hB := (hE.here.2).s4 (.bool false) (.slice none 0 0) (.bool false) (.slice none 0 0)
 have hBel := bel4 hE.bel hRl (.bool false) (.slice none 0 0) (.bool false) (.slice none 0 0)
 obtain ⟨WW, hWW⟩ : ∃ x, x = ((((w19.setCell ⟨w.heap.size + 1 + 1, 0, none⟩ (.bool false)).setCell ⟨w.heap.size + 1 + 1, 1, none⟩ (.slice none 0 0)).setCell ⟨w.heap.size + 1 + 1, 2, none⟩ (.bool false)).setCell ⟨w.heap.size + 1 + 1, 3, none⟩ (.slice none 0 0)) := ⟨_, rfl⟩
 rw [← hWW] at hB hBel
 obtain ⟨x0, x1, x2, x3⟩ := (hE.here.2).c4
 obtain ⟨fz0, fz1, fz2, fz3⟩ := (hE.here.2).f4
 have HWW := Lib.hid hWW
 clear hWW
 go_wp2_with fail
 clear x0 x1 x2 x3
 rw [← HWW.out]
 obtain ⟨y0, y1, y2, y3⟩ := hB.c4
 refine bodyPost_ret (v := .tuple #[.agg #[.bool false, .slice none 0 0, .bool false, .slice none 0 0], .int .i64 20]) (by simp [results, Tryz.results14, go_sem, y0, y1, y2, y3]) rfl ?_
 exact ⟨rfl, hBel⟩
set_option linter.unusedSimpArgs false in
set_option maxRecDepth 100000 in
set_option maxHeartbeats 2000000 in
theorem rround_bad1 {sa ta sb tb : Bool} {Aa Ba Ab Bb : Option Addr} {na ca ma da nb cb mb db : Nat} {fa ga fb gb : Nat → Nat} {md : Int} {w : World} (ra : FRd w Aa na fa Ba ma ga) (la : na ≤ 900000 ∧ ma ≤ 900000) (rb : FRd w Ab nb fb Bb mb gb) (_lb : nb ≤ 900000 ∧ mb ≤ 900000) (h1 : okF sa na fa ta ma ga = false) :
  Calls Tryz.prog 15 #[.agg #[.bool sa, .slice Aa na ca, .bool ta, .slice Ba ma da], .agg #[.bool sb, .slice Ab nb cb, .bool tb, .slice Bb mb db], .int .u8 md] w (FErr 2 w) := by
 have hE := ((((Env.start w).frd ra).frd rb).blk 26 #[.bool sa, .slice Aa na ca, .bool ta, .slice Ba ma da] (g := w.heap.size) rfl).blk 26 #[.bool sb, .slice Ab nb cb, .bool tb, .slice Bb mb db] (g := w.heap.size + 1) (by simp)
 have hE := hE.blk 26 #[.bool false, .slice none 0 0, .bool false, .slice none 0 0] (g := w.heap.size + 1 + 1) (by simp)
 obtain ⟨W0, hW0⟩ : ∃ W0, W0 = (((w.alloc (.cells #[.bool sa, .slice Aa na ca, .bool ta, .slice Ba ma da] 26)).alloc (.cells #[.bool sb, .slice Ab nb cb, .bool tb, .slice Bb mb db] 26)).alloc (.cells #[.bool false, .slice none 0 0, .bool false, .slice none 0 0] 26)) := ⟨_, rfl⟩
 rw [← hW0] at hE
 have HW0 := Lib.hid hW0
 clear hW0
 go_enter Tryz.func15, Tryz.ntmps15
 go_upto_region 1 with (fail)
 rw [← HW0.out]
 obtain ⟨k1, k2, k3, k4⟩ := (hE.here.1.1.2).c4
 obtain ⟨k5, k6, k7, k8⟩ := (hE.here.1.2).c4
 go_wp2_with fail
 have hc := rfvalid_any (sa := sa) (ta := ta) (ca := ca) (da := da) (hE.here.1.1.1.1.2) la.1 la.2
 rw [h1] at hc
 refine hc.mono ?_
 clear hc
 clear k1 k2 k3 k4 k5 k6 k7 k8
 rintro e w9 ⟨rfl, hb⟩
 replace hE := hE.step hb
 clear hb
 go_upto_region 2 with (fail)
 have hRl : w.heap.size ≤ w.heap.size + 1 + 1 := by omega
 have hB := (hE.here.2).s4 (.bool false) (.slice none 0 0) (.bool false) (.slice none 0 0)
 have hBel := bel4 hE.bel hRl (.bool false) (.slice none 0 0) (.bool false) (.slice none 0 0)
 obtain ⟨WW, hWW⟩ : ∃ x, x = ((((w9.setCell ⟨w.heap.size + 1 + 1, 0, none⟩ (.bool false)).setCell ⟨w.heap.size + 1 + 1, 1, none⟩ (.slice none 0 0)).setCell ⟨w.heap.size + 1 + 1, 2, none⟩ (.bool false)).setCell ⟨w.heap.size + 1 + 1, 3, none⟩ (.slice none 0 0)) := ⟨_, rfl⟩
 rw [← hWW] at hB hBel
 obtain ⟨x0, x1, x2, x3⟩ := (hE.here.2).c4
 obtain ⟨fz0, fz1, fz2, fz3⟩ := (hE.here.2).f4
 have HWW := Lib.hid hWW
 clear hWW
 go_wp2_with fail
 clear x0 x1 x2 x3
 rw [← HWW.out]
 obtain ⟨y0, y1, y2, y3⟩ := hB.c4
 refine bodyPost_ret (v := .tuple #[.agg #[.bool false, .slice none 0 0, .bool false, .slice none 0 0], .int .i64 2]) (by simp [results, Tryz.results15, go_sem, y0, y1, y2, y3]) rfl ?_
 exact ⟨rfl, hBel⟩
set_option linter.unusedSimpArgs false in
set_option maxRecDepth 100000 in
set_option maxHeartbeats 2000000 in
theorem rround_bad2 {sa ta sb tb : Bool} {Aa Ba Ab Bb : Option Addr} {na ca ma da nb cb mb db : Nat} {fa ga fb gb : Nat → Nat} {md : Int} {w : World} (ra : FRd w Aa na fa Ba ma ga) (la : na ≤ 900000 ∧ ma ≤ 900000) (rb : FRd w Ab nb fb Bb mb gb) (lb : nb ≤ 900000 ∧ mb ≤ 900000) (h1 : okF sa na fa ta ma ga = true) (h2 : okF sb nb fb tb mb gb = false) :
  Calls Tryz.prog 15 #[.agg #[.bool sa, .slice Aa na ca, .bool ta, .slice Ba ma da], .agg #[.bool sb, .slice Ab nb cb, .bool tb, .slice Bb mb db], .int .u8 md] w (FErr 2 w) := by
 have hE := ((((Env.start w).frd ra).frd rb).blk 26 #[.bool sa, .slice Aa na ca, .bool ta, .slice Ba ma da] (g := w.heap.size) rfl).blk 26 #[.bool sb, .slice Ab nb cb, .bool tb, .slice Bb mb db] (g := w.heap.size + 1) (by simp)
 have hE := hE.blk 26 #[.bool false, .slice none 0 0, .bool false, .slice none 0 0] (g := w.heap.size + 1 + 1) (by simp)
 obtain ⟨W0, hW0⟩ : ∃ W0, W0 = (((w.alloc (.cells #[.bool sa, .slice Aa na ca, .bool ta, .slice Ba ma da] 26)).alloc (.cells #[.bool sb, .slice Ab nb cb, .bool tb, .slice Bb mb db] 26)).alloc (.cells #[.bool false, .slice none 0 0, .bool false, .slice none 0 0] 26)) := ⟨_, rfl⟩
 rw [← hW0] at hE
 have HW0 := Lib.hid hW0
 clear hW0
 go_enter Tryz.func15, Tryz.ntmps15
 go_upto_region 1 with (fail)
 rw [← HW0.out]
 obtain ⟨k1, k2, k3, k4⟩ := (hE.here.1.1.2).c4
 obtain ⟨k5, k6, k7, k8⟩ := (hE.here.1.2).c4
 go_wp2_with fail
 have hc := rfvalid_any (sa := sa) (ta := ta) (ca := ca) (da := da) (hE.here.1.1.1.1.2) la.1 la.2
 rw [h1] at hc
 refine hc.mono ?_
 clear hc
 clear k1 k2 k3 k4 k5 k6 k7 k8
 rintro e w9 ⟨rfl, hb⟩
 replace hE := hE.step hb
 clear hb
 obtain ⟨k10, k11, k12, k13⟩ := (hE.here.1.1.2).c4
 obtain ⟨k14, k15, k16, k17⟩ := (hE.here.1.2).c4
 go_wp2_with fail
 have hc := rfvalid_any (sa := sb) (ta := tb) (ca := cb) (da := db) (hE.here.1.1.1.2) lb.1 lb.2
 rw [h2] at hc
 refine hc.mono ?_
 clear hc
 clear k10 k11 k12 k13 k14 k15 k16 k17
 rintro e w18 ⟨rfl, hb⟩
 replace hE := hE.step hb
 clear hb
 go_upto_region 2 with (fail)
 have hRl : w.heap.size ≤ w.heap.size + 1 + 1 := by omega
 have hB := (hE.here.2).s4 (.bool false) (.slice none 0 0) (.bool false) (.slice none 0 0)
 have hBel := bel4 hE.bel hRl (.bool false) (.slice none 0 0) (.bool false) (.slice none 0 0)
 obtain ⟨WW, hWW⟩ : ∃ x, x = ((((w18.setCell ⟨w.heap.size + 1 + 1, 0, none⟩ (.bool false)).setCell ⟨w.heap.size + 1 + 1, 1, none⟩ (.slice none 0 0)).setCell ⟨w.heap.size + 1 + 1, 2, none⟩ (.bool false)).setCell ⟨w.heap.size + 1 + 1, 3, none⟩ (.slice none 0 0)) := ⟨_, rfl⟩
 rw [← hWW] at hB hBel
 obtain ⟨x0, x1, x2, x3⟩ := (hE.here.2).c4
 obtain ⟨fz0, fz1, fz2, fz3⟩ := (hE.here.2).f4
 have HWW := Lib.hid hWW
 clear hWW
 go_wp2_with fail
 clear x0 x1 x2 x3
 rw [← HWW.out]
 obtain ⟨y0, y1, y2, y3⟩ := hB.c4
 refine bodyPost_ret (v := .tuple #[.agg #[.bool false, .slice none 0 0, .bool false, .slice none 0 0], .int .i64 2]) (by simp [results, Tryz.results15, go_sem, y0, y1, y2, y3]) rfl ?_
 exact ⟨rfl, hBel⟩
set_option linter.unusedSimpArgs false in
set_option maxRecDepth 100000 in
set_option maxHeartbeats 2000000 in
theorem rround_low {a b : Rat} {sa ta sb tb : Bool} {Aa Ba Ab Bb : Option Addr} {na ca ma da nb cb mb db : Nat} {w : World} {md : Int} (ha : FV w a sa Aa na ta Ba ma) (hb : FV w b sb Ab nb tb Bb mb) (la : fl a ≤ 256) (lb : fl b ≤ 256) (hm : md < 1) :
  Calls Tryz.prog 15 #[.agg #[.bool sa, .slice Aa na ca, .bool ta, .slice Ba ma da], .agg #[.bool sb, .slice Ab nb cb, .bool tb, .slice Bb mb db], .int .u8 md] w (FErr 2 w) := by
 have u1 : decide (md < 1) = true := decide_eq_true hm
 have hE := ((((Env.start w).fv ha).fv hb).blk 26 #[.bool sa, .slice Aa na ca, .bool ta, .slice Ba ma da] (g := w.heap.size) rfl).blk 26 #[.bool sb, .slice Ab nb cb, .bool tb, .slice Bb mb db] (g := w.heap.size + 1) (by simp)
 have hE := hE.blk 26 #[.bool false, .slice none 0 0, .bool false, .slice none 0 0] (g := w.heap.size + 1 + 1) (by simp)
 obtain ⟨W0, hW0⟩ : ∃ W0, W0 = (((w.alloc (.cells #[.bool sa, .slice Aa na ca, .bool ta, .slice Ba ma da] 26)).alloc (.cells #[.bool sb, .slice Ab nb cb, .bool tb, .slice Bb mb db] 26)).alloc (.cells #[.bool false, .slice none 0 0, .bool false, .slice none 0 0] 26)) := ⟨_, rfl⟩
 rw [← hW0] at hE
 have HW0 := Lib.hid hW0
 clear hW0
 go_enter Tryz.func15, Tryz.ntmps15
 go_upto_region 1 with (fail)
 rw [← HW0.out]
 obtain ⟨k1, k2, k3, k4⟩ := (hE.here.1.1.2).c4
 obtain ⟨k5, k6, k7, k8⟩ := (hE.here.1.2).c4
 go_wp2_with fail
 have hc := rfvalid_v (c := ca) (d := da) hE.here.1.1.1.1.2 la
 refine hc.mono ?_
 clear hc
 clear k1 k2 k3 k4 k5 k6 k7 k8
 rintro e w9 ⟨rfl, hb⟩
 replace hE := hE.step hb
 clear hb
 obtain ⟨k10, k11, k12, k13⟩ := (hE.here.1.1.2).c4
 obtain ⟨k14, k15, k16, k17⟩ := (hE.here.1.2).c4
 go_wp2_with fail
 have hc := rfvalid_v (c := cb) (d := db) hE.here.1.1.1.2 lb
 refine hc.mono ?_
 clear hc
 clear k10 k11 k12 k13 k14 k15 k16 k17
 rintro e w18 ⟨rfl, hb⟩
 replace hE := hE.step hb
 clear hb
 go_upto_region 2 with (fail)
 have hRl : w.heap.size ≤ w.heap.size + 1 + 1 := by omega
 have hB := (hE.here.2).s4 (.bool false) (.slice none 0 0) (.bool false) (.slice none 0 0)
 have hBel := bel4 hE.bel hRl (.bool false) (.slice none 0 0) (.bool false) (.slice none 0 0)
 obtain ⟨WW, hWW⟩ : ∃ x, x = ((((w18.setCell ⟨w.heap.size + 1 + 1, 0, none⟩ (.bool false)).setCell ⟨w.heap.size + 1 + 1, 1, none⟩ (.slice none 0 0)).setCell ⟨w.heap.size + 1 + 1, 2, none⟩ (.bool false)).setCell ⟨w.heap.size + 1 + 1, 3, none⟩ (.slice none 0 0)) := ⟨_, rfl⟩
 rw [← hWW] at hB hBel
 obtain ⟨x0, x1, x2, x3⟩ := (hE.here.2).c4
 obtain ⟨fz0, fz1, fz2, fz3⟩ := (hE.here.2).f4
 have HWW := Lib.hid hWW
 clear hWW
 go_wp2_with fail
 clear x0 x1 x2 x3
 rw [← HWW.out]
 obtain ⟨y0, y1, y2, y3⟩ := hB.c4
 refine bodyPost_ret (v := .tuple #[.agg #[.bool false, .slice none 0 0, .bool false, .slice none 0 0], .int .i64 2]) (by simp [results, Tryz.results15, go_sem, y0, y1, y2, y3]) rfl ?_
 exact ⟨rfl, hBel⟩
set_option linter.unusedSimpArgs false in
set_option maxRecDepth 100000 in
set_option maxHeartbeats 2000000 in
theorem rround_high {a b : Rat} {sa ta sb tb : Bool} {Aa Ba Ab Bb : Option Addr} {na ca ma da nb cb mb db : Nat} {w : World} {md : Int} (ha : FV w a sa Aa na ta Ba ma) (hb : FV w b sb Ab nb tb Bb mb) (la : fl a ≤ 256) (lb : fl b ≤ 256) (hm : 6 < md) :
  Calls Tryz.prog 15 #[.agg #[.bool sa, .slice Aa na ca, .bool ta, .slice Ba ma da], .agg #[.bool sb, .slice Ab nb cb, .bool tb, .slice Bb mb db], .int .u8 md] w (FErr 2 w) := by
 have u1 : decide (md < 1) = false := decide_eq_false (by omega)
 have u2 : decide (6 < md) = true := decide_eq_true hm
 have hE := ((((Env.start w).fv ha).fv hb).blk 26 #[.bool sa, .slice Aa na ca, .bool ta, .slice Ba ma da] (g := w.heap.size) rfl).blk 26 #[.bool sb, .slice Ab nb cb, .bool tb, .slice Bb mb db] (g := w.heap.size + 1) (by simp)
 have hE := hE.blk 26 #[.bool false, .slice none 0 0, .bool false, .slice none 0 0] (g := w.heap.size + 1 + 1) (by simp)
 obtain ⟨W0, hW0⟩ : ∃ W0, W0 = (((w.alloc (.cells #[.bool sa, .slice Aa na ca, .bool ta, .slice Ba ma da] 26)).alloc (.cells #[.bool sb, .slice Ab nb cb, .bool tb, .slice Bb mb db] 26)).alloc (.cells #[.bool false, .slice none 0 0, .bool false, .slice none 0 0] 26)) := ⟨_, rfl⟩
 rw [← hW0] at hE
 have HW0 := Lib.hid hW0
 clear hW0
 go_enter Tryz.func15, Tryz.ntmps15
 go_upto_region 1 with (fail)
 rw [← HW0.out]
 obtain ⟨k1, k2, k3, k4⟩ := (hE.here.1.1.2).c4
 obtain ⟨k5, k6, k7, k8⟩ := (hE.here.1.2).c4
 go_wp2_with fail
 have hc := rfvalid_v (c := ca) (d := da) hE.here.1.1.1.1.2 la
 refine hc.mono ?_
 clear hc
 clear k1 k2 k3 k4 k5 k6 k7 k8
 rintro e w9 ⟨rfl, hb⟩
 replace hE := hE.step hb
 clear hb
 obtain ⟨k10, k11, k12, k13⟩ := (hE.here.1.1.2).c4
 obtain ⟨k14, k15, k16, k17⟩ := (hE.here.1.2).c4
 go_wp2_with fail
 have hc := rfvalid_v (c := cb) (d := db) hE.here.1.1.1.2 lb
 refine hc.mono ?_
 clear hc
 clear k10 k11 k12 k13 k14 k15 k16 k17
 rintro e w18 ⟨rfl, hb⟩
 replace hE := hE.step hb
 clear hb
 go_upto_region 2 with (fail)
 have hRl : w.heap.size ≤ w.heap.size + 1 + 1 := by omega
 have hB := (hE.here.2).s4 (.bool false) (.slice none 0 0) (.bool false) (.slice none 0 0)
 have hBel := bel4 hE.bel hRl (.bool false) (.slice none 0 0) (.bool false) (.slice none 0 0)
 obtain ⟨WW, hWW⟩ : ∃ x, x = ((((w18.setCell ⟨w.heap.size + 1 + 1, 0, none⟩ (.bool false)).setCell ⟨w.heap.size + 1 + 1, 1, none⟩ (.slice none 0 0)).setCell ⟨w.heap.size + 1 + 1, 2, none⟩ (.bool false)).setCell ⟨w.heap.size + 1 + 1, 3, none⟩ (.slice none 0 0)) := ⟨_, rfl⟩
 rw [← hWW] at hB hBel
 obtain ⟨x0, x1, x2, x3⟩ := (hE.here.2).c4
 obtain ⟨fz0, fz1, fz2, fz3⟩ := (hE.here.2).f4
 have HWW := Lib.hid hWW
 clear hWW
 go_wp2_with fail
 clear x0 x1 x2 x3
 rw [← HWW.out]
 obtain ⟨y0, y1, y2, y3⟩ := hB.c4
 refine bodyPost_ret (v := .tuple #[.agg #[.bool false, .slice none 0 0, .bool false, .slice none 0 0], .int .i64 2]) (by simp [results, Tryz.results15, go_sem, y0, y1, y2, y3]) rfl ?_
 exact ⟨rfl, hBel⟩
theorem round_ln2 {m : Nat} {a b : Rat} {i j : Nat} (ha : fl a ≤ i) (hb : fl b ≤ j) (hij : 1 ≤ i + j := by decide) : ln b16 (roundZ m a b).natAbs ≤ i + j + 2 := by
 obtain ⟨a1, a2⟩ := fl_z ha
 obtain ⟨b1, b2⟩ := fl_z hb
 have hk : ln b16 (kQ a b).natAbs ≤ i + j + 1 := fdiv_len2 (ln_mulZ a1 b2) hij
 have hk1 : ln b16 (kQ a b + 1).natAbs ≤ i + j + 1 + 1 := ln_addZ (m := i + j + 1) hk (Nat.le_trans (by decide) (show 1 ≤ i + j + 1 by omega))
 unfold roundZ
 split
 · omega
 · split <;> omega
set_option linter.unusedSimpArgs false in
set_option maxRecDepth 100000 in
set_option maxHeartbeats 2000000 in
theorem rround_unit0 {a b : Rat} {sa ta sb tb : Bool} {Aa Ba Ab Bb : Option Addr} {na ca ma da nb cb mb db : Nat} {w : World} (ha : FV w a sa Aa na ta Ba ma) (hb : FV w b sb Ab nb tb Bb mb) (la : fl a ≤ 256) (lb : fl b ≤ 256) (hb0 : b.num = 0) (m : Nat) (m1 : 1 ≤ m) (m6 : m ≤ 6) :
  Calls Tryz.prog 15 #[.agg #[.bool sa, .slice Aa na ca, .bool ta, .slice Ba ma da], .agg #[.bool sb, .slice Ab nb cb, .bool tb, .slice Bb mb db], .int .u8 (m : Int)] w (FErr 20 w) := by
 have u1 : decide ((m : Int) < 1) = false := decide_eq_false (by omega)
 have u2 : decide ((6 : Int) < (m : Int)) = false := decide_eq_false (by omega)
 have u3 : decide (m < 1) = false := decide_eq_false (by omega)
 have u4 : decide (6 < m) = false := decide_eq_false (by omega)
 obtain rfl : sb = false := by rw [hb.1.sgn]; exact decide_eq_false (by omega)
 have hE := ((((Env.start w).fv ha).fv hb).blk 26 #[.bool sa, .slice Aa na ca, .bool ta, .slice Ba ma da] (g := w.heap.size) rfl).blk 26 #[.bool false, .slice Ab nb cb, .bool tb, .slice Bb mb db] (g := w.heap.size + 1) (by simp)
 have hE := hE.blk 26 #[.bool false, .slice none 0 0, .bool false, .slice none 0 0] (g := w.heap.size + 1 + 1) (by simp)
 obtain ⟨W0, hW0⟩ : ∃ W0, W0 = (((w.alloc (.cells #[.bool sa, .slice Aa na ca, .bool ta, .slice Ba ma da] 26)).alloc (.cells #[.bool false, .slice Ab nb cb, .bool tb, .slice Bb mb db] 26)).alloc (.cells #[.bool false, .slice none 0 0, .bool false, .slice none 0 0] 26)) := ⟨_, rfl⟩
 rw [← hW0] at hE
 have HW0 := Lib.hid hW0
 clear hW0
 go_enter Tryz.func15, Tryz.ntmps15
 go_upto_region 1 with (fail)
 rw [← HW0.out]
 obtain ⟨k1, k2, k3, k4⟩ := (hE.here.1.1.2).c4
 obtain ⟨k5, k6, k7, k8⟩ := (hE.here.1.2).c4
 go_wp2_with fail
 have hc := rfvalid_v (c := ca) (d := da) hE.here.1.1.1.1.2 la
 refine hc.mono ?_
 clear hc
 clear k1 k2 k3 k4 k5 k6 k7 k8
 rintro e w9 ⟨rfl, hb⟩
 replace hE := hE.step hb
 clear hb
 obtain ⟨k10, k11, k12, k13⟩ := (hE.here.1.1.2).c4
 obtain ⟨k14, k15, k16, k17⟩ := (hE.here.1.2).c4
 go_wp2_with fail
 have hc := rfvalid_v (c := cb) (d := db) hE.here.1.1.1.2 lb
 refine hc.mono ?_
 clear hc
 clear k10 k11 k12 k13 k14 k15 k16 k17
 rintro e w18 ⟨rfl, hb⟩
 replace hE := hE.step hb
 clear hb
 obtain ⟨k19, k20, k21, k22⟩ := (hE.here.1.2).c4
 go_wp2_with fail
 have hc := rfzero_v (ca := cb) (da := db) hE.here.1.1.1.2
 rw [decide_eq_true hb0] at hc
 have hc := hc
 refine hc.mono ?_
 clear hc
 clear k19 k20 k21 k22
 rintro e w23 ⟨rfl, hb⟩
 replace hE := hE.step hb
 clear hb
 skip
 go_upto_region 4 with (fail)
 have hRl : w.heap.size ≤ w.heap.size + 1 + 1 := by omega
 have hB := (hE.here.2).s4 (.bool false) (.slice none 0 0) (.bool false) (.slice none 0 0)
 have hBel := bel4 hE.bel hRl (.bool false) (.slice none 0 0) (.bool false) (.slice none 0 0)
 obtain ⟨WW, hWW⟩ : ∃ x, x = ((((w23.setCell ⟨w.heap.size + 1 + 1, 0, none⟩ (.bool false)).setCell ⟨w.heap.size + 1 + 1, 1, none⟩ (.slice none 0 0)).setCell ⟨w.heap.size + 1 + 1, 2, none⟩ (.bool false)).setCell ⟨w.heap.size + 1 + 1, 3, none⟩ (.slice none 0 0)) := ⟨_, rfl⟩
 rw [← hWW] at hB hBel
 obtain ⟨x0, x1, x2, x3⟩ := (hE.here.2).c4
 obtain ⟨fz0, fz1, fz2, fz3⟩ := (hE.here.2).f4
 have HWW := Lib.hid hWW
 clear hWW
 go_wp2_with fail
 clear x0 x1 x2 x3
 rw [← HWW.out]
 obtain ⟨y0, y1, y2, y3⟩ := hB.c4
 refine bodyPost_ret (v := .tuple #[.agg #[.bool false, .slice none 0 0, .bool false, .slice none 0 0], .int .i64 20]) (by simp [results, Tryz.results15, go_sem, y0, y1, y2, y3]) rfl ?_
 exact ⟨rfl, hBel⟩
set_option linter.unusedSimpArgs false in
set_option maxRecDepth 100000 in
set_option maxHeartbeats 2000000 in
theorem rround_unitn {a b : Rat} {sa ta sb tb : Bool} {Aa Ba Ab Bb : Option Addr} {na ca ma da nb cb mb db : Nat} {w : World} (ha : FV w a sa Aa na ta Ba ma) (hb : FV w b sb Ab nb tb Bb mb) (la : fl a ≤ 256) (lb : fl b ≤ 256) (hb0 : b.num < 0) (m : Nat) (m1 : 1 ≤ m) (m6 : m ≤ 6) :
  Calls Tryz.prog 15 #[.agg #[.bool sa, .slice Aa na ca, .bool ta, .slice Ba ma da], .agg #[.bool sb, .slice Ab nb cb, .bool tb, .slice Bb mb db], .int .u8 (m : Int)] w (FErr 20 w) := by
 have u1 : decide ((m : Int) < 1) = false := decide_eq_false (by omega)
 have u2 : decide ((6 : Int) < (m : Int)) = false := decide_eq_false (by omega)
 have u3 : decide (m < 1) = false := decide_eq_false (by omega)
 have u4 : decide (6 < m) = false := decide_eq_false (by omega)
 obtain rfl : sb = true := by rw [hb.1.sgn]; exact decide_eq_true (by omega)
 have hE := ((((Env.start w).fv ha).fv hb).blk 26 #[.bool sa, .slice Aa na ca, .bool ta, .slice Ba ma da] (g := w.heap.size) rfl).blk 26 #[.bool true, .slice Ab nb cb, .bool tb, .slice Bb mb db] (g := w.heap.size + 1) (by simp)
 have hE := hE.blk 26 #[.bool false, .slice none 0 0, .bool false, .slice none 0 0] (g := w.heap.size + 1 + 1) (by simp)
 obtain ⟨W0, hW0⟩ : ∃ W0, W0 = (((w.alloc (.cells #[.bool sa, .slice Aa na ca, .bool ta, .slice Ba ma da] 26)).alloc (.cells #[.bool true, .slice Ab nb cb, .bool tb, .slice Bb mb db] 26)).alloc (.cells #[.bool false, .slice none 0 0, .bool false, .slice none 0 0] 26)) := ⟨_, rfl⟩
 rw [← hW0] at hE
 have HW0 := Lib.hid hW0
 clear hW0
 go_enter Tryz.func15, Tryz.ntmps15
 go_upto_region 1 with (fail)
 rw [← HW0.out]
 obtain ⟨k1, k2, k3, k4⟩ := (hE.here.1.1.2).c4
 obtain ⟨k5, k6, k7, k8⟩ := (hE.here.1.2).c4
 go_wp2_with fail
 have hc := rfvalid_v (c := ca) (d := da) hE.here.1.1.1.1.2 la
 refine hc.mono ?_
 clear hc
 clear k1 k2 k3 k4 k5 k6 k7 k8
 rintro e w9 ⟨rfl, hb⟩
 replace hE := hE.step hb
 clear hb
 obtain ⟨k10, k11, k12, k13⟩ := (hE.here.1.1.2).c4
 obtain ⟨k14, k15, k16, k17⟩ := (hE.here.1.2).c4
 go_wp2_with fail
 have hc := rfvalid_v (c := cb) (d := db) hE.here.1.1.1.2 lb
 refine hc.mono ?_
 clear hc
 clear k10 k11 k12 k13 k14 k15 k16 k17
 rintro e w18 ⟨rfl, hb⟩
 replace hE := hE.step hb
 clear hb
 obtain ⟨k19, k20, k21, k22⟩ := (hE.here.1.2).c4
 go_upto_region 4 with (fail)
 clear k19 k20 k21 k22
 have hRl : w.heap.size ≤ w.heap.size + 1 + 1 := by omega
 have hB := (hE.here.2).s4 (.bool false) (.slice none 0 0) (.bool false) (.slice none 0 0)
 have hBel := bel4 hE.bel hRl (.bool false) (.slice none 0 0) (.bool false) (.slice none 0 0)
 obtain ⟨WW, hWW⟩ : ∃ x, x = ((((w18.setCell ⟨w.heap.size + 1 + 1, 0, none⟩ (.bool false)).setCell ⟨w.heap.size + 1 + 1, 1, none⟩ (.slice none 0 0)).setCell ⟨w.heap.size + 1 + 1, 2, none⟩ (.bool false)).setCell ⟨w.heap.size + 1 + 1, 3, none⟩ (.slice none 0 0)) := ⟨_, rfl⟩
 rw [← hWW] at hB hBel
 obtain ⟨x0, x1, x2, x3⟩ := (hE.here.2).c4
 obtain ⟨fz0, fz1, fz2, fz3⟩ := (hE.here.2).f4
 have HWW := Lib.hid hWW
 clear hWW
 go_wp2_with fail
 clear x0 x1 x2 x3
 rw [← HWW.out]
 obtain ⟨y0, y1, y2, y3⟩ := hB.c4
 refine bodyPost_ret (v := .tuple #[.agg #[.bool false, .slice none 0 0, .bool false, .slice none 0 0], .int .i64 20]) (by simp [results, Tryz.results15, go_sem, y0, y1, y2, y3]) rfl ?_
 exact ⟨rfl, hBel⟩
set_option linter.unusedSimpArgs false in
set_option maxRecDepth 100000 in
set_option maxHeartbeats 4000000 in
theorem rround_v {a b : Rat} {sa ta sb tb : Bool} {Aa Ba Ab Bb : Option Addr} {na ca ma da nb cb mb db : Nat} {w : World} (ha : FV w a sa Aa na ta Ba ma) (hb : FV w b sb Ab nb tb Bb mb) (la : fl a ≤ 256) (lb : fl b ≤ 256) (hb0 : 0 < b.num) (m : Nat) (m1 : 1 ≤ m) (m6 : m ≤ 6) (lr : fl (Rat.divInt (roundZ m a b * b.num) (b.den : Int)) ≤ 256) :
  Calls Tryz.prog 15 #[.agg #[.bool sa, .slice Aa na ca, .bool ta, .slice Ba ma da], .agg #[.bool sb, .slice Ab nb cb, .bool tb, .slice Bb mb db], .int .u8 (m : Int)] w (FOK (Rat.divInt (roundZ m a b * b.num) (b.den : Int)) w) := by
 have u1 : decide ((m : Int) < 1) = false := decide_eq_false (by omega)
 have u2 : decide ((6 : Int) < (m : Int)) = false := decide_eq_false (by omega)
 have u3 : decide (m < 1) = false := decide_eq_false (by omega)
 have u4 : decide (6 < m) = false := decide_eq_false (by omega)
 obtain rfl : sb = false := by rw [hb.1.sgn]; exact decide_eq_false (by omega)
 have hE := ((((Env.start w).fv ha).fv hb).blk 26 #[.bool sa, .slice Aa na ca, .bool ta, .slice Ba ma da] (g := w.heap.size) rfl).blk 26 #[.bool false, .slice Ab nb cb, .bool tb, .slice Bb mb db] (g := w.heap.size + 1) (by simp)
 have hE := hE.blk 26 #[.bool false, .slice none 0 0, .bool false, .slice none 0 0] (g := w.heap.size + 1 + 1) (by simp)
 obtain ⟨W0, hW0⟩ : ∃ W0, W0 = (((w.alloc (.cells #[.bool sa, .slice Aa na ca, .bool ta, .slice Ba ma da] 26)).alloc (.cells #[.bool false, .slice Ab nb cb, .bool tb, .slice Bb mb db] 26)).alloc (.cells #[.bool false, .slice none 0 0, .bool false, .slice none 0 0] 26)) := ⟨_, rfl⟩
 rw [← hW0] at hE
 have HW0 := Lib.hid hW0
 clear hW0
 go_enter Tryz.func15, Tryz.ntmps15
 go_upto_region 1 with (fail)
 rw [← HW0.out]
 obtain ⟨k1, k2, k3, k4⟩ := (hE.here.1.1.2).c4
 obtain ⟨k5, k6, k7, k8⟩ := (hE.here.1.2).c4
 go_wp2_with fail
 have hc := rfvalid_v (c := ca) (d := da) hE.here.1.1.1.1.2 la
 refine hc.mono ?_
 clear hc
 clear k1 k2 k3 k4 k5 k6 k7 k8
 rintro e w9 ⟨rfl, hb⟩
 replace hE := hE.step hb
 clear hb
 obtain ⟨k10, k11, k12, k13⟩ := (hE.here.1.1.2).c4
 obtain ⟨k14, k15, k16, k17⟩ := (hE.here.1.2).c4
 go_wp2_with fail
 have hc := rfvalid_v (c := cb) (d := db) hE.here.1.1.1.2 lb
 refine hc.mono ?_
 clear hc
 clear k10 k11 k12 k13 k14 k15 k16 k17
 rintro e w18 ⟨rfl, hb⟩
 replace hE := hE.step hb
 clear hb
 obtain ⟨k19, k20, k21, k22⟩ := (hE.here.1.2).c4
 go_wp2_with fail
 have hc := rfzero_v (ca := cb) (da := db) hE.here.1.1.1.2
 rw [decide_eq_false (show ¬ b.num = 0 by omega)] at hc
 have hc := hc
 refine hc.mono ?_
 clear hc
 clear k19 k20 k21 k22
 rintro e w23 ⟨rfl, hb⟩
 replace hE := hE.step hb
 clear hb
 skip
 go_upto_region 5 with (fail)
 obtain ⟨lb1, lb2⟩ := fl_z lb
 have lz : ln b16 (roundZ m a b).natAbs ≤ 256 + 256 + 2 := round_ln2 la lb
 have lp : ln b16 (roundZ m a b * b.num).natAbs ≤ 256 + 256 + 2 + 256 := ln_mulZ lz lb1
 have LZ := Lib.hid lz
 have LP := Lib.hid lp
 have LB1 := Lib.hid lb1
 have LB2 := Lib.hid lb2
 clear lz lp lb1 lb2
 replace hE := hE.drew
 refine wp_region_held_drew (S := fun w' => w'.cell? ⟨w.heap.size, 0, none⟩ = some (.bool sa) ∧ w'.cell? ⟨w.heap.size, 1, none⟩ = some (.slice Aa na ca) ∧ w'.cell? ⟨w.heap.size, 2, none⟩ = some (.bool ta) ∧ w'.cell? ⟨w.heap.size, 3, none⟩ = some (.slice Ba ma da) ∧ w'.cell? ⟨w.heap.size + 1, 0, none⟩ = some (.bool false) ∧ w'.cell? ⟨w.heap.size + 1, 1, none⟩ = some (.slice Ab nb cb) ∧ w'.cell? ⟨w.heap.size + 1, 2, none⟩ = some (.bool tb) ∧ w'.cell? ⟨w.heap.size + 1, 3, none⟩ = some (.slice Bb mb db)) (by kernel_rfl) (hE.here.1.1.2.j4 hE.here.1.2.c4) (fun hHeld => ?_)
 refine tk 0 ?_
 try simp only [PL]
 refine tk 1 ?_
 try simp only [PL]
 refine tk 2 ?_
 try simp only [PL]
 refine tk 4 ?_
 try simp only [PL]
 refine tk 5 ?_
 try simp only [PL]
 refine tk 7 ?_
 try simp only [PL]
 refine tk 8 ?_
 try simp only [PL]
 refine r1 3 (fun K hK => ?_)
 go_simp
 have hc := rfactor_v (ca := ca) (da := da) (cb := cb) (db := db) (hE.here.1.1.1.1.2) (hE.here.1.1.1.2) (Nat.le_trans la (by decide)) (Nat.le_trans lb (by decide)) hb0 m m1 m6
 refine hc.mono ?_
 clear hc
 rintro e w24 ⟨sz, Az, nz, cz, rfl, hz, hb⟩
 replace hE := hE.step hb
 clear hb
 replace hE := hE.wv hz
 clear hz
 go_wp2_with fail
 refine hK.out _ _ (hE.here.1.1.1.2.j4 hE.here.1.1.2.c4) (fun hHeld => ?_)
 clear hK K
 try simp only [PL]
 refine r1 6 (fun K hK => ?_)
 go_simp
 have nz8 : nz ≤ 514 := by rw [(hE.here.2).len]; exact LZ.out
 have nb8 : nb ≤ 256 := by rw [(hE.here.1.1.1.1.2).1.len]; exact LB1.out
 have hc := rproduct_w (c := cz) (d := cb) (hE.here.2) (hE.here.1.1.1.1.2).1 (by omega) (by omega)
 refine hc.mono ?_
 clear hc
 rintro e w25 ⟨sp, Ap, np, cp, rfl, hp, hb⟩
 replace hE := hE.step hb
 clear hb
 replace hE := hE.wv hp
 clear hp
 go_wp2_with fail
 refine hK.out _ _ (hE.here.1.1.1.1.2.j4 hE.here.1.1.1.2.c4) (fun hHeld => ?_)
 clear hK K
 try simp only [PL]
 refine r1 9 (fun K hK => ?_)
 go_simp
 have np8 : np ≤ 770 := by rw [(hE.here.2).len]; exact LP.out
 have mb8 : mb ≤ 256 := by rw [(hE.here.1.1.1.1.1.2).2.len]; exact LB2.out
 have hc := rlowest_v (ca := cp) (cb := db) (hE.here.2) (hE.here.1.1.1.1.1.2).2 (by omega) (by omega) (den_nz b)
 refine hc.mono ?_
 clear hc
 rintro e w26 ⟨sf, Af, nf, cf, tf, Bf, mf, df, rfl, hf, hb⟩
 replace hE := hE.step hb
 clear hb
 replace hE := hE.fv hf
 clear hf
 go_wp2_with fail
 refine hK.out _ _ (hE.here.1.1.1.1.1.2.j4 hE.here.1.1.1.1.2.c4) (fun hHeld => ?_)
 clear hK K
 try simp only [PL]
 refine r1 10 (fun K hK => ?_)
 go_simp
 have hc := told_ok (ca := cf) (da := df) (hE.here.2) lr
 refine hc.mono ?_
 clear hc
 rintro e w27 ⟨sr, Ar, nr, cr, tr, Br, mr, dr, rfl, hr, hb⟩
 replace hE := hE.step hb
 clear hb
 replace hE := hE.fv hr
 clear hr
 go_wp2_with fail
 refine hK.out _ _ (hE.here.1.1.1.1.1.1.2.j4 hE.here.1.1.1.1.1.2.c4) (fun hHeld => ?_)
 clear hK K
 try simp only [PL]
 refine tk 11 ?_
 try simp only [PL]
 refine tk 12 ?_
 try simp only [PL]
 refine r1 13 (fun K hK => ?_)
 have hRl : w.heap.size ≤ w.heap.size + 1 + 1 := by omega
 obtain ⟨WW, hWW, hB, hV, hBel⟩ := ret_frac hE hE.here.1.1.1.1.2 hRl hE.here.2 cr dr
 obtain ⟨x0, x1, x2, x3⟩ := (hE.here.1.1.1.1.2).c4
 obtain ⟨fz0, fz1, fz2, fz3⟩ := hE.here.1.1.1.1.2.f4
 have HWW := Lib.hid hWW
 clear hWW
 have q28 := (hE.here.1.1.1.1.1.1.2).far4 (R := w.heap.size + 1 + 1) (by omega) (.bool sr) (.slice Ar nr cr) (.bool tr) (.slice Br mr dr)
 rw [← HWW.out] at q28
 have q29 := (hE.here.1.1.1.1.1.2).far4 (R := w.heap.size + 1 + 1) (by omega) (.bool sr) (.slice Ar nr cr) (.bool tr) (.slice Br mr dr)
 rw [← HWW.out] at q29
 go_simp
 rw [← HWW.out]
 refine hK.out _ _ (q28.j4 q29.c4) (fun hHeld => ?_)
 clear hK K
 try simp only [PL]
 refine tk 14 ?_
 try simp only [PL]
 refine wpAnyH_done (by kernel_rfl) ?_ _
 go_wp2_with fail
 obtain ⟨y0, y1, y2, y3⟩ := hB.c4
 refine bodyPost_ret (v := .tuple #[.agg #[.bool sr, .slice Ar nr cr, .bool tr, .slice Br mr dr], .int .i64 0]) (by simp [results, Tryz.results15, go_sem, y0, y1, y2, y3]) rfl ?_
 exact ⟨sr, Ar, nr, cr, tr, Br, mr, dr, rfl, hV, hBel⟩
end Go.Proofs.YtifikcemcflgjaaGreat
