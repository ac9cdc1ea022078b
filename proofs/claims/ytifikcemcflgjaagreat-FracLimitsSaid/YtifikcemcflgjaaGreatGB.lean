/-
  The walks of the functions of frac where an argument is not valid.
-/
import Derived.Test.YtifikcemcflgjaaGreatK9
namespace Go.Proofs.YtifikcemcflgjaaGreat
open Go.RowKit

/-- The parts are not longer than memory allows. -/
def Fc.len (h : Fc) : Prop := h.n ≤ 1000000 ∧ h.m ≤ 1000000
theorem fallValid_bad (a b : Fc) (w : World) (ra : a.rd w) (rb : b.rd w) (la : a.len) (lb : b.len) (h : (a.ok && b.ok) = false) :
    Calls Tryz.prog 54 #[.slice (some ⟨w.heap.size, 0, none⟩) 2 2] (w.alloc (.cells #[.bool a.s, .slice a.A a.n a.c, .bool a.t, .slice a.B a.m a.d, .bool b.s, .slice b.A b.n b.c, .bool b.t, .slice b.B b.m b.d] 26)) fun e w' => e = .returned (.bool false) ∧ Below w.heap.size w w' := by
  have hb := (Below.refl w.heap.size w).alloc (Nat.le_refl _) (.cells #[.bool a.s, .slice a.A a.n a.c, .bool a.t, .slice a.B a.m a.d, .bool b.s, .slice b.A b.n b.c, .bool b.t, .slice b.B b.m b.d] 26)
  have hc := fallValid_two w.heap.size a.s a.t b.s b.t a.A a.B b.A b.B a.n a.m a.c a.d b.n b.m b.c b.d _ _ _ _ _ (Blk.new w _ _) (FRd.below ra hb) (FRd.below rb hb) la.1 la.2 lb.1 lb.2 a.ok b.ok rfl rfl
  rw [h] at hc
  exact hc.mono fun e w' ⟨he, hb'⟩ => ⟨he, hb.trans (hb'.mono hb.size)⟩
theorem fvalid_bad (a : Fc) (w : World) (ra : a.rd w) (la : a.len) (h : a.ok = false) :
    Calls Tryz.prog 41 #[.agg #[.bool a.s, .slice a.A a.n a.c, .bool a.t, .slice a.B a.m a.d]] w fun e w' => e = .returned (.bool false) ∧ Below w.heap.size w w' :=
  fvalid_r a.s a.t a.A a.B a.n a.m a.c a.d _ _ w ra la.1 la.2 false h
set_option linter.unusedSimpArgs false in
set_option maxRecDepth 100000 in
set_option maxHeartbeats 2000000 in
theorem fadd_bad {sa ta sb tb : Bool} {Aa Ba Ab Bb : Option Addr} {na ca ma da nb cb mb db : Nat} {fa ga fb gb : Nat → Nat} {w : World} (ra : FRd w Aa na fa Ba ma ga) (la : Fc.len ⟨sa, Aa, na, ca, fa, ta, Ba, ma, da, ga⟩) (rb : FRd w Ab nb fb Bb mb gb) (lb : Fc.len ⟨sb, Ab, nb, cb, fb, tb, Bb, mb, db, gb⟩) (hbad : ((Fc.ok ⟨sa, Aa, na, ca, fa, ta, Ba, ma, da, ga⟩ && Fc.ok ⟨sb, Ab, nb, cb, fb, tb, Bb, mb, db, gb⟩) = false)) :
    Calls Tryz.prog 24 #[.agg #[.bool sa, .slice Aa na ca, .bool ta, .slice Ba ma da], .agg #[.bool sb, .slice Ab nb cb, .bool tb, .slice Bb mb db]] w (FErr 2 w) := by
  have hE := ((((Env.start w).frd ra).frd rb).blk 26 #[.bool sa, .slice Aa na ca, .bool ta, .slice Ba ma da] (g := w.heap.size) rfl).blk 26 #[.bool sb, .slice Ab nb cb, .bool tb, .slice Bb mb db] (g := w.heap.size + 1) (by simp)
  have hE := hE.blk 26 #[.bool false, .slice none 0 0, .bool false, .slice none 0 0] (g := w.heap.size + 1 + 1) (by simp)
  obtain ⟨W0, hW0⟩ : ∃ W0, W0 = (((w.alloc (.cells #[.bool sa, .slice Aa na ca, .bool ta, .slice Ba ma da] 26)).alloc (.cells #[.bool sb, .slice Ab nb cb, .bool tb, .slice Bb mb db] 26)).alloc (.cells #[.bool false, .slice none 0 0, .bool false, .slice none 0 0] 26)) := ⟨_, rfl⟩
  rw [← hW0] at hE
  have HW0 := Lib.hid hW0
  clear hW0
  go_enter Tryz.func24, Tryz.ntmps24
  go_upto_region 1 with (fail)
  rw [← HW0.out]
  obtain ⟨k1, k2, k3, k4⟩ := (hE.here.1.1.2).c4
  obtain ⟨k5, k6, k7, k8⟩ := (hE.here.1.2).c4
  go_wp2_with fail
  have hc := fallValid_bad ⟨sa, Aa, na, ca, fa, ta, Ba, ma, da, ga⟩ ⟨sb, Ab, nb, cb, fb, tb, Bb, mb, db, gb⟩ _ hE.here.1.1.1.1.2 hE.here.1.1.1.2 la lb hbad
  refine hc.mono ?_
  clear hc
  clear k1 k2 k3 k4 k5 k6 k7 k8
  rintro e w9 ⟨rfl, hb⟩
  replace hE := hE.step hb
  clear hb
  go_upto_region 2 with (fail)
  have hRl : w.heap.size ≤ w.heap.size + 1 + 1 := by omega
  have hB := (hE.here.2).s4 (.bool false) (.slice none 0 0) (.bool false) (.slice none 0 0)
  have hBel := bel4 hE.bel hRl (.bool false) (.slice none 0 0) (.bool false) (.slice none 0 0)
  obtain ⟨WW, hWW⟩ : ∃ x, x = ((((w9.setCell ⟨w.heap.size + 1 + 1, 0, none⟩ (.bool false)).setCell ⟨w.heap.size + 1 + 1, 1, none⟩ (.slice none 0 0)).setCell ⟨w.heap.size + 1 + 1, 2, none⟩ (.bool false)).setCell ⟨w.heap.size + 1 + 1, 3, none⟩ (.slice none 0 0)) := ⟨_, rfl⟩
  rw [← hWW] at hB hBel
  obtain ⟨x0, x1, x2, x3⟩ := (hE.here.2).c4
  obtain ⟨fz0, fz1, fz2, fz3⟩ := (hE.here.2).f4
  have HWW := Lib.hid hWW
  clear hWW
  go_wp2_with fail
  clear x0 x1 x2 x3
  rw [← HWW.out]
  obtain ⟨y0, y1, y2, y3⟩ := hB.c4
  refine bodyPost_ret (v := .tuple #[.agg #[.bool false, .slice none 0 0, .bool false, .slice none 0 0], .int .i64 2]) (by simp [results, Tryz.results24, go_sem, y0, y1, y2, y3]) rfl ?_
  exact ⟨rfl, hBel⟩
set_option linter.unusedSimpArgs false in
set_option maxRecDepth 100000 in
set_option maxHeartbeats 2000000 in
theorem fsub_bad {sa ta sb tb : Bool} {Aa Ba Ab Bb : Option Addr} {na ca ma da nb cb mb db : Nat} {fa ga fb gb : Nat → Nat} {w : World} (ra : FRd w Aa na fa Ba ma ga) (la : Fc.len ⟨sa, Aa, na, ca, fa, ta, Ba, ma, da, ga⟩) (rb : FRd w Ab nb fb Bb mb gb) (lb : Fc.len ⟨sb, Ab, nb, cb, fb, tb, Bb, mb, db, gb⟩) (hbad : ((Fc.ok ⟨sa, Aa, na, ca, fa, ta, Ba, ma, da, ga⟩ && Fc.ok ⟨sb, Ab, nb, cb, fb, tb, Bb, mb, db, gb⟩) = false)) :
    Calls Tryz.prog 77 #[.agg #[.bool sa, .slice Aa na ca, .bool ta, .slice Ba ma da], .agg #[.bool sb, .slice Ab nb cb, .bool tb, .slice Bb mb db]] w (FErr 2 w) := by
  have hE := ((((Env.start w).frd ra).frd rb).blk 26 #[.bool sa, .slice Aa na ca, .bool ta, .slice Ba ma da] (g := w.heap.size) rfl).blk 26 #[.bool sb, .slice Ab nb cb, .bool tb, .slice Bb mb db] (g := w.heap.size + 1) (by simp)
  have hE := hE.blk 26 #[.bool false, .slice none 0 0, .bool false, .slice none 0 0] (g := w.heap.size + 1 + 1) (by simp)
  obtain ⟨W0, hW0⟩ : ∃ W0, W0 = (((w.alloc (.cells #[.bool sa, .slice Aa na ca, .bool ta, .slice Ba ma da] 26)).alloc (.cells #[.bool sb, .slice Ab nb cb, .bool tb, .slice Bb mb db] 26)).alloc (.cells #[.bool false, .slice none 0 0, .bool false, .slice none 0 0] 26)) := ⟨_, rfl⟩
  rw [← hW0] at hE
  have HW0 := Lib.hid hW0
  clear hW0
  go_enter Tryz.func77, Tryz.ntmps77
  go_upto_region 1 with (fail)
  rw [← HW0.out]
  obtain ⟨k1, k2, k3, k4⟩ := (hE.here.1.1.2).c4
  obtain ⟨k5, k6, k7, k8⟩ := (hE.here.1.2).c4
  go_wp2_with fail
  have hc := fallValid_bad ⟨sa, Aa, na, ca, fa, ta, Ba, ma, da, ga⟩ ⟨sb, Ab, nb, cb, fb, tb, Bb, mb, db, gb⟩ _ hE.here.1.1.1.1.2 hE.here.1.1.1.2 la lb hbad
  refine hc.mono ?_
  clear hc
  clear k1 k2 k3 k4 k5 k6 k7 k8
  rintro e w9 ⟨rfl, hb⟩
  replace hE := hE.step hb
  clear hb
  go_upto_region 2 with (fail)
  have hRl : w.heap.size ≤ w.heap.size + 1 + 1 := by omega
  have hB := (hE.here.2).s4 (.bool false) (.slice none 0 0) (.bool false) (.slice none 0 0)
  have hBel := bel4 hE.bel hRl (.bool false) (.slice none 0 0) (.bool false) (.slice none 0 0)
  obtain ⟨WW, hWW⟩ : ∃ x, x = ((((w9.setCell ⟨w.heap.size + 1 + 1, 0, none⟩ (.bool false)).setCell ⟨w.heap.size + 1 + 1, 1, none⟩ (.slice none 0 0)).setCell ⟨w.heap.size + 1 + 1, 2, none⟩ (.bool false)).setCell ⟨w.heap.size + 1 + 1, 3, none⟩ (.slice none 0 0)) := ⟨_, rfl⟩
  rw [← hWW] at hB hBel
  obtain ⟨x0, x1, x2, x3⟩ := (hE.here.2).c4
  obtain ⟨fz0, fz1, fz2, fz3⟩ := (hE.here.2).f4
  have HWW := Lib.hid hWW
  clear hWW
  go_wp2_with fail
  clear x0 x1 x2 x3
  rw [← HWW.out]
  obtain ⟨y0, y1, y2, y3⟩ := hB.c4
  refine bodyPost_ret (v := .tuple #[.agg #[.bool false, .slice none 0 0, .bool false, .slice none 0 0], .int .i64 2]) (by simp [results, Tryz.results77, go_sem, y0, y1, y2, y3]) rfl ?_
  exact ⟨rfl, hBel⟩
set_option linter.unusedSimpArgs false in
set_option maxRecDepth 100000 in
set_option maxHeartbeats 2000000 in
theorem fmul_bad {sa ta sb tb : Bool} {Aa Ba Ab Bb : Option Addr} {na ca ma da nb cb mb db : Nat} {fa ga fb gb : Nat → Nat} {w : World} (ra : FRd w Aa na fa Ba ma ga) (la : Fc.len ⟨sa, Aa, na, ca, fa, ta, Ba, ma, da, ga⟩) (rb : FRd w Ab nb fb Bb mb gb) (lb : Fc.len ⟨sb, Ab, nb, cb, fb, tb, Bb, mb, db, gb⟩) (hbad : ((Fc.ok ⟨sa, Aa, na, ca, fa, ta, Ba, ma, da, ga⟩ && Fc.ok ⟨sb, Ab, nb, cb, fb, tb, Bb, mb, db, gb⟩) = false)) :
    Calls Tryz.prog 26 #[.agg #[.bool sa, .slice Aa na ca, .bool ta, .slice Ba ma da], .agg #[.bool sb, .slice Ab nb cb, .bool tb, .slice Bb mb db]] w (FErr 2 w) := by
  have hE := ((((Env.start w).frd ra).frd rb).blk 26 #[.bool sa, .slice Aa na ca, .bool ta, .slice Ba ma da] (g := w.heap.size) rfl).blk 26 #[.bool sb, .slice Ab nb cb, .bool tb, .slice Bb mb db] (g := w.heap.size + 1) (by simp)
  have hE := hE.blk 26 #[.bool false, .slice none 0 0, .bool false, .slice none 0 0] (g := w.heap.size + 1 + 1) (by simp)
  obtain ⟨W0, hW0⟩ : ∃ W0, W0 = (((w.alloc (.cells #[.bool sa, .slice Aa na ca, .bool ta, .slice Ba ma da] 26)).alloc (.cells #[.bool sb, .slice Ab nb cb, .bool tb, .slice Bb mb db] 26)).alloc (.cells #[.bool false, .slice none 0 0, .bool false, .slice none 0 0] 26)) := ⟨_, rfl⟩
  rw [← hW0] at hE
  have HW0 := Lib.hid hW0
  clear hW0
  go_enter Tryz.func26, Tryz.ntmps26
  go_upto_region 1 with (fail)
  rw [← HW0.out]
  obtain ⟨k1, k2, k3, k4⟩ := (hE.here.1.1.2).c4
  obtain ⟨k5, k6, k7, k8⟩ := (hE.here.1.2).c4
  go_wp2_with fail
  have hc := fallValid_bad ⟨sa, Aa, na, ca, fa, ta, Ba, ma, da, ga⟩ ⟨sb, Ab, nb, cb, fb, tb, Bb, mb, db, gb⟩ _ hE.here.1.1.1.1.2 hE.here.1.1.1.2 la lb hbad
  refine hc.mono ?_
  clear hc
  clear k1 k2 k3 k4 k5 k6 k7 k8
  rintro e w9 ⟨rfl, hb⟩
  replace hE := hE.step hb
  clear hb
  go_upto_region 2 with (fail)
  have hRl : w.heap.size ≤ w.heap.size + 1 + 1 := by omega
  have hB := (hE.here.2).s4 (.bool false) (.slice none 0 0) (.bool false) (.slice none 0 0)
  have hBel := bel4 hE.bel hRl (.bool false) (.slice none 0 0) (.bool false) (.slice none 0 0)
  obtain ⟨WW, hWW⟩ : ∃ x, x = ((((w9.setCell ⟨w.heap.size + 1 + 1, 0, none⟩ (.bool false)).setCell ⟨w.heap.size + 1 + 1, 1, none⟩ (.slice none 0 0)).setCell ⟨w.heap.size + 1 + 1, 2, none⟩ (.bool false)).setCell ⟨w.heap.size + 1 + 1, 3, none⟩ (.slice none 0 0)) := ⟨_, rfl⟩
  rw [← hWW] at hB hBel
  obtain ⟨x0, x1, x2, x3⟩ := (hE.here.2).c4
  obtain ⟨fz0, fz1, fz2, fz3⟩ := (hE.here.2).f4
  have HWW := Lib.hid hWW
  clear hWW
  go_wp2_with fail
  clear x0 x1 x2 x3
  rw [← HWW.out]
  obtain ⟨y0, y1, y2, y3⟩ := hB.c4
  refine bodyPost_ret (v := .tuple #[.agg #[.bool false, .slice none 0 0, .bool false, .slice none 0 0], .int .i64 2]) (by simp [results, Tryz.results26, go_sem, y0, y1, y2, y3]) rfl ?_
  exact ⟨rfl, hBel⟩
set_option linter.unusedSimpArgs false in
set_option maxRecDepth 100000 in
set_option maxHeartbeats 2000000 in
theorem fdiv_bad {sa ta sb tb : Bool} {Aa Ba Ab Bb : Option Addr} {na ca ma da nb cb mb db : Nat} {fa ga fb gb : Nat → Nat} {w : World} (ra : FRd w Aa na fa Ba ma ga) (la : Fc.len ⟨sa, Aa, na, ca, fa, ta, Ba, ma, da, ga⟩) (rb : FRd w Ab nb fb Bb mb gb) (lb : Fc.len ⟨sb, Ab, nb, cb, fb, tb, Bb, mb, db, gb⟩) (hbad : ((Fc.ok ⟨sa, Aa, na, ca, fa, ta, Ba, ma, da, ga⟩ && Fc.ok ⟨sb, Ab, nb, cb, fb, tb, Bb, mb, db, gb⟩) = false)) :
    Calls Tryz.prog 37 #[.agg #[.bool sa, .slice Aa na ca, .bool ta, .slice Ba ma da], .agg #[.bool sb, .slice Ab nb cb, .bool tb, .slice Bb mb db]] w (FErr 2 w) := by
  have hE := ((((Env.start w).frd ra).frd rb).blk 26 #[.bool sa, .slice Aa na ca, .bool ta, .slice Ba ma da] (g := w.heap.size) rfl).blk 26 #[.bool sb, .slice Ab nb cb, .bool tb, .slice Bb mb db] (g := w.heap.size + 1) (by simp)
  have hE := hE.blk 26 #[.bool false, .slice none 0 0, .bool false, .slice none 0 0] (g := w.heap.size + 1 + 1) (by simp)
  obtain ⟨W0, hW0⟩ : ∃ W0, W0 = (((w.alloc (.cells #[.bool sa, .slice Aa na ca, .bool ta, .slice Ba ma da] 26)).alloc (.cells #[.bool sb, .slice Ab nb cb, .bool tb, .slice Bb mb db] 26)).alloc (.cells #[.bool false, .slice none 0 0, .bool false, .slice none 0 0] 26)) := ⟨_, rfl⟩
  rw [← hW0] at hE
  have HW0 := Lib.hid hW0
  clear hW0
  go_enter Tryz.func37, Tryz.ntmps37
  go_upto_region 1 with (fail)
  rw [← HW0.out]
  obtain ⟨k1, k2, k3, k4⟩ := (hE.here.1.1.2).c4
  obtain ⟨k5, k6, k7, k8⟩ := (hE.here.1.2).c4
  go_wp2_with fail
  have hc := fallValid_bad ⟨sa, Aa, na, ca, fa, ta, Ba, ma, da, ga⟩ ⟨sb, Ab, nb, cb, fb, tb, Bb, mb, db, gb⟩ _ hE.here.1.1.1.1.2 hE.here.1.1.1.2 la lb hbad
  refine hc.mono ?_
  clear hc
  clear k1 k2 k3 k4 k5 k6 k7 k8
  rintro e w9 ⟨rfl, hb⟩
  replace hE := hE.step hb
  clear hb
  go_upto_region 2 with (fail)
  have hRl : w.heap.size ≤ w.heap.size + 1 + 1 := by omega
  have hB := (hE.here.2).s4 (.bool false) (.slice none 0 0) (.bool false) (.slice none 0 0)
  have hBel := bel4 hE.bel hRl (.bool false) (.slice none 0 0) (.bool false) (.slice none 0 0)
  obtain ⟨WW, hWW⟩ : ∃ x, x = ((((w9.setCell ⟨w.heap.size + 1 + 1, 0, none⟩ (.bool false)).setCell ⟨w.heap.size + 1 + 1, 1, none⟩ (.slice none 0 0)).setCell ⟨w.heap.size + 1 + 1, 2, none⟩ (.bool false)).setCell ⟨w.heap.size + 1 + 1, 3, none⟩ (.slice none 0 0)) := ⟨_, rfl⟩
  rw [← hWW] at hB hBel
  obtain ⟨x0, x1, x2, x3⟩ := (hE.here.2).c4
  obtain ⟨fz0, fz1, fz2, fz3⟩ := (hE.here.2).f4
  have HWW := Lib.hid hWW
  clear hWW
  go_wp2_with fail
  clear x0 x1 x2 x3
  rw [← HWW.out]
  obtain ⟨y0, y1, y2, y3⟩ := hB.c4
  refine bodyPost_ret (v := .tuple #[.agg #[.bool false, .slice none 0 0, .bool false, .slice none 0 0], .int .i64 2]) (by simp [results, Tryz.results37, go_sem, y0, y1, y2, y3]) rfl ?_
  exact ⟨rfl, hBel⟩
set_option linter.unusedSimpArgs false in
set_option maxRecDepth 100000 in
set_option maxHeartbeats 2000000 in
theorem fround_bad {sa ta sb tb : Bool} {Aa Ba Ab Bb : Option Addr} {na ca ma da nb cb mb db : Nat} {fa ga fb gb : Nat → Nat} {md : Int} {w : World} (ra : FRd w Aa na fa Ba ma ga) (la : Fc.len ⟨sa, Aa, na, ca, fa, ta, Ba, ma, da, ga⟩) (rb : FRd w Ab nb fb Bb mb gb) (lb : Fc.len ⟨sb, Ab, nb, cb, fb, tb, Bb, mb, db, gb⟩) (hbad : ((Fc.ok ⟨sa, Aa, na, ca, fa, ta, Ba, ma, da, ga⟩ && Fc.ok ⟨sb, Ab, nb, cb, fb, tb, Bb, mb, db, gb⟩) = false)) :
    Calls Tryz.prog 14 #[.agg #[.bool sa, .slice Aa na ca, .bool ta, .slice Ba ma da], .agg #[.bool sb, .slice Ab nb cb, .bool tb, .slice Bb mb db], .int .u8 md] w (FErr 2 w) := by
  have hE := ((((Env.start w).frd ra).frd rb).blk 26 #[.bool sa, .slice Aa na ca, .bool ta, .slice Ba ma da] (g := w.heap.size) rfl).blk 26 #[.bool sb, .slice Ab nb cb, .bool tb, .slice Bb mb db] (g := w.heap.size + 1) (by simp)
  have hE := hE.blk 26 #[.bool false, .slice none 0 0, .bool false, .slice none 0 0] (g := w.heap.size + 1 + 1) (by simp)
  obtain ⟨W0, hW0⟩ : ∃ W0, W0 = (((w.alloc (.cells #[.bool sa, .slice Aa na ca, .bool ta, .slice Ba ma da] 26)).alloc (.cells #[.bool sb, .slice Ab nb cb, .bool tb, .slice Bb mb db] 26)).alloc (.cells #[.bool false, .slice none 0 0, .bool false, .slice none 0 0] 26)) := ⟨_, rfl⟩
  rw [← hW0] at hE
  have HW0 := Lib.hid hW0
  clear hW0
  go_enter Tryz.func14, Tryz.ntmps14
  go_upto_region 1 with (fail)
  rw [← HW0.out]
  obtain ⟨k1, k2, k3, k4⟩ := (hE.here.1.1.2).c4
  obtain ⟨k5, k6, k7, k8⟩ := (hE.here.1.2).c4
  go_wp2_with fail
  have hc := fallValid_bad ⟨sa, Aa, na, ca, fa, ta, Ba, ma, da, ga⟩ ⟨sb, Ab, nb, cb, fb, tb, Bb, mb, db, gb⟩ _ hE.here.1.1.1.1.2 hE.here.1.1.1.2 la lb hbad
  refine hc.mono ?_
  clear hc
  clear k1 k2 k3 k4 k5 k6 k7 k8
  rintro e w9 ⟨rfl, hb⟩
  replace hE := hE.step hb
  clear hb
  go_upto_region 2 with (fail)
  have hRl : w.heap.size ≤ w.heap.size + 1 + 1 := by omega
  have hB := (hE.here.2).s4 (.bool false) (.slice none 0 0) (.bool false) (.slice none 0 0)
  have hBel := bel4 hE.bel hRl (.bool false) (.slice none 0 0) (.bool false) (.slice none 0 0)
  obtain ⟨WW, hWW⟩ : ∃ x, x = ((((w9.setCell ⟨w.heap.size + 1 + 1, 0, none⟩ (.bool false)).setCell ⟨w.heap.size + 1 + 1, 1, none⟩ (.slice none 0 0)).setCell ⟨w.heap.size + 1 + 1, 2, none⟩ (.bool false)).setCell ⟨w.heap.size + 1 + 1, 3, none⟩ (.slice none 0 0)) := ⟨_, rfl⟩
  rw [← hWW] at hB hBel
  obtain ⟨x0, x1, x2, x3⟩ := (hE.here.2).c4
  obtain ⟨fz0, fz1, fz2, fz3⟩ := (hE.here.2).f4
  have HWW := Lib.hid hWW
  clear hWW
  go_wp2_with fail
  clear x0 x1 x2 x3
  rw [← HWW.out]
  obtain ⟨y0, y1, y2, y3⟩ := hB.c4
  refine bodyPost_ret (v := .tuple #[.agg #[.bool false, .slice none 0 0, .bool false, .slice none 0 0], .int .i64 2]) (by simp [results, Tryz.results14, go_sem, y0, y1, y2, y3]) rfl ?_
  exact ⟨rfl, hBel⟩
set_option linter.unusedSimpArgs false in
set_option maxRecDepth 100000 in
set_option maxHeartbeats 2000000 in
theorem fcmp_bad {sa ta sb tb : Bool} {Aa Ba Ab Bb : Option Addr} {na ca ma da nb cb mb db : Nat} {fa ga fb gb : Nat → Nat} {w : World} (ra : FRd w Aa na fa Ba ma ga) (la : Fc.len ⟨sa, Aa, na, ca, fa, ta, Ba, ma, da, ga⟩) (rb : FRd w Ab nb fb Bb mb gb) (lb : Fc.len ⟨sb, Ab, nb, cb, fb, tb, Bb, mb, db, gb⟩) (hbad : ((Fc.ok ⟨sa, Aa, na, ca, fa, ta, Ba, ma, da, ga⟩ && Fc.ok ⟨sb, Ab, nb, cb, fb, tb, Bb, mb, db, gb⟩) = false)) :
    Calls Tryz.prog 32 #[.agg #[.bool sa, .slice Aa na ca, .bool ta, .slice Ba ma da], .agg #[.bool sb, .slice Ab nb cb, .bool tb, .slice Bb mb db]] w (fun e w' => e = .returned (.int .i64 0) ∧ Below w.heap.size w w') := by
  have hE := ((((Env.start w).frd ra).frd rb).blk 26 #[.bool sa, .slice Aa na ca, .bool ta, .slice Ba ma da] (g := w.heap.size) rfl).blk 26 #[.bool sb, .slice Ab nb cb, .bool tb, .slice Bb mb db] (g := w.heap.size + 1) (by simp)
  obtain ⟨W0, hW0⟩ : ∃ W0, W0 = ((w.alloc (.cells #[.bool sa, .slice Aa na ca, .bool ta, .slice Ba ma da] 26)).alloc (.cells #[.bool sb, .slice Ab nb cb, .bool tb, .slice Bb mb db] 26)) := ⟨_, rfl⟩
  rw [← hW0] at hE
  have HW0 := Lib.hid hW0
  clear hW0
  go_enter Tryz.func32, Tryz.ntmps32
  go_upto_region 1 with (fail)
  rw [← HW0.out]
  obtain ⟨k1, k2, k3, k4⟩ := (hE.here.1.2).c4
  obtain ⟨k5, k6, k7, k8⟩ := (hE.here.2).c4
  go_wp2_with fail
  have hc := fallValid_bad ⟨sa, Aa, na, ca, fa, ta, Ba, ma, da, ga⟩ ⟨sb, Ab, nb, cb, fb, tb, Bb, mb, db, gb⟩ _ hE.here.1.1.1.2 hE.here.1.1.2 la lb hbad
  refine hc.mono ?_
  clear hc
  clear k1 k2 k3 k4 k5 k6 k7 k8
  rintro e w9 ⟨rfl, hb⟩
  replace hE := hE.step hb
  clear hb
  go_wp2_with fail
  go_ret
  exact ⟨rfl, hE.bel⟩
set_option linter.unusedSimpArgs false in
set_option maxRecDepth 100000 in
set_option maxHeartbeats 2000000 in
theorem fneg_bad {sa ta : Bool} {Aa Ba : Option Addr} {na ca ma da : Nat} {fa ga : Nat → Nat} {w : World} (ra : FRd w Aa na fa Ba ma ga) (la : Fc.len ⟨sa, Aa, na, ca, fa, ta, Ba, ma, da, ga⟩) (hbad : Fc.ok ⟨sa, Aa, na, ca, fa, ta, Ba, ma, da, ga⟩ = false) :
    Calls Tryz.prog 36 #[.agg #[.bool sa, .slice Aa na ca, .bool ta, .slice Ba ma da]] w (FErr 2 w) := by
  have hE := ((Env.start w).frd ra).blk 26 #[.bool sa, .slice Aa na ca, .bool ta, .slice Ba ma da] (g := w.heap.size) rfl
  have hE := hE.blk 26 #[.bool false, .slice none 0 0, .bool false, .slice none 0 0] (g := w.heap.size + 1) (by simp)
  obtain ⟨W0, hW0⟩ : ∃ W0, W0 = ((w.alloc (.cells #[.bool sa, .slice Aa na ca, .bool ta, .slice Ba ma da] 26)).alloc (.cells #[.bool false, .slice none 0 0, .bool false, .slice none 0 0] 26)) := ⟨_, rfl⟩
  rw [← hW0] at hE
  have HW0 := Lib.hid hW0
  clear hW0
  go_enter Tryz.func36, Tryz.ntmps36
  go_upto_region 1 with (fail)
  rw [← HW0.out]
  obtain ⟨k1, k2, k3, k4⟩ := (hE.here.1.2).c4
  go_wp2_with fail
  have hc := fvalid_bad ⟨sa, Aa, na, ca, fa, ta, Ba, ma, da, ga⟩ _ hE.here.1.1.2 la hbad
  refine hc.mono ?_
  clear hc
  clear k1 k2 k3 k4
  rintro e w5 ⟨rfl, hb⟩
  replace hE := hE.step hb
  clear hb
  go_upto_region 2 with (fail)
  have hRl : w.heap.size ≤ w.heap.size + 1 := by omega
  have hB := (hE.here.2).s4 (.bool false) (.slice none 0 0) (.bool false) (.slice none 0 0)
  have hBel := bel4 hE.bel hRl (.bool false) (.slice none 0 0) (.bool false) (.slice none 0 0)
  obtain ⟨WW, hWW⟩ : ∃ x, x = ((((w5.setCell ⟨w.heap.size + 1, 0, none⟩ (.bool false)).setCell ⟨w.heap.size + 1, 1, none⟩ (.slice none 0 0)).setCell ⟨w.heap.size + 1, 2, none⟩ (.bool false)).setCell ⟨w.heap.size + 1, 3, none⟩ (.slice none 0 0)) := ⟨_, rfl⟩
  rw [← hWW] at hB hBel
  obtain ⟨x0, x1, x2, x3⟩ := (hE.here.2).c4
  obtain ⟨fz0, fz1, fz2, fz3⟩ := (hE.here.2).f4
  have HWW := Lib.hid hWW
  clear hWW
  go_wp2_with fail
  clear x0 x1 x2 x3
  rw [← HWW.out]
  obtain ⟨y0, y1, y2, y3⟩ := hB.c4
  refine bodyPost_ret (v := .tuple #[.agg #[.bool false, .slice none 0 0, .bool false, .slice none 0 0], .int .i64 2]) (by simp [results, Tryz.results36, go_sem, y0, y1, y2, y3]) rfl ?_
  exact ⟨rfl, hBel⟩
set_option linter.unusedSimpArgs false in
set_option maxRecDepth 100000 in
set_option maxHeartbeats 2000000 in
theorem fpow_bad {sa ta : Bool} {Aa Ba : Option Addr} {na ca ma da : Nat} {fa ga : Nat → Nat} {z : Int} {w : World} (ra : FRd w Aa na fa Ba ma ga) (la : Fc.len ⟨sa, Aa, na, ca, fa, ta, Ba, ma, da, ga⟩) (hbad : Fc.ok ⟨sa, Aa, na, ca, fa, ta, Ba, ma, da, ga⟩ = false) :
    Calls Tryz.prog 20 #[.agg #[.bool sa, .slice Aa na ca, .bool ta, .slice Ba ma da], .int .i64 z] w (FErr 2 w) := by
  have hE := ((Env.start w).frd ra).blk 26 #[.bool sa, .slice Aa na ca, .bool ta, .slice Ba ma da] (g := w.heap.size) rfl
  have hE := hE.blk 26 #[.bool false, .slice none 0 0, .bool false, .slice none 0 0] (g := w.heap.size + 1) (by simp)
  obtain ⟨W0, hW0⟩ : ∃ W0, W0 = ((w.alloc (.cells #[.bool sa, .slice Aa na ca, .bool ta, .slice Ba ma da] 26)).alloc (.cells #[.bool false, .slice none 0 0, .bool false, .slice none 0 0] 26)) := ⟨_, rfl⟩
  rw [← hW0] at hE
  have HW0 := Lib.hid hW0
  clear hW0
  go_enter Tryz.func20, Tryz.ntmps20
  go_upto_region 1 with (fail)
  rw [← HW0.out]
  obtain ⟨k1, k2, k3, k4⟩ := (hE.here.1.2).c4
  go_wp2_with fail
  have hc := fvalid_bad ⟨sa, Aa, na, ca, fa, ta, Ba, ma, da, ga⟩ _ hE.here.1.1.2 la hbad
  refine hc.mono ?_
  clear hc
  clear k1 k2 k3 k4
  rintro e w5 ⟨rfl, hb⟩
  replace hE := hE.step hb
  clear hb
  go_upto_region 2 with (fail)
  have hRl : w.heap.size ≤ w.heap.size + 1 := by omega
  have hB := (hE.here.2).s4 (.bool false) (.slice none 0 0) (.bool false) (.slice none 0 0)
  have hBel := bel4 hE.bel hRl (.bool false) (.slice none 0 0) (.bool false) (.slice none 0 0)
  obtain ⟨WW, hWW⟩ : ∃ x, x = ((((w5.setCell ⟨w.heap.size + 1, 0, none⟩ (.bool false)).setCell ⟨w.heap.size + 1, 1, none⟩ (.slice none 0 0)).setCell ⟨w.heap.size + 1, 2, none⟩ (.bool false)).setCell ⟨w.heap.size + 1, 3, none⟩ (.slice none 0 0)) := ⟨_, rfl⟩
  rw [← hWW] at hB hBel
  obtain ⟨x0, x1, x2, x3⟩ := (hE.here.2).c4
  obtain ⟨fz0, fz1, fz2, fz3⟩ := (hE.here.2).f4
  have HWW := Lib.hid hWW
  clear hWW
  go_wp2_with fail
  clear x0 x1 x2 x3
  rw [← HWW.out]
  obtain ⟨y0, y1, y2, y3⟩ := hB.c4
  refine bodyPost_ret (v := .tuple #[.agg #[.bool false, .slice none 0 0, .bool false, .slice none 0 0], .int .i64 2]) (by simp [results, Tryz.results20, go_sem, y0, y1, y2, y3]) rfl ?_
  exact ⟨rfl, hBel⟩
/-- The call returned the whole number 0 and the error k. -/
def WErr (k : Int) (w : World) (e : Ending) (w' : World) : Prop := e = .returned (.tuple #[.agg #[.bool false, .slice none 0 0], .int .i64 k]) ∧ Below w.heap.size w w'
set_option linter.unusedSimpArgs false in
set_option maxRecDepth 100000 in
set_option maxHeartbeats 2000000 in
theorem ffloor_bad {sa ta : Bool} {Aa Ba : Option Addr} {na ca ma da : Nat} {fa ga : Nat → Nat} {w : World} (ra : FRd w Aa na fa Ba ma ga) (la : Fc.len ⟨sa, Aa, na, ca, fa, ta, Ba, ma, da, ga⟩) (hbad : Fc.ok ⟨sa, Aa, na, ca, fa, ta, Ba, ma, da, ga⟩ = false) :
    Calls Tryz.prog 48 #[.agg #[.bool sa, .slice Aa na ca, .bool ta, .slice Ba ma da]] w (WErr 2 w) := by
  have hE := ((Env.start w).frd ra).blk 26 #[.bool sa, .slice Aa na ca, .bool ta, .slice Ba ma da] (g := w.heap.size) rfl
  have hE := hE.blk 24 #[.bool false, .slice none 0 0] (g := w.heap.size + 1) (by simp)
  obtain ⟨W0, hW0⟩ : ∃ W0, W0 = ((w.alloc (.cells #[.bool sa, .slice Aa na ca, .bool ta, .slice Ba ma da] 26)).alloc (.cells #[.bool false, .slice none 0 0] 24)) := ⟨_, rfl⟩
  rw [← hW0] at hE
  have HW0 := Lib.hid hW0
  clear hW0
  go_enter Tryz.func48, Tryz.ntmps48
  go_upto_region 1 with (fail)
  rw [← HW0.out]
  obtain ⟨k1, k2, k3, k4⟩ := (hE.here.1.2).c4
  go_wp2_with fail
  have hc := fvalid_bad ⟨sa, Aa, na, ca, fa, ta, Ba, ma, da, ga⟩ _ hE.here.1.1.2 la hbad
  refine hc.mono ?_
  clear hc
  clear k1 k2 k3 k4
  rintro e w5 ⟨rfl, hb⟩
  replace hE := hE.step hb
  clear hb
  go_upto_region 2 with (fail)
  have hRl : w.heap.size ≤ w.heap.size + 1 := by omega
  have hB := (hE.here.2).s2 (.bool false) (.slice none 0 0)
  have hBel := bel2 hE.bel hRl (.bool false) (.slice none 0 0)
  obtain ⟨WW, hWW⟩ : ∃ x, x = ((w5.setCell ⟨w.heap.size + 1, 0, none⟩ (.bool false)).setCell ⟨w.heap.size + 1, 1, none⟩ (.slice none 0 0)) := ⟨_, rfl⟩
  rw [← hWW] at hB hBel
  obtain ⟨x0, x1⟩ := (hE.here.2).c2
  obtain ⟨fz0, fz1⟩ := (hE.here.2).f2
  have HWW := Lib.hid hWW
  clear hWW
  go_wp2_with fail
  clear x0 x1
  rw [← HWW.out]
  obtain ⟨y0, y1⟩ := hB.c2
  refine bodyPost_ret (v := .tuple #[.agg #[.bool false, .slice none 0 0], .int .i64 2]) (by simp [results, Tryz.results48, go_sem, y0, y1]) rfl ?_
  exact ⟨rfl, hBel⟩
set_option linter.unusedSimpArgs false in
set_option maxRecDepth 100000 in
set_option maxHeartbeats 2000000 in
theorem fceil_bad {sa ta : Bool} {Aa Ba : Option Addr} {na ca ma da : Nat} {fa ga : Nat → Nat} {w : World} (ra : FRd w Aa na fa Ba ma ga) (la : Fc.len ⟨sa, Aa, na, ca, fa, ta, Ba, ma, da, ga⟩) (hbad : Fc.ok ⟨sa, Aa, na, ca, fa, ta, Ba, ma, da, ga⟩ = false) :
    Calls Tryz.prog 49 #[.agg #[.bool sa, .slice Aa na ca, .bool ta, .slice Ba ma da]] w (WErr 2 w) := by
  have hE := ((Env.start w).frd ra).blk 26 #[.bool sa, .slice Aa na ca, .bool ta, .slice Ba ma da] (g := w.heap.size) rfl
  have hE := hE.blk 24 #[.bool false, .slice none 0 0] (g := w.heap.size + 1) (by simp)
  obtain ⟨W0, hW0⟩ : ∃ W0, W0 = ((w.alloc (.cells #[.bool sa, .slice Aa na ca, .bool ta, .slice Ba ma da] 26)).alloc (.cells #[.bool false, .slice none 0 0] 24)) := ⟨_, rfl⟩
  rw [← hW0] at hE
  have HW0 := Lib.hid hW0
  clear hW0
  go_enter Tryz.func49, Tryz.ntmps49
  go_upto_region 1 with (fail)
  rw [← HW0.out]
  obtain ⟨k1, k2, k3, k4⟩ := (hE.here.1.2).c4
  go_wp2_with fail
  have hc := fvalid_bad ⟨sa, Aa, na, ca, fa, ta, Ba, ma, da, ga⟩ _ hE.here.1.1.2 la hbad
  refine hc.mono ?_
  clear hc
  clear k1 k2 k3 k4
  rintro e w5 ⟨rfl, hb⟩
  replace hE := hE.step hb
  clear hb
  go_upto_region 2 with (fail)
  have hRl : w.heap.size ≤ w.heap.size + 1 := by omega
  have hB := (hE.here.2).s2 (.bool false) (.slice none 0 0)
  have hBel := bel2 hE.bel hRl (.bool false) (.slice none 0 0)
  obtain ⟨WW, hWW⟩ : ∃ x, x = ((w5.setCell ⟨w.heap.size + 1, 0, none⟩ (.bool false)).setCell ⟨w.heap.size + 1, 1, none⟩ (.slice none 0 0)) := ⟨_, rfl⟩
  rw [← hWW] at hB hBel
  obtain ⟨x0, x1⟩ := (hE.here.2).c2
  obtain ⟨fz0, fz1⟩ := (hE.here.2).f2
  have HWW := Lib.hid hWW
  clear hWW
  go_wp2_with fail
  clear x0 x1
  rw [← HWW.out]
  obtain ⟨y0, y1⟩ := hB.c2
  refine bodyPost_ret (v := .tuple #[.agg #[.bool false, .slice none 0 0], .int .i64 2]) (by simp [results, Tryz.results49, go_sem, y0, y1]) rfl ?_
  exact ⟨rfl, hBel⟩
set_option linter.unusedSimpArgs false in
set_option maxRecDepth 100000 in
set_option maxHeartbeats 2000000 in
theorem fint_bad {sa ta : Bool} {Aa Ba : Option Addr} {na ca ma da : Nat} {fa ga : Nat → Nat} {w : World} (ra : FRd w Aa na fa Ba ma ga) (la : Fc.len ⟨sa, Aa, na, ca, fa, ta, Ba, ma, da, ga⟩) (hbad : Fc.ok ⟨sa, Aa, na, ca, fa, ta, Ba, ma, da, ga⟩ = false) :
    Calls Tryz.prog 38 #[.agg #[.bool sa, .slice Aa na ca, .bool ta, .slice Ba ma da]] w (fun e w' => e = .returned (.tuple #[.int .i64 0, .int .i64 2]) ∧ Below w.heap.size w w') := by
  have hE := ((Env.start w).frd ra).blk 26 #[.bool sa, .slice Aa na ca, .bool ta, .slice Ba ma da] (g := w.heap.size) rfl
  obtain ⟨W0, hW0⟩ : ∃ W0, W0 = (w.alloc (.cells #[.bool sa, .slice Aa na ca, .bool ta, .slice Ba ma da] 26)) := ⟨_, rfl⟩
  rw [← hW0] at hE
  have HW0 := Lib.hid hW0
  clear hW0
  go_enter Tryz.func38, Tryz.ntmps38
  go_upto_region 1 with (fail)
  rw [← HW0.out]
  obtain ⟨k1, k2, k3, k4⟩ := (hE.here.2).c4
  go_wp2_with fail
  have hc := fvalid_bad ⟨sa, Aa, na, ca, fa, ta, Ba, ma, da, ga⟩ _ hE.here.1.2 la hbad
  refine hc.mono ?_
  clear hc
  clear k1 k2 k3 k4
  rintro e w5 ⟨rfl, hb⟩
  replace hE := hE.step hb
  clear hb
  go_wp2_with fail
  refine bodyPost_ret (v := .tuple #[.int .i64 0, .int .i64 2]) (by simp [results, Tryz.results38, go_sem]) rfl ?_
  exact ⟨rfl, hE.bel⟩
end Go.Proofs.YtifikcemcflgjaaGreat
