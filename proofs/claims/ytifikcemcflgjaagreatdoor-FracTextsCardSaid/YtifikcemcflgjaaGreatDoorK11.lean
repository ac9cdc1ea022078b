/-
  Several texts in one: The walks of the functions of frac where an argument is not valid. What an argument of the type api.Frac is; the cell of the library's variable.
-/
import Derived.Test.YtifikcemcflgjaaGreatDoorK9
import Derived.ProofKit
import Derived.OpenShut
import Derived.Carry
import Derived.HandedShaped
import Derived.Deep.DeepHandedRow
import Derived.Deep.Slices
import Derived.Lib.SmallJoins
namespace Go.Proofs.YtifikcemcflgjaaGreatDoor
open Go.RowKit

/-- The parts are not longer than memory allows. -/
def Fc.len (h : Fc) : Prop := h.n ≤ 1000000 ∧ h.m ≤ 1000000
theorem fallValid_bad (a b : Fc) (w : World) (ra : a.rd w) (rb : b.rd w) (la : a.len) (lb : b.len) (h : (a.ok && b.ok) = false) :
    Calls Tryz.prog 40 #[.slice (some ⟨w.heap.size, 0, none⟩) 2 2] (w.alloc (.cells #[.bool a.s, .slice a.A a.n a.c, .bool a.t, .slice a.B a.m a.d, .bool b.s, .slice b.A b.n b.c, .bool b.t, .slice b.B b.m b.d] 26)) fun e w' => e = .returned (.bool false) ∧ Below w.heap.size w w' := by
  have hb := (Below.refl w.heap.size w).alloc (Nat.le_refl _) (.cells #[.bool a.s, .slice a.A a.n a.c, .bool a.t, .slice a.B a.m a.d, .bool b.s, .slice b.A b.n b.c, .bool b.t, .slice b.B b.m b.d] 26)
  have hc := fallValid_two w.heap.size a.s a.t b.s b.t a.A a.B b.A b.B a.n a.m a.c a.d b.n b.m b.c b.d _ _ _ _ _ (Blk.new w _ _) (FRd.below ra hb) (FRd.below rb hb) la.1 la.2 lb.1 lb.2 a.ok b.ok rfl rfl
  rw [h] at hc
  exact hc.mono fun e w' ⟨he, hb'⟩ => ⟨he, hb.trans (hb'.mono hb.size)⟩
theorem fvalid_bad (a : Fc) (w : World) (ra : a.rd w) (la : a.len) (h : a.ok = false) :
    Calls Tryz.prog 8 #[.agg #[.bool a.s, .slice a.A a.n a.c, .bool a.t, .slice a.B a.m a.d]] w fun e w' => e = .returned (.bool false) ∧ Below w.heap.size w w' :=
  fvalid_r a.s a.t a.A a.B a.n a.m a.c a.d _ _ w ra la.1 la.2 false h
set_option linter.unusedSimpArgs false in
set_option maxRecDepth 100000 in
set_option maxHeartbeats 2000000 in
theorem fadd_bad {sa ta sb tb : Bool} {Aa Ba Ab Bb : Option Addr} {na ca ma da nb cb mb db : Nat} {fa ga fb gb : Nat → Nat} {w : World} (ra : FRd w Aa na fa Ba ma ga) (la : Fc.len ⟨sa, Aa, na, ca, fa, ta, Ba, ma, da, ga⟩) (rb : FRd w Ab nb fb Bb mb gb) (lb : Fc.len ⟨sb, Ab, nb, cb, fb, tb, Bb, mb, db, gb⟩) (hbad : ((Fc.ok ⟨sa, Aa, na, ca, fa, ta, Ba, ma, da, ga⟩ && Fc.ok ⟨sb, Ab, nb, cb, fb, tb, Bb, mb, db, gb⟩) = false)) :
    Calls Tryz.prog 9 #[.agg #[.bool sa, .slice Aa na ca, .bool ta, .slice Ba ma da], .agg #[.bool sb, .slice Ab nb cb, .bool tb, .slice Bb mb db]] w (FErr 2 w) := by
  have hE := ((((Env.start w).frd ra).frd rb).blk 26 #[.bool sa, .slice Aa na ca, .bool ta, .slice Ba ma da] (g := w.heap.size) rfl).blk 26 #[.bool sb, .slice Ab nb cb, .bool tb, .slice Bb mb db] (g := w.heap.size + 1) (by simp)
  have hE := hE.blk 26 #[.bool false, .slice none 0 0, .bool false, .slice none 0 0] (g := w.heap.size + 1 + 1) (by simp)
  obtain ⟨W0, hW0⟩ : ∃ W0, W0 = (((w.alloc (.cells #[.bool sa, .slice Aa na ca, .bool ta, .slice Ba ma da] 26)).alloc (.cells #[.bool sb, .slice Ab nb cb, .bool tb, .slice Bb mb db] 26)).alloc (.cells #[.bool false, .slice none 0 0, .bool false, .slice none 0 0] 26)) := ⟨_, rfl⟩
  rw [← hW0] at hE
  have HW0 := Lib.hid hW0
  clear hW0
  go_enter Tryz.func9, Tryz.ntmps9
  go_upto_region 1 with (fail)
  rw [← HW0.out]
  obtain ⟨k1, k2, k3, k4⟩ := (hE.here.1.1.2).c4
  obtain ⟨k5, k6, k7, k8⟩ := (hE.here.1.2).c4
  go_wp2_with fail
  have hc := fallValid_bad ⟨sa, Aa, na, ca, fa, ta, Ba, ma, da, ga⟩ ⟨sb, Ab, nb, cb, fb, tb, Bb, mb, db, gb⟩ _ hE.here.1.1.1.1.2 hE.here.1.1.1.2 la lb hbad
  refine hc.mono ?_
  clear hc
  clear k1 k2 k3 k4 k5 k6 k7 k8
  rintro e w9 ⟨rfl, hb⟩
  replace hE := hE.step hb
  clear hb
  go_upto_region 2 with (fail)
  have hRl : w.heap.size ≤ w.heap.size + 1 + 1 := by omega
  have hB := (hE.here.2).s4 (.bool false) (.slice none 0 0) (.bool false) (.slice none 0 0)
  have hBel := bel4 hE.bel hRl (.bool false) (.slice none 0 0) (.bool false) (.slice none 0 0)
  obtain ⟨WW, hWW⟩ : ∃ x, x = ((((w9.setCell ⟨w.heap.size + 1 + 1, 0, none⟩ (.bool false)).setCell ⟨w.heap.size + 1 + 1, 1, none⟩ (.slice none 0 0)).setCell ⟨w.heap.size + 1 + 1, 2, none⟩ (.bool false)).setCell ⟨w.heap.size + 1 + 1, 3, none⟩ (.slice none 0 0)) := ⟨_, rfl⟩
  rw [← hWW] at hB hBel
  obtain ⟨x0, x1, x2, x3⟩ := (hE.here.2).c4
  obtain ⟨fz0, fz1, fz2, fz3⟩ := (hE.here.2).f4
  have HWW := Lib.hid hWW
  clear hWW
  go_wp2_with fail
  clear x0 x1 x2 x3
  rw [← HWW.out]
  obtain ⟨y0, y1, y2, y3⟩ := hB.c4
  refine bodyPost_ret (v := .tuple #[.agg #[.bool false, .slice none 0 0, .bool false, .slice none 0 0], .int .i64 2]) (by simp [results, Tryz.results9, go_sem, y0, y1, y2, y3]) rfl ?_
  exact ⟨rfl, hBel⟩
set_option linter.unusedSimpArgs false in
set_option maxRecDepth 100000 in
set_option maxHeartbeats 2000000 in
theorem fsub_bad {sa ta sb tb : Bool} {Aa Ba Ab Bb : Option Addr} {na ca ma da nb cb mb db : Nat} {fa ga fb gb : Nat → Nat} {w : World} (ra : FRd w Aa na fa Ba ma ga) (la : Fc.len ⟨sa, Aa, na, ca, fa, ta, Ba, ma, da, ga⟩) (rb : FRd w Ab nb fb Bb mb gb) (lb : Fc.len ⟨sb, Ab, nb, cb, fb, tb, Bb, mb, db, gb⟩) (hbad : ((Fc.ok ⟨sa, Aa, na, ca, fa, ta, Ba, ma, da, ga⟩ && Fc.ok ⟨sb, Ab, nb, cb, fb, tb, Bb, mb, db, gb⟩) = false)) :
    Calls Tryz.prog 10 #[.agg #[.bool sa, .slice Aa na ca, .bool ta, .slice Ba ma da], .agg #[.bool sb, .slice Ab nb cb, .bool tb, .slice Bb mb db]] w (FErr 2 w) := by
  have hE := ((((Env.start w).frd ra).frd rb).blk 26 #[.bool sa, .slice Aa na ca, .bool ta, .slice Ba ma da] (g := w.heap.size) rfl).blk 26 #[.bool sb, .slice Ab nb cb, .bool tb, .slice Bb mb db] (g := w.heap.size + 1) (by simp)
  have hE := hE.blk 26 #[.bool false, .slice none 0 0, .bool false, .slice none 0 0] (g := w.heap.size + 1 + 1) (by simp)
  obtain ⟨W0, hW0⟩ : ∃ W0, W0 = (((w.alloc (.cells #[.bool sa, .slice Aa na ca, .bool ta, .slice Ba ma da] 26)).alloc (.cells #[.bool sb, .slice Ab nb cb, .bool tb, .slice Bb mb db] 26)).alloc (.cells #[.bool false, .slice none 0 0, .bool false, .slice none 0 0] 26)) := ⟨_, rfl⟩
  rw [← hW0] at hE
  have HW0 := Lib.hid hW0
  clear hW0
  go_enter Tryz.func10, Tryz.ntmps10
  go_upto_region 1 with (fail)
  rw [← HW0.out]
  obtain ⟨k1, k2, k3, k4⟩ := (hE.here.1.1.2).c4
  obtain ⟨k5, k6, k7, k8⟩ := (hE.here.1.2).c4
  go_wp2_with fail
  have hc := fallValid_bad ⟨sa, Aa, na, ca, fa, ta, Ba, ma, da, ga⟩ ⟨sb, Ab, nb, cb, fb, tb, Bb, mb, db, gb⟩ _ hE.here.1.1.1.1.2 hE.here.1.1.1.2 la lb hbad
  refine hc.mono ?_
  clear hc
  clear k1 k2 k3 k4 k5 k6 k7 k8
  rintro e w9 ⟨rfl, hb⟩
  replace hE := hE.step hb
  clear hb
  go_upto_region 2 with (fail)
  have hRl : w.heap.size ≤ w.heap.size + 1 + 1 := by omega
  have hB := (hE.here.2).s4 (.bool false) (.slice none 0 0) (.bool false) (.slice none 0 0)
  have hBel := bel4 hE.bel hRl (.bool false) (.slice none 0 0) (.bool false) (.slice none 0 0)
  obtain ⟨WW, hWW⟩ : ∃ x, x = ((((w9.setCell ⟨w.heap.size + 1 + 1, 0, none⟩ (.bool false)).setCell ⟨w.heap.size + 1 + 1, 1, none⟩ (.slice none 0 0)).setCell ⟨w.heap.size + 1 + 1, 2, none⟩ (.bool false)).setCell ⟨w.heap.size + 1 + 1, 3, none⟩ (.slice none 0 0)) := ⟨_, rfl⟩
  rw [← hWW] at hB hBel
  obtain ⟨x0, x1, x2, x3⟩ := (hE.here.2).c4
  obtain ⟨fz0, fz1, fz2, fz3⟩ := (hE.here.2).f4
  have HWW := Lib.hid hWW
  clear hWW
  go_wp2_with fail
  clear x0 x1 x2 x3
  rw [← HWW.out]
  obtain ⟨y0, y1, y2, y3⟩ := hB.c4
  refine bodyPost_ret (v := .tuple #[.agg #[.bool false, .slice none 0 0, .bool false, .slice none 0 0], .int .i64 2]) (by simp [results, Tryz.results10, go_sem, y0, y1, y2, y3]) rfl ?_
  exact ⟨rfl, hBel⟩
set_option linter.unusedSimpArgs false in
set_option maxRecDepth 100000 in
set_option maxHeartbeats 2000000 in
theorem fmul_bad {sa ta sb tb : Bool} {Aa Ba Ab Bb : Option Addr} {na ca ma da nb cb mb db : Nat} {fa ga fb gb : Nat → Nat} {w : World} (ra : FRd w Aa na fa Ba ma ga) (la : Fc.len ⟨sa, Aa, na, ca, fa, ta, Ba, ma, da, ga⟩) (rb : FRd w Ab nb fb Bb mb gb) (lb : Fc.len ⟨sb, Ab, nb, cb, fb, tb, Bb, mb, db, gb⟩) (hbad : ((Fc.ok ⟨sa, Aa, na, ca, fa, ta, Ba, ma, da, ga⟩ && Fc.ok ⟨sb, Ab, nb, cb, fb, tb, Bb, mb, db, gb⟩) = false)) :
    Calls Tryz.prog 11 #[.agg #[.bool sa, .slice Aa na ca, .bool ta, .slice Ba ma da], .agg #[.bool sb, .slice Ab nb cb, .bool tb, .slice Bb mb db]] w (FErr 2 w) := by
  have hE := ((((Env.start w).frd ra).frd rb).blk 26 #[.bool sa, .slice Aa na ca, .bool ta, .slice Ba ma da] (g := w.heap.size) rfl).blk 26 #[.bool sb, .slice Ab nb cb, .bool tb, .slice Bb mb db] (g := w.heap.size + 1) (by simp)
  have hE := hE.blk 26 #[.bool false, .slice none 0 0, .bool false, .slice none 0 0] (g := w.heap.size + 1 + 1) (by simp)
  obtain ⟨W0, hW0⟩ : ∃ W0, W0 = (((w.alloc (.cells #[.bool sa, .slice Aa na ca, .bool ta, .slice Ba ma da] 26)).alloc (.cells #[.bool sb, .slice Ab nb cb, .bool tb, .slice Bb mb db] 26)).alloc (.cells #[.bool false, .slice none 0 0, .bool false, .slice none 0 0] 26)) := ⟨_, rfl⟩
  rw [← hW0] at hE
  have HW0 := Lib.hid hW0
  clear hW0
  go_enter Tryz.func11, Tryz.ntmps11
  go_upto_region 1 with (fail)
  rw [← HW0.out]
  obtain ⟨k1, k2, k3, k4⟩ := (hE.here.1.1.2).c4
  obtain ⟨k5, k6, k7, k8⟩ := (hE.here.1.2).c4
  go_wp2_with fail
  have hc := fallValid_bad ⟨sa, Aa, na, ca, fa, ta, Ba, ma, da, ga⟩ ⟨sb, Ab, nb, cb, fb, tb, Bb, mb, db, gb⟩ _ hE.here.1.1.1.1.2 hE.here.1.1.1.2 la lb hbad
  refine hc.mono ?_
  clear hc
  clear k1 k2 k3 k4 k5 k6 k7 k8
  rintro e w9 ⟨rfl, hb⟩
  replace hE := hE.step hb
  clear hb
  go_upto_region 2 with (fail)
  have hRl : w.heap.size ≤ w.heap.size + 1 + 1 := by omega
  have hB := (hE.here.2).s4 (.bool false) (.slice none 0 0) (.bool false) (.slice none 0 0)
  have hBel := bel4 hE.bel hRl (.bool false) (.slice none 0 0) (.bool false) (.slice none 0 0)
  obtain ⟨WW, hWW⟩ : ∃ x, x = ((((w9.setCell ⟨w.heap.size + 1 + 1, 0, none⟩ (.bool false)).setCell ⟨w.heap.size + 1 + 1, 1, none⟩ (.slice none 0 0)).setCell ⟨w.heap.size + 1 + 1, 2, none⟩ (.bool false)).setCell ⟨w.heap.size + 1 + 1, 3, none⟩ (.slice none 0 0)) := ⟨_, rfl⟩
  rw [← hWW] at hB hBel
  obtain ⟨x0, x1, x2, x3⟩ := (hE.here.2).c4
  obtain ⟨fz0, fz1, fz2, fz3⟩ := (hE.here.2).f4
  have HWW := Lib.hid hWW
  clear hWW
  go_wp2_with fail
  clear x0 x1 x2 x3
  rw [← HWW.out]
  obtain ⟨y0, y1, y2, y3⟩ := hB.c4
  refine bodyPost_ret (v := .tuple #[.agg #[.bool false, .slice none 0 0, .bool false, .slice none 0 0], .int .i64 2]) (by simp [results, Tryz.results11, go_sem, y0, y1, y2, y3]) rfl ?_
  exact ⟨rfl, hBel⟩
set_option linter.unusedSimpArgs false in
set_option maxRecDepth 100000 in
set_option maxHeartbeats 2000000 in
theorem fdiv_bad {sa ta sb tb : Bool} {Aa Ba Ab Bb : Option Addr} {na ca ma da nb cb mb db : Nat} {fa ga fb gb : Nat → Nat} {w : World} (ra : FRd w Aa na fa Ba ma ga) (la : Fc.len ⟨sa, Aa, na, ca, fa, ta, Ba, ma, da, ga⟩) (rb : FRd w Ab nb fb Bb mb gb) (lb : Fc.len ⟨sb, Ab, nb, cb, fb, tb, Bb, mb, db, gb⟩) (hbad : ((Fc.ok ⟨sa, Aa, na, ca, fa, ta, Ba, ma, da, ga⟩ && Fc.ok ⟨sb, Ab, nb, cb, fb, tb, Bb, mb, db, gb⟩) = false)) :
    Calls Tryz.prog 12 #[.agg #[.bool sa, .slice Aa na ca, .bool ta, .slice Ba ma da], .agg #[.bool sb, .slice Ab nb cb, .bool tb, .slice Bb mb db]] w (FErr 2 w) := by
  have hE := ((((Env.start w).frd ra).frd rb).blk 26 #[.bool sa, .slice Aa na ca, .bool ta, .slice Ba ma da] (g := w.heap.size) rfl).blk 26 #[.bool sb, .slice Ab nb cb, .bool tb, .slice Bb mb db] (g := w.heap.size + 1) (by simp)
  have hE := hE.blk 26 #[.bool false, .slice none 0 0, .bool false, .slice none 0 0] (g := w.heap.size + 1 + 1) (by simp)
  obtain ⟨W0, hW0⟩ : ∃ W0, W0 = (((w.alloc (.cells #[.bool sa, .slice Aa na ca, .bool ta, .slice Ba ma da] 26)).alloc (.cells #[.bool sb, .slice Ab nb cb, .bool tb, .slice Bb mb db] 26)).alloc (.cells #[.bool false, .slice none 0 0, .bool false, .slice none 0 0] 26)) := ⟨_, rfl⟩
  rw [← hW0] at hE
  have HW0 := Lib.hid hW0
  clear hW0
  go_enter Tryz.func12, Tryz.ntmps12
  go_upto_region 1 with (fail)
  rw [← HW0.out]
  obtain ⟨k1, k2, k3, k4⟩ := (hE.here.1.1.2).c4
  obtain ⟨k5, k6, k7, k8⟩ := (hE.here.1.2).c4
  go_wp2_with fail
  have hc := fallValid_bad ⟨sa, Aa, na, ca, fa, ta, Ba, ma, da, ga⟩ ⟨sb, Ab, nb, cb, fb, tb, Bb, mb, db, gb⟩ _ hE.here.1.1.1.1.2 hE.here.1.1.1.2 la lb hbad
  refine hc.mono ?_
  clear hc
  clear k1 k2 k3 k4 k5 k6 k7 k8
  rintro e w9 ⟨rfl, hb⟩
  replace hE := hE.step hb
  clear hb
  go_upto_region 2 with (fail)
  have hRl : w.heap.size ≤ w.heap.size + 1 + 1 := by omega
  have hB := (hE.here.2).s4 (.bool false) (.slice none 0 0) (.bool false) (.slice none 0 0)
  have hBel := bel4 hE.bel hRl (.bool false) (.slice none 0 0) (.bool false) (.slice none 0 0)
  obtain ⟨WW, hWW⟩ : ∃ x, x = ((((w9.setCell ⟨w.heap.size + 1 + 1, 0, none⟩ (.bool false)).setCell ⟨w.heap.size + 1 + 1, 1, none⟩ (.slice none 0 0)).setCell ⟨w.heap.size + 1 + 1, 2, none⟩ (.bool false)).setCell ⟨w.heap.size + 1 + 1, 3, none⟩ (.slice none 0 0)) := ⟨_, rfl⟩
  rw [← hWW] at hB hBel
  obtain ⟨x0, x1, x2, x3⟩ := (hE.here.2).c4
  obtain ⟨fz0, fz1, fz2, fz3⟩ := (hE.here.2).f4
  have HWW := Lib.hid hWW
  clear hWW
  go_wp2_with fail
  clear x0 x1 x2 x3
  rw [← HWW.out]
  obtain ⟨y0, y1, y2, y3⟩ := hB.c4
  refine bodyPost_ret (v := .tuple #[.agg #[.bool false, .slice none 0 0, .bool false, .slice none 0 0], .int .i64 2]) (by simp [results, Tryz.results12, go_sem, y0, y1, y2, y3]) rfl ?_
  exact ⟨rfl, hBel⟩
set_option linter.unusedSimpArgs false in
set_option maxRecDepth 100000 in
set_option maxHeartbeats 2000000 in
theorem fround_bad {sa ta sb tb : Bool} {Aa Ba Ab Bb : Option Addr} {na ca ma da nb cb mb db : Nat} {fa ga fb gb : Nat → Nat} {md : Int} {w : World} (ra : FRd w Aa na fa Ba ma ga) (la : Fc.len ⟨sa, Aa, na, ca, fa, ta, Ba, ma, da, ga⟩) (rb : FRd w Ab nb fb Bb mb gb) (lb : Fc.len ⟨sb, Ab, nb, cb, fb, tb, Bb, mb, db, gb⟩) (hbad : ((Fc.ok ⟨sa, Aa, na, ca, fa, ta, Ba, ma, da, ga⟩ && Fc.ok ⟨sb, Ab, nb, cb, fb, tb, Bb, mb, db, gb⟩) = false)) :
    Calls Tryz.prog 15 #[.agg #[.bool sa, .slice Aa na ca, .bool ta, .slice Ba ma da], .agg #[.bool sb, .slice Ab nb cb, .bool tb, .slice Bb mb db], .int .u8 md] w (FErr 2 w) := by
  have hE := ((((Env.start w).frd ra).frd rb).blk 26 #[.bool sa, .slice Aa na ca, .bool ta, .slice Ba ma da] (g := w.heap.size) rfl).blk 26 #[.bool sb, .slice Ab nb cb, .bool tb, .slice Bb mb db] (g := w.heap.size + 1) (by simp)
  have hE := hE.blk 26 #[.bool false, .slice none 0 0, .bool false, .slice none 0 0] (g := w.heap.size + 1 + 1) (by simp)
  obtain ⟨W0, hW0⟩ : ∃ W0, W0 = (((w.alloc (.cells #[.bool sa, .slice Aa na ca, .bool ta, .slice Ba ma da] 26)).alloc (.cells #[.bool sb, .slice Ab nb cb, .bool tb, .slice Bb mb db] 26)).alloc (.cells #[.bool false, .slice none 0 0, .bool false, .slice none 0 0] 26)) := ⟨_, rfl⟩
  rw [← hW0] at hE
  have HW0 := Lib.hid hW0
  clear hW0
  go_enter Tryz.func15, Tryz.ntmps15
  go_upto_region 1 with (fail)
  rw [← HW0.out]
  obtain ⟨k1, k2, k3, k4⟩ := (hE.here.1.1.2).c4
  obtain ⟨k5, k6, k7, k8⟩ := (hE.here.1.2).c4
  go_wp2_with fail
  have hc := fallValid_bad ⟨sa, Aa, na, ca, fa, ta, Ba, ma, da, ga⟩ ⟨sb, Ab, nb, cb, fb, tb, Bb, mb, db, gb⟩ _ hE.here.1.1.1.1.2 hE.here.1.1.1.2 la lb hbad
  refine hc.mono ?_
  clear hc
  clear k1 k2 k3 k4 k5 k6 k7 k8
  rintro e w9 ⟨rfl, hb⟩
  replace hE := hE.step hb
  clear hb
  go_upto_region 2 with (fail)
  have hRl : w.heap.size ≤ w.heap.size + 1 + 1 := by omega
  have hB := (hE.here.2).s4 (.bool false) (.slice none 0 0) (.bool false) (.slice none 0 0)
  have hBel := bel4 hE.bel hRl (.bool false) (.slice none 0 0) (.bool false) (.slice none 0 0)
  obtain ⟨WW, hWW⟩ : ∃ x, x = ((((w9.setCell ⟨w.heap.size + 1 + 1, 0, none⟩ (.bool false)).setCell ⟨w.heap.size + 1 + 1, 1, none⟩ (.slice none 0 0)).setCell ⟨w.heap.size + 1 + 1, 2, none⟩ (.bool false)).setCell ⟨w.heap.size + 1 + 1, 3, none⟩ (.slice none 0 0)) := ⟨_, rfl⟩
  rw [← hWW] at hB hBel
  obtain ⟨x0, x1, x2, x3⟩ := (hE.here.2).c4
  obtain ⟨fz0, fz1, fz2, fz3⟩ := (hE.here.2).f4
  have HWW := Lib.hid hWW
  clear hWW
  go_wp2_with fail
  clear x0 x1 x2 x3
  rw [← HWW.out]
  obtain ⟨y0, y1, y2, y3⟩ := hB.c4
  refine bodyPost_ret (v := .tuple #[.agg #[.bool false, .slice none 0 0, .bool false, .slice none 0 0], .int .i64 2]) (by simp [results, Tryz.results15, go_sem, y0, y1, y2, y3]) rfl ?_
  exact ⟨rfl, hBel⟩
set_option linter.unusedSimpArgs false in
set_option maxRecDepth 100000 in
set_option maxHeartbeats 2000000 in
theorem fcmp_bad {sa ta sb tb : Bool} {Aa Ba Ab Bb : Option Addr} {na ca ma da nb cb mb db : Nat} {fa ga fb gb : Nat → Nat} {w : World} (ra : FRd w Aa na fa Ba ma ga) (la : Fc.len ⟨sa, Aa, na, ca, fa, ta, Ba, ma, da, ga⟩) (rb : FRd w Ab nb fb Bb mb gb) (lb : Fc.len ⟨sb, Ab, nb, cb, fb, tb, Bb, mb, db, gb⟩) (hbad : ((Fc.ok ⟨sa, Aa, na, ca, fa, ta, Ba, ma, da, ga⟩ && Fc.ok ⟨sb, Ab, nb, cb, fb, tb, Bb, mb, db, gb⟩) = false)) :
    Calls Tryz.prog 21 #[.agg #[.bool sa, .slice Aa na ca, .bool ta, .slice Ba ma da], .agg #[.bool sb, .slice Ab nb cb, .bool tb, .slice Bb mb db]] w (fun e w' => e = .returned (.int .i64 0) ∧ Below w.heap.size w w') := by
  have hE := ((((Env.start w).frd ra).frd rb).blk 26 #[.bool sa, .slice Aa na ca, .bool ta, .slice Ba ma da] (g := w.heap.size) rfl).blk 26 #[.bool sb, .slice Ab nb cb, .bool tb, .slice Bb mb db] (g := w.heap.size + 1) (by simp)
  obtain ⟨W0, hW0⟩ : ∃ W0, W0 = ((w.alloc (.cells #[.bool sa, .slice Aa na ca, .bool ta, .slice Ba ma da] 26)).alloc (.cells #[.bool sb, .slice Ab nb cb, .bool tb, .slice Bb mb db] 26)) := ⟨_, rfl⟩
  rw [← hW0] at hE
  have HW0 := Lib.hid hW0
  clear hW0
  go_enter Tryz.func21, Tryz.ntmps21
  go_upto_region 1 with (fail)
  rw [← HW0.out]
  obtain ⟨k1, k2, k3, k4⟩ := (hE.here.1.2).c4
  obtain ⟨k5, k6, k7, k8⟩ := (hE.here.2).c4
  go_wp2_with fail
  have hc := fallValid_bad ⟨sa, Aa, na, ca, fa, ta, Ba, ma, da, ga⟩ ⟨sb, Ab, nb, cb, fb, tb, Bb, mb, db, gb⟩ _ hE.here.1.1.1.2 hE.here.1.1.2 la lb hbad
  refine hc.mono ?_
  clear hc
  clear k1 k2 k3 k4 k5 k6 k7 k8
  rintro e w9 ⟨rfl, hb⟩
  replace hE := hE.step hb
  clear hb
  go_wp2_with fail
  go_ret
  exact ⟨rfl, hE.bel⟩
set_option linter.unusedSimpArgs false in
set_option maxRecDepth 100000 in
set_option maxHeartbeats 2000000 in
theorem fneg_bad {sa ta : Bool} {Aa Ba : Option Addr} {na ca ma da : Nat} {fa ga : Nat → Nat} {w : World} (ra : FRd w Aa na fa Ba ma ga) (la : Fc.len ⟨sa, Aa, na, ca, fa, ta, Ba, ma, da, ga⟩) (hbad : Fc.ok ⟨sa, Aa, na, ca, fa, ta, Ba, ma, da, ga⟩ = false) :
    Calls Tryz.prog 13 #[.agg #[.bool sa, .slice Aa na ca, .bool ta, .slice Ba ma da]] w (FErr 2 w) := by
  have hE := ((Env.start w).frd ra).blk 26 #[.bool sa, .slice Aa na ca, .bool ta, .slice Ba ma da] (g := w.heap.size) rfl
  have hE := hE.blk 26 #[.bool false, .slice none 0 0, .bool false, .slice none 0 0] (g := w.heap.size + 1) (by simp)
  obtain ⟨W0, hW0⟩ : ∃ W0, W0 = ((w.alloc (.cells #[.bool sa, .slice Aa na ca, .bool ta, .slice Ba ma da] 26)).alloc (.cells #[.bool false, .slice none 0 0, .bool false, .slice none 0 0] 26)) := ⟨_, rfl⟩
  rw [← hW0] at hE
  have HW0 := Lib.hid hW0
  clear hW0
  go_enter Tryz.func13, Tryz.ntmps13
  go_upto_region 1 with (fail)
  rw [← HW0.out]
  obtain ⟨k1, k2, k3, k4⟩ := (hE.here.1.2).c4
  go_wp2_with fail
  have hc := fvalid_bad ⟨sa, Aa, na, ca, fa, ta, Ba, ma, da, ga⟩ _ hE.here.1.1.2 la hbad
  refine hc.mono ?_
  clear hc
  clear k1 k2 k3 k4
  rintro e w5 ⟨rfl, hb⟩
  replace hE := hE.step hb
  clear hb
  go_upto_region 2 with (fail)
  have hRl : w.heap.size ≤ w.heap.size + 1 := by omega
  have hB := (hE.here.2).s4 (.bool false) (.slice none 0 0) (.bool false) (.slice none 0 0)
  have hBel := bel4 hE.bel hRl (.bool false) (.slice none 0 0) (.bool false) (.slice none 0 0)
  obtain ⟨WW, hWW⟩ : ∃ x, x = ((((w5.setCell ⟨w.heap.size + 1, 0, none⟩ (.bool false)).setCell ⟨w.heap.size + 1, 1, none⟩ (.slice none 0 0)).setCell ⟨w.heap.size + 1, 2, none⟩ (.bool false)).setCell ⟨w.heap.size + 1, 3, none⟩ (.slice none 0 0)) := ⟨_, rfl⟩
  rw [← hWW] at hB hBel
  obtain ⟨x0, x1, x2, x3⟩ := (hE.here.2).c4
  obtain ⟨fz0, fz1, fz2, fz3⟩ := (hE.here.2).f4
  have HWW := Lib.hid hWW
  clear hWW
  go_wp2_with fail
  clear x0 x1 x2 x3
  rw [← HWW.out]
  obtain ⟨y0, y1, y2, y3⟩ := hB.c4
  refine bodyPost_ret (v := .tuple #[.agg #[.bool false, .slice none 0 0, .bool false, .slice none 0 0], .int .i64 2]) (by simp [results, Tryz.results13, go_sem, y0, y1, y2, y3]) rfl ?_
  exact ⟨rfl, hBel⟩
set_option linter.unusedSimpArgs false in
set_option maxRecDepth 100000 in
set_option maxHeartbeats 2000000 in
theorem fpow_bad {sa ta : Bool} {Aa Ba : Option Addr} {na ca ma da : Nat} {fa ga : Nat → Nat} {z : Int} {w : World} (ra : FRd w Aa na fa Ba ma ga) (la : Fc.len ⟨sa, Aa, na, ca, fa, ta, Ba, ma, da, ga⟩) (hbad : Fc.ok ⟨sa, Aa, na, ca, fa, ta, Ba, ma, da, ga⟩ = false) :
    Calls Tryz.prog 14 #[.agg #[.bool sa, .slice Aa na ca, .bool ta, .slice Ba ma da], .int .i64 z] w (FErr 2 w) := by
  have hE := ((Env.start w).frd ra).blk 26 #[.bool sa, .slice Aa na ca, .bool ta, .slice Ba ma da] (g := w.heap.size) rfl
  have hE := hE.blk 26 #[.bool false, .slice none 0 0, .bool false, .slice none 0 0] (g := w.heap.size + 1) (by simp)
  obtain ⟨W0, hW0⟩ : ∃ W0, W0 = ((w.alloc (.cells #[.bool sa, .slice Aa na ca, .bool ta, .slice Ba ma da] 26)).alloc (.cells #[.bool false, .slice none 0 0, .bool false, .slice none 0 0] 26)) := ⟨_, rfl⟩
  rw [← hW0] at hE
  have HW0 := Lib.hid hW0
  clear hW0
  go_enter Tryz.func14, Tryz.ntmps14
  go_upto_region 1 with (fail)
  rw [← HW0.out]
  obtain ⟨k1, k2, k3, k4⟩ := (hE.here.1.2).c4
  go_wp2_with fail
  have hc := fvalid_bad ⟨sa, Aa, na, ca, fa, ta, Ba, ma, da, ga⟩ _ hE.here.1.1.2 la hbad
  refine hc.mono ?_
  clear hc
  clear k1 k2 k3 k4
  rintro e w5 ⟨rfl, hb⟩
  replace hE := hE.step hb
  clear hb
  go_upto_region 2 with (fail)
  have hRl : w.heap.size ≤ w.heap.size + 1 := by omega
  have hB := (hE.here.2).s4 (.bool false) (.slice none 0 0) (.bool false) (.slice none 0 0)
  have hBel := bel4 hE.bel hRl (.bool false) (.slice none 0 0) (.bool false) (.slice none 0 0)
  obtain ⟨WW, hWW⟩ : ∃ x, x = ((((w5.setCell ⟨w.heap.size + 1, 0, none⟩ (.bool false)).setCell ⟨w.heap.size + 1, 1, none⟩ (.slice none 0 0)).setCell ⟨w.heap.size + 1, 2, none⟩ (.bool false)).setCell ⟨w.heap.size + 1, 3, none⟩ (.slice none 0 0)) := ⟨_, rfl⟩
  rw [← hWW] at hB hBel
  obtain ⟨x0, x1, x2, x3⟩ := (hE.here.2).c4
  obtain ⟨fz0, fz1, fz2, fz3⟩ := (hE.here.2).f4
  have HWW := Lib.hid hWW
  clear hWW
  go_wp2_with fail
  clear x0 x1 x2 x3
  rw [← HWW.out]
  obtain ⟨y0, y1, y2, y3⟩ := hB.c4
  refine bodyPost_ret (v := .tuple #[.agg #[.bool false, .slice none 0 0, .bool false, .slice none 0 0], .int .i64 2]) (by simp [results, Tryz.results14, go_sem, y0, y1, y2, y3]) rfl ?_
  exact ⟨rfl, hBel⟩
/-- The call returned the whole number 0 and the error k. -/
def WErr (k : Int) (w : World) (e : Ending) (w' : World) : Prop := e = .returned (.tuple #[.agg #[.bool false, .slice none 0 0], .int .i64 k]) ∧ Below w.heap.size w w'
set_option linter.unusedSimpArgs false in
set_option maxRecDepth 100000 in
set_option maxHeartbeats 2000000 in
theorem ffloor_bad {sa ta : Bool} {Aa Ba : Option Addr} {na ca ma da : Nat} {fa ga : Nat → Nat} {w : World} (ra : FRd w Aa na fa Ba ma ga) (la : Fc.len ⟨sa, Aa, na, ca, fa, ta, Ba, ma, da, ga⟩) (hbad : Fc.ok ⟨sa, Aa, na, ca, fa, ta, Ba, ma, da, ga⟩ = false) :
    Calls Tryz.prog 17 #[.agg #[.bool sa, .slice Aa na ca, .bool ta, .slice Ba ma da]] w (WErr 2 w) := by
  have hE := ((Env.start w).frd ra).blk 26 #[.bool sa, .slice Aa na ca, .bool ta, .slice Ba ma da] (g := w.heap.size) rfl
  have hE := hE.blk 24 #[.bool false, .slice none 0 0] (g := w.heap.size + 1) (by simp)
  obtain ⟨W0, hW0⟩ : ∃ W0, W0 = ((w.alloc (.cells #[.bool sa, .slice Aa na ca, .bool ta, .slice Ba ma da] 26)).alloc (.cells #[.bool false, .slice none 0 0] 24)) := ⟨_, rfl⟩
  rw [← hW0] at hE
  have HW0 := Lib.hid hW0
  clear hW0
  go_enter Tryz.func17, Tryz.ntmps17
  go_upto_region 1 with (fail)
  rw [← HW0.out]
  obtain ⟨k1, k2, k3, k4⟩ := (hE.here.1.2).c4
  go_wp2_with fail
  have hc := fvalid_bad ⟨sa, Aa, na, ca, fa, ta, Ba, ma, da, ga⟩ _ hE.here.1.1.2 la hbad
  refine hc.mono ?_
  clear hc
  clear k1 k2 k3 k4
  rintro e w5 ⟨rfl, hb⟩
  replace hE := hE.step hb
  clear hb
  go_upto_region 2 with (fail)
  have hRl : w.heap.size ≤ w.heap.size + 1 := by omega
  have hB := (hE.here.2).s2 (.bool false) (.slice none 0 0)
  have hBel := bel2 hE.bel hRl (.bool false) (.slice none 0 0)
  obtain ⟨WW, hWW⟩ : ∃ x, x = ((w5.setCell ⟨w.heap.size + 1, 0, none⟩ (.bool false)).setCell ⟨w.heap.size + 1, 1, none⟩ (.slice none 0 0)) := ⟨_, rfl⟩
  rw [← hWW] at hB hBel
  obtain ⟨x0, x1⟩ := (hE.here.2).c2
  obtain ⟨fz0, fz1⟩ := (hE.here.2).f2
  have HWW := Lib.hid hWW
  clear hWW
  go_wp2_with fail
  clear x0 x1
  rw [← HWW.out]
  obtain ⟨y0, y1⟩ := hB.c2
  refine bodyPost_ret (v := .tuple #[.agg #[.bool false, .slice none 0 0], .int .i64 2]) (by simp [results, Tryz.results17, go_sem, y0, y1]) rfl ?_
  exact ⟨rfl, hBel⟩
set_option linter.unusedSimpArgs false in
set_option maxRecDepth 100000 in
set_option maxHeartbeats 2000000 in
theorem fceil_bad {sa ta : Bool} {Aa Ba : Option Addr} {na ca ma da : Nat} {fa ga : Nat → Nat} {w : World} (ra : FRd w Aa na fa Ba ma ga) (la : Fc.len ⟨sa, Aa, na, ca, fa, ta, Ba, ma, da, ga⟩) (hbad : Fc.ok ⟨sa, Aa, na, ca, fa, ta, Ba, ma, da, ga⟩ = false) :
    Calls Tryz.prog 18 #[.agg #[.bool sa, .slice Aa na ca, .bool ta, .slice Ba ma da]] w (WErr 2 w) := by
  have hE := ((Env.start w).frd ra).blk 26 #[.bool sa, .slice Aa na ca, .bool ta, .slice Ba ma da] (g := w.heap.size) rfl
  have hE := hE.blk 24 #[.bool false, .slice none 0 0] (g := w.heap.size + 1) (by simp)
  obtain ⟨W0, hW0⟩ : ∃ W0, W0 = ((w.alloc (.cells #[.bool sa, .slice Aa na ca, .bool ta, .slice Ba ma da] 26)).alloc (.cells #[.bool false, .slice none 0 0] 24)) := ⟨_, rfl⟩
  rw [← hW0] at hE
  have HW0 := Lib.hid hW0
  clear hW0
  go_enter Tryz.func18, Tryz.ntmps18
  go_upto_region 1 with (fail)
  rw [← HW0.out]
  obtain ⟨k1, k2, k3, k4⟩ := (hE.here.1.2).c4
  go_wp2_with fail
  have hc := fvalid_bad ⟨sa, Aa, na, ca, fa, ta, Ba, ma, da, ga⟩ _ hE.here.1.1.2 la hbad
  refine hc.mono ?_
  clear hc
  clear k1 k2 k3 k4
  rintro e w5 ⟨rfl, hb⟩
  replace hE := hE.step hb
  clear hb
  go_upto_region 2 with (fail)
  have hRl : w.heap.size ≤ w.heap.size + 1 := by omega
  have hB := (hE.here.2).s2 (.bool false) (.slice none 0 0)
  have hBel := bel2 hE.bel hRl (.bool false) (.slice none 0 0)
  obtain ⟨WW, hWW⟩ : ∃ x, x = ((w5.setCell ⟨w.heap.size + 1, 0, none⟩ (.bool false)).setCell ⟨w.heap.size + 1, 1, none⟩ (.slice none 0 0)) := ⟨_, rfl⟩
  rw [← hWW] at hB hBel
  obtain ⟨x0, x1⟩ := (hE.here.2).c2
  obtain ⟨fz0, fz1⟩ := (hE.here.2).f2
  have HWW := Lib.hid hWW
  clear hWW
  go_wp2_with fail
  clear x0 x1
  rw [← HWW.out]
  obtain ⟨y0, y1⟩ := hB.c2
  refine bodyPost_ret (v := .tuple #[.agg #[.bool false, .slice none 0 0], .int .i64 2]) (by simp [results, Tryz.results18, go_sem, y0, y1]) rfl ?_
  exact ⟨rfl, hBel⟩
set_option linter.unusedSimpArgs false in
set_option maxRecDepth 100000 in
set_option maxHeartbeats 2000000 in
theorem fint_bad {sa ta : Bool} {Aa Ba : Option Addr} {na ca ma da : Nat} {fa ga : Nat → Nat} {w : World} (ra : FRd w Aa na fa Ba ma ga) (la : Fc.len ⟨sa, Aa, na, ca, fa, ta, Ba, ma, da, ga⟩) (hbad : Fc.ok ⟨sa, Aa, na, ca, fa, ta, Ba, ma, da, ga⟩ = false) :
    Calls Tryz.prog 19 #[.agg #[.bool sa, .slice Aa na ca, .bool ta, .slice Ba ma da]] w (fun e w' => e = .returned (.tuple #[.int .i64 0, .int .i64 2]) ∧ Below w.heap.size w w') := by
  have hE := ((Env.start w).frd ra).blk 26 #[.bool sa, .slice Aa na ca, .bool ta, .slice Ba ma da] (g := w.heap.size) rfl
  obtain ⟨W0, hW0⟩ : ∃ W0, W0 = (w.alloc (.cells #[.bool sa, .slice Aa na ca, .bool ta, .slice Ba ma da] 26)) := ⟨_, rfl⟩
  rw [← hW0] at hE
  have HW0 := Lib.hid hW0
  clear hW0
  go_enter Tryz.func19, Tryz.ntmps19
  go_upto_region 1 with (fail)
  rw [← HW0.out]
  obtain ⟨k1, k2, k3, k4⟩ := (hE.here.2).c4
  go_wp2_with fail
  have hc := fvalid_bad ⟨sa, Aa, na, ca, fa, ta, Ba, ma, da, ga⟩ _ hE.here.1.2 la hbad
  refine hc.mono ?_
  clear hc
  clear k1 k2 k3 k4
  rintro e w5 ⟨rfl, hb⟩
  replace hE := hE.step hb
  clear hb
  go_wp2_with fail
  refine bodyPost_ret (v := .tuple #[.int .i64 0, .int .i64 2]) (by simp [results, Tryz.results19, go_sem]) rfl ?_
  exact ⟨rfl, hE.bel⟩
end Go.Proofs.YtifikcemcflgjaaGreatDoor
namespace Go.Proofs.YtifikcemcflgjaaGreatDoor
open Go.ChangeShapes Go.WideShapes Go.ChangeAt Go.RowKit Go.Deep

theorem cBool : Tryz.prog.cellsOf 4 = 1 := by kernel_rfl
theorem cU16 : Tryz.prog.cellsOf 73 = 1 := by kernel_rfl
theorem cU16s : Tryz.prog.cellsOf 22 = 1 := by kernel_rfl
theorem cWhole : Tryz.prog.cellsOf 24 = 2 := by kernel_rfl
theorem cFrac : Tryz.prog.cellsOf 26 = 4 := by kernel_rfl
theorem two_of_len {α : Type} {l : List α} (h : l.length = 2) : ∃ a b, l = [a, b] := by
  match l, h with
  | [a, b], _ => exact ⟨a, b, rfl⟩
theorem four_of_len {α : Type} {l : List α} (h : l.length = 4) : ∃ a b c d, l = [a, b, c, d] := by
  match l, h with
  | [a, b, c, d], _ => exact ⟨a, b, c, d, rfl⟩
theorem cell_in {w : World} {b o : Nat} {v : Value} (h : w.cell? ⟨b, o, none⟩ = some v) : b < w.heap.size := by
  rcases Nat.lt_or_ge b w.heap.size with h1 | h1
  · exact h1
  · simp [World.cell?, Array.getElem?_eq_none h1] at h
section
variable {H : Type} {enc : TypeId × Value → H} {W : World}
set_option maxRecDepth 100000 in
/-- The limbs of a number. -/
theorem limbs_open {fuel : Nat} {cs : List Value} {x : DataW H × List MemPlace} (h : DataW.trod enc Tryz.prog W 0 (fun _ => true) true fuel 22 cs = some x) :
    ∃ A n c f, cs = [.slice A n c] ∧ Rd W.heap.size .u16 W A n f ∧ ∀ j, j < n → f j < 65536 := by
  rcases open_ints Tryz.underlying22 Tryz.underlying73 cU16 h with ⟨e1, -⟩ | ⟨a, len, cap, zs, e1, -, hlc, hcm, hzl, -, hc, hwf⟩
  · exact ⟨none, 0, 0, fun _ => 0, e1, Rd.nil, fun j hj => absurd hj (by omega)⟩
  · replace hzl : zs.length = cap := by simpa using hzl
    have hb : ∀ j, 0 ≤ zs.getD j 0 ∧ zs.getD j 0 ≤ 65535 := fun j => by rw [List.getD_eq_getElem?_getD]; exact range_u16 hwf j
    refine ⟨some a, len, cap, fun j => (zs.getD j 0).toNat, e1, fun hn => ?_, fun j _ => by have := hb j; show (zs.getD j 0).toNat < 65536; omega⟩
    obtain ⟨b, o, rfl, hcell⟩ := ints_at hc (by omega)
    refine ⟨b, o, rfl, ?_, fun i hi => ?_⟩
    · exact cell_in (hcell 0 (by omega))
    · rw [hcell i (by omega), Int.toNat_of_nonneg (hb i).1]
set_option maxRecDepth 100000 in
/-- The two cells of a whole number. -/
theorem wcells_open {fuel : Nat} {cs : List Value} {x : DataW H × List MemPlace} (h : DataW.trod enc Tryz.prog W 0 (fun _ => true) true fuel 24 cs = some x) :
    ∃ s A n c f, cs = [.bool s, .slice A n c] ∧ Rd W.heap.size .u16 W A n f ∧ ∀ j, j < n → f j < 65536 := by
  obtain ⟨xs, k, -, -, hl, hx, hi⟩ := DataW.trod_struct Tryz.underlying24 h
  obtain ⟨c0, c1, rfl⟩ := two_of_len (hl.trans cWhole)
  obtain ⟨x0, x1, rfl⟩ := two_of_len hx
  have h0 : DataW.trod enc Tryz.prog W 0 (fun _ => true) true k 4 (([c0, c1].drop 0).take (Tryz.prog.cellsOf 4)) = some x0 := hi 0 _ rfl
  have h1 : DataW.trod enc Tryz.prog W 0 (fun _ => true) true k 22 (([c0, c1].drop 1).take (Tryz.prog.cellsOf 22)) = some x1 := hi 1 _ rfl
  rw [cBool] at h0
  rw [cU16s] at h1
  simp only [List.drop_zero, List.take_succ_cons, List.take_zero, List.drop_succ_cons] at h0 h1
  obtain ⟨s, e0, -⟩ := DataW.trod_bool Tryz.underlying4 h0
  obtain ⟨A, n, c, f, e1, r1, r2⟩ := limbs_open h1
  injection e0 with e0
  injection e1 with e1
  exact ⟨s, A, n, c, f, by rw [e0, e1], r1, r2⟩
set_option maxRecDepth 100000 in
/-- The four cells of a fraction. -/
theorem fcells_open {fuel : Nat} {cs : List Value} {x : DataW H × List MemPlace} (h : DataW.trod enc Tryz.prog W 0 (fun _ => true) true fuel 26 cs = some x) :
    ∃ q : Fc, cs = [.bool q.s, .slice q.A q.n q.c, .bool q.t, .slice q.B q.m q.d] ∧ q.rd W := by
  obtain ⟨xs, k, -, -, hl, hx, hi⟩ := DataW.trod_struct Tryz.underlying26 h
  obtain ⟨c0, c1, c2, c3, rfl⟩ := four_of_len (hl.trans cFrac)
  obtain ⟨x0, x1, rfl⟩ := two_of_len hx
  have h0 : DataW.trod enc Tryz.prog W 0 (fun _ => true) true k 24 (([c0, c1, c2, c3].drop 0).take (Tryz.prog.cellsOf 24)) = some x0 := hi 0 _ rfl
  have h1 : DataW.trod enc Tryz.prog W 0 (fun _ => true) true k 24 (([c0, c1, c2, c3].drop 2).take (Tryz.prog.cellsOf 24)) = some x1 := hi 1 _ rfl
  rw [cWhole] at h0 h1
  simp only [List.drop_zero, List.take_succ_cons, List.take_zero, List.drop_succ_cons] at h0 h1
  obtain ⟨s, A, n, c, f, e0, r1, r2⟩ := wcells_open h0
  obtain ⟨t, B, m, d, g, e1, r3, r4⟩ := wcells_open h1
  injection e0 with e0 e2
  injection e2 with e2
  injection e1 with e1 e3
  injection e3 with e3
  exact ⟨⟨s, A, n, c, f, t, B, m, d, g⟩, by rw [e0, e1, e2, e3], r1, r3, r2, r4⟩
set_option maxRecDepth 100000 in
theorem frac_open {b0 : Nat} {v : Value} {d : DataW H} {p : List MemPlace} (hv : Value.okWide Tryz.prog W .any b0 26 v) (h : DataW.Trod enc Tryz.prog W 0 (fun _ => true) true 26 v d p) :
    ∃ s A n c f t B m d g, v = .agg #[.bool s, .slice A n c, .bool t, .slice B m d] ∧ FRd W A n f B m g := by
  obtain ⟨cs, rfl, -⟩ := okWide_struct Tryz.underlying26 hv
  obtain ⟨fuel, hf⟩ := h
  have hf2 : DataW.trod enc Tryz.prog W 0 (fun _ => true) true fuel 26 cs.toList = some (d, p) := hf
  obtain ⟨⟨s, A, n, c, f, t, B, m, e, g⟩, h1, h2⟩ := fcells_open hf2
  refine ⟨s, A, n, c, f, t, B, m, e, g, ?_, h2⟩
  rw [show cs = #[.bool s, .slice A n c, .bool t, .slice B m e] from Array.toList_inj.1 h1]
theorem max_open (hsh : W.ShapedOpen Tryz.prog) : 1 < W.heap.size ∧ ∃ k, W.cell? ⟨1, 0, none⟩ = some (.int .i64 k) := by
  have h : ∃ k, W.cell? ⟨1, 0, none⟩ = some (.int .i64 k) := Tryz.laysM145.s1_3 W hsh
  obtain ⟨k, hk⟩ := h
  exact ⟨cell_in hk, k, hk⟩
end
end Go.Proofs.YtifikcemcflgjaaGreatDoor
