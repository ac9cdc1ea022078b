/-
  The walks of the helpers of the laws of layer 31: quick, is, sum, less, product, equal.
-/
import Derived.Test.YtmjlankpihnicaaGreatK1
import Derived.Test.YtmjlankpihnicaaGreatK8
import Derived.Test.YtmjlankpihnicaaGreatK7
namespace Go.Proofs.YtmjlankpihnicaaGreat
open Go.RowKit

set_option linter.unusedSimpArgs false in
set_option maxRecDepth 100000 in
set_option maxHeartbeats 2000000 in
theorem cw_sum {a b : Rat} {sa ta sb tb : Bool} {Aa Ba Ab Bb : Option Addr} {na ca ma da nb cb mb db : Nat} {w : World} (ha : FV w a sa Aa na ta Ba ma) (hb : FV w b sb Ab nb tb Bb mb) (la : fl a ≤ 256) (lb : fl b ≤ 256) (lr : fl (a + b) ≤ 256) :
    Calls Tryz.prog 23 #[.agg #[.bool sa, .slice Aa na ca, .bool ta, .slice Ba ma da], .agg #[.bool sb, .slice Ab nb cb, .bool tb, .slice Bb mb db]] w (FR (a + b) w) := by
  have hE := ((((Env.start w).fv ha).fv hb).blk 29 #[.bool sa, .slice Aa na ca, .bool ta, .slice Ba ma da] (g := w.heap.size) rfl).blk 29 #[.bool sb, .slice Ab nb cb, .bool tb, .slice Bb mb db] (g := w.heap.size + 1) (by simp)
  have hE := hE.blk 29 #[.bool false, .slice none 0 0, .bool false, .slice none 0 0] (g := w.heap.size + 1 + 1) (by simp)
  obtain ⟨W0, hW0⟩ : ∃ W0, W0 = (((w.alloc (.cells #[.bool sa, .slice Aa na ca, .bool ta, .slice Ba ma da] 29)).alloc (.cells #[.bool sb, .slice Ab nb cb, .bool tb, .slice Bb mb db] 29)).alloc (.cells #[.bool false, .slice none 0 0, .bool false, .slice none 0 0] 29)) := ⟨_, rfl⟩
  rw [← hW0] at hE
  have HW0 := Lib.hid hW0
  clear hW0
  go_enter Tryz.func23, Tryz.ntmps23
  go_upto_region 1 with (fail)
  rw [← HW0.out]
  obtain ⟨k1, k2, k3, k4⟩ := (hE.here.1.1.2).c4
  obtain ⟨k5, k6, k7, k8⟩ := (hE.here.1.2).c4
  go_wp2_with fail
  have hc := fadd_v (ca := ca) (da := da) (cb := cb) (db := db) hE.here.1.1.1.1.2 hE.here.1.1.1.2 la lb lr
  refine hc.mono ?_
  clear hc
  clear k1 k2 k3 k4 k5 k6 k7 k8
  rintro e w9 ⟨sr, Ar, nr, cr, tr, Br, mr, dr, rfl, hr, hb⟩
  replace hE := hE.step hb
  clear hb
  replace hE := hE.fv hr
  clear hr
  go_upto_region 2 with (fail)
  obtain ⟨g10, hg10⟩ : ∃ g10, g10 = w9.heap.size := ⟨_, rfl⟩
  have hl10_2 : w.heap.size < g10 := by rw [hg10]; exact (hE.here.1.1.1.2).lt
  have hl10_3 : w.heap.size + 1 < g10 := by rw [hg10]; exact (hE.here.1.1.2).lt
  have hl10_4 : w.heap.size + 1 + 1 < g10 := by rw [hg10]; exact (hE.here.1.2).lt
  replace hE := hE.blk 29 #[.bool sr, .slice Ar nr cr, .bool tr, .slice Br mr dr] (g := g10) hg10.symm
  generalize w9.alloc (.cells #[.bool sr, .slice Ar nr cr, .bool tr, .slice Br mr dr] 29) = W10 at hE ⊢
  rw [← hg10]
  clear hg10
  obtain ⟨k11, k12, k13, k14⟩ := (hE.here.2).c4
  have hRl : w.heap.size ≤ w.heap.size + 1 + 1 := by omega
  obtain ⟨WW, hWW, hB, hV, hBel⟩ := ret_frac hE hE.here.1.1.2 hRl hE.here.1.2 cr dr
  obtain ⟨x0, x1, x2, x3⟩ := (hE.here.1.1.2).c4
  obtain ⟨fz0, fz1, fz2, fz3⟩ := hE.here.1.1.2.f4
  have HWW := Lib.hid hWW
  clear hWW
  go_wp2_with fail
  clear k11 k12 k13 k14
  rw [← HWW.out]
  obtain ⟨y0, y1, y2, y3⟩ := hB.c4
  refine bodyPost_ret (v := .agg #[.bool sr, .slice Ar nr cr, .bool tr, .slice Br mr dr]) (by simp [results, Tryz.results23, go_sem, y0, y1, y2, y3]) rfl ?_
  exact ⟨sr, Ar, nr, cr, tr, Br, mr, dr, rfl, hV, hBel⟩
set_option linter.unusedSimpArgs false in
set_option maxRecDepth 100000 in
set_option maxHeartbeats 2000000 in
theorem cw_product {a b : Rat} {sa ta sb tb : Bool} {Aa Ba Ab Bb : Option Addr} {na ca ma da nb cb mb db : Nat} {w : World} (ha : FV w a sa Aa na ta Ba ma) (hb : FV w b sb Ab nb tb Bb mb) (la : fl a ≤ 256) (lb : fl b ≤ 256) (lr : fl (a * b) ≤ 256) :
    Calls Tryz.prog 22 #[.agg #[.bool sa, .slice Aa na ca, .bool ta, .slice Ba ma da], .agg #[.bool sb, .slice Ab nb cb, .bool tb, .slice Bb mb db]] w (FR (a * b) w) := by
  have hE := ((((Env.start w).fv ha).fv hb).blk 29 #[.bool sa, .slice Aa na ca, .bool ta, .slice Ba ma da] (g := w.heap.size) rfl).blk 29 #[.bool sb, .slice Ab nb cb, .bool tb, .slice Bb mb db] (g := w.heap.size + 1) (by simp)
  have hE := hE.blk 29 #[.bool false, .slice none 0 0, .bool false, .slice none 0 0] (g := w.heap.size + 1 + 1) (by simp)
  obtain ⟨W0, hW0⟩ : ∃ W0, W0 = (((w.alloc (.cells #[.bool sa, .slice Aa na ca, .bool ta, .slice Ba ma da] 29)).alloc (.cells #[.bool sb, .slice Ab nb cb, .bool tb, .slice Bb mb db] 29)).alloc (.cells #[.bool false, .slice none 0 0, .bool false, .slice none 0 0] 29)) := ⟨_, rfl⟩
  rw [← hW0] at hE
  have HW0 := Lib.hid hW0
  clear hW0
  go_enter Tryz.func22, Tryz.ntmps22
  go_upto_region 1 with (fail)
  rw [← HW0.out]
  obtain ⟨k1, k2, k3, k4⟩ := (hE.here.1.1.2).c4
  obtain ⟨k5, k6, k7, k8⟩ := (hE.here.1.2).c4
  go_wp2_with fail
  have hc := fmul_v (ca := ca) (da := da) (cb := cb) (db := db) hE.here.1.1.1.1.2 hE.here.1.1.1.2 la lb lr
  refine hc.mono ?_
  clear hc
  clear k1 k2 k3 k4 k5 k6 k7 k8
  rintro e w9 ⟨sr, Ar, nr, cr, tr, Br, mr, dr, rfl, hr, hb⟩
  replace hE := hE.step hb
  clear hb
  replace hE := hE.fv hr
  clear hr
  go_upto_region 2 with (fail)
  obtain ⟨g10, hg10⟩ : ∃ g10, g10 = w9.heap.size := ⟨_, rfl⟩
  have hl10_2 : w.heap.size < g10 := by rw [hg10]; exact (hE.here.1.1.1.2).lt
  have hl10_3 : w.heap.size + 1 < g10 := by rw [hg10]; exact (hE.here.1.1.2).lt
  have hl10_4 : w.heap.size + 1 + 1 < g10 := by rw [hg10]; exact (hE.here.1.2).lt
  replace hE := hE.blk 29 #[.bool sr, .slice Ar nr cr, .bool tr, .slice Br mr dr] (g := g10) hg10.symm
  generalize w9.alloc (.cells #[.bool sr, .slice Ar nr cr, .bool tr, .slice Br mr dr] 29) = W10 at hE ⊢
  rw [← hg10]
  clear hg10
  obtain ⟨k11, k12, k13, k14⟩ := (hE.here.2).c4
  have hRl : w.heap.size ≤ w.heap.size + 1 + 1 := by omega
  obtain ⟨WW, hWW, hB, hV, hBel⟩ := ret_frac hE hE.here.1.1.2 hRl hE.here.1.2 cr dr
  obtain ⟨x0, x1, x2, x3⟩ := (hE.here.1.1.2).c4
  obtain ⟨fz0, fz1, fz2, fz3⟩ := hE.here.1.1.2.f4
  have HWW := Lib.hid hWW
  clear hWW
  go_wp2_with fail
  clear k11 k12 k13 k14
  rw [← HWW.out]
  obtain ⟨y0, y1, y2, y3⟩ := hB.c4
  refine bodyPost_ret (v := .agg #[.bool sr, .slice Ar nr cr, .bool tr, .slice Br mr dr]) (by simp [results, Tryz.results22, go_sem, y0, y1, y2, y3]) rfl ?_
  exact ⟨sr, Ar, nr, cr, tr, Br, mr, dr, rfl, hV, hBel⟩
set_option linter.unusedSimpArgs false in
set_option maxRecDepth 100000 in
set_option maxHeartbeats 2000000 in
theorem cw_less {a b : Rat} {sa ta sb tb : Bool} {Aa Ba Ab Bb : Option Addr} {na ca ma da nb cb mb db : Nat} {w : World} (ha : FV w a sa Aa na ta Ba ma) (hb : FV w b sb Ab nb tb Bb mb) (la : fl a ≤ 256) (lb : fl b ≤ 256) (lr : fl (a - b) ≤ 256) :
    Calls Tryz.prog 20 #[.agg #[.bool sa, .slice Aa na ca, .bool ta, .slice Ba ma da], .agg #[.bool sb, .slice Ab nb cb, .bool tb, .slice Bb mb db]] w (FR (a - b) w) := by
  have hE := ((((Env.start w).fv ha).fv hb).blk 29 #[.bool sa, .slice Aa na ca, .bool ta, .slice Ba ma da] (g := w.heap.size) rfl).blk 29 #[.bool sb, .slice Ab nb cb, .bool tb, .slice Bb mb db] (g := w.heap.size + 1) (by simp)
  have hE := hE.blk 29 #[.bool false, .slice none 0 0, .bool false, .slice none 0 0] (g := w.heap.size + 1 + 1) (by simp)
  obtain ⟨W0, hW0⟩ : ∃ W0, W0 = (((w.alloc (.cells #[.bool sa, .slice Aa na ca, .bool ta, .slice Ba ma da] 29)).alloc (.cells #[.bool sb, .slice Ab nb cb, .bool tb, .slice Bb mb db] 29)).alloc (.cells #[.bool false, .slice none 0 0, .bool false, .slice none 0 0] 29)) := ⟨_, rfl⟩
  rw [← hW0] at hE
  have HW0 := Lib.hid hW0
  clear hW0
  go_enter Tryz.func20, Tryz.ntmps20
  go_upto_region 1 with (fail)
  rw [← HW0.out]
  obtain ⟨k1, k2, k3, k4⟩ := (hE.here.1.1.2).c4
  obtain ⟨k5, k6, k7, k8⟩ := (hE.here.1.2).c4
  go_wp2_with fail
  have hc := fsub_v (ca := ca) (da := da) (cb := cb) (db := db) hE.here.1.1.1.1.2 hE.here.1.1.1.2 la lb lr
  refine hc.mono ?_
  clear hc
  clear k1 k2 k3 k4 k5 k6 k7 k8
  rintro e w9 ⟨sr, Ar, nr, cr, tr, Br, mr, dr, rfl, hr, hb⟩
  replace hE := hE.step hb
  clear hb
  replace hE := hE.fv hr
  clear hr
  go_upto_region 2 with (fail)
  obtain ⟨g10, hg10⟩ : ∃ g10, g10 = w9.heap.size := ⟨_, rfl⟩
  have hl10_2 : w.heap.size < g10 := by rw [hg10]; exact (hE.here.1.1.1.2).lt
  have hl10_3 : w.heap.size + 1 < g10 := by rw [hg10]; exact (hE.here.1.1.2).lt
  have hl10_4 : w.heap.size + 1 + 1 < g10 := by rw [hg10]; exact (hE.here.1.2).lt
  replace hE := hE.blk 29 #[.bool sr, .slice Ar nr cr, .bool tr, .slice Br mr dr] (g := g10) hg10.symm
  generalize w9.alloc (.cells #[.bool sr, .slice Ar nr cr, .bool tr, .slice Br mr dr] 29) = W10 at hE ⊢
  rw [← hg10]
  clear hg10
  obtain ⟨k11, k12, k13, k14⟩ := (hE.here.2).c4
  have hRl : w.heap.size ≤ w.heap.size + 1 + 1 := by omega
  obtain ⟨WW, hWW, hB, hV, hBel⟩ := ret_frac hE hE.here.1.1.2 hRl hE.here.1.2 cr dr
  obtain ⟨x0, x1, x2, x3⟩ := (hE.here.1.1.2).c4
  obtain ⟨fz0, fz1, fz2, fz3⟩ := hE.here.1.1.2.f4
  have HWW := Lib.hid hWW
  clear hWW
  go_wp2_with fail
  clear k11 k12 k13 k14
  rw [← HWW.out]
  obtain ⟨y0, y1, y2, y3⟩ := hB.c4
  refine bodyPost_ret (v := .agg #[.bool sr, .slice Ar nr cr, .bool tr, .slice Br mr dr]) (by simp [results, Tryz.results20, go_sem, y0, y1, y2, y3]) rfl ?_
  exact ⟨sr, Ar, nr, cr, tr, Br, mr, dr, rfl, hV, hBel⟩
set_option linter.unusedSimpArgs false in
set_option maxRecDepth 100000 in
set_option maxHeartbeats 2000000 in
theorem c_quick (n d : Int) (w : World) (h1 : -9223372036854775808 ≤ n) (h2 : n ≤ 9223372036854775807) (h3 : -9223372036854775808 ≤ d) (h4 : d ≤ 9223372036854775807) (hd : d ≠ 0) :
    Calls Tryz.prog 13 #[.int .i64 n, .int .i64 d] w (FR (Rat.divInt n d) w) := by
  have hE := Env.start w
  have hE := hE.blk 29 #[.bool false, .slice none 0 0, .bool false, .slice none 0 0] (g := w.heap.size) rfl
  obtain ⟨W0, hW0⟩ : ∃ W0, W0 = (w.alloc (.cells #[.bool false, .slice none 0 0, .bool false, .slice none 0 0] 29)) := ⟨_, rfl⟩
  rw [← hW0] at hE
  have HW0 := Lib.hid hW0
  clear hW0
  go_enter Tryz.func13, Tryz.ntmps13
  go_upto_region 1 with (fail)
  rw [← HW0.out]
  go_wp2_with fail
  have hc := rquick_v n d W0 h1 h2 h3 h4 hd
  refine hc.mono ?_
  clear hc
  rintro e w1 ⟨sf, Af, nf, cf, tf, Bf, mf, df, rfl, hf, hb⟩
  replace hE := hE.step hb
  clear hb
  replace hE := hE.fv hf
  clear hf
  have hRl : w.heap.size ≤ w.heap.size := by omega
  obtain ⟨WW, hWW, hB, hV, hBel⟩ := ret_frac hE hE.here.1.2 hRl hE.here.2 cf df
  obtain ⟨x0, x1, x2, x3⟩ := (hE.here.1.2).c4
  obtain ⟨fz0, fz1, fz2, fz3⟩ := hE.here.1.2.f4
  have HWW := Lib.hid hWW
  clear hWW
  go_wp2_with fail
  rw [← HWW.out]
  obtain ⟨y0, y1, y2, y3⟩ := hB.c4
  refine bodyPost_ret (v := .agg #[.bool sf, .slice Af nf cf, .bool tf, .slice Bf mf df]) (by simp [results, Tryz.results13, go_sem, y0, y1, y2, y3]) rfl ?_
  exact ⟨sf, Af, nf, cf, tf, Bf, mf, df, rfl, hV, hBel⟩
set_option linter.unusedSimpArgs false in
set_option maxRecDepth 100000 in
set_option maxHeartbeats 2000000 in
theorem cw_equal {a b : Rat} {v : Bool} {sa ta sb tb : Bool} {Aa Ba Ab Bb : Option Addr} {na ca ma da nb cb mb db : Nat} {w : World} (ha : FV w a sa Aa na ta Ba ma) (hb : FV w b sb Ab nb tb Bb mb) (la : fl a ≤ 256) (lb : fl b ≤ 256) (h : decide (a = b) = v) :
    Calls Tryz.prog 21 #[.agg #[.bool sa, .slice Aa na ca, .bool ta, .slice Ba ma da], .agg #[.bool sb, .slice Ab nb cb, .bool tb, .slice Bb mb db]] w (fun e w' => e = .returned (.bool v) ∧ Below w.heap.size w w') := by
  have hE := ((((Env.start w).fv ha).fv hb).blk 29 #[.bool sa, .slice Aa na ca, .bool ta, .slice Ba ma da] (g := w.heap.size) rfl).blk 29 #[.bool sb, .slice Ab nb cb, .bool tb, .slice Bb mb db] (g := w.heap.size + 1) (by simp)
  obtain ⟨W0, hW0⟩ : ∃ W0, W0 = ((w.alloc (.cells #[.bool sa, .slice Aa na ca, .bool ta, .slice Ba ma da] 29)).alloc (.cells #[.bool sb, .slice Ab nb cb, .bool tb, .slice Bb mb db] 29)) := ⟨_, rfl⟩
  rw [← hW0] at hE
  have HW0 := Lib.hid hW0
  clear hW0
  go_enter Tryz.func21, Tryz.ntmps21
  go_upto_region 1 with (fail)
  rw [← HW0.out]
  have l1 := (hE.here.1.1.1.2).ln la
  have l2 := (hE.here.1.1.2).ln lb
  obtain ⟨k1, k2, k3, k4⟩ := (hE.here.1.2).c4
  obtain ⟨k5, k6, k7, k8⟩ := (hE.here.2).c4
  go_wp2_with fail
  have hc := fvalid_v (c := ca) (d := da) hE.here.1.1.1.2 la
  refine hc.mono ?_
  clear hc
  clear k1 k2 k3 k4 k5 k6 k7 k8
  rintro e w9 ⟨rfl, hb⟩
  replace hE := hE.step hb
  clear hb
  obtain ⟨k10, k11, k12, k13⟩ := (hE.here.1.2).c4
  obtain ⟨k14, k15, k16, k17⟩ := (hE.here.2).c4
  go_wp2_with fail
  have hc := fvalid_v (c := cb) (d := db) hE.here.1.1.2 lb
  refine hc.mono ?_
  clear hc
  clear k10 k11 k12 k13 k14 k15 k16 k17
  rintro e w18 ⟨rfl, hb⟩
  replace hE := hE.step hb
  clear hb
  obtain ⟨k19, k20, k21, k22⟩ := (hE.here.1.2).c4
  obtain ⟨k23, k24, k25, k26⟩ := (hE.here.2).c4
  go_wp2_with fail
  have hc := frsame_v (ca := ca) (da := da) (cb := cb) (db := db) hE.here.1.1.1.2 hE.here.1.1.2 (by omega) (by omega) (by omega) (by omega)
  rw [h] at hc
  refine hc.mono ?_
  clear hc
  clear k19 k20 k21 k22 k23 k24 k25 k26
  rintro e w9 ⟨rfl, hb⟩
  replace hE := hE.step hb
  go_wp2_with fail
  go_ret
  exact ⟨rfl, hE.bel⟩
set_option linter.unusedSimpArgs false in
set_option maxRecDepth 100000 in
set_option maxHeartbeats 2000000 in
theorem c_is {a : Rat} {sa ta : Bool} {Aa Ba : Option Addr} {na ca ma da : Nat} {w : World} {n d : Int} (ha : FV w a sa Aa na ta Ba ma) (la : fl a ≤ 256) (h1 : -9223372036854775808 ≤ n) (h2 : n ≤ 9223372036854775807) (h3 : -9223372036854775808 ≤ d) (h4 : d ≤ 9223372036854775807) (hd : d ≠ 0) (h : a = Rat.divInt n d) :
    Calls Tryz.prog 35 #[.agg #[.bool sa, .slice Aa na ca, .bool ta, .slice Ba ma da], .int .i64 0, .int .i64 n, .int .i64 d] w (fun e w' => e = .returned (.bool true) ∧ Below w.heap.size w w') := by
  have hE := ((Env.start w).fv ha).blk 29 #[.bool sa, .slice Aa na ca, .bool ta, .slice Ba ma da] (g := w.heap.size) rfl
  obtain ⟨W0, hW0⟩ : ∃ W0, W0 = (w.alloc (.cells #[.bool sa, .slice Aa na ca, .bool ta, .slice Ba ma da] 29)) := ⟨_, rfl⟩
  rw [← hW0] at hE
  have HW0 := Lib.hid hW0
  clear hW0
  go_enter Tryz.func35, Tryz.ntmps35
  go_upto_region 1 with (fail)
  rw [← HW0.out]
  have l1 := (hE.here.1.2).ln la
  replace hE := hE.drew
  refine wp_region_held_drew (S := fun w' => w'.cell? ⟨w.heap.size, 0, none⟩ = some (.bool sa) ∧ w'.cell? ⟨w.heap.size, 1, none⟩ = some (.slice Aa na ca) ∧ w'.cell? ⟨w.heap.size, 2, none⟩ = some (.bool ta) ∧ w'.cell? ⟨w.heap.size, 3, none⟩ = some (.slice Ba ma da)) (by kernel_rfl) (hE.here.2.c4) (fun hHeld => ?_)
  refine tk 0 ?_
  try simp only [PL]
  refine tk 1 ?_
  try simp only [PL]
  refine tk 2 ?_
  try simp only [PL]
  refine tk 3 ?_
  try simp only [PL]
  refine tk 4 ?_
  try simp only [PL]
  refine tk 5 ?_
  try simp only [PL]
  refine r1 6 (fun K hK => ?_)
  go_simp
  have hc := c_quick n d W0.drew h1 h2 h3 h4 hd
  refine hc.mono ?_
  clear hc
  rintro e w1 ⟨sf, Af, nf, cf, tf, Bf, mf, df, rfl, hf, hb⟩
  replace hE := hE.step hb
  clear hb
  replace hE := hE.fv hf
  clear hf
  go_wp2_with fail
  refine hK.out _ _ (hE.here.1.2.c4) (fun hHeld => ?_)
  clear hK K
  try simp only [PL]
  refine r1 7 (fun K hK => ?_)
  go_simp
  have l2 := (hE.here.2).ln (by rw [← h]; exact la)
  have hc := frsame_v (ca := ca) (da := da) (cb := cf) (db := df) hE.here.1.1.2 hE.here.2 (by omega) (by omega) (by omega) (by omega)
  rw [decide_eq_true h] at hc
  refine hc.mono ?_
  clear hc
  rintro e w9 ⟨rfl, hb⟩
  replace hE := hE.step hb
  clear hb
  go_wp2_with fail
  refine hK.out _ _ (hE.here.1.2.c4) (fun hHeld => ?_)
  clear hK K
  try simp only [PL]
  refine tk 8 ?_
  try simp only [PL]
  refine tk 9 ?_
  try simp only [PL]
  refine wpAnyH_done (by kernel_rfl) ?_ _
  go_wp2_with fail
  go_ret
  exact ⟨rfl, hE.bel⟩
end Go.Proofs.YtmjlankpihnicaaGreat
