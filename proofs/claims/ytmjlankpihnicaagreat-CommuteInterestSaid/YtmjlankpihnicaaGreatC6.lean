/-
  The closures of present: what is summed of a column.
-/
import Derived.Test.YtmjlankpihnicaaGreatK1
import Derived.Test.YtmjlankpihnicaaGreatC4
import Derived.Test.YtmjlankpihnicaaGreatC5
namespace Go.Proofs.YtmjlankpihnicaaGreat
open Go.RowKit

theorem Blk.col {g o j i : Nat} {x : Nat → Q8} {W : World} {v : Value} (hB : Blk 53 g (cols1 x).toArray W) (hj : j < 6) (hi : i < 4) (ho : o = j * 4 + i) (hv : (x j).cell i = v) : W.cell? ⟨g, o, none⟩ = some v := by
  subst ho hv
  rw [hB.cell, List.getElem?_toArray, cols1_at x (by omega)]
  rw [show (j * 4 + i) / 4 = j by omega, show (j * 4 + i) % 4 = i by omega]
set_option linter.unusedSimpArgs false in
set_option maxRecDepth 100000 in
set_option maxHeartbeats 2000000 in
theorem cofA_v {q : Rat} {x : Nat → Q8} {w : World} (z : Int) (hx : (x 0).fv w q) :
    Calls Tryz.prog 61 #[.int .i64 z, .agg (cols1 x).toArray] w (FR q w) := by
  have hE := (((Env.start w).fv hx).blk 53 (cols1 x).toArray (g := w.heap.size) rfl).blk 29 #[.bool false, .slice none 0 0, .bool false, .slice none 0 0] (g := w.heap.size + 1) (by simp)
  obtain ⟨W0, hW0⟩ : ∃ W0, W0 = (w.alloc (.cells (cols1 x).toArray 53)).alloc (.cells #[.bool false, .slice none 0 0, .bool false, .slice none 0 0] 29) := ⟨_, rfl⟩
  rw [← hW0] at hE
  have HW0 := Lib.hid hW0
  clear hW0
  go_enter Tryz.func61, Tryz.ntmps61
  go_upto_region 1 with (fail)
  rw [← HW0.out]
  have k0 : W0.cell? ⟨w.heap.size, 0, none⟩ = some (.bool (x 0).s) := (hE.here.1.2).col (j := 0) (i := 0) (by decide) (by decide) rfl rfl
  have k1 : W0.cell? ⟨w.heap.size, 1, none⟩ = some (.slice (x 0).A (x 0).n (x 0).c) := (hE.here.1.2).col (j := 0) (i := 1) (by decide) (by decide) rfl rfl
  have k2 : W0.cell? ⟨w.heap.size, 2, none⟩ = some (.bool (x 0).t) := (hE.here.1.2).col (j := 0) (i := 2) (by decide) (by decide) rfl rfl
  have k3 : W0.cell? ⟨w.heap.size, 3, none⟩ = some (.slice (x 0).B (x 0).m (x 0).d) := (hE.here.1.2).col (j := 0) (i := 3) (by decide) (by decide) rfl rfl
  have hRl : w.heap.size ≤ w.heap.size + 1 := by omega
  obtain ⟨WW, hWW, hB, hV, hBel⟩ := ret_frac hE hE.here.2 hRl hE.here.1.1.2 (x 0).c (x 0).d
  obtain ⟨x0, x1, x2, x3⟩ := (hE.here.2).c4
  obtain ⟨fz0, fz1, fz2, fz3⟩ := hE.here.2.f4
  have HWW := Lib.hid hWW
  clear hWW
  go_wp2_with fail
  clear k0 k1 k2 k3
  rw [← HWW.out]
  obtain ⟨y0, y1, y2, y3⟩ := hB.c4
  refine bodyPost_ret (v := .agg #[.bool (x 0).s, .slice (x 0).A (x 0).n (x 0).c, .bool (x 0).t, .slice (x 0).B (x 0).m (x 0).d]) (by simp [results, Tryz.results61, go_sem, y0, y1, y2, y3]) rfl ?_
  exact ⟨(x 0).s, (x 0).A, (x 0).n, (x 0).c, (x 0).t, (x 0).B, (x 0).m, (x 0).d, rfl, hV, hBel⟩
set_option linter.unusedSimpArgs false in
set_option maxRecDepth 100000 in
set_option maxHeartbeats 2000000 in
theorem cofC_v {q : Rat} {x : Nat → Q8} {w : World} (z : Int) (hx : (x 3).fv w q) :
    Calls Tryz.prog 62 #[.int .i64 z, .agg (cols1 x).toArray] w (FR q w) := by
  have hE := (((Env.start w).fv hx).blk 53 (cols1 x).toArray (g := w.heap.size) rfl).blk 29 #[.bool false, .slice none 0 0, .bool false, .slice none 0 0] (g := w.heap.size + 1) (by simp)
  obtain ⟨W0, hW0⟩ : ∃ W0, W0 = (w.alloc (.cells (cols1 x).toArray 53)).alloc (.cells #[.bool false, .slice none 0 0, .bool false, .slice none 0 0] 29) := ⟨_, rfl⟩
  rw [← hW0] at hE
  have HW0 := Lib.hid hW0
  clear hW0
  go_enter Tryz.func62, Tryz.ntmps62
  go_upto_region 1 with (fail)
  rw [← HW0.out]
  have k0 : W0.cell? ⟨w.heap.size, 12, none⟩ = some (.bool (x 3).s) := (hE.here.1.2).col (j := 3) (i := 0) (by decide) (by decide) rfl rfl
  have k1 : W0.cell? ⟨w.heap.size, 13, none⟩ = some (.slice (x 3).A (x 3).n (x 3).c) := (hE.here.1.2).col (j := 3) (i := 1) (by decide) (by decide) rfl rfl
  have k2 : W0.cell? ⟨w.heap.size, 14, none⟩ = some (.bool (x 3).t) := (hE.here.1.2).col (j := 3) (i := 2) (by decide) (by decide) rfl rfl
  have k3 : W0.cell? ⟨w.heap.size, 15, none⟩ = some (.slice (x 3).B (x 3).m (x 3).d) := (hE.here.1.2).col (j := 3) (i := 3) (by decide) (by decide) rfl rfl
  have hRl : w.heap.size ≤ w.heap.size + 1 := by omega
  obtain ⟨WW, hWW, hB, hV, hBel⟩ := ret_frac hE hE.here.2 hRl hE.here.1.1.2 (x 3).c (x 3).d
  obtain ⟨x0, x1, x2, x3⟩ := (hE.here.2).c4
  obtain ⟨fz0, fz1, fz2, fz3⟩ := hE.here.2.f4
  have HWW := Lib.hid hWW
  clear hWW
  go_wp2_with fail
  clear k0 k1 k2 k3
  rw [← HWW.out]
  obtain ⟨y0, y1, y2, y3⟩ := hB.c4
  refine bodyPost_ret (v := .agg #[.bool (x 3).s, .slice (x 3).A (x 3).n (x 3).c, .bool (x 3).t, .slice (x 3).B (x 3).m (x 3).d]) (by simp [results, Tryz.results62, go_sem, y0, y1, y2, y3]) rfl ?_
  exact ⟨(x 3).s, (x 3).A, (x 3).n, (x 3).c, (x 3).t, (x 3).B, (x 3).m, (x 3).d, rfl, hV, hBel⟩
set_option linter.unusedSimpArgs false in
set_option maxRecDepth 100000 in
set_option maxHeartbeats 4000000 in
theorem cofR_v {q : Rat} {x : Nat → Q8} {w : World} (z a : Int) (ga : Nat) (hx : (x 0).fv w q) (hga : ga < w.heap.size) (hca : w.cell? ⟨ga, 0, none⟩ = some (.int .i64 a)) (h0 : 0 ≤ a) (h1 : a ≤ z) (h2 : z ≤ 1000) (lz : fl ((z - a + 1 : Int) : Rat) ≤ 256) (lq : fl q ≤ 256) (lr : fl (((z - a + 1 : Int) : Rat) * q) ≤ 256) :
    Calls Tryz.prog 63 #[.int .i64 z, .agg (cols1 x).toArray, .pointer (some ⟨ga, 0, none⟩)] w (FR (((z - a + 1 : Int) : Rat) * q) w) := by
  have o1 : IntKind.i64.wrap (z - a) = z - a := by rw [IntKind.wrap_i64]; omega
  have o2 : IntKind.i64.wrap (z - a + 1) = z - a + 1 := by rw [IntKind.wrap_i64]; omega
  have hE := (((Env.start w).fv hx).blk 53 (cols1 x).toArray (g := w.heap.size) rfl).blk 29 #[.bool false, .slice none 0 0, .bool false, .slice none 0 0] (g := w.heap.size + 1) (by simp)
  obtain ⟨W0, hW0⟩ : ∃ W0, W0 = (w.alloc (.cells (cols1 x).toArray 53)).alloc (.cells #[.bool false, .slice none 0 0, .bool false, .slice none 0 0] 29) := ⟨_, rfl⟩
  rw [← hW0] at hE
  have HW0 := Lib.hid hW0
  clear hW0
  go_enter Tryz.func63, Tryz.ntmps63
  go_upto_region 1 with (fail)
  rw [← HW0.out]
  replace hE := hE.atI (b := ga) (o := 0) (v := .int .i64 a) ⟨Nat.lt_of_lt_of_le hga hE.bel.size, (hE.bel.cell (p := ⟨ga, 0, none⟩) hga).trans hca⟩
  replace hE := hE.atI (b := w.heap.size) (o := 0) (v := .bool (x 0).s) ⟨(hE.here.1.1.2).lt, (hE.here.1.1.2).col (j := 0) (i := 0) (by decide) (by decide) rfl rfl⟩
  replace hE := hE.atI (b := w.heap.size) (o := 1) (v := .slice (x 0).A (x 0).n (x 0).c) ⟨(hE.here.1.1.1.2).lt, (hE.here.1.1.1.2).col (j := 0) (i := 1) (by decide) (by decide) rfl rfl⟩
  replace hE := hE.atI (b := w.heap.size) (o := 2) (v := .bool (x 0).t) ⟨(hE.here.1.1.1.1.2).lt, (hE.here.1.1.1.1.2).col (j := 0) (i := 2) (by decide) (by decide) rfl rfl⟩
  replace hE := hE.atI (b := w.heap.size) (o := 3) (v := .slice (x 0).B (x 0).m (x 0).d) ⟨(hE.here.1.1.1.1.1.2).lt, (hE.here.1.1.1.1.1.2).col (j := 0) (i := 3) (by decide) (by decide) rfl rfl⟩
  replace hE := hE.drew
  refine wp_region_held_drew (S := fun w' => w'.cell? ⟨ga, 0, none⟩ = some (.int .i64 a) ∧ w'.cell? ⟨w.heap.size, 0, none⟩ = some (.bool (x 0).s) ∧ w'.cell? ⟨w.heap.size, 1, none⟩ = some (.slice (x 0).A (x 0).n (x 0).c) ∧ w'.cell? ⟨w.heap.size, 2, none⟩ = some (.bool (x 0).t) ∧ w'.cell? ⟨w.heap.size, 3, none⟩ = some (.slice (x 0).B (x 0).m (x 0).d)) (by kernel_rfl) (⟨(hE.here.1.1.1.1.2).2, (hE.here.1.1.1.2).2, (hE.here.1.1.2).2, (hE.here.1.2).2, (hE.here.2).2⟩) (fun hHeld => ?_)
  refine tk 0 ?_
  try simp only [PL]
  refine tk 1 ?_
  try simp only [PL]
  refine tk 2 ?_
  try simp only [PL]
  refine tk 3 ?_
  try simp only [PL]
  refine tk 5 ?_
  try simp only [PL]
  refine tk 6 ?_
  try simp only [PL]
  refine r1 4 (fun K hK => ?_)
  go_simp
  refine (ffromInt_v (z - a + 1) _ (by omega) (by omega)).mono ?_
  rintro e w1 ⟨sp, Ap, np, cp, tp, Bp, mp, dp, rfl, hp, hb⟩
  replace hE := hE.step hb
  clear hb
  replace hE := hE.fv hp
  clear hp
  go_wp2_with fail
  refine hK.out _ _ (⟨(hE.here.1.1.1.1.1.2).2, (hE.here.1.1.1.1.2).2, (hE.here.1.1.1.2).2, (hE.here.1.1.2).2, (hE.here.1.2).2⟩) (fun hHeld => ?_)
  clear hK K
  try simp only [PL]
  refine r1 7 (fun K hK => ?_)
  go_simp
  refine (ctimes_v (ca := cp) (da := dp) (cb := (x 0).c) (db := (x 0).d) hE.here.2 hE.here.1.1.1.1.1.1.1.1.2 lz lq lr).mono ?_
  rintro e w2 ⟨sr, Ar, nr, cr, tr, Br, mr, dr, rfl, hr, hb⟩
  replace hE := hE.step hb
  clear hb
  replace hE := hE.fv hr
  clear hr
  go_wp2_with fail
  refine hK.out _ _ (⟨(hE.here.1.1.1.1.1.1.2).2, (hE.here.1.1.1.1.1.2).2, (hE.here.1.1.1.1.2).2, (hE.here.1.1.1.2).2, (hE.here.1.1.2).2⟩) (fun hHeld => ?_)
  clear hK K
  try simp only [PL]
  refine r1 8 (fun K hK => ?_)
  have hRl : w.heap.size ≤ w.heap.size + 1 := by omega
  obtain ⟨WW, hWW, hB, hV, hBel⟩ := ret_frac hE hE.here.1.1.1.1.1.1.1.2 hRl hE.here.2 cr dr
  obtain ⟨x0, x1, x2, x3⟩ := (hE.here.1.1.1.1.1.1.1.2).c4
  obtain ⟨fz0, fz1, fz2, fz3⟩ := hE.here.1.1.1.1.1.1.1.2.f4
  have HWW := Lib.hid hWW
  clear hWW
  have q3 := (hE.here.1.1.1.1.1.1.2).far4 (R := w.heap.size + 1) (by omega) (.bool sr) (.slice Ar nr cr) (.bool tr) (.slice Br mr dr)
  rw [← HWW.out] at q3
  have q4 := (hE.here.1.1.1.1.1.2).far4 (R := w.heap.size + 1) (by omega) (.bool sr) (.slice Ar nr cr) (.bool tr) (.slice Br mr dr)
  rw [← HWW.out] at q4
  have q5 := (hE.here.1.1.1.1.2).far4 (R := w.heap.size + 1) (by omega) (.bool sr) (.slice Ar nr cr) (.bool tr) (.slice Br mr dr)
  rw [← HWW.out] at q5
  have q6 := (hE.here.1.1.1.2).far4 (R := w.heap.size + 1) (by omega) (.bool sr) (.slice Ar nr cr) (.bool tr) (.slice Br mr dr)
  rw [← HWW.out] at q6
  have q7 := (hE.here.1.1.2).far4 (R := w.heap.size + 1) (by omega) (.bool sr) (.slice Ar nr cr) (.bool tr) (.slice Br mr dr)
  rw [← HWW.out] at q7
  go_simp
  rw [← HWW.out]
  refine hK.out _ _ (⟨(q3).2, (q4).2, (q5).2, (q6).2, (q7).2⟩) (fun hHeld => ?_)
  clear hK K
  try simp only [PL]
  refine wpAnyH_done (by kernel_rfl) ?_ _
  go_wp2_with fail
  obtain ⟨y0, y1, y2, y3⟩ := hB.c4
  refine bodyPost_ret (v := .agg #[.bool sr, .slice Ar nr cr, .bool tr, .slice Br mr dr]) (by simp [results, Tryz.results63, go_sem, y0, y1, y2, y3]) rfl ?_
  exact ⟨sr, Ar, nr, cr, tr, Br, mr, dr, rfl, hV, hBel⟩
end Go.Proofs.YtmjlankpihnicaaGreat
