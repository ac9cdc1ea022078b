/-
  Several texts in one: The walks of frac.Make, Div, Neg, Floor and Ceil. The walks of the functions that frac.upwards returns: whether rounding goes up. The walks of frac.power and Pow. The walks of frac.Pow.
-/
import Derived.Test.YtifikcemcflgjaaGreatK1
import Derived.Test.YtifikcemcflgjaaGreatK7
import Derived.Lib.Zigzag
namespace Go.Proofs.YtifikcemcflgjaaGreat
open Go.RowKit

/-- The call returned the whole number z and no error. -/
def WOK (z : Int) (w : World) (e : Ending) (w' : World) : Prop := ∃ s A n c, e = .returned (.tuple #[.agg #[.bool s, .slice A n c], .int .i64 0]) ∧ WV w' z s A n ∧ Below w.heap.size w w'
theorem whole_valid_v {z : Int} {s : Bool} {A : Option Addr} {n c : Nat} {w : World} (h : WV w z s A n) (hn : n ≤ 1024) :
    Calls Tryz.prog 40 #[.agg #[.bool s, .slice A n c]] w fun e w' => e = .returned (.bool true) ∧ Below w.heap.size w w' := by
  have hr : Rd w.heap.size .u16 w A n (dgt b16 z.natAbs) := by have := h.2.2; unfold Num16 at this; rwa [← h.len] at this
  have hk := okW_num (z := z) (by rw [← h.len]; exact hn)
  rw [← h.sgn, ← h.len] at hk
  exact whole_valid_any s A n c _ w hr (fun i _ => dgt16_lt _ i) (by omega) true hk
/-- Rounding up. -/
def ceilQ (a : Rat) : Int := if a.num.fmod (a.den : Int) = 0 then a.num.fdiv (a.den : Int) else a.num.fdiv (a.den : Int) + 1
theorem den_nz (a : Rat) : ((a.den : Nat) : Int) ≠ 0 := by have := a.den_pos; omega
set_option linter.unusedSimpArgs false in
set_option maxRecDepth 100000 in
theorem ftzero_v {q : Rat} {s t : Bool} {A B : Option Addr} {n m c d : Nat} {w : World} (ha : FV w q s A n t B m) (r : Bool) (hr : decide (q.num = 0) = r) :
    Calls Tryz.prog 55 #[.agg #[.bool s, .slice A n c, .bool t, .slice B m d]] w fun e w' => e = .returned (.bool r) ∧ Below w.heap.size w w' := by
  by_cases h0 : q.num = 0
  · rw [decide_eq_true h0] at hr
    subst hr
    have hE := ((Env.start w).fv ha).blk 65 #[.bool s, .slice A n c, .bool t, .slice B m d] (g := w.heap.size) rfl
    obtain ⟨W0, hW0⟩ : ∃ W0, W0 = (w.alloc (.cells #[.bool s, .slice A n c, .bool t, .slice B m d] 65)) := ⟨_, rfl⟩
    rw [← hW0] at hE
    have HW0 := Lib.hid hW0
    clear hW0
    go_enter Tryz.func55, Tryz.ntmps55
    go_upto_region 1 with (fail)
    rw [← HW0.out]
    obtain rfl : n = 0 := by rw [ha.1.len, h0]; exact ln_zero
    obtain ⟨k1, k2, k3, k4⟩ := (hE.here.2).c4
    go_wp2_with fail
    go_ret
    exact ⟨rfl, hE.bel⟩
  · rw [decide_eq_false h0] at hr
    subst hr
    have hE := ((Env.start w).fv ha).blk 65 #[.bool s, .slice A n c, .bool t, .slice B m d] (g := w.heap.size) rfl
    obtain ⟨W0, hW0⟩ : ∃ W0, W0 = (w.alloc (.cells #[.bool s, .slice A n c, .bool t, .slice B m d] 65)) := ⟨_, rfl⟩
    rw [← hW0] at hE
    have HW0 := Lib.hid hW0
    clear hW0
    go_enter Tryz.func55, Tryz.ntmps55
    go_upto_region 1 with (fail)
    rw [← HW0.out]
    have hz : 0 < n := by rw [ha.1.len]; exact (ln_pos b16_two).2 (by have : q.num ≠ 0 := h0; omega)
    have t1 : ((n : Int) == 0) = false := beq_eq_false_iff_ne.2 (by omega)
    have t2 : (n == 0) = false := beq_eq_false_iff_ne.2 (by omega)
    obtain ⟨k1, k2, k3, k4⟩ := (hE.here.2).c4
    go_wp2_with fail
    go_ret
    exact ⟨rfl, hE.bel⟩
set_option linter.unusedSimpArgs false in
set_option maxRecDepth 100000 in
set_option maxHeartbeats 2000000 in
theorem fmake_v {x y : Int} {sx sy : Bool} {Ax Ay : Option Addr} {nx cx ny cy : Nat} {w : World} (hx : WV w x sx Ax nx) (hy : WV w y sy Ay ny) (la : nx ≤ 1024) (lb : ny ≤ 1024) (hb0 : y ≠ 0) (lr : fl (Rat.divInt x y) ≤ 256) :
    Calls Tryz.prog 43 #[.agg #[.bool sx, .slice Ax nx cx], .agg #[.bool sy, .slice Ay ny cy]] w (FOK (Rat.divInt x y) w) := by
  have hE := ((((Env.start w).wv hx).wv hy).blk 24 #[.bool sx, .slice Ax nx cx] (g := w.heap.size) rfl).blk 24 #[.bool sy, .slice Ay ny cy] (g := w.heap.size + 1) (by simp)
  have hE := hE.blk 26 #[.bool false, .slice none 0 0, .bool false, .slice none 0 0] (g := w.heap.size + 1 + 1) (by simp)
  obtain ⟨W0, hW0⟩ : ∃ W0, W0 = (((w.alloc (.cells #[.bool sx, .slice Ax nx cx] 24)).alloc (.cells #[.bool sy, .slice Ay ny cy] 24)).alloc (.cells #[.bool false, .slice none 0 0, .bool false, .slice none 0 0] 26)) := ⟨_, rfl⟩
  rw [← hW0] at hE
  have HW0 := Lib.hid hW0
  clear hW0
  go_enter Tryz.func43, Tryz.ntmps43
  go_upto_region 1 with (fail)
  rw [← HW0.out]
  have hz : 0 < ny := by rw [hy.len]; exact (ln_pos b16_two).2 (by omega)
  have t1 : ((ny : Int) == 0) = false := beq_eq_false_iff_ne.2 (by omega)
  have t2 : (ny == 0) = false := beq_eq_false_iff_ne.2 (by omega)
  obtain ⟨k1, k2⟩ := (hE.here.1.1.2).c2
  obtain ⟨k3, k4⟩ := (hE.here.1.2).c2
  go_wp2_with fail
  have hc := whole_valid_v (c := cx) hE.here.1.1.1.1.2 la
  refine hc.mono ?_
  clear hc
  clear k1 k2 k3 k4
  rintro e w5 ⟨rfl, hb⟩
  replace hE := hE.step hb
  clear hb
  obtain ⟨k6, k7⟩ := (hE.here.1.1.2).c2
  obtain ⟨k8, k9⟩ := (hE.here.1.2).c2
  go_wp2_with fail
  have hc := whole_valid_v (c := cy) hE.here.1.1.1.2 lb
  refine hc.mono ?_
  clear hc
  clear k6 k7 k8 k9
  rintro e w10 ⟨rfl, hb⟩
  replace hE := hE.step hb
  clear hb
  obtain ⟨k11, k12⟩ := (hE.here.1.1.2).c2
  obtain ⟨k13, k14⟩ := (hE.here.1.2).c2
  go_wp2_with fail
  have hc := flowest_v (ca := cx) (cb := cy) hE.here.1.1.1.1.2 hE.here.1.1.1.2 la lb hb0
  refine hc.mono ?_
  clear hc
  clear k11 k12 k13 k14
  rintro e w15 ⟨sf, Af, nf, cf, tf, Bf, mf, df, rfl, hf, hb⟩
  replace hE := hE.step hb
  clear hb
  replace hE := hE.fv hf
  clear hf
  go_wp2_with fail
  have hc := fresult_ok (c := cf) (d := df) hE.here.2 lr
  refine hc.mono ?_
  clear hc
  rintro e w16 ⟨sr, Ar, nr, cr, tr, Br, mr, dr, rfl, hr, hb⟩
  replace hE := hE.step hb
  clear hb
  replace hE := hE.fv hr
  clear hr
  have hRl : w.heap.size ≤ w.heap.size + 1 + 1 := by omega
  obtain ⟨WW, hWW, hB, hV, hBel⟩ := ret_frac hE hE.here.1.1.2 hRl hE.here.2 cr dr
  obtain ⟨x0, x1, x2, x3⟩ := (hE.here.1.1.2).c4
  obtain ⟨fz0, fz1, fz2, fz3⟩ := hE.here.1.1.2.f4
  have HWW := Lib.hid hWW
  clear hWW
  go_wp2_with fail
  clear x0 x1 x2 x3
  rw [← HWW.out]
  obtain ⟨y0, y1, y2, y3⟩ := hB.c4
  refine bodyPost_ret (v := .tuple #[.agg #[.bool sr, .slice Ar nr cr, .bool tr, .slice Br mr dr], .int .i64 0]) (by simp [results, Tryz.results43, go_sem, y0, y1, y2, y3]) rfl ?_
  exact ⟨sr, Ar, nr, cr, tr, Br, mr, dr, rfl, hV, hBel⟩
set_option linter.unusedSimpArgs false in
set_option maxRecDepth 100000 in
set_option maxHeartbeats 4000000 in
theorem fdiv_v {a b : Rat} {sa ta sb tb : Bool} {Aa Ba Ab Bb : Option Addr} {na ca ma da nb cb mb db : Nat} {w : World} (ha : FV w a sa Aa na ta Ba ma) (hb : FV w b sb Ab nb tb Bb mb) (la : fl a ≤ 256) (lb : fl b ≤ 256) (hb0 : b.num ≠ 0) (lr : fl (a / b) ≤ 256) :
    Calls Tryz.prog 37 #[.agg #[.bool sa, .slice Aa na ca, .bool ta, .slice Ba ma da], .agg #[.bool sb, .slice Ab nb cb, .bool tb, .slice Bb mb db]] w (FOK (a / b) w) := by
  have hE := ((((Env.start w).fv ha).fv hb).blk 26 #[.bool sa, .slice Aa na ca, .bool ta, .slice Ba ma da] (g := w.heap.size) rfl).blk 26 #[.bool sb, .slice Ab nb cb, .bool tb, .slice Bb mb db] (g := w.heap.size + 1) (by simp)
  have hE := hE.blk 26 #[.bool false, .slice none 0 0, .bool false, .slice none 0 0] (g := w.heap.size + 1 + 1) (by simp)
  obtain ⟨W0, hW0⟩ : ∃ W0, W0 = (((w.alloc (.cells #[.bool sa, .slice Aa na ca, .bool ta, .slice Ba ma da] 26)).alloc (.cells #[.bool sb, .slice Ab nb cb, .bool tb, .slice Bb mb db] 26)).alloc (.cells #[.bool false, .slice none 0 0, .bool false, .slice none 0 0] 26)) := ⟨_, rfl⟩
  rw [← hW0] at hE
  have HW0 := Lib.hid hW0
  clear hW0
  go_enter Tryz.func37, Tryz.ntmps37
  go_upto_region 1 with (fail)
  rw [← HW0.out]
  obtain ⟨k1, k2, k3, k4⟩ := (hE.here.1.1.2).c4
  obtain ⟨k5, k6, k7, k8⟩ := (hE.here.1.2).c4
  go_wp2_with fail
  have hc := fallValid_v (c := ca) (d := da) (c2 := cb) (d2 := db) hE.here.1.1.1.1.2 hE.here.1.1.1.2 la lb
  refine hc.mono ?_
  clear hc
  clear k1 k2 k3 k4 k5 k6 k7 k8
  rintro e w9 ⟨rfl, hb⟩
  replace hE := hE.step hb
  clear hb
  obtain ⟨k10, k11, k12, k13⟩ := (hE.here.1.2).c4
  go_wp2_with fail
  have hc := ftzero_v (c := cb) (d := db) hE.here.1.1.1.2 false (decide_eq_false hb0)
  refine hc.mono ?_
  clear hc
  clear k10 k11 k12 k13
  rintro e w14 ⟨rfl, hb⟩
  replace hE := hE.step hb
  clear hb
  go_upto_region 5 with (fail)
  obtain ⟨qa1, qa2⟩ := fv_lens (hE.here.1.1.1.1.2) la
  obtain ⟨qb1, qb2⟩ := fv_lens (hE.here.1.1.1.2) lb
  obtain ⟨ha1, ha2⟩ := (hE.here.1.1.1.1.2).ln la
  obtain ⟨hb1, hb2⟩ := (hE.here.1.1.1.2).ln lb
  replace hE := hE.drew
  refine wp_region_held_drew (S := fun w' => w'.cell? ⟨w.heap.size, 0, none⟩ = some (.bool sa) ∧ w'.cell? ⟨w.heap.size, 1, none⟩ = some (.slice Aa na ca) ∧ w'.cell? ⟨w.heap.size, 2, none⟩ = some (.bool ta) ∧ w'.cell? ⟨w.heap.size, 3, none⟩ = some (.slice Ba ma da) ∧ w'.cell? ⟨w.heap.size + 1, 0, none⟩ = some (.bool sb) ∧ w'.cell? ⟨w.heap.size + 1, 1, none⟩ = some (.slice Ab nb cb) ∧ w'.cell? ⟨w.heap.size + 1, 2, none⟩ = some (.bool tb) ∧ w'.cell? ⟨w.heap.size + 1, 3, none⟩ = some (.slice Bb mb db)) (by kernel_rfl) (hE.here.1.1.2.j4 hE.here.1.2.c4) (fun hHeld => ?_)
  refine tk 0 ?_
  try simp only [PL]
  refine tk 1 ?_
  try simp only [PL]
  refine tk 2 ?_
  try simp only [PL]
  refine tk 3 ?_
  try simp only [PL]
  refine tk 5 ?_
  try simp only [PL]
  refine tk 6 ?_
  try simp only [PL]
  refine tk 7 ?_
  try simp only [PL]
  refine tk 8 ?_
  try simp only [PL]
  refine r1 4 (fun K hK => ?_)
  go_simp
  have hc := ftimes_v (ca := ca) (cb := db) (hE.here.1.1.1.1.2).1 (hE.here.1.1.1.2).2 (Nat.le_trans ha1 (by decide)) (Nat.le_trans hb2 (by decide)) (Nat.le_trans (ln_mulZ (m := 256) (n := 256) qa1 qb2) (by decide))
  refine hc.mono ?_
  clear hc
  rintro e w15 ⟨su, Au, nu, cu, rfl, hu, hb⟩
  replace hE := hE.step hb
  clear hb
  replace hE := hE.wv hu
  clear hu
  have lu : nu ≤ 512 := by rw [(hE.here.2).len]; exact (ln_mulZ (m := 256) (n := 256) qa1 qb2)
  go_wp2_with fail
  refine hK.out _ _ (hE.here.1.1.1.2.j4 hE.here.1.1.2.c4) (fun hHeld => ?_)
  clear hK K
  try simp only [PL]
  refine r1 9 (fun K hK => ?_)
  go_simp
  have hc := ftimes_v (ca := da) (cb := cb) (hE.here.1.1.1.1.1.2).2 (hE.here.1.1.1.1.2).1 (Nat.le_trans ha2 (by decide)) (Nat.le_trans hb1 (by decide)) (Nat.le_trans (ln_mulZ (m := 256) (n := 256) qa2 qb1) (by decide))
  refine hc.mono ?_
  clear hc
  rintro e w16 ⟨sv, Av, nv, cv, rfl, hv, hb⟩
  replace hE := hE.step hb
  clear hb
  replace hE := hE.wv hv
  clear hv
  have lv : nv ≤ 512 := by rw [(hE.here.2).len]; exact (ln_mulZ (m := 256) (n := 256) qa2 qb1)
  go_wp2_with fail
  refine hK.out _ _ (hE.here.1.1.1.1.2.j4 hE.here.1.1.1.2.c4) (fun hHeld => ?_)
  clear hK K
  try simp only [PL]
  refine r1 10 (fun K hK => ?_)
  go_simp
  have hc := flowest_v (ca := cu) (cb := cv) hE.here.1.2 hE.here.2 (Nat.le_trans lu (by decide)) (Nat.le_trans lv (by decide)) (Int.mul_ne_zero (den_nz a) hb0)
  rw [div_low a b] at hc
  refine hc.mono ?_
  clear hc
  rintro e w17 ⟨sf, Af, nf, cf, tf, Bf, mf, df, rfl, hf, hb⟩
  replace hE := hE.step hb
  clear hb
  replace hE := hE.fv hf
  clear hf
  go_wp2_with fail
  refine hK.out _ _ (hE.here.1.1.1.1.1.2.j4 hE.here.1.1.1.1.2.c4) (fun hHeld => ?_)
  clear hK K
  try simp only [PL]
  refine r1 11 (fun K hK => ?_)
  go_simp
  have hc := fresult_ok (c := cf) (d := df) hE.here.2 lr
  refine hc.mono ?_
  clear hc
  rintro e w18 ⟨sr, Ar, nr, cr, tr, Br, mr, dr, rfl, hr, hb⟩
  replace hE := hE.step hb
  clear hb
  replace hE := hE.fv hr
  clear hr
  go_wp2_with fail
  refine hK.out _ _ (hE.here.1.1.1.1.1.1.2.j4 hE.here.1.1.1.1.1.2.c4) (fun hHeld => ?_)
  clear hK K
  try simp only [PL]
  refine tk 12 ?_
  try simp only [PL]
  refine tk 13 ?_
  try simp only [PL]
  refine r1 14 (fun K hK => ?_)
  have hRl : w.heap.size ≤ w.heap.size + 1 + 1 := by omega
  obtain ⟨WW, hWW, hB, hV, hBel⟩ := ret_frac hE hE.here.1.1.1.1.2 hRl hE.here.2 cr dr
  obtain ⟨x0, x1, x2, x3⟩ := (hE.here.1.1.1.1.2).c4
  obtain ⟨fz0, fz1, fz2, fz3⟩ := hE.here.1.1.1.1.2.f4
  have HWW := Lib.hid hWW
  clear hWW
  have q19 := (hE.here.1.1.1.1.1.1.2).far4 (R := w.heap.size + 1 + 1) (by omega) (.bool sr) (.slice Ar nr cr) (.bool tr) (.slice Br mr dr)
  rw [← HWW.out] at q19
  have q20 := (hE.here.1.1.1.1.1.2).far4 (R := w.heap.size + 1 + 1) (by omega) (.bool sr) (.slice Ar nr cr) (.bool tr) (.slice Br mr dr)
  rw [← HWW.out] at q20
  go_simp
  rw [← HWW.out]
  refine hK.out _ _ (q19.j4 q20.c4) (fun hHeld => ?_)
  clear hK K
  try simp only [PL]
  refine tk 15 ?_
  try simp only [PL]
  refine wpAnyH_done (by kernel_rfl) ?_ _
  go_wp2_with fail
  obtain ⟨y0, y1, y2, y3⟩ := hB.c4
  refine bodyPost_ret (v := .tuple #[.agg #[.bool sr, .slice Ar nr cr, .bool tr, .slice Br mr dr], .int .i64 0]) (by simp [results, Tryz.results37, go_sem, y0, y1, y2, y3]) rfl ?_
  exact ⟨sr, Ar, nr, cr, tr, Br, mr, dr, rfl, hV, hBel⟩
theorem fvalid_v0 {q : Rat} {s t : Bool} {A B : Option Addr} {n m c d : Nat} {w : World} (h : FV w q s A n t B m) (l : fl q ≤ 256) :
    Calls Tryz.prog 41 #[.agg #[.bool s, .slice A n c, .bool t, .slice B m d]] w fun e w' => e = .returned (.bool true) ∧ Below w.heap.size w w' := by
  obtain ⟨h1, h2⟩ := h.ln l
  exact fvalid_r s t A B n m c d _ _ w h.rd (by omega) (by omega) true (okF_of h l)
set_option linter.unusedSimpArgs false in
set_option maxRecDepth 100000 in
set_option maxHeartbeats 2000000 in
theorem fneg_v {a : Rat} {sa ta : Bool} {Aa Ba : Option Addr} {na ca ma da : Nat} {w : World} (ha : FV w a sa Aa na ta Ba ma) (la : fl a ≤ 256) :
    Calls Tryz.prog 36 #[.agg #[.bool sa, .slice Aa na ca, .bool ta, .slice Ba ma da]] w (FOK (-a) w) := by
  have hE := ((Env.start w).fv ha).blk 26 #[.bool sa, .slice Aa na ca, .bool ta, .slice Ba ma da] (g := w.heap.size) rfl
  have hE := hE.blk 26 #[.bool false, .slice none 0 0, .bool false, .slice none 0 0] (g := w.heap.size + 1) (by simp)
  obtain ⟨W0, hW0⟩ : ∃ W0, W0 = ((w.alloc (.cells #[.bool sa, .slice Aa na ca, .bool ta, .slice Ba ma da] 26)).alloc (.cells #[.bool false, .slice none 0 0, .bool false, .slice none 0 0] 26)) := ⟨_, rfl⟩
  rw [← hW0] at hE
  have HW0 := Lib.hid hW0
  clear hW0
  go_enter Tryz.func36, Tryz.ntmps36
  go_upto_region 1 with (fail)
  rw [← HW0.out]
  obtain ⟨k1, k2, k3, k4⟩ := (hE.here.1.2).c4
  go_wp2_with fail
  have hc := fvalid_v0 (c := ca) (d := da) hE.here.1.1.2 la
  refine hc.mono ?_
  clear hc
  clear k1 k2 k3 k4
  rintro e w5 ⟨rfl, hb⟩
  replace hE := hE.step hb
  clear hb
  go_upto_region 3 with (fail)
  obtain ⟨ha1, ha2⟩ := (hE.here.1.1.2).ln la
  obtain ⟨qa1, qa2⟩ := fv_lens (hE.here.1.1.2) la
  replace hE := hE.drew
  refine wp_region_held_drew (S := fun w' => w'.cell? ⟨w.heap.size, 0, none⟩ = some (.bool sa) ∧ w'.cell? ⟨w.heap.size, 1, none⟩ = some (.slice Aa na ca) ∧ w'.cell? ⟨w.heap.size, 2, none⟩ = some (.bool ta) ∧ w'.cell? ⟨w.heap.size, 3, none⟩ = some (.slice Ba ma da)) (by kernel_rfl) (hE.here.1.2.c4) (fun hHeld => ?_)
  refine tk 0 ?_
  try simp only [PL]
  refine tk 1 ?_
  try simp only [PL]
  refine tk 3 ?_
  try simp only [PL]
  refine tk 4 ?_
  try simp only [PL]
  refine r1 2 (fun K hK => ?_)
  go_simp
  have hc := fopposite_v (c := ca) (hE.here.1.1.2).1 (Nat.le_trans ha1 (by decide))
  refine hc.mono ?_
  clear hc
  rintro e w6 ⟨sn, An, nn, cn, rfl, hn, hb⟩
  replace hE := hE.step hb
  clear hb
  replace hE := hE.wv hn
  clear hn
  have ln : nn ≤ 256 := by rw [(hE.here.2).len]; first | (rw [Int.natAbs_neg]; first | exact qa1 | exact qa2) | (rw [Int.neg_neg]; exact qa2)
  go_wp2_with fail
  refine hK.out _ _ (hE.here.1.1.2.c4) (fun hHeld => ?_)
  clear hK K
  try simp only [PL]
  refine r1 5 (fun K hK => ?_)
  go_simp
  have hc := fopposite_v (c := da) (hE.here.1.1.1.2).2 (Nat.le_trans ha2 (by decide))
  refine hc.mono ?_
  clear hc
  rintro e w7 ⟨se, Ae, ne, ce, rfl, he1, hb⟩
  replace hE := hE.step hb
  clear hb
  replace hE := hE.wv he1
  clear he1
  have le1 : ne ≤ 256 := by rw [(hE.here.2).len]; first | (rw [Int.natAbs_neg]; first | exact qa1 | exact qa2) | (rw [Int.neg_neg]; exact qa2)
  go_wp2_with fail
  refine hK.out _ _ (hE.here.1.1.1.2.c4) (fun hHeld => ?_)
  clear hK K
  try simp only [PL]
  refine r1 6 (fun K hK => ?_)
  go_simp
  have hc := fopposite_v (c := ce) (hE.here.2) (Nat.le_trans le1 (by decide))
  refine hc.mono ?_
  clear hc
  rintro e w8 ⟨sf, Af, nf, cf, rfl, hf1, hb⟩
  replace hE := hE.step hb
  clear hb
  replace hE := hE.wv hf1
  clear hf1
  have lf1 : nf ≤ 256 := by rw [(hE.here.2).len]; first | (rw [Int.natAbs_neg]; first | exact qa1 | exact qa2) | (rw [Int.neg_neg]; exact qa2)
  have hfv : FV w8 (-a) sn An nn sf Af nf := ⟨by rw [Rat.neg_num]; exact hE.here.1.1.2, by rw [Rat.neg_den]; have := hE.here.2; rwa [Int.neg_neg] at this⟩
  replace hE := hE.fv hfv
  clear hfv
  go_wp2_with fail
  refine hK.out _ _ (hE.here.1.1.1.1.1.2.c4) (fun hHeld => ?_)
  clear hK K
  try simp only [PL]
  refine tk 7 ?_
  try simp only [PL]
  refine r1 8 (fun K hK => ?_)
  have hRl : w.heap.size ≤ w.heap.size + 1 := by omega
  obtain ⟨WW, hWW, hB, hV, hBel⟩ := ret_frac hE hE.here.1.1.1.1.2 hRl hE.here.2 cn cf
  obtain ⟨x0, x1, x2, x3⟩ := (hE.here.1.1.1.1.2).c4
  obtain ⟨fz0, fz1, fz2, fz3⟩ := hE.here.1.1.1.1.2.f4
  have HWW := Lib.hid hWW
  clear hWW
  have q9 := (hE.here.1.1.1.1.1.2).far4 (R := w.heap.size + 1) (by omega) (.bool sn) (.slice An nn cn) (.bool sf) (.slice Af nf cf)
  rw [← HWW.out] at q9
  go_simp
  rw [← HWW.out]
  refine hK.out _ _ (q9.c4) (fun hHeld => ?_)
  clear hK K
  try simp only [PL]
  refine tk 9 ?_
  try simp only [PL]
  refine wpAnyH_done (by kernel_rfl) ?_ _
  go_wp2_with fail
  obtain ⟨y0, y1, y2, y3⟩ := hB.c4
  refine bodyPost_ret (v := .tuple #[.agg #[.bool sn, .slice An nn cn, .bool sf, .slice Af nf cf], .int .i64 0]) (by simp [results, Tryz.results36, go_sem, y0, y1, y2, y3]) rfl ?_
  exact ⟨sn, An, nn, cn, sf, Af, nf, cf, rfl, hV, hBel⟩
set_option linter.unusedSimpArgs false in
set_option maxRecDepth 100000 in
set_option maxHeartbeats 2000000 in
theorem ffloor_v {a : Rat} {sa ta : Bool} {Aa Ba : Option Addr} {na ca ma da : Nat} {w : World} (ha : FV w a sa Aa na ta Ba ma) (la : fl a ≤ 256) :
    Calls Tryz.prog 48 #[.agg #[.bool sa, .slice Aa na ca, .bool ta, .slice Ba ma da]] w (WOK (a.num.fdiv (a.den : Int)) w) := by
  have hE := ((Env.start w).fv ha).blk 26 #[.bool sa, .slice Aa na ca, .bool ta, .slice Ba ma da] (g := w.heap.size) rfl
  have hE := hE.blk 24 #[.bool false, .slice none 0 0] (g := w.heap.size + 1) (by simp)
  obtain ⟨W0, hW0⟩ : ∃ W0, W0 = ((w.alloc (.cells #[.bool sa, .slice Aa na ca, .bool ta, .slice Ba ma da] 26)).alloc (.cells #[.bool false, .slice none 0 0] 24)) := ⟨_, rfl⟩
  rw [← hW0] at hE
  have HW0 := Lib.hid hW0
  clear hW0
  go_enter Tryz.func48, Tryz.ntmps48
  go_upto_region 1 with (fail)
  rw [← HW0.out]
  obtain ⟨ha1, ha2⟩ := ha.ln la
  obtain ⟨k1, k2, k3, k4⟩ := (hE.here.1.2).c4
  go_wp2_with fail
  have hc := fvalid_v0 (c := ca) (d := da) hE.here.1.1.2 la
  refine hc.mono ?_
  clear hc
  clear k1 k2 k3 k4
  rintro e w5 ⟨rfl, hb⟩
  replace hE := hE.step hb
  clear hb
  obtain ⟨k6, k7, k8, k9⟩ := (hE.here.1.2).c4
  go_wp2_with fail
  refine (fdivide_v (ca := ca) (cb := da) (hE.here.1.1.2).1 (hE.here.1.1.2).2 (by omega) (by omega) (den_nz a)).mono ?_
  clear k6 k7 k8 k9
  rintro e w9 ⟨sq, Aq, nq, cq, sr, Ar, nr, cr, rfl, hq, hr, hb⟩
  replace hE := hE.step hb
  clear hb
  replace hE := (hE.wv hq).wv hr
  go_upto_region 4 with (fail)
  have hl10a : w.heap.size < w9.heap.size := (hE.here.1.1.1.2).lt
  have hl10b : w.heap.size + 1 < w9.heap.size := (hE.here.1.1.2).lt
  replace hE := (hE.blk 24 #[.bool sq, .slice Aq nq cq] (g := w9.heap.size) rfl).blk 24 #[.bool sr, .slice Ar nr cr] (g := w9.heap.size + 1) (by simp)
  generalize (w9.alloc (.cells #[.bool sq, .slice Aq nq cq] 24)).alloc (.cells #[.bool sr, .slice Ar nr cr] 24) = X10 at hE ⊢
  generalize w9.heap.size = g10 at hE hl10a hl10b ⊢
  clear hq hr
  obtain ⟨k11, k12⟩ := (hE.here.1.2).c2
  have hRl : w.heap.size ≤ w.heap.size + 1 := by omega
  obtain ⟨WW, hWW, hB, hV, hBel⟩ := ret_whole hE hE.here.1.1.1.1.2 hRl hE.here.1.1.1.2 cq
  obtain ⟨x0, x1⟩ := (hE.here.1.1.1.1.2).c2
  obtain ⟨fz0, fz1⟩ := hE.here.1.1.1.1.2.f2
  have HWW := Lib.hid hWW
  clear hWW
  go_wp2_with fail
  clear x0 x1
  rw [← HWW.out]
  obtain ⟨y0, y1⟩ := hB.c2
  refine bodyPost_ret (v := .tuple #[.agg #[.bool sq, .slice Aq nq cq], .int .i64 0]) (by simp [results, Tryz.results48, go_sem, y0, y1]) rfl ?_
  exact ⟨sq, Aq, nq, cq, rfl, hV, hBel⟩
theorem fdiv_len {a b : Int} (ha : ln b16 a.natAbs ≤ 256) (_ : b ≠ 0) : ln b16 (a.fdiv b).natAbs ≤ 513 := by
  refine Nat.le_trans (ln_mono b16_two (show (a.fdiv b).natAbs ≤ a.natAbs + 1 from ?_)) (Nat.le_trans (ln_add b16_two (m := 256) ha (by decide)) (by decide))
  have h1 := Int.natAbs_ediv_le_natAbs a b
  rw [Int.fdiv_eq_ediv]
  split <;> omega
set_option linter.unusedSimpArgs false in
set_option maxRecDepth 100000 in
set_option maxHeartbeats 4000000 in
theorem fceil_v {a : Rat} {sa ta : Bool} {Aa Ba : Option Addr} {na ca ma da : Nat} {w : World} (ha : FV w a sa Aa na ta Ba ma) (la : fl a ≤ 256) :
    Calls Tryz.prog 49 #[.agg #[.bool sa, .slice Aa na ca, .bool ta, .slice Ba ma da]] w (WOK (ceilQ a) w) := by
  unfold ceilQ
  by_cases h0 : a.num.fmod (a.den : Int) = 0
  · rw [if_pos h0]
    have hE := ((Env.start w).fv ha).blk 26 #[.bool sa, .slice Aa na ca, .bool ta, .slice Ba ma da] (g := w.heap.size) rfl
    have hE := hE.blk 24 #[.bool false, .slice none 0 0] (g := w.heap.size + 1) (by simp)
    obtain ⟨W0, hW0⟩ : ∃ W0, W0 = ((w.alloc (.cells #[.bool sa, .slice Aa na ca, .bool ta, .slice Ba ma da] 26)).alloc (.cells #[.bool false, .slice none 0 0] 24)) := ⟨_, rfl⟩
    rw [← hW0] at hE
    have HW0 := Lib.hid hW0
    clear hW0
    go_enter Tryz.func49, Tryz.ntmps49
    go_upto_region 1 with (fail)
    rw [← HW0.out]
    obtain ⟨ha1, ha2⟩ := ha.ln la
    obtain ⟨k1, k2, k3, k4⟩ := (hE.here.1.2).c4
    go_wp2_with fail
    have hc := fvalid_v0 (c := ca) (d := da) hE.here.1.1.2 la
    refine hc.mono ?_
    clear hc
    clear k1 k2 k3 k4
    rintro e w5 ⟨rfl, hb⟩
    replace hE := hE.step hb
    clear hb
    obtain ⟨k6, k7, k8, k9⟩ := (hE.here.1.2).c4
    go_wp2_with fail
    refine (fdivide_v (ca := ca) (cb := da) (hE.here.1.1.2).1 (hE.here.1.1.2).2 (by omega) (by omega) (den_nz a)).mono ?_
    clear k6 k7 k8 k9
    rintro e w9 ⟨sq, Aq, nq, cq, sr, Ar, nr, cr, rfl, hq, hr, hb⟩
    replace hE := hE.step hb
    clear hb
    replace hE := (hE.wv hq).wv hr
    go_upto_region 4 with (fail)
    have hl10a : w.heap.size < w9.heap.size := (hE.here.1.1.1.2).lt
    have hl10b : w.heap.size + 1 < w9.heap.size := (hE.here.1.1.2).lt
    replace hE := (hE.blk 24 #[.bool sq, .slice Aq nq cq] (g := w9.heap.size) rfl).blk 24 #[.bool sr, .slice Ar nr cr] (g := w9.heap.size + 1) (by simp)
    generalize (w9.alloc (.cells #[.bool sq, .slice Aq nq cq] 24)).alloc (.cells #[.bool sr, .slice Ar nr cr] 24) = X10 at hE ⊢
    generalize w9.heap.size = g10 at hE hl10a hl10b ⊢
    obtain rfl : nr = 0 := by rw [hr.len, h0]; exact ln_zero
    clear hq hr
    obtain ⟨k11, k12⟩ := (hE.here.1.2).c2
    obtain ⟨k13, k14⟩ := (hE.here.2).c2
    go_upto_region 6 with (fail)
    clear k11 k12 k13 k14
    obtain ⟨k15, k16⟩ := (hE.here.1.2).c2
    have hRl : w.heap.size ≤ w.heap.size + 1 := by omega
    obtain ⟨WW, hWW, hB, hV, hBel⟩ := ret_whole hE hE.here.1.1.1.1.2 hRl hE.here.1.1.1.2 cq
    obtain ⟨x0, x1⟩ := (hE.here.1.1.1.1.2).c2
    obtain ⟨fz0, fz1⟩ := hE.here.1.1.1.1.2.f2
    have HWW := Lib.hid hWW
    clear hWW
    go_wp2_with fail
    clear x0 x1
    rw [← HWW.out]
    obtain ⟨y0, y1⟩ := hB.c2
    refine bodyPost_ret (v := .tuple #[.agg #[.bool sq, .slice Aq nq cq], .int .i64 0]) (by simp [results, Tryz.results49, go_sem, y0, y1]) rfl ?_
    exact ⟨sq, Aq, nq, cq, rfl, hV, hBel⟩
  · rw [if_neg h0]
    have hE := ((Env.start w).fv ha).blk 26 #[.bool sa, .slice Aa na ca, .bool ta, .slice Ba ma da] (g := w.heap.size) rfl
    have hE := hE.blk 24 #[.bool false, .slice none 0 0] (g := w.heap.size + 1) (by simp)
    obtain ⟨W0, hW0⟩ : ∃ W0, W0 = ((w.alloc (.cells #[.bool sa, .slice Aa na ca, .bool ta, .slice Ba ma da] 26)).alloc (.cells #[.bool false, .slice none 0 0] 24)) := ⟨_, rfl⟩
    rw [← hW0] at hE
    have HW0 := Lib.hid hW0
    clear hW0
    go_enter Tryz.func49, Tryz.ntmps49
    go_upto_region 1 with (fail)
    rw [← HW0.out]
    obtain ⟨ha1, ha2⟩ := ha.ln la
    obtain ⟨k1, k2, k3, k4⟩ := (hE.here.1.2).c4
    go_wp2_with fail
    have hc := fvalid_v0 (c := ca) (d := da) hE.here.1.1.2 la
    refine hc.mono ?_
    clear hc
    clear k1 k2 k3 k4
    rintro e w5 ⟨rfl, hb⟩
    replace hE := hE.step hb
    clear hb
    obtain ⟨k6, k7, k8, k9⟩ := (hE.here.1.2).c4
    go_wp2_with fail
    refine (fdivide_v (ca := ca) (cb := da) (hE.here.1.1.2).1 (hE.here.1.1.2).2 (by omega) (by omega) (den_nz a)).mono ?_
    clear k6 k7 k8 k9
    rintro e w9 ⟨sq, Aq, nq, cq, sr, Ar, nr, cr, rfl, hq, hr, hb⟩
    replace hE := hE.step hb
    clear hb
    replace hE := (hE.wv hq).wv hr
    go_upto_region 4 with (fail)
    have hl10a : w.heap.size < w9.heap.size := (hE.here.1.1.1.2).lt
    have hl10b : w.heap.size + 1 < w9.heap.size := (hE.here.1.1.2).lt
    replace hE := (hE.blk 24 #[.bool sq, .slice Aq nq cq] (g := w9.heap.size) rfl).blk 24 #[.bool sr, .slice Ar nr cr] (g := w9.heap.size + 1) (by simp)
    generalize (w9.alloc (.cells #[.bool sq, .slice Aq nq cq] 24)).alloc (.cells #[.bool sr, .slice Ar nr cr] 24) = X10 at hE ⊢
    generalize w9.heap.size = g10 at hE hl10a hl10b ⊢
    have hz : 0 < nr := by rw [hr.len]; exact (ln_pos b16_two).2 (by omega)
    have t1 : decide (0 < (nr : Int)) = true := decide_eq_true (by omega)
    have t2 : decide (0 < nr) = true := decide_eq_true hz
    have lq : nq ≤ 513 := by rw [hq.len]; exact fdiv_len (fv_lens ha la).1 (den_nz a)
    have lq2 : ln b16 (a.num.fdiv (a.den : Int)).natAbs ≤ 513 := by rw [← hq.len]; exact lq
    clear hq hr
    obtain ⟨k11, k12⟩ := (hE.here.1.2).c2
    obtain ⟨k13, k14⟩ := (hE.here.2).c2
    go_upto_region 5 with (fail)
    clear k11 k12 k13 k14
    replace hE := hE.drew
    refine wp_region_held_drew (S := fun w' => True) (by kernel_rfl) (trivial) (fun hHeld => ?_)
    refine wpAnyH_ready (rs := [0, 1]) (by kernel_rfl) (by simp) (AllReadyH.cons rfl (fun K hK => ?_) (AllReadyH.cons rfl (fun K hK => ?_) (AllReadyH.nil)))
    · skip
      obtain ⟨k15, k16⟩ := (hE.here.1.2).c2
      go_simp
      clear k15 k16
      refine hK.out _ _ (trivial) (fun hHeld => ?_)
      clear hK K
      try simp only [PL]
      refine r1 1 (fun K hK => ?_)
      go_simp
      have hc := fromInt_v 1 X10.drew (by decide) (by decide)
      refine hc.mono ?_
      clear hc
      rintro e w17 ⟨so, Ao, no, co, rfl, ho, hb⟩
      replace hE := hE.step hb
      clear hb
      replace hE := hE.wv ho
      clear ho
      go_wp2_with fail
      refine hK.out _ _ (trivial) (fun hHeld => ?_)
      clear hK K
      try simp only [PL]
      refine r1 2 (fun K hK => ?_)
      go_simp
      have lo : no ≤ 4 := small_len (hE.here.2) (by decide) (by decide)
      have hc := fplus_v (ca := cq) (cb := co) hE.here.1.1.1.1.2 hE.here.2 (Nat.le_trans lq (by decide)) (Nat.le_trans lo (by decide)) (Nat.le_trans (ln_addZ (m := 513) lq2 (by decide)) (by decide))
      refine hc.mono ?_
      clear hc
      rintro e w18 ⟨sz, Az, nz, cz, rfl, hz, hb⟩
      replace hE := hE.step hb
      clear hb
      replace hE := hE.wv hz
      clear hz
      go_wp2_with fail
      refine hK.out _ _ (trivial) (fun hHeld => ?_)
      clear hK K
      try simp only [PL]
      refine r1 3 (fun K hK => ?_)
      have hgl19 : w.heap.size ≤ g10 := by omega
      obtain ⟨x19_0, x19_1⟩ := (hE.here.1.1.1.2).c2
      obtain ⟨f19_0, f19_1⟩ := hE.here.1.1.1.2.f2
      replace hE := ((((((((((Env.again (bel2 hE.bel hgl19 (.bool sz) (.slice Az nz cz))).fv ((hE.here.1.1.1.1.1.1.1.1.2).sep2 hE.here.1.1.1.2 rfl (.bool sz) (.slice Az nz cz) rfl)).blkI ((hE.here.1.1.1.1.1.1.1.2).far2 (R := g10) (by omega) (.bool sz) (.slice Az nz cz))).blkI ((hE.here.1.1.1.1.1.1.2).far2 (R := g10) (by omega) (.bool sz) (.slice Az nz cz))).wv ((hE.here.1.1.1.1.1.2).sep2 hE.here.1.1.1.2 rfl (.bool sz) (.slice Az nz cz) rfl)).wv ((hE.here.1.1.1.1.2).sep2 hE.here.1.1.1.2 rfl (.bool sz) (.slice Az nz cz) rfl)).blkI ((hE.here.1.1.1.2).s2 (.bool sz) (.slice Az nz cz))).blkI ((hE.here.1.1.2).far2 (R := g10) (by omega) (.bool sz) (.slice Az nz cz))).wv ((hE.here.1.2).sep2 hE.here.1.1.1.2 rfl (.bool sz) (.slice Az nz cz) rfl)).wv ((hE.here.2).sep2 hE.here.1.1.1.2 rfl (.bool sz) (.slice Az nz cz) rfl))
      go_simp
      clear x19_0 x19_1 f19_0 f19_1 hgl19
      generalize ((w18.setCell ⟨g10, 0, none⟩ (.bool sz)).setCell ⟨g10, 1, none⟩ (.slice Az nz cz)) = W19 at hE ⊢
      refine hK.out _ _ (trivial) (fun hHeld => ?_)
      clear hK K
      try simp only [PL]
      refine wpAnyH_done (by kernel_rfl) ?_ _
      go_upto_region 6 with (fail)
      obtain ⟨k20, k21⟩ := (hE.here.1.1.1.2).c2
      have hRl : w.heap.size ≤ w.heap.size + 1 := by omega
      obtain ⟨WW, hWW, hB, hV, hBel⟩ := ret_whole hE hE.here.1.1.1.1.1.1.2 hRl hE.here.2 cz
      obtain ⟨x0, x1⟩ := (hE.here.1.1.1.1.1.1.2).c2
      obtain ⟨fz0, fz1⟩ := hE.here.1.1.1.1.1.1.2.f2
      have HWW := Lib.hid hWW
      clear hWW
      go_wp2_with fail
      clear x0 x1
      rw [← HWW.out]
      obtain ⟨y0, y1⟩ := hB.c2
      refine bodyPost_ret (v := .tuple #[.agg #[.bool sz, .slice Az nz cz], .int .i64 0]) (by simp [results, Tryz.results49, go_sem, y0, y1]) rfl ?_
      exact ⟨sz, Az, nz, cz, rfl, hV, hBel⟩
    · skip
      go_simp
      have hc := fromInt_v 1 X10.drew (by decide) (by decide)
      refine hc.mono ?_
      clear hc
      rintro e w22 ⟨so, Ao, no, co, rfl, ho, hb⟩
      replace hE := hE.step hb
      clear hb
      replace hE := hE.wv ho
      clear ho
      go_wp2_with fail
      refine hK.out _ _ (trivial) (fun hHeld => ?_)
      clear hK K
      try simp only [PL]
      refine r1 0 (fun K hK => ?_)
      obtain ⟨k23, k24⟩ := (hE.here.1.1.2).c2
      go_simp
      clear k23 k24
      refine hK.out _ _ (trivial) (fun hHeld => ?_)
      clear hK K
      try simp only [PL]
      refine r1 2 (fun K hK => ?_)
      go_simp
      have lo : no ≤ 4 := small_len (hE.here.2) (by decide) (by decide)
      have hc := fplus_v (ca := cq) (cb := co) hE.here.1.1.1.1.2 hE.here.2 (Nat.le_trans lq (by decide)) (Nat.le_trans lo (by decide)) (Nat.le_trans (ln_addZ (m := 513) lq2 (by decide)) (by decide))
      refine hc.mono ?_
      clear hc
      rintro e w25 ⟨sz, Az, nz, cz, rfl, hz, hb⟩
      replace hE := hE.step hb
      clear hb
      replace hE := hE.wv hz
      clear hz
      go_wp2_with fail
      refine hK.out _ _ (trivial) (fun hHeld => ?_)
      clear hK K
      try simp only [PL]
      refine r1 3 (fun K hK => ?_)
      have hgl26 : w.heap.size ≤ g10 := by omega
      obtain ⟨x26_0, x26_1⟩ := (hE.here.1.1.1.2).c2
      obtain ⟨f26_0, f26_1⟩ := hE.here.1.1.1.2.f2
      replace hE := ((((((((((Env.again (bel2 hE.bel hgl26 (.bool sz) (.slice Az nz cz))).fv ((hE.here.1.1.1.1.1.1.1.1.2).sep2 hE.here.1.1.1.2 rfl (.bool sz) (.slice Az nz cz) rfl)).blkI ((hE.here.1.1.1.1.1.1.1.2).far2 (R := g10) (by omega) (.bool sz) (.slice Az nz cz))).blkI ((hE.here.1.1.1.1.1.1.2).far2 (R := g10) (by omega) (.bool sz) (.slice Az nz cz))).wv ((hE.here.1.1.1.1.1.2).sep2 hE.here.1.1.1.2 rfl (.bool sz) (.slice Az nz cz) rfl)).wv ((hE.here.1.1.1.1.2).sep2 hE.here.1.1.1.2 rfl (.bool sz) (.slice Az nz cz) rfl)).blkI ((hE.here.1.1.1.2).s2 (.bool sz) (.slice Az nz cz))).blkI ((hE.here.1.1.2).far2 (R := g10) (by omega) (.bool sz) (.slice Az nz cz))).wv ((hE.here.1.2).sep2 hE.here.1.1.1.2 rfl (.bool sz) (.slice Az nz cz) rfl)).wv ((hE.here.2).sep2 hE.here.1.1.1.2 rfl (.bool sz) (.slice Az nz cz) rfl))
      go_simp
      clear x26_0 x26_1 f26_0 f26_1 hgl26
      generalize ((w25.setCell ⟨g10, 0, none⟩ (.bool sz)).setCell ⟨g10, 1, none⟩ (.slice Az nz cz)) = W26 at hE ⊢
      refine hK.out _ _ (trivial) (fun hHeld => ?_)
      clear hK K
      try simp only [PL]
      refine wpAnyH_done (by kernel_rfl) ?_ _
      go_upto_region 6 with (fail)
      obtain ⟨k27, k28⟩ := (hE.here.1.1.1.2).c2
      have hRl : w.heap.size ≤ w.heap.size + 1 := by omega
      obtain ⟨WW, hWW, hB, hV, hBel⟩ := ret_whole hE hE.here.1.1.1.1.1.1.2 hRl hE.here.2 cz
      obtain ⟨x0, x1⟩ := (hE.here.1.1.1.1.1.1.2).c2
      obtain ⟨fz0, fz1⟩ := hE.here.1.1.1.1.1.1.2.f2
      have HWW := Lib.hid hWW
      clear hWW
      go_wp2_with fail
      clear x0 x1
      rw [← HWW.out]
      obtain ⟨y0, y1⟩ := hB.c2
      refine bodyPost_ret (v := .tuple #[.agg #[.bool sz, .slice Az nz cz], .int .i64 0]) (by simp [results, Tryz.results49, go_sem, y0, y1]) rfl ?_
      exact ⟨sz, Az, nz, cz, rfl, hV, hBel⟩
end Go.Proofs.YtifikcemcflgjaaGreat
namespace Go.Proofs.YtifikcemcflgjaaGreat
open Go.RowKit

/-- Whether rounding goes up: the value is negative, k is odd, the side of the middle. -/
def upB (m : Nat) (ng od : Bool) (h : Int) : Bool :=
  if m = 1 then ng else if m = 2 then !ng else if m = 3 then false else if m = 4 then true else if m = 5 then decide (0 < h) || (decide (h = 0) && !ng) else decide (0 < h) || (decide (h = 0) && od)
set_option linter.unusedSimpArgs false in
set_option maxRecDepth 100000 in
theorem up1_v (ng od : Bool) (h : Int) (w : World) :
    Calls Tryz.prog 96 #[.agg #[.bool ng, .bool od, .int .i64 h]] w fun e w' => e = .returned (.bool (upB 1 ng od h)) ∧ Below w.heap.size w w' := by
  have hE := (Env.start w).blk 71 #[.bool ng, .bool od, .int .i64 h] (g := w.heap.size) rfl
  obtain ⟨W0, hW0⟩ : ∃ W0, W0 = (w.alloc (.cells #[.bool ng, .bool od, .int .i64 h] 71)) := ⟨_, rfl⟩
  rw [← hW0] at hE
  have HW0 := Lib.hid hW0
  clear hW0
  go_enter Tryz.func96, Tryz.ntmps96
  go_upto_region 1 with (fail)
  rw [← HW0.out]
  obtain ⟨k1, k2, k3⟩ := (hE.here.2).c3
  go_wp2_with fail
  go_ret
  exact ⟨(by first | rfl | (unfold upB; simp [*])), hE.bel⟩
set_option linter.unusedSimpArgs false in
set_option maxRecDepth 100000 in
theorem up2_v (ng od : Bool) (h : Int) (w : World) :
    Calls Tryz.prog 97 #[.agg #[.bool ng, .bool od, .int .i64 h]] w fun e w' => e = .returned (.bool (upB 2 ng od h)) ∧ Below w.heap.size w w' := by
  have hE := (Env.start w).blk 71 #[.bool ng, .bool od, .int .i64 h] (g := w.heap.size) rfl
  obtain ⟨W0, hW0⟩ : ∃ W0, W0 = (w.alloc (.cells #[.bool ng, .bool od, .int .i64 h] 71)) := ⟨_, rfl⟩
  rw [← hW0] at hE
  have HW0 := Lib.hid hW0
  clear hW0
  go_enter Tryz.func97, Tryz.ntmps97
  go_upto_region 1 with (fail)
  rw [← HW0.out]
  obtain ⟨k1, k2, k3⟩ := (hE.here.2).c3
  go_wp2_with fail
  go_ret
  exact ⟨(by first | rfl | (unfold upB; simp [*])), hE.bel⟩
set_option linter.unusedSimpArgs false in
set_option maxRecDepth 100000 in
theorem up3_v (ng od : Bool) (h : Int) (w : World) :
    Calls Tryz.prog 98 #[.agg #[.bool ng, .bool od, .int .i64 h]] w fun e w' => e = .returned (.bool (upB 3 ng od h)) ∧ Below w.heap.size w w' := by
  have hE := (Env.start w).blk 71 #[.bool ng, .bool od, .int .i64 h] (g := w.heap.size) rfl
  obtain ⟨W0, hW0⟩ : ∃ W0, W0 = (w.alloc (.cells #[.bool ng, .bool od, .int .i64 h] 71)) := ⟨_, rfl⟩
  rw [← hW0] at hE
  have HW0 := Lib.hid hW0
  clear hW0
  go_enter Tryz.func98, Tryz.ntmps98
  go_upto_region 1 with (fail)
  rw [← HW0.out]
  obtain ⟨k1, k2, k3⟩ := (hE.here.2).c3
  go_wp2_with fail
  go_ret
  exact ⟨(by first | rfl | (unfold upB; simp [*])), hE.bel⟩
set_option linter.unusedSimpArgs false in
set_option maxRecDepth 100000 in
theorem up4_v (ng od : Bool) (h : Int) (w : World) :
    Calls Tryz.prog 99 #[.agg #[.bool ng, .bool od, .int .i64 h]] w fun e w' => e = .returned (.bool (upB 4 ng od h)) ∧ Below w.heap.size w w' := by
  have hE := (Env.start w).blk 71 #[.bool ng, .bool od, .int .i64 h] (g := w.heap.size) rfl
  obtain ⟨W0, hW0⟩ : ∃ W0, W0 = (w.alloc (.cells #[.bool ng, .bool od, .int .i64 h] 71)) := ⟨_, rfl⟩
  rw [← hW0] at hE
  have HW0 := Lib.hid hW0
  clear hW0
  go_enter Tryz.func99, Tryz.ntmps99
  go_upto_region 1 with (fail)
  rw [← HW0.out]
  obtain ⟨k1, k2, k3⟩ := (hE.here.2).c3
  go_wp2_with fail
  go_ret
  exact ⟨(by first | rfl | (unfold upB; simp [*])), hE.bel⟩
set_option linter.unusedSimpArgs false in
set_option maxRecDepth 100000 in
theorem up5_v (ng od : Bool) (h : Int) (w : World) :
    Calls Tryz.prog 100 #[.agg #[.bool ng, .bool od, .int .i64 h]] w fun e w' => e = .returned (.bool (upB 5 ng od h)) ∧ Below w.heap.size w w' := by
  by_cases h1 : 0 < h
  · have t1 : decide (0 < h) = true := decide_eq_true h1
    have hE := (Env.start w).blk 71 #[.bool ng, .bool od, .int .i64 h] (g := w.heap.size) rfl
    obtain ⟨W0, hW0⟩ : ∃ W0, W0 = (w.alloc (.cells #[.bool ng, .bool od, .int .i64 h] 71)) := ⟨_, rfl⟩
    rw [← hW0] at hE
    have HW0 := Lib.hid hW0
    clear hW0
    go_enter Tryz.func100, Tryz.ntmps100
    go_upto_region 1 with (fail)
    rw [← HW0.out]
    obtain ⟨k1, k2, k3⟩ := (hE.here.2).c3
    go_wp2_with fail
    go_ret
    exact ⟨(by first | rfl | (unfold upB; simp [*])), hE.bel⟩
  · have t1 : decide (0 < h) = false := decide_eq_false h1
    by_cases h2 : h = 0
    · subst h2
      clear h1 t1
      cases ng
      · skip
        have hE := (Env.start w).blk 71 #[.bool false, .bool od, .int .i64 0] (g := w.heap.size) rfl
        obtain ⟨W0, hW0⟩ : ∃ W0, W0 = (w.alloc (.cells #[.bool false, .bool od, .int .i64 0] 71)) := ⟨_, rfl⟩
        rw [← hW0] at hE
        have HW0 := Lib.hid hW0
        clear hW0
        go_enter Tryz.func100, Tryz.ntmps100
        go_upto_region 1 with (fail)
        rw [← HW0.out]
        obtain ⟨k1, k2, k3⟩ := (hE.here.2).c3
        go_wp2_with fail
        go_ret
        exact ⟨(by first | rfl | (unfold upB; simp [*])), hE.bel⟩
      · skip
        have hE := (Env.start w).blk 71 #[.bool true, .bool od, .int .i64 0] (g := w.heap.size) rfl
        obtain ⟨W0, hW0⟩ : ∃ W0, W0 = (w.alloc (.cells #[.bool true, .bool od, .int .i64 0] 71)) := ⟨_, rfl⟩
        rw [← hW0] at hE
        have HW0 := Lib.hid hW0
        clear hW0
        go_enter Tryz.func100, Tryz.ntmps100
        go_upto_region 1 with (fail)
        rw [← HW0.out]
        obtain ⟨k1, k2, k3⟩ := (hE.here.2).c3
        go_wp2_with fail
        go_ret
        exact ⟨(by first | rfl | (unfold upB; simp [*])), hE.bel⟩
    · have t2 : (h == 0) = false := beq_eq_false_iff_ne.2 h2
      have hE := (Env.start w).blk 71 #[.bool ng, .bool od, .int .i64 h] (g := w.heap.size) rfl
      obtain ⟨W0, hW0⟩ : ∃ W0, W0 = (w.alloc (.cells #[.bool ng, .bool od, .int .i64 h] 71)) := ⟨_, rfl⟩
      rw [← hW0] at hE
      have HW0 := Lib.hid hW0
      clear hW0
      go_enter Tryz.func100, Tryz.ntmps100
      go_upto_region 1 with (fail)
      rw [← HW0.out]
      obtain ⟨k1, k2, k3⟩ := (hE.here.2).c3
      go_wp2_with fail
      go_ret
      exact ⟨(by first | rfl | (unfold upB; simp [*])), hE.bel⟩
set_option linter.unusedSimpArgs false in
set_option maxRecDepth 100000 in
theorem up6_v (ng od : Bool) (h : Int) (w : World) :
    Calls Tryz.prog 101 #[.agg #[.bool ng, .bool od, .int .i64 h]] w fun e w' => e = .returned (.bool (upB 6 ng od h)) ∧ Below w.heap.size w w' := by
  by_cases h1 : 0 < h
  · have t1 : decide (0 < h) = true := decide_eq_true h1
    have hE := (Env.start w).blk 71 #[.bool ng, .bool od, .int .i64 h] (g := w.heap.size) rfl
    obtain ⟨W0, hW0⟩ : ∃ W0, W0 = (w.alloc (.cells #[.bool ng, .bool od, .int .i64 h] 71)) := ⟨_, rfl⟩
    rw [← hW0] at hE
    have HW0 := Lib.hid hW0
    clear hW0
    go_enter Tryz.func101, Tryz.ntmps101
    go_upto_region 1 with (fail)
    rw [← HW0.out]
    obtain ⟨k1, k2, k3⟩ := (hE.here.2).c3
    go_wp2_with fail
    go_ret
    exact ⟨(by first | rfl | (unfold upB; simp [*])), hE.bel⟩
  · have t1 : decide (0 < h) = false := decide_eq_false h1
    by_cases h2 : h = 0
    · subst h2
      clear h1 t1
      cases od
      · skip
        have hE := (Env.start w).blk 71 #[.bool ng, .bool false, .int .i64 0] (g := w.heap.size) rfl
        obtain ⟨W0, hW0⟩ : ∃ W0, W0 = (w.alloc (.cells #[.bool ng, .bool false, .int .i64 0] 71)) := ⟨_, rfl⟩
        rw [← hW0] at hE
        have HW0 := Lib.hid hW0
        clear hW0
        go_enter Tryz.func101, Tryz.ntmps101
        go_upto_region 1 with (fail)
        rw [← HW0.out]
        obtain ⟨k1, k2, k3⟩ := (hE.here.2).c3
        go_wp2_with fail
        go_ret
        exact ⟨(by first | rfl | (unfold upB; simp [*])), hE.bel⟩
      · skip
        have hE := (Env.start w).blk 71 #[.bool ng, .bool true, .int .i64 0] (g := w.heap.size) rfl
        obtain ⟨W0, hW0⟩ : ∃ W0, W0 = (w.alloc (.cells #[.bool ng, .bool true, .int .i64 0] 71)) := ⟨_, rfl⟩
        rw [← hW0] at hE
        have HW0 := Lib.hid hW0
        clear hW0
        go_enter Tryz.func101, Tryz.ntmps101
        go_upto_region 1 with (fail)
        rw [← HW0.out]
        obtain ⟨k1, k2, k3⟩ := (hE.here.2).c3
        go_wp2_with fail
        go_ret
        exact ⟨(by first | rfl | (unfold upB; simp [*])), hE.bel⟩
    · have t2 : (h == 0) = false := beq_eq_false_iff_ne.2 h2
      have hE := (Env.start w).blk 71 #[.bool ng, .bool od, .int .i64 h] (g := w.heap.size) rfl
      obtain ⟨W0, hW0⟩ : ∃ W0, W0 = (w.alloc (.cells #[.bool ng, .bool od, .int .i64 h] 71)) := ⟨_, rfl⟩
      rw [← hW0] at hE
      have HW0 := Lib.hid hW0
      clear hW0
      go_enter Tryz.func101, Tryz.ntmps101
      go_upto_region 1 with (fail)
      rw [← HW0.out]
      obtain ⟨k1, k2, k3⟩ := (hE.here.2).c3
      go_wp2_with fail
      go_ret
      exact ⟨(by first | rfl | (unfold upB; simp [*])), hE.bel⟩
end Go.Proofs.YtifikcemcflgjaaGreat
namespace Go.Proofs.YtifikcemcflgjaaGreat
open Go.RowKit

/-- The call returned the whole number z, and true. -/
def WT (z : Int) (w : World) (e : Ending) (w' : World) : Prop := ∃ s A n c, e = .returned (.tuple #[.agg #[.bool s, .slice A n c], .bool true]) ∧ WV w' z s A n ∧ Below w.heap.size w w'
theorem pow_le {a : Int} (h : a ≠ 0) {i j : Nat} (hij : i ≤ j) : ln b16 (a ^ i).natAbs ≤ ln b16 (a ^ j).natAbs := by
  refine ln_mono b16_two ?_
  rw [Int.natAbs_pow, Int.natAbs_pow]
  exact Nat.pow_le_pow_right (by omega) hij
theorem half_twice (n j : Nat) : n / 2 ^ j = 2 * (n / 2 ^ (j + 1)) + n / 2 ^ j % 2 := by
  rw [Nat.pow_succ, ← Nat.div_div_eq_div_mul]
  omega
theorem pow_step (a : Int) (n j : Nat) (h : n / 2 ^ j % 2 = 0) : a ^ (n / 2 ^ (j + 1)) * a ^ (n / 2 ^ (j + 1)) = a ^ (n / 2 ^ j) := by
  rw [← Int.pow_add]
  congr 1
  have := half_twice n j
  omega
theorem pow_step1 (a : Int) (n j : Nat) (h : n / 2 ^ j % 2 = 1) : a ^ (n / 2 ^ (j + 1)) * a ^ (n / 2 ^ (j + 1)) * a = a ^ (n / 2 ^ j) := by
  rw [← Int.pow_add, ← Int.pow_succ]
  congr 1
  have := half_twice n j
  omega
/-- A cell of a block. -/
def At (b o : Nat) (v : Value) (V : World) : Prop := b < V.heap.size ∧ V.cell? ⟨b, o, none⟩ = some v
theorem At.stable (b o : Nat) (v : Value) : Stable (At b o v) := fun _ _ hb h => ⟨Nat.lt_of_lt_of_le h.1 hb.size, (hb.cell (p := ⟨b, o, none⟩) h.1).trans h.2⟩
theorem Env.at_ {w W : World} {P : World → Prop} {b o : Nat} {v : Value} (h : Env w P W) (hb : b < W.heap.size) (hc : W.cell? ⟨b, o, none⟩ = some v) : Env w (fun V => P V ∧ At b o v V) W := h.and (At.stable b o v) ⟨hb, hc⟩
theorem limb_one {w : World} {z : Int} {s : Bool} {A : Option Addr} (h : WV w z s A 1) : ∃ b o, A = some ⟨b, o, none⟩ ∧ b < w.heap.size ∧ w.cell? ⟨b, o, none⟩ = some (.int .u16 ((z.natAbs : Nat) : Int)) := by
  obtain ⟨hs, hl, hr⟩ := h
  obtain ⟨b, o, e, hb, hc⟩ := hr (by omega)
  have c1 := hc 0 (by omega)
  have hv : dgt b16 z.natAbs 0 = z.natAbs := by
    have h := vs_dgt_ln b16_two (x := z.natAbs)
    rw [← hl, vs_succ, vs_zero] at h
    simpa using h
  rw [hv, Nat.add_zero] at c1
  exact ⟨b, o, e, hb, c1⟩
set_option linter.unusedSimpArgs false in
set_option maxRecDepth 100000 in
set_option maxHeartbeats 8000000 in
theorem fpower_big {a : Int} {sa : Bool} {Aa : Option Addr} {na ca : Nat} {w : World} (ha : WV w a sa Aa na) (n : Nat) (hn : n ≤ 18446744073709551615) (ha2 : 2 ≤ a.natAbs) (hl : ln b16 (a ^ n).natAbs ≤ 256) (la : na ≤ 256) :
    Calls Tryz.prog 75 #[.agg #[.bool sa, .slice Aa na ca], .int .u64 (n : Int)] w (WT (a ^ n) w) := by
  have ha0 : a ≠ 0 := by omega
  have hp : 0 < na := by rw [ha.len]; exact (ln_pos b16_two).2 (by omega)
  by_cases hna : na = 1
  · skip
    obtain rfl : na = 1 := hna
    obtain ⟨b, o, rfl, hbl, hcell⟩ := limb_one ha
    have t3 : (((a.natAbs : Nat) : Int) == 1) = false := beq_eq_false_iff_ne.2 (by omega)
    obtain ⟨d, hd⟩ : ∃ d, d = ((a.natAbs : Nat) : Int) := ⟨_, rfl⟩
    rw [← hd] at t3 hcell
    clear hd
    have hE := (((Env.start w).wv ha).at_ hbl hcell).blk 24 #[.bool sa, .slice (some ⟨b, o, none⟩) 1 ca] (g := w.heap.size) rfl
    have hE := hE.blk 24 #[.bool false, .slice none 0 0] (g := w.heap.size + 1) (by simp)
    obtain ⟨W0, hW0⟩ : ∃ W0, W0 = ((w.alloc (.cells #[.bool sa, .slice (some ⟨b, o, none⟩) 1 ca] 24)).alloc (.cells #[.bool false, .slice none 0 0] 24)) := ⟨_, rfl⟩
    rw [← hW0] at hE
    have HW0 := Lib.hid hW0
    clear hW0
    go_enter Tryz.func75, Tryz.ntmps75
    go_upto_region 1 with (fail)
    rw [← HW0.out]
    go_wp2_with fail
    have hc := fromInt_v 1 W0 (by decide) (by decide)
    refine hc.mono ?_
    clear hc
    rintro e w1 ⟨so, Ao, no, co, rfl, ho, hb⟩
    replace hE := hE.step hb
    clear hb
    replace hE := hE.wv ho
    clear ho
    go_upto_region 2 with (fail)
    obtain ⟨g2, hg2⟩ : ∃ g2, g2 = w1.heap.size := ⟨_, rfl⟩
    have hl2_2 : w.heap.size < g2 := by rw [hg2]; exact (hE.here.1.1.2).lt
    have hl2_3 : w.heap.size + 1 < g2 := by rw [hg2]; exact (hE.here.1.2).lt
    replace hE := hE.blk 24 #[.bool so, .slice Ao no co] (g := g2) hg2.symm
    generalize w1.alloc (.cells #[.bool so, .slice Ao no co] 24) = W2 at hE ⊢
    rw [← hg2]
    clear hg2
    obtain ⟨k3, k4⟩ := (hE.here.1.1.1.2).c2
    obtain ⟨k5, k6⟩ := (hE.here.2).c2
    have k7 := (hE.here.1.1.1.1.2).2
    go_upto_region 8 with (fail)
    clear k3 k4 k5 k6 k7
    obtain ⟨g8, hg8⟩ : ∃ g8, g8 = W2.heap.size := ⟨_, rfl⟩
    have hl8_2 : w.heap.size < g8 := by rw [hg8]; exact (hE.here.1.1.1.2).lt
    have hl8_3 : w.heap.size + 1 < g8 := by rw [hg8]; exact (hE.here.1.1.2).lt
    have hl8_5 : g2 < g8 := by rw [hg8]; exact (hE.here.2).lt
    replace hE := hE.blk 24 #[.bool so, .slice Ao no co] (g := g8) hg8.symm
    generalize W2.alloc (.cells #[.bool so, .slice Ao no co] 24) = W8 at hE ⊢
    rw [← hg8]
    clear hg8
    have hGl : w.heap.size + 1 < g8 := by omega
    go_wp2_with fail
    go_loopw [8] (fun x wr => ∃ i : Nat, ∃ sv Av nv cv, i ≤ 64 ∧ x = .int .i64 ((i : Int) - 1) ∧ Env w (fun V => (((((True ∧ WV V a sa (some ⟨b, o, none⟩) 1) ∧ Blk 24 (w.heap.size) #[.bool sa, .slice (some ⟨b, o, none⟩) 1 ca] V) ∧ Blk 24 (w.heap.size + 1) #[.bool false, .slice none 0 0] V) ∧ WV V (a ^ (n / 2 ^ i)) sv Av nv) ∧ Blk 24 (g8) #[.bool sv, .slice Av nv cv] V)) wr) (fun x _ => (intOf x + 1).toNat)
    case atStart =>
      have hv := hE.here.1.1.2
      rw [show (1 : Int) = a ^ (n / 2 ^ 64) by rw [Nat.div_eq_of_lt (by omega), Int.pow_zero]] at hv
      exact ⟨64, so, Ao, no, co, Nat.le_refl _, rfl, ((((Env.again hE.bel).wv (hE.here.1.1.1.1.1.1.2)).blkI (hE.here.1.1.1.1.2)).blkI (hE.here.1.1.1.2)).wv hv |>.blkI (hE.here.2)⟩
    case round =>
      clear hE
      obtain ⟨i, sv, Av, nv, cv, hi, rfl, hE⟩ := hrel
      by_cases h0 : i = 0
      · subst h0
        have u1 : decide ((0 : Int) ≤ ((0 : Nat) : Int) - 1) = false := decide_eq_false (by omega)
        rw [Nat.pow_zero, Nat.div_one] at hE
        obtain ⟨k9, k10⟩ := (hE.here.2).c2
        have hRl : w.heap.size ≤ w.heap.size + 1 := by omega
        obtain ⟨WW, hWW, hB, hV, hBel⟩ := ret_whole hE hE.here.1.1.2 hRl hE.here.1.2 cv
        obtain ⟨x0, x1⟩ := (hE.here.1.1.2).c2
        obtain ⟨fz0, fz1⟩ := hE.here.1.1.2.f2
        have HWW := Lib.hid hWW
        clear hWW
        go_wp2_with fail
        clear x0 x1
        rw [← HWW.out]
        obtain ⟨y0, y1⟩ := hB.c2
        refine bodyPost_ret (v := .tuple #[.agg #[.bool sv, .slice Av nv cv], .bool true]) (by simp [results, Tryz.results75, go_sem, y0, y1]) rfl ?_
        exact ⟨sv, Av, nv, cv, rfl, hV, hBel⟩
      · obtain ⟨j, rfl⟩ : ∃ j, i = j + 1 := ⟨i - 1, by omega⟩
        have e1 : ((j + 1 : Nat) : Int) - 1 = (j : Int) := by omega
        rw [e1]
        clear e1 h0
        have hx := hl
        have l1 : ln b16 (a ^ (n / 2 ^ (j + 1))).natAbs ≤ 256 := Nat.le_trans (pow_le ha0 (Nat.div_le_self _ _)) hl
        have lj : ln b16 (a ^ (n / 2 ^ j)).natAbs ≤ 256 := Nat.le_trans (pow_le ha0 (Nat.div_le_self _ _)) hl
        have l2 : ln b16 (a ^ (n / 2 ^ (j + 1)) * a ^ (n / 2 ^ (j + 1))).natAbs ≤ 256 := by rw [← Int.pow_add]; exact Nat.le_trans (pow_le ha0 (show _ ≤ n by have := half_twice n j; have := Nat.div_le_self n (2 ^ j); omega)) hl
        have lv : nv ≤ 256 := by rw [(hE.here.1.2).len]; exact l1
        obtain ⟨bit, hbit⟩ : ∃ b, b = n / 2 ^ j % 2 := ⟨_, rfl⟩
        have HB := Lib.hid hbit
        have HL := Lib.hid (And.intro l1 (And.intro l2 lj))
        clear hx hbit l1 l2 lj
        obtain ⟨k11, k12⟩ := (hE.here.1.1.1.2).c2
        obtain ⟨k13, k14⟩ := (hE.here.2).c2
        go_wp2_with fail
        have hc := ftimes_v (ca := cv) (cb := cv) hE.here.1.2 hE.here.1.2 (Nat.le_trans lv (by decide)) (Nat.le_trans lv (by decide)) (Nat.le_trans HL.out.2.1 (by decide))
        refine hc.mono ?_
        clear hc
        clear k11 k12 k13 k14
        rintro e w15 ⟨sq, Aq, nq, cq, rfl, hq, hb⟩
        replace hE := hE.step hb
        clear hb
        replace hE := hE.wv hq
        clear hq
        have hgl16 : w.heap.size ≤ g8 := by omega
        obtain ⟨x16_0, x16_1⟩ := (hE.here.1.2).c2
        obtain ⟨f16_0, f16_1⟩ := hE.here.1.2.f2
        replace hE := (((((((Env.again (bel2 hE.bel hgl16 (.bool sq) (.slice Aq nq cq))).wv ((hE.here.1.1.1.1.1.2).sep2 hE.here.1.2 rfl (.bool sq) (.slice Aq nq cq) rfl)).blkI ((hE.here.1.1.1.1.2).far2 (R := g8) (by omega) (.bool sq) (.slice Aq nq cq))).blkI ((hE.here.1.1.1.2).far2 (R := g8) (by omega) (.bool sq) (.slice Aq nq cq))).wv ((hE.here.1.1.2).sep2 hE.here.1.2 rfl (.bool sq) (.slice Aq nq cq) rfl)).blkI ((hE.here.1.2).s2 (.bool sq) (.slice Aq nq cq))).wv ((hE.here.2).sep2 hE.here.1.2 rfl (.bool sq) (.slice Aq nq cq) rfl))
        go_upto_region 12 with (fail)
        clear x16_0 x16_1 f16_0 f16_1 hgl16
        generalize ((w15.setCell ⟨g8, 0, none⟩ (.bool sq)).setCell ⟨g8, 1, none⟩ (.slice Aq nq cq)) = W16 at hE ⊢
        have hb2 : bit = 0 ∨ bit = 1 := by have := HB.out; omega
        have e9 : (n : Int) / 2 ^ j = ((n / 2 ^ j : Nat) : Int) := by simp
        have HE9 := Lib.hid e9
        clear e9
        rcases hb2 with rfl | rfl
        · have hb9 := HB.out
          have hd9 := Nat.div_le_self n (2 ^ j)
          have o3 : (bits .and .u64 ((n : Int) / 2 ^ j) 1 == 1) = false := by
            rw [HE9.out]
            generalize n / 2 ^ j = X at hb9 hd9 ⊢
            rw [Lib.u64_and1 _ (by omega) (by omega)]
            rw [beq_eq_false_iff_ne]; omega
          clear hd9
          clear hb9
          go_upto_region 14 with (fail)
          have hv := hE.here.2
          rw [pow_step a n j HB.out.symm] at hv
          have ll : nq ≤ 256 := by rw [hv.len]; exact HL.out.2.2
          have t8 : decide (256 < (nq : Int)) = false := decide_eq_false (by omega)
          have t9 : decide (256 < nq) = false := decide_eq_false (by omega)
          have HV := Lib.hid hv
          clear hv ll
          obtain ⟨k17, k18⟩ := (hE.here.1.2).c2
          go_wp2_with fail
          clear k17 k18
          go_roundw
          case rel => exact ⟨j, sq, Aq, nq, cq, by omega, by go_num, ((((Env.again hE.bel).wv (hE.here.1.1.1.1.1.2)).blkI (hE.here.1.1.1.1.2)).blkI (hE.here.1.1.1.2)).wv HV.out |>.blkI (hE.here.1.2)⟩
          case measure => (simp [intOf]) <;> omega
        · have hb9 := HB.out
          have hd9 := Nat.div_le_self n (2 ^ j)
          have o3 : (bits .and .u64 ((n : Int) / 2 ^ j) 1 == 1) = true := by
            rw [HE9.out]
            generalize n / 2 ^ j = X at hb9 hd9 ⊢
            rw [Lib.u64_and1 _ (by omega) (by omega)]
            rw [beq_iff_eq]; omega
          clear hd9
          clear hb9
          have lq : nq ≤ 256 := by rw [(hE.here.2).len]; exact HL.out.2.1
          obtain ⟨k19, k20⟩ := (hE.here.1.1.1.1.2).c2
          obtain ⟨k21, k22⟩ := (hE.here.1.2).c2
          go_wp2_with fail
          have hc := ftimes_v (ca := cq) (cb := ca) hE.here.2 hE.here.1.1.1.1.1.2 (Nat.le_trans lq (by decide)) (by omega) (by rw [pow_step1 a n j HB.out.symm]; exact Nat.le_trans HL.out.2.2 (by decide))
          refine hc.mono ?_
          clear hc
          clear k19 k20 k21 k22
          rintro e w23 ⟨sp, Ap, np, cp, rfl, hp, hb⟩
          replace hE := hE.step hb
          clear hb
          replace hE := hE.wv hp
          clear hp
          have hgl24 : w.heap.size ≤ g8 := by omega
          obtain ⟨x24_0, x24_1⟩ := (hE.here.1.1.2).c2
          obtain ⟨f24_0, f24_1⟩ := hE.here.1.1.2.f2
          replace hE := ((((((((Env.again (bel2 hE.bel hgl24 (.bool sp) (.slice Ap np cp))).wv ((hE.here.1.1.1.1.1.1.2).sep2 hE.here.1.1.2 rfl (.bool sp) (.slice Ap np cp) rfl)).blkI ((hE.here.1.1.1.1.1.2).far2 (R := g8) (by omega) (.bool sp) (.slice Ap np cp))).blkI ((hE.here.1.1.1.1.2).far2 (R := g8) (by omega) (.bool sp) (.slice Ap np cp))).wv ((hE.here.1.1.1.2).sep2 hE.here.1.1.2 rfl (.bool sp) (.slice Ap np cp) rfl)).blkI ((hE.here.1.1.2).s2 (.bool sp) (.slice Ap np cp))).wv ((hE.here.1.2).sep2 hE.here.1.1.2 rfl (.bool sp) (.slice Ap np cp) rfl)).wv ((hE.here.2).sep2 hE.here.1.1.2 rfl (.bool sp) (.slice Ap np cp) rfl))
          go_upto_region 14 with (fail)
          clear x24_0 x24_1 f24_0 f24_1 hgl24
          generalize ((w23.setCell ⟨g8, 0, none⟩ (.bool sp)).setCell ⟨g8, 1, none⟩ (.slice Ap np cp)) = W24 at hE ⊢
          have hv := hE.here.2
          rw [pow_step1 a n j HB.out.symm] at hv
          have ll : np ≤ 256 := by rw [hv.len]; exact HL.out.2.2
          have t8 : decide (256 < (np : Int)) = false := decide_eq_false (by omega)
          have t9 : decide (256 < np) = false := decide_eq_false (by omega)
          have HV := Lib.hid hv
          clear hv ll
          obtain ⟨k25, k26⟩ := (hE.here.1.1.2).c2
          go_wp2_with fail
          clear k25 k26
          go_roundw
          case rel => exact ⟨j, sp, Ap, np, cp, by omega, by go_num, ((((Env.again hE.bel).wv (hE.here.1.1.1.1.1.1.2)).blkI (hE.here.1.1.1.1.1.2)).blkI (hE.here.1.1.1.1.2)).wv HV.out |>.blkI (hE.here.1.1.2)⟩
          case measure => (simp [intOf]) <;> omega
  · skip
    have t1 : ((na : Int) == 0) = false := beq_eq_false_iff_ne.2 (by omega)
    have t2 : (na == 0) = false := beq_eq_false_iff_ne.2 (by omega)
    have t3 : ((na : Int) == 1) = false := beq_eq_false_iff_ne.2 (by omega)
    have t4 : (na == 1) = false := beq_eq_false_iff_ne.2 (by omega)
    have hE := ((Env.start w).wv ha).blk 24 #[.bool sa, .slice Aa na ca] (g := w.heap.size) rfl
    have hE := hE.blk 24 #[.bool false, .slice none 0 0] (g := w.heap.size + 1) (by simp)
    obtain ⟨W0, hW0⟩ : ∃ W0, W0 = ((w.alloc (.cells #[.bool sa, .slice Aa na ca] 24)).alloc (.cells #[.bool false, .slice none 0 0] 24)) := ⟨_, rfl⟩
    rw [← hW0] at hE
    have HW0 := Lib.hid hW0
    clear hW0
    go_enter Tryz.func75, Tryz.ntmps75
    go_upto_region 1 with (fail)
    rw [← HW0.out]
    go_wp2_with fail
    have hc := fromInt_v 1 W0 (by decide) (by decide)
    refine hc.mono ?_
    clear hc
    rintro e w1 ⟨so, Ao, no, co, rfl, ho, hb⟩
    replace hE := hE.step hb
    clear hb
    replace hE := hE.wv ho
    clear ho
    go_upto_region 2 with (fail)
    obtain ⟨g2, hg2⟩ : ∃ g2, g2 = w1.heap.size := ⟨_, rfl⟩
    have hl2_1 : w.heap.size < g2 := by rw [hg2]; exact (hE.here.1.1.2).lt
    have hl2_2 : w.heap.size + 1 < g2 := by rw [hg2]; exact (hE.here.1.2).lt
    replace hE := hE.blk 24 #[.bool so, .slice Ao no co] (g := g2) hg2.symm
    generalize w1.alloc (.cells #[.bool so, .slice Ao no co] 24) = W2 at hE ⊢
    rw [← hg2]
    clear hg2
    obtain ⟨k3, k4⟩ := (hE.here.1.1.1.2).c2
    obtain ⟨k5, k6⟩ := (hE.here.2).c2
    go_upto_region 8 with (fail)
    clear k3 k4 k5 k6
    obtain ⟨g7, hg7⟩ : ∃ g7, g7 = W2.heap.size := ⟨_, rfl⟩
    have hl7_1 : w.heap.size < g7 := by rw [hg7]; exact (hE.here.1.1.1.2).lt
    have hl7_2 : w.heap.size + 1 < g7 := by rw [hg7]; exact (hE.here.1.1.2).lt
    have hl7_4 : g2 < g7 := by rw [hg7]; exact (hE.here.2).lt
    replace hE := hE.blk 24 #[.bool so, .slice Ao no co] (g := g7) hg7.symm
    generalize W2.alloc (.cells #[.bool so, .slice Ao no co] 24) = W7 at hE ⊢
    rw [← hg7]
    clear hg7
    have hGl : w.heap.size + 1 < g7 := by omega
    go_wp2_with fail
    go_loopw [8] (fun x wr => ∃ i : Nat, ∃ sv Av nv cv, i ≤ 64 ∧ x = .int .i64 ((i : Int) - 1) ∧ Env w (fun V => (((((True ∧ WV V a sa Aa na) ∧ Blk 24 (w.heap.size) #[.bool sa, .slice Aa na ca] V) ∧ Blk 24 (w.heap.size + 1) #[.bool false, .slice none 0 0] V) ∧ WV V (a ^ (n / 2 ^ i)) sv Av nv) ∧ Blk 24 (g7) #[.bool sv, .slice Av nv cv] V)) wr) (fun x _ => (intOf x + 1).toNat)
    case atStart =>
      have hv := hE.here.1.1.2
      rw [show (1 : Int) = a ^ (n / 2 ^ 64) by rw [Nat.div_eq_of_lt (by omega), Int.pow_zero]] at hv
      exact ⟨64, so, Ao, no, co, Nat.le_refl _, rfl, ((((Env.again hE.bel).wv (hE.here.1.1.1.1.1.2)).blkI (hE.here.1.1.1.1.2)).blkI (hE.here.1.1.1.2)).wv hv |>.blkI (hE.here.2)⟩
    case round =>
      clear hE
      obtain ⟨i, sv, Av, nv, cv, hi, rfl, hE⟩ := hrel
      by_cases h0 : i = 0
      · subst h0
        have u1 : decide ((0 : Int) ≤ ((0 : Nat) : Int) - 1) = false := decide_eq_false (by omega)
        rw [Nat.pow_zero, Nat.div_one] at hE
        obtain ⟨k8, k9⟩ := (hE.here.2).c2
        have hRl : w.heap.size ≤ w.heap.size + 1 := by omega
        obtain ⟨WW, hWW, hB, hV, hBel⟩ := ret_whole hE hE.here.1.1.2 hRl hE.here.1.2 cv
        obtain ⟨x0, x1⟩ := (hE.here.1.1.2).c2
        obtain ⟨fz0, fz1⟩ := hE.here.1.1.2.f2
        have HWW := Lib.hid hWW
        clear hWW
        go_wp2_with fail
        clear x0 x1
        rw [← HWW.out]
        obtain ⟨y0, y1⟩ := hB.c2
        refine bodyPost_ret (v := .tuple #[.agg #[.bool sv, .slice Av nv cv], .bool true]) (by simp [results, Tryz.results75, go_sem, y0, y1]) rfl ?_
        exact ⟨sv, Av, nv, cv, rfl, hV, hBel⟩
      · obtain ⟨j, rfl⟩ : ∃ j, i = j + 1 := ⟨i - 1, by omega⟩
        have e1 : ((j + 1 : Nat) : Int) - 1 = (j : Int) := by omega
        rw [e1]
        clear e1 h0
        have hx := hl
        have l1 : ln b16 (a ^ (n / 2 ^ (j + 1))).natAbs ≤ 256 := Nat.le_trans (pow_le ha0 (Nat.div_le_self _ _)) hl
        have lj : ln b16 (a ^ (n / 2 ^ j)).natAbs ≤ 256 := Nat.le_trans (pow_le ha0 (Nat.div_le_self _ _)) hl
        have l2 : ln b16 (a ^ (n / 2 ^ (j + 1)) * a ^ (n / 2 ^ (j + 1))).natAbs ≤ 256 := by rw [← Int.pow_add]; exact Nat.le_trans (pow_le ha0 (show _ ≤ n by have := half_twice n j; have := Nat.div_le_self n (2 ^ j); omega)) hl
        have lv : nv ≤ 256 := by rw [(hE.here.1.2).len]; exact l1
        obtain ⟨bit, hbit⟩ : ∃ b, b = n / 2 ^ j % 2 := ⟨_, rfl⟩
        have HB := Lib.hid hbit
        have HL := Lib.hid (And.intro l1 (And.intro l2 lj))
        clear hx hbit l1 l2 lj
        obtain ⟨k10, k11⟩ := (hE.here.1.1.1.2).c2
        obtain ⟨k12, k13⟩ := (hE.here.2).c2
        go_wp2_with fail
        have hc := ftimes_v (ca := cv) (cb := cv) hE.here.1.2 hE.here.1.2 (Nat.le_trans lv (by decide)) (Nat.le_trans lv (by decide)) (Nat.le_trans HL.out.2.1 (by decide))
        refine hc.mono ?_
        clear hc
        clear k10 k11 k12 k13
        rintro e w14 ⟨sq, Aq, nq, cq, rfl, hq, hb⟩
        replace hE := hE.step hb
        clear hb
        replace hE := hE.wv hq
        clear hq
        have hgl15 : w.heap.size ≤ g7 := by omega
        obtain ⟨x15_0, x15_1⟩ := (hE.here.1.2).c2
        obtain ⟨f15_0, f15_1⟩ := hE.here.1.2.f2
        replace hE := (((((((Env.again (bel2 hE.bel hgl15 (.bool sq) (.slice Aq nq cq))).wv ((hE.here.1.1.1.1.1.2).sep2 hE.here.1.2 rfl (.bool sq) (.slice Aq nq cq) rfl)).blkI ((hE.here.1.1.1.1.2).far2 (R := g7) (by omega) (.bool sq) (.slice Aq nq cq))).blkI ((hE.here.1.1.1.2).far2 (R := g7) (by omega) (.bool sq) (.slice Aq nq cq))).wv ((hE.here.1.1.2).sep2 hE.here.1.2 rfl (.bool sq) (.slice Aq nq cq) rfl)).blkI ((hE.here.1.2).s2 (.bool sq) (.slice Aq nq cq))).wv ((hE.here.2).sep2 hE.here.1.2 rfl (.bool sq) (.slice Aq nq cq) rfl))
        go_upto_region 12 with (fail)
        clear x15_0 x15_1 f15_0 f15_1 hgl15
        generalize ((w14.setCell ⟨g7, 0, none⟩ (.bool sq)).setCell ⟨g7, 1, none⟩ (.slice Aq nq cq)) = W15 at hE ⊢
        have hb2 : bit = 0 ∨ bit = 1 := by have := HB.out; omega
        have e9 : (n : Int) / 2 ^ j = ((n / 2 ^ j : Nat) : Int) := by simp
        have HE9 := Lib.hid e9
        clear e9
        rcases hb2 with rfl | rfl
        · have hb9 := HB.out
          have hd9 := Nat.div_le_self n (2 ^ j)
          have o3 : (bits .and .u64 ((n : Int) / 2 ^ j) 1 == 1) = false := by
            rw [HE9.out]
            generalize n / 2 ^ j = X at hb9 hd9 ⊢
            rw [Lib.u64_and1 _ (by omega) (by omega)]
            rw [beq_eq_false_iff_ne]; omega
          clear hd9
          clear hb9
          go_upto_region 14 with (fail)
          have hv := hE.here.2
          rw [pow_step a n j HB.out.symm] at hv
          have ll : nq ≤ 256 := by rw [hv.len]; exact HL.out.2.2
          have t8 : decide (256 < (nq : Int)) = false := decide_eq_false (by omega)
          have t9 : decide (256 < nq) = false := decide_eq_false (by omega)
          have HV := Lib.hid hv
          clear hv ll
          obtain ⟨k16, k17⟩ := (hE.here.1.2).c2
          go_wp2_with fail
          clear k16 k17
          go_roundw
          case rel => exact ⟨j, sq, Aq, nq, cq, by omega, by go_num, ((((Env.again hE.bel).wv (hE.here.1.1.1.1.1.2)).blkI (hE.here.1.1.1.1.2)).blkI (hE.here.1.1.1.2)).wv HV.out |>.blkI (hE.here.1.2)⟩
          case measure => (simp [intOf]) <;> omega
        · have hb9 := HB.out
          have hd9 := Nat.div_le_self n (2 ^ j)
          have o3 : (bits .and .u64 ((n : Int) / 2 ^ j) 1 == 1) = true := by
            rw [HE9.out]
            generalize n / 2 ^ j = X at hb9 hd9 ⊢
            rw [Lib.u64_and1 _ (by omega) (by omega)]
            rw [beq_iff_eq]; omega
          clear hd9
          clear hb9
          have lq : nq ≤ 256 := by rw [(hE.here.2).len]; exact HL.out.2.1
          obtain ⟨k18, k19⟩ := (hE.here.1.1.1.1.2).c2
          obtain ⟨k20, k21⟩ := (hE.here.1.2).c2
          go_wp2_with fail
          have hc := ftimes_v (ca := cq) (cb := ca) hE.here.2 hE.here.1.1.1.1.1.2 (Nat.le_trans lq (by decide)) (by omega) (by rw [pow_step1 a n j HB.out.symm]; exact Nat.le_trans HL.out.2.2 (by decide))
          refine hc.mono ?_
          clear hc
          clear k18 k19 k20 k21
          rintro e w22 ⟨sp, Ap, np, cp, rfl, hp, hb⟩
          replace hE := hE.step hb
          clear hb
          replace hE := hE.wv hp
          clear hp
          have hgl23 : w.heap.size ≤ g7 := by omega
          obtain ⟨x23_0, x23_1⟩ := (hE.here.1.1.2).c2
          obtain ⟨f23_0, f23_1⟩ := hE.here.1.1.2.f2
          replace hE := ((((((((Env.again (bel2 hE.bel hgl23 (.bool sp) (.slice Ap np cp))).wv ((hE.here.1.1.1.1.1.1.2).sep2 hE.here.1.1.2 rfl (.bool sp) (.slice Ap np cp) rfl)).blkI ((hE.here.1.1.1.1.1.2).far2 (R := g7) (by omega) (.bool sp) (.slice Ap np cp))).blkI ((hE.here.1.1.1.1.2).far2 (R := g7) (by omega) (.bool sp) (.slice Ap np cp))).wv ((hE.here.1.1.1.2).sep2 hE.here.1.1.2 rfl (.bool sp) (.slice Ap np cp) rfl)).blkI ((hE.here.1.1.2).s2 (.bool sp) (.slice Ap np cp))).wv ((hE.here.1.2).sep2 hE.here.1.1.2 rfl (.bool sp) (.slice Ap np cp) rfl)).wv ((hE.here.2).sep2 hE.here.1.1.2 rfl (.bool sp) (.slice Ap np cp) rfl))
          go_upto_region 14 with (fail)
          clear x23_0 x23_1 f23_0 f23_1 hgl23
          generalize ((w22.setCell ⟨g7, 0, none⟩ (.bool sp)).setCell ⟨g7, 1, none⟩ (.slice Ap np cp)) = W23 at hE ⊢
          have hv := hE.here.2
          rw [pow_step1 a n j HB.out.symm] at hv
          have ll : np ≤ 256 := by rw [hv.len]; exact HL.out.2.2
          have t8 : decide (256 < (np : Int)) = false := decide_eq_false (by omega)
          have t9 : decide (256 < np) = false := decide_eq_false (by omega)
          have HV := Lib.hid hv
          clear hv ll
          obtain ⟨k24, k25⟩ := (hE.here.1.1.2).c2
          go_wp2_with fail
          clear k24 k25
          go_roundw
          case rel => exact ⟨j, sp, Ap, np, cp, by omega, by go_num, ((((Env.again hE.bel).wv (hE.here.1.1.1.1.1.1.2)).blkI (hE.here.1.1.1.1.1.2)).blkI (hE.here.1.1.1.1.2)).wv HV.out |>.blkI (hE.here.1.1.2)⟩
          case measure => (simp [intOf]) <;> omega
theorem wv_neg1 {w : World} {s : Bool} {A : Option Addr} {n : Nat} (h : WV w 1 s A n) : WV w (-1) true A n := ⟨rfl, h.2.1, h.2.2⟩
theorem wv_pos1 {w : World} {s : Bool} {A : Option Addr} {n : Nat} (h : WV w 1 s A n) : WV w 1 false A n := ⟨rfl, h.2.1, h.2.2⟩
set_option linter.unusedSimpArgs false in
set_option maxRecDepth 100000 in
set_option maxHeartbeats 2000000 in
theorem fpower_zero {Aa : Option Addr} {ca : Nat} {w : World} (ha : WV w 0 false Aa 0) (n : Nat) (h0 : 0 < n) :
    Calls Tryz.prog 75 #[.agg #[.bool false, .slice Aa 0 ca], .int .u64 (n : Int)] w (WT 0 w) := by
  have u1 : decide (0 < (n : Int)) = true := decide_eq_true (by omega)
  have u2 : decide (0 < n) = true := decide_eq_true h0
  have hE := ((Env.start w).wv ha).blk 24 #[.bool false, .slice Aa 0 ca] (g := w.heap.size) rfl
  have hE := hE.blk 24 #[.bool false, .slice none 0 0] (g := w.heap.size + 1) (by simp)
  obtain ⟨W0, hW0⟩ : ∃ W0, W0 = ((w.alloc (.cells #[.bool false, .slice Aa 0 ca] 24)).alloc (.cells #[.bool false, .slice none 0 0] 24)) := ⟨_, rfl⟩
  rw [← hW0] at hE
  have HW0 := Lib.hid hW0
  clear hW0
  go_enter Tryz.func75, Tryz.ntmps75
  go_upto_region 1 with (fail)
  rw [← HW0.out]
  go_wp2_with fail
  have hc := fromInt_v 1 W0 (by decide) (by decide)
  refine hc.mono ?_
  clear hc
  rintro e w1 ⟨so, Ao, no, co, rfl, ho, hb⟩
  replace hE := hE.step hb
  clear hb
  replace hE := hE.wv ho
  clear ho
  go_upto_region 2 with (fail)
  obtain ⟨g2, hg2⟩ : ∃ g2, g2 = w1.heap.size := ⟨_, rfl⟩
  have hl2_1 : w.heap.size < g2 := by rw [hg2]; exact (hE.here.1.1.2).lt
  have hl2_2 : w.heap.size + 1 < g2 := by rw [hg2]; exact (hE.here.1.2).lt
  replace hE := hE.blk 24 #[.bool so, .slice Ao no co] (g := g2) hg2.symm
  generalize w1.alloc (.cells #[.bool so, .slice Ao no co] 24) = W2 at hE ⊢
  rw [← hg2]
  clear hg2
  have hz := zero_wv W2
  replace hE := hE.wv hz
  clear hz
  obtain ⟨k3, k4⟩ := (hE.here.1.1.1.1.2).c2
  have hRl : w.heap.size ≤ w.heap.size + 1 := by omega
  obtain ⟨WW, hWW, hB, hV, hBel⟩ := ret_whole hE hE.here.1.1.1.2 hRl hE.here.2 0
  obtain ⟨x0, x1⟩ := (hE.here.1.1.1.2).c2
  obtain ⟨fz0, fz1⟩ := hE.here.1.1.1.2.f2
  have HWW := Lib.hid hWW
  clear hWW
  go_wp2_with fail
  clear x0 x1
  rw [← HWW.out]
  obtain ⟨y0, y1⟩ := hB.c2
  refine bodyPost_ret (v := .tuple #[.agg #[.bool false, .slice none 0 0], .bool true]) (by simp [results, Tryz.results75, go_sem, y0, y1]) rfl ?_
  exact ⟨false, none, 0, 0, rfl, hV, hBel⟩
set_option linter.unusedSimpArgs false in
set_option maxRecDepth 100000 in
set_option maxHeartbeats 2000000 in
theorem fpower_00 {Aa : Option Addr} {ca : Nat} {w : World} (ha : WV w 0 false Aa 0) :
    Calls Tryz.prog 75 #[.agg #[.bool false, .slice Aa 0 ca], .int .u64 0] w (WT 1 w) := by
  have hE := ((Env.start w).wv ha).blk 24 #[.bool false, .slice Aa 0 ca] (g := w.heap.size) rfl
  have hE := hE.blk 24 #[.bool false, .slice none 0 0] (g := w.heap.size + 1) (by simp)
  obtain ⟨W0, hW0⟩ : ∃ W0, W0 = ((w.alloc (.cells #[.bool false, .slice Aa 0 ca] 24)).alloc (.cells #[.bool false, .slice none 0 0] 24)) := ⟨_, rfl⟩
  rw [← hW0] at hE
  have HW0 := Lib.hid hW0
  clear hW0
  go_enter Tryz.func75, Tryz.ntmps75
  go_upto_region 1 with (fail)
  rw [← HW0.out]
  go_wp2_with fail
  have hc := fromInt_v 1 W0 (by decide) (by decide)
  refine hc.mono ?_
  clear hc
  rintro e w1 ⟨so, Ao, no, co, rfl, ho, hb⟩
  replace hE := hE.step hb
  clear hb
  replace hE := hE.wv ho
  clear ho
  go_upto_region 2 with (fail)
  obtain ⟨g2, hg2⟩ : ∃ g2, g2 = w1.heap.size := ⟨_, rfl⟩
  have hl2_1 : w.heap.size < g2 := by rw [hg2]; exact (hE.here.1.1.2).lt
  have hl2_2 : w.heap.size + 1 < g2 := by rw [hg2]; exact (hE.here.1.2).lt
  replace hE := hE.blk 24 #[.bool so, .slice Ao no co] (g := g2) hg2.symm
  generalize w1.alloc (.cells #[.bool so, .slice Ao no co] 24) = W2 at hE ⊢
  rw [← hg2]
  clear hg2
  have hgl : w.heap.size ≤ g2 := by omega
  have hF := ((hE.here.1.2).sep (i := 0) (hE.here.2) rfl (.bool false))
  have hF2 := wv_pos1 hF
  have hBk : Blk 24 g2 #[.bool false, .slice Ao no co] (W2.setCell ⟨g2, 0, none⟩ (.bool false)) := by simpa using (hE.here.2).set_ 0 (.bool false)
  have hE2 := (((Env.again (hE.bel.setCell (p := ⟨g2, 0, none⟩) hgl (.bool false))).blkI ((hE.here.1.1.2).far (p := ⟨g2, 0, none⟩) (by simp; omega) (.bool false))).blkI hBk).wv hF2
  obtain ⟨k3, k4⟩ := (hE.here.1.1.1.2).c2
  obtain ⟨k5, k6⟩ := (hE.here.2).c2
  have z0 := (hE.here.2).frozen 0
  clear hF hF2 hBk hE
  go_upto_region 6 with (fail)
  clear k3 k4 k5 k6
  clear z0 hgl
  have hE := hE2
  clear hE2
  generalize W2.setCell ⟨g2, 0, none⟩ (.bool false) = v1 at hE ⊢
  obtain ⟨k7, k8⟩ := (hE.here.1.2).c2
  have hRl : w.heap.size ≤ w.heap.size + 1 := by omega
  obtain ⟨WW, hWW, hB, hV, hBel⟩ := ret_whole hE hE.here.1.1.2 hRl hE.here.2 co
  obtain ⟨x0, x1⟩ := (hE.here.1.1.2).c2
  obtain ⟨fz0, fz1⟩ := hE.here.1.1.2.f2
  have HWW := Lib.hid hWW
  clear hWW
  go_wp2_with fail
  clear x0 x1
  rw [← HWW.out]
  obtain ⟨y0, y1⟩ := hB.c2
  refine bodyPost_ret (v := .tuple #[.agg #[.bool false, .slice Ao no co], .bool true]) (by simp [results, Tryz.results75, go_sem, y0, y1]) rfl ?_
  exact ⟨false, Ao, no, co, rfl, hV, hBel⟩
set_option linter.unusedSimpArgs false in
set_option maxRecDepth 100000 in
set_option maxHeartbeats 2000000 in
theorem fpower_1 {Aa : Option Addr} {ca : Nat} {w : World} (ha : WV w 1 false Aa 1) (n : Nat) :
    Calls Tryz.prog 75 #[.agg #[.bool false, .slice Aa 1 ca], .int .u64 (n : Int)] w (WT 1 w) := by
  obtain ⟨b, o, rfl, hbl, hcell⟩ := limb_one ha
  have hcell2 : w.cell? ⟨b, o, none⟩ = some (.int .u16 1) := hcell
  clear hcell
  have hE := (((Env.start w).wv ha).at_ hbl hcell2).blk 24 #[.bool false, .slice (some ⟨b, o, none⟩) 1 ca] (g := w.heap.size) rfl
  have hE := hE.blk 24 #[.bool false, .slice none 0 0] (g := w.heap.size + 1) (by simp)
  obtain ⟨W0, hW0⟩ : ∃ W0, W0 = ((w.alloc (.cells #[.bool false, .slice (some ⟨b, o, none⟩) 1 ca] 24)).alloc (.cells #[.bool false, .slice none 0 0] 24)) := ⟨_, rfl⟩
  rw [← hW0] at hE
  have HW0 := Lib.hid hW0
  clear hW0
  go_enter Tryz.func75, Tryz.ntmps75
  go_upto_region 1 with (fail)
  rw [← HW0.out]
  go_wp2_with fail
  have hc := fromInt_v 1 W0 (by decide) (by decide)
  refine hc.mono ?_
  clear hc
  rintro e w1 ⟨so, Ao, no, co, rfl, ho, hb⟩
  replace hE := hE.step hb
  clear hb
  replace hE := hE.wv ho
  clear ho
  go_upto_region 2 with (fail)
  obtain ⟨g2, hg2⟩ : ∃ g2, g2 = w1.heap.size := ⟨_, rfl⟩
  have hl2_2 : w.heap.size < g2 := by rw [hg2]; exact (hE.here.1.1.2).lt
  have hl2_3 : w.heap.size + 1 < g2 := by rw [hg2]; exact (hE.here.1.2).lt
  replace hE := hE.blk 24 #[.bool so, .slice Ao no co] (g := g2) hg2.symm
  generalize w1.alloc (.cells #[.bool so, .slice Ao no co] 24) = W2 at hE ⊢
  rw [← hg2]
  clear hg2
  have hgl : w.heap.size ≤ g2 := by omega
  have hF := ((hE.here.1.2).sep (i := 0) (hE.here.2) rfl (.bool false))
  have hF2 := wv_pos1 hF
  have hBk : Blk 24 g2 #[.bool false, .slice Ao no co] (W2.setCell ⟨g2, 0, none⟩ (.bool false)) := by simpa using (hE.here.2).set_ 0 (.bool false)
  have hE2 := (((Env.again (hE.bel.setCell (p := ⟨g2, 0, none⟩) hgl (.bool false))).blkI ((hE.here.1.1.2).far (p := ⟨g2, 0, none⟩) (by simp; omega) (.bool false))).blkI hBk).wv hF2
  obtain ⟨k3, k4⟩ := (hE.here.1.1.1.2).c2
  obtain ⟨k5, k6⟩ := (hE.here.2).c2
  have k7 := (hE.here.1.1.1.1.2).2
  have z0 := (hE.here.2).frozen 0
  clear hF hF2 hBk hE
  go_upto_region 6 with (fail)
  clear k3 k4 k5 k6 k7
  clear z0 hgl
  have hE := hE2
  clear hE2
  generalize W2.setCell ⟨g2, 0, none⟩ (.bool false) = v1 at hE ⊢
  obtain ⟨k8, k9⟩ := (hE.here.1.2).c2
  have hRl : w.heap.size ≤ w.heap.size + 1 := by omega
  obtain ⟨WW, hWW, hB, hV, hBel⟩ := ret_whole hE hE.here.1.1.2 hRl hE.here.2 co
  obtain ⟨x0, x1⟩ := (hE.here.1.1.2).c2
  obtain ⟨fz0, fz1⟩ := hE.here.1.1.2.f2
  have HWW := Lib.hid hWW
  clear hWW
  go_wp2_with fail
  clear x0 x1
  rw [← HWW.out]
  obtain ⟨y0, y1⟩ := hB.c2
  refine bodyPost_ret (v := .tuple #[.agg #[.bool false, .slice Ao no co], .bool true]) (by simp [results, Tryz.results75, go_sem, y0, y1]) rfl ?_
  exact ⟨false, Ao, no, co, rfl, hV, hBel⟩
set_option linter.unusedSimpArgs false in
set_option maxRecDepth 100000 in
set_option maxHeartbeats 2000000 in
theorem fpower_e {Aa : Option Addr} {ca : Nat} {w : World} (ha : WV w (-1) true Aa 1) (n : Nat) (hn : n % 2 = 0) :
    Calls Tryz.prog 75 #[.agg #[.bool true, .slice Aa 1 ca], .int .u64 (n : Int)] w (WT 1 w) := by
  obtain ⟨b, o, rfl, hbl, hcell⟩ := limb_one ha
  have hcell2 : w.cell? ⟨b, o, none⟩ = some (.int .u16 1) := hcell
  clear hcell
  have t1 : ((n : Int) % 2 == 1) = false := beq_eq_false_iff_ne.2 (by omega)
  have hE := (((Env.start w).wv ha).at_ hbl hcell2).blk 24 #[.bool true, .slice (some ⟨b, o, none⟩) 1 ca] (g := w.heap.size) rfl
  have hE := hE.blk 24 #[.bool false, .slice none 0 0] (g := w.heap.size + 1) (by simp)
  obtain ⟨W0, hW0⟩ : ∃ W0, W0 = ((w.alloc (.cells #[.bool true, .slice (some ⟨b, o, none⟩) 1 ca] 24)).alloc (.cells #[.bool false, .slice none 0 0] 24)) := ⟨_, rfl⟩
  rw [← hW0] at hE
  have HW0 := Lib.hid hW0
  clear hW0
  go_enter Tryz.func75, Tryz.ntmps75
  go_upto_region 1 with (fail)
  rw [← HW0.out]
  go_wp2_with fail
  have hc := fromInt_v 1 W0 (by decide) (by decide)
  refine hc.mono ?_
  clear hc
  rintro e w1 ⟨so, Ao, no, co, rfl, ho, hb⟩
  replace hE := hE.step hb
  clear hb
  replace hE := hE.wv ho
  clear ho
  go_upto_region 2 with (fail)
  obtain ⟨g2, hg2⟩ : ∃ g2, g2 = w1.heap.size := ⟨_, rfl⟩
  have hl2_2 : w.heap.size < g2 := by rw [hg2]; exact (hE.here.1.1.2).lt
  have hl2_3 : w.heap.size + 1 < g2 := by rw [hg2]; exact (hE.here.1.2).lt
  replace hE := hE.blk 24 #[.bool so, .slice Ao no co] (g := g2) hg2.symm
  generalize w1.alloc (.cells #[.bool so, .slice Ao no co] 24) = W2 at hE ⊢
  rw [← hg2]
  clear hg2
  have hgl : w.heap.size ≤ g2 := by omega
  have hF := ((hE.here.1.2).sep (i := 0) (hE.here.2) rfl (.bool false))
  have hF2 := wv_pos1 hF
  have hBk : Blk 24 g2 #[.bool false, .slice Ao no co] (W2.setCell ⟨g2, 0, none⟩ (.bool false)) := by simpa using (hE.here.2).set_ 0 (.bool false)
  have hE2 := (((Env.again (hE.bel.setCell (p := ⟨g2, 0, none⟩) hgl (.bool false))).blkI ((hE.here.1.1.2).far (p := ⟨g2, 0, none⟩) (by simp; omega) (.bool false))).blkI hBk).wv hF2
  obtain ⟨k3, k4⟩ := (hE.here.1.1.1.2).c2
  obtain ⟨k5, k6⟩ := (hE.here.2).c2
  have k7 := (hE.here.1.1.1.1.2).2
  have z0 := (hE.here.2).frozen 0
  clear hF hF2 hBk hE
  go_upto_region 6 with (fail)
  clear k3 k4 k5 k6 k7
  clear z0 hgl
  have hE := hE2
  clear hE2
  generalize W2.setCell ⟨g2, 0, none⟩ (.bool false) = v1 at hE ⊢
  obtain ⟨k8, k9⟩ := (hE.here.1.2).c2
  have hRl : w.heap.size ≤ w.heap.size + 1 := by omega
  obtain ⟨WW, hWW, hB, hV, hBel⟩ := ret_whole hE hE.here.1.1.2 hRl hE.here.2 co
  obtain ⟨x0, x1⟩ := (hE.here.1.1.2).c2
  obtain ⟨fz0, fz1⟩ := hE.here.1.1.2.f2
  have HWW := Lib.hid hWW
  clear hWW
  go_wp2_with fail
  clear x0 x1
  rw [← HWW.out]
  obtain ⟨y0, y1⟩ := hB.c2
  refine bodyPost_ret (v := .tuple #[.agg #[.bool false, .slice Ao no co], .bool true]) (by simp [results, Tryz.results75, go_sem, y0, y1]) rfl ?_
  exact ⟨false, Ao, no, co, rfl, hV, hBel⟩
set_option linter.unusedSimpArgs false in
set_option maxRecDepth 100000 in
set_option maxHeartbeats 2000000 in
theorem fpower_o {Aa : Option Addr} {ca : Nat} {w : World} (ha : WV w (-1) true Aa 1) (n : Nat) (hn : n % 2 = 1) :
    Calls Tryz.prog 75 #[.agg #[.bool true, .slice Aa 1 ca], .int .u64 (n : Int)] w (WT (-1) w) := by
  obtain ⟨b, o, rfl, hbl, hcell⟩ := limb_one ha
  have hcell2 : w.cell? ⟨b, o, none⟩ = some (.int .u16 1) := hcell
  clear hcell
  have t1 : ((n : Int) % 2 == 1) = true := beq_iff_eq.2 (by omega)
  have hE := (((Env.start w).wv ha).at_ hbl hcell2).blk 24 #[.bool true, .slice (some ⟨b, o, none⟩) 1 ca] (g := w.heap.size) rfl
  have hE := hE.blk 24 #[.bool false, .slice none 0 0] (g := w.heap.size + 1) (by simp)
  obtain ⟨W0, hW0⟩ : ∃ W0, W0 = ((w.alloc (.cells #[.bool true, .slice (some ⟨b, o, none⟩) 1 ca] 24)).alloc (.cells #[.bool false, .slice none 0 0] 24)) := ⟨_, rfl⟩
  rw [← hW0] at hE
  have HW0 := Lib.hid hW0
  clear hW0
  go_enter Tryz.func75, Tryz.ntmps75
  go_upto_region 1 with (fail)
  rw [← HW0.out]
  go_wp2_with fail
  have hc := fromInt_v 1 W0 (by decide) (by decide)
  refine hc.mono ?_
  clear hc
  rintro e w1 ⟨so, Ao, no, co, rfl, ho, hb⟩
  replace hE := hE.step hb
  clear hb
  replace hE := hE.wv ho
  clear ho
  go_upto_region 2 with (fail)
  obtain ⟨g2, hg2⟩ : ∃ g2, g2 = w1.heap.size := ⟨_, rfl⟩
  have hl2_2 : w.heap.size < g2 := by rw [hg2]; exact (hE.here.1.1.2).lt
  have hl2_3 : w.heap.size + 1 < g2 := by rw [hg2]; exact (hE.here.1.2).lt
  replace hE := hE.blk 24 #[.bool so, .slice Ao no co] (g := g2) hg2.symm
  generalize w1.alloc (.cells #[.bool so, .slice Ao no co] 24) = W2 at hE ⊢
  rw [← hg2]
  clear hg2
  have hgl : w.heap.size ≤ g2 := by omega
  have hF := ((hE.here.1.2).sep (i := 0) (hE.here.2) rfl (.bool true))
  have hF2 := wv_neg1 hF
  have hBk : Blk 24 g2 #[.bool true, .slice Ao no co] (W2.setCell ⟨g2, 0, none⟩ (.bool true)) := by simpa using (hE.here.2).set_ 0 (.bool true)
  have hE2 := (((Env.again (hE.bel.setCell (p := ⟨g2, 0, none⟩) hgl (.bool true))).blkI ((hE.here.1.1.2).far (p := ⟨g2, 0, none⟩) (by simp; omega) (.bool true))).blkI hBk).wv hF2
  obtain ⟨k3, k4⟩ := (hE.here.1.1.1.2).c2
  obtain ⟨k5, k6⟩ := (hE.here.2).c2
  have k7 := (hE.here.1.1.1.1.2).2
  have z0 := (hE.here.2).frozen 0
  clear hF hF2 hBk hE
  go_upto_region 6 with (fail)
  clear k3 k4 k5 k6 k7
  clear z0 hgl
  have hE := hE2
  clear hE2
  generalize W2.setCell ⟨g2, 0, none⟩ (.bool true) = v1 at hE ⊢
  obtain ⟨k8, k9⟩ := (hE.here.1.2).c2
  have hRl : w.heap.size ≤ w.heap.size + 1 := by omega
  obtain ⟨WW, hWW, hB, hV, hBel⟩ := ret_whole hE hE.here.1.1.2 hRl hE.here.2 co
  obtain ⟨x0, x1⟩ := (hE.here.1.1.2).c2
  obtain ⟨fz0, fz1⟩ := hE.here.1.1.2.f2
  have HWW := Lib.hid hWW
  clear hWW
  go_wp2_with fail
  clear x0 x1
  rw [← HWW.out]
  obtain ⟨y0, y1⟩ := hB.c2
  refine bodyPost_ret (v := .tuple #[.agg #[.bool true, .slice Ao no co], .bool true]) (by simp [results, Tryz.results75, go_sem, y0, y1]) rfl ?_
  exact ⟨true, Ao, no, co, rfl, hV, hBel⟩
/-- power: a to the power n, where it is not too long. -/
theorem fpower_v {a : Int} {sa : Bool} {Aa : Option Addr} {na ca : Nat} {w : World} (ha : WV w a sa Aa na) (n : Nat) (hn : n ≤ 18446744073709551615) (hl : ln b16 (a ^ n).natAbs ≤ 256) (la : na ≤ 256) :
    Calls Tryz.prog 75 #[.agg #[.bool sa, .slice Aa na ca], .int .u64 (n : Int)] w (WT (a ^ n) w) := by
  by_cases h0 : a = 0
  · subst h0
    obtain rfl : na = 0 := by rw [ha.len]; exact ln_zero
    obtain rfl : sa = false := ha.sgn
    rcases Nat.eq_zero_or_pos n with rfl | hp
    · exact fpower_00 ha
    · rw [Int.zero_pow (by omega)]
      exact fpower_zero ha n hp
  · by_cases h1 : a = 1
    · subst h1
      obtain rfl : na = 1 := by rw [ha.len]; decide
      obtain rfl : sa = false := ha.sgn
      rw [Int.one_pow]
      exact fpower_1 ha n
    · by_cases h2 : a = -1
      · subst h2
        obtain rfl : na = 1 := by rw [ha.len]; decide
        obtain rfl : sa = true := ha.sgn
        have e1 : ∀ m : Nat, (-1 : Int) ^ (2 * m) = 1 := fun m => by rw [Int.pow_mul]; exact Int.one_pow
        rcases Nat.mod_two_eq_zero_or_one n with h | h
        · have e2 : (-1 : Int) ^ n = 1 := by rw [show n = 2 * (n / 2) by omega]; exact e1 _
          rw [e2]
          exact fpower_e ha n h
        · have e2 : (-1 : Int) ^ n = -1 := by rw [show n = 2 * (n / 2) + 1 by omega, Int.pow_succ, e1]; rfl
          rw [e2]
          exact fpower_o ha n h
      · exact fpower_big ha n hn (by omega) hl la
end Go.Proofs.YtifikcemcflgjaaGreat
namespace Go.Proofs.YtifikcemcflgjaaGreat
open Go.RowKit

theorem fv_pow {w : World} {q : Rat} {n : Nat} {s t : Bool} {A B : Option Addr} {k m : Nat} (h1 : WV w (q.num ^ n) s A k) (h2 : WV w (((q.den : Nat) : Int) ^ n) t B m) : FV w (q ^ n) s A k t B m :=
  ⟨by rw [Rat.num_pow]; exact h1, by rw [Rat.den_pow, Int.natCast_pow]; exact h2⟩
theorem fl_pow {q : Rat} {n : Nat} (h : fl (q ^ n) ≤ 256) : ln b16 (q.num ^ n).natAbs ≤ 256 ∧ ln b16 (((q.den : Nat) : Int) ^ n).natAbs ≤ 256 := by
  obtain ⟨h1, h2⟩ := fl_le.1 h
  rw [Rat.num_pow] at h1
  rw [Rat.den_pow] at h2
  exact ⟨h1, by rw [← Int.natCast_pow, Int.natAbs_natCast]; exact h2⟩
theorem inv_low (a : Rat) : Rat.divInt (a.den : Int) a.num = a⁻¹ := (Rat.inv_def a).symm
set_option linter.unusedSimpArgs false in
set_option maxRecDepth 100000 in
set_option maxHeartbeats 4000000 in
theorem fpow_pos {a : Rat} {sa ta : Bool} {Aa Ba : Option Addr} {na ca ma da : Nat} {w : World} (ha : FV w a sa Aa na ta Ba ma) (la : fl a ≤ 256) (n : Nat) (hn : n ≤ 9223372036854775807) (lr : fl (a ^ n) ≤ 256) :
    Calls Tryz.prog 20 #[.agg #[.bool sa, .slice Aa na ca, .bool ta, .slice Ba ma da], .int .i64 (n : Int)] w (FOK (a ^ n) w) := by
  have t1 : decide ((n : Int) < 0) = false := decide_eq_false (by omega)
  have t2 : ¬ (n : Int) < 0 := by omega
  have o1 : IntKind.u64.wrap (n : Int) = (n : Int) := by rw [IntKind.wrap_u64]; omega
  obtain ⟨hk1, hk2⟩ := ha.ln la
  obtain ⟨hp1, hp2⟩ := fl_pow lr
  have hn64 : n ≤ 18446744073709551615 := by omega
  have hE := ((Env.start w).fv ha).blk 26 #[.bool sa, .slice Aa na ca, .bool ta, .slice Ba ma da] (g := w.heap.size) rfl
  have hE := hE.blk 26 #[.bool false, .slice none 0 0, .bool false, .slice none 0 0] (g := w.heap.size + 1) (by simp)
  obtain ⟨W0, hW0⟩ : ∃ W0, W0 = ((w.alloc (.cells #[.bool sa, .slice Aa na ca, .bool ta, .slice Ba ma da] 26)).alloc (.cells #[.bool false, .slice none 0 0, .bool false, .slice none 0 0] 26)) := ⟨_, rfl⟩
  rw [← hW0] at hE
  have HW0 := Lib.hid hW0
  clear hW0
  go_enter Tryz.func20, Tryz.ntmps20
  go_upto_region 1 with (fail)
  rw [← HW0.out]
  obtain ⟨k1, k2, k3, k4⟩ := (hE.here.1.2).c4
  go_wp2_with fail
  have hc := fvalid_v0 (c := ca) (d := da) hE.here.1.1.2 la
  refine hc.mono ?_
  clear hc
  clear k1 k2 k3 k4
  rintro e w5 ⟨rfl, hb⟩
  replace hE := hE.step hb
  clear hb
  obtain ⟨k6, k7, k8, k9⟩ := (hE.here.1.2).c4
  go_wp2_with fail
  have hc := fpower_v (ca := ca) (hE.here.1.1.2).1 n hn64 hp1 (hk1)
  refine hc.mono ?_
  clear hc
  clear k6 k7 k8 k9
  rintro e w10 ⟨sx, Ax, nx, cx, rfl, hx, hb⟩
  replace hE := hE.step hb
  clear hb
  replace hE := hE.wv hx
  clear hx
  go_upto_region 10 with (fail)
  obtain ⟨g11, hg11⟩ : ∃ g11, g11 = w10.heap.size := ⟨_, rfl⟩
  have hl11_1 : w.heap.size < g11 := by rw [hg11]; exact (hE.here.1.1.2).lt
  have hl11_2 : w.heap.size + 1 < g11 := by rw [hg11]; exact (hE.here.1.2).lt
  replace hE := hE.blk 24 #[.bool sx, .slice Ax nx cx] (g := g11) hg11.symm
  generalize w10.alloc (.cells #[.bool sx, .slice Ax nx cx] 24) = W11 at hE ⊢
  rw [← hg11]
  clear hg11
  obtain ⟨k12, k13, k14, k15⟩ := (hE.here.1.1.1.2).c4
  go_wp2_with fail
  have hc := fpower_v (ca := da) (hE.here.1.1.1.1.2).2 n hn64 hp2 (hk2)
  refine hc.mono ?_
  clear hc
  clear k12 k13 k14 k15
  rintro e w16 ⟨sy, Ay, ny, cy, rfl, hy, hb⟩
  replace hE := hE.step hb
  clear hb
  replace hE := hE.wv hy
  clear hy
  go_upto_region 11 with (fail)
  obtain ⟨g17, hg17⟩ : ∃ g17, g17 = w16.heap.size := ⟨_, rfl⟩
  have hl17_1 : w.heap.size < g17 := by rw [hg17]; exact (hE.here.1.1.1.1.2).lt
  have hl17_2 : w.heap.size + 1 < g17 := by rw [hg17]; exact (hE.here.1.1.1.2).lt
  have hl17_4 : g11 < g17 := by rw [hg17]; exact (hE.here.1.2).lt
  replace hE := hE.blk 24 #[.bool sy, .slice Ay ny cy] (g := g17) hg17.symm
  generalize w16.alloc (.cells #[.bool sy, .slice Ay ny cy] 24) = W17 at hE ⊢
  rw [← hg17]
  clear hg17
  have hfv := fv_pow (q := a) (hE.here.1.1.1.2) (hE.here.1.2)
  replace hE := hE.fv hfv
  clear hfv
  obtain ⟨k18, k19⟩ := (hE.here.1.1.1.2).c2
  obtain ⟨k20, k21⟩ := (hE.here.1.2).c2
  have hRl : w.heap.size ≤ w.heap.size + 1 := by omega
  obtain ⟨WW, hWW, hB, hV, hBel⟩ := ret_frac hE hE.here.1.1.1.1.1.2 hRl hE.here.2 cx cy
  obtain ⟨x0, x1, x2, x3⟩ := (hE.here.1.1.1.1.1.2).c4
  obtain ⟨fz0, fz1, fz2, fz3⟩ := hE.here.1.1.1.1.1.2.f4
  have HWW := Lib.hid hWW
  clear hWW
  go_wp2_with fail
  clear x0 x1 x2 x3
  rw [← HWW.out]
  obtain ⟨y0, y1, y2, y3⟩ := hB.c4
  refine bodyPost_ret (v := .tuple #[.agg #[.bool sx, .slice Ax nx cx, .bool sy, .slice Ay ny cy], .int .i64 0]) (by simp [results, Tryz.results20, go_sem, y0, y1, y2, y3]) rfl ?_
  exact ⟨sx, Ax, nx, cx, sy, Ay, ny, cy, rfl, hV, hBel⟩
set_option linter.unusedSimpArgs false in
set_option maxRecDepth 100000 in
set_option maxHeartbeats 4000000 in
theorem fpow_neg {a : Rat} {sa ta : Bool} {Aa Ba : Option Addr} {na ca ma da : Nat} {w : World} (ha : FV w a sa Aa na ta Ba ma) (la : fl a ≤ 256) (ha0 : a.num ≠ 0) (li : fl a⁻¹ ≤ 256) (n : Nat) (h1n : 1 ≤ n) (hn : n ≤ 9223372036854775808) (lr : fl (a⁻¹ ^ n) ≤ 256) :
    Calls Tryz.prog 20 #[.agg #[.bool sa, .slice Aa na ca, .bool ta, .slice Ba ma da], .int .i64 (-(n : Int))] w (FOK (a⁻¹ ^ n) w) := by
  have t1 : decide (-(n : Int) < 0) = true := decide_eq_true (by omega)
  have t2 : -(n : Int) < 0 := by omega
  have o1 : IntKind.u64.wrap (-(n : Int)) = 18446744073709551616 - (n : Int) := by rw [IntKind.wrap_u64]; omega
  have o2 : IntKind.u64.wrap (-(18446744073709551616 - (n : Int))) = (n : Int) := by rw [IntKind.wrap_u64]; omega
  have o3 : IntKind.u64.wrap ((n : Int) - 18446744073709551616) = (n : Int) := by rw [IntKind.wrap_u64]; omega
  have hfd : ∀ (s t : Bool) (A B : Option Addr) (p q p2 q2 : Nat) (W : World), (Instr.field 65 (.agg #[.bool s, .slice A p q, .bool t, .slice B p2 q2]) 0).run Tryz.prog W = .ok (.agg #[.bool s, .slice A p q, .bool t, .slice B p2 q2]) W := fun _ _ _ _ _ _ _ _ _ => by kernel_rfl
  obtain ⟨ka1, ka2⟩ := ha.ln la
  obtain ⟨hp1, hp2⟩ := fl_pow lr
  have hn64 : n ≤ 18446744073709551615 := by omega
  have hE := ((Env.start w).fv ha).blk 26 #[.bool sa, .slice Aa na ca, .bool ta, .slice Ba ma da] (g := w.heap.size) rfl
  have hE := hE.blk 26 #[.bool false, .slice none 0 0, .bool false, .slice none 0 0] (g := w.heap.size + 1) (by simp)
  obtain ⟨W0, hW0⟩ : ∃ W0, W0 = ((w.alloc (.cells #[.bool sa, .slice Aa na ca, .bool ta, .slice Ba ma da] 26)).alloc (.cells #[.bool false, .slice none 0 0, .bool false, .slice none 0 0] 26)) := ⟨_, rfl⟩
  rw [← hW0] at hE
  have HW0 := Lib.hid hW0
  clear hW0
  go_enter Tryz.func20, Tryz.ntmps20
  go_upto_region 1 with (fail)
  rw [← HW0.out]
  obtain ⟨k1, k2, k3, k4⟩ := (hE.here.1.2).c4
  go_wp2_with fail
  have hc := fvalid_v0 (c := ca) (d := da) hE.here.1.1.2 la
  refine hc.mono ?_
  clear hc
  clear k1 k2 k3 k4
  rintro e w5 ⟨rfl, hb⟩
  replace hE := hE.step hb
  clear hb
  obtain ⟨k6, k7, k8, k9⟩ := (hE.here.1.2).c4
  go_wp2_with fail
  have hc := ftzero_v (c := ca) (d := da) hE.here.1.1.2 false (decide_eq_false ha0)
  refine hc.mono ?_
  clear hc
  clear k6 k7 k8 k9
  rintro e w10 ⟨rfl, hb⟩
  replace hE := hE.step hb
  clear hb
  obtain ⟨k11, k12, k13, k14⟩ := (hE.here.1.2).c4
  go_wp2_with fail
  have hc := flowest_v (ca := da) (cb := ca) (hE.here.1.1.2).2 (hE.here.1.1.2).1 (Nat.le_trans ka2 (by decide)) (Nat.le_trans ka1 (by decide)) ha0
  rw [inv_low] at hc
  refine hc.mono ?_
  clear hc
  clear k11 k12 k13 k14
  rintro e w9 ⟨sf, Af, nf, cf, tf, Bf, mf, df, rfl, hf, hb⟩
  replace hE := hE.step hb
  clear hb
  replace hE := hE.fv hf
  clear hf
  obtain ⟨hk1, hk2⟩ := (hE.here.2).ln li
  have hgl15 : w.heap.size ≤ w.heap.size := by omega
  obtain ⟨x15_0, x15_1, x15_2, x15_3⟩ := (hE.here.1.1.2).c4
  obtain ⟨f15_0, f15_1, f15_2, f15_3⟩ := hE.here.1.1.2.f4
  replace hE := (((((Env.again (bel4 hE.bel hgl15 (.bool sf) (.slice Af nf cf) (.bool tf) (.slice Bf mf df))).fv ((hE.here.1.1.1.2).sep4 hE.here.1.1.2 rfl (.bool sf) (.slice Af nf cf) (.bool tf) (.slice Bf mf df) rfl rfl rfl)).blkI ((hE.here.1.1.2).s4 (.bool sf) (.slice Af nf cf) (.bool tf) (.slice Bf mf df))).blkI ((hE.here.1.2).far4 (R := w.heap.size) (by omega) (.bool sf) (.slice Af nf cf) (.bool tf) (.slice Bf mf df))).fv ((hE.here.2).sep4 hE.here.1.1.2 rfl (.bool sf) (.slice Af nf cf) (.bool tf) (.slice Bf mf df) rfl rfl rfl))
  go_upto_region 9 with (fail)
  clear x15_0 x15_1 x15_2 x15_3 f15_0 f15_1 f15_2 f15_3 hgl15
  generalize ((((w9.setCell ⟨w.heap.size, 0, none⟩ (.bool sf)).setCell ⟨w.heap.size, 1, none⟩ (.slice Af nf cf)).setCell ⟨w.heap.size, 2, none⟩ (.bool tf)).setCell ⟨w.heap.size, 3, none⟩ (.slice Bf mf df)) = W15 at hE ⊢
  obtain ⟨k16, k17, k18, k19⟩ := (hE.here.1.1.2).c4
  go_wp2_with fail
  have hc := fpower_v (ca := cf) (hE.here.2).1 n hn64 hp1 (hk1)
  refine hc.mono ?_
  clear hc
  clear k16 k17 k18 k19
  rintro e w20 ⟨sx, Ax, nx, cx, rfl, hx, hb⟩
  replace hE := hE.step hb
  clear hb
  replace hE := hE.wv hx
  clear hx
  go_upto_region 10 with (fail)
  obtain ⟨g21, hg21⟩ : ∃ g21, g21 = w20.heap.size := ⟨_, rfl⟩
  have hl21_1 : w.heap.size < g21 := by rw [hg21]; exact (hE.here.1.1.1.2).lt
  have hl21_2 : w.heap.size + 1 < g21 := by rw [hg21]; exact (hE.here.1.1.2).lt
  replace hE := hE.blk 24 #[.bool sx, .slice Ax nx cx] (g := g21) hg21.symm
  generalize w20.alloc (.cells #[.bool sx, .slice Ax nx cx] 24) = W21 at hE ⊢
  rw [← hg21]
  clear hg21
  obtain ⟨k22, k23, k24, k25⟩ := (hE.here.1.1.1.1.2).c4
  go_wp2_with fail
  have hc := fpower_v (ca := df) (hE.here.1.1.2).2 n hn64 hp2 (hk2)
  refine hc.mono ?_
  clear hc
  clear k22 k23 k24 k25
  rintro e w26 ⟨sy, Ay, ny, cy, rfl, hy, hb⟩
  replace hE := hE.step hb
  clear hb
  replace hE := hE.wv hy
  clear hy
  go_upto_region 11 with (fail)
  obtain ⟨g27, hg27⟩ : ∃ g27, g27 = w26.heap.size := ⟨_, rfl⟩
  have hl27_1 : w.heap.size < g27 := by rw [hg27]; exact (hE.here.1.1.1.1.1.2).lt
  have hl27_2 : w.heap.size + 1 < g27 := by rw [hg27]; exact (hE.here.1.1.1.1.2).lt
  have hl27_5 : g21 < g27 := by rw [hg27]; exact (hE.here.1.2).lt
  replace hE := hE.blk 24 #[.bool sy, .slice Ay ny cy] (g := g27) hg27.symm
  generalize w26.alloc (.cells #[.bool sy, .slice Ay ny cy] 24) = W27 at hE ⊢
  rw [← hg27]
  clear hg27
  have hfv := fv_pow (q := a⁻¹) (hE.here.1.1.1.2) (hE.here.1.2)
  replace hE := hE.fv hfv
  clear hfv
  obtain ⟨k28, k29⟩ := (hE.here.1.1.1.2).c2
  obtain ⟨k30, k31⟩ := (hE.here.1.2).c2
  have hRl : w.heap.size ≤ w.heap.size + 1 := by omega
  obtain ⟨WW, hWW, hB, hV, hBel⟩ := ret_frac hE hE.here.1.1.1.1.1.1.2 hRl hE.here.2 cx cy
  obtain ⟨x0, x1, x2, x3⟩ := (hE.here.1.1.1.1.1.1.2).c4
  obtain ⟨fz0, fz1, fz2, fz3⟩ := hE.here.1.1.1.1.1.1.2.f4
  have HWW := Lib.hid hWW
  clear hWW
  go_wp2_with fail
  clear x0 x1 x2 x3
  rw [← HWW.out]
  obtain ⟨y0, y1, y2, y3⟩ := hB.c4
  refine bodyPost_ret (v := .tuple #[.agg #[.bool sx, .slice Ax nx cx, .bool sy, .slice Ay ny cy], .int .i64 0]) (by simp [results, Tryz.results20, go_sem, y0, y1, y2, y3]) rfl ?_
  exact ⟨sx, Ax, nx, cx, sy, Ay, ny, cy, rfl, hV, hBel⟩
end Go.Proofs.YtifikcemcflgjaaGreat
