/-
  Several texts in one: The walks of frac.result, FromInt, Same, Add, Sub, Mul and Cmp at fractions. The walks of frac.Cmp and of the two functions Same. The walks of the reference's one, Lowest and Quick. Lengths of a fraction and of its opposite. The walks of frac.Make, Div, Neg, Floor and Ceil.
-/
import Derived.Test.YtifikcemcflgjaaGreatDoorK1
import Derived.Test.YtifikcemcflgjaaGreatDoorK7
import Derived.Deep.CutRange
namespace Go.Proofs.YtifikcemcflgjaaGreatDoor
open Go.RowKit

/-- The call returned the fraction q and no error. -/
def FOK (q : Rat) (w : World) (e : Ending) (w' : World) : Prop := ∃ s A n c t B m d, e = .returned (.tuple #[.agg #[.bool s, .slice A n c, .bool t, .slice B m d], .int .i64 0]) ∧ FV w' q s A n t B m ∧ Below w.heap.size w w'
/-- The call returned a zero value and the error k. -/
def FErr (k : Int) (w : World) (e : Ending) (w' : World) : Prop := e = .returned (.tuple #[.agg #[.bool false, .slice none 0 0, .bool false, .slice none 0 0], .int .i64 k]) ∧ Below w.heap.size w w'
theorem long_of {w : World} {q : Rat} {s t : Bool} {A B : Option Addr} {n m : Nat} (h : FV w q s A n t B m) (r : Bool) (hq : decide (256 < fl q) = r) : (decide (256 < n) || decide (256 < m)) = r := by
  have h1 := h.1.len
  have h3 := h.2.len
  rw [Int.natAbs_natCast] at h3
  rw [← hq, Bool.eq_iff_iff, Bool.or_eq_true, decide_eq_true_iff, decide_eq_true_iff, decide_eq_true_iff]
  unfold fl
  omega
/-- A pair of zeros, as it lies in memory (no fraction's parts, but two numbers). -/
theorem zero_wv (w : World) : WV w 0 false none 0 := ⟨rfl, ln_zero.symm, fun h => absurd h (by rw [show (0 : Int).natAbs = 0 from rfl, ln_zero]; exact Nat.lt_irrefl 0)⟩
set_option linter.unusedSimpArgs false in
set_option maxRecDepth 100000 in
set_option maxHeartbeats 2000000 in
theorem fresult_ok {q : Rat} {s t : Bool} {A B : Option Addr} {n m c d : Nat} {w : World} (ha : FV w q s A n t B m) (hf : fl q ≤ 256) :
    Calls Tryz.prog 44 #[.agg #[.bool s, .slice A n c, .bool t, .slice B m d]] w (FOK q w) := by
  have hq := long_of ha false (decide_eq_false (by omega))
  have hE := ((Env.start w).fv ha).blk 63 #[.bool s, .slice A n c, .bool t, .slice B m d] (g := w.heap.size) rfl
  have hE := hE.blk 26 #[.bool false, .slice none 0 0, .bool false, .slice none 0 0] (g := w.heap.size + 1) (by simp)
  obtain ⟨W0, hW0⟩ : ∃ W0, W0 = ((w.alloc (.cells #[.bool s, .slice A n c, .bool t, .slice B m d] 63)).alloc (.cells #[.bool false, .slice none 0 0, .bool false, .slice none 0 0] 26)) := ⟨_, rfl⟩
  rw [← hW0] at hE
  have HW0 := Lib.hid hW0
  clear hW0
  go_enter Tryz.func44, Tryz.ntmps44
  go_upto_region 1 with (fail)
  rw [← HW0.out]
  obtain ⟨k1, k2, k3, k4⟩ := (hE.here.1.2).c4
  go_wp2_with fail
  have hc := flong_r s t A B n m c d W0 false hq
  refine hc.mono ?_
  clear hc
  clear k1 k2 k3 k4
  rintro e w5 ⟨rfl, hb⟩
  replace hE := hE.step hb
  clear hb
  obtain ⟨k6, k7, k8, k9⟩ := (hE.here.1.2).c4
  have hRl : w.heap.size ≤ w.heap.size + 1 := by omega
  obtain ⟨WW, hWW, hB, hV, hBel⟩ := ret_frac hE hE.here.2 hRl hE.here.1.1.2 c d
  obtain ⟨x0, x1, x2, x3⟩ := (hE.here.2).c4
  obtain ⟨fz0, fz1, fz2, fz3⟩ := hE.here.2.f4
  have HWW := Lib.hid hWW
  clear hWW
  go_wp2_with fail
  clear k6 k7 k8 k9
  rw [← HWW.out]
  obtain ⟨y0, y1, y2, y3⟩ := hB.c4
  refine bodyPost_ret (v := .tuple #[.agg #[.bool s, .slice A n c, .bool t, .slice B m d], .int .i64 0]) (by simp [results, Tryz.results44, go_sem, y0, y1, y2, y3]) rfl ?_
  exact ⟨s, A, n, c, t, B, m, d, rfl, hV, hBel⟩
theorem fromInt_v (z : Int) (w : World) (h1 : -9223372036854775808 ≤ z) (h2 : z ≤ 9223372036854775807) : Calls Tryz.prog 52 #[.int .i64 z] w (WR z w) :=
  (fromInt_any z w h1 h2).mono fun _ _ h => by obtain ⟨s, A, n, c, he, ho, hb⟩ := h.vi; exact ⟨s, A, n, c, he, ho.v, hb⟩
set_option linter.unusedSimpArgs false in
set_option maxRecDepth 100000 in
set_option maxHeartbeats 2000000 in
theorem ffromInt_v (z : Int) (w : World) (h1 : -9223372036854775808 ≤ z) (h2 : z ≤ 9223372036854775807) :
    Calls Tryz.prog 27 #[.int .i64 z] w (FR (z : Rat) w) := by
  have hE := Env.start w
  have hE := hE.blk 26 #[.bool false, .slice none 0 0, .bool false, .slice none 0 0] (g := w.heap.size) rfl
  obtain ⟨W0, hW0⟩ : ∃ W0, W0 = (w.alloc (.cells #[.bool false, .slice none 0 0, .bool false, .slice none 0 0] 26)) := ⟨_, rfl⟩
  rw [← hW0] at hE
  have HW0 := Lib.hid hW0
  clear hW0
  go_enter Tryz.func27, Tryz.ntmps27
  go_upto_region 1 with (fail)
  rw [← HW0.out]
  go_wp2_with fail
  have hc := fromInt_v z W0 h1 h2
  refine hc.mono ?_
  clear hc
  rintro e w1 ⟨sn, An, nn, cn, rfl, hn, hb⟩
  replace hE := hE.step hb
  clear hb
  replace hE := hE.wv hn
  clear hn
  go_wp2_with fail
  have hc := fromInt_v 1 w1 (by decide) (by decide)
  refine hc.mono ?_
  clear hc
  rintro e w2 ⟨sd, Ad, nd, cd, rfl, hd, hb⟩
  replace hE := hE.step hb
  clear hb
  replace hE := hE.wv hd
  clear hd
  have hfv : FV w2 (z : Rat) sn An nn sd Ad nd := ⟨hE.here.1.2, hE.here.2⟩
  replace hE := hE.fv hfv
  clear hfv
  have hRl : w.heap.size ≤ w.heap.size := by omega
  obtain ⟨WW, hWW, hB, hV, hBel⟩ := ret_frac hE hE.here.1.1.1.2 hRl hE.here.2 cn cd
  obtain ⟨x0, x1, x2, x3⟩ := (hE.here.1.1.1.2).c4
  obtain ⟨fz0, fz1, fz2, fz3⟩ := hE.here.1.1.1.2.f4
  have HWW := Lib.hid hWW
  clear hWW
  go_wp2_with fail
  rw [← HWW.out]
  obtain ⟨y0, y1, y2, y3⟩ := hB.c4
  refine bodyPost_ret (v := .agg #[.bool sn, .slice An nn cn, .bool sd, .slice Ad nd cd]) (by simp [results, Tryz.results27, go_sem, y0, y1, y2, y3]) rfl ?_
  exact ⟨sn, An, nn, cn, sd, Ad, nd, cd, rfl, hV, hBel⟩
theorem den_ne (a b : Rat) : (a.den : Int) * (b.den : Int) ≠ 0 := by
  have h1 := den_pos a
  have h2 := den_pos b
  have := Int.mul_pos (show (0 : Int) < a.den by omega) (show (0 : Int) < b.den by omega)
  omega
set_option linter.unusedSimpArgs false in
set_option maxRecDepth 100000 in
set_option maxHeartbeats 2000000 in
theorem fadd_v {a b : Rat} {sa ta sb tb : Bool} {Aa Ba Ab Bb : Option Addr} {na ca ma da nb cb mb db : Nat} {w : World} (ha : FV w a sa Aa na ta Ba ma) (hb : FV w b sb Ab nb tb Bb mb) (la : fl a ≤ 256) (lb : fl b ≤ 256) (lr : fl (a + b) ≤ 256) :
    Calls Tryz.prog 9 #[.agg #[.bool sa, .slice Aa na ca, .bool ta, .slice Ba ma da], .agg #[.bool sb, .slice Ab nb cb, .bool tb, .slice Bb mb db]] w (FOK (a + b) w) := by
  have hE := ((((Env.start w).fv ha).fv hb).blk 26 #[.bool sa, .slice Aa na ca, .bool ta, .slice Ba ma da] (g := w.heap.size) rfl).blk 26 #[.bool sb, .slice Ab nb cb, .bool tb, .slice Bb mb db] (g := w.heap.size + 1) (by simp)
  have hE := hE.blk 26 #[.bool false, .slice none 0 0, .bool false, .slice none 0 0] (g := w.heap.size + 1 + 1) (by simp)
  obtain ⟨W0, hW0⟩ : ∃ W0, W0 = (((w.alloc (.cells #[.bool sa, .slice Aa na ca, .bool ta, .slice Ba ma da] 26)).alloc (.cells #[.bool sb, .slice Ab nb cb, .bool tb, .slice Bb mb db] 26)).alloc (.cells #[.bool false, .slice none 0 0, .bool false, .slice none 0 0] 26)) := ⟨_, rfl⟩
  rw [← hW0] at hE
  have HW0 := Lib.hid hW0
  clear hW0
  go_enter Tryz.func9, Tryz.ntmps9
  go_upto_region 1 with (fail)
  rw [← HW0.out]
  obtain ⟨k1, k2, k3, k4⟩ := (hE.here.1.1.2).c4
  obtain ⟨k5, k6, k7, k8⟩ := (hE.here.1.2).c4
  go_wp2_with fail
  have hc := fallValid_v (c := ca) (d := da) (c2 := cb) (d2 := db) hE.here.1.1.1.1.2 hE.here.1.1.1.2 la lb
  refine hc.mono ?_
  clear hc
  clear k1 k2 k3 k4 k5 k6 k7 k8
  rintro e w9 ⟨rfl, hb⟩
  replace hE := hE.step hb
  clear hb
  go_upto_region 3 with (fail)
  obtain ⟨qa1, qa2⟩ := fl_le.1 la
  obtain ⟨qb1, qb2⟩ := fl_le.1 lb
  obtain ⟨ha1, ha2⟩ := (hE.here.1.1.1.1.2).ln la
  obtain ⟨hb1, hb2⟩ := (hE.here.1.1.1.2).ln lb
  have qa2 : ln b16 ((a.den : Nat) : Int).natAbs ≤ 256 := by rw [Int.natAbs_natCast]; exact qa2
  have qb2 : ln b16 ((b.den : Nat) : Int).natAbs ≤ 256 := by rw [Int.natAbs_natCast]; exact qb2
  replace hE := hE.drew
  refine wp_region_held_drew (S := fun w' => w'.cell? ⟨w.heap.size, 0, none⟩ = some (.bool sa) ∧ w'.cell? ⟨w.heap.size, 1, none⟩ = some (.slice Aa na ca) ∧ w'.cell? ⟨w.heap.size, 2, none⟩ = some (.bool ta) ∧ w'.cell? ⟨w.heap.size, 3, none⟩ = some (.slice Ba ma da) ∧ w'.cell? ⟨w.heap.size + 1, 0, none⟩ = some (.bool sb) ∧ w'.cell? ⟨w.heap.size + 1, 1, none⟩ = some (.slice Ab nb cb) ∧ w'.cell? ⟨w.heap.size + 1, 2, none⟩ = some (.bool tb) ∧ w'.cell? ⟨w.heap.size + 1, 3, none⟩ = some (.slice Bb mb db)) (by kernel_rfl) (hE.here.1.1.2.j4 hE.here.1.2.c4) (fun hHeld => ?_)
  refine tk 0 ?_
  try simp only [PL]
  refine tk 1 ?_
  try simp only [PL]
  refine tk 2 ?_
  try simp only [PL]
  refine tk 3 ?_
  try simp only [PL]
  refine tk 5 ?_
  try simp only [PL]
  refine tk 6 ?_
  try simp only [PL]
  refine tk 7 ?_
  try simp only [PL]
  refine tk 8 ?_
  try simp only [PL]
  refine tk 11 ?_
  try simp only [PL]
  refine tk 12 ?_
  try simp only [PL]
  refine tk 13 ?_
  try simp only [PL]
  refine tk 14 ?_
  try simp only [PL]
  refine r1 4 (fun K hK => ?_)
  go_simp
  have hc := ftimes_v (ca := ca) (cb := db) (hE.here.1.1.1.1.2).1 (hE.here.1.1.1.2).2 (Nat.le_trans ha1 (by decide)) (Nat.le_trans hb2 (by decide)) (Nat.le_trans (ln_mulZ (m := 256) (n := 256) qa1 qb2) (by decide))
  refine hc.mono ?_
  clear hc
  rintro e w10 ⟨sx, Ax, nx, cx, rfl, hx, hb⟩
  replace hE := hE.step hb
  clear hb
  replace hE := hE.wv hx
  clear hx
  have lx : nx ≤ 512 := by rw [(hE.here.2).len]; exact (ln_mulZ (m := 256) (n := 256) qa1 qb2)
  go_wp2_with fail
  refine hK.out _ _ (hE.here.1.1.1.2.j4 hE.here.1.1.2.c4) (fun hHeld => ?_)
  clear hK K
  try simp only [PL]
  refine r1 9 (fun K hK => ?_)
  go_simp
  have hc := ftimes_v (ca := cb) (cb := da) (hE.here.1.1.1.1.2).1 (hE.here.1.1.1.1.1.2).2 (Nat.le_trans hb1 (by decide)) (Nat.le_trans ha2 (by decide)) (Nat.le_trans (ln_mulZ (m := 256) (n := 256) qb1 qa2) (by decide))
  refine hc.mono ?_
  clear hc
  rintro e w11 ⟨sy, Ay, ny, cy, rfl, hy, hb⟩
  replace hE := hE.step hb
  clear hb
  replace hE := hE.wv hy
  clear hy
  have ly : ny ≤ 512 := by rw [(hE.here.2).len]; exact (ln_mulZ (m := 256) (n := 256) qb1 qa2)
  go_wp2_with fail
  refine hK.out _ _ (hE.here.1.1.1.1.2.j4 hE.here.1.1.1.2.c4) (fun hHeld => ?_)
  clear hK K
  try simp only [PL]
  refine r1 10 (fun K hK => ?_)
  go_simp
  have hc := fplus_v (ca := cx) (cb := cy) hE.here.1.2 hE.here.2 (Nat.le_trans lx (by decide)) (Nat.le_trans ly (by decide)) (Nat.le_trans (ln_addZ (m := 512) (by rw [← (hE.here.1.2).len]; exact lx) (by rw [← (hE.here.2).len]; exact ly)) (by decide))
  refine hc.mono ?_
  clear hc
  rintro e w12 ⟨sz, Az, nz, cz, rfl, hz, hb⟩
  replace hE := hE.step hb
  clear hb
  replace hE := hE.wv hz
  clear hz
  have lz : nz ≤ 513 := by rw [(hE.here.2).len]; exact (ln_addZ (m := 512) (by rw [← (hE.here.1.1.2).len]; exact lx) (by rw [← (hE.here.1.2).len]; exact ly))
  go_wp2_with fail
  refine hK.out _ _ (hE.here.1.1.1.1.1.2.j4 hE.here.1.1.1.1.2.c4) (fun hHeld => ?_)
  clear hK K
  try simp only [PL]
  refine r1 15 (fun K hK => ?_)
  go_simp
  have hc := ftimes_v (ca := da) (cb := db) (hE.here.1.1.1.1.1.1.1.2).2 (hE.here.1.1.1.1.1.1.2).2 (Nat.le_trans ha2 (by decide)) (Nat.le_trans hb2 (by decide)) (Nat.le_trans (ln_mulZ (m := 256) (n := 256) qa2 qb2) (by decide))
  refine hc.mono ?_
  clear hc
  rintro e w13 ⟨su, Au, nu, cu, rfl, hu, hb⟩
  replace hE := hE.step hb
  clear hb
  replace hE := hE.wv hu
  clear hu
  have lu : nu ≤ 512 := by rw [(hE.here.2).len]; exact (ln_mulZ (m := 256) (n := 256) qa2 qb2)
  go_wp2_with fail
  refine hK.out _ _ (hE.here.1.1.1.1.1.1.2.j4 hE.here.1.1.1.1.1.2.c4) (fun hHeld => ?_)
  clear hK K
  try simp only [PL]
  refine r1 16 (fun K hK => ?_)
  go_simp
  have hc := flowest_v (ca := cz) (cb := cu) hE.here.1.2 hE.here.2 (Nat.le_trans lz (by decide)) (Nat.le_trans lu (by decide)) (den_ne a b)
  rw [add_low a b] at hc
  refine hc.mono ?_
  clear hc
  rintro e w14 ⟨sf, Af, nf, cf, tf, Bf, mf, df, rfl, hf, hb⟩
  replace hE := hE.step hb
  clear hb
  replace hE := hE.fv hf
  clear hf
  go_wp2_with fail
  refine hK.out _ _ (hE.here.1.1.1.1.1.1.1.2.j4 hE.here.1.1.1.1.1.1.2.c4) (fun hHeld => ?_)
  clear hK K
  try simp only [PL]
  refine r1 17 (fun K hK => ?_)
  go_simp
  have hc := fresult_ok (c := cf) (d := df) hE.here.2 lr
  refine hc.mono ?_
  clear hc
  rintro e w15 ⟨sr, Ar, nr, cr, tr, Br, mr, dr, rfl, hr, hb⟩
  replace hE := hE.step hb
  clear hb
  replace hE := hE.fv hr
  clear hr
  go_wp2_with fail
  refine hK.out _ _ (hE.here.1.1.1.1.1.1.1.1.2.j4 hE.here.1.1.1.1.1.1.1.2.c4) (fun hHeld => ?_)
  clear hK K
  try simp only [PL]
  refine tk 18 ?_
  try simp only [PL]
  refine tk 19 ?_
  try simp only [PL]
  refine r1 20 (fun K hK => ?_)
  have hRl : w.heap.size ≤ w.heap.size + 1 + 1 := by omega
  obtain ⟨WW, hWW, hB, hV, hBel⟩ := ret_frac hE hE.here.1.1.1.1.1.1.2 hRl hE.here.2 cr dr
  obtain ⟨x0, x1, x2, x3⟩ := (hE.here.1.1.1.1.1.1.2).c4
  obtain ⟨fz0, fz1, fz2, fz3⟩ := hE.here.1.1.1.1.1.1.2.f4
  have HWW := Lib.hid hWW
  clear hWW
  have q16 := (hE.here.1.1.1.1.1.1.1.1.2).far4 (R := w.heap.size + 1 + 1) (by omega) (.bool sr) (.slice Ar nr cr) (.bool tr) (.slice Br mr dr)
  rw [← HWW.out] at q16
  have q17 := (hE.here.1.1.1.1.1.1.1.2).far4 (R := w.heap.size + 1 + 1) (by omega) (.bool sr) (.slice Ar nr cr) (.bool tr) (.slice Br mr dr)
  rw [← HWW.out] at q17
  go_simp
  rw [← HWW.out]
  refine hK.out _ _ (q16.j4 q17.c4) (fun hHeld => ?_)
  clear hK K
  try simp only [PL]
  refine tk 21 ?_
  try simp only [PL]
  refine wpAnyH_done (by kernel_rfl) ?_ _
  go_wp2_with fail
  obtain ⟨y0, y1, y2, y3⟩ := hB.c4
  refine bodyPost_ret (v := .tuple #[.agg #[.bool sr, .slice Ar nr cr, .bool tr, .slice Br mr dr], .int .i64 0]) (by simp [results, Tryz.results9, go_sem, y0, y1, y2, y3]) rfl ?_
  exact ⟨sr, Ar, nr, cr, tr, Br, mr, dr, rfl, hV, hBel⟩
set_option linter.unusedSimpArgs false in
set_option maxRecDepth 100000 in
set_option maxHeartbeats 2000000 in
theorem fsub_v {a b : Rat} {sa ta sb tb : Bool} {Aa Ba Ab Bb : Option Addr} {na ca ma da nb cb mb db : Nat} {w : World} (ha : FV w a sa Aa na ta Ba ma) (hb : FV w b sb Ab nb tb Bb mb) (la : fl a ≤ 256) (lb : fl b ≤ 256) (lr : fl (a - b) ≤ 256) :
    Calls Tryz.prog 10 #[.agg #[.bool sa, .slice Aa na ca, .bool ta, .slice Ba ma da], .agg #[.bool sb, .slice Ab nb cb, .bool tb, .slice Bb mb db]] w (FOK (a - b) w) := by
  have hE := ((((Env.start w).fv ha).fv hb).blk 26 #[.bool sa, .slice Aa na ca, .bool ta, .slice Ba ma da] (g := w.heap.size) rfl).blk 26 #[.bool sb, .slice Ab nb cb, .bool tb, .slice Bb mb db] (g := w.heap.size + 1) (by simp)
  have hE := hE.blk 26 #[.bool false, .slice none 0 0, .bool false, .slice none 0 0] (g := w.heap.size + 1 + 1) (by simp)
  obtain ⟨W0, hW0⟩ : ∃ W0, W0 = (((w.alloc (.cells #[.bool sa, .slice Aa na ca, .bool ta, .slice Ba ma da] 26)).alloc (.cells #[.bool sb, .slice Ab nb cb, .bool tb, .slice Bb mb db] 26)).alloc (.cells #[.bool false, .slice none 0 0, .bool false, .slice none 0 0] 26)) := ⟨_, rfl⟩
  rw [← hW0] at hE
  have HW0 := Lib.hid hW0
  clear hW0
  go_enter Tryz.func10, Tryz.ntmps10
  go_upto_region 1 with (fail)
  rw [← HW0.out]
  obtain ⟨k1, k2, k3, k4⟩ := (hE.here.1.1.2).c4
  obtain ⟨k5, k6, k7, k8⟩ := (hE.here.1.2).c4
  go_wp2_with fail
  have hc := fallValid_v (c := ca) (d := da) (c2 := cb) (d2 := db) hE.here.1.1.1.1.2 hE.here.1.1.1.2 la lb
  refine hc.mono ?_
  clear hc
  clear k1 k2 k3 k4 k5 k6 k7 k8
  rintro e w9 ⟨rfl, hb⟩
  replace hE := hE.step hb
  clear hb
  go_upto_region 3 with (fail)
  obtain ⟨qa1, qa2⟩ := fl_le.1 la
  obtain ⟨qb1, qb2⟩ := fl_le.1 lb
  obtain ⟨ha1, ha2⟩ := (hE.here.1.1.1.1.2).ln la
  obtain ⟨hb1, hb2⟩ := (hE.here.1.1.1.2).ln lb
  have qa2 : ln b16 ((a.den : Nat) : Int).natAbs ≤ 256 := by rw [Int.natAbs_natCast]; exact qa2
  have qb2 : ln b16 ((b.den : Nat) : Int).natAbs ≤ 256 := by rw [Int.natAbs_natCast]; exact qb2
  replace hE := hE.drew
  refine wp_region_held_drew (S := fun w' => w'.cell? ⟨w.heap.size, 0, none⟩ = some (.bool sa) ∧ w'.cell? ⟨w.heap.size, 1, none⟩ = some (.slice Aa na ca) ∧ w'.cell? ⟨w.heap.size, 2, none⟩ = some (.bool ta) ∧ w'.cell? ⟨w.heap.size, 3, none⟩ = some (.slice Ba ma da) ∧ w'.cell? ⟨w.heap.size + 1, 0, none⟩ = some (.bool sb) ∧ w'.cell? ⟨w.heap.size + 1, 1, none⟩ = some (.slice Ab nb cb) ∧ w'.cell? ⟨w.heap.size + 1, 2, none⟩ = some (.bool tb) ∧ w'.cell? ⟨w.heap.size + 1, 3, none⟩ = some (.slice Bb mb db)) (by kernel_rfl) (hE.here.1.1.2.j4 hE.here.1.2.c4) (fun hHeld => ?_)
  refine tk 0 ?_
  try simp only [PL]
  refine tk 1 ?_
  try simp only [PL]
  refine tk 2 ?_
  try simp only [PL]
  refine tk 3 ?_
  try simp only [PL]
  refine tk 5 ?_
  try simp only [PL]
  refine tk 6 ?_
  try simp only [PL]
  refine tk 7 ?_
  try simp only [PL]
  refine tk 8 ?_
  try simp only [PL]
  refine tk 12 ?_
  try simp only [PL]
  refine tk 13 ?_
  try simp only [PL]
  refine tk 14 ?_
  try simp only [PL]
  refine tk 15 ?_
  try simp only [PL]
  refine r1 4 (fun K hK => ?_)
  go_simp
  have hc := ftimes_v (ca := ca) (cb := db) (hE.here.1.1.1.1.2).1 (hE.here.1.1.1.2).2 (Nat.le_trans ha1 (by decide)) (Nat.le_trans hb2 (by decide)) (Nat.le_trans (ln_mulZ (m := 256) (n := 256) qa1 qb2) (by decide))
  refine hc.mono ?_
  clear hc
  rintro e w10 ⟨sx, Ax, nx, cx, rfl, hx, hb⟩
  replace hE := hE.step hb
  clear hb
  replace hE := hE.wv hx
  clear hx
  have lx : nx ≤ 512 := by rw [(hE.here.2).len]; exact (ln_mulZ (m := 256) (n := 256) qa1 qb2)
  go_wp2_with fail
  refine hK.out _ _ (hE.here.1.1.1.2.j4 hE.here.1.1.2.c4) (fun hHeld => ?_)
  clear hK K
  try simp only [PL]
  refine r1 9 (fun K hK => ?_)
  go_simp
  have hc := ftimes_v (ca := cb) (cb := da) (hE.here.1.1.1.1.2).1 (hE.here.1.1.1.1.1.2).2 (Nat.le_trans hb1 (by decide)) (Nat.le_trans ha2 (by decide)) (Nat.le_trans (ln_mulZ (m := 256) (n := 256) qb1 qa2) (by decide))
  refine hc.mono ?_
  clear hc
  rintro e w11 ⟨sy, Ay, ny, cy, rfl, hy, hb⟩
  replace hE := hE.step hb
  clear hb
  replace hE := hE.wv hy
  clear hy
  have ly : ny ≤ 512 := by rw [(hE.here.2).len]; exact (ln_mulZ (m := 256) (n := 256) qb1 qa2)
  go_wp2_with fail
  refine hK.out _ _ (hE.here.1.1.1.1.2.j4 hE.here.1.1.1.2.c4) (fun hHeld => ?_)
  clear hK K
  try simp only [PL]
  refine r1 10 (fun K hK => ?_)
  go_simp
  have hc := fopposite_v (c := cy) hE.here.2 (Nat.le_trans ly (by decide))
  refine hc.mono ?_
  clear hc
  rintro e w12 ⟨so, Ao, no, co, rfl, ho, hb⟩
  replace hE := hE.step hb
  clear hb
  replace hE := hE.wv ho
  clear ho
  have lo := neg_len hE.here.1.2 hE.here.2 ly
  go_wp2_with fail
  refine hK.out _ _ (hE.here.1.1.1.1.1.2.j4 hE.here.1.1.1.1.2.c4) (fun hHeld => ?_)
  clear hK K
  try simp only [PL]
  refine r1 11 (fun K hK => ?_)
  go_simp
  have hc := fplus_v (ca := cx) (cb := co) hE.here.1.1.2 hE.here.2 (Nat.le_trans lx (by decide)) (Nat.le_trans lo (by decide)) (Nat.le_trans (ln_addZ (m := 512) (by rw [← (hE.here.1.1.2).len]; exact lx) (by rw [← (hE.here.2).len]; exact lo)) (by decide))
  refine hc.mono ?_
  clear hc
  rintro e w13 ⟨sz, Az, nz, cz, rfl, hz, hb⟩
  replace hE := hE.step hb
  clear hb
  replace hE := hE.wv hz
  clear hz
  have lz : nz ≤ 513 := by rw [(hE.here.2).len]; exact (ln_addZ (m := 512) (by rw [← (hE.here.1.1.1.2).len]; exact lx) (by rw [← (hE.here.1.2).len]; exact lo))
  go_wp2_with fail
  refine hK.out _ _ (hE.here.1.1.1.1.1.1.2.j4 hE.here.1.1.1.1.1.2.c4) (fun hHeld => ?_)
  clear hK K
  try simp only [PL]
  refine r1 16 (fun K hK => ?_)
  go_simp
  have hc := ftimes_v (ca := da) (cb := db) (hE.here.1.1.1.1.1.1.1.1.2).2 (hE.here.1.1.1.1.1.1.1.2).2 (Nat.le_trans ha2 (by decide)) (Nat.le_trans hb2 (by decide)) (Nat.le_trans (ln_mulZ (m := 256) (n := 256) qa2 qb2) (by decide))
  refine hc.mono ?_
  clear hc
  rintro e w14 ⟨su, Au, nu, cu, rfl, hu, hb⟩
  replace hE := hE.step hb
  clear hb
  replace hE := hE.wv hu
  clear hu
  have lu : nu ≤ 512 := by rw [(hE.here.2).len]; exact (ln_mulZ (m := 256) (n := 256) qa2 qb2)
  go_wp2_with fail
  refine hK.out _ _ (hE.here.1.1.1.1.1.1.1.2.j4 hE.here.1.1.1.1.1.1.2.c4) (fun hHeld => ?_)
  clear hK K
  try simp only [PL]
  refine r1 17 (fun K hK => ?_)
  go_simp
  have hc := flowest_v (ca := cz) (cb := cu) hE.here.1.2 hE.here.2 (Nat.le_trans lz (by decide)) (Nat.le_trans lu (by decide)) (den_ne a b)
  rw [sub_low a b] at hc
  refine hc.mono ?_
  clear hc
  rintro e w15 ⟨sf, Af, nf, cf, tf, Bf, mf, df, rfl, hf, hb⟩
  replace hE := hE.step hb
  clear hb
  replace hE := hE.fv hf
  clear hf
  go_wp2_with fail
  refine hK.out _ _ (hE.here.1.1.1.1.1.1.1.1.2.j4 hE.here.1.1.1.1.1.1.1.2.c4) (fun hHeld => ?_)
  clear hK K
  try simp only [PL]
  refine r1 18 (fun K hK => ?_)
  go_simp
  have hc := fresult_ok (c := cf) (d := df) hE.here.2 lr
  refine hc.mono ?_
  clear hc
  rintro e w16 ⟨sr, Ar, nr, cr, tr, Br, mr, dr, rfl, hr, hb⟩
  replace hE := hE.step hb
  clear hb
  replace hE := hE.fv hr
  clear hr
  go_wp2_with fail
  refine hK.out _ _ (hE.here.1.1.1.1.1.1.1.1.1.2.j4 hE.here.1.1.1.1.1.1.1.1.2.c4) (fun hHeld => ?_)
  clear hK K
  try simp only [PL]
  refine tk 19 ?_
  try simp only [PL]
  refine tk 20 ?_
  try simp only [PL]
  refine r1 21 (fun K hK => ?_)
  have hRl : w.heap.size ≤ w.heap.size + 1 + 1 := by omega
  obtain ⟨WW, hWW, hB, hV, hBel⟩ := ret_frac hE hE.here.1.1.1.1.1.1.1.2 hRl hE.here.2 cr dr
  obtain ⟨x0, x1, x2, x3⟩ := (hE.here.1.1.1.1.1.1.1.2).c4
  obtain ⟨fz0, fz1, fz2, fz3⟩ := hE.here.1.1.1.1.1.1.1.2.f4
  have HWW := Lib.hid hWW
  clear hWW
  have q17 := (hE.here.1.1.1.1.1.1.1.1.1.2).far4 (R := w.heap.size + 1 + 1) (by omega) (.bool sr) (.slice Ar nr cr) (.bool tr) (.slice Br mr dr)
  rw [← HWW.out] at q17
  have q18 := (hE.here.1.1.1.1.1.1.1.1.2).far4 (R := w.heap.size + 1 + 1) (by omega) (.bool sr) (.slice Ar nr cr) (.bool tr) (.slice Br mr dr)
  rw [← HWW.out] at q18
  go_simp
  rw [← HWW.out]
  refine hK.out _ _ (q17.j4 q18.c4) (fun hHeld => ?_)
  clear hK K
  try simp only [PL]
  refine tk 22 ?_
  try simp only [PL]
  refine wpAnyH_done (by kernel_rfl) ?_ _
  go_wp2_with fail
  obtain ⟨y0, y1, y2, y3⟩ := hB.c4
  refine bodyPost_ret (v := .tuple #[.agg #[.bool sr, .slice Ar nr cr, .bool tr, .slice Br mr dr], .int .i64 0]) (by simp [results, Tryz.results10, go_sem, y0, y1, y2, y3]) rfl ?_
  exact ⟨sr, Ar, nr, cr, tr, Br, mr, dr, rfl, hV, hBel⟩
set_option linter.unusedSimpArgs false in
set_option maxRecDepth 100000 in
set_option maxHeartbeats 2000000 in
theorem fmul_v {a b : Rat} {sa ta sb tb : Bool} {Aa Ba Ab Bb : Option Addr} {na ca ma da nb cb mb db : Nat} {w : World} (ha : FV w a sa Aa na ta Ba ma) (hb : FV w b sb Ab nb tb Bb mb) (la : fl a ≤ 256) (lb : fl b ≤ 256) (lr : fl (a * b) ≤ 256) :
    Calls Tryz.prog 11 #[.agg #[.bool sa, .slice Aa na ca, .bool ta, .slice Ba ma da], .agg #[.bool sb, .slice Ab nb cb, .bool tb, .slice Bb mb db]] w (FOK (a * b) w) := by
  have hE := ((((Env.start w).fv ha).fv hb).blk 26 #[.bool sa, .slice Aa na ca, .bool ta, .slice Ba ma da] (g := w.heap.size) rfl).blk 26 #[.bool sb, .slice Ab nb cb, .bool tb, .slice Bb mb db] (g := w.heap.size + 1) (by simp)
  have hE := hE.blk 26 #[.bool false, .slice none 0 0, .bool false, .slice none 0 0] (g := w.heap.size + 1 + 1) (by simp)
  obtain ⟨W0, hW0⟩ : ∃ W0, W0 = (((w.alloc (.cells #[.bool sa, .slice Aa na ca, .bool ta, .slice Ba ma da] 26)).alloc (.cells #[.bool sb, .slice Ab nb cb, .bool tb, .slice Bb mb db] 26)).alloc (.cells #[.bool false, .slice none 0 0, .bool false, .slice none 0 0] 26)) := ⟨_, rfl⟩
  rw [← hW0] at hE
  have HW0 := Lib.hid hW0
  clear hW0
  go_enter Tryz.func11, Tryz.ntmps11
  go_upto_region 1 with (fail)
  rw [← HW0.out]
  obtain ⟨k1, k2, k3, k4⟩ := (hE.here.1.1.2).c4
  obtain ⟨k5, k6, k7, k8⟩ := (hE.here.1.2).c4
  go_wp2_with fail
  have hc := fallValid_v (c := ca) (d := da) (c2 := cb) (d2 := db) hE.here.1.1.1.1.2 hE.here.1.1.1.2 la lb
  refine hc.mono ?_
  clear hc
  clear k1 k2 k3 k4 k5 k6 k7 k8
  rintro e w9 ⟨rfl, hb⟩
  replace hE := hE.step hb
  clear hb
  go_upto_region 3 with (fail)
  obtain ⟨qa1, qa2⟩ := fl_le.1 la
  obtain ⟨qb1, qb2⟩ := fl_le.1 lb
  obtain ⟨ha1, ha2⟩ := (hE.here.1.1.1.1.2).ln la
  obtain ⟨hb1, hb2⟩ := (hE.here.1.1.1.2).ln lb
  have qa2 : ln b16 ((a.den : Nat) : Int).natAbs ≤ 256 := by rw [Int.natAbs_natCast]; exact qa2
  have qb2 : ln b16 ((b.den : Nat) : Int).natAbs ≤ 256 := by rw [Int.natAbs_natCast]; exact qb2
  replace hE := hE.drew
  refine wp_region_held_drew (S := fun w' => w'.cell? ⟨w.heap.size, 0, none⟩ = some (.bool sa) ∧ w'.cell? ⟨w.heap.size, 1, none⟩ = some (.slice Aa na ca) ∧ w'.cell? ⟨w.heap.size, 2, none⟩ = some (.bool ta) ∧ w'.cell? ⟨w.heap.size, 3, none⟩ = some (.slice Ba ma da) ∧ w'.cell? ⟨w.heap.size + 1, 0, none⟩ = some (.bool sb) ∧ w'.cell? ⟨w.heap.size + 1, 1, none⟩ = some (.slice Ab nb cb) ∧ w'.cell? ⟨w.heap.size + 1, 2, none⟩ = some (.bool tb) ∧ w'.cell? ⟨w.heap.size + 1, 3, none⟩ = some (.slice Bb mb db)) (by kernel_rfl) (hE.here.1.1.2.j4 hE.here.1.2.c4) (fun hHeld => ?_)
  refine tk 0 ?_
  try simp only [PL]
  refine tk 1 ?_
  try simp only [PL]
  refine tk 2 ?_
  try simp only [PL]
  refine tk 3 ?_
  try simp only [PL]
  refine tk 5 ?_
  try simp only [PL]
  refine tk 6 ?_
  try simp only [PL]
  refine tk 7 ?_
  try simp only [PL]
  refine tk 8 ?_
  try simp only [PL]
  refine r1 4 (fun K hK => ?_)
  go_simp
  have hc := ftimes_v (ca := ca) (cb := cb) (hE.here.1.1.1.1.2).1 (hE.here.1.1.1.2).1 (Nat.le_trans ha1 (by decide)) (Nat.le_trans hb1 (by decide)) (Nat.le_trans (ln_mulZ (m := 256) (n := 256) qa1 qb1) (by decide))
  refine hc.mono ?_
  clear hc
  rintro e w10 ⟨sx, Ax, nx, cx, rfl, hx, hb⟩
  replace hE := hE.step hb
  clear hb
  replace hE := hE.wv hx
  clear hx
  have lx : nx ≤ 512 := by rw [(hE.here.2).len]; exact (ln_mulZ (m := 256) (n := 256) qa1 qb1)
  go_wp2_with fail
  refine hK.out _ _ (hE.here.1.1.1.2.j4 hE.here.1.1.2.c4) (fun hHeld => ?_)
  clear hK K
  try simp only [PL]
  refine r1 9 (fun K hK => ?_)
  go_simp
  have hc := ftimes_v (ca := da) (cb := db) (hE.here.1.1.1.1.1.2).2 (hE.here.1.1.1.1.2).2 (Nat.le_trans ha2 (by decide)) (Nat.le_trans hb2 (by decide)) (Nat.le_trans (ln_mulZ (m := 256) (n := 256) qa2 qb2) (by decide))
  refine hc.mono ?_
  clear hc
  rintro e w11 ⟨su, Au, nu, cu, rfl, hu, hb⟩
  replace hE := hE.step hb
  clear hb
  replace hE := hE.wv hu
  clear hu
  have lu : nu ≤ 512 := by rw [(hE.here.2).len]; exact (ln_mulZ (m := 256) (n := 256) qa2 qb2)
  go_wp2_with fail
  refine hK.out _ _ (hE.here.1.1.1.1.2.j4 hE.here.1.1.1.2.c4) (fun hHeld => ?_)
  clear hK K
  try simp only [PL]
  refine r1 10 (fun K hK => ?_)
  go_simp
  have hc := flowest_v (ca := cx) (cb := cu) hE.here.1.2 hE.here.2 (Nat.le_trans lx (by decide)) (Nat.le_trans lu (by decide)) (den_ne a b)
  rw [mul_low a b] at hc
  refine hc.mono ?_
  clear hc
  rintro e w12 ⟨sf, Af, nf, cf, tf, Bf, mf, df, rfl, hf, hb⟩
  replace hE := hE.step hb
  clear hb
  replace hE := hE.fv hf
  clear hf
  go_wp2_with fail
  refine hK.out _ _ (hE.here.1.1.1.1.1.2.j4 hE.here.1.1.1.1.2.c4) (fun hHeld => ?_)
  clear hK K
  try simp only [PL]
  refine r1 11 (fun K hK => ?_)
  go_simp
  have hc := fresult_ok (c := cf) (d := df) hE.here.2 lr
  refine hc.mono ?_
  clear hc
  rintro e w13 ⟨sr, Ar, nr, cr, tr, Br, mr, dr, rfl, hr, hb⟩
  replace hE := hE.step hb
  clear hb
  replace hE := hE.fv hr
  clear hr
  go_wp2_with fail
  refine hK.out _ _ (hE.here.1.1.1.1.1.1.2.j4 hE.here.1.1.1.1.1.2.c4) (fun hHeld => ?_)
  clear hK K
  try simp only [PL]
  refine tk 12 ?_
  try simp only [PL]
  refine tk 13 ?_
  try simp only [PL]
  refine r1 14 (fun K hK => ?_)
  have hRl : w.heap.size ≤ w.heap.size + 1 + 1 := by omega
  obtain ⟨WW, hWW, hB, hV, hBel⟩ := ret_frac hE hE.here.1.1.1.1.2 hRl hE.here.2 cr dr
  obtain ⟨x0, x1, x2, x3⟩ := (hE.here.1.1.1.1.2).c4
  obtain ⟨fz0, fz1, fz2, fz3⟩ := hE.here.1.1.1.1.2.f4
  have HWW := Lib.hid hWW
  clear hWW
  have q14 := (hE.here.1.1.1.1.1.1.2).far4 (R := w.heap.size + 1 + 1) (by omega) (.bool sr) (.slice Ar nr cr) (.bool tr) (.slice Br mr dr)
  rw [← HWW.out] at q14
  have q15 := (hE.here.1.1.1.1.1.2).far4 (R := w.heap.size + 1 + 1) (by omega) (.bool sr) (.slice Ar nr cr) (.bool tr) (.slice Br mr dr)
  rw [← HWW.out] at q15
  go_simp
  rw [← HWW.out]
  refine hK.out _ _ (q14.j4 q15.c4) (fun hHeld => ?_)
  clear hK K
  try simp only [PL]
  refine tk 15 ?_
  try simp only [PL]
  refine wpAnyH_done (by kernel_rfl) ?_ _
  go_wp2_with fail
  obtain ⟨y0, y1, y2, y3⟩ := hB.c4
  refine bodyPost_ret (v := .tuple #[.agg #[.bool sr, .slice Ar nr cr, .bool tr, .slice Br mr dr], .int .i64 0]) (by simp [results, Tryz.results11, go_sem, y0, y1, y2, y3]) rfl ?_
  exact ⟨sr, Ar, nr, cr, tr, Br, mr, dr, rfl, hV, hBel⟩
end Go.Proofs.YtifikcemcflgjaaGreatDoor
namespace Go.Proofs.YtifikcemcflgjaaGreatDoor
open Go.RowKit

/-- The order of two fractions. -/
def cmpQ (a b : Rat) : Int := cmpZ (a.num * (b.den : Int)) (b.num * (a.den : Int))
set_option linter.unusedSimpArgs false in
set_option maxRecDepth 100000 in
set_option maxHeartbeats 2000000 in
theorem fcmp_v {a b : Rat} {sa ta sb tb : Bool} {Aa Ba Ab Bb : Option Addr} {na ca ma da nb cb mb db : Nat} {w : World} (ha : FV w a sa Aa na ta Ba ma) (hb : FV w b sb Ab nb tb Bb mb) (la : fl a ≤ 256) (lb : fl b ≤ 256) :
    Calls Tryz.prog 21 #[.agg #[.bool sa, .slice Aa na ca, .bool ta, .slice Ba ma da], .agg #[.bool sb, .slice Ab nb cb, .bool tb, .slice Bb mb db]] w (fun e w' => e = .returned (.int .i64 (cmpQ a b)) ∧ Below w.heap.size w w') := by
  have hE := ((((Env.start w).fv ha).fv hb).blk 26 #[.bool sa, .slice Aa na ca, .bool ta, .slice Ba ma da] (g := w.heap.size) rfl).blk 26 #[.bool sb, .slice Ab nb cb, .bool tb, .slice Bb mb db] (g := w.heap.size + 1) (by simp)
  obtain ⟨W0, hW0⟩ : ∃ W0, W0 = ((w.alloc (.cells #[.bool sa, .slice Aa na ca, .bool ta, .slice Ba ma da] 26)).alloc (.cells #[.bool sb, .slice Ab nb cb, .bool tb, .slice Bb mb db] 26)) := ⟨_, rfl⟩
  rw [← hW0] at hE
  have HW0 := Lib.hid hW0
  clear hW0
  go_enter Tryz.func21, Tryz.ntmps21
  go_upto_region 1 with (fail)
  rw [← HW0.out]
  obtain ⟨k1, k2, k3, k4⟩ := (hE.here.1.2).c4
  obtain ⟨k5, k6, k7, k8⟩ := (hE.here.2).c4
  go_wp2_with fail
  have hc := fallValid_v (c := ca) (d := da) (c2 := cb) (d2 := db) hE.here.1.1.1.2 hE.here.1.1.2 la lb
  refine hc.mono ?_
  clear hc
  clear k1 k2 k3 k4 k5 k6 k7 k8
  rintro e w9 ⟨rfl, hb⟩
  replace hE := hE.step hb
  clear hb
  go_upto_region 3 with (fail)
  obtain ⟨qa1, qa2⟩ := fl_le.1 la
  obtain ⟨qb1, qb2⟩ := fl_le.1 lb
  obtain ⟨ha1, ha2⟩ := (hE.here.1.1.1.2).ln la
  obtain ⟨hb1, hb2⟩ := (hE.here.1.1.2).ln lb
  have qa2 : ln b16 ((a.den : Nat) : Int).natAbs ≤ 256 := by rw [Int.natAbs_natCast]; exact qa2
  have qb2 : ln b16 ((b.den : Nat) : Int).natAbs ≤ 256 := by rw [Int.natAbs_natCast]; exact qb2
  obtain ⟨v, hv⟩ : ∃ v, v = cmpZ (a.num * (b.den : Int)) (b.num * (a.den : Int)) := ⟨_, rfl⟩
  have HV := Lib.hid hv
  clear hv
  replace hE := hE.drew
  refine wp_region_held_drew (S := fun w' => w'.cell? ⟨w.heap.size, 0, none⟩ = some (.bool sa) ∧ w'.cell? ⟨w.heap.size, 1, none⟩ = some (.slice Aa na ca) ∧ w'.cell? ⟨w.heap.size, 2, none⟩ = some (.bool ta) ∧ w'.cell? ⟨w.heap.size, 3, none⟩ = some (.slice Ba ma da) ∧ w'.cell? ⟨w.heap.size + 1, 0, none⟩ = some (.bool sb) ∧ w'.cell? ⟨w.heap.size + 1, 1, none⟩ = some (.slice Ab nb cb) ∧ w'.cell? ⟨w.heap.size + 1, 2, none⟩ = some (.bool tb) ∧ w'.cell? ⟨w.heap.size + 1, 3, none⟩ = some (.slice Bb mb db)) (by kernel_rfl) (hE.here.1.2.j4 hE.here.2.c4) (fun hHeld => ?_)
  refine tk 0 ?_
  try simp only [PL]
  refine tk 1 ?_
  try simp only [PL]
  refine tk 2 ?_
  try simp only [PL]
  refine tk 3 ?_
  try simp only [PL]
  refine tk 5 ?_
  try simp only [PL]
  refine tk 6 ?_
  try simp only [PL]
  refine tk 7 ?_
  try simp only [PL]
  refine tk 8 ?_
  try simp only [PL]
  refine r1 4 (fun K hK => ?_)
  go_simp
  have hc := ftimes_v (ca := ca) (cb := db) (hE.here.1.1.1.2).1 (hE.here.1.1.2).2 (Nat.le_trans ha1 (by decide)) (Nat.le_trans hb2 (by decide)) (Nat.le_trans (ln_mulZ (m := 256) (n := 256) qa1 qb2) (by decide))
  refine hc.mono ?_
  clear hc
  rintro e w10 ⟨sx, Ax, nx, cx, rfl, hx, hb⟩
  replace hE := hE.step hb
  clear hb
  replace hE := hE.wv hx
  clear hx
  have lx : nx ≤ 512 := by rw [(hE.here.2).len]; exact (ln_mulZ (m := 256) (n := 256) qa1 qb2)
  go_wp2_with fail
  refine hK.out _ _ (hE.here.1.1.2.j4 hE.here.1.2.c4) (fun hHeld => ?_)
  clear hK K
  try simp only [PL]
  refine r1 9 (fun K hK => ?_)
  go_simp
  have hc := ftimes_v (ca := cb) (cb := da) (hE.here.1.1.1.2).1 (hE.here.1.1.1.1.2).2 (Nat.le_trans hb1 (by decide)) (Nat.le_trans ha2 (by decide)) (Nat.le_trans (ln_mulZ (m := 256) (n := 256) qb1 qa2) (by decide))
  refine hc.mono ?_
  clear hc
  rintro e w11 ⟨sy, Ay, ny, cy, rfl, hy, hb⟩
  replace hE := hE.step hb
  clear hb
  replace hE := hE.wv hy
  clear hy
  have ly : ny ≤ 512 := by rw [(hE.here.2).len]; exact (ln_mulZ (m := 256) (n := 256) qb1 qa2)
  go_wp2_with fail
  refine hK.out _ _ (hE.here.1.1.1.2.j4 hE.here.1.1.2.c4) (fun hHeld => ?_)
  clear hK K
  try simp only [PL]
  refine r1 10 (fun K hK => ?_)
  go_simp
  have hc := cmp_v (c := cx) (d := cy) hE.here.1.2 hE.here.2 (Nat.le_trans lx (by decide)) (Nat.le_trans ly (by decide))
  rw [← HV.out] at hc
  refine hc.mono ?_
  clear hc
  rintro e w12 ⟨rfl, hb⟩
  replace hE := hE.step hb
  clear hb
  go_wp2_with fail
  refine hK.out _ _ (hE.here.1.1.1.2.j4 hE.here.1.1.2.c4) (fun hHeld => ?_)
  clear hK K
  try simp only [PL]
  refine tk 11 ?_
  try simp only [PL]
  refine wpAnyH_done (by kernel_rfl) ?_ _
  go_wp2_with fail
  go_ret
  exact ⟨by rw [HV.out]; rfl, hE.bel⟩
set_option linter.unusedSimpArgs false in
set_option maxRecDepth 100000 in
set_option maxHeartbeats 1000000 in
theorem fsame_v {a b : Rat} {sa ta sb tb : Bool} {Aa Ba Ab Bb : Option Addr} {na ca ma da nb cb mb db : Nat} {w : World} (ha : FV w a sa Aa na ta Ba ma) (hb : FV w b sb Ab nb tb Bb mb) (la1 : na ≤ 1000000) (la2 : ma ≤ 1000000) (lb1 : nb ≤ 1000000) (lb2 : mb ≤ 1000000) :
    Calls Tryz.prog 74 #[.agg #[.bool sa, .slice Aa na ca, .bool ta, .slice Ba ma da], .agg #[.bool sb, .slice Ab nb cb, .bool tb, .slice Bb mb db]] w fun e w' => e = .returned (.bool (decide (a = b))) ∧ Below w.heap.size w w' := by
  by_cases h1 : a.num = b.num
  · skip
    have hE := ((((Env.start w).fv ha).fv hb).blk 26 #[.bool sa, .slice Aa na ca, .bool ta, .slice Ba ma da] (g := w.heap.size) rfl).blk 26 #[.bool sb, .slice Ab nb cb, .bool tb, .slice Bb mb db] (g := w.heap.size + 1) (by simp)
    obtain ⟨W0, hW0⟩ : ∃ W0, W0 = ((w.alloc (.cells #[.bool sa, .slice Aa na ca, .bool ta, .slice Ba ma da] 26)).alloc (.cells #[.bool sb, .slice Ab nb cb, .bool tb, .slice Bb mb db] 26)) := ⟨_, rfl⟩
    rw [← hW0] at hE
    have HW0 := Lib.hid hW0
    clear hW0
    go_enter Tryz.func74, Tryz.ntmps74
    go_upto_region 1 with (fail)
    rw [← HW0.out]
    obtain ⟨k1, k2, k3, k4⟩ := (hE.here.1.2).c4
    obtain ⟨k5, k6, k7, k8⟩ := (hE.here.2).c4
    go_wp2_with fail
    have hc := same_v (c := ca) (d := cb) (hE.here.1.1.1.2).1 (hE.here.1.1.2).1 la1 lb1
    rw [decide_eq_true h1] at hc
    refine hc.mono ?_
    clear hc
    clear k1 k2 k3 k4 k5 k6 k7 k8
    rintro e w1 ⟨rfl, hb⟩
    replace hE := hE.step hb
    clear hb
    obtain ⟨k9, k10, k11, k12⟩ := (hE.here.1.2).c4
    obtain ⟨k13, k14, k15, k16⟩ := (hE.here.2).c4
    go_wp2_with fail
    have hc := same_v (c := da) (d := db) (hE.here.1.1.1.2).2 (hE.here.1.1.2).2 la2 lb2
    refine hc.mono ?_
    clear hc
    clear k9 k10 k11 k12 k13 k14 k15 k16
    rintro e w2 ⟨rfl, hb⟩
    replace hE := hE.step hb
    clear hb
    obtain ⟨v, hv⟩ : ∃ v, v = decide (((a.den : Nat) : Int) = ((b.den : Nat) : Int)) := ⟨_, rfl⟩
    rw [← hv]
    have HV := Lib.hid hv
    clear hv
    have H1 := Lib.hid h1
    clear h1
    go_wp2_with fail
    go_ret
    refine ⟨ret_bool ?_, hE.bel⟩
    rw [HV.out]
    exact decide_eq_decide.2 ⟨fun h => Rat.ext H1.out (by omega), fun h => by rw [h]⟩
  · skip
    have hE := ((((Env.start w).fv ha).fv hb).blk 26 #[.bool sa, .slice Aa na ca, .bool ta, .slice Ba ma da] (g := w.heap.size) rfl).blk 26 #[.bool sb, .slice Ab nb cb, .bool tb, .slice Bb mb db] (g := w.heap.size + 1) (by simp)
    obtain ⟨W0, hW0⟩ : ∃ W0, W0 = ((w.alloc (.cells #[.bool sa, .slice Aa na ca, .bool ta, .slice Ba ma da] 26)).alloc (.cells #[.bool sb, .slice Ab nb cb, .bool tb, .slice Bb mb db] 26)) := ⟨_, rfl⟩
    rw [← hW0] at hE
    have HW0 := Lib.hid hW0
    clear hW0
    go_enter Tryz.func74, Tryz.ntmps74
    go_upto_region 1 with (fail)
    rw [← HW0.out]
    obtain ⟨k1, k2, k3, k4⟩ := (hE.here.1.2).c4
    obtain ⟨k5, k6, k7, k8⟩ := (hE.here.2).c4
    go_wp2_with fail
    have hc := same_v (c := ca) (d := cb) (hE.here.1.1.1.2).1 (hE.here.1.1.2).1 la1 lb1
    rw [decide_eq_false h1] at hc
    refine hc.mono ?_
    clear hc
    clear k1 k2 k3 k4 k5 k6 k7 k8
    rintro e w1 ⟨rfl, hb⟩
    replace hE := hE.step hb
    clear hb
    go_wp2_with fail
    go_ret
    exact ⟨ret_bool (decide_eq_false (fun h => h1 (by rw [h]))).symm, hE.bel⟩
set_option linter.unusedSimpArgs false in
set_option maxRecDepth 100000 in
set_option maxHeartbeats 1000000 in
theorem frsame_v {a b : Rat} {sa ta sb tb : Bool} {Aa Ba Ab Bb : Option Addr} {na ca ma da nb cb mb db : Nat} {w : World} (ha : FV w a sa Aa na ta Ba ma) (hb : FV w b sb Ab nb tb Bb mb) (la1 : na ≤ 1000000) (la2 : ma ≤ 1000000) (lb1 : nb ≤ 1000000) (lb2 : mb ≤ 1000000) :
    Calls Tryz.prog 16 #[.agg #[.bool sa, .slice Aa na ca, .bool ta, .slice Ba ma da], .agg #[.bool sb, .slice Ab nb cb, .bool tb, .slice Bb mb db]] w fun e w' => e = .returned (.bool (decide (a = b))) ∧ Below w.heap.size w w' := by
  by_cases h1 : a.num = b.num
  · skip
    have hE := ((((Env.start w).fv ha).fv hb).blk 26 #[.bool sa, .slice Aa na ca, .bool ta, .slice Ba ma da] (g := w.heap.size) rfl).blk 26 #[.bool sb, .slice Ab nb cb, .bool tb, .slice Bb mb db] (g := w.heap.size + 1) (by simp)
    obtain ⟨W0, hW0⟩ : ∃ W0, W0 = ((w.alloc (.cells #[.bool sa, .slice Aa na ca, .bool ta, .slice Ba ma da] 26)).alloc (.cells #[.bool sb, .slice Ab nb cb, .bool tb, .slice Bb mb db] 26)) := ⟨_, rfl⟩
    rw [← hW0] at hE
    have HW0 := Lib.hid hW0
    clear hW0
    go_enter Tryz.func16, Tryz.ntmps16
    go_upto_region 1 with (fail)
    rw [← HW0.out]
    obtain ⟨k1, k2, k3, k4⟩ := (hE.here.1.2).c4
    obtain ⟨k5, k6, k7, k8⟩ := (hE.here.2).c4
    go_wp2_with fail
    have hc := refSame_v (c := ca) (d := cb) (hE.here.1.1.1.2).1 (hE.here.1.1.2).1 la1 lb1
    rw [decide_eq_true h1] at hc
    refine hc.mono ?_
    clear hc
    clear k1 k2 k3 k4 k5 k6 k7 k8
    rintro e w1 ⟨rfl, hb⟩
    replace hE := hE.step hb
    clear hb
    obtain ⟨k9, k10, k11, k12⟩ := (hE.here.1.2).c4
    obtain ⟨k13, k14, k15, k16⟩ := (hE.here.2).c4
    go_wp2_with fail
    have hc := refSame_v (c := da) (d := db) (hE.here.1.1.1.2).2 (hE.here.1.1.2).2 la2 lb2
    refine hc.mono ?_
    clear hc
    clear k9 k10 k11 k12 k13 k14 k15 k16
    rintro e w2 ⟨rfl, hb⟩
    replace hE := hE.step hb
    clear hb
    obtain ⟨v, hv⟩ : ∃ v, v = decide (((a.den : Nat) : Int) = ((b.den : Nat) : Int)) := ⟨_, rfl⟩
    rw [← hv]
    have HV := Lib.hid hv
    clear hv
    have H1 := Lib.hid h1
    clear h1
    go_wp2_with fail
    go_ret
    refine ⟨ret_bool ?_, hE.bel⟩
    rw [HV.out]
    exact decide_eq_decide.2 ⟨fun h => Rat.ext H1.out (by omega), fun h => by rw [h]⟩
  · skip
    have hE := ((((Env.start w).fv ha).fv hb).blk 26 #[.bool sa, .slice Aa na ca, .bool ta, .slice Ba ma da] (g := w.heap.size) rfl).blk 26 #[.bool sb, .slice Ab nb cb, .bool tb, .slice Bb mb db] (g := w.heap.size + 1) (by simp)
    obtain ⟨W0, hW0⟩ : ∃ W0, W0 = ((w.alloc (.cells #[.bool sa, .slice Aa na ca, .bool ta, .slice Ba ma da] 26)).alloc (.cells #[.bool sb, .slice Ab nb cb, .bool tb, .slice Bb mb db] 26)) := ⟨_, rfl⟩
    rw [← hW0] at hE
    have HW0 := Lib.hid hW0
    clear hW0
    go_enter Tryz.func16, Tryz.ntmps16
    go_upto_region 1 with (fail)
    rw [← HW0.out]
    obtain ⟨k1, k2, k3, k4⟩ := (hE.here.1.2).c4
    obtain ⟨k5, k6, k7, k8⟩ := (hE.here.2).c4
    go_wp2_with fail
    have hc := refSame_v (c := ca) (d := cb) (hE.here.1.1.1.2).1 (hE.here.1.1.2).1 la1 lb1
    rw [decide_eq_false h1] at hc
    refine hc.mono ?_
    clear hc
    clear k1 k2 k3 k4 k5 k6 k7 k8
    rintro e w1 ⟨rfl, hb⟩
    replace hE := hE.step hb
    clear hb
    go_wp2_with fail
    go_ret
    exact ⟨ret_bool (decide_eq_false (fun h => h1 (by rw [h]))).symm, hE.bel⟩
end Go.Proofs.YtifikcemcflgjaaGreatDoor
namespace Go.Proofs.YtifikcemcflgjaaGreatDoor
open Go.RowKit

set_option maxRecDepth 100000 in
theorem rone_v {z : Int} {A : Option Addr} {n c : Nat} {w : World} (ha : WV w z false A n) (hn : n ≤ 1000000) :
    Calls Tryz.prog 65 #[.slice A n c] w fun e w' => e = .returned (.bool (decide (z = 1))) ∧ Below w.heap.size w w' := by
  obtain ⟨hs, hl, hr⟩ := ha
  have hz : ¬ z < 0 := of_decide_eq_false hs.symm
  by_cases h1 : n = 1
  · subst h1
    obtain ⟨b, o, rfl, hb, hc⟩ := hr (by omega)
    have c1 := hc 0 (by omega)
    rw [Nat.add_zero] at c1
    have hv : dgt b16 z.natAbs 0 = z.natAbs := by
      have h := vs_dgt_ln b16_two (x := z.natAbs)
      rw [← hl, vs_succ, vs_zero] at h
      simpa using h
    rw [hv] at c1
    have hlt : b < w.heap.size := hb
    clear hl hs hc hr hv
    by_cases h2 : z = 1
    · have t2 : (((z.natAbs : Nat) : Int) == 1) = true := beq_iff_eq.2 (by omega)
      have HE := Lib.hid (decide_eq_true h2)
      clear h2
      go_enter Tryz.func65, Tryz.ntmps65
      go_wp2_with fail
      go_ret
      exact ⟨ret_bool HE.out.symm, Below.refl _ _⟩
    · have t2 : (((z.natAbs : Nat) : Int) == 1) = false := beq_eq_false_iff_ne.2 (by omega)
      have HE := Lib.hid (decide_eq_false h2)
      clear h2
      go_enter Tryz.func65, Tryz.ntmps65
      go_wp2_with fail
      go_ret
      exact ⟨ret_bool HE.out.symm, Below.refl _ _⟩
  · have hz1 : ¬ z = 1 := fun e => h1 (by rw [hl, e]; decide)
    have HE := Lib.hid (decide_eq_false hz1)
    have t1 : ((n : Int) == 1) = false := beq_eq_false_iff_ne.2 (by omega)
    clear hl hz1 hs hr
    go_enter Tryz.func65, Tryz.ntmps65
    go_wp2_with fail
    go_ret
    exact ⟨ret_bool HE.out.symm, Below.refl _ _⟩
/-- Limbs without a sign. -/
theorem WV.nat {w : World} {x : Nat} {A : Option Addr} (h : Num16 w A x) : WV w (x : Int) false A (ln b16 x) := ⟨(decide_eq_false (by omega)).symm, by rw [Int.natAbs_natCast], by rw [Int.natAbs_natCast]; exact h⟩
/-- The call returned the limbs of x. -/
def LR (x : Nat) (w : World) (e : Ending) (w' : World) : Prop := ∃ A n c, e = .returned (.slice A n c) ∧ WV w' (x : Int) false A n ∧ Below w.heap.size w w'
/-- The call returned the limbs of x and of y. -/
def LR2 (x y : Nat) (w : World) (e : Ending) (w' : World) : Prop := ∃ A n c B m d, e = .returned (.tuple #[.slice A n c, .slice B m d]) ∧ WV w' (x : Int) false A n ∧ WV w' (y : Int) false B m ∧ Below w.heap.size w w'
section
variable {a b : Int} {s t : Bool} {A B : Option Addr} {n m c d : Nat} {w : World}
theorem rcommon_v (ha : WV w a s A n) (hb : WV w b t B m) (la : n ≤ 900000) (lb : m ≤ 900000) :
    Calls Tryz.prog 66 #[.slice A n c, .slice B m d] w (LR (Nat.gcd a.natAbs b.natAbs) w) := by
  obtain ⟨-, rfl, hA⟩ := ha
  obtain ⟨-, rfl, hB⟩ := hb
  exact (rcommon_any A B c d a.natAbs b.natAbs w hA hB la lb).mono fun _ _ ⟨A', c', he, h, hb⟩ => ⟨A', _, c', he, WV.nat h, hb⟩
theorem rdivided_v (ha : WV w a s A n) (hb : WV w b t B m) (la : n ≤ 900000) (lb : m ≤ 900000) (hb0 : b ≠ 0) :
    Calls Tryz.prog 106 #[.slice A n c, .slice B m d] w (LR2 (a.natAbs / b.natAbs) (a.natAbs % b.natAbs) w) := by
  obtain ⟨-, rfl, hA⟩ := ha
  obtain ⟨-, rfl, hB⟩ := hb
  exact (rdivided_any A B c d a.natAbs b.natAbs w hA hB (by omega) la lb).mono fun _ _ ⟨A', c', B', d', he, h, h', hb⟩ => ⟨A', _, c', B', _, d', he, WV.nat h, WV.nat h', hb⟩
theorem make_v (r : Bool) (ha : WV w a s A n) : Calls Tryz.prog 87 #[.bool r, .slice A n c] w (WR (toI r a.natAbs) w) := by
  obtain ⟨-, rfl, hA⟩ := ha
  refine (make_any r A (ln b16 a.natAbs) c w).mono fun e w' h => ?_
  have hs := sgn_of (z := toI r a.natAbs) (s := r) (x := a.natAbs) rfl
  obtain ⟨he, hb⟩ := h
  exact ⟨_, A, _, c, he, ⟨hs.2, by rw [hs.1], by rw [hs.1]; exact Num16.below hA hb⟩, hb⟩
end
/-- Lowest terms by absolute values. -/
theorem low_abs (a b : Int) (hb : b ≠ 0) : (Rat.divInt a b).num = toI (decide (a < 0) != decide (b < 0)) (a.natAbs / Nat.gcd a.natAbs b.natAbs) ∧ (((Rat.divInt a b).den : Nat) : Int) = toI false (b.natAbs / Nat.gcd a.natAbs b.natAbs) := by
  have hg : ((Nat.gcd a.natAbs b.natAbs : Nat) : Int) ∣ a := Int.ofNat_dvd_left.2 (Nat.gcd_dvd_left _ _)
  rcases Int.lt_or_lt_of_ne hb with h | h
  · have h1 := low_num (n := -a) (d := -b) (by omega)
    rw [low_neg, Int.natAbs_neg, Int.natAbs_neg] at h1
    refine ⟨?_, ?_⟩
    · rw [h1.1, Int.neg_ediv_of_dvd hg]
      by_cases ha : a < 0
      · rw [decide_eq_true ha, decide_eq_true h]
        obtain ⟨k, rfl⟩ : ∃ k : Nat, a = -(k : Int) := ⟨a.natAbs, by omega⟩
        rw [Int.natAbs_neg, Int.natAbs_natCast] at hg ⊢
        rw [Int.neg_ediv_of_dvd (Int.natCast_dvd_natCast.2 (Nat.gcd_dvd_left _ _)), Int.neg_neg]
        show _ = ((k / Nat.gcd k b.natAbs : Nat) : Int)
        rw [Int.natCast_ediv]
      · rw [decide_eq_false ha, decide_eq_true h]
        obtain ⟨k, rfl⟩ : ∃ k : Nat, a = (k : Int) := ⟨a.natAbs, by omega⟩
        rw [Int.natAbs_natCast]
        show _ = -((k / Nat.gcd k b.natAbs : Nat) : Int)
        rw [Int.natCast_ediv]
    · rw [h1.2]
      obtain ⟨k, rfl⟩ : ∃ k : Nat, b = -(k : Int) := ⟨b.natAbs, by omega⟩
      rw [Int.neg_neg, Int.natAbs_neg, Int.natAbs_natCast]
      show _ = ((k / Nat.gcd a.natAbs k : Nat) : Int)
      rw [Int.natCast_ediv]
  · have h1 := low_num (n := a) (d := b) h
    refine ⟨?_, ?_⟩
    · rw [h1.1, decide_eq_false (show ¬ b < 0 by omega)]
      by_cases ha : a < 0
      · rw [decide_eq_true ha]
        obtain ⟨k, rfl⟩ : ∃ k : Nat, a = -(k : Int) := ⟨a.natAbs, by omega⟩
        rw [Int.natAbs_neg, Int.natAbs_natCast] at hg ⊢
        rw [Int.neg_ediv_of_dvd (Int.natCast_dvd_natCast.2 (Nat.gcd_dvd_left _ _))]
        show _ = -((k / Nat.gcd k b.natAbs : Nat) : Int)
        rw [Int.natCast_ediv]
      · rw [decide_eq_false ha]
        obtain ⟨k, rfl⟩ : ∃ k : Nat, a = (k : Int) := ⟨a.natAbs, by omega⟩
        rw [Int.natAbs_natCast]
        show _ = ((k / Nat.gcd k b.natAbs : Nat) : Int)
        rw [Int.natCast_ediv]
    · rw [h1.2]
      obtain ⟨k, rfl⟩ : ∃ k : Nat, b = (k : Int) := ⟨b.natAbs, by omega⟩
      rw [Int.natAbs_natCast]
      show _ = ((k / Nat.gcd a.natAbs k : Nat) : Int)
      rw [Int.natCast_ediv]
set_option linter.unusedSimpArgs false in
set_option maxRecDepth 100000 in
set_option maxHeartbeats 2000000 in
theorem rlowest_v {a b : Int} {sa sb : Bool} {Aa Ab : Option Addr} {na ca nb cb : Nat} {w : World} (ha : WV w a sa Aa na) (hb : WV w b sb Ab nb) (la : na ≤ 900000) (lb : nb ≤ 900000) (hb0 : b ≠ 0) :
    Calls Tryz.prog 58 #[.agg #[.bool sa, .slice Aa na ca], .agg #[.bool sb, .slice Ab nb cb]] w (FR (Rat.divInt a b) w) := by
  by_cases hg1 : Nat.gcd a.natAbs b.natAbs = 1
  · skip
    have hE := ((((Env.start w).wv ha).wv hb).blk 24 #[.bool sa, .slice Aa na ca] (g := w.heap.size) rfl).blk 24 #[.bool sb, .slice Ab nb cb] (g := w.heap.size + 1) (by simp)
    have hE := hE.blk 26 #[.bool false, .slice none 0 0, .bool false, .slice none 0 0] (g := w.heap.size + 1 + 1) (by simp)
    obtain ⟨W0, hW0⟩ : ∃ W0, W0 = (((w.alloc (.cells #[.bool sa, .slice Aa na ca] 24)).alloc (.cells #[.bool sb, .slice Ab nb cb] 24)).alloc (.cells #[.bool false, .slice none 0 0, .bool false, .slice none 0 0] 26)) := ⟨_, rfl⟩
    rw [← hW0] at hE
    have HW0 := Lib.hid hW0
    clear hW0
    go_enter Tryz.func58, Tryz.ntmps58
    go_upto_region 1 with (fail)
    rw [← HW0.out]
    obtain ⟨k1, k2⟩ := (hE.here.1.1.2).c2
    obtain ⟨k3, k4⟩ := (hE.here.1.2).c2
    go_wp2_with fail
    have hc := rcommon_v (c := ca) (d := cb) hE.here.1.1.1.1.2 hE.here.1.1.1.2 la lb
    refine hc.mono ?_
    clear hc
    clear k1 k2 k3 k4
    rintro e w5 ⟨Ag, ng, cg, rfl, hg, hb⟩
    replace hE := hE.step hb
    clear hb
    replace hE := hE.wv hg
    clear hg
    have lg : ng ≤ 900000 := by rw [(hE.here.2).len, Int.natAbs_natCast]; refine Nat.le_trans (ln_mono b16_two (Nat.gcd_le_right _ (show 0 < b.natAbs by omega))) ?_; rw [← (hE.here.1.1.1.1.2).len]; exact lb
    go_wp2_with fail
    have hc := rone_v (c := cg) hE.here.2 (by omega)
    rw [decide_eq_true (show ((Nat.gcd a.natAbs b.natAbs : Nat) : Int) = 1 by omega)] at hc
    refine hc.mono ?_
    clear hc
    rintro e w20 ⟨rfl, hb⟩
    replace hE := hE.step hb
    clear hb
    obtain ⟨e1, e2⟩ := low_abs a b hb0
    rw [← (hE.here.1.1.1.1.1.2).sgn, ← (hE.here.1.1.1.1.2).sgn] at e1
    rw [hg1, Nat.div_one] at e1 e2
    have E1 := Lib.hid e1
    have E2 := Lib.hid e2
    have HG := Lib.hid hg1
    clear e1 e2 hg1
    go_upto_region 3 with (fail)
    replace hE := hE.drew
    refine wp_region_held_drew (S := fun w' => w'.cell? ⟨w.heap.size, 0, none⟩ = some (.bool sa) ∧ w'.cell? ⟨w.heap.size, 1, none⟩ = some (.slice Aa na ca) ∧ w'.cell? ⟨w.heap.size + 1, 0, none⟩ = some (.bool sb) ∧ w'.cell? ⟨w.heap.size + 1, 1, none⟩ = some (.slice Ab nb cb)) (by kernel_rfl) (hE.here.1.1.1.2.j2 hE.here.1.1.2.c2) (fun hHeld => ?_)
    refine tk 0 ?_
    try simp only [PL]
    refine tk 1 ?_
    try simp only [PL]
    refine tk 2 ?_
    try simp only [PL]
    refine tk 3 ?_
    try simp only [PL]
    refine tk 4 ?_
    try simp only [PL]
    refine tk 5 ?_
    try simp only [PL]
    refine tk 6 ?_
    try simp only [PL]
    refine tk 8 ?_
    try simp only [PL]
    refine tk 9 ?_
    try simp only [PL]
    refine r1 7 (fun K hK => ?_)
    go_simp
    have hc := make_v (c := ca) (sa != sb) hE.here.1.1.1.1.1.2
    refine hc.mono ?_
    clear hc
    rintro e w6 ⟨sx, Ax, nx, cx, rfl, hx, hb⟩
    replace hE := hE.step hb
    clear hb
    replace hE := hE.wv hx
    clear hx
    go_wp2_with fail
    refine hK.out _ _ (hE.here.1.1.1.1.2.j2 hE.here.1.1.1.2.c2) (fun hHeld => ?_)
    clear hK K
    try simp only [PL]
    refine r1 10 (fun K hK => ?_)
    go_simp
    have hc := make_v (c := cb) false hE.here.1.1.1.1.1.2
    refine hc.mono ?_
    clear hc
    rintro e w7 ⟨sy, Ay, ny, cy, rfl, hy, hb⟩
    replace hE := hE.step hb
    clear hb
    replace hE := hE.wv hy
    clear hy
    have hfv : FV w7 (Rat.divInt a b) sx Ax nx sy Ay ny := ⟨by rw [E1.out]; exact hE.here.1.2, by rw [E2.out]; exact hE.here.2⟩
    replace hE := hE.fv hfv
    clear hfv
    go_wp2_with fail
    refine hK.out _ _ (hE.here.1.1.1.1.1.1.2.j2 hE.here.1.1.1.1.1.2.c2) (fun hHeld => ?_)
    clear hK K
    try simp only [PL]
    refine tk 11 ?_
    try simp only [PL]
    refine r1 12 (fun K hK => ?_)
    have hRl : w.heap.size ≤ w.heap.size + 1 + 1 := by omega
    obtain ⟨WW, hWW, hB, hV, hBel⟩ := ret_frac hE hE.here.1.1.1.1.2 hRl hE.here.2 cx cy
    obtain ⟨x0, x1, x2, x3⟩ := (hE.here.1.1.1.1.2).c4
    obtain ⟨fz0, fz1, fz2, fz3⟩ := hE.here.1.1.1.1.2.f4
    have HWW := Lib.hid hWW
    clear hWW
    have q8 := (hE.here.1.1.1.1.1.1.2).far4 (R := w.heap.size + 1 + 1) (by omega) (.bool sx) (.slice Ax nx cx) (.bool sy) (.slice Ay ny cy)
    rw [← HWW.out] at q8
    have q9 := (hE.here.1.1.1.1.1.2).far4 (R := w.heap.size + 1 + 1) (by omega) (.bool sx) (.slice Ax nx cx) (.bool sy) (.slice Ay ny cy)
    rw [← HWW.out] at q9
    go_simp
    rw [← HWW.out]
    refine hK.out _ _ (q8.j2 q9.c2) (fun hHeld => ?_)
    clear hK K
    try simp only [PL]
    refine wpAnyH_done (by kernel_rfl) ?_ _
    go_wp2_with fail
    obtain ⟨y0, y1, y2, y3⟩ := hB.c4
    refine bodyPost_ret (v := .agg #[.bool sx, .slice Ax nx cx, .bool sy, .slice Ay ny cy]) (by simp [results, Tryz.results58, go_sem, y0, y1, y2, y3]) rfl ?_
    exact ⟨sx, Ax, nx, cx, sy, Ay, ny, cy, rfl, hV, hBel⟩
  · skip
    have hE := ((((Env.start w).wv ha).wv hb).blk 24 #[.bool sa, .slice Aa na ca] (g := w.heap.size) rfl).blk 24 #[.bool sb, .slice Ab nb cb] (g := w.heap.size + 1) (by simp)
    have hE := hE.blk 26 #[.bool false, .slice none 0 0, .bool false, .slice none 0 0] (g := w.heap.size + 1 + 1) (by simp)
    obtain ⟨W0, hW0⟩ : ∃ W0, W0 = (((w.alloc (.cells #[.bool sa, .slice Aa na ca] 24)).alloc (.cells #[.bool sb, .slice Ab nb cb] 24)).alloc (.cells #[.bool false, .slice none 0 0, .bool false, .slice none 0 0] 26)) := ⟨_, rfl⟩
    rw [← hW0] at hE
    have HW0 := Lib.hid hW0
    clear hW0
    go_enter Tryz.func58, Tryz.ntmps58
    go_upto_region 1 with (fail)
    rw [← HW0.out]
    obtain ⟨k1, k2⟩ := (hE.here.1.1.2).c2
    obtain ⟨k3, k4⟩ := (hE.here.1.2).c2
    go_wp2_with fail
    have hc := rcommon_v (c := ca) (d := cb) hE.here.1.1.1.1.2 hE.here.1.1.1.2 la lb
    refine hc.mono ?_
    clear hc
    clear k1 k2 k3 k4
    rintro e w5 ⟨Ag, ng, cg, rfl, hg, hb⟩
    replace hE := hE.step hb
    clear hb
    replace hE := hE.wv hg
    clear hg
    have lg : ng ≤ 900000 := by rw [(hE.here.2).len, Int.natAbs_natCast]; refine Nat.le_trans (ln_mono b16_two (Nat.gcd_le_right _ (show 0 < b.natAbs by omega))) ?_; rw [← (hE.here.1.1.1.1.2).len]; exact lb
    go_wp2_with fail
    have hc := rone_v (c := cg) hE.here.2 (by omega)
    rw [decide_eq_false (show ¬ ((Nat.gcd a.natAbs b.natAbs : Nat) : Int) = 1 by omega)] at hc
    refine hc.mono ?_
    clear hc
    rintro e w20 ⟨rfl, hb⟩
    replace hE := hE.step hb
    clear hb
    obtain ⟨e1, e2⟩ := low_abs a b hb0
    rw [← (hE.here.1.1.1.1.1.2).sgn, ← (hE.here.1.1.1.1.2).sgn] at e1
    have E1 := Lib.hid e1
    have E2 := Lib.hid e2
    have HG := Lib.hid hg1
    clear e1 e2 hg1
    have hgn : ((Nat.gcd a.natAbs b.natAbs : Nat) : Int) ≠ 0 := gcd_ne hb0
    obtain ⟨k6, k7⟩ := (hE.here.1.1.1.2).c2
    go_wp2_with fail
    have hc := rdivided_v (c := ca) (d := cg) hE.here.1.1.1.1.1.2 hE.here.2 la lg hgn
    rw [Int.natAbs_natCast] at hc
    refine hc.mono ?_
    clear hc
    clear k6 k7
    rintro e w8 ⟨Ap, np, cp, Ar, nr, cr, rfl, hp, hr, hb⟩
    replace hE := hE.step hb
    clear hb
    replace hE := (hE.wv hp).wv hr
    clear hp hr
    obtain ⟨k9, k10⟩ := (hE.here.1.1.1.1.2).c2
    go_wp2_with fail
    have hc := rdivided_v (c := cb) (d := cg) hE.here.1.1.1.1.1.1.2 hE.here.1.1.2 lb lg hgn
    rw [Int.natAbs_natCast] at hc
    refine hc.mono ?_
    clear hc
    clear k9 k10
    rintro e w11 ⟨Aq, nq, cq, Au, nu, cu, rfl, hq, hu, hb⟩
    replace hE := hE.step hb
    clear hb
    replace hE := (hE.wv hq).wv hu
    clear hq hu
    obtain ⟨k12, k13⟩ := (hE.here.1.1.1.1.1.1.1.2).c2
    obtain ⟨k14, k15⟩ := (hE.here.1.1.1.1.1.1.2).c2
    go_wp2_with fail
    have hc := make_v (c := cp) (sa != sb) hE.here.1.1.1.2
    rw [Int.natAbs_natCast] at hc
    refine hc.mono ?_
    clear hc
    clear k12 k13 k14 k15
    rintro e w16 ⟨sx, Ax, nx, cx, rfl, hx, hb⟩
    replace hE := hE.step hb
    clear hb
    replace hE := hE.wv hx
    clear hx
    go_wp2_with fail
    have hc := make_v (c := cq) false hE.here.1.1.2
    rw [Int.natAbs_natCast] at hc
    refine hc.mono ?_
    clear hc
    rintro e w17 ⟨sy, Ay, ny, cy, rfl, hy, hb⟩
    replace hE := hE.step hb
    clear hb
    replace hE := hE.wv hy
    clear hy
    have hfv : FV w17 (Rat.divInt a b) sx Ax nx sy Ay ny := ⟨by rw [E1.out]; exact hE.here.1.2, by rw [E2.out]; exact hE.here.2⟩
    replace hE := hE.fv hfv
    clear hfv
    have hRl : w.heap.size ≤ w.heap.size + 1 + 1 := by omega
    obtain ⟨WW, hWW, hB, hV, hBel⟩ := ret_frac hE hE.here.1.1.1.1.1.1.1.1.2 hRl hE.here.2 cx cy
    obtain ⟨x0, x1, x2, x3⟩ := (hE.here.1.1.1.1.1.1.1.1.2).c4
    obtain ⟨fz0, fz1, fz2, fz3⟩ := hE.here.1.1.1.1.1.1.1.1.2.f4
    have HWW := Lib.hid hWW
    clear hWW
    go_wp2_with fail
    rw [← HWW.out]
    obtain ⟨y0, y1, y2, y3⟩ := hB.c4
    refine bodyPost_ret (v := .agg #[.bool sx, .slice Ax nx cx, .bool sy, .slice Ay ny cy]) (by simp [results, Tryz.results58, go_sem, y0, y1, y2, y3]) rfl ?_
    exact ⟨sx, Ax, nx, cx, sy, Ay, ny, cy, rfl, hV, hBel⟩
theorem rfromInt_v (z : Int) (w : World) (h1 : -9223372036854775808 ≤ z) (h2 : z ≤ 9223372036854775807) : Calls Tryz.prog 34 #[.int .i64 z] w (WR z w) :=
  (refFromInt_any z w h1 h2).mono fun _ _ h => by obtain ⟨s, A, n, c, he, ho, hb⟩ := h.vi; exact ⟨s, A, n, c, he, ho.v, hb⟩
theorem small_len {w : World} {z : Int} {s : Bool} {A : Option Addr} {n : Nat} (h : WV w z s A n) (h1 : -9223372036854775808 ≤ z) (h2 : z ≤ 9223372036854775807) : n ≤ 4 := by
  rw [h.len]; exact ln_int h1 h2
set_option linter.unusedSimpArgs false in
set_option maxRecDepth 100000 in
set_option maxHeartbeats 2000000 in
theorem rquick_v (n d : Int) (w : World) (h1 : -9223372036854775808 ≤ n) (h2 : n ≤ 9223372036854775807) (h3 : -9223372036854775808 ≤ d) (h4 : d ≤ 9223372036854775807) (hd : d ≠ 0) :
    Calls Tryz.prog 88 #[.int .i64 n, .int .i64 d] w (FR (Rat.divInt n d) w) := by
  have hE := Env.start w
  have hE := hE.blk 26 #[.bool false, .slice none 0 0, .bool false, .slice none 0 0] (g := w.heap.size) rfl
  obtain ⟨W0, hW0⟩ : ∃ W0, W0 = (w.alloc (.cells #[.bool false, .slice none 0 0, .bool false, .slice none 0 0] 26)) := ⟨_, rfl⟩
  rw [← hW0] at hE
  have HW0 := Lib.hid hW0
  clear hW0
  go_enter Tryz.func88, Tryz.ntmps88
  go_upto_region 1 with (fail)
  rw [← HW0.out]
  go_wp2_with fail
  have hc := rfromInt_v n W0 h1 h2
  refine hc.mono ?_
  clear hc
  rintro e w1 ⟨sx, Ax, nx, cx, rfl, hx, hb⟩
  replace hE := hE.step hb
  clear hb
  replace hE := hE.wv hx
  clear hx
  go_wp2_with fail
  have hc := rfromInt_v d w1 h3 h4
  refine hc.mono ?_
  clear hc
  rintro e w2 ⟨sy, Ay, ny, cy, rfl, hy, hb⟩
  replace hE := hE.step hb
  clear hb
  replace hE := hE.wv hy
  clear hy
  have lx := small_len hE.here.1.2 h1 h2
  have ly := small_len hE.here.2 h3 h4
  go_wp2_with fail
  have hc := rlowest_v (ca := cx) (cb := cy) hE.here.1.2 hE.here.2 (Nat.le_trans lx (by decide)) (Nat.le_trans ly (by decide)) hd
  refine hc.mono ?_
  clear hc
  rintro e w3 ⟨sf, Af, nf, cf, tf, Bf, mf, df, rfl, hf, hb⟩
  replace hE := hE.step hb
  clear hb
  replace hE := hE.fv hf
  clear hf
  have hRl : w.heap.size ≤ w.heap.size := by omega
  obtain ⟨WW, hWW, hB, hV, hBel⟩ := ret_frac hE hE.here.1.1.1.2 hRl hE.here.2 cf df
  obtain ⟨x0, x1, x2, x3⟩ := (hE.here.1.1.1.2).c4
  obtain ⟨fz0, fz1, fz2, fz3⟩ := hE.here.1.1.1.2.f4
  have HWW := Lib.hid hWW
  clear hWW
  go_wp2_with fail
  rw [← HWW.out]
  obtain ⟨y0, y1, y2, y3⟩ := hB.c4
  refine bodyPost_ret (v := .agg #[.bool sf, .slice Af nf cf, .bool tf, .slice Bf mf df]) (by simp [results, Tryz.results88, go_sem, y0, y1, y2, y3]) rfl ?_
  exact ⟨sf, Af, nf, cf, tf, Bf, mf, df, rfl, hV, hBel⟩
end Go.Proofs.YtifikcemcflgjaaGreatDoor
namespace Go.Proofs.YtifikcemcflgjaaGreatDoor
open Go.RowKit

theorem fv_lens {w : World} {q : Rat} {s t : Bool} {A B : Option Addr} {n m k : Nat} (_ : FV w q s A n t B m) (hq : fl q ≤ k) : ln b16 q.num.natAbs ≤ k ∧ ln b16 ((q.den : Nat) : Int).natAbs ≤ k := by
  rw [Int.natAbs_natCast]
  exact fl_le.1 hq
theorem FV.neg {w : World} {q : Rat} {s s' t : Bool} {A B : Option Addr} {n m : Nat} (h : FV w q s A n t B m) (hn : WV w (-q.num) s' A n) : FV w (-q) s' A n t B m := ⟨by rw [Rat.neg_num]; exact hn, by rw [Rat.neg_den]; exact h.2⟩
theorem fl_neg (q : Rat) : fl (-q) = fl q := by
  unfold fl
  rw [Rat.neg_num, Rat.neg_den, Int.natAbs_neg]
end Go.Proofs.YtifikcemcflgjaaGreatDoor
namespace Go.Proofs.YtifikcemcflgjaaGreatDoor
open Go.RowKit

/-- The call returned the whole number z and no error. -/
def WOK (z : Int) (w : World) (e : Ending) (w' : World) : Prop := ∃ s A n c, e = .returned (.tuple #[.agg #[.bool s, .slice A n c], .int .i64 0]) ∧ WV w' z s A n ∧ Below w.heap.size w w'
theorem whole_valid_v {z : Int} {s : Bool} {A : Option Addr} {n c : Nat} {w : World} (h : WV w z s A n) (hn : n ≤ 1024) :
    Calls Tryz.prog 55 #[.agg #[.bool s, .slice A n c]] w fun e w' => e = .returned (.bool true) ∧ Below w.heap.size w w' := by
  have hr : Rd w.heap.size .u16 w A n (dgt b16 z.natAbs) := by have := h.2.2; unfold Num16 at this; rwa [← h.len] at this
  have hk := okW_num (z := z) (by rw [← h.len]; exact hn)
  rw [← h.sgn, ← h.len] at hk
  exact whole_valid_any s A n c _ w hr (fun i _ => dgt16_lt _ i) (by omega) true hk
/-- Rounding up. -/
def ceilQ (a : Rat) : Int := if a.num.fmod (a.den : Int) = 0 then a.num.fdiv (a.den : Int) else a.num.fdiv (a.den : Int) + 1
theorem den_nz (a : Rat) : ((a.den : Nat) : Int) ≠ 0 := by have := a.den_pos; omega
set_option linter.unusedSimpArgs false in
set_option maxRecDepth 100000 in
theorem ftzero_v {q : Rat} {s t : Bool} {A B : Option Addr} {n m c d : Nat} {w : World} (ha : FV w q s A n t B m) (r : Bool) (hr : decide (q.num = 0) = r) :
    Calls Tryz.prog 46 #[.agg #[.bool s, .slice A n c, .bool t, .slice B m d]] w fun e w' => e = .returned (.bool r) ∧ Below w.heap.size w w' := by
  by_cases h0 : q.num = 0
  · rw [decide_eq_true h0] at hr
    subst hr
    have hE := ((Env.start w).fv ha).blk 63 #[.bool s, .slice A n c, .bool t, .slice B m d] (g := w.heap.size) rfl
    obtain ⟨W0, hW0⟩ : ∃ W0, W0 = (w.alloc (.cells #[.bool s, .slice A n c, .bool t, .slice B m d] 63)) := ⟨_, rfl⟩
    rw [← hW0] at hE
    have HW0 := Lib.hid hW0
    clear hW0
    go_enter Tryz.func46, Tryz.ntmps46
    go_upto_region 1 with (fail)
    rw [← HW0.out]
    obtain rfl : n = 0 := by rw [ha.1.len, h0]; exact ln_zero
    obtain ⟨k1, k2, k3, k4⟩ := (hE.here.2).c4
    go_wp2_with fail
    go_ret
    exact ⟨rfl, hE.bel⟩
  · rw [decide_eq_false h0] at hr
    subst hr
    have hE := ((Env.start w).fv ha).blk 63 #[.bool s, .slice A n c, .bool t, .slice B m d] (g := w.heap.size) rfl
    obtain ⟨W0, hW0⟩ : ∃ W0, W0 = (w.alloc (.cells #[.bool s, .slice A n c, .bool t, .slice B m d] 63)) := ⟨_, rfl⟩
    rw [← hW0] at hE
    have HW0 := Lib.hid hW0
    clear hW0
    go_enter Tryz.func46, Tryz.ntmps46
    go_upto_region 1 with (fail)
    rw [← HW0.out]
    have hz : 0 < n := by rw [ha.1.len]; exact (ln_pos b16_two).2 (by have : q.num ≠ 0 := h0; omega)
    have t1 : ((n : Int) == 0) = false := beq_eq_false_iff_ne.2 (by omega)
    have t2 : (n == 0) = false := beq_eq_false_iff_ne.2 (by omega)
    obtain ⟨k1, k2, k3, k4⟩ := (hE.here.2).c4
    go_wp2_with fail
    go_ret
    exact ⟨rfl, hE.bel⟩
set_option linter.unusedSimpArgs false in
set_option maxRecDepth 100000 in
set_option maxHeartbeats 2000000 in
theorem fmake_v {x y : Int} {sx sy : Bool} {Ax Ay : Option Addr} {nx cx ny cy : Nat} {w : World} (hx : WV w x sx Ax nx) (hy : WV w y sy Ay ny) (la : nx ≤ 1024) (lb : ny ≤ 1024) (hb0 : y ≠ 0) (lr : fl (Rat.divInt x y) ≤ 256) :
    Calls Tryz.prog 22 #[.agg #[.bool sx, .slice Ax nx cx], .agg #[.bool sy, .slice Ay ny cy]] w (FOK (Rat.divInt x y) w) := by
  have hE := ((((Env.start w).wv hx).wv hy).blk 24 #[.bool sx, .slice Ax nx cx] (g := w.heap.size) rfl).blk 24 #[.bool sy, .slice Ay ny cy] (g := w.heap.size + 1) (by simp)
  have hE := hE.blk 26 #[.bool false, .slice none 0 0, .bool false, .slice none 0 0] (g := w.heap.size + 1 + 1) (by simp)
  obtain ⟨W0, hW0⟩ : ∃ W0, W0 = (((w.alloc (.cells #[.bool sx, .slice Ax nx cx] 24)).alloc (.cells #[.bool sy, .slice Ay ny cy] 24)).alloc (.cells #[.bool false, .slice none 0 0, .bool false, .slice none 0 0] 26)) := ⟨_, rfl⟩
  rw [← hW0] at hE
  have HW0 := Lib.hid hW0
  clear hW0
  go_enter Tryz.func22, Tryz.ntmps22
  go_upto_region 1 with (fail)
  rw [← HW0.out]
  have hz : 0 < ny := by rw [hy.len]; exact (ln_pos b16_two).2 (by omega)
  have t1 : ((ny : Int) == 0) = false := beq_eq_false_iff_ne.2 (by omega)
  have t2 : (ny == 0) = false := beq_eq_false_iff_ne.2 (by omega)
  obtain ⟨k1, k2⟩ := (hE.here.1.1.2).c2
  obtain ⟨k3, k4⟩ := (hE.here.1.2).c2
  go_wp2_with fail
  have hc := whole_valid_v (c := cx) hE.here.1.1.1.1.2 la
  refine hc.mono ?_
  clear hc
  clear k1 k2 k3 k4
  rintro e w5 ⟨rfl, hb⟩
  replace hE := hE.step hb
  clear hb
  obtain ⟨k6, k7⟩ := (hE.here.1.1.2).c2
  obtain ⟨k8, k9⟩ := (hE.here.1.2).c2
  go_wp2_with fail
  have hc := whole_valid_v (c := cy) hE.here.1.1.1.2 lb
  refine hc.mono ?_
  clear hc
  clear k6 k7 k8 k9
  rintro e w10 ⟨rfl, hb⟩
  replace hE := hE.step hb
  clear hb
  obtain ⟨k11, k12⟩ := (hE.here.1.1.2).c2
  obtain ⟨k13, k14⟩ := (hE.here.1.2).c2
  go_wp2_with fail
  have hc := flowest_v (ca := cx) (cb := cy) hE.here.1.1.1.1.2 hE.here.1.1.1.2 la lb hb0
  refine hc.mono ?_
  clear hc
  clear k11 k12 k13 k14
  rintro e w15 ⟨sf, Af, nf, cf, tf, Bf, mf, df, rfl, hf, hb⟩
  replace hE := hE.step hb
  clear hb
  replace hE := hE.fv hf
  clear hf
  go_wp2_with fail
  have hc := fresult_ok (c := cf) (d := df) hE.here.2 lr
  refine hc.mono ?_
  clear hc
  rintro e w16 ⟨sr, Ar, nr, cr, tr, Br, mr, dr, rfl, hr, hb⟩
  replace hE := hE.step hb
  clear hb
  replace hE := hE.fv hr
  clear hr
  have hRl : w.heap.size ≤ w.heap.size + 1 + 1 := by omega
  obtain ⟨WW, hWW, hB, hV, hBel⟩ := ret_frac hE hE.here.1.1.2 hRl hE.here.2 cr dr
  obtain ⟨x0, x1, x2, x3⟩ := (hE.here.1.1.2).c4
  obtain ⟨fz0, fz1, fz2, fz3⟩ := hE.here.1.1.2.f4
  have HWW := Lib.hid hWW
  clear hWW
  go_wp2_with fail
  clear x0 x1 x2 x3
  rw [← HWW.out]
  obtain ⟨y0, y1, y2, y3⟩ := hB.c4
  refine bodyPost_ret (v := .tuple #[.agg #[.bool sr, .slice Ar nr cr, .bool tr, .slice Br mr dr], .int .i64 0]) (by simp [results, Tryz.results22, go_sem, y0, y1, y2, y3]) rfl ?_
  exact ⟨sr, Ar, nr, cr, tr, Br, mr, dr, rfl, hV, hBel⟩
set_option linter.unusedSimpArgs false in
set_option maxRecDepth 100000 in
set_option maxHeartbeats 4000000 in
theorem fdiv_v {a b : Rat} {sa ta sb tb : Bool} {Aa Ba Ab Bb : Option Addr} {na ca ma da nb cb mb db : Nat} {w : World} (ha : FV w a sa Aa na ta Ba ma) (hb : FV w b sb Ab nb tb Bb mb) (la : fl a ≤ 256) (lb : fl b ≤ 256) (hb0 : b.num ≠ 0) (lr : fl (a / b) ≤ 256) :
    Calls Tryz.prog 12 #[.agg #[.bool sa, .slice Aa na ca, .bool ta, .slice Ba ma da], .agg #[.bool sb, .slice Ab nb cb, .bool tb, .slice Bb mb db]] w (FOK (a / b) w) := by
  have hE := ((((Env.start w).fv ha).fv hb).blk 26 #[.bool sa, .slice Aa na ca, .bool ta, .slice Ba ma da] (g := w.heap.size) rfl).blk 26 #[.bool sb, .slice Ab nb cb, .bool tb, .slice Bb mb db] (g := w.heap.size + 1) (by simp)
  have hE := hE.blk 26 #[.bool false, .slice none 0 0, .bool false, .slice none 0 0] (g := w.heap.size + 1 + 1) (by simp)
  obtain ⟨W0, hW0⟩ : ∃ W0, W0 = (((w.alloc (.cells #[.bool sa, .slice Aa na ca, .bool ta, .slice Ba ma da] 26)).alloc (.cells #[.bool sb, .slice Ab nb cb, .bool tb, .slice Bb mb db] 26)).alloc (.cells #[.bool false, .slice none 0 0, .bool false, .slice none 0 0] 26)) := ⟨_, rfl⟩
  rw [← hW0] at hE
  have HW0 := Lib.hid hW0
  clear hW0
  go_enter Tryz.func12, Tryz.ntmps12
  go_upto_region 1 with (fail)
  rw [← HW0.out]
  obtain ⟨k1, k2, k3, k4⟩ := (hE.here.1.1.2).c4
  obtain ⟨k5, k6, k7, k8⟩ := (hE.here.1.2).c4
  go_wp2_with fail
  have hc := fallValid_v (c := ca) (d := da) (c2 := cb) (d2 := db) hE.here.1.1.1.1.2 hE.here.1.1.1.2 la lb
  refine hc.mono ?_
  clear hc
  clear k1 k2 k3 k4 k5 k6 k7 k8
  rintro e w9 ⟨rfl, hb⟩
  replace hE := hE.step hb
  clear hb
  obtain ⟨k10, k11, k12, k13⟩ := (hE.here.1.2).c4
  go_wp2_with fail
  have hc := ftzero_v (c := cb) (d := db) hE.here.1.1.1.2 false (decide_eq_false hb0)
  refine hc.mono ?_
  clear hc
  clear k10 k11 k12 k13
  rintro e w14 ⟨rfl, hb⟩
  replace hE := hE.step hb
  clear hb
  go_upto_region 5 with (fail)
  obtain ⟨qa1, qa2⟩ := fv_lens (hE.here.1.1.1.1.2) la
  obtain ⟨qb1, qb2⟩ := fv_lens (hE.here.1.1.1.2) lb
  obtain ⟨ha1, ha2⟩ := (hE.here.1.1.1.1.2).ln la
  obtain ⟨hb1, hb2⟩ := (hE.here.1.1.1.2).ln lb
  replace hE := hE.drew
  refine wp_region_held_drew (S := fun w' => w'.cell? ⟨w.heap.size, 0, none⟩ = some (.bool sa) ∧ w'.cell? ⟨w.heap.size, 1, none⟩ = some (.slice Aa na ca) ∧ w'.cell? ⟨w.heap.size, 2, none⟩ = some (.bool ta) ∧ w'.cell? ⟨w.heap.size, 3, none⟩ = some (.slice Ba ma da) ∧ w'.cell? ⟨w.heap.size + 1, 0, none⟩ = some (.bool sb) ∧ w'.cell? ⟨w.heap.size + 1, 1, none⟩ = some (.slice Ab nb cb) ∧ w'.cell? ⟨w.heap.size + 1, 2, none⟩ = some (.bool tb) ∧ w'.cell? ⟨w.heap.size + 1, 3, none⟩ = some (.slice Bb mb db)) (by kernel_rfl) (hE.here.1.1.2.j4 hE.here.1.2.c4) (fun hHeld => ?_)
  refine tk 0 ?_
  try simp only [PL]
  refine tk 1 ?_
  try simp only [PL]
  refine tk 2 ?_
  try simp only [PL]
  refine tk 3 ?_
  try simp only [PL]
  refine tk 5 ?_
  try simp only [PL]
  refine tk 6 ?_
  try simp only [PL]
  refine tk 7 ?_
  try simp only [PL]
  refine tk 8 ?_
  try simp only [PL]
  refine r1 4 (fun K hK => ?_)
  go_simp
  have hc := ftimes_v (ca := ca) (cb := db) (hE.here.1.1.1.1.2).1 (hE.here.1.1.1.2).2 (Nat.le_trans ha1 (by decide)) (Nat.le_trans hb2 (by decide)) (Nat.le_trans (ln_mulZ (m := 256) (n := 256) qa1 qb2) (by decide))
  refine hc.mono ?_
  clear hc
  rintro e w15 ⟨su, Au, nu, cu, rfl, hu, hb⟩
  replace hE := hE.step hb
  clear hb
  replace hE := hE.wv hu
  clear hu
  have lu : nu ≤ 512 := by rw [(hE.here.2).len]; exact (ln_mulZ (m := 256) (n := 256) qa1 qb2)
  go_wp2_with fail
  refine hK.out _ _ (hE.here.1.1.1.2.j4 hE.here.1.1.2.c4) (fun hHeld => ?_)
  clear hK K
  try simp only [PL]
  refine r1 9 (fun K hK => ?_)
  go_simp
  have hc := ftimes_v (ca := da) (cb := cb) (hE.here.1.1.1.1.1.2).2 (hE.here.1.1.1.1.2).1 (Nat.le_trans ha2 (by decide)) (Nat.le_trans hb1 (by decide)) (Nat.le_trans (ln_mulZ (m := 256) (n := 256) qa2 qb1) (by decide))
  refine hc.mono ?_
  clear hc
  rintro e w16 ⟨sv, Av, nv, cv, rfl, hv, hb⟩
  replace hE := hE.step hb
  clear hb
  replace hE := hE.wv hv
  clear hv
  have lv : nv ≤ 512 := by rw [(hE.here.2).len]; exact (ln_mulZ (m := 256) (n := 256) qa2 qb1)
  go_wp2_with fail
  refine hK.out _ _ (hE.here.1.1.1.1.2.j4 hE.here.1.1.1.2.c4) (fun hHeld => ?_)
  clear hK K
  try simp only [PL]
  refine r1 10 (fun K hK => ?_)
  go_simp
  have hc := flowest_v (ca := cu) (cb := cv) hE.here.1.2 hE.here.2 (Nat.le_trans lu (by decide)) (Nat.le_trans lv (by decide)) (Int.mul_ne_zero (den_nz a) hb0)
  rw [div_low a b] at hc
  refine hc.mono ?_
  clear hc
  rintro e w17 ⟨sf, Af, nf, cf, tf, Bf, mf, df, rfl, hf, hb⟩
  replace hE := hE.step hb
  clear hb
  replace hE := hE.fv hf
  clear hf
  go_wp2_with fail
  refine hK.out _ _ (hE.here.1.1.1.1.1.2.j4 hE.here.1.1.1.1.2.c4) (fun hHeld => ?_)
  clear hK K
  try simp only [PL]
  refine r1 11 (fun K hK => ?_)
  go_simp
  have hc := fresult_ok (c := cf) (d := df) hE.here.2 lr
  refine hc.mono ?_
  clear hc
  rintro e w18 ⟨sr, Ar, nr, cr, tr, Br, mr, dr, rfl, hr, hb⟩
  replace hE := hE.step hb
  clear hb
  replace hE := hE.fv hr
  clear hr
  go_wp2_with fail
  refine hK.out _ _ (hE.here.1.1.1.1.1.1.2.j4 hE.here.1.1.1.1.1.2.c4) (fun hHeld => ?_)
  clear hK K
  try simp only [PL]
  refine tk 12 ?_
  try simp only [PL]
  refine tk 13 ?_
  try simp only [PL]
  refine r1 14 (fun K hK => ?_)
  have hRl : w.heap.size ≤ w.heap.size + 1 + 1 := by omega
  obtain ⟨WW, hWW, hB, hV, hBel⟩ := ret_frac hE hE.here.1.1.1.1.2 hRl hE.here.2 cr dr
  obtain ⟨x0, x1, x2, x3⟩ := (hE.here.1.1.1.1.2).c4
  obtain ⟨fz0, fz1, fz2, fz3⟩ := hE.here.1.1.1.1.2.f4
  have HWW := Lib.hid hWW
  clear hWW
  have q19 := (hE.here.1.1.1.1.1.1.2).far4 (R := w.heap.size + 1 + 1) (by omega) (.bool sr) (.slice Ar nr cr) (.bool tr) (.slice Br mr dr)
  rw [← HWW.out] at q19
  have q20 := (hE.here.1.1.1.1.1.2).far4 (R := w.heap.size + 1 + 1) (by omega) (.bool sr) (.slice Ar nr cr) (.bool tr) (.slice Br mr dr)
  rw [← HWW.out] at q20
  go_simp
  rw [← HWW.out]
  refine hK.out _ _ (q19.j4 q20.c4) (fun hHeld => ?_)
  clear hK K
  try simp only [PL]
  refine tk 15 ?_
  try simp only [PL]
  refine wpAnyH_done (by kernel_rfl) ?_ _
  go_wp2_with fail
  obtain ⟨y0, y1, y2, y3⟩ := hB.c4
  refine bodyPost_ret (v := .tuple #[.agg #[.bool sr, .slice Ar nr cr, .bool tr, .slice Br mr dr], .int .i64 0]) (by simp [results, Tryz.results12, go_sem, y0, y1, y2, y3]) rfl ?_
  exact ⟨sr, Ar, nr, cr, tr, Br, mr, dr, rfl, hV, hBel⟩
theorem fvalid_v0 {q : Rat} {s t : Bool} {A B : Option Addr} {n m c d : Nat} {w : World} (h : FV w q s A n t B m) (l : fl q ≤ 256) :
    Calls Tryz.prog 8 #[.agg #[.bool s, .slice A n c, .bool t, .slice B m d]] w fun e w' => e = .returned (.bool true) ∧ Below w.heap.size w w' := by
  obtain ⟨h1, h2⟩ := h.ln l
  exact fvalid_r s t A B n m c d _ _ w h.rd (by omega) (by omega) true (okF_of h l)
set_option linter.unusedSimpArgs false in
set_option maxRecDepth 100000 in
set_option maxHeartbeats 2000000 in
theorem fneg_v {a : Rat} {sa ta : Bool} {Aa Ba : Option Addr} {na ca ma da : Nat} {w : World} (ha : FV w a sa Aa na ta Ba ma) (la : fl a ≤ 256) :
    Calls Tryz.prog 13 #[.agg #[.bool sa, .slice Aa na ca, .bool ta, .slice Ba ma da]] w (FOK (-a) w) := by
  have hE := ((Env.start w).fv ha).blk 26 #[.bool sa, .slice Aa na ca, .bool ta, .slice Ba ma da] (g := w.heap.size) rfl
  have hE := hE.blk 26 #[.bool false, .slice none 0 0, .bool false, .slice none 0 0] (g := w.heap.size + 1) (by simp)
  obtain ⟨W0, hW0⟩ : ∃ W0, W0 = ((w.alloc (.cells #[.bool sa, .slice Aa na ca, .bool ta, .slice Ba ma da] 26)).alloc (.cells #[.bool false, .slice none 0 0, .bool false, .slice none 0 0] 26)) := ⟨_, rfl⟩
  rw [← hW0] at hE
  have HW0 := Lib.hid hW0
  clear hW0
  go_enter Tryz.func13, Tryz.ntmps13
  go_upto_region 1 with (fail)
  rw [← HW0.out]
  obtain ⟨k1, k2, k3, k4⟩ := (hE.here.1.2).c4
  go_wp2_with fail
  have hc := fvalid_v0 (c := ca) (d := da) hE.here.1.1.2 la
  refine hc.mono ?_
  clear hc
  clear k1 k2 k3 k4
  rintro e w5 ⟨rfl, hb⟩
  replace hE := hE.step hb
  clear hb
  go_upto_region 3 with (fail)
  obtain ⟨ha1, ha2⟩ := (hE.here.1.1.2).ln la
  obtain ⟨qa1, qa2⟩ := fv_lens (hE.here.1.1.2) la
  replace hE := hE.drew
  refine wp_region_held_drew (S := fun w' => w'.cell? ⟨w.heap.size, 0, none⟩ = some (.bool sa) ∧ w'.cell? ⟨w.heap.size, 1, none⟩ = some (.slice Aa na ca) ∧ w'.cell? ⟨w.heap.size, 2, none⟩ = some (.bool ta) ∧ w'.cell? ⟨w.heap.size, 3, none⟩ = some (.slice Ba ma da)) (by kernel_rfl) (hE.here.1.2.c4) (fun hHeld => ?_)
  refine tk 0 ?_
  try simp only [PL]
  refine tk 1 ?_
  try simp only [PL]
  refine tk 3 ?_
  try simp only [PL]
  refine tk 4 ?_
  try simp only [PL]
  refine r1 2 (fun K hK => ?_)
  go_simp
  have hc := fopposite_v (c := ca) (hE.here.1.1.2).1 (Nat.le_trans ha1 (by decide))
  refine hc.mono ?_
  clear hc
  rintro e w6 ⟨sn, An, nn, cn, rfl, hn, hb⟩
  replace hE := hE.step hb
  clear hb
  replace hE := hE.wv hn
  clear hn
  have ln : nn ≤ 256 := by rw [(hE.here.2).len]; first | (rw [Int.natAbs_neg]; first | exact qa1 | exact qa2) | (rw [Int.neg_neg]; exact qa2)
  go_wp2_with fail
  refine hK.out _ _ (hE.here.1.1.2.c4) (fun hHeld => ?_)
  clear hK K
  try simp only [PL]
  refine r1 5 (fun K hK => ?_)
  go_simp
  have hc := fopposite_v (c := da) (hE.here.1.1.1.2).2 (Nat.le_trans ha2 (by decide))
  refine hc.mono ?_
  clear hc
  rintro e w7 ⟨se, Ae, ne, ce, rfl, he1, hb⟩
  replace hE := hE.step hb
  clear hb
  replace hE := hE.wv he1
  clear he1
  have le1 : ne ≤ 256 := by rw [(hE.here.2).len]; first | (rw [Int.natAbs_neg]; first | exact qa1 | exact qa2) | (rw [Int.neg_neg]; exact qa2)
  go_wp2_with fail
  refine hK.out _ _ (hE.here.1.1.1.2.c4) (fun hHeld => ?_)
  clear hK K
  try simp only [PL]
  refine r1 6 (fun K hK => ?_)
  go_simp
  have hc := fopposite_v (c := ce) (hE.here.2) (Nat.le_trans le1 (by decide))
  refine hc.mono ?_
  clear hc
  rintro e w8 ⟨sf, Af, nf, cf, rfl, hf1, hb⟩
  replace hE := hE.step hb
  clear hb
  replace hE := hE.wv hf1
  clear hf1
  have lf1 : nf ≤ 256 := by rw [(hE.here.2).len]; first | (rw [Int.natAbs_neg]; first | exact qa1 | exact qa2) | (rw [Int.neg_neg]; exact qa2)
  have hfv : FV w8 (-a) sn An nn sf Af nf := ⟨by rw [Rat.neg_num]; exact hE.here.1.1.2, by rw [Rat.neg_den]; have := hE.here.2; rwa [Int.neg_neg] at this⟩
  replace hE := hE.fv hfv
  clear hfv
  go_wp2_with fail
  refine hK.out _ _ (hE.here.1.1.1.1.1.2.c4) (fun hHeld => ?_)
  clear hK K
  try simp only [PL]
  refine tk 7 ?_
  try simp only [PL]
  refine r1 8 (fun K hK => ?_)
  have hRl : w.heap.size ≤ w.heap.size + 1 := by omega
  obtain ⟨WW, hWW, hB, hV, hBel⟩ := ret_frac hE hE.here.1.1.1.1.2 hRl hE.here.2 cn cf
  obtain ⟨x0, x1, x2, x3⟩ := (hE.here.1.1.1.1.2).c4
  obtain ⟨fz0, fz1, fz2, fz3⟩ := hE.here.1.1.1.1.2.f4
  have HWW := Lib.hid hWW
  clear hWW
  have q9 := (hE.here.1.1.1.1.1.2).far4 (R := w.heap.size + 1) (by omega) (.bool sn) (.slice An nn cn) (.bool sf) (.slice Af nf cf)
  rw [← HWW.out] at q9
  go_simp
  rw [← HWW.out]
  refine hK.out _ _ (q9.c4) (fun hHeld => ?_)
  clear hK K
  try simp only [PL]
  refine tk 9 ?_
  try simp only [PL]
  refine wpAnyH_done (by kernel_rfl) ?_ _
  go_wp2_with fail
  obtain ⟨y0, y1, y2, y3⟩ := hB.c4
  refine bodyPost_ret (v := .tuple #[.agg #[.bool sn, .slice An nn cn, .bool sf, .slice Af nf cf], .int .i64 0]) (by simp [results, Tryz.results13, go_sem, y0, y1, y2, y3]) rfl ?_
  exact ⟨sn, An, nn, cn, sf, Af, nf, cf, rfl, hV, hBel⟩
set_option linter.unusedSimpArgs false in
set_option maxRecDepth 100000 in
set_option maxHeartbeats 2000000 in
theorem ffloor_v {a : Rat} {sa ta : Bool} {Aa Ba : Option Addr} {na ca ma da : Nat} {w : World} (ha : FV w a sa Aa na ta Ba ma) (la : fl a ≤ 256) :
    Calls Tryz.prog 17 #[.agg #[.bool sa, .slice Aa na ca, .bool ta, .slice Ba ma da]] w (WOK (a.num.fdiv (a.den : Int)) w) := by
  have hE := ((Env.start w).fv ha).blk 26 #[.bool sa, .slice Aa na ca, .bool ta, .slice Ba ma da] (g := w.heap.size) rfl
  have hE := hE.blk 24 #[.bool false, .slice none 0 0] (g := w.heap.size + 1) (by simp)
  obtain ⟨W0, hW0⟩ : ∃ W0, W0 = ((w.alloc (.cells #[.bool sa, .slice Aa na ca, .bool ta, .slice Ba ma da] 26)).alloc (.cells #[.bool false, .slice none 0 0] 24)) := ⟨_, rfl⟩
  rw [← hW0] at hE
  have HW0 := Lib.hid hW0
  clear hW0
  go_enter Tryz.func17, Tryz.ntmps17
  go_upto_region 1 with (fail)
  rw [← HW0.out]
  obtain ⟨ha1, ha2⟩ := ha.ln la
  obtain ⟨k1, k2, k3, k4⟩ := (hE.here.1.2).c4
  go_wp2_with fail
  have hc := fvalid_v0 (c := ca) (d := da) hE.here.1.1.2 la
  refine hc.mono ?_
  clear hc
  clear k1 k2 k3 k4
  rintro e w5 ⟨rfl, hb⟩
  replace hE := hE.step hb
  clear hb
  obtain ⟨k6, k7, k8, k9⟩ := (hE.here.1.2).c4
  go_wp2_with fail
  refine (fdivide_v (ca := ca) (cb := da) (hE.here.1.1.2).1 (hE.here.1.1.2).2 (by omega) (by omega) (den_nz a)).mono ?_
  clear k6 k7 k8 k9
  rintro e w9 ⟨sq, Aq, nq, cq, sr, Ar, nr, cr, rfl, hq, hr, hb⟩
  replace hE := hE.step hb
  clear hb
  replace hE := (hE.wv hq).wv hr
  go_upto_region 4 with (fail)
  have hl10a : w.heap.size < w9.heap.size := (hE.here.1.1.1.2).lt
  have hl10b : w.heap.size + 1 < w9.heap.size := (hE.here.1.1.2).lt
  replace hE := (hE.blk 24 #[.bool sq, .slice Aq nq cq] (g := w9.heap.size) rfl).blk 24 #[.bool sr, .slice Ar nr cr] (g := w9.heap.size + 1) (by simp)
  generalize (w9.alloc (.cells #[.bool sq, .slice Aq nq cq] 24)).alloc (.cells #[.bool sr, .slice Ar nr cr] 24) = X10 at hE ⊢
  generalize w9.heap.size = g10 at hE hl10a hl10b ⊢
  clear hq hr
  obtain ⟨k11, k12⟩ := (hE.here.1.2).c2
  have hRl : w.heap.size ≤ w.heap.size + 1 := by omega
  obtain ⟨WW, hWW, hB, hV, hBel⟩ := ret_whole hE hE.here.1.1.1.1.2 hRl hE.here.1.1.1.2 cq
  obtain ⟨x0, x1⟩ := (hE.here.1.1.1.1.2).c2
  obtain ⟨fz0, fz1⟩ := hE.here.1.1.1.1.2.f2
  have HWW := Lib.hid hWW
  clear hWW
  go_wp2_with fail
  clear x0 x1
  rw [← HWW.out]
  obtain ⟨y0, y1⟩ := hB.c2
  refine bodyPost_ret (v := .tuple #[.agg #[.bool sq, .slice Aq nq cq], .int .i64 0]) (by simp [results, Tryz.results17, go_sem, y0, y1]) rfl ?_
  exact ⟨sq, Aq, nq, cq, rfl, hV, hBel⟩
theorem fdiv_len {a b : Int} (ha : ln b16 a.natAbs ≤ 256) (_ : b ≠ 0) : ln b16 (a.fdiv b).natAbs ≤ 513 := by
  refine Nat.le_trans (ln_mono b16_two (show (a.fdiv b).natAbs ≤ a.natAbs + 1 from ?_)) (Nat.le_trans (ln_add b16_two (m := 256) ha (by decide)) (by decide))
  have h1 := Int.natAbs_ediv_le_natAbs a b
  rw [Int.fdiv_eq_ediv]
  split <;> omega
set_option linter.unusedSimpArgs false in
set_option maxRecDepth 100000 in
set_option maxHeartbeats 4000000 in
theorem fceil_v {a : Rat} {sa ta : Bool} {Aa Ba : Option Addr} {na ca ma da : Nat} {w : World} (ha : FV w a sa Aa na ta Ba ma) (la : fl a ≤ 256) :
    Calls Tryz.prog 18 #[.agg #[.bool sa, .slice Aa na ca, .bool ta, .slice Ba ma da]] w (WOK (ceilQ a) w) := by
  unfold ceilQ
  by_cases h0 : a.num.fmod (a.den : Int) = 0
  · rw [if_pos h0]
    have hE := ((Env.start w).fv ha).blk 26 #[.bool sa, .slice Aa na ca, .bool ta, .slice Ba ma da] (g := w.heap.size) rfl
    have hE := hE.blk 24 #[.bool false, .slice none 0 0] (g := w.heap.size + 1) (by simp)
    obtain ⟨W0, hW0⟩ : ∃ W0, W0 = ((w.alloc (.cells #[.bool sa, .slice Aa na ca, .bool ta, .slice Ba ma da] 26)).alloc (.cells #[.bool false, .slice none 0 0] 24)) := ⟨_, rfl⟩
    rw [← hW0] at hE
    have HW0 := Lib.hid hW0
    clear hW0
    go_enter Tryz.func18, Tryz.ntmps18
    go_upto_region 1 with (fail)
    rw [← HW0.out]
    obtain ⟨ha1, ha2⟩ := ha.ln la
    obtain ⟨k1, k2, k3, k4⟩ := (hE.here.1.2).c4
    go_wp2_with fail
    have hc := fvalid_v0 (c := ca) (d := da) hE.here.1.1.2 la
    refine hc.mono ?_
    clear hc
    clear k1 k2 k3 k4
    rintro e w5 ⟨rfl, hb⟩
    replace hE := hE.step hb
    clear hb
    obtain ⟨k6, k7, k8, k9⟩ := (hE.here.1.2).c4
    go_wp2_with fail
    refine (fdivide_v (ca := ca) (cb := da) (hE.here.1.1.2).1 (hE.here.1.1.2).2 (by omega) (by omega) (den_nz a)).mono ?_
    clear k6 k7 k8 k9
    rintro e w9 ⟨sq, Aq, nq, cq, sr, Ar, nr, cr, rfl, hq, hr, hb⟩
    replace hE := hE.step hb
    clear hb
    replace hE := (hE.wv hq).wv hr
    go_upto_region 4 with (fail)
    have hl10a : w.heap.size < w9.heap.size := (hE.here.1.1.1.2).lt
    have hl10b : w.heap.size + 1 < w9.heap.size := (hE.here.1.1.2).lt
    replace hE := (hE.blk 24 #[.bool sq, .slice Aq nq cq] (g := w9.heap.size) rfl).blk 24 #[.bool sr, .slice Ar nr cr] (g := w9.heap.size + 1) (by simp)
    generalize (w9.alloc (.cells #[.bool sq, .slice Aq nq cq] 24)).alloc (.cells #[.bool sr, .slice Ar nr cr] 24) = X10 at hE ⊢
    generalize w9.heap.size = g10 at hE hl10a hl10b ⊢
    obtain rfl : nr = 0 := by rw [hr.len, h0]; exact ln_zero
    clear hq hr
    obtain ⟨k11, k12⟩ := (hE.here.1.2).c2
    obtain ⟨k13, k14⟩ := (hE.here.2).c2
    go_upto_region 6 with (fail)
    clear k11 k12 k13 k14
    obtain ⟨k15, k16⟩ := (hE.here.1.2).c2
    have hRl : w.heap.size ≤ w.heap.size + 1 := by omega
    obtain ⟨WW, hWW, hB, hV, hBel⟩ := ret_whole hE hE.here.1.1.1.1.2 hRl hE.here.1.1.1.2 cq
    obtain ⟨x0, x1⟩ := (hE.here.1.1.1.1.2).c2
    obtain ⟨fz0, fz1⟩ := hE.here.1.1.1.1.2.f2
    have HWW := Lib.hid hWW
    clear hWW
    go_wp2_with fail
    clear x0 x1
    rw [← HWW.out]
    obtain ⟨y0, y1⟩ := hB.c2
    refine bodyPost_ret (v := .tuple #[.agg #[.bool sq, .slice Aq nq cq], .int .i64 0]) (by simp [results, Tryz.results18, go_sem, y0, y1]) rfl ?_
    exact ⟨sq, Aq, nq, cq, rfl, hV, hBel⟩
  · rw [if_neg h0]
    have hE := ((Env.start w).fv ha).blk 26 #[.bool sa, .slice Aa na ca, .bool ta, .slice Ba ma da] (g := w.heap.size) rfl
    have hE := hE.blk 24 #[.bool false, .slice none 0 0] (g := w.heap.size + 1) (by simp)
    obtain ⟨W0, hW0⟩ : ∃ W0, W0 = ((w.alloc (.cells #[.bool sa, .slice Aa na ca, .bool ta, .slice Ba ma da] 26)).alloc (.cells #[.bool false, .slice none 0 0] 24)) := ⟨_, rfl⟩
    rw [← hW0] at hE
    have HW0 := Lib.hid hW0
    clear hW0
    go_enter Tryz.func18, Tryz.ntmps18
    go_upto_region 1 with (fail)
    rw [← HW0.out]
    obtain ⟨ha1, ha2⟩ := ha.ln la
    obtain ⟨k1, k2, k3, k4⟩ := (hE.here.1.2).c4
    go_wp2_with fail
    have hc := fvalid_v0 (c := ca) (d := da) hE.here.1.1.2 la
    refine hc.mono ?_
    clear hc
    clear k1 k2 k3 k4
    rintro e w5 ⟨rfl, hb⟩
    replace hE := hE.step hb
    clear hb
    obtain ⟨k6, k7, k8, k9⟩ := (hE.here.1.2).c4
    go_wp2_with fail
    refine (fdivide_v (ca := ca) (cb := da) (hE.here.1.1.2).1 (hE.here.1.1.2).2 (by omega) (by omega) (den_nz a)).mono ?_
    clear k6 k7 k8 k9
    rintro e w9 ⟨sq, Aq, nq, cq, sr, Ar, nr, cr, rfl, hq, hr, hb⟩
    replace hE := hE.step hb
    clear hb
    replace hE := (hE.wv hq).wv hr
    go_upto_region 4 with (fail)
    have hl10a : w.heap.size < w9.heap.size := (hE.here.1.1.1.2).lt
    have hl10b : w.heap.size + 1 < w9.heap.size := (hE.here.1.1.2).lt
    replace hE := (hE.blk 24 #[.bool sq, .slice Aq nq cq] (g := w9.heap.size) rfl).blk 24 #[.bool sr, .slice Ar nr cr] (g := w9.heap.size + 1) (by simp)
    generalize (w9.alloc (.cells #[.bool sq, .slice Aq nq cq] 24)).alloc (.cells #[.bool sr, .slice Ar nr cr] 24) = X10 at hE ⊢
    generalize w9.heap.size = g10 at hE hl10a hl10b ⊢
    have hz : 0 < nr := by rw [hr.len]; exact (ln_pos b16_two).2 (by omega)
    have t1 : decide (0 < (nr : Int)) = true := decide_eq_true (by omega)
    have t2 : decide (0 < nr) = true := decide_eq_true hz
    have lq : nq ≤ 513 := by rw [hq.len]; exact fdiv_len (fv_lens ha la).1 (den_nz a)
    have lq2 : ln b16 (a.num.fdiv (a.den : Int)).natAbs ≤ 513 := by rw [← hq.len]; exact lq
    clear hq hr
    obtain ⟨k11, k12⟩ := (hE.here.1.2).c2
    obtain ⟨k13, k14⟩ := (hE.here.2).c2
    go_upto_region 5 with (fail)
    clear k11 k12 k13 k14
    replace hE := hE.drew
    refine wp_region_held_drew (S := fun w' => True) (by kernel_rfl) (trivial) (fun hHeld => ?_)
    refine wpAnyH_ready (rs := [0, 1]) (by kernel_rfl) (by simp) (AllReadyH.cons rfl (fun K hK => ?_) (AllReadyH.cons rfl (fun K hK => ?_) (AllReadyH.nil)))
    · skip
      obtain ⟨k15, k16⟩ := (hE.here.1.2).c2
      go_simp
      clear k15 k16
      refine hK.out _ _ (trivial) (fun hHeld => ?_)
      clear hK K
      try simp only [PL]
      refine r1 1 (fun K hK => ?_)
      go_simp
      have hc := fromInt_v 1 X10.drew (by decide) (by decide)
      refine hc.mono ?_
      clear hc
      rintro e w17 ⟨so, Ao, no, co, rfl, ho, hb⟩
      replace hE := hE.step hb
      clear hb
      replace hE := hE.wv ho
      clear ho
      go_wp2_with fail
      refine hK.out _ _ (trivial) (fun hHeld => ?_)
      clear hK K
      try simp only [PL]
      refine r1 2 (fun K hK => ?_)
      go_simp
      have lo : no ≤ 4 := small_len (hE.here.2) (by decide) (by decide)
      have hc := fplus_v (ca := cq) (cb := co) hE.here.1.1.1.1.2 hE.here.2 (Nat.le_trans lq (by decide)) (Nat.le_trans lo (by decide)) (Nat.le_trans (ln_addZ (m := 513) lq2 (by decide)) (by decide))
      refine hc.mono ?_
      clear hc
      rintro e w18 ⟨sz, Az, nz, cz, rfl, hz, hb⟩
      replace hE := hE.step hb
      clear hb
      replace hE := hE.wv hz
      clear hz
      go_wp2_with fail
      refine hK.out _ _ (trivial) (fun hHeld => ?_)
      clear hK K
      try simp only [PL]
      refine r1 3 (fun K hK => ?_)
      have hgl19 : w.heap.size ≤ g10 := by omega
      obtain ⟨x19_0, x19_1⟩ := (hE.here.1.1.1.2).c2
      obtain ⟨f19_0, f19_1⟩ := hE.here.1.1.1.2.f2
      replace hE := ((((((((((Env.again (bel2 hE.bel hgl19 (.bool sz) (.slice Az nz cz))).fv ((hE.here.1.1.1.1.1.1.1.1.2).sep2 hE.here.1.1.1.2 rfl (.bool sz) (.slice Az nz cz) rfl)).blkI ((hE.here.1.1.1.1.1.1.1.2).far2 (R := g10) (by omega) (.bool sz) (.slice Az nz cz))).blkI ((hE.here.1.1.1.1.1.1.2).far2 (R := g10) (by omega) (.bool sz) (.slice Az nz cz))).wv ((hE.here.1.1.1.1.1.2).sep2 hE.here.1.1.1.2 rfl (.bool sz) (.slice Az nz cz) rfl)).wv ((hE.here.1.1.1.1.2).sep2 hE.here.1.1.1.2 rfl (.bool sz) (.slice Az nz cz) rfl)).blkI ((hE.here.1.1.1.2).s2 (.bool sz) (.slice Az nz cz))).blkI ((hE.here.1.1.2).far2 (R := g10) (by omega) (.bool sz) (.slice Az nz cz))).wv ((hE.here.1.2).sep2 hE.here.1.1.1.2 rfl (.bool sz) (.slice Az nz cz) rfl)).wv ((hE.here.2).sep2 hE.here.1.1.1.2 rfl (.bool sz) (.slice Az nz cz) rfl))
      go_simp
      clear x19_0 x19_1 f19_0 f19_1 hgl19
      generalize ((w18.setCell ⟨g10, 0, none⟩ (.bool sz)).setCell ⟨g10, 1, none⟩ (.slice Az nz cz)) = W19 at hE ⊢
      refine hK.out _ _ (trivial) (fun hHeld => ?_)
      clear hK K
      try simp only [PL]
      refine wpAnyH_done (by kernel_rfl) ?_ _
      go_upto_region 6 with (fail)
      obtain ⟨k20, k21⟩ := (hE.here.1.1.1.2).c2
      have hRl : w.heap.size ≤ w.heap.size + 1 := by omega
      obtain ⟨WW, hWW, hB, hV, hBel⟩ := ret_whole hE hE.here.1.1.1.1.1.1.2 hRl hE.here.2 cz
      obtain ⟨x0, x1⟩ := (hE.here.1.1.1.1.1.1.2).c2
      obtain ⟨fz0, fz1⟩ := hE.here.1.1.1.1.1.1.2.f2
      have HWW := Lib.hid hWW
      clear hWW
      go_wp2_with fail
      clear x0 x1
      rw [← HWW.out]
      obtain ⟨y0, y1⟩ := hB.c2
      refine bodyPost_ret (v := .tuple #[.agg #[.bool sz, .slice Az nz cz], .int .i64 0]) (by simp [results, Tryz.results18, go_sem, y0, y1]) rfl ?_
      exact ⟨sz, Az, nz, cz, rfl, hV, hBel⟩
    · skip
      go_simp
      have hc := fromInt_v 1 X10.drew (by decide) (by decide)
      refine hc.mono ?_
      clear hc
      rintro e w22 ⟨so, Ao, no, co, rfl, ho, hb⟩
      replace hE := hE.step hb
      clear hb
      replace hE := hE.wv ho
      clear ho
      go_wp2_with fail
      refine hK.out _ _ (trivial) (fun hHeld => ?_)
      clear hK K
      try simp only [PL]
      refine r1 0 (fun K hK => ?_)
      obtain ⟨k23, k24⟩ := (hE.here.1.1.2).c2
      go_simp
      clear k23 k24
      refine hK.out _ _ (trivial) (fun hHeld => ?_)
      clear hK K
      try simp only [PL]
      refine r1 2 (fun K hK => ?_)
      go_simp
      have lo : no ≤ 4 := small_len (hE.here.2) (by decide) (by decide)
      have hc := fplus_v (ca := cq) (cb := co) hE.here.1.1.1.1.2 hE.here.2 (Nat.le_trans lq (by decide)) (Nat.le_trans lo (by decide)) (Nat.le_trans (ln_addZ (m := 513) lq2 (by decide)) (by decide))
      refine hc.mono ?_
      clear hc
      rintro e w25 ⟨sz, Az, nz, cz, rfl, hz, hb⟩
      replace hE := hE.step hb
      clear hb
      replace hE := hE.wv hz
      clear hz
      go_wp2_with fail
      refine hK.out _ _ (trivial) (fun hHeld => ?_)
      clear hK K
      try simp only [PL]
      refine r1 3 (fun K hK => ?_)
      have hgl26 : w.heap.size ≤ g10 := by omega
      obtain ⟨x26_0, x26_1⟩ := (hE.here.1.1.1.2).c2
      obtain ⟨f26_0, f26_1⟩ := hE.here.1.1.1.2.f2
      replace hE := ((((((((((Env.again (bel2 hE.bel hgl26 (.bool sz) (.slice Az nz cz))).fv ((hE.here.1.1.1.1.1.1.1.1.2).sep2 hE.here.1.1.1.2 rfl (.bool sz) (.slice Az nz cz) rfl)).blkI ((hE.here.1.1.1.1.1.1.1.2).far2 (R := g10) (by omega) (.bool sz) (.slice Az nz cz))).blkI ((hE.here.1.1.1.1.1.1.2).far2 (R := g10) (by omega) (.bool sz) (.slice Az nz cz))).wv ((hE.here.1.1.1.1.1.2).sep2 hE.here.1.1.1.2 rfl (.bool sz) (.slice Az nz cz) rfl)).wv ((hE.here.1.1.1.1.2).sep2 hE.here.1.1.1.2 rfl (.bool sz) (.slice Az nz cz) rfl)).blkI ((hE.here.1.1.1.2).s2 (.bool sz) (.slice Az nz cz))).blkI ((hE.here.1.1.2).far2 (R := g10) (by omega) (.bool sz) (.slice Az nz cz))).wv ((hE.here.1.2).sep2 hE.here.1.1.1.2 rfl (.bool sz) (.slice Az nz cz) rfl)).wv ((hE.here.2).sep2 hE.here.1.1.1.2 rfl (.bool sz) (.slice Az nz cz) rfl))
      go_simp
      clear x26_0 x26_1 f26_0 f26_1 hgl26
      generalize ((w25.setCell ⟨g10, 0, none⟩ (.bool sz)).setCell ⟨g10, 1, none⟩ (.slice Az nz cz)) = W26 at hE ⊢
      refine hK.out _ _ (trivial) (fun hHeld => ?_)
      clear hK K
      try simp only [PL]
      refine wpAnyH_done (by kernel_rfl) ?_ _
      go_upto_region 6 with (fail)
      obtain ⟨k27, k28⟩ := (hE.here.1.1.1.2).c2
      have hRl : w.heap.size ≤ w.heap.size + 1 := by omega
      obtain ⟨WW, hWW, hB, hV, hBel⟩ := ret_whole hE hE.here.1.1.1.1.1.1.2 hRl hE.here.2 cz
      obtain ⟨x0, x1⟩ := (hE.here.1.1.1.1.1.1.2).c2
      obtain ⟨fz0, fz1⟩ := hE.here.1.1.1.1.1.1.2.f2
      have HWW := Lib.hid hWW
      clear hWW
      go_wp2_with fail
      clear x0 x1
      rw [← HWW.out]
      obtain ⟨y0, y1⟩ := hB.c2
      refine bodyPost_ret (v := .tuple #[.agg #[.bool sz, .slice Az nz cz], .int .i64 0]) (by simp [results, Tryz.results18, go_sem, y0, y1]) rfl ?_
      exact ⟨sz, Az, nz, cz, rfl, hV, hBel⟩
end Go.Proofs.YtifikcemcflgjaaGreatDoor
