/-
  Several texts in one: The walks of frac.result, FromInt, Same, Add, Sub, Mul and Cmp at fractions.
-/
import Derived.Test.YtjgihmmeimfheaaGreatK3
import Derived.Test.YtjgihmmeimfheaaGreatK18
import Derived.Test.YtjgihmmeimfheaaGreatK23
namespace Go.Proofs.YtjgihmmeimfheaaGreat
open Go.RowKit

/-- The call returned the fraction q and no error. -/
def FOK (q : Rat) (w : World) (e : Ending) (w' : World) : Prop := ∃ s A n c t B m d, e = .returned (.tuple #[.agg #[.bool s, .slice A n c, .bool t, .slice B m d], .int .i64 0]) ∧ FV w' q s A n t B m ∧ Below w.heap.size w w'
/-- The call returned a zero value and the error k. -/
def FErr (k : Int) (w : World) (e : Ending) (w' : World) : Prop := e = .returned (.tuple #[.agg #[.bool false, .slice none 0 0, .bool false, .slice none 0 0], .int .i64 k]) ∧ Below w.heap.size w w'
theorem long_of {w : World} {q : Rat} {s t : Bool} {A B : Option Addr} {n m : Nat} (h : FV w q s A n t B m) (r : Bool) (hq : decide (256 < fl q) = r) : (decide (256 < n) || decide (256 < m)) = r := by
 have h1 := h.1.len
 have h3 := h.2.len
 rw [Int.natAbs_natCast] at h3
 rw [← hq, Bool.eq_iff_iff, Bool.or_eq_true, decide_eq_true_iff, decide_eq_true_iff, decide_eq_true_iff]
 unfold fl
 omega
/-- A pair of zeros, as it lies in memory (no fraction's parts, but two numbers). -/
theorem zero_wv (w : World) : WV w 0 false none 0 := ⟨rfl, ln_zero.symm, fun h => absurd h (by rw [show (0 : Int).natAbs = 0 from rfl, ln_zero]; exact Nat.lt_irrefl 0)⟩
set_option linter.unusedSimpArgs false in
set_option maxRecDepth 100000 in
set_option maxHeartbeats 2000000 in
theorem fresult_ok {q : Rat} {s t : Bool} {A B : Option Addr} {n m c d : Nat} {w : World} (ha : FV w q s A n t B m) (hf : fl q ≤ 256) :
  Calls Tryz.prog 53 #[.agg #[.bool s, .slice A n c, .bool t, .slice B m d]] w (FOK q w) := by
 have hq := long_of ha false (decide_eq_false (by omega))
 have hE := ((Env.start w).fv ha).blk 85 #[.bool s, .slice A n c, .bool t, .slice B m d] (g := w.heap.size) rfl
 have hE := hE.blk 29 #[.bool false, .slice none 0 0, .bool false, .slice none 0 0] (g := w.heap.size + 1) (by simp)
 obtain ⟨W0, hW0⟩ : ∃ W0, W0 = ((w.alloc (.cells #[.bool s, .slice A n c, .bool t, .slice B m d] 85)).alloc (.cells #[.bool false, .slice none 0 0, .bool false, .slice none 0 0] 29)) := ⟨_, rfl⟩
 rw [← hW0] at hE
 have HW0 := Lib.hid hW0
 clear hW0
 go_enter Tryz.func53, Tryz.ntmps53
 go_upto_region 1 with (fail)
 rw [← HW0.out]
 obtain ⟨k1, k2, k3, k4⟩ := (hE.here.1.2).c4
 go_wp2_with fail
 refine hE.br (flong_r s t A B n m c d W0 false hq) ?_
 clear hE k1 k2 k3 k4
 intro w5 hE
 obtain ⟨k6, k7, k8, k9⟩ := (hE.here.1.2).c4
 have hRl : w.heap.size ≤ w.heap.size + 1 := by omega
 obtain ⟨WW, hWW, hB, hV, hBel⟩ := ret_frac hE hE.here.2 hRl hE.h2 c d
 obtain ⟨x0, x1, x2, x3⟩ := (hE.here.2).c4
 obtain ⟨fz0, fz1, fz2, fz3⟩ := hE.here.2.f4
 have HWW := Lib.hid hWW
 clear hWW
 go_wp2_with fail
 clear k6 k7 k8 k9
 rw [← HWW.out]
 obtain ⟨y0, y1, y2, y3⟩ := hB.c4
 refine bodyPost_ret (v := .tuple #[.agg #[.bool s, .slice A n c, .bool t, .slice B m d], .int .i64 0]) (by simp [results, Tryz.results53, go_sem, y0, y1, y2, y3]) rfl ?_
 exact ⟨s, A, n, c, t, B, m, d, rfl, hV, hBel⟩
theorem fromInt_v (z : Int) (w : World) (h1 : -9223372036854775808 ≤ z) (h2 : z ≤ 9223372036854775807) : Calls Tryz.prog 49 #[.int .i64 z] w (WR z w) :=
 (fromInt_any z w h1 h2).mono fun _ _ h => by obtain ⟨s, A, n, c, he, ho, hb⟩ := h.vi; exact ⟨s, A, n, c, he, ho.v, hb⟩
set_option linter.unusedSimpArgs false in
set_option maxRecDepth 100000 in
set_option maxHeartbeats 2000000 in
theorem ffromInt_v (z : Int) (w : World) (h1 : -9223372036854775808 ≤ z) (h2 : z ≤ 9223372036854775807) :
  Calls Tryz.prog 18 #[.int .i64 z] w (FR (z : Rat) w) := by
 have hE := Env.start w
 have hE := hE.blk 29 #[.bool false, .slice none 0 0, .bool false, .slice none 0 0] (g := w.heap.size) rfl
 obtain ⟨W0, hW0⟩ : ∃ W0, W0 = (w.alloc (.cells #[.bool false, .slice none 0 0, .bool false, .slice none 0 0] 29)) := ⟨_, rfl⟩
 rw [← hW0] at hE
 have HW0 := Lib.hid hW0
 clear hW0
 go_enter Tryz.func18, Tryz.ntmps18
 go_upto_region 1 with (fail)
 rw [← HW0.out]
 go_wp2_with fail
 have hc := fromInt_v z W0 h1 h2
 refine hc.mono ?_
 clear hc
 rintro e w1 ⟨sn, An, nn, cn, rfl, hn, hb⟩
 replace hE := hE.step hb
 clear hb
 replace hE := hE.wv hn
 clear hn
 go_wp2_with fail
 have hc := fromInt_v 1 w1 (by decide) (by decide)
 refine hc.mono ?_
 clear hc
 rintro e w2 ⟨sd, Ad, nd, cd, rfl, hd, hb⟩
 replace hE := hE.step hb
 clear hb
 replace hE := hE.wv hd
 clear hd
 have hfv : FV w2 (z : Rat) sn An nn sd Ad nd := ⟨hE.here.1.2, hE.here.2⟩
 replace hE := hE.fv hfv
 clear hfv
 have hRl : w.heap.size ≤ w.heap.size := by omega
 obtain ⟨WW, hWW, hB, hV, hBel⟩ := ret_frac hE hE.h3 hRl hE.here.2 cn cd
 obtain ⟨x0, x1, x2, x3⟩ := (hE.h3).c4
 obtain ⟨fz0, fz1, fz2, fz3⟩ := hE.h3.f4
 have HWW := Lib.hid hWW
 clear hWW
 go_wp2_with fail
 rw [← HWW.out]
 obtain ⟨y0, y1, y2, y3⟩ := hB.c4
 refine bodyPost_ret (v := .agg #[.bool sn, .slice An nn cn, .bool sd, .slice Ad nd cd]) (by simp [results, Tryz.results18, go_sem, y0, y1, y2, y3]) rfl ?_
 exact ⟨sn, An, nn, cn, sd, Ad, nd, cd, rfl, hV, hBel⟩
theorem den_ne (a b : Rat) : (a.den : Int) * (b.den : Int) ≠ 0 := by
 have h1 := den_pos a
 have h2 := den_pos b
 have := Int.mul_pos (show (0 : Int) < a.den by omega) (show (0 : Int) < b.den by omega)
 omega
set_option linter.unusedSimpArgs false in
set_option maxRecDepth 100000 in
set_option maxHeartbeats 2000000 in
theorem fadd_v {a b : Rat} {sa ta sb tb : Bool} {Aa Ba Ab Bb : Option Addr} {na ca ma da nb cb mb db : Nat} {w : World} (ha : FV w a sa Aa na ta Ba ma) (hb : FV w b sb Ab nb tb Bb mb) (la : fl a ≤ 256) (lb : fl b ≤ 256) (lr : fl (a + b) ≤ 256) :
  Calls Tryz.prog 66 #[.agg #[.bool sa, .slice Aa na ca, .bool ta, .slice Ba ma da], .agg #[.bool sb, .slice Ab nb cb, .bool tb, .slice Bb mb db]] w (FOK (a + b) w) := by
 have hE := ((((Env.start w).fv ha).fv hb).blk 29 #[.bool sa, .slice Aa na ca, .bool ta, .slice Ba ma da] (g := w.heap.size) rfl).blk 29 #[.bool sb, .slice Ab nb cb, .bool tb, .slice Bb mb db] (g := w.heap.size + 1) (by simp)
 have hE := hE.blk 29 #[.bool false, .slice none 0 0, .bool false, .slice none 0 0] (g := w.heap.size + 1 + 1) (by simp)
 obtain ⟨W0, hW0⟩ : ∃ W0, W0 = (((w.alloc (.cells #[.bool sa, .slice Aa na ca, .bool ta, .slice Ba ma da] 29)).alloc (.cells #[.bool sb, .slice Ab nb cb, .bool tb, .slice Bb mb db] 29)).alloc (.cells #[.bool false, .slice none 0 0, .bool false, .slice none 0 0] 29)) := ⟨_, rfl⟩
 rw [← hW0] at hE
 have HW0 := Lib.hid hW0
 clear hW0
 go_enter Tryz.func66, Tryz.ntmps66
 go_upto_region 1 with (fail)
 rw [← HW0.out]
 obtain ⟨k1, k2, k3, k4⟩ := (hE.h2).c4
 obtain ⟨k5, k6, k7, k8⟩ := (hE.here.1.2).c4
 go_wp2_with fail
 have hc := fallValid_v (c := ca) (d := da) (c2 := cb) (d2 := db) hE.h4 hE.h3 la lb
 refine hc.mono ?_
 clear hc
 clear k1 k2 k3 k4 k5 k6 k7 k8
 rintro e w9 ⟨rfl, hb⟩
 replace hE := hE.step hb
 clear hb
 go_upto_region 3 with (fail)
 obtain ⟨qa1, qa2⟩ := fl_le.1 la
 obtain ⟨qb1, qb2⟩ := fl_le.1 lb
 obtain ⟨ha1, ha2⟩ := (hE.h4).ln la
 obtain ⟨hb1, hb2⟩ := (hE.h3).ln lb
 have qa2 : ln b16 ((a.den : Nat) : Int).natAbs ≤ 256 := by rw [Int.natAbs_natCast]; exact qa2
 have qb2 : ln b16 ((b.den : Nat) : Int).natAbs ≤ 256 := by rw [Int.natAbs_natCast]; exact qb2
 replace hE := hE.drew
 refine wp_region_held_drew (S := fun w' => w'.cell? ⟨w.heap.size, 0, none⟩ = some (.bool sa) ∧ w'.cell? ⟨w.heap.size, 1, none⟩ = some (.slice Aa na ca) ∧ w'.cell? ⟨w.heap.size, 2, none⟩ = some (.bool ta) ∧ w'.cell? ⟨w.heap.size, 3, none⟩ = some (.slice Ba ma da) ∧ w'.cell? ⟨w.heap.size + 1, 0, none⟩ = some (.bool sb) ∧ w'.cell? ⟨w.heap.size + 1, 1, none⟩ = some (.slice Ab nb cb) ∧ w'.cell? ⟨w.heap.size + 1, 2, none⟩ = some (.bool tb) ∧ w'.cell? ⟨w.heap.size + 1, 3, none⟩ = some (.slice Bb mb db)) (by kernel_rfl) (hE.h2.j4 hE.here.1.2.c4) (fun hHeld => ?_)
 refine tk 0 ?_
 try simp only [PL]
 refine tk 1 ?_
 try simp only [PL]
 refine tk 2 ?_
 try simp only [PL]
 refine tk 3 ?_
 try simp only [PL]
 refine tk 5 ?_
 try simp only [PL]
 refine tk 6 ?_
 try simp only [PL]
 refine tk 7 ?_
 try simp only [PL]
 refine tk 8 ?_
 try simp only [PL]
 refine tk 11 ?_
 try simp only [PL]
 refine tk 12 ?_
 try simp only [PL]
 refine tk 13 ?_
 try simp only [PL]
 refine tk 14 ?_
 try simp only [PL]
 refine r1 4 (fun K hK => ?_)
 go_simp
 have hc := ftimes_v (ca := ca) (cb := db) (hE.h4).1 (hE.h3).2 (Nat.le_trans ha1 (by decide)) (Nat.le_trans hb2 (by decide)) (Nat.le_trans (ln_mulZ (m := 256) (n := 256) qa1 qb2) (by decide))
 refine hc.mono ?_
 clear hc
 rintro e w10 ⟨sx, Ax, nx, cx, rfl, hx, hb⟩
 replace hE := hE.step hb
 clear hb
 replace hE := hE.wv hx
 clear hx
 have lx : nx ≤ 512 := by rw [(hE.here.2).len]; exact (ln_mulZ (m := 256) (n := 256) qa1 qb2)
 go_wp2_with fail
 refine hK.out _ _ (hE.h3.j4 hE.h2.c4) (fun hHeld => ?_)
 clear hK K
 try simp only [PL]
 refine r1 9 (fun K hK => ?_)
 go_simp
 have hc := ftimes_v (ca := cb) (cb := da) (hE.h4).1 (hE.h5).2 (Nat.le_trans hb1 (by decide)) (Nat.le_trans ha2 (by decide)) (Nat.le_trans (ln_mulZ (m := 256) (n := 256) qb1 qa2) (by decide))
 refine hc.mono ?_
 clear hc
 rintro e w11 ⟨sy, Ay, ny, cy, rfl, hy, hb⟩
 replace hE := hE.step hb
 clear hb
 replace hE := hE.wv hy
 clear hy
 have ly : ny ≤ 512 := by rw [(hE.here.2).len]; exact (ln_mulZ (m := 256) (n := 256) qb1 qa2)
 go_wp2_with fail
 refine hK.out _ _ (hE.h4.j4 hE.h3.c4) (fun hHeld => ?_)
 clear hK K
 try simp only [PL]
 refine r1 10 (fun K hK => ?_)
 go_simp
 have hc := fplus_v (ca := cx) (cb := cy) hE.here.1.2 hE.here.2 (Nat.le_trans lx (by decide)) (Nat.le_trans ly (by decide)) (Nat.le_trans (ln_addZ (m := 512) (by rw [← (hE.here.1.2).len]; exact lx) (by rw [← (hE.here.2).len]; exact ly)) (by decide))
 refine hc.mono ?_
 clear hc
 rintro e w12 ⟨sz, Az, nz, cz, rfl, hz, hb⟩
 replace hE := hE.step hb
 clear hb
 replace hE := hE.wv hz
 clear hz
 have lz : nz ≤ 513 := by rw [(hE.here.2).len]; exact (ln_addZ (m := 512) (by rw [← (hE.h2).len]; exact lx) (by rw [← (hE.here.1.2).len]; exact ly))
 go_wp2_with fail
 refine hK.out _ _ (hE.h5.j4 hE.h4.c4) (fun hHeld => ?_)
 clear hK K
 try simp only [PL]
 refine r1 15 (fun K hK => ?_)
 go_simp
 have hc := ftimes_v (ca := da) (cb := db) (hE.h7).2 (hE.h6).2 (Nat.le_trans ha2 (by decide)) (Nat.le_trans hb2 (by decide)) (Nat.le_trans (ln_mulZ (m := 256) (n := 256) qa2 qb2) (by decide))
 refine hc.mono ?_
 clear hc
 rintro e w13 ⟨su, Au, nu, cu, rfl, hu, hb⟩
 replace hE := hE.step hb
 clear hb
 replace hE := hE.wv hu
 clear hu
 have lu : nu ≤ 512 := by rw [(hE.here.2).len]; exact (ln_mulZ (m := 256) (n := 256) qa2 qb2)
 go_wp2_with fail
 refine hK.out _ _ (hE.h6.j4 hE.h5.c4) (fun hHeld => ?_)
 clear hK K
 try simp only [PL]
 refine r1 16 (fun K hK => ?_)
 go_simp
 have hc := flowest_v (ca := cz) (cb := cu) hE.here.1.2 hE.here.2 (Nat.le_trans lz (by decide)) (Nat.le_trans lu (by decide)) (den_ne a b)
 rw [add_low a b] at hc
 refine hE.fr hc ?_
 clear hE hc
 intro sf Af nf cf tf Bf mf df w14 hE
 go_wp2_with fail
 refine hK.out _ _ (hE.h7.j4 hE.h6.c4) (fun hHeld => ?_)
 clear hK K
 try simp only [PL]
 refine r1 17 (fun K hK => ?_)
 go_simp
 refine hE.fr (fresult_ok (c := cf) (d := df) hE.here.2 lr) ?_
 clear hE
 intro sr Ar nr cr tr Br mr dr w15 hE
 go_wp2_with fail
 refine hK.out _ _ (hE.h8.j4 hE.h7.c4) (fun hHeld => ?_)
 clear hK K
 try simp only [PL]
 refine tk 18 ?_
 try simp only [PL]
 refine tk 19 ?_
 try simp only [PL]
 refine r1 20 (fun K hK => ?_)
 have hRl : w.heap.size ≤ w.heap.size + 1 + 1 := by omega
 obtain ⟨WW, hWW, hB, hV, hBel⟩ := ret_frac hE hE.h6 hRl hE.here.2 cr dr
 obtain ⟨x0, x1, x2, x3⟩ := (hE.h6).c4
 obtain ⟨fz0, fz1, fz2, fz3⟩ := hE.h6.f4
 have HWW := Lib.hid hWW
 clear hWW
 have q16 := (hE.h8).far4 (R := w.heap.size + 1 + 1) (by omega) (.bool sr) (.slice Ar nr cr) (.bool tr) (.slice Br mr dr)
 rw [← HWW.out] at q16
 have q17 := (hE.h7).far4 (R := w.heap.size + 1 + 1) (by omega) (.bool sr) (.slice Ar nr cr) (.bool tr) (.slice Br mr dr)
 rw [← HWW.out] at q17
 go_simp
 rw [← HWW.out]
 refine hK.out _ _ (q16.j4 q17.c4) (fun hHeld => ?_)
 clear hK K
 try simp only [PL]
 refine tk 21 ?_
 try simp only [PL]
 refine wpAnyH_done (by kernel_rfl) ?_ _
 go_wp2_with fail
 obtain ⟨y0, y1, y2, y3⟩ := hB.c4
 refine bodyPost_ret (v := .tuple #[.agg #[.bool sr, .slice Ar nr cr, .bool tr, .slice Br mr dr], .int .i64 0]) (by simp [results, Tryz.results66, go_sem, y0, y1, y2, y3]) rfl ?_
 exact ⟨sr, Ar, nr, cr, tr, Br, mr, dr, rfl, hV, hBel⟩
set_option linter.unusedSimpArgs false in
set_option maxRecDepth 100000 in
set_option maxHeartbeats 2000000 in
theorem fsub_v {a b : Rat} {sa ta sb tb : Bool} {Aa Ba Ab Bb : Option Addr} {na ca ma da nb cb mb db : Nat} {w : World} (ha : FV w a sa Aa na ta Ba ma) (hb : FV w b sb Ab nb tb Bb mb) (la : fl a ≤ 256) (lb : fl b ≤ 256) (lr : fl (a - b) ≤ 256) :
  Calls Tryz.prog 19 #[.agg #[.bool sa, .slice Aa na ca, .bool ta, .slice Ba ma da], .agg #[.bool sb, .slice Ab nb cb, .bool tb, .slice Bb mb db]] w (FOK (a - b) w) := by
 have hE := ((((Env.start w).fv ha).fv hb).blk 29 #[.bool sa, .slice Aa na ca, .bool ta, .slice Ba ma da] (g := w.heap.size) rfl).blk 29 #[.bool sb, .slice Ab nb cb, .bool tb, .slice Bb mb db] (g := w.heap.size + 1) (by simp)
 have hE := hE.blk 29 #[.bool false, .slice none 0 0, .bool false, .slice none 0 0] (g := w.heap.size + 1 + 1) (by simp)
 obtain ⟨W0, hW0⟩ : ∃ W0, W0 = (((w.alloc (.cells #[.bool sa, .slice Aa na ca, .bool ta, .slice Ba ma da] 29)).alloc (.cells #[.bool sb, .slice Ab nb cb, .bool tb, .slice Bb mb db] 29)).alloc (.cells #[.bool false, .slice none 0 0, .bool false, .slice none 0 0] 29)) := ⟨_, rfl⟩
 rw [← hW0] at hE
 have HW0 := Lib.hid hW0
 clear hW0
 go_enter Tryz.func19, Tryz.ntmps19
 go_upto_region 1 with (fail)
 rw [← HW0.out]
 obtain ⟨k1, k2, k3, k4⟩ := (hE.h2).c4
 obtain ⟨k5, k6, k7, k8⟩ := (hE.here.1.2).c4
 go_wp2_with fail
 have hc := fallValid_v (c := ca) (d := da) (c2 := cb) (d2 := db) hE.h4 hE.h3 la lb
 refine hc.mono ?_
 clear hc
 clear k1 k2 k3 k4 k5 k6 k7 k8
 rintro e w9 ⟨rfl, hb⟩
 replace hE := hE.step hb
 clear hb
 go_upto_region 3 with (fail)
 obtain ⟨qa1, qa2⟩ := fl_le.1 la
 obtain ⟨qb1, qb2⟩ := fl_le.1 lb
 obtain ⟨ha1, ha2⟩ := (hE.h4).ln la
 obtain ⟨hb1, hb2⟩ := (hE.h3).ln lb
 have qa2 : ln b16 ((a.den : Nat) : Int).natAbs ≤ 256 := by rw [Int.natAbs_natCast]; exact qa2
 have qb2 : ln b16 ((b.den : Nat) : Int).natAbs ≤ 256 := by rw [Int.natAbs_natCast]; exact qb2
 replace hE := hE.drew
 refine wp_region_held_drew (S := fun w' => w'.cell? ⟨w.heap.size, 0, none⟩ = some (.bool sa) ∧ w'.cell? ⟨w.heap.size, 1, none⟩ = some (.slice Aa na ca) ∧ w'.cell? ⟨w.heap.size, 2, none⟩ = some (.bool ta) ∧ w'.cell? ⟨w.heap.size, 3, none⟩ = some (.slice Ba ma da) ∧ w'.cell? ⟨w.heap.size + 1, 0, none⟩ = some (.bool sb) ∧ w'.cell? ⟨w.heap.size + 1, 1, none⟩ = some (.slice Ab nb cb) ∧ w'.cell? ⟨w.heap.size + 1, 2, none⟩ = some (.bool tb) ∧ w'.cell? ⟨w.heap.size + 1, 3, none⟩ = some (.slice Bb mb db)) (by kernel_rfl) (hE.h2.j4 hE.here.1.2.c4) (fun hHeld => ?_)
 refine tk 0 ?_
 try simp only [PL]
 refine tk 1 ?_
 try simp only [PL]
 refine tk 2 ?_
 try simp only [PL]
 refine tk 3 ?_
 try simp only [PL]
 refine tk 5 ?_
 try simp only [PL]
 refine tk 6 ?_
 try simp only [PL]
 refine tk 7 ?_
 try simp only [PL]
 refine tk 8 ?_
 try simp only [PL]
 refine tk 12 ?_
 try simp only [PL]
 refine tk 13 ?_
 try simp only [PL]
 refine tk 14 ?_
 try simp only [PL]
 refine tk 15 ?_
 try simp only [PL]
 refine r1 4 (fun K hK => ?_)
 go_simp
 have hc := ftimes_v (ca := ca) (cb := db) (hE.h4).1 (hE.h3).2 (Nat.le_trans ha1 (by decide)) (Nat.le_trans hb2 (by decide)) (Nat.le_trans (ln_mulZ (m := 256) (n := 256) qa1 qb2) (by decide))
 refine hc.mono ?_
 clear hc
 rintro e w10 ⟨sx, Ax, nx, cx, rfl, hx, hb⟩
 replace hE := hE.step hb
 clear hb
 replace hE := hE.wv hx
 clear hx
 have lx : nx ≤ 512 := by rw [(hE.here.2).len]; exact (ln_mulZ (m := 256) (n := 256) qa1 qb2)
 go_wp2_with fail
 refine hK.out _ _ (hE.h3.j4 hE.h2.c4) (fun hHeld => ?_)
 clear hK K
 try simp only [PL]
 refine r1 9 (fun K hK => ?_)
 go_simp
 have hc := ftimes_v (ca := cb) (cb := da) (hE.h4).1 (hE.h5).2 (Nat.le_trans hb1 (by decide)) (Nat.le_trans ha2 (by decide)) (Nat.le_trans (ln_mulZ (m := 256) (n := 256) qb1 qa2) (by decide))
 refine hc.mono ?_
 clear hc
 rintro e w11 ⟨sy, Ay, ny, cy, rfl, hy, hb⟩
 replace hE := hE.step hb
 clear hb
 replace hE := hE.wv hy
 clear hy
 have ly : ny ≤ 512 := by rw [(hE.here.2).len]; exact (ln_mulZ (m := 256) (n := 256) qb1 qa2)
 go_wp2_with fail
 refine hK.out _ _ (hE.h4.j4 hE.h3.c4) (fun hHeld => ?_)
 clear hK K
 try simp only [PL]
 refine r1 10 (fun K hK => ?_)
 go_simp
 have hc := fopposite_v (c := cy) hE.here.2 (Nat.le_trans ly (by decide))
 refine hc.mono ?_
 clear hc
 rintro e w12 ⟨so, Ao, no, co, rfl, ho, hb⟩
 replace hE := hE.step hb
 clear hb
 replace hE := hE.wv ho
 clear ho
 have lo := neg_len hE.here.1.2 hE.here.2 ly
 go_wp2_with fail
 refine hK.out _ _ (hE.h5.j4 hE.h4.c4) (fun hHeld => ?_)
 clear hK K
 try simp only [PL]
 refine r1 11 (fun K hK => ?_)
 go_simp
 have hc := fplus_v (ca := cx) (cb := co) hE.h2 hE.here.2 (Nat.le_trans lx (by decide)) (Nat.le_trans lo (by decide)) (Nat.le_trans (ln_addZ (m := 512) (by rw [← (hE.h2).len]; exact lx) (by rw [← (hE.here.2).len]; exact lo)) (by decide))
 refine hc.mono ?_
 clear hc
 rintro e w13 ⟨sz, Az, nz, cz, rfl, hz, hb⟩
 replace hE := hE.step hb
 clear hb
 replace hE := hE.wv hz
 clear hz
 have lz : nz ≤ 513 := by rw [(hE.here.2).len]; exact (ln_addZ (m := 512) (by rw [← (hE.h3).len]; exact lx) (by rw [← (hE.here.1.2).len]; exact lo))
 go_wp2_with fail
 refine hK.out _ _ (hE.h6.j4 hE.h5.c4) (fun hHeld => ?_)
 clear hK K
 try simp only [PL]
 refine r1 16 (fun K hK => ?_)
 go_simp
 have hc := ftimes_v (ca := da) (cb := db) (hE.h8).2 (hE.h7).2 (Nat.le_trans ha2 (by decide)) (Nat.le_trans hb2 (by decide)) (Nat.le_trans (ln_mulZ (m := 256) (n := 256) qa2 qb2) (by decide))
 refine hc.mono ?_
 clear hc
 rintro e w14 ⟨su, Au, nu, cu, rfl, hu, hb⟩
 replace hE := hE.step hb
 clear hb
 replace hE := hE.wv hu
 clear hu
 have lu : nu ≤ 512 := by rw [(hE.here.2).len]; exact (ln_mulZ (m := 256) (n := 256) qa2 qb2)
 go_wp2_with fail
 refine hK.out _ _ (hE.h7.j4 hE.h6.c4) (fun hHeld => ?_)
 clear hK K
 try simp only [PL]
 refine r1 17 (fun K hK => ?_)
 go_simp
 have hc := flowest_v (ca := cz) (cb := cu) hE.here.1.2 hE.here.2 (Nat.le_trans lz (by decide)) (Nat.le_trans lu (by decide)) (den_ne a b)
 rw [sub_low a b] at hc
 refine hE.fr hc ?_
 clear hE hc
 intro sf Af nf cf tf Bf mf df w15 hE
 go_wp2_with fail
 refine hK.out _ _ (hE.h8.j4 hE.h7.c4) (fun hHeld => ?_)
 clear hK K
 try simp only [PL]
 refine r1 18 (fun K hK => ?_)
 go_simp
 refine hE.fr (fresult_ok (c := cf) (d := df) hE.here.2 lr) ?_
 clear hE
 intro sr Ar nr cr tr Br mr dr w16 hE
 go_wp2_with fail
 refine hK.out _ _ (hE.h9.j4 hE.h8.c4) (fun hHeld => ?_)
 clear hK K
 try simp only [PL]
 refine tk 19 ?_
 try simp only [PL]
 refine tk 20 ?_
 try simp only [PL]
 refine r1 21 (fun K hK => ?_)
 have hRl : w.heap.size ≤ w.heap.size + 1 + 1 := by omega
 obtain ⟨WW, hWW, hB, hV, hBel⟩ := ret_frac hE hE.h7 hRl hE.here.2 cr dr
 obtain ⟨x0, x1, x2, x3⟩ := (hE.h7).c4
 obtain ⟨fz0, fz1, fz2, fz3⟩ := hE.h7.f4
 have HWW := Lib.hid hWW
 clear hWW
 have q17 := (hE.h9).far4 (R := w.heap.size + 1 + 1) (by omega) (.bool sr) (.slice Ar nr cr) (.bool tr) (.slice Br mr dr)
 rw [← HWW.out] at q17
 have q18 := (hE.h8).far4 (R := w.heap.size + 1 + 1) (by omega) (.bool sr) (.slice Ar nr cr) (.bool tr) (.slice Br mr dr)
 rw [← HWW.out] at q18
 go_simp
 rw [← HWW.out]
 refine hK.out _ _ (q17.j4 q18.c4) (fun hHeld => ?_)
 clear hK K
 try simp only [PL]
 refine tk 22 ?_
 try simp only [PL]
 refine wpAnyH_done (by kernel_rfl) ?_ _
 go_wp2_with fail
 obtain ⟨y0, y1, y2, y3⟩ := hB.c4
 refine bodyPost_ret (v := .tuple #[.agg #[.bool sr, .slice Ar nr cr, .bool tr, .slice Br mr dr], .int .i64 0]) (by simp [results, Tryz.results19, go_sem, y0, y1, y2, y3]) rfl ?_
 exact ⟨sr, Ar, nr, cr, tr, Br, mr, dr, rfl, hV, hBel⟩
set_option linter.unusedSimpArgs false in
set_option maxRecDepth 100000 in
set_option maxHeartbeats 2000000 in
theorem fmul_v {a b : Rat} {sa ta sb tb : Bool} {Aa Ba Ab Bb : Option Addr} {na ca ma da nb cb mb db : Nat} {w : World} (ha : FV w a sa Aa na ta Ba ma) (hb : FV w b sb Ab nb tb Bb mb) (la : fl a ≤ 256) (lb : fl b ≤ 256) (lr : fl (a * b) ≤ 256) :
  Calls Tryz.prog 35 #[.agg #[.bool sa, .slice Aa na ca, .bool ta, .slice Ba ma da], .agg #[.bool sb, .slice Ab nb cb, .bool tb, .slice Bb mb db]] w (FOK (a * b) w) := by
 have hE := ((((Env.start w).fv ha).fv hb).blk 29 #[.bool sa, .slice Aa na ca, .bool ta, .slice Ba ma da] (g := w.heap.size) rfl).blk 29 #[.bool sb, .slice Ab nb cb, .bool tb, .slice Bb mb db] (g := w.heap.size + 1) (by simp)
 have hE := hE.blk 29 #[.bool false, .slice none 0 0, .bool false, .slice none 0 0] (g := w.heap.size + 1 + 1) (by simp)
 obtain ⟨W0, hW0⟩ : ∃ W0, W0 = (((w.alloc (.cells #[.bool sa, .slice Aa na ca, .bool ta, .slice Ba ma da] 29)).alloc (.cells #[.bool sb, .slice Ab nb cb, .bool tb, .slice Bb mb db] 29)).alloc (.cells #[.bool false, .slice none 0 0, .bool false, .slice none 0 0] 29)) := ⟨_, rfl⟩
 rw [← hW0] at hE
 have HW0 := Lib.hid hW0
 clear hW0
 go_enter Tryz.func35, Tryz.ntmps35
 go_upto_region 1 with (fail)
 rw [← HW0.out]
 obtain ⟨k1, k2, k3, k4⟩ := (hE.h2).c4
 obtain ⟨k5, k6, k7, k8⟩ := (hE.here.1.2).c4
 go_wp2_with fail
 have hc := fallValid_v (c := ca) (d := da) (c2 := cb) (d2 := db) hE.h4 hE.h3 la lb
 refine hc.mono ?_
 clear hc
 clear k1 k2 k3 k4 k5 k6 k7 k8
 rintro e w9 ⟨rfl, hb⟩
 replace hE := hE.step hb
 clear hb
 go_upto_region 3 with (fail)
 obtain ⟨qa1, qa2⟩ := fl_le.1 la
 obtain ⟨qb1, qb2⟩ := fl_le.1 lb
 obtain ⟨ha1, ha2⟩ := (hE.h4).ln la
 obtain ⟨hb1, hb2⟩ := (hE.h3).ln lb
 have qa2 : ln b16 ((a.den : Nat) : Int).natAbs ≤ 256 := by rw [Int.natAbs_natCast]; exact qa2
 have qb2 : ln b16 ((b.den : Nat) : Int).natAbs ≤ 256 := by rw [Int.natAbs_natCast]; exact qb2
 replace hE := hE.drew
 refine wp_region_held_drew (S := fun w' => w'.cell? ⟨w.heap.size, 0, none⟩ = some (.bool sa) ∧ w'.cell? ⟨w.heap.size, 1, none⟩ = some (.slice Aa na ca) ∧ w'.cell? ⟨w.heap.size, 2, none⟩ = some (.bool ta) ∧ w'.cell? ⟨w.heap.size, 3, none⟩ = some (.slice Ba ma da) ∧ w'.cell? ⟨w.heap.size + 1, 0, none⟩ = some (.bool sb) ∧ w'.cell? ⟨w.heap.size + 1, 1, none⟩ = some (.slice Ab nb cb) ∧ w'.cell? ⟨w.heap.size + 1, 2, none⟩ = some (.bool tb) ∧ w'.cell? ⟨w.heap.size + 1, 3, none⟩ = some (.slice Bb mb db)) (by kernel_rfl) (hE.h2.j4 hE.here.1.2.c4) (fun hHeld => ?_)
 refine tk 0 ?_
 try simp only [PL]
 refine tk 1 ?_
 try simp only [PL]
 refine tk 2 ?_
 try simp only [PL]
 refine tk 3 ?_
 try simp only [PL]
 refine tk 5 ?_
 try simp only [PL]
 refine tk 6 ?_
 try simp only [PL]
 refine tk 7 ?_
 try simp only [PL]
 refine tk 8 ?_
 try simp only [PL]
 refine r1 4 (fun K hK => ?_)
 go_simp
 have hc := ftimes_v (ca := ca) (cb := cb) (hE.h4).1 (hE.h3).1 (Nat.le_trans ha1 (by decide)) (Nat.le_trans hb1 (by decide)) (Nat.le_trans (ln_mulZ (m := 256) (n := 256) qa1 qb1) (by decide))
 refine hc.mono ?_
 clear hc
 rintro e w10 ⟨sx, Ax, nx, cx, rfl, hx, hb⟩
 replace hE := hE.step hb
 clear hb
 replace hE := hE.wv hx
 clear hx
 have lx : nx ≤ 512 := by rw [(hE.here.2).len]; exact (ln_mulZ (m := 256) (n := 256) qa1 qb1)
 go_wp2_with fail
 refine hK.out _ _ (hE.h3.j4 hE.h2.c4) (fun hHeld => ?_)
 clear hK K
 try simp only [PL]
 refine r1 9 (fun K hK => ?_)
 go_simp
 have hc := ftimes_v (ca := da) (cb := db) (hE.h5).2 (hE.h4).2 (Nat.le_trans ha2 (by decide)) (Nat.le_trans hb2 (by decide)) (Nat.le_trans (ln_mulZ (m := 256) (n := 256) qa2 qb2) (by decide))
 refine hc.mono ?_
 clear hc
 rintro e w11 ⟨su, Au, nu, cu, rfl, hu, hb⟩
 replace hE := hE.step hb
 clear hb
 replace hE := hE.wv hu
 clear hu
 have lu : nu ≤ 512 := by rw [(hE.here.2).len]; exact (ln_mulZ (m := 256) (n := 256) qa2 qb2)
 go_wp2_with fail
 refine hK.out _ _ (hE.h4.j4 hE.h3.c4) (fun hHeld => ?_)
 clear hK K
 try simp only [PL]
 refine r1 10 (fun K hK => ?_)
 go_simp
 have hc := flowest_v (ca := cx) (cb := cu) hE.here.1.2 hE.here.2 (Nat.le_trans lx (by decide)) (Nat.le_trans lu (by decide)) (den_ne a b)
 rw [mul_low a b] at hc
 refine hE.fr hc ?_
 clear hE hc
 intro sf Af nf cf tf Bf mf df w12 hE
 go_wp2_with fail
 refine hK.out _ _ (hE.h5.j4 hE.h4.c4) (fun hHeld => ?_)
 clear hK K
 try simp only [PL]
 refine r1 11 (fun K hK => ?_)
 go_simp
 refine hE.fr (fresult_ok (c := cf) (d := df) hE.here.2 lr) ?_
 clear hE
 intro sr Ar nr cr tr Br mr dr w13 hE
 go_wp2_with fail
 refine hK.out _ _ (hE.h6.j4 hE.h5.c4) (fun hHeld => ?_)
 clear hK K
 try simp only [PL]
 refine tk 12 ?_
 try simp only [PL]
 refine tk 13 ?_
 try simp only [PL]
 refine r1 14 (fun K hK => ?_)
 have hRl : w.heap.size ≤ w.heap.size + 1 + 1 := by omega
 obtain ⟨WW, hWW, hB, hV, hBel⟩ := ret_frac hE hE.h4 hRl hE.here.2 cr dr
 obtain ⟨x0, x1, x2, x3⟩ := (hE.h4).c4
 obtain ⟨fz0, fz1, fz2, fz3⟩ := hE.h4.f4
 have HWW := Lib.hid hWW
 clear hWW
 have q14 := (hE.h6).far4 (R := w.heap.size + 1 + 1) (by omega) (.bool sr) (.slice Ar nr cr) (.bool tr) (.slice Br mr dr)
 rw [← HWW.out] at q14
 have q15 := (hE.h5).far4 (R := w.heap.size + 1 + 1) (by omega) (.bool sr) (.slice Ar nr cr) (.bool tr) (.slice Br mr dr)
 rw [← HWW.out] at q15
 go_simp
 rw [← HWW.out]
 refine hK.out _ _ (q14.j4 q15.c4) (fun hHeld => ?_)
 clear hK K
 try simp only [PL]
 refine tk 15 ?_
 try simp only [PL]
 refine wpAnyH_done (by kernel_rfl) ?_ _
 go_wp2_with fail
 obtain ⟨y0, y1, y2, y3⟩ := hB.c4
 refine bodyPost_ret (v := .tuple #[.agg #[.bool sr, .slice Ar nr cr, .bool tr, .slice Br mr dr], .int .i64 0]) (by simp [results, Tryz.results35, go_sem, y0, y1, y2, y3]) rfl ?_
 exact ⟨sr, Ar, nr, cr, tr, Br, mr, dr, rfl, hV, hBel⟩
end Go.Proofs.YtjgihmmeimfheaaGreat
