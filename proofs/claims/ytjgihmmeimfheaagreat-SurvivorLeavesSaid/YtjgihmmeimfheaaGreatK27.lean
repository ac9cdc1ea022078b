/-
  Several texts in one: The walks of frac.Make, Div, Neg, Floor and Ceil. The walks of frac.power and Pow. The walk of frac.Int. The walks of the laws' helpers over fractions: quick, is, sum, product, less, over, equal. The laws' short and usable of layer 02. Lengths of sums and products; usable at one, two and three fractions. The order of fractions, in plain words. Floors and ceilings of fractions, in plain words. The walks of the functions that frac.upwards returns: whether rounding goes up. The walks of frac.Pow. The order of upwards; what frac.Round asks.
-/
import Derived.Test.YtjgihmmeimfheaaGreatK3
import Derived.Test.YtjgihmmeimfheaaGreatK18
import Derived.Test.YtjgihmmeimfheaaGreatK26
import Derived.Lib.Zigzag
import Derived.Deep.CutRange
namespace Go.Proofs.YtjgihmmeimfheaaGreat
open Go.RowKit

/-- The call returned the whole number z and no error. -/
def WOK (z : Int) (w : World) (e : Ending) (w' : World) : Prop := ∃ s A n c, e = .returned (.tuple #[.agg #[.bool s, .slice A n c], .int .i64 0]) ∧ WV w' z s A n ∧ Below w.heap.size w w'
theorem whole_valid_v {z : Int} {s : Bool} {A : Option Addr} {n c : Nat} {w : World} (h : WV w z s A n) (hn : n ≤ 1024) :
  Calls Tryz.prog 55 #[.agg #[.bool s, .slice A n c]] w fun e w' => e = .returned (.bool true) ∧ Below w.heap.size w w' := by
 have hr : Rd w.heap.size .u16 w A n (dgt b16 z.natAbs) := by have := h.2.2; unfold Num16 at this; rwa [← h.len] at this
 have hk := okW_num (z := z) (by rw [← h.len]; exact hn)
 rw [← h.sgn, ← h.len] at hk
 exact whole_valid_any s A n c _ w hr (fun i _ => dgt16_lt _ i) (by omega) true hk
/-- Rounding up. -/
def ceilQ (a : Rat) : Int := if a.num.fmod (a.den : Int) = 0 then a.num.fdiv (a.den : Int) else a.num.fdiv (a.den : Int) + 1
theorem den_nz (a : Rat) : ((a.den : Nat) : Int) ≠ 0 := by have := a.den_pos; omega
set_option linter.unusedSimpArgs false in
set_option maxRecDepth 100000 in
theorem ftzero_v {q : Rat} {s t : Bool} {A B : Option Addr} {n m c d : Nat} {w : World} (ha : FV w q s A n t B m) (r : Bool) (hr : decide (q.num = 0) = r) :
  Calls Tryz.prog 74 #[.agg #[.bool s, .slice A n c, .bool t, .slice B m d]] w fun e w' => e = .returned (.bool r) ∧ Below w.heap.size w w' := by
 by_cases h0 : q.num = 0
 ·
  rw [decide_eq_true h0] at hr
  subst hr
  have hE := ((Env.start w).fv ha).blk 85 #[.bool s, .slice A n c, .bool t, .slice B m d] (g := w.heap.size) rfl
  obtain ⟨W0, hW0⟩ : ∃ W0, W0 = (w.alloc (.cells #[.bool s, .slice A n c, .bool t, .slice B m d] 85)) := ⟨_, rfl⟩
  rw [← hW0] at hE
  have HW0 := Lib.hid hW0
  clear hW0
  go_enter Tryz.func74, Tryz.ntmps74
  go_upto_region 1 with (fail)
  rw [← HW0.out]
  obtain rfl : n = 0 := by rw [ha.1.len, h0]; exact ln_zero
  obtain ⟨k1, k2, k3, k4⟩ := (hE.here.2).c4
  go_wp2_with fail
  go_ret
  exact ⟨rfl, hE.bel⟩
 ·
  rw [decide_eq_false h0] at hr
  subst hr
  have hE := ((Env.start w).fv ha).blk 85 #[.bool s, .slice A n c, .bool t, .slice B m d] (g := w.heap.size) rfl
  obtain ⟨W0, hW0⟩ : ∃ W0, W0 = (w.alloc (.cells #[.bool s, .slice A n c, .bool t, .slice B m d] 85)) := ⟨_, rfl⟩
  rw [← hW0] at hE
  have HW0 := Lib.hid hW0
  clear hW0
  go_enter Tryz.func74, Tryz.ntmps74
  go_upto_region 1 with (fail)
  rw [← HW0.out]
  have hz : 0 < n := by rw [ha.1.len]; exact (ln_pos b16_two).2 (by have : q.num ≠ 0 := h0; omega)
  have t1 : ((n : Int) == 0) = false := beq_eq_false_iff_ne.2 (by omega)
  have t2 : (n == 0) = false := beq_eq_false_iff_ne.2 (by omega)
  obtain ⟨k1, k2, k3, k4⟩ := (hE.here.2).c4
  go_wp2_with fail
  go_ret
  exact ⟨rfl, hE.bel⟩
set_option linter.unusedSimpArgs false in
set_option maxRecDepth 100000 in
set_option maxHeartbeats 2000000 in
theorem fmake_v {x y : Int} {sx sy : Bool} {Ax Ay : Option Addr} {nx cx ny cy : Nat} {w : World} (hx : WV w x sx Ax nx) (hy : WV w y sy Ay ny) (la : nx ≤ 1024) (lb : ny ≤ 1024) (hb0 : y ≠ 0) (lr : fl (Rat.divInt x y) ≤ 256) :
  Calls Tryz.prog 22 #[.agg #[.bool sx, .slice Ax nx cx], .agg #[.bool sy, .slice Ay ny cy]] w (FOK (Rat.divInt x y) w) := by
 have hE := ((((Env.start w).wv hx).wv hy).blk 27 #[.bool sx, .slice Ax nx cx] (g := w.heap.size) rfl).blk 27 #[.bool sy, .slice Ay ny cy] (g := w.heap.size + 1) (by simp)
 have hE := hE.blk 29 #[.bool false, .slice none 0 0, .bool false, .slice none 0 0] (g := w.heap.size + 1 + 1) (by simp)
 obtain ⟨W0, hW0⟩ : ∃ W0, W0 = (((w.alloc (.cells #[.bool sx, .slice Ax nx cx] 27)).alloc (.cells #[.bool sy, .slice Ay ny cy] 27)).alloc (.cells #[.bool false, .slice none 0 0, .bool false, .slice none 0 0] 29)) := ⟨_, rfl⟩
 rw [← hW0] at hE
 have HW0 := Lib.hid hW0
 clear hW0
 go_enter Tryz.func22, Tryz.ntmps22
 go_upto_region 1 with (fail)
 rw [← HW0.out]
 have hz : 0 < ny := by rw [hy.len]; exact (ln_pos b16_two).2 (by omega)
 have t1 : ((ny : Int) == 0) = false := beq_eq_false_iff_ne.2 (by omega)
 have t2 : (ny == 0) = false := beq_eq_false_iff_ne.2 (by omega)
 obtain ⟨k1, k2⟩ := (hE.h2).c2
 obtain ⟨k3, k4⟩ := (hE.here.1.2).c2
 go_wp2_with fail
 refine hE.br (whole_valid_v (c := cx) hE.h4 la) ?_
 clear hE k1 k2 k3 k4
 intro w5 hE
 obtain ⟨k6, k7⟩ := (hE.h2).c2
 obtain ⟨k8, k9⟩ := (hE.here.1.2).c2
 go_wp2_with fail
 refine hE.br (whole_valid_v (c := cy) hE.h3 lb) ?_
 clear hE k6 k7 k8 k9
 intro w10 hE
 obtain ⟨k11, k12⟩ := (hE.h2).c2
 obtain ⟨k13, k14⟩ := (hE.here.1.2).c2
 go_wp2_with fail
 refine hE.fr (flowest_v (ca := cx) (cb := cy) hE.h4 hE.h3 la lb hb0) ?_
 clear hE k11 k12 k13 k14
 intro sf Af nf cf tf Bf mf df w15 hE
 go_wp2_with fail
 refine hE.fr (fresult_ok (c := cf) (d := df) hE.here.2 lr) ?_
 clear hE
 intro sr Ar nr cr tr Br mr dr w16 hE
 have hRl : w.heap.size ≤ w.heap.size + 1 + 1 := by omega
 obtain ⟨WW, hWW, hB, hV, hBel⟩ := ret_frac hE hE.h2 hRl hE.here.2 cr dr
 obtain ⟨x0, x1, x2, x3⟩ := (hE.h2).c4
 obtain ⟨fz0, fz1, fz2, fz3⟩ := hE.h2.f4
 have HWW := Lib.hid hWW
 clear hWW
 go_wp2_with fail
 clear x0 x1 x2 x3
 rw [← HWW.out]
 obtain ⟨y0, y1, y2, y3⟩ := hB.c4
 refine bodyPost_ret (v := .tuple #[.agg #[.bool sr, .slice Ar nr cr, .bool tr, .slice Br mr dr], .int .i64 0]) (by simp [results, Tryz.results22, go_sem, y0, y1, y2, y3]) rfl ?_
 exact ⟨sr, Ar, nr, cr, tr, Br, mr, dr, rfl, hV, hBel⟩
set_option linter.unusedSimpArgs false in
set_option maxRecDepth 100000 in
set_option maxHeartbeats 4000000 in
theorem fdiv_v {a b : Rat} {sa ta sb tb : Bool} {Aa Ba Ab Bb : Option Addr} {na ca ma da nb cb mb db : Nat} {w : World} (ha : FV w a sa Aa na ta Ba ma) (hb : FV w b sb Ab nb tb Bb mb) (la : fl a ≤ 256) (lb : fl b ≤ 256) (hb0 : b.num ≠ 0) (lr : fl (a / b) ≤ 256) :
  Calls Tryz.prog 72 #[.agg #[.bool sa, .slice Aa na ca, .bool ta, .slice Ba ma da], .agg #[.bool sb, .slice Ab nb cb, .bool tb, .slice Bb mb db]] w (FOK (a / b) w) := by
 have hE := ((((Env.start w).fv ha).fv hb).blk 29 #[.bool sa, .slice Aa na ca, .bool ta, .slice Ba ma da] (g := w.heap.size) rfl).blk 29 #[.bool sb, .slice Ab nb cb, .bool tb, .slice Bb mb db] (g := w.heap.size + 1) (by simp)
 have hE := hE.blk 29 #[.bool false, .slice none 0 0, .bool false, .slice none 0 0] (g := w.heap.size + 1 + 1) (by simp)
 obtain ⟨W0, hW0⟩ : ∃ W0, W0 = (((w.alloc (.cells #[.bool sa, .slice Aa na ca, .bool ta, .slice Ba ma da] 29)).alloc (.cells #[.bool sb, .slice Ab nb cb, .bool tb, .slice Bb mb db] 29)).alloc (.cells #[.bool false, .slice none 0 0, .bool false, .slice none 0 0] 29)) := ⟨_, rfl⟩
 rw [← hW0] at hE
 have HW0 := Lib.hid hW0
 clear hW0
 go_enter Tryz.func72, Tryz.ntmps72
 go_upto_region 1 with (fail)
 rw [← HW0.out]
 obtain ⟨k1, k2, k3, k4⟩ := (hE.h2).c4
 obtain ⟨k5, k6, k7, k8⟩ := (hE.here.1.2).c4
 go_wp2_with fail
 have hc := fallValid_v (c := ca) (d := da) (c2 := cb) (d2 := db) hE.h4 hE.h3 la lb
 refine hc.mono ?_
 clear hc
 clear k1 k2 k3 k4 k5 k6 k7 k8
 rintro e w9 ⟨rfl, hb⟩
 replace hE := hE.step hb
 clear hb
 obtain ⟨k10, k11, k12, k13⟩ := (hE.here.1.2).c4
 go_wp2_with fail
 refine hE.br (ftzero_v (c := cb) (d := db) hE.h3 false (decide_eq_false hb0)) ?_
 clear hE k10 k11 k12 k13
 intro w14 hE
 go_upto_region 5 with (fail)
 obtain ⟨qa1, qa2⟩ := fv_lens (hE.h4) la
 obtain ⟨qb1, qb2⟩ := fv_lens (hE.h3) lb
 obtain ⟨ha1, ha2⟩ := (hE.h4).ln la
 obtain ⟨hb1, hb2⟩ := (hE.h3).ln lb
 replace hE := hE.drew
 refine wp_region_held_drew (S := fun w' => w'.cell? ⟨w.heap.size, 0, none⟩ = some (.bool sa) ∧ w'.cell? ⟨w.heap.size, 1, none⟩ = some (.slice Aa na ca) ∧ w'.cell? ⟨w.heap.size, 2, none⟩ = some (.bool ta) ∧ w'.cell? ⟨w.heap.size, 3, none⟩ = some (.slice Ba ma da) ∧ w'.cell? ⟨w.heap.size + 1, 0, none⟩ = some (.bool sb) ∧ w'.cell? ⟨w.heap.size + 1, 1, none⟩ = some (.slice Ab nb cb) ∧ w'.cell? ⟨w.heap.size + 1, 2, none⟩ = some (.bool tb) ∧ w'.cell? ⟨w.heap.size + 1, 3, none⟩ = some (.slice Bb mb db)) (by kernel_rfl) (hE.h2.j4 hE.here.1.2.c4) (fun hHeld => ?_)
 refine tk 0 ?_
 try simp only [PL]
 refine tk 1 ?_
 try simp only [PL]
 refine tk 2 ?_
 try simp only [PL]
 refine tk 3 ?_
 try simp only [PL]
 refine tk 5 ?_
 try simp only [PL]
 refine tk 6 ?_
 try simp only [PL]
 refine tk 7 ?_
 try simp only [PL]
 refine tk 8 ?_
 try simp only [PL]
 refine r1 4 (fun K hK => ?_)
 go_simp
 have hc := ftimes_v (ca := ca) (cb := db) (hE.h4).1 (hE.h3).2 (Nat.le_trans ha1 (by decide)) (Nat.le_trans hb2 (by decide)) (Nat.le_trans (ln_mulZ (m := 256) (n := 256) qa1 qb2) (by decide))
 refine hc.mono ?_
 clear hc
 rintro e w15 ⟨su, Au, nu, cu, rfl, hu, hb⟩
 replace hE := hE.step hb
 clear hb
 replace hE := hE.wv hu
 clear hu
 have lu : nu ≤ 512 := by rw [(hE.here.2).len]; exact (ln_mulZ (m := 256) (n := 256) qa1 qb2)
 go_wp2_with fail
 refine hK.out _ _ (hE.h3.j4 hE.h2.c4) (fun hHeld => ?_)
 clear hK K
 try simp only [PL]
 refine r1 9 (fun K hK => ?_)
 go_simp
 have hc := ftimes_v (ca := da) (cb := cb) (hE.h5).2 (hE.h4).1 (Nat.le_trans ha2 (by decide)) (Nat.le_trans hb1 (by decide)) (Nat.le_trans (ln_mulZ (m := 256) (n := 256) qa2 qb1) (by decide))
 refine hc.mono ?_
 clear hc
 rintro e w16 ⟨sv, Av, nv, cv, rfl, hv, hb⟩
 replace hE := hE.step hb
 clear hb
 replace hE := hE.wv hv
 clear hv
 have lv : nv ≤ 512 := by rw [(hE.here.2).len]; exact (ln_mulZ (m := 256) (n := 256) qa2 qb1)
 go_wp2_with fail
 refine hK.out _ _ (hE.h4.j4 hE.h3.c4) (fun hHeld => ?_)
 clear hK K
 try simp only [PL]
 refine r1 10 (fun K hK => ?_)
 go_simp
 have hc := flowest_v (ca := cu) (cb := cv) hE.here.1.2 hE.here.2 (Nat.le_trans lu (by decide)) (Nat.le_trans lv (by decide)) (Int.mul_ne_zero (den_nz a) hb0)
 rw [div_low a b] at hc
 refine hE.fr hc ?_
 clear hE hc
 intro sf Af nf cf tf Bf mf df w17 hE
 go_wp2_with fail
 refine hK.out _ _ (hE.h5.j4 hE.h4.c4) (fun hHeld => ?_)
 clear hK K
 try simp only [PL]
 refine r1 11 (fun K hK => ?_)
 go_simp
 refine hE.fr (fresult_ok (c := cf) (d := df) hE.here.2 lr) ?_
 clear hE
 intro sr Ar nr cr tr Br mr dr w18 hE
 go_wp2_with fail
 refine hK.out _ _ (hE.h6.j4 hE.h5.c4) (fun hHeld => ?_)
 clear hK K
 try simp only [PL]
 refine tk 12 ?_
 try simp only [PL]
 refine tk 13 ?_
 try simp only [PL]
 refine r1 14 (fun K hK => ?_)
 have hRl : w.heap.size ≤ w.heap.size + 1 + 1 := by omega
 obtain ⟨WW, hWW, hB, hV, hBel⟩ := ret_frac hE hE.h4 hRl hE.here.2 cr dr
 obtain ⟨x0, x1, x2, x3⟩ := (hE.h4).c4
 obtain ⟨fz0, fz1, fz2, fz3⟩ := hE.h4.f4
 have HWW := Lib.hid hWW
 clear hWW
 have q19 := (hE.h6).far4 (R := w.heap.size + 1 + 1) (by omega) (.bool sr) (.slice Ar nr cr) (.bool tr) (.slice Br mr dr)
 rw [← HWW.out] at q19
 have q20 := (hE.h5).far4 (R := w.heap.size + 1 + 1) (by omega) (.bool sr) (.slice Ar nr cr) (.bool tr) (.slice Br mr dr)
 rw [← HWW.out] at q20
 go_simp
 rw [← HWW.out]
 refine hK.out _ _ (q19.j4 q20.c4) (fun hHeld => ?_)
 clear hK K
 try simp only [PL]
 refine tk 15 ?_
 try simp only [PL]
 refine wpAnyH_done (by kernel_rfl) ?_ _
 go_wp2_with fail
 obtain ⟨y0, y1, y2, y3⟩ := hB.c4
 refine bodyPost_ret (v := .tuple #[.agg #[.bool sr, .slice Ar nr cr, .bool tr, .slice Br mr dr], .int .i64 0]) (by simp [results, Tryz.results72, go_sem, y0, y1, y2, y3]) rfl ?_
 exact ⟨sr, Ar, nr, cr, tr, Br, mr, dr, rfl, hV, hBel⟩
theorem fvalid_v0 {q : Rat} {s t : Bool} {A B : Option Addr} {n m c d : Nat} {w : World} (h : FV w q s A n t B m) (l : fl q ≤ 256) :
  Calls Tryz.prog 32 #[.agg #[.bool s, .slice A n c, .bool t, .slice B m d]] w fun e w' => e = .returned (.bool true) ∧ Below w.heap.size w w' := by
 obtain ⟨h1, h2⟩ := h.ln l
 exact fvalid_r s t A B n m c d _ _ w h.rd (by omega) (by omega) true (okF_of h l)
set_option linter.unusedSimpArgs false in
set_option maxRecDepth 100000 in
set_option maxHeartbeats 2000000 in
theorem fneg_v {a : Rat} {sa ta : Bool} {Aa Ba : Option Addr} {na ca ma da : Nat} {w : World} (ha : FV w a sa Aa na ta Ba ma) (la : fl a ≤ 256) :
  Calls Tryz.prog 20 #[.agg #[.bool sa, .slice Aa na ca, .bool ta, .slice Ba ma da]] w (FOK (-a) w) := by
 have hE := ((Env.start w).fv ha).blk 29 #[.bool sa, .slice Aa na ca, .bool ta, .slice Ba ma da] (g := w.heap.size) rfl
 have hE := hE.blk 29 #[.bool false, .slice none 0 0, .bool false, .slice none 0 0] (g := w.heap.size + 1) (by simp)
 obtain ⟨W0, hW0⟩ : ∃ W0, W0 = ((w.alloc (.cells #[.bool sa, .slice Aa na ca, .bool ta, .slice Ba ma da] 29)).alloc (.cells #[.bool false, .slice none 0 0, .bool false, .slice none 0 0] 29)) := ⟨_, rfl⟩
 rw [← hW0] at hE
 have HW0 := Lib.hid hW0
 clear hW0
 go_enter Tryz.func20, Tryz.ntmps20
 go_upto_region 1 with (fail)
 rw [← HW0.out]
 obtain ⟨k1, k2, k3, k4⟩ := (hE.here.1.2).c4
 go_wp2_with fail
 refine hE.br (fvalid_v0 (c := ca) (d := da) hE.h2 la) ?_
 clear hE k1 k2 k3 k4
 intro w5 hE
 go_upto_region 3 with (fail)
 obtain ⟨ha1, ha2⟩ := (hE.h2).ln la
 obtain ⟨qa1, qa2⟩ := fv_lens (hE.h2) la
 replace hE := hE.drew
 refine wp_region_held_drew (S := fun w' => w'.cell? ⟨w.heap.size, 0, none⟩ = some (.bool sa) ∧ w'.cell? ⟨w.heap.size, 1, none⟩ = some (.slice Aa na ca) ∧ w'.cell? ⟨w.heap.size, 2, none⟩ = some (.bool ta) ∧ w'.cell? ⟨w.heap.size, 3, none⟩ = some (.slice Ba ma da)) (by kernel_rfl) (hE.here.1.2.c4) (fun hHeld => ?_)
 refine tk 0 ?_
 try simp only [PL]
 refine tk 1 ?_
 try simp only [PL]
 refine tk 3 ?_
 try simp only [PL]
 refine tk 4 ?_
 try simp only [PL]
 refine r1 2 (fun K hK => ?_)
 go_simp
 have hc := fopposite_v (c := ca) (hE.h2).1 (Nat.le_trans ha1 (by decide))
 refine hc.mono ?_
 clear hc
 rintro e w6 ⟨sn, An, nn, cn, rfl, hn, hb⟩
 replace hE := hE.step hb
 clear hb
 replace hE := hE.wv hn
 clear hn
 have ln : nn ≤ 256 := by rw [(hE.here.2).len]; first | (rw [Int.natAbs_neg]; first | exact qa1 | exact qa2) | (rw [Int.neg_neg]; exact qa2)
 go_wp2_with fail
 refine hK.out _ _ (hE.h2.c4) (fun hHeld => ?_)
 clear hK K
 try simp only [PL]
 refine r1 5 (fun K hK => ?_)
 go_simp
 have hc := fopposite_v (c := da) (hE.h3).2 (Nat.le_trans ha2 (by decide))
 refine hc.mono ?_
 clear hc
 rintro e w7 ⟨se, Ae, ne, ce, rfl, he1, hb⟩
 replace hE := hE.step hb
 clear hb
 replace hE := hE.wv he1
 clear he1
 have le1 : ne ≤ 256 := by rw [(hE.here.2).len]; first | (rw [Int.natAbs_neg]; first | exact qa1 | exact qa2) | (rw [Int.neg_neg]; exact qa2)
 go_wp2_with fail
 refine hK.out _ _ (hE.h3.c4) (fun hHeld => ?_)
 clear hK K
 try simp only [PL]
 refine r1 6 (fun K hK => ?_)
 go_simp
 have hc := fopposite_v (c := ce) (hE.here.2) (Nat.le_trans le1 (by decide))
 refine hc.mono ?_
 clear hc
 rintro e w8 ⟨sf, Af, nf, cf, rfl, hf1, hb⟩
 replace hE := hE.step hb
 clear hb
 replace hE := hE.wv hf1
 clear hf1
 have lf1 : nf ≤ 256 := by rw [(hE.here.2).len]; first | (rw [Int.natAbs_neg]; first | exact qa1 | exact qa2) | (rw [Int.neg_neg]; exact qa2)
 have hfv : FV w8 (-a) sn An nn sf Af nf := ⟨by rw [Rat.neg_num]; exact hE.h2, by rw [Rat.neg_den]; have := hE.here.2; rwa [Int.neg_neg] at this⟩
 replace hE := hE.fv hfv
 clear hfv
 go_wp2_with fail
 refine hK.out _ _ (hE.h5.c4) (fun hHeld => ?_)
 clear hK K
 try simp only [PL]
 refine tk 7 ?_
 try simp only [PL]
 refine r1 8 (fun K hK => ?_)
 have hRl : w.heap.size ≤ w.heap.size + 1 := by omega
 obtain ⟨WW, hWW, hB, hV, hBel⟩ := ret_frac hE hE.h4 hRl hE.here.2 cn cf
 obtain ⟨x0, x1, x2, x3⟩ := (hE.h4).c4
 obtain ⟨fz0, fz1, fz2, fz3⟩ := hE.h4.f4
 have HWW := Lib.hid hWW
 clear hWW
 have q9 := (hE.h5).far4 (R := w.heap.size + 1) (by omega) (.bool sn) (.slice An nn cn) (.bool sf) (.slice Af nf cf)
 rw [← HWW.out] at q9
 go_simp
 rw [← HWW.out]
 refine hK.out _ _ (q9.c4) (fun hHeld => ?_)
 clear hK K
 try simp only [PL]
 refine tk 9 ?_
 try simp only [PL]
 refine wpAnyH_done (by kernel_rfl) ?_ _
 go_wp2_with fail
 obtain ⟨y0, y1, y2, y3⟩ := hB.c4
 refine bodyPost_ret (v := .tuple #[.agg #[.bool sn, .slice An nn cn, .bool sf, .slice Af nf cf], .int .i64 0]) (by simp [results, Tryz.results20, go_sem, y0, y1, y2, y3]) rfl ?_
 exact ⟨sn, An, nn, cn, sf, Af, nf, cf, rfl, hV, hBel⟩
set_option linter.unusedSimpArgs false in
set_option maxRecDepth 100000 in
set_option maxHeartbeats 2000000 in
theorem ffloor_v {a : Rat} {sa ta : Bool} {Aa Ba : Option Addr} {na ca ma da : Nat} {w : World} (ha : FV w a sa Aa na ta Ba ma) (la : fl a ≤ 256) :
  Calls Tryz.prog 21 #[.agg #[.bool sa, .slice Aa na ca, .bool ta, .slice Ba ma da]] w (WOK (a.num.fdiv (a.den : Int)) w) := by
 have hE := ((Env.start w).fv ha).blk 29 #[.bool sa, .slice Aa na ca, .bool ta, .slice Ba ma da] (g := w.heap.size) rfl
 have hE := hE.blk 27 #[.bool false, .slice none 0 0] (g := w.heap.size + 1) (by simp)
 obtain ⟨W0, hW0⟩ : ∃ W0, W0 = ((w.alloc (.cells #[.bool sa, .slice Aa na ca, .bool ta, .slice Ba ma da] 29)).alloc (.cells #[.bool false, .slice none 0 0] 27)) := ⟨_, rfl⟩
 rw [← hW0] at hE
 have HW0 := Lib.hid hW0
 clear hW0
 go_enter Tryz.func21, Tryz.ntmps21
 go_upto_region 1 with (fail)
 rw [← HW0.out]
 obtain ⟨ha1, ha2⟩ := ha.ln la
 obtain ⟨k1, k2, k3, k4⟩ := (hE.here.1.2).c4
 go_wp2_with fail
 refine hE.br (fvalid_v0 (c := ca) (d := da) hE.h2 la) ?_
 clear hE k1 k2 k3 k4
 intro w5 hE
 obtain ⟨k6, k7, k8, k9⟩ := (hE.here.1.2).c4
 go_wp2_with fail
 refine (fdivide_v (ca := ca) (cb := da) (hE.h2).1 (hE.h2).2 (by omega) (by omega) (den_nz a)).mono ?_
 clear k6 k7 k8 k9
 rintro e w9 ⟨sq, Aq, nq, cq, sr, Ar, nr, cr, rfl, hq, hr, hb⟩
 replace hE := hE.step hb
 clear hb
 replace hE := (hE.wv hq).wv hr
 go_upto_region 4 with (fail)
 have hl10a : w.heap.size < w9.heap.size := (hE.h3).lt
 have hl10b : w.heap.size + 1 < w9.heap.size := (hE.h2).lt
 replace hE := (hE.blk 27 #[.bool sq, .slice Aq nq cq] (g := w9.heap.size) rfl).blk 27 #[.bool sr, .slice Ar nr cr] (g := w9.heap.size + 1) (by simp)
 generalize (w9.alloc (.cells #[.bool sq, .slice Aq nq cq] 27)).alloc (.cells #[.bool sr, .slice Ar nr cr] 27) = X10 at hE ⊢
 generalize w9.heap.size = g10 at hE hl10a hl10b ⊢
 clear hq hr
 obtain ⟨k11, k12⟩ := (hE.here.1.2).c2
 have hRl : w.heap.size ≤ w.heap.size + 1 := by omega
 obtain ⟨WW, hWW, hB, hV, hBel⟩ := ret_whole hE hE.h4 hRl hE.h3 cq
 obtain ⟨x0, x1⟩ := (hE.h4).c2
 obtain ⟨fz0, fz1⟩ := hE.h4.f2
 have HWW := Lib.hid hWW
 clear hWW
 go_wp2_with fail
 clear x0 x1
 rw [← HWW.out]
 obtain ⟨y0, y1⟩ := hB.c2
 refine bodyPost_ret (v := .tuple #[.agg #[.bool sq, .slice Aq nq cq], .int .i64 0]) (by simp [results, Tryz.results21, go_sem, y0, y1]) rfl ?_
 exact ⟨sq, Aq, nq, cq, rfl, hV, hBel⟩
theorem fdiv_len {a b : Int} (ha : ln b16 a.natAbs ≤ 256) (_ : b ≠ 0) : ln b16 (a.fdiv b).natAbs ≤ 513 := by
 refine Nat.le_trans (ln_mono b16_two (show (a.fdiv b).natAbs ≤ a.natAbs + 1 from ?_)) (Nat.le_trans (ln_add b16_two (m := 256) ha (by decide)) (by decide))
 have h1 := Int.natAbs_ediv_le_natAbs a b
 rw [Int.fdiv_eq_ediv]
 split <;> omega
end Go.Proofs.YtjgihmmeimfheaaGreat
namespace Go.Proofs.YtjgihmmeimfheaaGreat
open Go.RowKit

/-- The call returned the whole number z, and true. -/
def WT (z : Int) (w : World) (e : Ending) (w' : World) : Prop := ∃ s A n c, e = .returned (.tuple #[.agg #[.bool s, .slice A n c], .bool true]) ∧ WV w' z s A n ∧ Below w.heap.size w w'
theorem pow_le {a : Int} (h : a ≠ 0) {i j : Nat} (hij : i ≤ j) : ln b16 (a ^ i).natAbs ≤ ln b16 (a ^ j).natAbs := by
 refine ln_mono b16_two ?_
 rw [Int.natAbs_pow, Int.natAbs_pow]
 exact Nat.pow_le_pow_right (by omega) hij
theorem half_twice (n j : Nat) : n / 2 ^ j = 2 * (n / 2 ^ (j + 1)) + n / 2 ^ j % 2 := by
 rw [Nat.pow_succ, ← Nat.div_div_eq_div_mul]
 omega
theorem pow_step (a : Int) (n j : Nat) (h : n / 2 ^ j % 2 = 0) : a ^ (n / 2 ^ (j + 1)) * a ^ (n / 2 ^ (j + 1)) = a ^ (n / 2 ^ j) := by
 rw [← Int.pow_add]
 congr 1
 have := half_twice n j
 omega
theorem pow_step1 (a : Int) (n j : Nat) (h : n / 2 ^ j % 2 = 1) : a ^ (n / 2 ^ (j + 1)) * a ^ (n / 2 ^ (j + 1)) * a = a ^ (n / 2 ^ j) := by
 rw [← Int.pow_add, ← Int.pow_succ]
 congr 1
 have := half_twice n j
 omega
/-- A cell of a block. -/
def At (b o : Nat) (v : Value) (V : World) : Prop := b < V.heap.size ∧ V.cell? ⟨b, o, none⟩ = some v
theorem At.stable (b o : Nat) (v : Value) : Stable (At b o v) := fun _ _ hb h => ⟨Nat.lt_of_lt_of_le h.1 hb.size, (hb.cell (p := ⟨b, o, none⟩) h.1).trans h.2⟩
theorem Env.at_ {w W : World} {P : World → Prop} {b o : Nat} {v : Value} (h : Env w P W) (hb : b < W.heap.size) (hc : W.cell? ⟨b, o, none⟩ = some v) : Env w (fun V => P V ∧ At b o v V) W := h.and (At.stable b o v) ⟨hb, hc⟩
theorem limb_one {w : World} {z : Int} {s : Bool} {A : Option Addr} (h : WV w z s A 1) : ∃ b o, A = some ⟨b, o, none⟩ ∧ b < w.heap.size ∧ w.cell? ⟨b, o, none⟩ = some (.int .u16 ((z.natAbs : Nat) : Int)) := by
 obtain ⟨hs, hl, hr⟩ := h
 obtain ⟨b, o, e, hb, hc⟩ := hr (by omega)
 have c1 := hc 0 (by omega)
 have hv : dgt b16 z.natAbs 0 = z.natAbs := by
  have h := vs_dgt_ln b16_two (x := z.natAbs)
  rw [← hl, vs_succ, vs_zero] at h
  simpa using h
 rw [hv, Nat.add_zero] at c1
 exact ⟨b, o, e, hb, c1⟩
theorem wv_neg1 {w : World} {s : Bool} {A : Option Addr} {n : Nat} (h : WV w 1 s A n) : WV w (-1) true A n := ⟨rfl, h.2.1, h.2.2⟩
theorem wv_pos1 {w : World} {s : Bool} {A : Option Addr} {n : Nat} (h : WV w 1 s A n) : WV w 1 false A n := ⟨rfl, h.2.1, h.2.2⟩
end Go.Proofs.YtjgihmmeimfheaaGreat
namespace Go.Proofs.YtjgihmmeimfheaaGreat
open Go.RowKit

theorem wint_v {z : Int} {s : Bool} {A : Option Addr} {n c : Nat} {w : World} (ha : WV w z s A n) (la : n ≤ 1024) :
  Calls Tryz.prog 78 #[.agg #[.bool s, .slice A n c]] w fun e w' => ∃ r k, e = .returned (.tuple #[.int .i64 r, .int .i64 k]) ∧ IntR z r k ∧ Below w.heap.size w w' := by
 obtain ⟨rfl, rfl, hA⟩ := ha
 by_cases h4 : ln b16 z.natAbs ≤ 4
 ·
  have h := int_walk (decide (z < 0)) A (ln b16 z.natAbs) c (dgt b16 z.natAbs) w hA (fun i => dgt16_lt _ i) (okW_num la) h4
  rw [vs_dgt_ln b16_two, toI_int] at h
  exact h
 ·
  refine (int_long (decide (z < 0)) A (ln b16 z.natAbs) c (dgt b16 z.natAbs) w hA (fun i _ => dgt16_lt _ i) (by omega) (okW_num la) (by omega)).mono ?_
  rintro e w' ⟨rfl, hb⟩
  have h5 : ¬ z.natAbs < b16 ^ 4 := fun h => h4 ((ln_le b16_two).2 h)
  have h6 : b16 ^ 4 = 18446744073709551616 := rfl
  refine ⟨0, 3, rfl, .inr ⟨?_, rfl, rfl⟩, hb⟩
  unfold fits
  by_cases h7 : -9223372036854775808 ≤ z
  · rw [decide_eq_false (show ¬ z ≤ 9223372036854775807 by omega), Bool.and_false]
  · rw [decide_eq_false h7, Bool.false_and]
/-- What frac.Int returns. -/
def FIntR (a : Rat) (r k : Int) : Prop := ((a.den : Int) = 1 ∧ IntR a.num r k) ∨ (¬ (a.den : Int) = 1 ∧ r = 0 ∧ k = 22)
set_option linter.unusedSimpArgs false in
set_option maxRecDepth 100000 in
set_option maxHeartbeats 2000000 in
theorem fint_v {a : Rat} {sa ta : Bool} {Aa Ba : Option Addr} {na ca ma da : Nat} {w : World} (ha : FV w a sa Aa na ta Ba ma) (la : fl a ≤ 256) :
  Calls Tryz.prog 44 #[.agg #[.bool sa, .slice Aa na ca, .bool ta, .slice Ba ma da]] w (fun e w' => ∃ r k, e = .returned (.tuple #[.int .i64 r, .int .i64 k]) ∧ FIntR a r k ∧ Below w.heap.size w w') := by
 have hE := ((Env.start w).fv ha).blk 29 #[.bool sa, .slice Aa na ca, .bool ta, .slice Ba ma da] (g := w.heap.size) rfl
 obtain ⟨W0, hW0⟩ : ∃ W0, W0 = (w.alloc (.cells #[.bool sa, .slice Aa na ca, .bool ta, .slice Ba ma da] 29)) := ⟨_, rfl⟩
 rw [← hW0] at hE
 have HW0 := Lib.hid hW0
 clear hW0
 go_enter Tryz.func44, Tryz.ntmps44
 go_upto_region 1 with (fail)
 rw [← HW0.out]
 obtain ⟨ha1, ha2⟩ := ha.ln la
 obtain ⟨qa1, qa2⟩ := fv_lens ha la
 obtain ⟨k1, k2, k3, k4⟩ := (hE.here.2).c4
 go_wp2_with fail
 refine hE.br (fvalid_v0 (c := ca) (d := da) hE.here.1.2 la) ?_
 clear hE k1 k2 k3 k4
 intro w5 hE
 by_cases h1 : (a.den : Int) = 1
 ·
  have hd : decide ((a.den : Int) = 1) = true := decide_eq_true h1
  obtain ⟨k6, k7, k8, k9⟩ := (hE.here.2).c4
  go_wp2_with fail
  have hc := fintegral_v (s := sa) (A := Aa) (n := na) (c := ca) (d := da) (hE.here.1.2).2 (by omega)
  rw [hd] at hc
  refine hE.br hc ?_
  clear hE hc k6 k7 k8 k9
  intro w10 hE
  obtain ⟨k11, k12, k13, k14⟩ := (hE.here.2).c4
  go_wp2_with fail
  refine (wint_v (c := ca) (hE.here.1.2).1 (by omega)).mono ?_
  clear k11 k12 k13 k14
  rintro e w9 ⟨r, k, rfl, hr, hb⟩
  replace hE := hE.step hb
  clear hb
  go_wp2_with fail
  refine bodyPost_ret (v := .tuple #[.int .i64 r, .int .i64 k]) (by simp [results, Tryz.results44, go_sem]) rfl ?_
  exact ⟨r, k, rfl, .inl ⟨h1, hr⟩, hE.bel⟩
 ·
  have hd : decide ((a.den : Int) = 1) = false := decide_eq_false h1
  obtain ⟨k15, k16, k17, k18⟩ := (hE.here.2).c4
  go_wp2_with fail
  have hc := fintegral_v (s := sa) (A := Aa) (n := na) (c := ca) (d := da) (hE.here.1.2).2 (by omega)
  rw [hd] at hc
  refine hE.br hc ?_
  clear hE hc k15 k16 k17 k18
  intro w19 hE
  go_wp2_with fail
  refine bodyPost_ret (v := .tuple #[.int .i64 0, .int .i64 22]) (by simp [results, Tryz.results44, go_sem]) rfl ?_
  exact ⟨0, 22, rfl, .inr ⟨h1, rfl, rfl⟩, hE.bel⟩
end Go.Proofs.YtjgihmmeimfheaaGreat
namespace Go.Proofs.YtjgihmmeimfheaaGreat
open Go.RowKit

theorem fl_one2 : fl 1 ≤ 256 := by rw [fl_le]; exact ⟨by decide, by decide⟩
end Go.Proofs.YtjgihmmeimfheaaGreat
namespace Go.Proofs.YtjgihmmeimfheaaGreat
open Go.RowKit

/-- A fraction as it lies in memory, right or not. -/
structure Fc where
 s : Bool
 A : Option Addr
 n : Nat
 c : Nat
 f : Nat → Nat
 t : Bool
 B : Option Addr
 m : Nat
 d : Nat
 g : Nat → Nat
def Fc.cells (h : Fc) (w : World) (b o : Nat) : Prop := w.cell? ⟨b, o, none⟩ = some (.bool h.s) ∧ w.cell? ⟨b, o + 1, none⟩ = some (.slice h.A h.n h.c) ∧ w.cell? ⟨b, o + 2, none⟩ = some (.bool h.t) ∧ w.cell? ⟨b, o + 3, none⟩ = some (.slice h.B h.m h.d)
def Fc.rd (h : Fc) (w : World) : Prop := FRd w h.A h.n h.f h.B h.m h.g
def Fc.ok (h : Fc) : Bool := okF h.s h.n h.f h.t h.m h.g
theorem Fc.cells_below {h : Fc} {w w' : World} {b o : Nat} (hc : h.cells w b o) (hb : Below w.heap.size w w') (hlt : b < w.heap.size) : h.cells w' b o :=
 ⟨(hb.cell (p := ⟨b, o, none⟩) hlt).trans hc.1, (hb.cell (p := ⟨b, o + 1, none⟩) hlt).trans hc.2.1, (hb.cell (p := ⟨b, o + 2, none⟩) hlt).trans hc.2.2.1, (hb.cell (p := ⟨b, o + 3, none⟩) hlt).trans hc.2.2.2⟩
/-- A row of fractions in the block b. -/
def RowC (b o n : Nat) (h : Nat → Fc) (w : World) : Prop := b < w.heap.size ∧ ∀ k, k < n → (h k).cells w b (o + k * 4) ∧ (h k).rd w
theorem RowC.stable (b o n : Nat) (h : Nat → Fc) : Stable (RowC b o n h) := fun _ _ hb hr =>
 ⟨Nat.lt_of_lt_of_le hr.1 hb.size, fun k hk => ⟨Fc.cells_below (hr.2 k hk).1 hb hr.1, FRd.below (hr.2 k hk).2 hb⟩⟩
def Fc.sh (h : Fc) (most : Int) : Prop := (h.n : Int) ≤ most ∧ (h.m : Int) ≤ most
def ShortP (n : Nat) (h : Nat → Fc) (most : Int) (w : World) (e : Ending) (w' : World) : Prop := ∃ v, e = .returned (.bool v) ∧ (v = true → ∀ k, k < n → (h k).sh most) ∧ Below w.heap.size w w'
theorem no_false {P : Prop} : (false = true → P) := fun h => by cases h
/-- What usable says of a fraction. -/
def Fc.us (h : Fc) : Prop := h.sh 40 ∧ h.ok = true
def UsableP (n : Nat) (h : Nat → Fc) (w : World) (e : Ending) (w' : World) : Prop := ∃ v, e = .returned (.bool v) ∧ (v = true → ∀ k, k < n → (h k).us) ∧ Below w.heap.size w w'
end Go.Proofs.YtjgihmmeimfheaaGreat
namespace Go.Proofs.YtjgihmmeimfheaaGreat
open Go.RowKit

theorem fl_div {N D : Int} {k : Nat} (h : 0 < D) (h1 : ln b16 N.natAbs ≤ k) (h2 : ln b16 D.natAbs ≤ k) : fl (Rat.divInt N D) ≤ k := by
 obtain ⟨e1, e2⟩ := low_num (n := N) h
 rw [fl_le]
 refine ⟨?_, ?_⟩
 · rw [e1]; exact Nat.le_trans (ln_mono b16_two (Int.natAbs_ediv_le_natAbs _ _)) h1
 ·
  have e3 : (Rat.divInt N D).den = (D / ((Nat.gcd N.natAbs D.natAbs : Nat) : Int)).natAbs := by omega
  rw [e3]; exact Nat.le_trans (ln_mono b16_two (Int.natAbs_ediv_le_natAbs _ _)) h2
theorem fl_z {a : Rat} {i : Nat} (ha : fl a ≤ i) : ln b16 a.num.natAbs ≤ i ∧ ln b16 ((a.den : Int)).natAbs ≤ i := by
 rw [Int.natAbs_natCast]; exact fl_le.1 ha
theorem den_posZ (a : Rat) : 0 < (a.den : Int) := by have := a.den_pos; omega
theorem fl_plus {a b : Rat} {i j : Nat} (ha : fl a ≤ i) (hb : fl b ≤ j) : fl (a + b) ≤ i + j + 1 := by
 obtain ⟨a1, a2⟩ := fl_z ha
 obtain ⟨b1, b2⟩ := fl_z hb
 rw [← add_low]
 refine fl_div (Int.mul_pos (den_posZ a) (den_posZ b)) (ln_addZ (m := i + j) (ln_mulZ a1 b2) (Nat.le_trans (ln_mulZ b1 a2) (by omega))) (Nat.le_trans (ln_mulZ a2 b2) (by omega))
theorem fl_minus {a b : Rat} {i j : Nat} (ha : fl a ≤ i) (hb : fl b ≤ j) : fl (a - b) ≤ i + j + 1 := by
 obtain ⟨a1, a2⟩ := fl_z ha
 obtain ⟨b1, b2⟩ := fl_z hb
 rw [← sub_low]
 refine fl_div (Int.mul_pos (den_posZ a) (den_posZ b)) (ln_addZ (m := i + j) (ln_mulZ a1 b2) (by rw [Int.natAbs_neg]; exact Nat.le_trans (ln_mulZ b1 a2) (by omega))) (Nat.le_trans (ln_mulZ a2 b2) (by omega))
theorem fl_times {a b : Rat} {i j : Nat} (ha : fl a ≤ i) (hb : fl b ≤ j) : fl (a * b) ≤ i + j := by
 obtain ⟨a1, a2⟩ := fl_z ha
 obtain ⟨b1, b2⟩ := fl_z hb
 rw [← mul_low]
 exact fl_div (Int.mul_pos (den_posZ a) (den_posZ b)) (ln_mulZ a1 b1) (ln_mulZ a2 b2)
theorem fl_over {a b : Rat} {i j : Nat} (ha : fl a ≤ i) (hb : fl b ≤ j) (h0 : b.num ≠ 0) : fl (a / b) ≤ i + j := by
 obtain ⟨a1, a2⟩ := fl_z ha
 obtain ⟨b1, b2⟩ := fl_z hb
 rw [← div_low]
 rcases Int.lt_trichotomy b.num 0 with h | h | h
 ·
  rw [← low_neg]
  refine fl_div ?_ (by rw [Int.natAbs_neg]; exact ln_mulZ a1 b2) (by rw [Int.natAbs_neg]; exact ln_mulZ a2 b1)
  rw [← Int.mul_neg]
  exact Int.mul_pos (den_posZ a) (by omega)
 · exact absurd h h0
 · exact fl_div (Int.mul_pos (den_posZ a) h) (ln_mulZ a1 b2) (ln_mulZ a2 b1)
theorem fl_le2 {a : Rat} {i j : Nat} (h : fl a ≤ i) (h2 : i ≤ j) : fl a ≤ j := Nat.le_trans h h2
/-- Three fractions in a row. -/
def sel3 (a b c : Fc) (k : Nat) : Fc := if k = 0 then a else if k = 1 then b else c
theorem rowC3 {w : World} {T : TypeId} {g n : Nat} {a b c : Fc} {cs : Array Value} (hB : Blk T g cs w)
  (hc : ∀ k, k < n → cs[k * 4]? = some (.bool (sel3 a b c k).s) ∧ cs[k * 4 + 1]? = some (.slice (sel3 a b c k).A (sel3 a b c k).n (sel3 a b c k).c) ∧ cs[k * 4 + 2]? = some (.bool (sel3 a b c k).t) ∧ cs[k * 4 + 3]? = some (.slice (sel3 a b c k).B (sel3 a b c k).m (sel3 a b c k).d))
  (hr : ∀ k, k < n → (sel3 a b c k).rd w) : RowC g 0 n (sel3 a b c) w := ⟨hB.lt, fun k hk => by
 obtain ⟨h1, h2, h3, h4⟩ := hc k hk
 refine ⟨?_, hr k hk⟩
 unfold Fc.cells
 simp only [Nat.zero_add]
 exact ⟨(hB.cell _).trans h1, (hB.cell _).trans h2, (hB.cell _).trans h3, (hB.cell _).trans h4⟩⟩
def UseC (P : Prop) (w : World) (e : Ending) (w' : World) : Prop := ∃ v, e = .returned (.bool v) ∧ (v = true → P) ∧ Below w.heap.size w w'
/-- A usable fraction is a number with parts of at most 40 limbs. -/
theorem us_fv {s t : Bool} {A B : Option Addr} {n c m d : Nat} {f g : Nat → Nat} {w : World} (h : (Fc.mk s A n c f t B m d g).us) (hr : FRd w A n f B m g) : ∃ q : Rat, FV w q s A n t B m ∧ fl q ≤ 40 := by
 obtain ⟨⟨h1, h2⟩, h3⟩ := h
 dsimp only at h1 h2
 obtain ⟨q, hq, -, -, -⟩ := okF_fv hr h3
 refine ⟨q, hq, fl_le.2 ⟨?_, ?_⟩⟩
 · rw [← hq.1.len]; omega
 ·
  have := hq.2.len
  rw [Int.natAbs_natCast] at this
  rw [← this]; omega
theorem FRd.stable (A : Option Addr) (n : Nat) (f : Nat → Nat) (B : Option Addr) (m : Nat) (g : Nat → Nat) : Stable (fun w => FRd w A n f B m g) := fun _ _ hb h => h.below hb
theorem Env.frd {w W : World} {P : World → Prop} {A B : Option Addr} {n m : Nat} {f g : Nat → Nat} (h : Env w P W) (hr : FRd W A n f B m g) : Env w (fun V => P V ∧ FRd V A n f B m g) W := h.and (FRd.stable A n f B m g) hr
end Go.Proofs.YtjgihmmeimfheaaGreat
namespace Go.Proofs.YtjgihmmeimfheaaGreat
open Go.RowKit

theorem cmpQ_val (a b : Rat) : cmpQ a b = if a < b then -1 else if a = b then 0 else 1 := by
 unfold cmpQ cmpZ
 simp only [← cmp_lt, ← cmp_eq]
 generalize a.num * (b.den : Int) = x
 generalize b.num * (a.den : Int) = y
 grind
theorem cmpQ_b (a b : Rat) : -1 ≤ cmpQ a b ∧ cmpQ a b ≤ 1 := by
 rw [cmpQ_val]; split
 · omega
 · split <;> omega
theorem cmpQ_swap (a b : Rat) : cmpQ b a = -cmpQ a b := by
 rw [cmpQ_val, cmpQ_val]
 split <;> split <;> (try split) <;> first | rfl | grind
theorem cmpQ_less (a b : Rat) : cmpQ (a - b) ((0 : Int) : Rat) = cmpQ a b := by
 rw [cmpQ_val, cmpQ_val]
 have h0 : ((0 : Int) : Rat) = 0 := rfl
 rw [h0]
 split <;> split <;> (try split) <;> (try split) <;> first | rfl | grind
theorem cmpQ_plus (a b c : Rat) : cmpQ (a + c) (b + c) = cmpQ a b := by
 rw [cmpQ_val, cmpQ_val]
 split <;> split <;> (try split) <;> (try split) <;> first | rfl | grind
theorem cmpQ_trans {a b c : Rat} (h : cmpQ a b = cmpQ b c) : cmpQ a c = cmpQ a b := by
 rw [cmpQ_val, cmpQ_val] at h
 rw [cmpQ_val, cmpQ_val]
 grind
theorem cmpQ_times (a b c : Rat) : cmpQ (a * c) (b * c) = cmpQ a b * cmpQ c ((0 : Int) : Rat) := by
 have h0 : ((0 : Int) : Rat) = 0 := rfl
 rw [h0, cmpQ_val, cmpQ_val, cmpQ_val]
 rcases (show a < b ∨ a = b ∨ b < a by grind) with h | rfl | h <;> rcases (show c < 0 ∨ c = 0 ∨ 0 < c by grind) with k | rfl | k
 ·
  have := Rat.mul_pos (show (0 : Rat) < b - a by grind) (show (0 : Rat) < -c by grind)
  grind
 · grind
 ·
  have := Rat.mul_pos (show (0 : Rat) < b - a by grind) k
  grind
 · grind
 · grind
 · grind
 ·
  have := Rat.mul_pos (show (0 : Rat) < a - b by grind) (show (0 : Rat) < -c by grind)
  grind
 · grind
 ·
  have := Rat.mul_pos (show (0 : Rat) < a - b by grind) k
  grind
end Go.Proofs.YtjgihmmeimfheaaGreat
namespace Go.Proofs.YtjgihmmeimfheaaGreat
open Go.RowKit

def floorQ (a : Rat) : Int := a.num.fdiv (a.den : Int)
theorem floorQ_mul (a : Rat) : floorQ a * (a.den : Int) ≤ a.num ∧ a.num < (floorQ a + 1) * (a.den : Int) ∧ (a.num.fmod (a.den : Int) = 0 ↔ floorQ a * (a.den : Int) = a.num) := by
 have hp := den_posZ a
 have h1 := Int.fmod_nonneg_of_pos a.num hp
 have h2 := Int.fmod_lt_of_pos a.num hp
 have h3 := Int.fmod_add_mul_fdiv a.num (a.den : Int)
 unfold floorQ
 have h4 : a.num.fdiv (a.den : Int) * (a.den : Int) = (a.den : Int) * a.num.fdiv (a.den : Int) := Int.mul_comm _ _
 have h5 : (a.num.fdiv (a.den : Int) + 1) * (a.den : Int) = a.num.fdiv (a.den : Int) * (a.den : Int) + (a.den : Int) := by rw [Int.add_mul, Int.one_mul]
 omega
theorem int_num (z : Int) : ((z : Int) : Rat).num = z ∧ ((z : Int) : Rat).den = 1 := ⟨Rat.num_intCast z, Rat.den_intCast z⟩
theorem z_le {z : Int} {a : Rat} : ((z : Int) : Rat) ≤ a ↔ z * (a.den : Int) ≤ a.num := by
 rw [Rat.le_iff, (int_num z).1, (int_num z).2]; simp
theorem lt_z {z : Int} {a : Rat} : a < ((z : Int) : Rat) ↔ a.num < z * (a.den : Int) := by
 rw [Rat.lt_iff, (int_num z).1, (int_num z).2]; simp
theorem z_eq {z : Int} {a : Rat} : ((z : Int) : Rat) = a ↔ z * (a.den : Int) = a.num := by
 rw [Rat.eq_iff_mul_eq_mul, (int_num z).1, (int_num z).2]; simp
theorem floorQ_le (a : Rat) : ((floorQ a : Int) : Rat) ≤ a := z_le.2 (floorQ_mul a).1
theorem floorQ_lt (a : Rat) : a < ((floorQ a + 1 : Int) : Rat) := lt_z.2 (floorQ_mul a).2.1
theorem floorQ_int {a : Rat} : (a.den : Int) = 1 ↔ ((floorQ a : Int) : Rat) = a := by
 constructor
 ·
  intro h
  rw [z_eq]
  have := floorQ_mul a
  rw [h] at this ⊢
  omega
 ·
  intro h
  have := (int_num (floorQ a)).2
  rw [h] at this
  omega
theorem ceilQ_val (a : Rat) : ceilQ a = if (a.den : Int) = 1 then floorQ a else floorQ a + 1 := by
 unfold ceilQ
 have h := (floorQ_mul a).2.2
 rw [← z_eq, ← floorQ_int] at h
 by_cases h1 : (a.den : Int) = 1
 · rw [if_pos (h.2 h1), if_pos h1]; rfl
 · rw [if_neg (fun x => h1 (h.1 x)), if_neg h1]; rfl
theorem floorQ_uniq {a : Rat} {z : Int} (h1 : ((z : Int) : Rat) ≤ a) (h2 : a < ((z + 1 : Int) : Rat)) : floorQ a = z := by
 have h3 := floorQ_le a
 have h4 := floorQ_lt a
 have h5 : ((z : Int) : Rat) < ((floorQ a + 1 : Int) : Rat) := by grind
 have h6 : ((floorQ a : Int) : Rat) < ((z + 1 : Int) : Rat) := by grind
 rw [Rat.intCast_lt_intCast] at h5 h6
 omega
theorem ceil_floor (a : Rat) : ceilQ a + floorQ (-a) = 0 := by
 rw [ceilQ_val]
 have h1 := floorQ_le a
 have h2 := floorQ_lt a
 have h3 := floorQ_int (a := a)
 by_cases h : (a.den : Int) = 1
 ·
  rw [if_pos h]
  have e := h3.1 h
  rw [floorQ_uniq (a := -a) (z := -floorQ a)]
  · omega
  · rw [Rat.intCast_neg, e]; grind
  · rw [Rat.intCast_add, Rat.intCast_neg, e]; grind
 ·
  rw [if_neg h]
  have hne : ¬ ((floorQ a : Int) : Rat) = a := fun x => h (h3.2 x)
  rw [floorQ_uniq (a := -a) (z := -(floorQ a + 1))]
  · omega
  · rw [Rat.intCast_neg]; grind
  · rw [show (-(floorQ a + 1) + 1 : Int) = -floorQ a by omega, Rat.intCast_neg]; grind
end Go.Proofs.YtjgihmmeimfheaaGreat
namespace Go.Proofs.YtjgihmmeimfheaaGreat
open Go.RowKit

/-- Whether rounding goes up: the value is negative, k is odd, the side of the middle. -/
def upB (m : Nat) (ng od : Bool) (h : Int) : Bool :=
 if m = 1 then ng else if m = 2 then !ng else if m = 3 then false else if m = 4 then true else if m = 5 then decide (0 < h) || (decide (h = 0) && !ng) else decide (0 < h) || (decide (h = 0) && od)
set_option linter.unusedSimpArgs false in
set_option maxRecDepth 100000 in
theorem up1_v (ng od : Bool) (h : Int) (w : World) :
  Calls Tryz.prog 112 #[.agg #[.bool ng, .bool od, .int .i64 h]] w fun e w' => e = .returned (.bool (upB 1 ng od h)) ∧ Below w.heap.size w w' := by
 have hE := (Env.start w).blk 106 #[.bool ng, .bool od, .int .i64 h] (g := w.heap.size) rfl
 obtain ⟨W0, hW0⟩ : ∃ W0, W0 = (w.alloc (.cells #[.bool ng, .bool od, .int .i64 h] 106)) := ⟨_, rfl⟩
 rw [← hW0] at hE
 have HW0 := Lib.hid hW0
 clear hW0
 go_enter Tryz.func112, Tryz.ntmps112
 go_upto_region 1 with (fail)
 rw [← HW0.out]
 obtain ⟨k1, k2, k3⟩ := (hE.here.2).c3
 go_wp2_with fail
 go_ret
 exact ⟨(by first | rfl | (unfold upB; simp [*])), hE.bel⟩
set_option linter.unusedSimpArgs false in
set_option maxRecDepth 100000 in
theorem up2_v (ng od : Bool) (h : Int) (w : World) :
  Calls Tryz.prog 113 #[.agg #[.bool ng, .bool od, .int .i64 h]] w fun e w' => e = .returned (.bool (upB 2 ng od h)) ∧ Below w.heap.size w w' := by
 have hE := (Env.start w).blk 106 #[.bool ng, .bool od, .int .i64 h] (g := w.heap.size) rfl
 obtain ⟨W0, hW0⟩ : ∃ W0, W0 = (w.alloc (.cells #[.bool ng, .bool od, .int .i64 h] 106)) := ⟨_, rfl⟩
 rw [← hW0] at hE
 have HW0 := Lib.hid hW0
 clear hW0
 go_enter Tryz.func113, Tryz.ntmps113
 go_upto_region 1 with (fail)
 rw [← HW0.out]
 obtain ⟨k1, k2, k3⟩ := (hE.here.2).c3
 go_wp2_with fail
 go_ret
 exact ⟨(by first | rfl | (unfold upB; simp [*])), hE.bel⟩
set_option linter.unusedSimpArgs false in
set_option maxRecDepth 100000 in
theorem up3_v (ng od : Bool) (h : Int) (w : World) :
  Calls Tryz.prog 114 #[.agg #[.bool ng, .bool od, .int .i64 h]] w fun e w' => e = .returned (.bool (upB 3 ng od h)) ∧ Below w.heap.size w w' := by
 have hE := (Env.start w).blk 106 #[.bool ng, .bool od, .int .i64 h] (g := w.heap.size) rfl
 obtain ⟨W0, hW0⟩ : ∃ W0, W0 = (w.alloc (.cells #[.bool ng, .bool od, .int .i64 h] 106)) := ⟨_, rfl⟩
 rw [← hW0] at hE
 have HW0 := Lib.hid hW0
 clear hW0
 go_enter Tryz.func114, Tryz.ntmps114
 go_upto_region 1 with (fail)
 rw [← HW0.out]
 obtain ⟨k1, k2, k3⟩ := (hE.here.2).c3
 go_wp2_with fail
 go_ret
 exact ⟨(by first | rfl | (unfold upB; simp [*])), hE.bel⟩
set_option linter.unusedSimpArgs false in
set_option maxRecDepth 100000 in
theorem up4_v (ng od : Bool) (h : Int) (w : World) :
  Calls Tryz.prog 115 #[.agg #[.bool ng, .bool od, .int .i64 h]] w fun e w' => e = .returned (.bool (upB 4 ng od h)) ∧ Below w.heap.size w w' := by
 have hE := (Env.start w).blk 106 #[.bool ng, .bool od, .int .i64 h] (g := w.heap.size) rfl
 obtain ⟨W0, hW0⟩ : ∃ W0, W0 = (w.alloc (.cells #[.bool ng, .bool od, .int .i64 h] 106)) := ⟨_, rfl⟩
 rw [← hW0] at hE
 have HW0 := Lib.hid hW0
 clear hW0
 go_enter Tryz.func115, Tryz.ntmps115
 go_upto_region 1 with (fail)
 rw [← HW0.out]
 obtain ⟨k1, k2, k3⟩ := (hE.here.2).c3
 go_wp2_with fail
 go_ret
 exact ⟨(by first | rfl | (unfold upB; simp [*])), hE.bel⟩
set_option linter.unusedSimpArgs false in
set_option maxRecDepth 100000 in
theorem up5_v (ng od : Bool) (h : Int) (w : World) :
  Calls Tryz.prog 116 #[.agg #[.bool ng, .bool od, .int .i64 h]] w fun e w' => e = .returned (.bool (upB 5 ng od h)) ∧ Below w.heap.size w w' := by
 by_cases h1 : 0 < h
 ·
  have t1 : decide (0 < h) = true := decide_eq_true h1
  have hE := (Env.start w).blk 106 #[.bool ng, .bool od, .int .i64 h] (g := w.heap.size) rfl
  obtain ⟨W0, hW0⟩ : ∃ W0, W0 = (w.alloc (.cells #[.bool ng, .bool od, .int .i64 h] 106)) := ⟨_, rfl⟩
  rw [← hW0] at hE
  have HW0 := Lib.hid hW0
  clear hW0
  go_enter Tryz.func116, Tryz.ntmps116
  go_upto_region 1 with (fail)
  rw [← HW0.out]
  obtain ⟨k1, k2, k3⟩ := (hE.here.2).c3
  go_wp2_with fail
  go_ret
  exact ⟨(by first | rfl | (unfold upB; simp [*])), hE.bel⟩
 ·
  have t1 : decide (0 < h) = false := decide_eq_false h1
  by_cases h2 : h = 0
  ·
   subst h2
   clear h1 t1
   cases ng
   ·
    have hE := (Env.start w).blk 106 #[.bool false, .bool od, .int .i64 0] (g := w.heap.size) rfl
    obtain ⟨W0, hW0⟩ : ∃ W0, W0 = (w.alloc (.cells #[.bool false, .bool od, .int .i64 0] 106)) := ⟨_, rfl⟩
    rw [← hW0] at hE
    have HW0 := Lib.hid hW0
    clear hW0
    go_enter Tryz.func116, Tryz.ntmps116
    go_upto_region 1 with (fail)
    rw [← HW0.out]
    obtain ⟨k1, k2, k3⟩ := (hE.here.2).c3
    go_wp2_with fail
    go_ret
    exact ⟨(by first | rfl | (unfold upB; simp [*])), hE.bel⟩
   ·
    have hE := (Env.start w).blk 106 #[.bool true, .bool od, .int .i64 0] (g := w.heap.size) rfl
    obtain ⟨W0, hW0⟩ : ∃ W0, W0 = (w.alloc (.cells #[.bool true, .bool od, .int .i64 0] 106)) := ⟨_, rfl⟩
    rw [← hW0] at hE
    have HW0 := Lib.hid hW0
    clear hW0
    go_enter Tryz.func116, Tryz.ntmps116
    go_upto_region 1 with (fail)
    rw [← HW0.out]
    obtain ⟨k1, k2, k3⟩ := (hE.here.2).c3
    go_wp2_with fail
    go_ret
    exact ⟨(by first | rfl | (unfold upB; simp [*])), hE.bel⟩
  ·
   have t2 : (h == 0) = false := beq_eq_false_iff_ne.2 h2
   have hE := (Env.start w).blk 106 #[.bool ng, .bool od, .int .i64 h] (g := w.heap.size) rfl
   obtain ⟨W0, hW0⟩ : ∃ W0, W0 = (w.alloc (.cells #[.bool ng, .bool od, .int .i64 h] 106)) := ⟨_, rfl⟩
   rw [← hW0] at hE
   have HW0 := Lib.hid hW0
   clear hW0
   go_enter Tryz.func116, Tryz.ntmps116
   go_upto_region 1 with (fail)
   rw [← HW0.out]
   obtain ⟨k1, k2, k3⟩ := (hE.here.2).c3
   go_wp2_with fail
   go_ret
   exact ⟨(by first | rfl | (unfold upB; simp [*])), hE.bel⟩
set_option linter.unusedSimpArgs false in
set_option maxRecDepth 100000 in
theorem up6_v (ng od : Bool) (h : Int) (w : World) :
  Calls Tryz.prog 117 #[.agg #[.bool ng, .bool od, .int .i64 h]] w fun e w' => e = .returned (.bool (upB 6 ng od h)) ∧ Below w.heap.size w w' := by
 by_cases h1 : 0 < h
 ·
  have t1 : decide (0 < h) = true := decide_eq_true h1
  have hE := (Env.start w).blk 106 #[.bool ng, .bool od, .int .i64 h] (g := w.heap.size) rfl
  obtain ⟨W0, hW0⟩ : ∃ W0, W0 = (w.alloc (.cells #[.bool ng, .bool od, .int .i64 h] 106)) := ⟨_, rfl⟩
  rw [← hW0] at hE
  have HW0 := Lib.hid hW0
  clear hW0
  go_enter Tryz.func117, Tryz.ntmps117
  go_upto_region 1 with (fail)
  rw [← HW0.out]
  obtain ⟨k1, k2, k3⟩ := (hE.here.2).c3
  go_wp2_with fail
  go_ret
  exact ⟨(by first | rfl | (unfold upB; simp [*])), hE.bel⟩
 ·
  have t1 : decide (0 < h) = false := decide_eq_false h1
  by_cases h2 : h = 0
  ·
   subst h2
   clear h1 t1
   cases od
   ·
    have hE := (Env.start w).blk 106 #[.bool ng, .bool false, .int .i64 0] (g := w.heap.size) rfl
    obtain ⟨W0, hW0⟩ : ∃ W0, W0 = (w.alloc (.cells #[.bool ng, .bool false, .int .i64 0] 106)) := ⟨_, rfl⟩
    rw [← hW0] at hE
    have HW0 := Lib.hid hW0
    clear hW0
    go_enter Tryz.func117, Tryz.ntmps117
    go_upto_region 1 with (fail)
    rw [← HW0.out]
    obtain ⟨k1, k2, k3⟩ := (hE.here.2).c3
    go_wp2_with fail
    go_ret
    exact ⟨(by first | rfl | (unfold upB; simp [*])), hE.bel⟩
   ·
    have hE := (Env.start w).blk 106 #[.bool ng, .bool true, .int .i64 0] (g := w.heap.size) rfl
    obtain ⟨W0, hW0⟩ : ∃ W0, W0 = (w.alloc (.cells #[.bool ng, .bool true, .int .i64 0] 106)) := ⟨_, rfl⟩
    rw [← hW0] at hE
    have HW0 := Lib.hid hW0
    clear hW0
    go_enter Tryz.func117, Tryz.ntmps117
    go_upto_region 1 with (fail)
    rw [← HW0.out]
    obtain ⟨k1, k2, k3⟩ := (hE.here.2).c3
    go_wp2_with fail
    go_ret
    exact ⟨(by first | rfl | (unfold upB; simp [*])), hE.bel⟩
  ·
   have t2 : (h == 0) = false := beq_eq_false_iff_ne.2 h2
   have hE := (Env.start w).blk 106 #[.bool ng, .bool od, .int .i64 h] (g := w.heap.size) rfl
   obtain ⟨W0, hW0⟩ : ∃ W0, W0 = (w.alloc (.cells #[.bool ng, .bool od, .int .i64 h] 106)) := ⟨_, rfl⟩
   rw [← hW0] at hE
   have HW0 := Lib.hid hW0
   clear hW0
   go_enter Tryz.func117, Tryz.ntmps117
   go_upto_region 1 with (fail)
   rw [← HW0.out]
   obtain ⟨k1, k2, k3⟩ := (hE.here.2).c3
   go_wp2_with fail
   go_ret
   exact ⟨(by first | rfl | (unfold upB; simp [*])), hE.bel⟩
end Go.Proofs.YtjgihmmeimfheaaGreat
namespace Go.Proofs.YtjgihmmeimfheaaGreat
open Go.RowKit

theorem fv_pow {w : World} {q : Rat} {n : Nat} {s t : Bool} {A B : Option Addr} {k m : Nat} (h1 : WV w (q.num ^ n) s A k) (h2 : WV w (((q.den : Nat) : Int) ^ n) t B m) : FV w (q ^ n) s A k t B m :=
 ⟨by rw [Rat.num_pow]; exact h1, by rw [Rat.den_pow, Int.natCast_pow]; exact h2⟩
theorem fl_pow {q : Rat} {n : Nat} (h : fl (q ^ n) ≤ 256) : ln b16 (q.num ^ n).natAbs ≤ 256 ∧ ln b16 (((q.den : Nat) : Int) ^ n).natAbs ≤ 256 := by
 obtain ⟨h1, h2⟩ := fl_le.1 h
 rw [Rat.num_pow] at h1
 rw [Rat.den_pow] at h2
 exact ⟨h1, by rw [← Int.natCast_pow, Int.natAbs_natCast]; exact h2⟩
theorem inv_low (a : Rat) : Rat.divInt (a.den : Int) a.num = a⁻¹ := (Rat.inv_def a).symm
end Go.Proofs.YtjgihmmeimfheaaGreat
namespace Go.Proofs.YtjgihmmeimfheaaGreat
open Go.RowKit

def botQ (a b : Rat) : Int := (a.den : Int) * b.num
def topQ (a b : Rat) : Int := a.num * (b.den : Int)
def kQ (a b : Rat) : Int := (topQ a b).fdiv (botQ a b)
def rQ (a b : Rat) : Int := (topQ a b).fmod (botQ a b)
def oddQ (a b : Rat) : Bool := (kQ a b).natAbs % 2 == 1
/-- Whether a is rounded up in the unit b. -/
def upQ (m : Nat) (a b : Rat) : Bool := upB m (decide (a.num < 0)) (oddQ a b) (cmpZ (rQ a b + rQ a b) (botQ a b))
/-- The number of units to which a is rounded. -/
def roundZ (m : Nat) (a b : Rat) : Int := if rQ a b = 0 then kQ a b else if upQ m a b then kQ a b + 1 else kQ a b
theorem fmod_len {a b : Int} {k : Nat} (hb : ln b16 b.natAbs ≤ k) (h0 : 0 < b) : ln b16 (a.fmod b).natAbs ≤ k := by
 refine Nat.le_trans (ln_mono b16_two ?_) hb
 have h1 := Int.fmod_nonneg_of_pos a h0
 have h2 := Int.fmod_lt_of_pos a h0
 omega
theorem fdiv_len2 {a b : Int} {k : Nat} (ha : ln b16 a.natAbs ≤ k) (hk : 1 ≤ k) : ln b16 (a.fdiv b).natAbs ≤ k + 1 := by
 refine Nat.le_trans (ln_mono b16_two (show (a.fdiv b).natAbs ≤ a.natAbs + 1 from ?_)) (ln_add b16_two (m := k) ha ((ln_le b16_two).2 (Nat.lt_of_lt_of_le (by decide) (Nat.pow_le_pow_right (by decide) hk))))
 have h1 := Int.natAbs_ediv_le_natAbs a b
 rw [Int.fdiv_eq_ediv]
 split <;> omega
theorem limb_zero {w : World} {z : Int} {s : Bool} {A : Option Addr} {n : Nat} (h : WV w z s A n) (h0 : 0 < n) : ∃ b o d, A = some ⟨b, o, none⟩ ∧ b < w.heap.size ∧ w.cell? ⟨b, o, none⟩ = some (.int .u16 ((d : Nat) : Int)) ∧ d % 2 = z.natAbs % 2 := by
 obtain ⟨hs, hl, hr⟩ := h
 obtain ⟨b, o, e, hb, hc⟩ := hr (by omega)
 have c1 := hc 0 (by omega)
 rw [Nat.add_zero] at c1
 refine ⟨b, o, dgt b16 z.natAbs 0, e, hb, c1, ?_⟩
 unfold dgt
 rw [Nat.pow_zero, Nat.div_one]
 exact Nat.mod_mod_of_dvd _ (by decide)
set_option linter.unusedSimpArgs false in
set_option maxRecDepth 100000 in
set_option maxHeartbeats 2000000 in
theorem ftneg_v {q : Rat} {s t : Bool} {A B : Option Addr} {n m c d : Nat} {w : World} (ha : FV w q s A n t B m) :
  Calls Tryz.prog 75 #[.agg #[.bool s, .slice A n c, .bool t, .slice B m d]] w (fun e w' => e = .returned (.bool s) ∧ Below w.heap.size w w') := by
 have hE := ((Env.start w).fv ha).blk 85 #[.bool s, .slice A n c, .bool t, .slice B m d] (g := w.heap.size) rfl
 obtain ⟨W0, hW0⟩ : ∃ W0, W0 = (w.alloc (.cells #[.bool s, .slice A n c, .bool t, .slice B m d] 85)) := ⟨_, rfl⟩
 rw [← hW0] at hE
 have HW0 := Lib.hid hW0
 clear hW0
 go_enter Tryz.func75, Tryz.ntmps75
 go_upto_region 1 with (fail)
 rw [← HW0.out]
 obtain ⟨k1, k2, k3, k4⟩ := (hE.here.2).c4
 go_wp2_with fail
 go_ret
 exact ⟨rfl, hE.bel⟩
theorem run_store_fn {P : Program} {w : World} {a : Addr} {m : Mode} (f : Fn) (x y : Array Value) : (store a (.func f x y) m).run P w = stored P w a (.func f x y) m := run_store P w a _ m rfl
attribute [local go_sem] run_store_fn
set_option linter.unusedSimpArgs false in
set_option maxRecDepth 100000 in
theorem upwards_v (w : World) : Calls Tryz.prog 76 #[] w fun e w' => e = .returned (.agg #[.func (.func 112) #[] #[], .func (.func 113) #[] #[], .func (.func 114) #[] #[], .func (.func 115) #[] #[], .func (.func 116) #[] #[], .func (.func 117) #[] #[]]) ∧ Below w.heap.size w w' := by
 have hB := Blk.new w 108 #[.nilFunc, .nilFunc, .nilFunc, .nilFunc, .nilFunc, .nilFunc]
 have hb : Below w.heap.size w (w.alloc (.cells #[.nilFunc, .nilFunc, .nilFunc, .nilFunc, .nilFunc, .nilFunc] 108)) := (Below.refl _ w).alloc (Nat.le_refl _) _
 obtain ⟨W0, hW0⟩ : ∃ W0, W0 = w.alloc (.cells #[.nilFunc, .nilFunc, .nilFunc, .nilFunc, .nilFunc, .nilFunc] 108) := ⟨_, rfl⟩
 rw [← hW0] at hB hb
 have HW0 := Lib.hid hW0
 clear hW0
 go_enter Tryz.func76, Tryz.ntmps76
 go_upto_region 1 with (fail)
 rw [← HW0.out]
 have k0 := hB.cell 0
 have z0 := hB.frozen 0
 have k1 := hB.cell 1
 have z1 := hB.frozen 1
 have k2 := hB.cell 2
 have z2 := hB.frozen 2
 have k3 := hB.cell 3
 have z3 := hB.frozen 3
 have k4 := hB.cell 4
 have z4 := hB.frozen 4
 have k5 := hB.cell 5
 have z5 := hB.frozen 5
 go_wp2_with fail
 have hB2 := ((((((hB.set_ 0 (.func (.func 112) #[] #[])).set_ 1 (.func (.func 113) #[] #[])).set_ 2 (.func (.func 114) #[] #[])).set_ 3 (.func (.func 115) #[] #[])).set_ 4 (.func (.func 116) #[] #[])).set_ 5 (.func (.func 117) #[] #[]))
 clear k0 z0 k1 z1 k2 z2 k3 z3 k4 z4 k5 z5
 have y0 := hB2.cell 0
 have y1 := hB2.cell 1
 have y2 := hB2.cell 2
 have y3 := hB2.cell 3
 have y4 := hB2.cell 4
 have y5 := hB2.cell 5
 simp at y0 y1 y2 y3 y4 y5
 refine bodyPost_ret (v := .agg #[.func (.func 112) #[] #[], .func (.func 113) #[] #[], .func (.func 114) #[] #[], .func (.func 115) #[] #[], .func (.func 116) #[] #[], .func (.func 117) #[] #[]]) (by simp [results, Tryz.results76, go_sem, y0, y1, y2, y3, y4, y5]) rfl ?_
 exact ⟨rfl, ((((((hb.setCell (p := ⟨w.heap.size, 0, none⟩) (Nat.le_refl _) (.func (.func 112) #[] #[])).setCell (p := ⟨w.heap.size, 1, none⟩) (Nat.le_refl _) (.func (.func 113) #[] #[])).setCell (p := ⟨w.heap.size, 2, none⟩) (Nat.le_refl _) (.func (.func 114) #[] #[])).setCell (p := ⟨w.heap.size, 3, none⟩) (Nat.le_refl _) (.func (.func 115) #[] #[])).setCell (p := ⟨w.heap.size, 4, none⟩) (Nat.le_refl _) (.func (.func 116) #[] #[])).setCell (p := ⟨w.heap.size, 5, none⟩) (Nat.le_refl _) (.func (.func 117) #[] #[]))⟩
theorem Blk.s3 {w : World} {t : TypeId} {g : Nat} {a b c : Value} (h : Blk t g #[a, b, c] w) (a' b' c' : Value) : Blk t g #[a', b', c'] (((w.setCell ⟨g, 0, none⟩ a').setCell ⟨g, 1, none⟩ b').setCell ⟨g, 2, none⟩ c') := by
 have := ((h.set_ 0 a').set_ 1 b').set_ 2 c'
 simpa using this
theorem At.off {w : World} {b o : Nat} {v : Value} (h : At b o v w) {p : Addr} (hp : b ≠ p.block) (u : Value) : At b o v (w.setCell p u) := by
 refine ⟨?_, ?_⟩
 · rw [World.size_setCell]; exact h.1
 · rw [World.cell?_setCell_other w _ _ u (fun e => hp (congrArg Addr.block e).symm)]; exact h.2
theorem At.far2 {w : World} {b o R : Nat} {v : Value} (h : At b o v w) (hp : b ≠ R) (a c : Value) : At b o v ((w.setCell ⟨R, 0, none⟩ a).setCell ⟨R, 1, none⟩ c) := (h.off (p := ⟨R, 0, none⟩) hp a).off (p := ⟨R, 1, none⟩) hp c
theorem At.far3 {w : World} {b o R : Nat} {v : Value} (h : At b o v w) (hp : b ≠ R) (a c d : Value) : At b o v (((w.setCell ⟨R, 0, none⟩ a).setCell ⟨R, 1, none⟩ c).setCell ⟨R, 2, none⟩ d) := (h.far2 hp a c).off (p := ⟨R, 2, none⟩) hp d
theorem At.far4 {w : World} {b o R : Nat} {v : Value} (h : At b o v w) (hp : b ≠ R) (a c d e : Value) : At b o v ((((w.setCell ⟨R, 0, none⟩ a).setCell ⟨R, 1, none⟩ c).setCell ⟨R, 2, none⟩ d).setCell ⟨R, 3, none⟩ e) := (h.far3 hp a c d).off (p := ⟨R, 3, none⟩) hp e
theorem At.apart {w : World} {b o g : Nat} {T : TypeId} {cs : Array Value} {d : Int} (h : At b o (.int .u16 d) w) (hW : Blk T g cs w) (hn : cs.toList.all noLimb = true) : b ≠ g := fun e => by
 subst e
 have h1 := h.2
 rw [hW.cell] at h1
 have h2 := List.all_eq_true.1 hn _ (Array.mem_toList_iff.2 (Array.mem_of_getElem? h1))
 cases h2
theorem Env.atI {w W : World} {P : World → Prop} {b o : Nat} {v : Value} (h : Env w P W) (ha : At b o v W) : Env w (fun V => P V ∧ At b o v V) W := h.and (At.stable b o v) ha
theorem Blk.far3 {w : World} {t : TypeId} {g R : Nat} {cs : Array Value} (h : Blk t g cs w) (hp : g ≠ R) (a b c : Value) : Blk t g cs (((w.setCell ⟨R, 0, none⟩ a).setCell ⟨R, 1, none⟩ b).setCell ⟨R, 2, none⟩ c) := (h.far2 hp a b).far (p := ⟨R, 2, none⟩) hp c
theorem WV.sep3 {w : World} {z : Int} {s : Bool} {A : Option Addr} {n g : Nat} {T : TypeId} {x y u : Value} (h : WV w z s A n) (hW : Blk T g #[x, y, u] w) (hn : [x, y, u].all noLimb = true) (a b c : Value) (ha : noLimb a = true) (hb : noLimb b = true) :
  WV (((w.setCell ⟨g, 0, none⟩ a).setCell ⟨g, 1, none⟩ b).setCell ⟨g, 2, none⟩ c) z s A n := by
 simp only [List.all_cons, List.all_nil, Bool.and_true, Bool.and_eq_true] at hn
 refine ((h.sep hW ?_ a).sep (hW.set_ 0 a) ?_ b).sep ((hW.set_ 0 a).set_ 1 b) ?_ c
 ·
  show (noLimb x && (noLimb y && (noLimb u && true))) = true
  rw [hn.1, hn.2.1, hn.2.2]; rfl
 ·
  show (noLimb a && (noLimb y && (noLimb u && true))) = true
  rw [ha, hn.2.1, hn.2.2]; rfl
 ·
  show (noLimb a && (noLimb b && (noLimb u && true))) = true
  rw [ha, hb, hn.2.2]; rfl
theorem FV.sep3 {w : World} {q : Rat} {s t : Bool} {A B : Option Addr} {n m g : Nat} {T : TypeId} {x y u : Value} (h : FV w q s A n t B m) (hW : Blk T g #[x, y, u] w) (hn : [x, y, u].all noLimb = true) (a b c : Value) (ha : noLimb a = true) (hb : noLimb b = true) :
  FV (((w.setCell ⟨g, 0, none⟩ a).setCell ⟨g, 1, none⟩ b).setCell ⟨g, 2, none⟩ c) q s A n t B m := ⟨h.1.sep3 hW hn a b c ha hb, h.2.sep3 hW hn a b c ha hb⟩
theorem bel3 {w W : World} {g : Nat} (h : Below w.heap.size w W) (hg : w.heap.size ≤ g) (a b c : Value) : Below w.heap.size w (((W.setCell ⟨g, 0, none⟩ a).setCell ⟨g, 1, none⟩ b).setCell ⟨g, 2, none⟩ c) := (bel2 h hg a b).setCell (p := ⟨g, 2, none⟩) hg _
end Go.Proofs.YtjgihmmeimfheaaGreat
