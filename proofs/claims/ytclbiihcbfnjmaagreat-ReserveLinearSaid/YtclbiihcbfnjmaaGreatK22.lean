/-
  Parts.
-/
import Derived.Test.YtclbiihcbfnjmaaGreatK2
import Derived.Test.YtclbiihcbfnjmaaGreatK8
import Derived.Test.YtclbiihcbfnjmaaGreatK14
import Derived.Test.YtclbiihcbfnjmaaGreatK11
import Derived.Test.YtclbiihcbfnjmaaGreatK19
set_option linter.unusedSimpArgs false
set_option maxRecDepth 100000
set_option maxHeartbeats 4000000
namespace Go.Proofs.YtclbiihcbfnjmaaGreat
section
open Go.RowKit

theorem pw_sum {a b : Rat} {sa ta sb tb : Bool} {Aa Ba Ab Bb : Option Addr} {na ca ma da nb cb mb db : Nat} {w : World} (ha : FV w a sa Aa na ta Ba ma) (hb : FV w b sb Ab nb tb Bb mb) (la : fl a ≤ 256) (lb : fl b ≤ 256) (lr : fl (a + b) ≤ 256) :
  Calls Tryz.prog 27 #[.agg (qf4 sa Aa na ca ta Ba ma da), .agg (qf4 sb Ab nb cb tb Bb mb db)] w (FR (a + b) w) := by
 have hE := ((((Env.start w).fv ha).fv hb).blk 29 (qf4 sa Aa na ca ta Ba ma da) (g := w.heap.size) rfl).blk 29 (qf4 sb Ab nb cb tb Bb mb db) (g := w.heap.size + 1) (by simp);have hE := hE.blk 29 qz4 (g := w.heap.size + 1 + 1) (by simp)
 obtain ⟨W0, hW0⟩ : ∃ W0, W0 = (((w.alloc (.cells (qf4 sa Aa na ca ta Ba ma da) 29)).alloc (.cells (qf4 sb Ab nb cb tb Bb mb db) 29)).alloc (.cells qz4 29)) := ⟨_, rfl⟩
 rw [← hW0] at hE;have HW0 := Lib.hid hW0;clear hW0
 go_enter Tryz.func27, Tryz.ntmps27
 go_upto_region 1 with (fail)
 rw [← HW0.out];obtain ⟨k1, k2, k3, k4⟩ := (hE.h2).c4;obtain ⟨k5, k6, k7, k8⟩ := (hE.here.1.2).c4;go_wp2_with fail
 refine hE.fr (fadd_v (ca := ca) (da := da) (cb := cb) (db := db) hE.h4 hE.h3 la lb lr) ?_;clear hE k1 k2 k3 k4 k5 k6 k7 k8;intro sr Ar nr cr tr Br mr dr w9 hE
 go_upto_region 2 with (fail)
 obtain ⟨g10, hg10⟩ : ∃ g10, g10 = w9.heap.size := ⟨_, rfl⟩
 have hl10_2 : w.heap.size < g10 := by rw [hg10]; exact (hE.h3).lt
 have hl10_3 : w.heap.size + 1 < g10 := by rw [hg10]; exact (hE.h2).lt
 have hl10_4 : w.heap.size + 1 + 1 < g10 := by rw [hg10]; exact (hE.here.1.2).lt
 replace hE := hE.blk 29 (qf4 sr Ar nr cr tr Br mr dr) (g := g10) hg10.symm;generalize w9.alloc (.cells (qf4 sr Ar nr cr tr Br mr dr) 29) = W10 at hE ⊢;rw [← hg10];clear hg10;obtain ⟨k11, k12, k13, k14⟩ := (hE.here.2).c4
 have hRl : w.heap.size ≤ w.heap.size + 1 + 1 := by omega
 obtain ⟨WW, hWW, hB, hV, hBel⟩ := ret_frac hE hE.h2 hRl hE.here.1.2 cr dr;obtain ⟨x0, x1, x2, x3⟩ := (hE.h2).c4;obtain ⟨fz0, fz1, fz2, fz3⟩ := hE.h2.f4;have HWW := Lib.hid hWW;clear hWW;go_wp2_with fail
 clear k11 k12 k13 k14;rw [← HWW.out];obtain ⟨y0, y1, y2, y3⟩ := hB.c4;refine bodyPost_ret (v := .agg (qf4 sr Ar nr cr tr Br mr dr)) (by simp [results, Tryz.results27, go_sem, y0, y1, y2, y3]) rfl ?_;exact ⟨sr, Ar, nr, cr, tr, Br, mr, dr, rfl, hV, hBel⟩
theorem pw_product {a b : Rat} {sa ta sb tb : Bool} {Aa Ba Ab Bb : Option Addr} {na ca ma da nb cb mb db : Nat} {w : World} (ha : FV w a sa Aa na ta Ba ma) (hb : FV w b sb Ab nb tb Bb mb) (la : fl a ≤ 256) (lb : fl b ≤ 256) (lr : fl (a * b) ≤ 256) :
  Calls Tryz.prog 28 #[.agg (qf4 sa Aa na ca ta Ba ma da), .agg (qf4 sb Ab nb cb tb Bb mb db)] w (FR (a * b) w) := by
 have hE := ((((Env.start w).fv ha).fv hb).blk 29 (qf4 sa Aa na ca ta Ba ma da) (g := w.heap.size) rfl).blk 29 (qf4 sb Ab nb cb tb Bb mb db) (g := w.heap.size + 1) (by simp);have hE := hE.blk 29 qz4 (g := w.heap.size + 1 + 1) (by simp)
 obtain ⟨W0, hW0⟩ : ∃ W0, W0 = (((w.alloc (.cells (qf4 sa Aa na ca ta Ba ma da) 29)).alloc (.cells (qf4 sb Ab nb cb tb Bb mb db) 29)).alloc (.cells qz4 29)) := ⟨_, rfl⟩
 rw [← hW0] at hE;have HW0 := Lib.hid hW0;clear hW0
 go_enter Tryz.func28, Tryz.ntmps28
 go_upto_region 1 with (fail)
 rw [← HW0.out];obtain ⟨k1, k2, k3, k4⟩ := (hE.h2).c4;obtain ⟨k5, k6, k7, k8⟩ := (hE.here.1.2).c4;go_wp2_with fail
 refine hE.fr (fmul_v (ca := ca) (da := da) (cb := cb) (db := db) hE.h4 hE.h3 la lb lr) ?_;clear hE k1 k2 k3 k4 k5 k6 k7 k8;intro sr Ar nr cr tr Br mr dr w9 hE
 go_upto_region 2 with (fail)
 obtain ⟨g10, hg10⟩ : ∃ g10, g10 = w9.heap.size := ⟨_, rfl⟩
 have hl10_2 : w.heap.size < g10 := by rw [hg10]; exact (hE.h3).lt
 have hl10_3 : w.heap.size + 1 < g10 := by rw [hg10]; exact (hE.h2).lt
 have hl10_4 : w.heap.size + 1 + 1 < g10 := by rw [hg10]; exact (hE.here.1.2).lt
 replace hE := hE.blk 29 (qf4 sr Ar nr cr tr Br mr dr) (g := g10) hg10.symm;generalize w9.alloc (.cells (qf4 sr Ar nr cr tr Br mr dr) 29) = W10 at hE ⊢;rw [← hg10];clear hg10;obtain ⟨k11, k12, k13, k14⟩ := (hE.here.2).c4
 have hRl : w.heap.size ≤ w.heap.size + 1 + 1 := by omega
 obtain ⟨WW, hWW, hB, hV, hBel⟩ := ret_frac hE hE.h2 hRl hE.here.1.2 cr dr;obtain ⟨x0, x1, x2, x3⟩ := (hE.h2).c4;obtain ⟨fz0, fz1, fz2, fz3⟩ := hE.h2.f4;have HWW := Lib.hid hWW;clear hWW;go_wp2_with fail
 clear k11 k12 k13 k14;rw [← HWW.out];obtain ⟨y0, y1, y2, y3⟩ := hB.c4;refine bodyPost_ret (v := .agg (qf4 sr Ar nr cr tr Br mr dr)) (by simp [results, Tryz.results28, go_sem, y0, y1, y2, y3]) rfl ?_;exact ⟨sr, Ar, nr, cr, tr, Br, mr, dr, rfl, hV, hBel⟩
theorem p_quick (n d : Int) (w : World) (h1 : -9223372036854775808 ≤ n) (h2 : n ≤ 9223372036854775807) (h3 : -9223372036854775808 ≤ d) (h4 : d ≤ 9223372036854775807) (hd : d ≠ 0) :
  Calls Tryz.prog 100 #[.int .i64 n, .int .i64 d] w (FR (Rat.divInt n d) w) := by
 have hE := Env.start w;have hE := hE.blk 29 qz4 (g := w.heap.size) rfl
 obtain ⟨W0, hW0⟩ : ∃ W0, W0 = (w.alloc (.cells qz4 29)) := ⟨_, rfl⟩
 rw [← hW0] at hE;have HW0 := Lib.hid hW0;clear hW0
 go_enter Tryz.func100, Tryz.ntmps100
 go_upto_region 1 with (fail)
 rw [← HW0.out];go_wp2_with fail
 refine hE.fr (rquick_v n d W0 h1 h2 h3 h4 hd) ?_;clear hE;intro sf Af nf cf tf Bf mf df w1 hE
 have hRl : w.heap.size ≤ w.heap.size := by omega
 obtain ⟨WW, hWW, hB, hV, hBel⟩ := ret_frac hE hE.here.1.2 hRl hE.here.2 cf df;obtain ⟨x0, x1, x2, x3⟩ := (hE.here.1.2).c4;obtain ⟨fz0, fz1, fz2, fz3⟩ := hE.here.1.2.f4;have HWW := Lib.hid hWW;clear hWW;go_wp2_with fail
 rw [← HWW.out];obtain ⟨y0, y1, y2, y3⟩ := hB.c4;refine bodyPost_ret (v := .agg (qf4 sf Af nf cf tf Bf mf df)) (by simp [results, Tryz.results100, go_sem, y0, y1, y2, y3]) rfl ?_;exact ⟨sf, Af, nf, cf, tf, Bf, mf, df, rfl, hV, hBel⟩
theorem pw_equal {a b : Rat} {v : Bool} {sa ta sb tb : Bool} {Aa Ba Ab Bb : Option Addr} {na ca ma da nb cb mb db : Nat} {w : World} (ha : FV w a sa Aa na ta Ba ma) (hb : FV w b sb Ab nb tb Bb mb) (la : fl a ≤ 256) (lb : fl b ≤ 256) (h : decide (a = b) = v) :
  Calls Tryz.prog 22 #[.agg (qf4 sa Aa na ca ta Ba ma da), .agg (qf4 sb Ab nb cb tb Bb mb db)] w (fun e w' => e = .returned (.bool v) ∧ Below w.heap.size w w') := by
 have hE := ((((Env.start w).fv ha).fv hb).blk 29 (qf4 sa Aa na ca ta Ba ma da) (g := w.heap.size) rfl).blk 29 (qf4 sb Ab nb cb tb Bb mb db) (g := w.heap.size + 1) (by simp)
 obtain ⟨W0, hW0⟩ : ∃ W0, W0 = ((w.alloc (.cells (qf4 sa Aa na ca ta Ba ma da) 29)).alloc (.cells (qf4 sb Ab nb cb tb Bb mb db) 29)) := ⟨_, rfl⟩
 rw [← hW0] at hE;have HW0 := Lib.hid hW0;clear hW0
 go_enter Tryz.func22, Tryz.ntmps22
 go_upto_region 1 with (fail)
 rw [← HW0.out];have l1 := (hE.h3).ln la;have l2 := (hE.h2).ln lb;obtain ⟨k1, k2, k3, k4⟩ := (hE.here.1.2).c4;obtain ⟨k5, k6, k7, k8⟩ := (hE.here.2).c4;go_wp2_with fail
 refine hE.br (fvalid_v (c := ca) (d := da) hE.h3 la) ?_;clear hE k1 k2 k3 k4 k5 k6 k7 k8;intro w9 hE;obtain ⟨k10, k11, k12, k13⟩ := (hE.here.1.2).c4;obtain ⟨k14, k15, k16, k17⟩ := (hE.here.2).c4;go_wp2_with fail
 refine hE.br (fvalid_v (c := cb) (d := db) hE.h2 lb) ?_;clear hE k10 k11 k12 k13 k14 k15 k16 k17;intro w18 hE;obtain ⟨k19, k20, k21, k22⟩ := (hE.here.1.2).c4;obtain ⟨k23, k24, k25, k26⟩ := (hE.here.2).c4;go_wp2_with fail
 have hc := frsame_v (ca := ca) (da := da) (cb := cb) (db := db) hE.h3 hE.h2 (by omega) (by omega) (by omega) (by omega);rw [h] at hc;refine hc.mono ?_;clear hc;clear k19 k20 k21 k22 k23 k24 k25 k26
 rintro e w9 ⟨rfl, hb⟩
 replace hE := hE.step hb;go_wp2_with fail
 go_ret
 exact ⟨rfl, hE.bel⟩
theorem p_is {a : Rat} {sa ta : Bool} {Aa Ba : Option Addr} {na ca ma da : Nat} {w : World} {n d : Int} (ha : FV w a sa Aa na ta Ba ma) (la : fl a ≤ 256) (h1 : -9223372036854775808 ≤ n) (h2 : n ≤ 9223372036854775807) (h3 : -9223372036854775808 ≤ d) (h4 : d ≤ 9223372036854775807) (hd : d ≠ 0) (h : a = Rat.divInt n d) :
  Calls Tryz.prog 49 #[.agg (qf4 sa Aa na ca ta Ba ma da), .int .i64 0, .int .i64 n, .int .i64 d] w (fun e w' => e = .returned (.bool true) ∧ Below w.heap.size w w') := by
 have hE := ((Env.start w).fv ha).blk 29 (qf4 sa Aa na ca ta Ba ma da) (g := w.heap.size) rfl
 obtain ⟨W0, hW0⟩ : ∃ W0, W0 = (w.alloc (.cells (qf4 sa Aa na ca ta Ba ma da) 29)) := ⟨_, rfl⟩
 rw [← hW0] at hE;have HW0 := Lib.hid hW0;clear hW0
 go_enter Tryz.func49, Tryz.ntmps49
 go_upto_region 1 with (fail)
 rw [← HW0.out];have l1 := (hE.here.1.2).ln la;replace hE := hE.drew;refine wp_region_held_drew (S := fun w' => w'.cell? ⟨w.heap.size, 0, none⟩ = some (.bool sa) ∧ w'.cell? ⟨w.heap.size, 1, none⟩ = some (.slice Aa na ca) ∧ w'.cell? ⟨w.heap.size, 2, none⟩ = some (.bool ta) ∧ w'.cell? ⟨w.heap.size, 3, none⟩ = some (.slice Ba ma da)) (by kernel_rfl) (hE.here.2.c4) (fun hHeld => ?_);refine tk 0 ?_;refine tk 1 ?_;refine tk 2 ?_;refine tk 3 ?_;refine tk 4 ?_;refine tk 5 ?_;refine r1 6 (fun K hK => ?_);go_simp;refine hE.fr (p_quick n d W0.drew h1 h2 h3 h4 hd) ?_;clear hE;intro sf Af nf cf tf Bf mf df w1 hE;go_wp2_with fail
 refine hK.out _ _ (hE.here.1.2.c4) (fun hHeld => ?_);clear hK K;try simp only [PL]
 refine r1 7 (fun K hK => ?_);go_simp;have l2 := (hE.here.2).ln (by rw [← h]; exact la);have hc := frsame_v (ca := ca) (da := da) (cb := cf) (db := df) hE.h2 hE.here.2 (by omega) (by omega) (by omega) (by omega);rw [decide_eq_true h] at hc;refine hE.br hc ?_;clear hE hc;intro w9 hE;go_wp2_with fail
 refine hK.out _ _ (hE.here.1.2.c4) (fun hHeld => ?_);clear hK K;try simp only [PL]
 refine tk 8 ?_;refine tk 9 ?_;refine wpAnyH_done (by kernel_rfl) ?_ _;go_wp2_with fail
 go_ret
 exact ⟨rfl, hE.bel⟩
end
section
open Go.RowKit

def SmallP2 (w : World) (e : Ending) (w' : World) : Prop := ∃ A c r si Ai ni ci ti Bi mi di, e = .returned (.agg #[.int .i64 60, .int .i64 1, .slice A 3 c, .bool si, .slice Ai ni ci, .bool ti, .slice Bi mi di]) ∧ TabM w' A 3 r ∧ TOK 60 1 3 r ∧
 (((r 0).h 0).q = Rat.divInt 1 10 ∧ ((r 0).h 1).q = Rat.divInt 1 5 ∧ ((r 1).h 0).q = Rat.divInt 1 8 ∧ ((r 1).h 1).q = Rat.divInt 1 2 ∧ ((r 2).h 0).q = Rat.divInt 1 4 ∧ ((r 2).h 1).q = Rat.divInt 1 1) ∧ FV w' (Rat.divInt 1 4) si Ai ni ti Bi mi ∧ Below w.heap.size w w'

theorem smallP_v (w : World) : Calls Tryz.prog 47 #[] w (SmallP2 w) := by
 have hE := (Env.start w).blk 31 #[.int .i64 0, .int .i64 0, .slice none 0 0, .bool false, .slice none 0 0, .bool false, .slice none 0 0] (g := w.heap.size) rfl
 obtain ⟨W0, hW0⟩ : ∃ W0, W0 = w.alloc (.cells #[.int .i64 0, .int .i64 0, .slice none 0 0, .bool false, .slice none 0 0, .bool false, .slice none 0 0] 31) := ⟨_, rfl⟩
 rw [← hW0] at hE;have HW0 := Lib.hid hW0;clear hW0
 go_enter Tryz.func47, Tryz.ntmps47
 go_upto_region 1 with (fail)
 rw [← HW0.out];go_wp2_with fail
 refine hE.fr (p_quick 1 10 W0 (by decide) (by decide) (by decide) (by decide) (by decide)) ?_;clear hE;intro sa Aa na ca ta Ba ma da w1 hE;go_wp2_with fail
 refine hE.fr (p_quick 1 5 w1 (by decide) (by decide) (by decide) (by decide) (by decide)) ?_;clear hE;intro sb Ab nb cb tb Bb mb db w2 hE;go_wp2_with fail
 obtain ⟨g3, hg3⟩ : ∃ g3, g3 = w2.heap.size := ⟨_, rfl⟩
 have hl3_0 : w.heap.size < g3 := by rw [hg3]; exact (hE.h2).lt
 replace hE := hE.blk 29 #[.bool sa, .slice Aa na ca, .bool ta, .slice Ba ma da, .bool sb, .slice Ab nb cb, .bool tb, .slice Bb mb db] (g := g3) hg3.symm;generalize w2.alloc (.cells #[.bool sa, .slice Aa na ca, .bool ta, .slice Ba ma da, .bool sb, .slice Ab nb cb, .bool tb, .slice Bb mb db] 29) = W3 at hE ⊢;rw [← hg3];clear hg3;refine hE.fr (p_quick 1 8 W3 (by decide) (by decide) (by decide) (by decide) (by decide)) ?_;clear hE;intro sc Ac nc cc tc Bc mc dc w4 hE;go_wp2_with fail
 refine hE.fr (p_quick 1 2 w4 (by decide) (by decide) (by decide) (by decide) (by decide)) ?_;clear hE;intro sd Ad nd cd td Bd md dd w5 hE;go_wp2_with fail
 obtain ⟨g6, hg6⟩ : ∃ g6, g6 = w5.heap.size := ⟨_, rfl⟩
 have hl6_0 : w.heap.size < g6 := by rw [hg6]; exact (hE.h5).lt
 have hl6_3 : g3 < g6 := by rw [hg6]; exact (hE.h2).lt
 replace hE := hE.blk 29 #[.bool sc, .slice Ac nc cc, .bool tc, .slice Bc mc dc, .bool sd, .slice Ad nd cd, .bool td, .slice Bd md dd] (g := g6) hg6.symm;generalize w5.alloc (.cells #[.bool sc, .slice Ac nc cc, .bool tc, .slice Bc mc dc, .bool sd, .slice Ad nd cd, .bool td, .slice Bd md dd] 29) = W6 at hE ⊢;rw [← hg6];clear hg6;refine hE.fr (p_quick 1 4 W6 (by decide) (by decide) (by decide) (by decide) (by decide)) ?_;clear hE;intro se Ae ne ce te Be me de w7 hE;go_wp2_with fail
 refine hE.fr (p_quick 1 1 w7 (by decide) (by decide) (by decide) (by decide) (by decide)) ?_;clear hE;intro sf Af nf cf tf Bf mf df w8 hE
 go_upto_region 2 with (fail)
 obtain ⟨ga, hga⟩ : ∃ g, g = w8.heap.size := ⟨_, rfl⟩
 have hl0 : w.heap.size < ga := by rw [hga]; exact (hE.h8).lt
 have hl3 : g3 < ga := by rw [hga]; exact (hE.h5).lt
 have hl6 : g6 < ga := by rw [hga]; exact (hE.h2).lt
 have hE := ((hE.blk 29 #[.bool se, .slice Ae ne ce, .bool te, .slice Be me de, .bool sf, .slice Af nf cf, .bool tf, .slice Bf mf df] (g := ga) hga.symm).blk 39 #[.slice (some ⟨g3, 0, none⟩) 2 2, .slice (some ⟨g6, 0, none⟩) 2 2, .slice (some ⟨w8.heap.size, 0, none⟩) 2 2] (g := ga + 1) (by simp [hga])).blk 24 #[.int .i64 60, .int .i64 1, .slice (some ⟨w8.heap.size + 1, 0, none⟩) 3 3] (g := ga + 1 + 1) (by simp [hga]);generalize ((w8.alloc (.cells #[.bool se, .slice Ae ne ce, .bool te, .slice Be me de, .bool sf, .slice Af nf cf, .bool tf, .slice Bf mf df] 29)).alloc (.cells #[.slice (some ⟨g3, 0, none⟩) 2 2, .slice (some ⟨g6, 0, none⟩) 2 2, .slice (some ⟨w8.heap.size, 0, none⟩) 2 2] 39)).alloc (.cells #[.int .i64 60, .int .i64 1, .slice (some ⟨w8.heap.size + 1, 0, none⟩) 3 3] 24) = Wz at hE ⊢;rw [← hga] at hE ⊢;clear hga
 have hgg : w.heap.size ≤ ga := by omega
 replace hE := hE.drew;refine wp_region_held_drew (S := fun w' => w'.cell? ⟨ga + 1 + 1, 0, none⟩ = some (.int .i64 60) ∧ w'.cell? ⟨ga + 1 + 1, 1, none⟩ = some (.int .i64 1) ∧ w'.cell? ⟨ga + 1 + 1, 2, none⟩ = some (.slice (some ⟨ga + 1, 0, none⟩) 3 3)) (by kernel_rfl) (hE.here.2.c3) (fun hHeld => ?_);refine tk 0 ?_;refine r1 1 (fun K hK => ?_);go_simp;refine hE.fr (p_quick 1 4 _ (by decide) (by decide) (by decide) (by decide) (by decide)) ?_;clear hE;intro sj Aj nj cj tj Bj mj dj w9 hE;go_wp2_with fail
 refine hK.out _ _ (hE.here.1.2.c3) (fun hHeld => ?_);clear hK K;try simp only [PL]
 refine tk 2 ?_;refine r1 3 (fun K hK => ?_);obtain ⟨x10_0, x10_1, x10_2, x10_3, x10_4, x10_5, x10_6⟩ := (hE.h12).c7;have f10_0 := (hE.h12).frozen 0;have f10_1 := (hE.h12).frozen 1;have f10_2 := (hE.h12).frozen 2;have f10_3 := (hE.h12).frozen 3;have f10_4 := (hE.h12).frozen 4;have f10_5 := (hE.h12).frozen 5;have f10_6 := (hE.h12).frozen 6
 have hgl10 : w.heap.size ≤ w.heap.size := by omega
 replace hE := ((((((((((((((Env.again (hE.bel.setCell (p := ⟨w.heap.size, 0, none⟩) hgl10 (.int .i64 60))).blkI (show Blk 31 (w.heap.size) #[.int .i64 60, .int .i64 0, .slice none 0 0, .bool false, .slice none 0 0, .bool false, .slice none 0 0] _ by simpa using (hE.h12).set_ 0 (.int .i64 60))).fv ((hE.h11).sep (i := 0) (hE.h12) rfl (.int .i64 60))).fv ((hE.h10).sep (i := 0) (hE.h12) rfl (.int .i64 60))).blkI ((hE.h9).far (p := ⟨w.heap.size, 0, none⟩) (by first | omega | (simp; omega)) (.int .i64 60))).fv ((hE.h8).sep (i := 0) (hE.h12) rfl (.int .i64 60))).fv ((hE.h7).sep (i := 0) (hE.h12) rfl (.int .i64 60))).blkI ((hE.h6).far (p := ⟨w.heap.size, 0, none⟩) (by first | omega | (simp; omega)) (.int .i64 60))).fv ((hE.h5).sep (i := 0) (hE.h12) rfl (.int .i64 60))).fv ((hE.h4).sep (i := 0) (hE.h12) rfl (.int .i64 60))).blkI ((hE.h3).far (p := ⟨w.heap.size, 0, none⟩) (by first | omega | (simp; omega)) (.int .i64 60))).blkI ((hE.h2).far (p := ⟨w.heap.size, 0, none⟩) (by first | omega | (simp; omega)) (.int .i64 60))).blkI ((hE.here.1.2).far (p := ⟨w.heap.size, 0, none⟩) (by first | omega | (simp; omega)) (.int .i64 60))).fv ((hE.here.2).sep (i := 0) (hE.h12) rfl (.int .i64 60)));replace hE := ((((((((((((((Env.again (hE.bel.setCell (p := ⟨w.heap.size, 1, none⟩) hgl10 (.int .i64 1))).blkI (show Blk 31 (w.heap.size) #[.int .i64 60, .int .i64 1, .slice none 0 0, .bool false, .slice none 0 0, .bool false, .slice none 0 0] _ by simpa using (hE.h12).set_ 1 (.int .i64 1))).fv ((hE.h11).sep (i := 1) (hE.h12) rfl (.int .i64 1))).fv ((hE.h10).sep (i := 1) (hE.h12) rfl (.int .i64 1))).blkI ((hE.h9).far (p := ⟨w.heap.size, 1, none⟩) (by first | omega | (simp; omega)) (.int .i64 1))).fv ((hE.h8).sep (i := 1) (hE.h12) rfl (.int .i64 1))).fv ((hE.h7).sep (i := 1) (hE.h12) rfl (.int .i64 1))).blkI ((hE.h6).far (p := ⟨w.heap.size, 1, none⟩) (by first | omega | (simp; omega)) (.int .i64 1))).fv ((hE.h5).sep (i := 1) (hE.h12) rfl (.int .i64 1))).fv ((hE.h4).sep (i := 1) (hE.h12) rfl (.int .i64 1))).blkI ((hE.h3).far (p := ⟨w.heap.size, 1, none⟩) (by first | omega | (simp; omega)) (.int .i64 1))).blkI ((hE.h2).far (p := ⟨w.heap.size, 1, none⟩) (by first | omega | (simp; omega)) (.int .i64 1))).blkI ((hE.here.1.2).far (p := ⟨w.heap.size, 1, none⟩) (by first | omega | (simp; omega)) (.int .i64 1))).fv ((hE.here.2).sep (i := 1) (hE.h12) rfl (.int .i64 1)))
 replace hE := ((((((((((((((Env.again (hE.bel.setCell (p := ⟨w.heap.size, 2, none⟩) hgl10 (.slice (some ⟨ga + 1, 0, none⟩) 3 3))).blkI (show Blk 31 (w.heap.size) #[.int .i64 60, .int .i64 1, .slice (some ⟨ga + 1, 0, none⟩) 3 3, .bool false, .slice none 0 0, .bool false, .slice none 0 0] _ by simpa using (hE.h12).set_ 2 (.slice (some ⟨ga + 1, 0, none⟩) 3 3))).fv ((hE.h11).sep (i := 2) (hE.h12) rfl (.slice (some ⟨ga + 1, 0, none⟩) 3 3))).fv ((hE.h10).sep (i := 2) (hE.h12) rfl (.slice (some ⟨ga + 1, 0, none⟩) 3 3))).blkI ((hE.h9).far (p := ⟨w.heap.size, 2, none⟩) (by first | omega | (simp; omega)) (.slice (some ⟨ga + 1, 0, none⟩) 3 3))).fv ((hE.h8).sep (i := 2) (hE.h12) rfl (.slice (some ⟨ga + 1, 0, none⟩) 3 3))).fv ((hE.h7).sep (i := 2) (hE.h12) rfl (.slice (some ⟨ga + 1, 0, none⟩) 3 3))).blkI ((hE.h6).far (p := ⟨w.heap.size, 2, none⟩) (by first | omega | (simp; omega)) (.slice (some ⟨ga + 1, 0, none⟩) 3 3))).fv ((hE.h5).sep (i := 2) (hE.h12) rfl (.slice (some ⟨ga + 1, 0, none⟩) 3 3))).fv ((hE.h4).sep (i := 2) (hE.h12) rfl (.slice (some ⟨ga + 1, 0, none⟩) 3 3))).blkI ((hE.h3).far (p := ⟨w.heap.size, 2, none⟩) (by first | omega | (simp; omega)) (.slice (some ⟨ga + 1, 0, none⟩) 3 3))).blkI ((hE.h2).far (p := ⟨w.heap.size, 2, none⟩) (by first | omega | (simp; omega)) (.slice (some ⟨ga + 1, 0, none⟩) 3 3))).blkI ((hE.here.1.2).far (p := ⟨w.heap.size, 2, none⟩) (by first | omega | (simp; omega)) (.slice (some ⟨ga + 1, 0, none⟩) 3 3))).fv ((hE.here.2).sep (i := 2) (hE.h12) rfl (.slice (some ⟨ga + 1, 0, none⟩) 3 3)));replace hE := ((((((((((((((Env.again (hE.bel.setCell (p := ⟨w.heap.size, 3, none⟩) hgl10 (.bool sj))).blkI (show Blk 31 (w.heap.size) #[.int .i64 60, .int .i64 1, .slice (some ⟨ga + 1, 0, none⟩) 3 3, .bool sj, .slice none 0 0, .bool false, .slice none 0 0] _ by simpa using (hE.h12).set_ 3 (.bool sj))).fv ((hE.h11).sep (i := 3) (hE.h12) rfl (.bool sj))).fv ((hE.h10).sep (i := 3) (hE.h12) rfl (.bool sj))).blkI ((hE.h9).far (p := ⟨w.heap.size, 3, none⟩) (by first | omega | (simp; omega)) (.bool sj))).fv ((hE.h8).sep (i := 3) (hE.h12) rfl (.bool sj))).fv ((hE.h7).sep (i := 3) (hE.h12) rfl (.bool sj))).blkI ((hE.h6).far (p := ⟨w.heap.size, 3, none⟩) (by first | omega | (simp; omega)) (.bool sj))).fv ((hE.h5).sep (i := 3) (hE.h12) rfl (.bool sj))).fv ((hE.h4).sep (i := 3) (hE.h12) rfl (.bool sj))).blkI ((hE.h3).far (p := ⟨w.heap.size, 3, none⟩) (by first | omega | (simp; omega)) (.bool sj))).blkI ((hE.h2).far (p := ⟨w.heap.size, 3, none⟩) (by first | omega | (simp; omega)) (.bool sj))).blkI ((hE.here.1.2).far (p := ⟨w.heap.size, 3, none⟩) (by first | omega | (simp; omega)) (.bool sj))).fv ((hE.here.2).sep (i := 3) (hE.h12) rfl (.bool sj)))
 replace hE := ((((((((((((((Env.again (hE.bel.setCell (p := ⟨w.heap.size, 4, none⟩) hgl10 (.slice Aj nj cj))).blkI (show Blk 31 (w.heap.size) #[.int .i64 60, .int .i64 1, .slice (some ⟨ga + 1, 0, none⟩) 3 3, .bool sj, .slice Aj nj cj, .bool false, .slice none 0 0] _ by simpa using (hE.h12).set_ 4 (.slice Aj nj cj))).fv ((hE.h11).sep (i := 4) (hE.h12) rfl (.slice Aj nj cj))).fv ((hE.h10).sep (i := 4) (hE.h12) rfl (.slice Aj nj cj))).blkI ((hE.h9).far (p := ⟨w.heap.size, 4, none⟩) (by first | omega | (simp; omega)) (.slice Aj nj cj))).fv ((hE.h8).sep (i := 4) (hE.h12) rfl (.slice Aj nj cj))).fv ((hE.h7).sep (i := 4) (hE.h12) rfl (.slice Aj nj cj))).blkI ((hE.h6).far (p := ⟨w.heap.size, 4, none⟩) (by first | omega | (simp; omega)) (.slice Aj nj cj))).fv ((hE.h5).sep (i := 4) (hE.h12) rfl (.slice Aj nj cj))).fv ((hE.h4).sep (i := 4) (hE.h12) rfl (.slice Aj nj cj))).blkI ((hE.h3).far (p := ⟨w.heap.size, 4, none⟩) (by first | omega | (simp; omega)) (.slice Aj nj cj))).blkI ((hE.h2).far (p := ⟨w.heap.size, 4, none⟩) (by first | omega | (simp; omega)) (.slice Aj nj cj))).blkI ((hE.here.1.2).far (p := ⟨w.heap.size, 4, none⟩) (by first | omega | (simp; omega)) (.slice Aj nj cj))).fv ((hE.here.2).sep (i := 4) (hE.h12) rfl (.slice Aj nj cj)));replace hE := ((((((((((((((Env.again (hE.bel.setCell (p := ⟨w.heap.size, 5, none⟩) hgl10 (.bool tj))).blkI (show Blk 31 (w.heap.size) #[.int .i64 60, .int .i64 1, .slice (some ⟨ga + 1, 0, none⟩) 3 3, .bool sj, .slice Aj nj cj, .bool tj, .slice none 0 0] _ by simpa using (hE.h12).set_ 5 (.bool tj))).fv ((hE.h11).sep (i := 5) (hE.h12) rfl (.bool tj))).fv ((hE.h10).sep (i := 5) (hE.h12) rfl (.bool tj))).blkI ((hE.h9).far (p := ⟨w.heap.size, 5, none⟩) (by first | omega | (simp; omega)) (.bool tj))).fv ((hE.h8).sep (i := 5) (hE.h12) rfl (.bool tj))).fv ((hE.h7).sep (i := 5) (hE.h12) rfl (.bool tj))).blkI ((hE.h6).far (p := ⟨w.heap.size, 5, none⟩) (by first | omega | (simp; omega)) (.bool tj))).fv ((hE.h5).sep (i := 5) (hE.h12) rfl (.bool tj))).fv ((hE.h4).sep (i := 5) (hE.h12) rfl (.bool tj))).blkI ((hE.h3).far (p := ⟨w.heap.size, 5, none⟩) (by first | omega | (simp; omega)) (.bool tj))).blkI ((hE.h2).far (p := ⟨w.heap.size, 5, none⟩) (by first | omega | (simp; omega)) (.bool tj))).blkI ((hE.here.1.2).far (p := ⟨w.heap.size, 5, none⟩) (by first | omega | (simp; omega)) (.bool tj))).fv ((hE.here.2).sep (i := 5) (hE.h12) rfl (.bool tj)))
 replace hE := ((((((((((((((Env.again (hE.bel.setCell (p := ⟨w.heap.size, 6, none⟩) hgl10 (.slice Bj mj dj))).blkI (show Blk 31 (w.heap.size) #[.int .i64 60, .int .i64 1, .slice (some ⟨ga + 1, 0, none⟩) 3 3, .bool sj, .slice Aj nj cj, .bool tj, .slice Bj mj dj] _ by simpa using (hE.h12).set_ 6 (.slice Bj mj dj))).fv ((hE.h11).sep (i := 6) (hE.h12) rfl (.slice Bj mj dj))).fv ((hE.h10).sep (i := 6) (hE.h12) rfl (.slice Bj mj dj))).blkI ((hE.h9).far (p := ⟨w.heap.size, 6, none⟩) (by first | omega | (simp; omega)) (.slice Bj mj dj))).fv ((hE.h8).sep (i := 6) (hE.h12) rfl (.slice Bj mj dj))).fv ((hE.h7).sep (i := 6) (hE.h12) rfl (.slice Bj mj dj))).blkI ((hE.h6).far (p := ⟨w.heap.size, 6, none⟩) (by first | omega | (simp; omega)) (.slice Bj mj dj))).fv ((hE.h5).sep (i := 6) (hE.h12) rfl (.slice Bj mj dj))).fv ((hE.h4).sep (i := 6) (hE.h12) rfl (.slice Bj mj dj))).blkI ((hE.h3).far (p := ⟨w.heap.size, 6, none⟩) (by first | omega | (simp; omega)) (.slice Bj mj dj))).blkI ((hE.h2).far (p := ⟨w.heap.size, 6, none⟩) (by first | omega | (simp; omega)) (.slice Bj mj dj))).blkI ((hE.here.1.2).far (p := ⟨w.heap.size, 6, none⟩) (by first | omega | (simp; omega)) (.slice Bj mj dj))).fv ((hE.here.2).sep (i := 6) (hE.h12) rfl (.slice Bj mj dj)));go_simp;clear x10_0 f10_0 x10_1 f10_1 x10_2 f10_2 x10_3 f10_3 x10_4 f10_4 x10_5 f10_5 x10_6 f10_6 hgl10;generalize (((((((w9.setCell ⟨w.heap.size, 0, none⟩ (.int .i64 60)).setCell ⟨w.heap.size, 1, none⟩ (.int .i64 1)).setCell ⟨w.heap.size, 2, none⟩ (.slice (some ⟨ga + 1, 0, none⟩) 3 3)).setCell ⟨w.heap.size, 3, none⟩ (.bool sj)).setCell ⟨w.heap.size, 4, none⟩ (.slice Aj nj cj)).setCell ⟨w.heap.size, 5, none⟩ (.bool tj)).setCell ⟨w.heap.size, 6, none⟩ (.slice Bj mj dj)) = WN10 at hE ⊢;refine hK.out _ _ (hE.here.1.2.c3) (fun hHeld => ?_);clear hK K;try simp only [PL]
 refine wpAnyH_done (by kernel_rfl) ?_ _;go_wp2_with fail
 obtain ⟨y0, y1, y2, y3, y4, y5, y6⟩ := (hE.h12).c7;refine bodyPost_ret (v := .agg #[.int .i64 60, .int .i64 1, .slice (some ⟨ga + 1, 0, none⟩) 3 3, .bool sj, .slice Aj nj cj, .bool tj, .slice Bj mj dj]) (by simp [results, Tryz.results47, go_sem, y0, y1, y2, y3, y4, y5, y6]) rfl ?_;refine ⟨some ⟨ga + 1, 0, none⟩, 3, tab3 (rowOf g3 (FHof (Rat.divInt 1 10) sa Aa na ca ta Ba ma da) (FHof (Rat.divInt 1 5) sb Ab nb cb tb Bb mb db)) (rowOf g6 (FHof (Rat.divInt 1 8) sc Ac nc cc tc Bc mc dc) (FHof (Rat.divInt 1 2) sd Ad nd cd td Bd md dd)) (rowOf ga (FHof (Rat.divInt 1 4) se Ae ne ce te Be me de) (FHof (Rat.divInt 1 1) sf Af nf cf tf Bf mf df)), sj, Aj, nj, cj, tj, Bj, mj, dj, rfl, tabM_of (T := 39) (hE.h2) (rowM_of (hE.h9) (FHof.rd_of (hE.h11)) (FHof.rd_of (hE.h10))) (rowM_of (hE.h6) (FHof.rd_of (hE.h8)) (FHof.rd_of (hE.h7))) (rowM_of (hE.h3) (FHof.rd_of (hE.h5)) (FHof.rd_of (hE.h4))), ?_, ?_, hE.here.2, hE.bel⟩
 ·
  refine ⟨⟨⟨by decide, by decide⟩, by decide, by decide⟩, ⟨by decide, by decide⟩, fun i hi => ?_, ?_⟩
  ·
   rcases (show i = 0 ∨ i = 1 ∨ i = 2 by omega) with rfl | rfl | rfl
   · exact rowOK_of (FHof.rate (hE.h11) (rate_small (by decide +kernel)).1 (rate_small (by decide +kernel)).2.1 (rate_small (by decide +kernel)).2.2) (FHof.rate (hE.h10) (rate_small (by decide +kernel)).1 (rate_small (by decide +kernel)).2.1 (rate_small (by decide +kernel)).2.2)
   · exact rowOK_of (FHof.rate (hE.h8) (rate_small (by decide +kernel)).1 (rate_small (by decide +kernel)).2.1 (rate_small (by decide +kernel)).2.2) (FHof.rate (hE.h7) (rate_small (by decide +kernel)).1 (rate_small (by decide +kernel)).2.1 (rate_small (by decide +kernel)).2.2)
   · exact rowOK_of (FHof.rate (hE.h5) (rate_small (by decide +kernel)).1 (rate_small (by decide +kernel)).2.1 (rate_small (by decide +kernel)).2.2) (FHof.rate (hE.h4) (rate_small (by decide +kernel)).1 (rate_small (by decide +kernel)).2.1 (rate_small (by decide +kernel)).2.2)
  · exact (FHof.q_eq (hE.h4)).trans (by decide +kernel)
 · exact ⟨FHof.q_eq (hE.h11), FHof.q_eq (hE.h10), FHof.q_eq (hE.h8), FHof.q_eq (hE.h7), FHof.q_eq (hE.h5), FHof.q_eq (hE.h4)⟩
end
end Go.Proofs.YtclbiihcbfnjmaaGreat
