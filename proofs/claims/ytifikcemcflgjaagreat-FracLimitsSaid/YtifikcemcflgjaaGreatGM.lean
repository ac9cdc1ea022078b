/-
  Sums and products that are too long; the reference's Over, Add, Mul and Pow.
-/
import Derived.Test.YtifikcemcflgjaaGreatK1
import Derived.Test.YtifikcemcflgjaaGreatGO0
namespace Go.Proofs.YtifikcemcflgjaaGreat
open Go.RowKit

set_option linter.unusedSimpArgs false in
set_option maxRecDepth 100000 in
set_option maxHeartbeats 2000000 in
theorem fresult_long {q : Rat} {s t : Bool} {A B : Option Addr} {n m c d : Nat} {w : World} (ha : FV w q s A n t B m) (hf : 256 < fl q) :
  Calls Tryz.prog 64 #[.agg #[.bool s, .slice A n c, .bool t, .slice B m d]] w (FErr 3 w) := by
 have hq := long_of ha true (decide_eq_true hf)
 have hE := ((Env.start w).fv ha).blk 65 #[.bool s, .slice A n c, .bool t, .slice B m d] (g := w.heap.size) rfl
 have hE := hE.blk 26 #[.bool false, .slice none 0 0, .bool false, .slice none 0 0] (g := w.heap.size + 1) (by simp)
 obtain ⟨W0, hW0⟩ : ∃ W0, W0 = ((w.alloc (.cells #[.bool s, .slice A n c, .bool t, .slice B m d] 65)).alloc (.cells #[.bool false, .slice none 0 0, .bool false, .slice none 0 0] 26)) := ⟨_, rfl⟩
 rw [← hW0] at hE
 have HW0 := Lib.hid hW0
 clear hW0
 go_enter Tryz.func64, Tryz.ntmps64
 go_upto_region 1 with (fail)
 rw [← HW0.out]
 obtain ⟨k1, k2, k3, k4⟩ := (hE.here.1.2).c4
 go_wp2_with fail
 have hc := flong_r s t A B n m c d W0 true hq
 refine hc.mono ?_
 clear hc
 clear k1 k2 k3 k4
 rintro e w5 ⟨rfl, hb⟩
 replace hE := hE.step hb
 clear hb
 go_upto_region 2 with (fail)
 have hRl : w.heap.size ≤ w.heap.size + 1 := by omega
 have hB := (hE.here.2).s4 (.bool false) (.slice none 0 0) (.bool false) (.slice none 0 0)
 have hBel := bel4 hE.bel hRl (.bool false) (.slice none 0 0) (.bool false) (.slice none 0 0)
 obtain ⟨WW, hWW⟩ : ∃ x, x = ((((w5.setCell ⟨w.heap.size + 1, 0, none⟩ (.bool false)).setCell ⟨w.heap.size + 1, 1, none⟩ (.slice none 0 0)).setCell ⟨w.heap.size + 1, 2, none⟩ (.bool false)).setCell ⟨w.heap.size + 1, 3, none⟩ (.slice none 0 0)) := ⟨_, rfl⟩
 rw [← hWW] at hB hBel
 obtain ⟨x0, x1, x2, x3⟩ := (hE.here.2).c4
 obtain ⟨fz0, fz1, fz2, fz3⟩ := (hE.here.2).f4
 have HWW := Lib.hid hWW
 clear hWW
 go_wp2_with fail
 clear x0 x1 x2 x3
 rw [← HWW.out]
 obtain ⟨y0, y1, y2, y3⟩ := hB.c4
 refine bodyPost_ret (v := .tuple #[.agg #[.bool false, .slice none 0 0, .bool false, .slice none 0 0], .int .i64 3]) (by simp [results, Tryz.results64, go_sem, y0, y1, y2, y3]) rfl ?_
 exact ⟨rfl, hBel⟩
set_option linter.unusedSimpArgs false in
set_option maxRecDepth 100000 in
set_option maxHeartbeats 2000000 in
theorem fadd_long {a b : Rat} {sa ta sb tb : Bool} {Aa Ba Ab Bb : Option Addr} {na ca ma da nb cb mb db : Nat} {w : World} (ha : FV w a sa Aa na ta Ba ma) (hb : FV w b sb Ab nb tb Bb mb) (la : fl a ≤ 256) (lb : fl b ≤ 256) (lr : 256 < fl (a + b)) :
  Calls Tryz.prog 24 #[.agg #[.bool sa, .slice Aa na ca, .bool ta, .slice Ba ma da], .agg #[.bool sb, .slice Ab nb cb, .bool tb, .slice Bb mb db]] w (FErr 3 w) := by
 have hE := ((((Env.start w).fv ha).fv hb).blk 26 #[.bool sa, .slice Aa na ca, .bool ta, .slice Ba ma da] (g := w.heap.size) rfl).blk 26 #[.bool sb, .slice Ab nb cb, .bool tb, .slice Bb mb db] (g := w.heap.size + 1) (by simp)
 have hE := hE.blk 26 #[.bool false, .slice none 0 0, .bool false, .slice none 0 0] (g := w.heap.size + 1 + 1) (by simp)
 obtain ⟨W0, hW0⟩ : ∃ W0, W0 = (((w.alloc (.cells #[.bool sa, .slice Aa na ca, .bool ta, .slice Ba ma da] 26)).alloc (.cells #[.bool sb, .slice Ab nb cb, .bool tb, .slice Bb mb db] 26)).alloc (.cells #[.bool false, .slice none 0 0, .bool false, .slice none 0 0] 26)) := ⟨_, rfl⟩
 rw [← hW0] at hE
 have HW0 := Lib.hid hW0
 clear hW0
 go_enter Tryz.func24, Tryz.ntmps24
 go_upto_region 1 with (fail)
 rw [← HW0.out]
 obtain ⟨k1, k2, k3, k4⟩ := (hE.here.1.1.2).c4
 obtain ⟨k5, k6, k7, k8⟩ := (hE.here.1.2).c4
 go_wp2_with fail
 have hc := fallValid_v (c := ca) (d := da) (c2 := cb) (d2 := db) hE.here.1.1.1.1.2 hE.here.1.1.1.2 la lb
 refine hc.mono ?_
 clear hc
 clear k1 k2 k3 k4 k5 k6 k7 k8
 rintro e w9 ⟨rfl, hb⟩
 replace hE := hE.step hb
 clear hb
 go_upto_region 3 with (fail)
 obtain ⟨qa1, qa2⟩ := fl_le.1 la
 obtain ⟨qb1, qb2⟩ := fl_le.1 lb
 obtain ⟨ha1, ha2⟩ := (hE.here.1.1.1.1.2).ln la
 obtain ⟨hb1, hb2⟩ := (hE.here.1.1.1.2).ln lb
 have qa2 : ln b16 ((a.den : Nat) : Int).natAbs ≤ 256 := by rw [Int.natAbs_natCast]; exact qa2
 have qb2 : ln b16 ((b.den : Nat) : Int).natAbs ≤ 256 := by rw [Int.natAbs_natCast]; exact qb2
 replace hE := hE.drew
 refine wp_region_held_drew (S := fun w' => w'.cell? ⟨w.heap.size, 0, none⟩ = some (.bool sa) ∧ w'.cell? ⟨w.heap.size, 1, none⟩ = some (.slice Aa na ca) ∧ w'.cell? ⟨w.heap.size, 2, none⟩ = some (.bool ta) ∧ w'.cell? ⟨w.heap.size, 3, none⟩ = some (.slice Ba ma da) ∧ w'.cell? ⟨w.heap.size + 1, 0, none⟩ = some (.bool sb) ∧ w'.cell? ⟨w.heap.size + 1, 1, none⟩ = some (.slice Ab nb cb) ∧ w'.cell? ⟨w.heap.size + 1, 2, none⟩ = some (.bool tb) ∧ w'.cell? ⟨w.heap.size + 1, 3, none⟩ = some (.slice Bb mb db)) (by kernel_rfl) (hE.here.1.1.2.j4 hE.here.1.2.c4) (fun hHeld => ?_)
 refine tk 0 ?_
 try simp only [PL]
 refine tk 1 ?_
 try simp only [PL]
 refine tk 2 ?_
 try simp only [PL]
 refine tk 3 ?_
 try simp only [PL]
 refine tk 5 ?_
 try simp only [PL]
 refine tk 6 ?_
 try simp only [PL]
 refine tk 7 ?_
 try simp only [PL]
 refine tk 8 ?_
 try simp only [PL]
 refine tk 11 ?_
 try simp only [PL]
 refine tk 12 ?_
 try simp only [PL]
 refine tk 13 ?_
 try simp only [PL]
 refine tk 14 ?_
 try simp only [PL]
 refine r1 4 (fun K hK => ?_)
 go_simp
 have hc := ftimes_v (ca := ca) (cb := db) (hE.here.1.1.1.1.2).1 (hE.here.1.1.1.2).2 (Nat.le_trans ha1 (by decide)) (Nat.le_trans hb2 (by decide)) (Nat.le_trans (ln_mulZ (m := 256) (n := 256) qa1 qb2) (by decide))
 refine hc.mono ?_
 clear hc
 rintro e w10 ⟨sx, Ax, nx, cx, rfl, hx, hb⟩
 replace hE := hE.step hb
 clear hb
 replace hE := hE.wv hx
 clear hx
 have lx : nx ≤ 512 := by rw [(hE.here.2).len]; exact (ln_mulZ (m := 256) (n := 256) qa1 qb2)
 go_wp2_with fail
 refine hK.out _ _ (hE.here.1.1.1.2.j4 hE.here.1.1.2.c4) (fun hHeld => ?_)
 clear hK K
 try simp only [PL]
 refine r1 9 (fun K hK => ?_)
 go_simp
 have hc := ftimes_v (ca := cb) (cb := da) (hE.here.1.1.1.1.2).1 (hE.here.1.1.1.1.1.2).2 (Nat.le_trans hb1 (by decide)) (Nat.le_trans ha2 (by decide)) (Nat.le_trans (ln_mulZ (m := 256) (n := 256) qb1 qa2) (by decide))
 refine hc.mono ?_
 clear hc
 rintro e w11 ⟨sy, Ay, ny, cy, rfl, hy, hb⟩
 replace hE := hE.step hb
 clear hb
 replace hE := hE.wv hy
 clear hy
 have ly : ny ≤ 512 := by rw [(hE.here.2).len]; exact (ln_mulZ (m := 256) (n := 256) qb1 qa2)
 go_wp2_with fail
 refine hK.out _ _ (hE.here.1.1.1.1.2.j4 hE.here.1.1.1.2.c4) (fun hHeld => ?_)
 clear hK K
 try simp only [PL]
 refine r1 10 (fun K hK => ?_)
 go_simp
 have hc := fplus_v (ca := cx) (cb := cy) hE.here.1.2 hE.here.2 (Nat.le_trans lx (by decide)) (Nat.le_trans ly (by decide)) (Nat.le_trans (ln_addZ (m := 512) (by rw [← (hE.here.1.2).len]; exact lx) (by rw [← (hE.here.2).len]; exact ly)) (by decide))
 refine hc.mono ?_
 clear hc
 rintro e w12 ⟨sz, Az, nz, cz, rfl, hz, hb⟩
 replace hE := hE.step hb
 clear hb
 replace hE := hE.wv hz
 clear hz
 have lz : nz ≤ 513 := by rw [(hE.here.2).len]; exact (ln_addZ (m := 512) (by rw [← (hE.here.1.1.2).len]; exact lx) (by rw [← (hE.here.1.2).len]; exact ly))
 go_wp2_with fail
 refine hK.out _ _ (hE.here.1.1.1.1.1.2.j4 hE.here.1.1.1.1.2.c4) (fun hHeld => ?_)
 clear hK K
 try simp only [PL]
 refine r1 15 (fun K hK => ?_)
 go_simp
 have hc := ftimes_v (ca := da) (cb := db) (hE.here.1.1.1.1.1.1.1.2).2 (hE.here.1.1.1.1.1.1.2).2 (Nat.le_trans ha2 (by decide)) (Nat.le_trans hb2 (by decide)) (Nat.le_trans (ln_mulZ (m := 256) (n := 256) qa2 qb2) (by decide))
 refine hc.mono ?_
 clear hc
 rintro e w13 ⟨su, Au, nu, cu, rfl, hu, hb⟩
 replace hE := hE.step hb
 clear hb
 replace hE := hE.wv hu
 clear hu
 have lu : nu ≤ 512 := by rw [(hE.here.2).len]; exact (ln_mulZ (m := 256) (n := 256) qa2 qb2)
 go_wp2_with fail
 refine hK.out _ _ (hE.here.1.1.1.1.1.1.2.j4 hE.here.1.1.1.1.1.2.c4) (fun hHeld => ?_)
 clear hK K
 try simp only [PL]
 refine r1 16 (fun K hK => ?_)
 go_simp
 have hc := flowest_v (ca := cz) (cb := cu) hE.here.1.2 hE.here.2 (Nat.le_trans lz (by decide)) (Nat.le_trans lu (by decide)) (den_ne a b)
 rw [add_low a b] at hc
 refine hc.mono ?_
 clear hc
 rintro e w14 ⟨sf, Af, nf, cf, tf, Bf, mf, df, rfl, hf, hb⟩
 replace hE := hE.step hb
 clear hb
 replace hE := hE.fv hf
 clear hf
 go_wp2_with fail
 refine hK.out _ _ (hE.here.1.1.1.1.1.1.1.2.j4 hE.here.1.1.1.1.1.1.2.c4) (fun hHeld => ?_)
 clear hK K
 try simp only [PL]
 refine r1 17 (fun K hK => ?_)
 go_simp
 have hc := fresult_long (c := cf) (d := df) hE.here.2 lr
 refine hc.mono ?_
 clear hc
 rintro e w15 ⟨rfl, hb⟩
 replace hE := hE.step hb
 clear hb
 go_wp2_with fail
 refine hK.out _ _ (hE.here.1.1.1.1.1.1.1.2.j4 hE.here.1.1.1.1.1.1.2.c4) (fun hHeld => ?_)
 clear hK K
 try simp only [PL]
 refine tk 18 ?_
 try simp only [PL]
 refine tk 19 ?_
 try simp only [PL]
 refine r1 20 (fun K hK => ?_)
 have hgl16 : w.heap.size ≤ w.heap.size + 1 + 1 := by omega
 obtain ⟨x16_0, x16_1, x16_2, x16_3⟩ := (hE.here.1.1.1.1.1.2).c4
 obtain ⟨f16_0, f16_1, f16_2, f16_3⟩ := hE.here.1.1.1.1.1.2.f4
 replace hE := (((((((((((Env.again (bel4 hE.bel hgl16 (.bool false) (.slice none 0 0) (.bool false) (.slice none 0 0))).fv ((hE.here.1.1.1.1.1.1.1.1.1.2).sep4 hE.here.1.1.1.1.1.2 rfl (.bool false) (.slice none 0 0) (.bool false) (.slice none 0 0) rfl rfl rfl)).fv ((hE.here.1.1.1.1.1.1.1.1.2).sep4 hE.here.1.1.1.1.1.2 rfl (.bool false) (.slice none 0 0) (.bool false) (.slice none 0 0) rfl rfl rfl)).blkI ((hE.here.1.1.1.1.1.1.1.2).far4 (R := w.heap.size + 1 + 1) (by omega) (.bool false) (.slice none 0 0) (.bool false) (.slice none 0 0))).blkI ((hE.here.1.1.1.1.1.1.2).far4 (R := w.heap.size + 1 + 1) (by omega) (.bool false) (.slice none 0 0) (.bool false) (.slice none 0 0))).blkI ((hE.here.1.1.1.1.1.2).s4 (.bool false) (.slice none 0 0) (.bool false) (.slice none 0 0))).wv ((hE.here.1.1.1.1.2).sep4 hE.here.1.1.1.1.1.2 rfl (.bool false) (.slice none 0 0) (.bool false) (.slice none 0 0) rfl rfl rfl)).wv ((hE.here.1.1.1.2).sep4 hE.here.1.1.1.1.1.2 rfl (.bool false) (.slice none 0 0) (.bool false) (.slice none 0 0) rfl rfl rfl)).wv ((hE.here.1.1.2).sep4 hE.here.1.1.1.1.1.2 rfl (.bool false) (.slice none 0 0) (.bool false) (.slice none 0 0) rfl rfl rfl)).wv ((hE.here.1.2).sep4 hE.here.1.1.1.1.1.2 rfl (.bool false) (.slice none 0 0) (.bool false) (.slice none 0 0) rfl rfl rfl)).fv ((hE.here.2).sep4 hE.here.1.1.1.1.1.2 rfl (.bool false) (.slice none 0 0) (.bool false) (.slice none 0 0) rfl rfl rfl))
 go_simp
 clear x16_0 x16_1 x16_2 x16_3 f16_0 f16_1 f16_2 f16_3 hgl16
 generalize ((((w15.setCell ⟨w.heap.size + 1 + 1, 0, none⟩ (.bool false)).setCell ⟨w.heap.size + 1 + 1, 1, none⟩ (.slice none 0 0)).setCell ⟨w.heap.size + 1 + 1, 2, none⟩ (.bool false)).setCell ⟨w.heap.size + 1 + 1, 3, none⟩ (.slice none 0 0)) = W16 at hE ⊢
 refine hK.out _ _ (hE.here.1.1.1.1.1.1.1.2.j4 hE.here.1.1.1.1.1.1.2.c4) (fun hHeld => ?_)
 clear hK K
 try simp only [PL]
 refine tk 21 ?_
 try simp only [PL]
 refine wpAnyH_done (by kernel_rfl) ?_ _
 obtain ⟨y0, y1, y2, y3⟩ := (hE.here.1.1.1.1.1.2).c4
 go_wp2_with fail
 refine bodyPost_ret (v := .tuple #[.agg #[.bool false, .slice none 0 0, .bool false, .slice none 0 0], .int .i64 3]) (by simp [results, Tryz.results24, go_sem, y0, y1, y2, y3]) rfl ?_
 exact ⟨rfl, hE.bel⟩
set_option linter.unusedSimpArgs false in
set_option maxRecDepth 100000 in
set_option maxHeartbeats 2000000 in
theorem fmul_long {a b : Rat} {sa ta sb tb : Bool} {Aa Ba Ab Bb : Option Addr} {na ca ma da nb cb mb db : Nat} {w : World} (ha : FV w a sa Aa na ta Ba ma) (hb : FV w b sb Ab nb tb Bb mb) (la : fl a ≤ 256) (lb : fl b ≤ 256) (lr : 256 < fl (a * b)) :
  Calls Tryz.prog 26 #[.agg #[.bool sa, .slice Aa na ca, .bool ta, .slice Ba ma da], .agg #[.bool sb, .slice Ab nb cb, .bool tb, .slice Bb mb db]] w (FErr 3 w) := by
 have hE := ((((Env.start w).fv ha).fv hb).blk 26 #[.bool sa, .slice Aa na ca, .bool ta, .slice Ba ma da] (g := w.heap.size) rfl).blk 26 #[.bool sb, .slice Ab nb cb, .bool tb, .slice Bb mb db] (g := w.heap.size + 1) (by simp)
 have hE := hE.blk 26 #[.bool false, .slice none 0 0, .bool false, .slice none 0 0] (g := w.heap.size + 1 + 1) (by simp)
 obtain ⟨W0, hW0⟩ : ∃ W0, W0 = (((w.alloc (.cells #[.bool sa, .slice Aa na ca, .bool ta, .slice Ba ma da] 26)).alloc (.cells #[.bool sb, .slice Ab nb cb, .bool tb, .slice Bb mb db] 26)).alloc (.cells #[.bool false, .slice none 0 0, .bool false, .slice none 0 0] 26)) := ⟨_, rfl⟩
 rw [← hW0] at hE
 have HW0 := Lib.hid hW0
 clear hW0
 go_enter Tryz.func26, Tryz.ntmps26
 go_upto_region 1 with (fail)
 rw [← HW0.out]
 obtain ⟨k1, k2, k3, k4⟩ := (hE.here.1.1.2).c4
 obtain ⟨k5, k6, k7, k8⟩ := (hE.here.1.2).c4
 go_wp2_with fail
 have hc := fallValid_v (c := ca) (d := da) (c2 := cb) (d2 := db) hE.here.1.1.1.1.2 hE.here.1.1.1.2 la lb
 refine hc.mono ?_
 clear hc
 clear k1 k2 k3 k4 k5 k6 k7 k8
 rintro e w9 ⟨rfl, hb⟩
 replace hE := hE.step hb
 clear hb
 go_upto_region 3 with (fail)
 obtain ⟨qa1, qa2⟩ := fl_le.1 la
 obtain ⟨qb1, qb2⟩ := fl_le.1 lb
 obtain ⟨ha1, ha2⟩ := (hE.here.1.1.1.1.2).ln la
 obtain ⟨hb1, hb2⟩ := (hE.here.1.1.1.2).ln lb
 have qa2 : ln b16 ((a.den : Nat) : Int).natAbs ≤ 256 := by rw [Int.natAbs_natCast]; exact qa2
 have qb2 : ln b16 ((b.den : Nat) : Int).natAbs ≤ 256 := by rw [Int.natAbs_natCast]; exact qb2
 replace hE := hE.drew
 refine wp_region_held_drew (S := fun w' => w'.cell? ⟨w.heap.size, 0, none⟩ = some (.bool sa) ∧ w'.cell? ⟨w.heap.size, 1, none⟩ = some (.slice Aa na ca) ∧ w'.cell? ⟨w.heap.size, 2, none⟩ = some (.bool ta) ∧ w'.cell? ⟨w.heap.size, 3, none⟩ = some (.slice Ba ma da) ∧ w'.cell? ⟨w.heap.size + 1, 0, none⟩ = some (.bool sb) ∧ w'.cell? ⟨w.heap.size + 1, 1, none⟩ = some (.slice Ab nb cb) ∧ w'.cell? ⟨w.heap.size + 1, 2, none⟩ = some (.bool tb) ∧ w'.cell? ⟨w.heap.size + 1, 3, none⟩ = some (.slice Bb mb db)) (by kernel_rfl) (hE.here.1.1.2.j4 hE.here.1.2.c4) (fun hHeld => ?_)
 refine tk 0 ?_
 try simp only [PL]
 refine tk 1 ?_
 try simp only [PL]
 refine tk 2 ?_
 try simp only [PL]
 refine tk 3 ?_
 try simp only [PL]
 refine tk 5 ?_
 try simp only [PL]
 refine tk 6 ?_
 try simp only [PL]
 refine tk 7 ?_
 try simp only [PL]
 refine tk 8 ?_
 try simp only [PL]
 refine r1 4 (fun K hK => ?_)
 go_simp
 have hc := ftimes_v (ca := ca) (cb := cb) (hE.here.1.1.1.1.2).1 (hE.here.1.1.1.2).1 (Nat.le_trans ha1 (by decide)) (Nat.le_trans hb1 (by decide)) (Nat.le_trans (ln_mulZ (m := 256) (n := 256) qa1 qb1) (by decide))
 refine hc.mono ?_
 clear hc
 rintro e w10 ⟨sx, Ax, nx, cx, rfl, hx, hb⟩
 replace hE := hE.step hb
 clear hb
 replace hE := hE.wv hx
 clear hx
 have lx : nx ≤ 512 := by rw [(hE.here.2).len]; exact (ln_mulZ (m := 256) (n := 256) qa1 qb1)
 go_wp2_with fail
 refine hK.out _ _ (hE.here.1.1.1.2.j4 hE.here.1.1.2.c4) (fun hHeld => ?_)
 clear hK K
 try simp only [PL]
 refine r1 9 (fun K hK => ?_)
 go_simp
 have hc := ftimes_v (ca := da) (cb := db) (hE.here.1.1.1.1.1.2).2 (hE.here.1.1.1.1.2).2 (Nat.le_trans ha2 (by decide)) (Nat.le_trans hb2 (by decide)) (Nat.le_trans (ln_mulZ (m := 256) (n := 256) qa2 qb2) (by decide))
 refine hc.mono ?_
 clear hc
 rintro e w11 ⟨su, Au, nu, cu, rfl, hu, hb⟩
 replace hE := hE.step hb
 clear hb
 replace hE := hE.wv hu
 clear hu
 have lu : nu ≤ 512 := by rw [(hE.here.2).len]; exact (ln_mulZ (m := 256) (n := 256) qa2 qb2)
 go_wp2_with fail
 refine hK.out _ _ (hE.here.1.1.1.1.2.j4 hE.here.1.1.1.2.c4) (fun hHeld => ?_)
 clear hK K
 try simp only [PL]
 refine r1 10 (fun K hK => ?_)
 go_simp
 have hc := flowest_v (ca := cx) (cb := cu) hE.here.1.2 hE.here.2 (Nat.le_trans lx (by decide)) (Nat.le_trans lu (by decide)) (den_ne a b)
 rw [mul_low a b] at hc
 refine hc.mono ?_
 clear hc
 rintro e w12 ⟨sf, Af, nf, cf, tf, Bf, mf, df, rfl, hf, hb⟩
 replace hE := hE.step hb
 clear hb
 replace hE := hE.fv hf
 clear hf
 go_wp2_with fail
 refine hK.out _ _ (hE.here.1.1.1.1.1.2.j4 hE.here.1.1.1.1.2.c4) (fun hHeld => ?_)
 clear hK K
 try simp only [PL]
 refine r1 11 (fun K hK => ?_)
 go_simp
 have hc := fresult_long (c := cf) (d := df) hE.here.2 lr
 refine hc.mono ?_
 clear hc
 rintro e w13 ⟨rfl, hb⟩
 replace hE := hE.step hb
 clear hb
 go_wp2_with fail
 refine hK.out _ _ (hE.here.1.1.1.1.1.2.j4 hE.here.1.1.1.1.2.c4) (fun hHeld => ?_)
 clear hK K
 try simp only [PL]
 refine tk 12 ?_
 try simp only [PL]
 refine tk 13 ?_
 try simp only [PL]
 refine r1 14 (fun K hK => ?_)
 have hgl14 : w.heap.size ≤ w.heap.size + 1 + 1 := by omega
 obtain ⟨x14_0, x14_1, x14_2, x14_3⟩ := (hE.here.1.1.1.2).c4
 obtain ⟨f14_0, f14_1, f14_2, f14_3⟩ := hE.here.1.1.1.2.f4
 replace hE := (((((((((Env.again (bel4 hE.bel hgl14 (.bool false) (.slice none 0 0) (.bool false) (.slice none 0 0))).fv ((hE.here.1.1.1.1.1.1.1.2).sep4 hE.here.1.1.1.2 rfl (.bool false) (.slice none 0 0) (.bool false) (.slice none 0 0) rfl rfl rfl)).fv ((hE.here.1.1.1.1.1.1.2).sep4 hE.here.1.1.1.2 rfl (.bool false) (.slice none 0 0) (.bool false) (.slice none 0 0) rfl rfl rfl)).blkI ((hE.here.1.1.1.1.1.2).far4 (R := w.heap.size + 1 + 1) (by omega) (.bool false) (.slice none 0 0) (.bool false) (.slice none 0 0))).blkI ((hE.here.1.1.1.1.2).far4 (R := w.heap.size + 1 + 1) (by omega) (.bool false) (.slice none 0 0) (.bool false) (.slice none 0 0))).blkI ((hE.here.1.1.1.2).s4 (.bool false) (.slice none 0 0) (.bool false) (.slice none 0 0))).wv ((hE.here.1.1.2).sep4 hE.here.1.1.1.2 rfl (.bool false) (.slice none 0 0) (.bool false) (.slice none 0 0) rfl rfl rfl)).wv ((hE.here.1.2).sep4 hE.here.1.1.1.2 rfl (.bool false) (.slice none 0 0) (.bool false) (.slice none 0 0) rfl rfl rfl)).fv ((hE.here.2).sep4 hE.here.1.1.1.2 rfl (.bool false) (.slice none 0 0) (.bool false) (.slice none 0 0) rfl rfl rfl))
 go_simp
 clear x14_0 x14_1 x14_2 x14_3 f14_0 f14_1 f14_2 f14_3 hgl14
 generalize ((((w13.setCell ⟨w.heap.size + 1 + 1, 0, none⟩ (.bool false)).setCell ⟨w.heap.size + 1 + 1, 1, none⟩ (.slice none 0 0)).setCell ⟨w.heap.size + 1 + 1, 2, none⟩ (.bool false)).setCell ⟨w.heap.size + 1 + 1, 3, none⟩ (.slice none 0 0)) = W14 at hE ⊢
 refine hK.out _ _ (hE.here.1.1.1.1.1.2.j4 hE.here.1.1.1.1.2.c4) (fun hHeld => ?_)
 clear hK K
 try simp only [PL]
 refine tk 15 ?_
 try simp only [PL]
 refine wpAnyH_done (by kernel_rfl) ?_ _
 obtain ⟨y0, y1, y2, y3⟩ := (hE.here.1.1.1.2).c4
 go_wp2_with fail
 refine bodyPost_ret (v := .tuple #[.agg #[.bool false, .slice none 0 0, .bool false, .slice none 0 0], .int .i64 3]) (by simp [results, Tryz.results26, go_sem, y0, y1, y2, y3]) rfl ?_
 exact ⟨rfl, hE.bel⟩
set_option linter.unusedSimpArgs false in
set_option maxRecDepth 100000 in
set_option maxHeartbeats 2000000 in
theorem rover_v {a b : Rat} {sa ta sb tb : Bool} {Aa Ba Ab Bb : Option Addr} {na ca ma da nb cb mb db : Nat} {w : World} (ha : FV w a sa Aa na ta Ba ma) (hb : FV w b sb Ab nb tb Bb mb) (la : fl a ≤ 100000) (lb : fl b ≤ 100000) (hb0 : b.num ≠ 0) :
  Calls Tryz.prog 21 #[.agg #[.bool sa, .slice Aa na ca, .bool ta, .slice Ba ma da], .agg #[.bool sb, .slice Ab nb cb, .bool tb, .slice Bb mb db]] w (FR (a / b) w) := by
 have hE := ((((Env.start w).fv ha).fv hb).blk 26 #[.bool sa, .slice Aa na ca, .bool ta, .slice Ba ma da] (g := w.heap.size) rfl).blk 26 #[.bool sb, .slice Ab nb cb, .bool tb, .slice Bb mb db] (g := w.heap.size + 1) (by simp)
 have hE := hE.blk 26 #[.bool false, .slice none 0 0, .bool false, .slice none 0 0] (g := w.heap.size + 1 + 1) (by simp)
 obtain ⟨W0, hW0⟩ : ∃ W0, W0 = (((w.alloc (.cells #[.bool sa, .slice Aa na ca, .bool ta, .slice Ba ma da] 26)).alloc (.cells #[.bool sb, .slice Ab nb cb, .bool tb, .slice Bb mb db] 26)).alloc (.cells #[.bool false, .slice none 0 0, .bool false, .slice none 0 0] 26)) := ⟨_, rfl⟩
 rw [← hW0] at hE
 have HW0 := Lib.hid hW0
 clear hW0
 go_enter Tryz.func21, Tryz.ntmps21
 go_upto_region 1 with (fail)
 rw [← HW0.out]
 obtain ⟨ha1, ha2⟩ := (hE.here.1.1.1.1.2).ln la
 obtain ⟨hb1, hb2⟩ := (hE.here.1.1.1.2).ln lb
 obtain ⟨qa1, qa2⟩ := fv_lens (hE.here.1.1.1.1.2) la
 obtain ⟨qb1, qb2⟩ := fv_lens (hE.here.1.1.1.2) lb
 replace hE := hE.drew
 refine wp_region_held_drew (S := fun w' => w'.cell? ⟨w.heap.size, 0, none⟩ = some (.bool sa) ∧ w'.cell? ⟨w.heap.size, 1, none⟩ = some (.slice Aa na ca) ∧ w'.cell? ⟨w.heap.size, 2, none⟩ = some (.bool ta) ∧ w'.cell? ⟨w.heap.size, 3, none⟩ = some (.slice Ba ma da) ∧ w'.cell? ⟨w.heap.size + 1, 0, none⟩ = some (.bool sb) ∧ w'.cell? ⟨w.heap.size + 1, 1, none⟩ = some (.slice Ab nb cb) ∧ w'.cell? ⟨w.heap.size + 1, 2, none⟩ = some (.bool tb) ∧ w'.cell? ⟨w.heap.size + 1, 3, none⟩ = some (.slice Bb mb db)) (by kernel_rfl) (hE.here.1.1.2.j4 hE.here.1.2.c4) (fun hHeld => ?_)
 refine tk 0 ?_
 try simp only [PL]
 refine tk 1 ?_
 try simp only [PL]
 refine tk 2 ?_
 try simp only [PL]
 refine tk 3 ?_
 try simp only [PL]
 refine tk 5 ?_
 try simp only [PL]
 refine tk 6 ?_
 try simp only [PL]
 refine tk 7 ?_
 try simp only [PL]
 refine tk 8 ?_
 try simp only [PL]
 refine r1 4 (fun K hK => ?_)
 go_simp
 have hc := rproduct_w (c := ca) (d := db) (hE.here.1.1.1.1.2).1 (hE.here.1.1.1.2).2 (Nat.le_trans ha1 (by decide)) (Nat.le_trans hb2 (by decide))
 refine hc.mono ?_
 clear hc
 rintro e w1 ⟨sx, Ax, nx, cx, rfl, hx, hb⟩
 replace hE := hE.step hb
 clear hb
 replace hE := hE.wv hx
 clear hx
 have lx : nx ≤ 200000 := by rw [(hE.here.2).len]; exact ln_mulZ (m := 100000) (n := 100000) qa1 qb2
 go_wp2_with fail
 refine hK.out _ _ (hE.here.1.1.1.2.j4 hE.here.1.1.2.c4) (fun hHeld => ?_)
 clear hK K
 try simp only [PL]
 refine r1 9 (fun K hK => ?_)
 go_simp
 have hc := rproduct_w (c := da) (d := cb) (hE.here.1.1.1.1.1.2).2 (hE.here.1.1.1.1.2).1 (Nat.le_trans ha2 (by decide)) (Nat.le_trans hb1 (by decide))
 refine hc.mono ?_
 clear hc
 rintro e w2 ⟨su, Au, nu, cu, rfl, hu, hb⟩
 replace hE := hE.step hb
 clear hb
 replace hE := hE.wv hu
 clear hu
 have lu : nu ≤ 200000 := by rw [(hE.here.2).len]; exact ln_mulZ (m := 100000) (n := 100000) qa2 qb1
 go_wp2_with fail
 refine hK.out _ _ (hE.here.1.1.1.1.2.j4 hE.here.1.1.1.2.c4) (fun hHeld => ?_)
 clear hK K
 try simp only [PL]
 refine r1 10 (fun K hK => ?_)
 go_simp
 have hc := rlowest_v (ca := cx) (cb := cu) hE.here.1.2 hE.here.2 (Nat.le_trans lx (by decide)) (Nat.le_trans lu (by decide)) (Int.mul_ne_zero (den_nz a) hb0)
 rw [div_low a b] at hc
 refine hc.mono ?_
 clear hc
 rintro e w3 ⟨sr, Ar, nr, cr, tr, Br, mr, dr, rfl, hf, hb⟩
 replace hE := hE.step hb
 clear hb
 replace hE := hE.fv hf
 clear hf
 go_wp2_with fail
 refine hK.out _ _ (hE.here.1.1.1.1.1.2.j4 hE.here.1.1.1.1.2.c4) (fun hHeld => ?_)
 clear hK K
 try simp only [PL]
 refine r1 11 (fun K hK => ?_)
 have hRl : w.heap.size ≤ w.heap.size + 1 + 1 := by omega
 obtain ⟨WW, hWW, hB, hV, hBel⟩ := ret_frac hE hE.here.1.1.1.2 hRl hE.here.2 cr dr
 obtain ⟨x0, x1, x2, x3⟩ := (hE.here.1.1.1.2).c4
 obtain ⟨fz0, fz1, fz2, fz3⟩ := hE.here.1.1.1.2.f4
 have HWW := Lib.hid hWW
 clear hWW
 have q4 := (hE.here.1.1.1.1.1.2).far4 (R := w.heap.size + 1 + 1) (by omega) (.bool sr) (.slice Ar nr cr) (.bool tr) (.slice Br mr dr)
 rw [← HWW.out] at q4
 have q5 := (hE.here.1.1.1.1.2).far4 (R := w.heap.size + 1 + 1) (by omega) (.bool sr) (.slice Ar nr cr) (.bool tr) (.slice Br mr dr)
 rw [← HWW.out] at q5
 go_simp
 rw [← HWW.out]
 refine hK.out _ _ (q4.j4 q5.c4) (fun hHeld => ?_)
 clear hK K
 try simp only [PL]
 refine wpAnyH_done (by kernel_rfl) ?_ _
 go_wp2_with fail
 obtain ⟨y0, y1, y2, y3⟩ := hB.c4
 refine bodyPost_ret (v := .agg #[.bool sr, .slice Ar nr cr, .bool tr, .slice Br mr dr]) (by simp [results, Tryz.results21, go_sem, y0, y1, y2, y3]) rfl ?_
 exact ⟨sr, Ar, nr, cr, tr, Br, mr, dr, rfl, hV, hBel⟩
set_option linter.unusedSimpArgs false in
set_option maxRecDepth 100000 in
set_option maxHeartbeats 2000000 in
theorem rfadd_ok {a b : Rat} {sa ta sb tb : Bool} {Aa Ba Ab Bb : Option Addr} {na ca ma da nb cb mb db : Nat} {w : World} (ha : FV w a sa Aa na ta Ba ma) (hb : FV w b sb Ab nb tb Bb mb) (la : fl a ≤ 256) (lb : fl b ≤ 256) (lr : fl (a + b) ≤ 256) :
  Calls Tryz.prog 25 #[.agg #[.bool sa, .slice Aa na ca, .bool ta, .slice Ba ma da], .agg #[.bool sb, .slice Ab nb cb, .bool tb, .slice Bb mb db]] w (FOK (a + b) w) := by
 have hE := ((((Env.start w).fv ha).fv hb).blk 26 #[.bool sa, .slice Aa na ca, .bool ta, .slice Ba ma da] (g := w.heap.size) rfl).blk 26 #[.bool sb, .slice Ab nb cb, .bool tb, .slice Bb mb db] (g := w.heap.size + 1) (by simp)
 have hE := hE.blk 26 #[.bool false, .slice none 0 0, .bool false, .slice none 0 0] (g := w.heap.size + 1 + 1) (by simp)
 obtain ⟨W0, hW0⟩ : ∃ W0, W0 = (((w.alloc (.cells #[.bool sa, .slice Aa na ca, .bool ta, .slice Ba ma da] 26)).alloc (.cells #[.bool sb, .slice Ab nb cb, .bool tb, .slice Bb mb db] 26)).alloc (.cells #[.bool false, .slice none 0 0, .bool false, .slice none 0 0] 26)) := ⟨_, rfl⟩
 rw [← hW0] at hE
 have HW0 := Lib.hid hW0
 clear hW0
 go_enter Tryz.func25, Tryz.ntmps25
 go_upto_region 1 with (fail)
 rw [← HW0.out]
 obtain ⟨k1, k2, k3, k4⟩ := (hE.here.1.1.2).c4
 obtain ⟨k5, k6, k7, k8⟩ := (hE.here.1.2).c4
 go_wp2_with fail
 have hc := rfvalid_v (c := ca) (d := da) hE.here.1.1.1.1.2 la
 refine hc.mono ?_
 clear hc
 clear k1 k2 k3 k4 k5 k6 k7 k8
 rintro e w9 ⟨rfl, hb⟩
 replace hE := hE.step hb
 clear hb
 obtain ⟨k10, k11, k12, k13⟩ := (hE.here.1.1.2).c4
 obtain ⟨k14, k15, k16, k17⟩ := (hE.here.1.2).c4
 go_wp2_with fail
 have hc := rfvalid_v (c := cb) (d := db) hE.here.1.1.1.2 lb
 refine hc.mono ?_
 clear hc
 clear k10 k11 k12 k13 k14 k15 k16 k17
 rintro e w18 ⟨rfl, hb⟩
 replace hE := hE.step hb
 clear hb
 obtain ⟨k19, k20, k21, k22⟩ := (hE.here.1.1.2).c4
 obtain ⟨k23, k24, k25, k26⟩ := (hE.here.1.2).c4
 go_wp2_with fail
 have hc := rplus_v (ca := ca) (da := da) (cb := cb) (db := db) hE.here.1.1.1.1.2 hE.here.1.1.1.2 (Nat.le_trans la (by decide)) (Nat.le_trans lb (by decide))
 refine hc.mono ?_
 clear hc
 clear k19 k20 k21 k22 k23 k24 k25 k26
 rintro e w27 ⟨sf, Af, nf, cf, tf, Bf, mf, df, rfl, hf, hb⟩
 replace hE := hE.step hb
 clear hb
 replace hE := hE.fv hf
 clear hf
 go_wp2_with fail
 have hc := told_ok (ca := cf) (da := df) hE.here.2 lr
 refine hc.mono ?_
 clear hc
 rintro e w28 ⟨sr, Ar, nr, cr, tr, Br, mr, dr, rfl, hr, hb⟩
 replace hE := hE.step hb
 clear hb
 replace hE := hE.fv hr
 clear hr
 have hRl : w.heap.size ≤ w.heap.size + 1 + 1 := by omega
 obtain ⟨WW, hWW, hB, hV, hBel⟩ := ret_frac hE hE.here.1.1.2 hRl hE.here.2 cr dr
 obtain ⟨x0, x1, x2, x3⟩ := (hE.here.1.1.2).c4
 obtain ⟨fz0, fz1, fz2, fz3⟩ := hE.here.1.1.2.f4
 have HWW := Lib.hid hWW
 clear hWW
 go_wp2_with fail
 clear x0 x1 x2 x3
 rw [← HWW.out]
 obtain ⟨y0, y1, y2, y3⟩ := hB.c4
 refine bodyPost_ret (v := .tuple #[.agg #[.bool sr, .slice Ar nr cr, .bool tr, .slice Br mr dr], .int .i64 0]) (by simp [results, Tryz.results25, go_sem, y0, y1, y2, y3]) rfl ?_
 exact ⟨sr, Ar, nr, cr, tr, Br, mr, dr, rfl, hV, hBel⟩
set_option linter.unusedSimpArgs false in
set_option maxRecDepth 100000 in
set_option maxHeartbeats 2000000 in
theorem rfadd_long {a b : Rat} {sa ta sb tb : Bool} {Aa Ba Ab Bb : Option Addr} {na ca ma da nb cb mb db : Nat} {w : World} (ha : FV w a sa Aa na ta Ba ma) (hb : FV w b sb Ab nb tb Bb mb) (la : fl a ≤ 256) (lb : fl b ≤ 256) (lr : 256 < fl (a + b)) :
  Calls Tryz.prog 25 #[.agg #[.bool sa, .slice Aa na ca, .bool ta, .slice Ba ma da], .agg #[.bool sb, .slice Ab nb cb, .bool tb, .slice Bb mb db]] w (FErr 3 w) := by
 have hE := ((((Env.start w).fv ha).fv hb).blk 26 #[.bool sa, .slice Aa na ca, .bool ta, .slice Ba ma da] (g := w.heap.size) rfl).blk 26 #[.bool sb, .slice Ab nb cb, .bool tb, .slice Bb mb db] (g := w.heap.size + 1) (by simp)
 have hE := hE.blk 26 #[.bool false, .slice none 0 0, .bool false, .slice none 0 0] (g := w.heap.size + 1 + 1) (by simp)
 obtain ⟨W0, hW0⟩ : ∃ W0, W0 = (((w.alloc (.cells #[.bool sa, .slice Aa na ca, .bool ta, .slice Ba ma da] 26)).alloc (.cells #[.bool sb, .slice Ab nb cb, .bool tb, .slice Bb mb db] 26)).alloc (.cells #[.bool false, .slice none 0 0, .bool false, .slice none 0 0] 26)) := ⟨_, rfl⟩
 rw [← hW0] at hE
 have HW0 := Lib.hid hW0
 clear hW0
 go_enter Tryz.func25, Tryz.ntmps25
 go_upto_region 1 with (fail)
 rw [← HW0.out]
 obtain ⟨k1, k2, k3, k4⟩ := (hE.here.1.1.2).c4
 obtain ⟨k5, k6, k7, k8⟩ := (hE.here.1.2).c4
 go_wp2_with fail
 have hc := rfvalid_v (c := ca) (d := da) hE.here.1.1.1.1.2 la
 refine hc.mono ?_
 clear hc
 clear k1 k2 k3 k4 k5 k6 k7 k8
 rintro e w9 ⟨rfl, hb⟩
 replace hE := hE.step hb
 clear hb
 obtain ⟨k10, k11, k12, k13⟩ := (hE.here.1.1.2).c4
 obtain ⟨k14, k15, k16, k17⟩ := (hE.here.1.2).c4
 go_wp2_with fail
 have hc := rfvalid_v (c := cb) (d := db) hE.here.1.1.1.2 lb
 refine hc.mono ?_
 clear hc
 clear k10 k11 k12 k13 k14 k15 k16 k17
 rintro e w18 ⟨rfl, hb⟩
 replace hE := hE.step hb
 clear hb
 obtain ⟨k19, k20, k21, k22⟩ := (hE.here.1.1.2).c4
 obtain ⟨k23, k24, k25, k26⟩ := (hE.here.1.2).c4
 go_wp2_with fail
 have hc := rplus_v (ca := ca) (da := da) (cb := cb) (db := db) hE.here.1.1.1.1.2 hE.here.1.1.1.2 (Nat.le_trans la (by decide)) (Nat.le_trans lb (by decide))
 refine hc.mono ?_
 clear hc
 clear k19 k20 k21 k22 k23 k24 k25 k26
 rintro e w27 ⟨sf, Af, nf, cf, tf, Bf, mf, df, rfl, hf, hb⟩
 replace hE := hE.step hb
 clear hb
 replace hE := hE.fv hf
 clear hf
 go_wp2_with fail
 have hc := told_long (ca := cf) (da := df) hE.here.2 lr
 refine hc.mono ?_
 clear hc
 rintro e w28 ⟨rfl, hb⟩
 replace hE := hE.step hb
 clear hb
 have hRl : w.heap.size ≤ w.heap.size + 1 + 1 := by omega
 have hB := (hE.here.1.2).s4 (.bool false) (.slice none 0 0) (.bool false) (.slice none 0 0)
 have hBel := bel4 hE.bel hRl (.bool false) (.slice none 0 0) (.bool false) (.slice none 0 0)
 obtain ⟨WW, hWW⟩ : ∃ x, x = ((((w28.setCell ⟨w.heap.size + 1 + 1, 0, none⟩ (.bool false)).setCell ⟨w.heap.size + 1 + 1, 1, none⟩ (.slice none 0 0)).setCell ⟨w.heap.size + 1 + 1, 2, none⟩ (.bool false)).setCell ⟨w.heap.size + 1 + 1, 3, none⟩ (.slice none 0 0)) := ⟨_, rfl⟩
 rw [← hWW] at hB hBel
 obtain ⟨x0, x1, x2, x3⟩ := (hE.here.1.2).c4
 obtain ⟨fz0, fz1, fz2, fz3⟩ := (hE.here.1.2).f4
 have HWW := Lib.hid hWW
 clear hWW
 go_wp2_with fail
 clear x0 x1 x2 x3
 rw [← HWW.out]
 obtain ⟨y0, y1, y2, y3⟩ := hB.c4
 refine bodyPost_ret (v := .tuple #[.agg #[.bool false, .slice none 0 0, .bool false, .slice none 0 0], .int .i64 3]) (by simp [results, Tryz.results25, go_sem, y0, y1, y2, y3]) rfl ?_
 exact ⟨rfl, hBel⟩
set_option linter.unusedSimpArgs false in
set_option maxRecDepth 100000 in
set_option maxHeartbeats 2000000 in
theorem rfmul_ok {a b : Rat} {sa ta sb tb : Bool} {Aa Ba Ab Bb : Option Addr} {na ca ma da nb cb mb db : Nat} {w : World} (ha : FV w a sa Aa na ta Ba ma) (hb : FV w b sb Ab nb tb Bb mb) (la : fl a ≤ 256) (lb : fl b ≤ 256) (lr : fl (a * b) ≤ 256) :
  Calls Tryz.prog 27 #[.agg #[.bool sa, .slice Aa na ca, .bool ta, .slice Ba ma da], .agg #[.bool sb, .slice Ab nb cb, .bool tb, .slice Bb mb db]] w (FOK (a * b) w) := by
 have hE := ((((Env.start w).fv ha).fv hb).blk 26 #[.bool sa, .slice Aa na ca, .bool ta, .slice Ba ma da] (g := w.heap.size) rfl).blk 26 #[.bool sb, .slice Ab nb cb, .bool tb, .slice Bb mb db] (g := w.heap.size + 1) (by simp)
 have hE := hE.blk 26 #[.bool false, .slice none 0 0, .bool false, .slice none 0 0] (g := w.heap.size + 1 + 1) (by simp)
 obtain ⟨W0, hW0⟩ : ∃ W0, W0 = (((w.alloc (.cells #[.bool sa, .slice Aa na ca, .bool ta, .slice Ba ma da] 26)).alloc (.cells #[.bool sb, .slice Ab nb cb, .bool tb, .slice Bb mb db] 26)).alloc (.cells #[.bool false, .slice none 0 0, .bool false, .slice none 0 0] 26)) := ⟨_, rfl⟩
 rw [← hW0] at hE
 have HW0 := Lib.hid hW0
 clear hW0
 go_enter Tryz.func27, Tryz.ntmps27
 go_upto_region 1 with (fail)
 rw [← HW0.out]
 obtain ⟨k1, k2, k3, k4⟩ := (hE.here.1.1.2).c4
 obtain ⟨k5, k6, k7, k8⟩ := (hE.here.1.2).c4
 go_wp2_with fail
 have hc := rfvalid_v (c := ca) (d := da) hE.here.1.1.1.1.2 la
 refine hc.mono ?_
 clear hc
 clear k1 k2 k3 k4 k5 k6 k7 k8
 rintro e w9 ⟨rfl, hb⟩
 replace hE := hE.step hb
 clear hb
 obtain ⟨k10, k11, k12, k13⟩ := (hE.here.1.1.2).c4
 obtain ⟨k14, k15, k16, k17⟩ := (hE.here.1.2).c4
 go_wp2_with fail
 have hc := rfvalid_v (c := cb) (d := db) hE.here.1.1.1.2 lb
 refine hc.mono ?_
 clear hc
 clear k10 k11 k12 k13 k14 k15 k16 k17
 rintro e w18 ⟨rfl, hb⟩
 replace hE := hE.step hb
 clear hb
 obtain ⟨k19, k20, k21, k22⟩ := (hE.here.1.1.2).c4
 obtain ⟨k23, k24, k25, k26⟩ := (hE.here.1.2).c4
 go_wp2_with fail
 have hc := rtimes_v (ca := ca) (da := da) (cb := cb) (db := db) hE.here.1.1.1.1.2 hE.here.1.1.1.2 (Nat.le_trans la (by decide)) (Nat.le_trans lb (by decide))
 refine hc.mono ?_
 clear hc
 clear k19 k20 k21 k22 k23 k24 k25 k26
 rintro e w27 ⟨sf, Af, nf, cf, tf, Bf, mf, df, rfl, hf, hb⟩
 replace hE := hE.step hb
 clear hb
 replace hE := hE.fv hf
 clear hf
 go_wp2_with fail
 have hc := told_ok (ca := cf) (da := df) hE.here.2 lr
 refine hc.mono ?_
 clear hc
 rintro e w28 ⟨sr, Ar, nr, cr, tr, Br, mr, dr, rfl, hr, hb⟩
 replace hE := hE.step hb
 clear hb
 replace hE := hE.fv hr
 clear hr
 have hRl : w.heap.size ≤ w.heap.size + 1 + 1 := by omega
 obtain ⟨WW, hWW, hB, hV, hBel⟩ := ret_frac hE hE.here.1.1.2 hRl hE.here.2 cr dr
 obtain ⟨x0, x1, x2, x3⟩ := (hE.here.1.1.2).c4
 obtain ⟨fz0, fz1, fz2, fz3⟩ := hE.here.1.1.2.f4
 have HWW := Lib.hid hWW
 clear hWW
 go_wp2_with fail
 clear x0 x1 x2 x3
 rw [← HWW.out]
 obtain ⟨y0, y1, y2, y3⟩ := hB.c4
 refine bodyPost_ret (v := .tuple #[.agg #[.bool sr, .slice Ar nr cr, .bool tr, .slice Br mr dr], .int .i64 0]) (by simp [results, Tryz.results27, go_sem, y0, y1, y2, y3]) rfl ?_
 exact ⟨sr, Ar, nr, cr, tr, Br, mr, dr, rfl, hV, hBel⟩
set_option linter.unusedSimpArgs false in
set_option maxRecDepth 100000 in
set_option maxHeartbeats 2000000 in
theorem rfmul_long {a b : Rat} {sa ta sb tb : Bool} {Aa Ba Ab Bb : Option Addr} {na ca ma da nb cb mb db : Nat} {w : World} (ha : FV w a sa Aa na ta Ba ma) (hb : FV w b sb Ab nb tb Bb mb) (la : fl a ≤ 256) (lb : fl b ≤ 256) (lr : 256 < fl (a * b)) :
  Calls Tryz.prog 27 #[.agg #[.bool sa, .slice Aa na ca, .bool ta, .slice Ba ma da], .agg #[.bool sb, .slice Ab nb cb, .bool tb, .slice Bb mb db]] w (FErr 3 w) := by
 have hE := ((((Env.start w).fv ha).fv hb).blk 26 #[.bool sa, .slice Aa na ca, .bool ta, .slice Ba ma da] (g := w.heap.size) rfl).blk 26 #[.bool sb, .slice Ab nb cb, .bool tb, .slice Bb mb db] (g := w.heap.size + 1) (by simp)
 have hE := hE.blk 26 #[.bool false, .slice none 0 0, .bool false, .slice none 0 0] (g := w.heap.size + 1 + 1) (by simp)
 obtain ⟨W0, hW0⟩ : ∃ W0, W0 = (((w.alloc (.cells #[.bool sa, .slice Aa na ca, .bool ta, .slice Ba ma da] 26)).alloc (.cells #[.bool sb, .slice Ab nb cb, .bool tb, .slice Bb mb db] 26)).alloc (.cells #[.bool false, .slice none 0 0, .bool false, .slice none 0 0] 26)) := ⟨_, rfl⟩
 rw [← hW0] at hE
 have HW0 := Lib.hid hW0
 clear hW0
 go_enter Tryz.func27, Tryz.ntmps27
 go_upto_region 1 with (fail)
 rw [← HW0.out]
 obtain ⟨k1, k2, k3, k4⟩ := (hE.here.1.1.2).c4
 obtain ⟨k5, k6, k7, k8⟩ := (hE.here.1.2).c4
 go_wp2_with fail
 have hc := rfvalid_v (c := ca) (d := da) hE.here.1.1.1.1.2 la
 refine hc.mono ?_
 clear hc
 clear k1 k2 k3 k4 k5 k6 k7 k8
 rintro e w9 ⟨rfl, hb⟩
 replace hE := hE.step hb
 clear hb
 obtain ⟨k10, k11, k12, k13⟩ := (hE.here.1.1.2).c4
 obtain ⟨k14, k15, k16, k17⟩ := (hE.here.1.2).c4
 go_wp2_with fail
 have hc := rfvalid_v (c := cb) (d := db) hE.here.1.1.1.2 lb
 refine hc.mono ?_
 clear hc
 clear k10 k11 k12 k13 k14 k15 k16 k17
 rintro e w18 ⟨rfl, hb⟩
 replace hE := hE.step hb
 clear hb
 obtain ⟨k19, k20, k21, k22⟩ := (hE.here.1.1.2).c4
 obtain ⟨k23, k24, k25, k26⟩ := (hE.here.1.2).c4
 go_wp2_with fail
 have hc := rtimes_v (ca := ca) (da := da) (cb := cb) (db := db) hE.here.1.1.1.1.2 hE.here.1.1.1.2 (Nat.le_trans la (by decide)) (Nat.le_trans lb (by decide))
 refine hc.mono ?_
 clear hc
 clear k19 k20 k21 k22 k23 k24 k25 k26
 rintro e w27 ⟨sf, Af, nf, cf, tf, Bf, mf, df, rfl, hf, hb⟩
 replace hE := hE.step hb
 clear hb
 replace hE := hE.fv hf
 clear hf
 go_wp2_with fail
 have hc := told_long (ca := cf) (da := df) hE.here.2 lr
 refine hc.mono ?_
 clear hc
 rintro e w28 ⟨rfl, hb⟩
 replace hE := hE.step hb
 clear hb
 have hRl : w.heap.size ≤ w.heap.size + 1 + 1 := by omega
 have hB := (hE.here.1.2).s4 (.bool false) (.slice none 0 0) (.bool false) (.slice none 0 0)
 have hBel := bel4 hE.bel hRl (.bool false) (.slice none 0 0) (.bool false) (.slice none 0 0)
 obtain ⟨WW, hWW⟩ : ∃ x, x = ((((w28.setCell ⟨w.heap.size + 1 + 1, 0, none⟩ (.bool false)).setCell ⟨w.heap.size + 1 + 1, 1, none⟩ (.slice none 0 0)).setCell ⟨w.heap.size + 1 + 1, 2, none⟩ (.bool false)).setCell ⟨w.heap.size + 1 + 1, 3, none⟩ (.slice none 0 0)) := ⟨_, rfl⟩
 rw [← hWW] at hB hBel
 obtain ⟨x0, x1, x2, x3⟩ := (hE.here.1.2).c4
 obtain ⟨fz0, fz1, fz2, fz3⟩ := (hE.here.1.2).f4
 have HWW := Lib.hid hWW
 clear hWW
 go_wp2_with fail
 clear x0 x1 x2 x3
 rw [← HWW.out]
 obtain ⟨y0, y1, y2, y3⟩ := hB.c4
 refine bodyPost_ret (v := .tuple #[.agg #[.bool false, .slice none 0 0, .bool false, .slice none 0 0], .int .i64 3]) (by simp [results, Tryz.results27, go_sem, y0, y1, y2, y3]) rfl ?_
 exact ⟨rfl, hBel⟩
/-- A power, or ErrLong. -/
def PowR (a : Rat) (n : Nat) (w : World) (e : Ending) (w' : World) : Prop := (fl (a ^ n) ≤ 256 ∧ FOK (a ^ n) w e w') ∨ (256 < fl (a ^ n) ∧ FErr 3 w e w')
set_option linter.unusedSimpArgs false in
set_option maxRecDepth 100000 in
set_option maxHeartbeats 4000000 in
theorem rpow_any {a : Rat} {sa ta : Bool} {Aa Ba : Option Addr} {na ca ma da : Nat} {w : World} (ha : FV w a sa Aa na ta Ba ma) (la : fl a ≤ 256) (ha2 : 2 ≤ a.num) (n : Nat) (hn1 : 1 ≤ n) (hn : n ≤ 1000000) (mono : ∀ i, i ≤ n → 256 < fl (a ^ i) → 256 < fl (a ^ n)) :
  Calls Tryz.prog 18 #[.agg #[.bool sa, .slice Aa na ca, .bool ta, .slice Ba ma da], .int .i64 (n : Int)] w (PowR a n w) := by
 obtain rfl : sa = false := by rw [ha.1.sgn]; exact decide_eq_false (by omega)
 have u1 : decide ((n : Int) < 0) = false := decide_eq_false (by omega)
 have u2 : decide (0 < (n : Int)) = true := decide_eq_true (by omega)
 have u3 : decide (0 < n) = true := decide_eq_true (by omega)
 have HM := Lib.hid mono
 clear mono
 have na2 : na ≤ 256 := by have h := ha.ln la; omega
 have hE := ((Env.start w).fv ha).blk 26 #[.bool false, .slice Aa na ca, .bool ta, .slice Ba ma da] (g := w.heap.size) rfl
 have hE := hE.blk 26 #[.bool false, .slice none 0 0, .bool false, .slice none 0 0] (g := w.heap.size + 1) (by simp)
 obtain ⟨W0, hW0⟩ : ∃ W0, W0 = ((w.alloc (.cells #[.bool false, .slice Aa na ca, .bool ta, .slice Ba ma da] 26)).alloc (.cells #[.bool false, .slice none 0 0, .bool false, .slice none 0 0] 26)) := ⟨_, rfl⟩
 rw [← hW0] at hE
 have HW0 := Lib.hid hW0
 clear hW0
 go_enter Tryz.func18, Tryz.ntmps18
 go_upto_region 1 with (fail)
 rw [← HW0.out]
 obtain ⟨k1, k2, k3, k4⟩ := (hE.here.1.2).c4
 go_wp2_with fail
 have hc := rfvalid_v (c := ca) (d := da) hE.here.1.1.2 la
 refine hc.mono ?_
 clear hc
 clear k1 k2 k3 k4
 rintro e w5 ⟨rfl, hb⟩
 replace hE := hE.step hb
 clear hb
 obtain ⟨k6, k7, k8, k9⟩ := (hE.here.1.2).c4
 go_wp2_with fail
 have hc := rfzero_v (ca := ca) (da := da) hE.here.1.1.2
 rw [decide_eq_false (show ¬ a.num = 0 by omega)] at hc
 have hc := hc
 refine hc.mono ?_
 clear hc
 clear k6 k7 k8 k9
 rintro e w10 ⟨rfl, hb⟩
 replace hE := hE.step hb
 clear hb
 obtain ⟨k11, k12, k13, k14⟩ := (hE.here.1.2).c4
 go_wp2_with fail
 have hc := rfzero_v (ca := ca) (da := da) hE.here.1.1.2
 rw [decide_eq_false (show ¬ a.num = 0 by omega)] at hc
 have hc := hc
 refine hc.mono ?_
 clear hc
 clear k11 k12 k13 k14
 rintro e w15 ⟨rfl, hb⟩
 replace hE := hE.step hb
 clear hb
 obtain ⟨k16, k17, k18, k19⟩ := (hE.here.1.2).c4
 go_wp2_with fail
 have hc := rone_v (c := ca) (hE.here.1.1.2).1 (Nat.le_trans na2 (by decide))
 rw [decide_eq_false (show ¬ a.num = 1 by omega)] at hc
 have hc := hc
 refine hc.mono ?_
 clear hc
 clear k16 k17 k18 k19
 rintro e w20 ⟨rfl, hb⟩
 replace hE := hE.step hb
 clear hb
 go_wp2_with fail
 have hc := rffromInt_v 1 w20 (by decide) (by decide)
 refine hc.mono ?_
 clear hc
 rintro e w21 ⟨sl, Al, nl, cl, tl, Bl, ml, dl, rfl, hl, hb⟩
 replace hE := hE.step hb
 clear hb
 replace hE := hE.fv hl
 clear hl
 go_upto_region 12 with (fail)
 obtain ⟨g22, hg22⟩ : ∃ g22, g22 = w21.heap.size := ⟨_, rfl⟩
 have hl22_1 : w.heap.size < g22 := by rw [hg22]; exact (hE.here.1.1.2).lt
 have hl22_2 : w.heap.size + 1 < g22 := by rw [hg22]; exact (hE.here.1.2).lt
 replace hE := hE.blk 26 #[.bool sl, .slice Al nl cl, .bool tl, .slice Bl ml dl] (g := g22) hg22.symm
 generalize w21.alloc (.cells #[.bool sl, .slice Al nl cl, .bool tl, .slice Bl ml dl] 26) = W22 at hE ⊢
 rw [← hg22]
 clear hg22
 have hGl : w.heap.size + 1 < g22 := by omega
 go_wp2_with fail
 go_loopw [7] (fun x wr => ∃ i : Nat, ∃ sv Av nv cv tv Bv mv dv, i ≤ n ∧ x = .int .i64 (i : Int) ∧ Hid (fl (a ^ i) ≤ 256) ∧ Env w (fun V => (((((True ∧ FV V a false Aa na ta Ba ma) ∧ Blk 26 (w.heap.size) #[.bool false, .slice Aa na ca, .bool ta, .slice Ba ma da] V) ∧ Blk 26 (w.heap.size + 1) #[.bool false, .slice none 0 0, .bool false, .slice none 0 0] V) ∧ FV V (a ^ i) sv Av nv tv Bv mv) ∧ Blk 26 (g22) #[.bool sv, .slice Av nv cv, .bool tv, .slice Bv mv dv] V)) wr) (fun x _ => n - (intOf x).toNat)
 case atStart =>
  have hv := hE.here.1.2
  have h0 : ((1 : Int) : Rat) = a ^ 0 := (Rat.pow_zero a).symm
  rw [h0] at hv
  exact ⟨0, sl, Al, nl, cl, tl, Bl, ml, dl, Nat.zero_le _, rfl, Lib.hid (by rw [Rat.pow_zero, fl_le]; exact ⟨by decide, by decide⟩), ((((Env.again hE.bel).fv (hE.here.1.1.1.1.2)).blkI (hE.here.1.1.1.2)).blkI (hE.here.1.1.2)).fv hv |>.blkI (hE.here.2)⟩
 case round =>
  clear hE
  obtain ⟨i, sv, Av, nv, cv, tv, Bv, mv, dv, hi, rfl, HI, hE⟩ := hrel
  by_cases hin : i = n
  ·
   subst hin
   have t1 : ((i : Int) != (i : Int)) = false := bne_self_eq_false _
   obtain ⟨k23, k24, k25, k26⟩ := (hE.here.2).c4
   have hRl : w.heap.size ≤ w.heap.size + 1 := by omega
   obtain ⟨WW, hWW, hB, hV, hBel⟩ := ret_frac hE hE.here.1.1.2 hRl hE.here.1.2 cv dv
   obtain ⟨x0, x1, x2, x3⟩ := (hE.here.1.1.2).c4
   obtain ⟨fz0, fz1, fz2, fz3⟩ := hE.here.1.1.2.f4
   have HWW := Lib.hid hWW
   clear hWW
   go_wp2_with fail
   clear x0 x1 x2 x3
   rw [← HWW.out]
   obtain ⟨y0, y1, y2, y3⟩ := hB.c4
   refine bodyPost_ret (v := .tuple #[.agg #[.bool sv, .slice Av nv cv, .bool tv, .slice Bv mv dv], .int .i64 0]) (by simp [results, Tryz.results18, go_sem, y0, y1, y2, y3]) rfl ?_
   exact Or.inl ⟨HI.out, sv, Av, nv, cv, tv, Bv, mv, dv, rfl, hV, hBel⟩
  ·
   have t1 : ((i : Int) != (n : Int)) = true := bne_iff_ne.2 (by omega)
   have t2 : (i != n) = true := bne_iff_ne.2 hin
   have o1 : IntKind.i64.wrap ((i : Int) + 1) = ((i + 1 : Nat) : Int) := by rw [IntKind.wrap_i64]; omega
   obtain ⟨k27, k28, k29, k30⟩ := (hE.here.1.1.1.2).c4
   obtain ⟨k31, k32, k33, k34⟩ := (hE.here.2).c4
   go_wp2_with fail
   have hc := rtimes_v (ca := cv) (da := dv) (cb := ca) (db := da) hE.here.1.2 hE.here.1.1.1.1.2 (Nat.le_trans HI.out (by decide)) (Nat.le_trans la (by decide))
   refine hc.mono ?_
   clear hc
   clear k27 k28 k29 k30 k31 k32 k33 k34
   rintro e w35 ⟨sx, Ax, nx, cx, tx, Bx, mx, dx, rfl, hx, hb⟩
   replace hE := hE.step hb
   clear hb
   replace hE := hE.fv hx
   clear hx
   have hgl36 : w.heap.size ≤ g22 := by omega
   obtain ⟨x36_0, x36_1, x36_2, x36_3⟩ := (hE.here.1.2).c4
   obtain ⟨f36_0, f36_1, f36_2, f36_3⟩ := hE.here.1.2.f4
   replace hE := (((((((Env.again (bel4 hE.bel hgl36 (.bool sx) (.slice Ax nx cx) (.bool tx) (.slice Bx mx dx))).fv ((hE.here.1.1.1.1.1.2).sep4 hE.here.1.2 rfl (.bool sx) (.slice Ax nx cx) (.bool tx) (.slice Bx mx dx) rfl rfl rfl)).blkI ((hE.here.1.1.1.1.2).far4 (R := g22) (by omega) (.bool sx) (.slice Ax nx cx) (.bool tx) (.slice Bx mx dx))).blkI ((hE.here.1.1.1.2).far4 (R := g22) (by omega) (.bool sx) (.slice Ax nx cx) (.bool tx) (.slice Bx mx dx))).fv ((hE.here.1.1.2).sep4 hE.here.1.2 rfl (.bool sx) (.slice Ax nx cx) (.bool tx) (.slice Bx mx dx) rfl rfl rfl)).blkI ((hE.here.1.2).s4 (.bool sx) (.slice Ax nx cx) (.bool tx) (.slice Bx mx dx))).fv ((hE.here.2).sep4 hE.here.1.2 rfl (.bool sx) (.slice Ax nx cx) (.bool tx) (.slice Bx mx dx) rfl rfl rfl))
   go_upto_region 19 with (fail)
   clear x36_0 x36_1 x36_2 x36_3 f36_0 f36_1 f36_2 f36_3 hgl36
   generalize ((((w35.setCell ⟨g22, 0, none⟩ (.bool sx)).setCell ⟨g22, 1, none⟩ (.slice Ax nx cx)).setCell ⟨g22, 2, none⟩ (.bool tx)).setCell ⟨g22, 3, none⟩ (.slice Bx mx dx)) = W36 at hE ⊢
   have hx := hE.here.2
   rw [← Rat.pow_succ] at hx
   replace hE := hE.fv hx
   clear hx
   by_cases hl : fl (a ^ (i + 1)) ≤ 256
   rotate_left
   ·
    have HL := Lib.hid hl
    clear hl
    obtain ⟨k37, k38, k39, k40⟩ := (hE.here.1.1.2).c4
    go_wp2_with fail
    have hc := rffits_v (c := cx) (d := dx) hE.here.2 false (decide_eq_false HL.out)
    refine hc.mono ?_
    clear hc
    clear k37 k38 k39 k40
    rintro e w41 ⟨rfl, hb⟩
    replace hE := hE.step hb
    clear hb
    go_upto_region 20 with (fail)
    have hRl : w.heap.size ≤ w.heap.size + 1 := by omega
    have hB := (hE.here.1.1.1.1.2).s4 (.bool false) (.slice none 0 0) (.bool false) (.slice none 0 0)
    have hBel := bel4 hE.bel hRl (.bool false) (.slice none 0 0) (.bool false) (.slice none 0 0)
    obtain ⟨WW, hWW⟩ : ∃ x, x = ((((w41.setCell ⟨w.heap.size + 1, 0, none⟩ (.bool false)).setCell ⟨w.heap.size + 1, 1, none⟩ (.slice none 0 0)).setCell ⟨w.heap.size + 1, 2, none⟩ (.bool false)).setCell ⟨w.heap.size + 1, 3, none⟩ (.slice none 0 0)) := ⟨_, rfl⟩
    rw [← hWW] at hB hBel
    obtain ⟨x0, x1, x2, x3⟩ := (hE.here.1.1.1.1.2).c4
    obtain ⟨fz0, fz1, fz2, fz3⟩ := (hE.here.1.1.1.1.2).f4
    have HWW := Lib.hid hWW
    clear hWW
    go_wp2_with fail
    clear x0 x1 x2 x3
    rw [← HWW.out]
    obtain ⟨y0, y1, y2, y3⟩ := hB.c4
    refine bodyPost_ret (v := .tuple #[.agg #[.bool false, .slice none 0 0, .bool false, .slice none 0 0], .int .i64 3]) (by simp [results, Tryz.results18, go_sem, y0, y1, y2, y3]) rfl ?_
    exact Or.inr ⟨HM.out (i + 1) (by omega) (by have := HL.out; omega), rfl, hBel⟩
   ·
    have HL := Lib.hid hl
    clear hl
    obtain ⟨k42, k43, k44, k45⟩ := (hE.here.1.1.2).c4
    go_wp2_with fail
    have hc := rffits_v (c := cx) (d := dx) hE.here.2 true (decide_eq_true HL.out)
    refine hc.mono ?_
    clear hc
    clear k42 k43 k44 k45
    rintro e w46 ⟨rfl, hb⟩
    replace hE := hE.step hb
    clear hb
    go_wp2_with fail
    go_roundw
    case rel => exact ⟨i + 1, sx, Ax, nx, cx, tx, Bx, mx, dx, by omega, by go_num, HL, ((((Env.again hE.bel).fv (hE.here.1.1.1.1.1.1.2)).blkI (hE.here.1.1.1.1.1.2)).blkI (hE.here.1.1.1.1.2)).fv (hE.here.2) |>.blkI (hE.here.1.1.2)⟩
    case measure => (simp [intOf]) <;> omega
end Go.Proofs.YtifikcemcflgjaaGreat
