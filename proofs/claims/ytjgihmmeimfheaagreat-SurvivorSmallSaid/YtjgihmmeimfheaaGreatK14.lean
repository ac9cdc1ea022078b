/-
  Several texts in one: The walks of the reference's arithmetic of fractions. The walk of the reference's Over. The reference's Floor and Int of numbers that are not negative.
-/
import Derived.Test.YtjgihmmeimfheaaGreatK3
import Derived.Test.YtjgihmmeimfheaaGreatK8
import Derived.Test.YtjgihmmeimfheaaGreatK13
import Derived.Test.YtjgihmmeimfheaaGreatK12
import Derived.Deep.CutRange
set_option linter.unusedSimpArgs false
set_option maxRecDepth 100000
set_option maxHeartbeats 8000000
namespace Go.Proofs.YtjgihmmeimfheaaGreat
section
open Go.RowKit

theorem rproduct_w {a b : Int} {s t : Bool} {A B : Option Addr} {n m c d : Nat} {w : World} (ha : WV w a s A n) (hv : WV w b t B m) (la : n ≤ 1000000) (lb : m ≤ 1000000) :
  Calls Tryz.prog 137 #[.agg #[.bool s, .slice A n c], .agg #[.bool t, .slice B m d]] w (WR (a * b) w) :=
 (rproduct_any ha hv la lb).mono fun _ _ ⟨s, A, n, c, he, hv, _, hb⟩ => ⟨s, A, n, c, he, hv, hb⟩
theorem rsum_w {a b : Int} {s t : Bool} {A B : Option Addr} {n m c d : Nat} {w : World} (ha : WV w a s A n) (hv : WV w b t B m) (la : n ≤ 1000000) (lb : m ≤ 1000000) :
  Calls Tryz.prog 155 #[.agg #[.bool s, .slice A n c], .agg #[.bool t, .slice B m d]] w (WR (a + b) w) :=
 (rsum_any ha hv la lb).mono fun _ _ ⟨s, A, n, c, he, hv, _, hb⟩ => ⟨s, A, n, c, he, hv, hb⟩
theorem rtimes_v {a b : Rat} {sa ta sb tb : Bool} {Aa Ba Ab Bb : Option Addr} {na ca ma da nb cb mb db : Nat} {w : World} (ha : FV w a sa Aa na ta Ba ma) (hb : FV w b sb Ab nb tb Bb mb) (la : fl a ≤ 100000) (lb : fl b ≤ 100000) :
  Calls Tryz.prog 132 #[.agg #[.bool sa, .slice Aa na ca, .bool ta, .slice Ba ma da], .agg #[.bool sb, .slice Ab nb cb, .bool tb, .slice Bb mb db]] w (FR (a * b) w) := by
 have hE := ((((Env.start w).fv ha).fv hb).blk 29 #[.bool sa, .slice Aa na ca, .bool ta, .slice Ba ma da] (g := w.heap.size) rfl).blk 29 #[.bool sb, .slice Ab nb cb, .bool tb, .slice Bb mb db] (g := w.heap.size + 1) (by simp);have hE := hE.blk 29 #[.bool false, .slice none 0 0, .bool false, .slice none 0 0] (g := w.heap.size + 1 + 1) (by simp)
 obtain ⟨W0, hW0⟩ : ∃ W0, W0 = (((w.alloc (.cells #[.bool sa, .slice Aa na ca, .bool ta, .slice Ba ma da] 29)).alloc (.cells #[.bool sb, .slice Ab nb cb, .bool tb, .slice Bb mb db] 29)).alloc (.cells #[.bool false, .slice none 0 0, .bool false, .slice none 0 0] 29)) := ⟨_, rfl⟩
 rw [← hW0] at hE;have HW0 := Lib.hid hW0;clear hW0
 go_enter Tryz.func132, Tryz.ntmps132
 go_upto_region 1 with (fail)
 rw [← HW0.out];obtain ⟨ha1, ha2⟩ := (hE.h4).ln la;obtain ⟨hb1, hb2⟩ := (hE.h3).ln lb;obtain ⟨qa1, qa2⟩ := fv_lens (hE.h4) la;obtain ⟨qb1, qb2⟩ := fv_lens (hE.h3) lb;replace hE := hE.drew;refine wp_region_held_drew (S := fun w' => w'.cell? ⟨w.heap.size, 0, none⟩ = some (.bool sa) ∧ w'.cell? ⟨w.heap.size, 1, none⟩ = some (.slice Aa na ca) ∧ w'.cell? ⟨w.heap.size, 2, none⟩ = some (.bool ta) ∧ w'.cell? ⟨w.heap.size, 3, none⟩ = some (.slice Ba ma da) ∧ w'.cell? ⟨w.heap.size + 1, 0, none⟩ = some (.bool sb) ∧ w'.cell? ⟨w.heap.size + 1, 1, none⟩ = some (.slice Ab nb cb) ∧ w'.cell? ⟨w.heap.size + 1, 2, none⟩ = some (.bool tb) ∧ w'.cell? ⟨w.heap.size + 1, 3, none⟩ = some (.slice Bb mb db)) (by kernel_rfl) (hE.h2.j4 hE.here.1.2.c4) (fun hHeld => ?_);refine tk 0 ?_;refine tk 1 ?_;refine tk 2 ?_;refine tk 3 ?_;refine tk 5 ?_;refine tk 6 ?_;refine tk 7 ?_;refine tk 8 ?_;refine r1 4 (fun K hK => ?_);go_simp;have hc := rproduct_w (c := ca) (d := cb) (hE.h4).1 (hE.h3).1 (Nat.le_trans ha1 (by decide)) (Nat.le_trans hb1 (by decide));refine hc.mono ?_;clear hc
 rintro e w1 ⟨sx, Ax, nx, cx, rfl, hx, hb⟩
 replace hE := hE.step hb;clear hb;replace hE := hE.wv hx;clear hx
 have lx : nx ≤ 200000 := by rw [(hE.here.2).len]; exact ln_mulZ (m := 100000) (n := 100000) qa1 qb1
 go_wp2_with fail
 refine hK.out _ _ (hE.h3.j4 hE.h2.c4) (fun hHeld => ?_);clear hK K;try simp only [PL]
 refine r1 9 (fun K hK => ?_);go_simp;have hc := rproduct_w (c := da) (d := db) (hE.h5).2 (hE.h4).2 (Nat.le_trans ha2 (by decide)) (Nat.le_trans hb2 (by decide));refine hc.mono ?_;clear hc
 rintro e w2 ⟨su, Au, nu, cu, rfl, hu, hb⟩
 replace hE := hE.step hb;clear hb;replace hE := hE.wv hu;clear hu
 have lu : nu ≤ 200000 := by rw [(hE.here.2).len]; exact ln_mulZ (m := 100000) (n := 100000) qa2 qb2
 go_wp2_with fail
 refine hK.out _ _ (hE.h4.j4 hE.h3.c4) (fun hHeld => ?_);clear hK K;try simp only [PL]
 refine r1 10 (fun K hK => ?_);go_simp;have hc := rlowest_v (ca := cx) (cb := cu) hE.here.1.2 hE.here.2 (Nat.le_trans lx (by decide)) (Nat.le_trans lu (by decide)) (den_ne a b);rw [mul_low a b] at hc;refine hE.fr hc ?_;clear hE hc;intro sr Ar nr cr tr Br mr dr w3 hE;go_wp2_with fail
 refine hK.out _ _ (hE.h5.j4 hE.h4.c4) (fun hHeld => ?_);clear hK K;try simp only [PL]
 refine r1 11 (fun K hK => ?_)
 have hRl : w.heap.size ≤ w.heap.size + 1 + 1 := by omega
 obtain ⟨WW, hWW, hB, hV, hBel⟩ := ret_frac hE hE.h3 hRl hE.here.2 cr dr;obtain ⟨x0, x1, x2, x3⟩ := (hE.h3).c4;obtain ⟨fz0, fz1, fz2, fz3⟩ := hE.h3.f4;have HWW := Lib.hid hWW;clear hWW;have q4 := (hE.h5).far4 (R := w.heap.size + 1 + 1) (by omega) (.bool sr) (.slice Ar nr cr) (.bool tr) (.slice Br mr dr);rw [← HWW.out] at q4;have q5 := (hE.h4).far4 (R := w.heap.size + 1 + 1) (by omega) (.bool sr) (.slice Ar nr cr) (.bool tr) (.slice Br mr dr);rw [← HWW.out] at q5;go_simp;rw [← HWW.out];refine hK.out _ _ (q4.j4 q5.c4) (fun hHeld => ?_);clear hK K;try simp only [PL]
 refine wpAnyH_done (by kernel_rfl) ?_ _;go_wp2_with fail
 obtain ⟨y0, y1, y2, y3⟩ := hB.c4;refine bodyPost_ret (v := .agg #[.bool sr, .slice Ar nr cr, .bool tr, .slice Br mr dr]) (by simp [results, Tryz.results132, go_sem, y0, y1, y2, y3]) rfl ?_;exact ⟨sr, Ar, nr, cr, tr, Br, mr, dr, rfl, hV, hBel⟩
theorem rplus_v {a b : Rat} {sa ta sb tb : Bool} {Aa Ba Ab Bb : Option Addr} {na ca ma da nb cb mb db : Nat} {w : World} (ha : FV w a sa Aa na ta Ba ma) (hb : FV w b sb Ab nb tb Bb mb) (la : fl a ≤ 100000) (lb : fl b ≤ 100000) :
  Calls Tryz.prog 131 #[.agg #[.bool sa, .slice Aa na ca, .bool ta, .slice Ba ma da], .agg #[.bool sb, .slice Ab nb cb, .bool tb, .slice Bb mb db]] w (FR (a + b) w) := by
 have hE := ((((Env.start w).fv ha).fv hb).blk 29 #[.bool sa, .slice Aa na ca, .bool ta, .slice Ba ma da] (g := w.heap.size) rfl).blk 29 #[.bool sb, .slice Ab nb cb, .bool tb, .slice Bb mb db] (g := w.heap.size + 1) (by simp);have hE := hE.blk 29 #[.bool false, .slice none 0 0, .bool false, .slice none 0 0] (g := w.heap.size + 1 + 1) (by simp)
 obtain ⟨W0, hW0⟩ : ∃ W0, W0 = (((w.alloc (.cells #[.bool sa, .slice Aa na ca, .bool ta, .slice Ba ma da] 29)).alloc (.cells #[.bool sb, .slice Ab nb cb, .bool tb, .slice Bb mb db] 29)).alloc (.cells #[.bool false, .slice none 0 0, .bool false, .slice none 0 0] 29)) := ⟨_, rfl⟩
 rw [← hW0] at hE;have HW0 := Lib.hid hW0;clear hW0
 go_enter Tryz.func131, Tryz.ntmps131
 go_upto_region 1 with (fail)
 rw [← HW0.out];obtain ⟨ha1, ha2⟩ := (hE.h4).ln la;obtain ⟨hb1, hb2⟩ := (hE.h3).ln lb;obtain ⟨qa1, qa2⟩ := fv_lens (hE.h4) la;obtain ⟨qb1, qb2⟩ := fv_lens (hE.h3) lb
 go_cut [5] from 6 to 16 (fun p wx => ∃ G1 sz Az nz cz, p = .pointer (some ⟨G1, 0, none⟩) ∧ w.heap.size + 1 + 1 < G1 ∧ Env w (fun V => (((((((True ∧ FV V a sa Aa na ta Ba ma) ∧ FV V b sb Ab nb tb Bb mb) ∧ Blk 29 (w.heap.size) #[.bool sa, .slice Aa na ca, .bool ta, .slice Ba ma da] V) ∧ Blk 29 (w.heap.size + 1) #[.bool sb, .slice Ab nb cb, .bool tb, .slice Bb mb db] V) ∧ Blk 29 (w.heap.size + 1 + 1) #[.bool false, .slice none 0 0, .bool false, .slice none 0 0] V) ∧ WV V (a.num * (b.den : Int) + b.num * (a.den : Int)) sz Az nz) ∧ Blk 27 (G1) #[.bool sz, .slice Az nz cz] V)) wx)
 case first =>
  replace hE := hE.drew;refine wp_region_held_drew (S := fun w' => w'.cell? ⟨w.heap.size, 0, none⟩ = some (.bool sa) ∧ w'.cell? ⟨w.heap.size, 1, none⟩ = some (.slice Aa na ca) ∧ w'.cell? ⟨w.heap.size, 2, none⟩ = some (.bool ta) ∧ w'.cell? ⟨w.heap.size, 3, none⟩ = some (.slice Ba ma da) ∧ w'.cell? ⟨w.heap.size + 1, 0, none⟩ = some (.bool sb) ∧ w'.cell? ⟨w.heap.size + 1, 1, none⟩ = some (.slice Ab nb cb) ∧ w'.cell? ⟨w.heap.size + 1, 2, none⟩ = some (.bool tb) ∧ w'.cell? ⟨w.heap.size + 1, 3, none⟩ = some (.slice Bb mb db)) (by kernel_rfl) (hE.h2.j4 hE.here.1.2.c4) (fun hHeld => ?_)
  generalize W0.drew = wd at *
  refine tk 0 ?_;refine tk 1 ?_;refine tk 2 ?_;refine tk 3 ?_;refine tk 5 ?_;refine tk 6 ?_;refine tk 7 ?_;refine tk 8 ?_;refine wpAnyH_ready (rs := [4, 11]) (by kernel_rfl) (by simp) (AllReadyH.cons rfl (fun K hK => ?_) (AllReadyH.cons rfl (fun K hK => ?_) (AllReadyH.nil)))
  ·
   go_simp;have hc := rproduct_w (c := ca) (d := db) (hE.h4).1 (hE.h3).2 (Nat.le_trans ha1 (by decide)) (Nat.le_trans hb2 (by decide));refine hc.mono ?_;clear hc
   rintro e w1 ⟨sx, Ax, nx, cx, rfl, hx, hb⟩
   replace hE := hE.step hb;clear hb;replace hE := hE.wv hx;clear hx
   have lx : nx ≤ 200000 := by rw [(hE.here.2).len]; exact ln_mulZ (m := 100000) (n := 100000) qa1 qb2
   go_wp2_with fail
   refine hK.out _ _ (hE.h3.j4 hE.h2.c4) (fun hHeld => ?_);clear hK K;try simp only [PL]
   refine wpAnyH_ready (rs := [9, 11]) (by kernel_rfl) (by simp) (AllReadyH.cons rfl (fun K hK => ?_) (AllReadyH.cons rfl (fun K hK => ?_) (AllReadyH.nil)))
   ·
    go_simp;have hc := rproduct_w (c := cb) (d := da) (hE.h4).1 (hE.h5).2 (Nat.le_trans hb1 (by decide)) (Nat.le_trans ha2 (by decide));refine hc.mono ?_;clear hc
    rintro e w2 ⟨sy, Ay, ny, cy, rfl, hy, hb⟩
    replace hE := hE.step hb;clear hb;replace hE := hE.wv hy;clear hy
    have ly : ny ≤ 200000 := by rw [(hE.here.2).len]; exact ln_mulZ (m := 100000) (n := 100000) qb1 qa2
    go_wp2_with fail
    refine hK.out _ _ (hE.h4.j4 hE.h3.c4) (fun hHeld => ?_);clear hK K;try simp only [PL]
    refine wpAnyH_ready (rs := [10, 11]) (by kernel_rfl) (by simp) (AllReadyH.cons rfl (fun K hK => ?_) (AllReadyH.cons rfl (fun K hK => ?_) (AllReadyH.nil)))
    ·
     go_simp;have hc := rsum_w (c := cx) (d := cy) hE.here.1.2 hE.here.2 (Nat.le_trans lx (by decide)) (Nat.le_trans ly (by decide));refine hc.mono ?_;clear hc
     rintro e w3 ⟨sz, Az, nz, cz, rfl, hz, hb⟩
     replace hE := hE.step hb;clear hb;replace hE := hE.wv hz;clear hz
     have lz : nz ≤ 200001 := by rw [(hE.here.2).len]; exact ln_addZ (m := 200000) (by rw [← (hE.h2).len]; exact lx) (by rw [← (hE.here.1.2).len]; exact ly)
     go_wp2_with fail
     refine hK.out _ _ (hE.h5.j4 hE.h4.c4) (fun hHeld => ?_);clear hK K;try simp only [PL]
     refine r1 11 (fun K hK => ?_);go_simp
     obtain ⟨g4, hg4⟩ : ∃ g4, g4 = w3.heap.size := ⟨_, rfl⟩
     have hl4_2 : w.heap.size < g4 := by rw [hg4]; exact (hE.h5).lt
     have hl4_3 : w.heap.size + 1 < g4 := by rw [hg4]; exact (hE.h4).lt
     have hl4_4 : w.heap.size + 1 + 1 < g4 := by rw [hg4]; exact (hE.h3).lt
     replace hE := hE.blk 27 #[.bool false, .slice none 0 0] (g := g4) hg4.symm;generalize w3.alloc (.cells #[.bool false, .slice none 0 0] 27) = W4 at hE ⊢;rw [← hg4];clear hg4;refine hK.out _ _ (hE.h6.j4 hE.h5.c4) (fun hHeld => ?_);clear hK K;try simp only [PL]
     refine r1 12 (fun K hK => ?_)
     have hgl5 : w.heap.size ≤ g4 := by omega
     obtain ⟨x5_0, x5_1⟩ := (hE.here.2).c2;obtain ⟨f5_0, f5_1⟩ := hE.here.2.f2;replace hE := ((((((((((Env.again (bel2 hE.bel hgl5 (.bool sz) (.slice Az nz cz))).fv ((hE.h8).sep2 hE.here.2 rfl _ _ rfl)).fv ((hE.h7).sep2 hE.here.2 rfl _ _ rfl)).blkI ((hE.h6).far2 (by omega) _ _)).blkI ((hE.h5).far2 (by omega) _ _)).blkI ((hE.h4).far2 (by omega) _ _)).wv ((hE.h3).sep2 hE.here.2 rfl _ _ rfl)).wv ((hE.h2).sep2 hE.here.2 rfl _ _ rfl)).wv ((hE.here.1.2).sep2 hE.here.2 rfl _ _ rfl)).blkI ((hE.here.2).s2 _ _));go_simp;clear x5_0 x5_1 f5_0 f5_1 hgl5;generalize ((W4.setCell ⟨g4, 0, none⟩ (.bool sz)).setCell ⟨g4, 1, none⟩ (.slice Az nz cz)) = W5 at hE ⊢;refine hK.out _ _ (hE.h6.j4 hE.h5.c4) (fun hHeld => ?_);clear hK K;try simp only [PL]
     refine wpAnyH_done (by kernel_rfl) ?_ _;go_wp2_with fail
     go_meet
     exact ⟨g4, sz, Az, nz, cz, rfl, by omega, ((((((((Env.again hE.bel).fv (hE.h8)).fv (hE.h7)).blkI (hE.h6)).blkI (hE.h5)).blkI (hE.h4)).wv (hE.here.1.2)).blkI (hE.here.2))⟩
    ·
     go_simp
     obtain ⟨g6, hg6⟩ : ∃ g6, g6 = w2.heap.size := ⟨_, rfl⟩
     have hl6_2 : w.heap.size < g6 := by rw [hg6]; exact (hE.h4).lt
     have hl6_3 : w.heap.size + 1 < g6 := by rw [hg6]; exact (hE.h3).lt
     have hl6_4 : w.heap.size + 1 + 1 < g6 := by rw [hg6]; exact (hE.h2).lt
     replace hE := hE.blk 27 #[.bool false, .slice none 0 0] (g := g6) hg6.symm;generalize w2.alloc (.cells #[.bool false, .slice none 0 0] 27) = W6 at hE ⊢;rw [← hg6];clear hg6;refine hK.out _ _ (hE.h5.j4 hE.h4.c4) (fun hHeld => ?_);clear hK K;try simp only [PL]
     refine r1 10 (fun K hK => ?_);go_simp;have hc := rsum_w (c := cx) (d := cy) hE.h2 hE.here.1.2 (Nat.le_trans lx (by decide)) (Nat.le_trans ly (by decide));refine hc.mono ?_;clear hc
     rintro e w7 ⟨sz, Az, nz, cz, rfl, hz, hb⟩
     replace hE := hE.step hb;clear hb;replace hE := hE.wv hz;clear hz
     have lz : nz ≤ 200001 := by rw [(hE.here.2).len]; exact ln_addZ (m := 200000) (by rw [← (hE.h3).len]; exact lx) (by rw [← (hE.h2).len]; exact ly)
     go_wp2_with fail
     refine hK.out _ _ (hE.h6.j4 hE.h5.c4) (fun hHeld => ?_);clear hK K;try simp only [PL]
     refine r1 12 (fun K hK => ?_)
     have hgl8 : w.heap.size ≤ g6 := by omega
     obtain ⟨x8_0, x8_1⟩ := (hE.here.1.2).c2;obtain ⟨f8_0, f8_1⟩ := hE.here.1.2.f2;replace hE := ((((((((((Env.again (bel2 hE.bel hgl8 (.bool sz) (.slice Az nz cz))).fv ((hE.h8).sep2 hE.here.1.2 rfl _ _ rfl)).fv ((hE.h7).sep2 hE.here.1.2 rfl _ _ rfl)).blkI ((hE.h6).far2 (by omega) _ _)).blkI ((hE.h5).far2 (by omega) _ _)).blkI ((hE.h4).far2 (by omega) _ _)).wv ((hE.h3).sep2 hE.here.1.2 rfl _ _ rfl)).wv ((hE.h2).sep2 hE.here.1.2 rfl _ _ rfl)).blkI ((hE.here.1.2).s2 _ _)).wv ((hE.here.2).sep2 hE.here.1.2 rfl _ _ rfl));go_simp;clear x8_0 x8_1 f8_0 f8_1 hgl8;generalize ((w7.setCell ⟨g6, 0, none⟩ (.bool sz)).setCell ⟨g6, 1, none⟩ (.slice Az nz cz)) = W8 at hE ⊢;refine hK.out _ _ (hE.h6.j4 hE.h5.c4) (fun hHeld => ?_);clear hK K;try simp only [PL]
     refine wpAnyH_done (by kernel_rfl) ?_ _;go_wp2_with fail
     go_meet
     exact ⟨g6, sz, Az, nz, cz, rfl, by omega, ((((((((Env.again hE.bel).fv (hE.h8)).fv (hE.h7)).blkI (hE.h6)).blkI (hE.h5)).blkI (hE.h4)).wv (hE.here.2)).blkI (hE.here.1.2))⟩
   ·
    go_simp
    obtain ⟨g9, hg9⟩ : ∃ g9, g9 = w1.heap.size := ⟨_, rfl⟩
    have hl9_2 : w.heap.size < g9 := by rw [hg9]; exact (hE.h3).lt
    have hl9_3 : w.heap.size + 1 < g9 := by rw [hg9]; exact (hE.h2).lt
    have hl9_4 : w.heap.size + 1 + 1 < g9 := by rw [hg9]; exact (hE.here.1.2).lt
    replace hE := hE.blk 27 #[.bool false, .slice none 0 0] (g := g9) hg9.symm;generalize w1.alloc (.cells #[.bool false, .slice none 0 0] 27) = W9 at hE ⊢;rw [← hg9];clear hg9;refine hK.out _ _ (hE.h4.j4 hE.h3.c4) (fun hHeld => ?_);clear hK K;try simp only [PL]
    refine r1 9 (fun K hK => ?_);go_simp;have hc := rproduct_w (c := cb) (d := da) (hE.h5).1 (hE.h6).2 (Nat.le_trans hb1 (by decide)) (Nat.le_trans ha2 (by decide));refine hc.mono ?_;clear hc
    rintro e w10 ⟨sy, Ay, ny, cy, rfl, hy, hb⟩
    replace hE := hE.step hb;clear hb;replace hE := hE.wv hy;clear hy
    have ly : ny ≤ 200000 := by rw [(hE.here.2).len]; exact ln_mulZ (m := 100000) (n := 100000) qb1 qa2
    go_wp2_with fail
    refine hK.out _ _ (hE.h5.j4 hE.h4.c4) (fun hHeld => ?_);clear hK K;try simp only [PL]
    refine r1 10 (fun K hK => ?_);go_simp;have hc := rsum_w (c := cx) (d := cy) hE.h2 hE.here.2 (Nat.le_trans lx (by decide)) (Nat.le_trans ly (by decide));refine hc.mono ?_;clear hc
    rintro e w11 ⟨sz, Az, nz, cz, rfl, hz, hb⟩
    replace hE := hE.step hb;clear hb;replace hE := hE.wv hz;clear hz
    have lz : nz ≤ 200001 := by rw [(hE.here.2).len]; exact ln_addZ (m := 200000) (by rw [← (hE.h3).len]; exact lx) (by rw [← (hE.here.1.2).len]; exact ly)
    go_wp2_with fail
    refine hK.out _ _ (hE.h6.j4 hE.h5.c4) (fun hHeld => ?_);clear hK K;try simp only [PL]
    refine r1 12 (fun K hK => ?_)
    have hgl12 : w.heap.size ≤ g9 := by omega
    obtain ⟨x12_0, x12_1⟩ := (hE.h2).c2;obtain ⟨f12_0, f12_1⟩ := hE.h2.f2;replace hE := ((((((((((Env.again (bel2 hE.bel hgl12 (.bool sz) (.slice Az nz cz))).fv ((hE.h8).sep2 hE.h2 rfl _ _ rfl)).fv ((hE.h7).sep2 hE.h2 rfl _ _ rfl)).blkI ((hE.h6).far2 (by omega) _ _)).blkI ((hE.h5).far2 (by omega) _ _)).blkI ((hE.h4).far2 (by omega) _ _)).wv ((hE.h3).sep2 hE.h2 rfl _ _ rfl)).blkI ((hE.h2).s2 _ _)).wv ((hE.here.1.2).sep2 hE.h2 rfl _ _ rfl)).wv ((hE.here.2).sep2 hE.h2 rfl _ _ rfl));go_simp;clear x12_0 x12_1 f12_0 f12_1 hgl12;generalize ((w11.setCell ⟨g9, 0, none⟩ (.bool sz)).setCell ⟨g9, 1, none⟩ (.slice Az nz cz)) = W12 at hE ⊢;refine hK.out _ _ (hE.h6.j4 hE.h5.c4) (fun hHeld => ?_);clear hK K;try simp only [PL]
    refine wpAnyH_done (by kernel_rfl) ?_ _;go_wp2_with fail
    go_meet
    exact ⟨g9, sz, Az, nz, cz, rfl, by omega, ((((((((Env.again hE.bel).fv (hE.h8)).fv (hE.h7)).blkI (hE.h6)).blkI (hE.h5)).blkI (hE.h4)).wv (hE.here.2)).blkI (hE.h2))⟩
  ·
   go_simp
   obtain ⟨g13, hg13⟩ : ∃ g13, g13 = wd.heap.size := ⟨_, rfl⟩
   have hl13_2 : w.heap.size < g13 := by rw [hg13]; exact (hE.h2).lt
   have hl13_3 : w.heap.size + 1 < g13 := by rw [hg13]; exact (hE.here.1.2).lt
   have hl13_4 : w.heap.size + 1 + 1 < g13 := by rw [hg13]; exact (hE.here.2).lt
   replace hE := hE.blk 27 #[.bool false, .slice none 0 0] (g := g13) hg13.symm;generalize wd.alloc (.cells #[.bool false, .slice none 0 0] 27) = W13 at hE ⊢;rw [← hg13];clear hg13;refine hK.out _ _ (hE.h3.j4 hE.h2.c4) (fun hHeld => ?_);clear hK K;try simp only [PL]
   refine r1 4 (fun K hK => ?_);go_simp;have hc := rproduct_w (c := ca) (d := db) (hE.h5).1 (hE.h4).2 (Nat.le_trans ha1 (by decide)) (Nat.le_trans hb2 (by decide));refine hc.mono ?_;clear hc
   rintro e w14 ⟨sx, Ax, nx, cx, rfl, hx, hb⟩
   replace hE := hE.step hb;clear hb;replace hE := hE.wv hx;clear hx
   have lx : nx ≤ 200000 := by rw [(hE.here.2).len]; exact ln_mulZ (m := 100000) (n := 100000) qa1 qb2
   go_wp2_with fail
   refine hK.out _ _ (hE.h4.j4 hE.h3.c4) (fun hHeld => ?_);clear hK K;try simp only [PL]
   refine r1 9 (fun K hK => ?_);go_simp;have hc := rproduct_w (c := cb) (d := da) (hE.h5).1 (hE.h6).2 (Nat.le_trans hb1 (by decide)) (Nat.le_trans ha2 (by decide));refine hc.mono ?_;clear hc
   rintro e w15 ⟨sy, Ay, ny, cy, rfl, hy, hb⟩
   replace hE := hE.step hb;clear hb;replace hE := hE.wv hy;clear hy
   have ly : ny ≤ 200000 := by rw [(hE.here.2).len]; exact ln_mulZ (m := 100000) (n := 100000) qb1 qa2
   go_wp2_with fail
   refine hK.out _ _ (hE.h5.j4 hE.h4.c4) (fun hHeld => ?_);clear hK K;try simp only [PL]
   refine r1 10 (fun K hK => ?_);go_simp;have hc := rsum_w (c := cx) (d := cy) hE.here.1.2 hE.here.2 (Nat.le_trans lx (by decide)) (Nat.le_trans ly (by decide));refine hc.mono ?_;clear hc
   rintro e w16 ⟨sz, Az, nz, cz, rfl, hz, hb⟩
   replace hE := hE.step hb;clear hb;replace hE := hE.wv hz;clear hz
   have lz : nz ≤ 200001 := by rw [(hE.here.2).len]; exact ln_addZ (m := 200000) (by rw [← (hE.h2).len]; exact lx) (by rw [← (hE.here.1.2).len]; exact ly)
   go_wp2_with fail
   refine hK.out _ _ (hE.h6.j4 hE.h5.c4) (fun hHeld => ?_);clear hK K;try simp only [PL]
   refine r1 12 (fun K hK => ?_)
   have hgl17 : w.heap.size ≤ g13 := by omega
   obtain ⟨x17_0, x17_1⟩ := (hE.h3).c2;obtain ⟨f17_0, f17_1⟩ := hE.h3.f2;replace hE := ((((((((((Env.again (bel2 hE.bel hgl17 (.bool sz) (.slice Az nz cz))).fv ((hE.h8).sep2 hE.h3 rfl _ _ rfl)).fv ((hE.h7).sep2 hE.h3 rfl _ _ rfl)).blkI ((hE.h6).far2 (by omega) _ _)).blkI ((hE.h5).far2 (by omega) _ _)).blkI ((hE.h4).far2 (by omega) _ _)).blkI ((hE.h3).s2 _ _)).wv ((hE.h2).sep2 hE.h3 rfl _ _ rfl)).wv ((hE.here.1.2).sep2 hE.h3 rfl _ _ rfl)).wv ((hE.here.2).sep2 hE.h3 rfl _ _ rfl));go_simp;clear x17_0 x17_1 f17_0 f17_1 hgl17;generalize ((w16.setCell ⟨g13, 0, none⟩ (.bool sz)).setCell ⟨g13, 1, none⟩ (.slice Az nz cz)) = W17 at hE ⊢;refine hK.out _ _ (hE.h6.j4 hE.h5.c4) (fun hHeld => ?_);clear hK K;try simp only [PL]
   refine wpAnyH_done (by kernel_rfl) ?_ _;go_wp2_with fail
   go_meet
   exact ⟨g13, sz, Az, nz, cz, rfl, by omega, ((((((((Env.again hE.bel).fv (hE.h8)).fv (hE.h7)).blkI (hE.h6)).blkI (hE.h5)).blkI (hE.h4)).wv (hE.here.2)).blkI (hE.h3))⟩
 case rest =>
 clear hE;obtain ⟨G1, sz, Az, nz, cz, rfl, hG1, hE⟩ := hcut;generalize wc = wk1 at hE ⊢
 have lz : nz ≤ 200001 := by rw [(hE.here.1.2).len]; exact ln_addZ (m := 200000) (ln_mulZ (m := 100000) (n := 100000) qa1 qb2) (ln_mulZ (m := 100000) (n := 100000) qb1 qa2)
 go_upto_region 2 with (fail)
 replace hE := hE.drew;refine wp_region_held_drew (S := fun w' => w'.cell? ⟨G1, 0, none⟩ = some (.bool sz) ∧ w'.cell? ⟨G1, 1, none⟩ = some (.slice Az nz cz) ∧ w'.cell? ⟨w.heap.size, 0, none⟩ = some (.bool sa) ∧ w'.cell? ⟨w.heap.size, 1, none⟩ = some (.slice Aa na ca) ∧ w'.cell? ⟨w.heap.size, 2, none⟩ = some (.bool ta) ∧ w'.cell? ⟨w.heap.size, 3, none⟩ = some (.slice Ba ma da) ∧ w'.cell? ⟨w.heap.size + 1, 0, none⟩ = some (.bool sb) ∧ w'.cell? ⟨w.heap.size + 1, 1, none⟩ = some (.slice Ab nb cb) ∧ w'.cell? ⟨w.heap.size + 1, 2, none⟩ = some (.bool tb) ∧ w'.cell? ⟨w.heap.size + 1, 3, none⟩ = some (.slice Bb mb db)) (by kernel_rfl) (hE.here.2.j2 (hE.h4.j4 hE.h3.c4)) (fun hHeld => ?_);refine tk 0 ?_;refine tk 1 ?_;refine tk 2 ?_;refine tk 3 ?_;refine tk 4 ?_;refine r1 5 (fun K hK => ?_);go_simp;have hc := rproduct_w (c := da) (d := db) (hE.h6).2 (hE.h5).2 (Nat.le_trans ha2 (by decide)) (Nat.le_trans hb2 (by decide));refine hc.mono ?_;clear hc
 rintro e w18 ⟨su, Au, nu, cu, rfl, hu, hb⟩
 replace hE := hE.step hb;clear hb;replace hE := hE.wv hu;clear hu
 have lu : nu ≤ 200000 := by rw [(hE.here.2).len]; exact ln_mulZ (m := 100000) (n := 100000) qa2 qb2
 go_wp2_with fail
 refine hK.out _ _ (hE.here.1.2.j2 (hE.h5.j4 hE.h4.c4)) (fun hHeld => ?_);clear hK K;try simp only [PL]
 refine r1 6 (fun K hK => ?_);go_simp;have hc := rlowest_v (ca := cz) (cb := cu) hE.h2 hE.here.2 (Nat.le_trans lz (by decide)) (Nat.le_trans lu (by decide)) (den_ne a b);rw [add_low a b] at hc;refine hE.fr hc ?_;clear hE hc;intro sr Ar nr cr tr Br mr dr w19 hE;go_wp2_with fail
 refine hK.out _ _ (hE.h2.j2 (hE.h6.j4 hE.h5.c4)) (fun hHeld => ?_);clear hK K;try simp only [PL]
 refine r1 7 (fun K hK => ?_)
 have hRl : w.heap.size ≤ w.heap.size + 1 + 1 := by omega
 obtain ⟨WW, hWW, hB, hV, hBel⟩ := ret_frac hE hE.h4 hRl hE.here.2 cr dr;obtain ⟨x0, x1, x2, x3⟩ := (hE.h4).c4;obtain ⟨fz0, fz1, fz2, fz3⟩ := hE.h4.f4;have HWW := Lib.hid hWW;clear hWW;have q20 := (hE.h2).far4 (R := w.heap.size + 1 + 1) (by omega) (.bool sr) (.slice Ar nr cr) (.bool tr) (.slice Br mr dr);rw [← HWW.out] at q20;have q21 := (hE.h6).far4 (R := w.heap.size + 1 + 1) (by omega) (.bool sr) (.slice Ar nr cr) (.bool tr) (.slice Br mr dr);rw [← HWW.out] at q21;have q22 := (hE.h5).far4 (R := w.heap.size + 1 + 1) (by omega) (.bool sr) (.slice Ar nr cr) (.bool tr) (.slice Br mr dr);rw [← HWW.out] at q22;go_simp;rw [← HWW.out];refine hK.out _ _ (q20.j2 (q21.j4 q22.c4)) (fun hHeld => ?_);clear hK K;try simp only [PL]
 refine wpAnyH_done (by kernel_rfl) ?_ _;go_wp2_with fail
 obtain ⟨y0, y1, y2, y3⟩ := hB.c4;refine bodyPost_ret (v := .agg #[.bool sr, .slice Ar nr cr, .bool tr, .slice Br mr dr]) (by simp [results, Tryz.results131, go_sem, y0, y1, y2, y3]) rfl ?_;exact ⟨sr, Ar, nr, cr, tr, Br, mr, dr, rfl, hV, hBel⟩
theorem rminus_v {a b : Rat} {sa ta sb tb : Bool} {Aa Ba Ab Bb : Option Addr} {na ca ma da nb cb mb db : Nat} {w : World} (ha : FV w a sa Aa na ta Ba ma) (hb : FV w b sb Ab nb tb Bb mb) (la : fl a ≤ 100000) (lb : fl b ≤ 100000) :
  Calls Tryz.prog 105 #[.agg #[.bool sa, .slice Aa na ca, .bool ta, .slice Ba ma da], .agg #[.bool sb, .slice Ab nb cb, .bool tb, .slice Bb mb db]] w (FR (a - b) w) := by
 have hE := ((((Env.start w).fv ha).fv hb).blk 29 #[.bool sa, .slice Aa na ca, .bool ta, .slice Ba ma da] (g := w.heap.size) rfl).blk 29 #[.bool sb, .slice Ab nb cb, .bool tb, .slice Bb mb db] (g := w.heap.size + 1) (by simp);have hE := hE.blk 29 #[.bool false, .slice none 0 0, .bool false, .slice none 0 0] (g := w.heap.size + 1 + 1) (by simp)
 obtain ⟨W0, hW0⟩ : ∃ W0, W0 = (((w.alloc (.cells #[.bool sa, .slice Aa na ca, .bool ta, .slice Ba ma da] 29)).alloc (.cells #[.bool sb, .slice Ab nb cb, .bool tb, .slice Bb mb db] 29)).alloc (.cells #[.bool false, .slice none 0 0, .bool false, .slice none 0 0] 29)) := ⟨_, rfl⟩
 rw [← hW0] at hE;have HW0 := Lib.hid hW0;clear hW0
 go_enter Tryz.func105, Tryz.ntmps105
 go_upto_region 1 with (fail)
 rw [← HW0.out];replace hE := hE.drew;refine wp_region_held_drew (S := fun w' => w'.cell? ⟨w.heap.size, 0, none⟩ = some (.bool sa) ∧ w'.cell? ⟨w.heap.size, 1, none⟩ = some (.slice Aa na ca) ∧ w'.cell? ⟨w.heap.size, 2, none⟩ = some (.bool ta) ∧ w'.cell? ⟨w.heap.size, 3, none⟩ = some (.slice Ba ma da) ∧ w'.cell? ⟨w.heap.size + 1, 0, none⟩ = some (.bool sb) ∧ w'.cell? ⟨w.heap.size + 1, 1, none⟩ = some (.slice Ab nb cb) ∧ w'.cell? ⟨w.heap.size + 1, 2, none⟩ = some (.bool tb) ∧ w'.cell? ⟨w.heap.size + 1, 3, none⟩ = some (.slice Bb mb db)) (by kernel_rfl) (hE.h2.j4 hE.here.1.2.c4) (fun hHeld => ?_);refine tk 0 ?_;refine tk 1 ?_;refine tk 2 ?_;refine tk 4 ?_;refine tk 5 ?_;refine r1 3 (fun K hK => ?_);go_simp;refine (rneg_any (c := cb) (hE.h3).1).mono ?_
 rintro e w1 ⟨sp, rfl, hn, hb⟩
 replace hE := hE.step hb;clear hb;replace hE := hE.fv ((hE.h3).neg hn);clear hn;go_wp2_with fail
 refine hK.out _ _ (hE.h3.j4 hE.h2.c4) (fun hHeld => ?_);clear hK K;try simp only [PL]
 refine tk 6 ?_;refine r1 7 (fun K hK => ?_);go_simp;have hc := rplus_v (ca := ca) (da := da) (cb := cb) (db := db) hE.h5 hE.here.2 la (by rw [fl_neg]; exact lb);rw [← Rat.sub_eq_add_neg] at hc;refine hE.fr hc ?_;clear hE hc;intro sr Ar nr cr tr Br mr dr w2 hE;go_wp2_with fail
 refine hK.out _ _ (hE.h4.j4 hE.h3.c4) (fun hHeld => ?_);clear hK K;try simp only [PL]
 refine r1 8 (fun K hK => ?_)
 have hRl : w.heap.size ≤ w.heap.size + 1 + 1 := by omega
 obtain ⟨WW, hWW, hB, hV, hBel⟩ := ret_frac hE hE.h2 hRl hE.here.2 cr dr;obtain ⟨x0, x1, x2, x3⟩ := (hE.h2).c4;obtain ⟨fz0, fz1, fz2, fz3⟩ := hE.h2.f4;have HWW := Lib.hid hWW;clear hWW;have q3 := (hE.h4).far4 (R := w.heap.size + 1 + 1) (by omega) (.bool sr) (.slice Ar nr cr) (.bool tr) (.slice Br mr dr);rw [← HWW.out] at q3;have q4 := (hE.h3).far4 (R := w.heap.size + 1 + 1) (by omega) (.bool sr) (.slice Ar nr cr) (.bool tr) (.slice Br mr dr);rw [← HWW.out] at q4;go_simp;rw [← HWW.out];refine hK.out _ _ (q3.j4 q4.c4) (fun hHeld => ?_);clear hK K;try simp only [PL]
 refine wpAnyH_done (by kernel_rfl) ?_ _;go_wp2_with fail
 obtain ⟨y0, y1, y2, y3⟩ := hB.c4;refine bodyPost_ret (v := .agg #[.bool sr, .slice Ar nr cr, .bool tr, .slice Br mr dr]) (by simp [results, Tryz.results105, go_sem, y0, y1, y2, y3]) rfl ?_;exact ⟨sr, Ar, nr, cr, tr, Br, mr, dr, rfl, hV, hBel⟩
theorem rorder1_v {a b : Int} {sp sq : Bool} {Ap Aq : Option Addr} {np cp nq cq : Nat} {w : World} (hp : WV w a sp Ap np) (hq : WV w b sq Aq nq) (la : np ≤ 900000) (lb : nq ≤ 900000) :
  Calls Tryz.prog 136 #[.agg #[.bool sp, .slice Ap np cp], .agg #[.bool sq, .slice Aq nq cq]] w fun e w' => e = .returned (.int .i64 (cmpZ a b)) ∧ Below w.heap.size w w' := by
 have hE := ((((Env.start w).wv hp).wv hq).blk 27 #[.bool sp, .slice Ap np cp] (g := w.heap.size) rfl).blk 27 #[.bool sq, .slice Aq nq cq] (g := w.heap.size + 1) (by simp)
 obtain ⟨W0, hW0⟩ : ∃ W0, W0 = ((w.alloc (.cells #[.bool sp, .slice Ap np cp] 27)).alloc (.cells #[.bool sq, .slice Aq nq cq] 27)) := ⟨_, rfl⟩
 rw [← hW0] at hE;have HW0 := Lib.hid hW0;clear hW0
 go_enter Tryz.func136, Tryz.ntmps136
 go_upto_region 1 with (fail)
 rw [← HW0.out]
 go_cut [5] from 6 to 9 (fun p wx => ∃ G1 sz Az nz cz, p = .pointer (some ⟨G1, 0, none⟩) ∧ w.heap.size + 1 < G1 ∧ Env w (fun V => ((((((True ∧ WV V a sp Ap np) ∧ WV V b sq Aq nq) ∧ Blk 27 (w.heap.size) #[.bool sp, .slice Ap np cp] V) ∧ Blk 27 (w.heap.size + 1) #[.bool sq, .slice Aq nq cq] V) ∧ WV V (a + -b) sz Az nz) ∧ Blk 27 (G1) #[.bool sz, .slice Az nz cz] V)) wx)
 case first =>
  replace hE := hE.drew;refine wp_region_held_drew (S := fun w' => w'.cell? ⟨w.heap.size, 0, none⟩ = some (.bool sp) ∧ w'.cell? ⟨w.heap.size, 1, none⟩ = some (.slice Ap np cp) ∧ w'.cell? ⟨w.heap.size + 1, 0, none⟩ = some (.bool sq) ∧ w'.cell? ⟨w.heap.size + 1, 1, none⟩ = some (.slice Aq nq cq)) (by kernel_rfl) (hE.here.1.2.j2 hE.here.2.c2) (fun hHeld => ?_)
  generalize W0.drew = wd at *
  refine tk 0 ?_;refine tk 1 ?_;refine wpAnyH_ready (rs := [2, 4]) (by kernel_rfl) (by simp) (AllReadyH.cons rfl (fun K hK => ?_) (AllReadyH.cons rfl (fun K hK => ?_) (AllReadyH.nil)))
  ·
   go_simp;refine (rneg_any (c := cq) (hE.h2)).mono ?_
   rintro e w1 ⟨sm, rfl, hn, hb⟩
   replace hE := hE.step hb;clear hb;replace hE := hE.wv hn;clear hn;go_wp2_with fail
   refine hK.out _ _ (hE.h2.j2 hE.here.1.2.c2) (fun hHeld => ?_);clear hK K;try simp only [PL]
   refine wpAnyH_ready (rs := [3, 4]) (by kernel_rfl) (by simp) (AllReadyH.cons rfl (fun K hK => ?_) (AllReadyH.cons rfl (fun K hK => ?_) (AllReadyH.nil)))
   ·
    go_simp;have hc := rsum_w (c := cp) (d := cq) hE.h4 hE.here.2 (Nat.le_trans la (by decide)) (Nat.le_trans lb (by decide));refine hc.mono ?_;clear hc
    rintro e w2 ⟨sz, Az, nz, cz, rfl, hz, hb⟩
    replace hE := hE.step hb;clear hb;replace hE := hE.wv hz;clear hz;go_wp2_with fail
    refine hK.out _ _ (hE.h3.j2 hE.h2.c2) (fun hHeld => ?_);clear hK K;try simp only [PL]
    refine r1 4 (fun K hK => ?_);go_simp
    obtain ⟨g3, hg3⟩ : ∃ g3, g3 = w2.heap.size := ⟨_, rfl⟩
    have hl3_2 : w.heap.size < g3 := by rw [hg3]; exact (hE.h3).lt
    have hl3_3 : w.heap.size + 1 < g3 := by rw [hg3]; exact (hE.h2).lt
    replace hE := hE.blk 27 #[.bool false, .slice none 0 0] (g := g3) hg3.symm;generalize w2.alloc (.cells #[.bool false, .slice none 0 0] 27) = W3 at hE ⊢;rw [← hg3];clear hg3;refine hK.out _ _ (hE.h4.j2 hE.h3.c2) (fun hHeld => ?_);clear hK K;try simp only [PL]
    refine r1 5 (fun K hK => ?_)
    have hgl4 : w.heap.size ≤ g3 := by omega
    obtain ⟨x4_0, x4_1⟩ := (hE.here.2).c2;obtain ⟨f4_0, f4_1⟩ := hE.here.2.f2;replace hE := ((((((((Env.again (bel2 hE.bel hgl4 (.bool sz) (.slice Az nz cz))).wv ((hE.h6).sep2 hE.here.2 rfl _ _ rfl)).wv ((hE.h5).sep2 hE.here.2 rfl _ _ rfl)).blkI ((hE.h4).far2 (by omega) _ _)).blkI ((hE.h3).far2 (by omega) _ _)).wv ((hE.h2).sep2 hE.here.2 rfl _ _ rfl)).wv ((hE.here.1.2).sep2 hE.here.2 rfl _ _ rfl)).blkI ((hE.here.2).s2 _ _));go_simp;clear x4_0 x4_1 f4_0 f4_1 hgl4;generalize ((W3.setCell ⟨g3, 0, none⟩ (.bool sz)).setCell ⟨g3, 1, none⟩ (.slice Az nz cz)) = W4 at hE ⊢;refine hK.out _ _ (hE.h4.j2 hE.h3.c2) (fun hHeld => ?_);clear hK K;try simp only [PL]
    refine wpAnyH_done (by kernel_rfl) ?_ _;go_wp2_with fail
    go_meet
    exact ⟨g3, sz, Az, nz, cz, rfl, by omega, (((((((Env.again hE.bel).wv (hE.h6)).wv (hE.h5)).blkI (hE.h4)).blkI (hE.h3)).wv (hE.here.1.2)).blkI (hE.here.2))⟩
   ·
    go_simp
    obtain ⟨g5, hg5⟩ : ∃ g5, g5 = w1.heap.size := ⟨_, rfl⟩
    have hl5_2 : w.heap.size < g5 := by rw [hg5]; exact (hE.h2).lt
    have hl5_3 : w.heap.size + 1 < g5 := by rw [hg5]; exact (hE.here.1.2).lt
    replace hE := hE.blk 27 #[.bool false, .slice none 0 0] (g := g5) hg5.symm;generalize w1.alloc (.cells #[.bool false, .slice none 0 0] 27) = W5 at hE ⊢;rw [← hg5];clear hg5;refine hK.out _ _ (hE.h3.j2 hE.h2.c2) (fun hHeld => ?_);clear hK K;try simp only [PL]
    refine r1 3 (fun K hK => ?_);go_simp;have hc := rsum_w (c := cp) (d := cq) hE.h5 hE.here.1.2 (Nat.le_trans la (by decide)) (Nat.le_trans lb (by decide));refine hc.mono ?_;clear hc
    rintro e w6 ⟨sz, Az, nz, cz, rfl, hz, hb⟩
    replace hE := hE.step hb;clear hb;replace hE := hE.wv hz;clear hz;go_wp2_with fail
    refine hK.out _ _ (hE.h4.j2 hE.h3.c2) (fun hHeld => ?_);clear hK K;try simp only [PL]
    refine r1 5 (fun K hK => ?_)
    have hgl7 : w.heap.size ≤ g5 := by omega
    obtain ⟨x7_0, x7_1⟩ := (hE.here.1.2).c2;obtain ⟨f7_0, f7_1⟩ := hE.here.1.2.f2;replace hE := ((((((((Env.again (bel2 hE.bel hgl7 (.bool sz) (.slice Az nz cz))).wv ((hE.h6).sep2 hE.here.1.2 rfl _ _ rfl)).wv ((hE.h5).sep2 hE.here.1.2 rfl _ _ rfl)).blkI ((hE.h4).far2 (by omega) _ _)).blkI ((hE.h3).far2 (by omega) _ _)).wv ((hE.h2).sep2 hE.here.1.2 rfl _ _ rfl)).blkI ((hE.here.1.2).s2 _ _)).wv ((hE.here.2).sep2 hE.here.1.2 rfl _ _ rfl));go_simp;clear x7_0 x7_1 f7_0 f7_1 hgl7;generalize ((w6.setCell ⟨g5, 0, none⟩ (.bool sz)).setCell ⟨g5, 1, none⟩ (.slice Az nz cz)) = W7 at hE ⊢;refine hK.out _ _ (hE.h4.j2 hE.h3.c2) (fun hHeld => ?_);clear hK K;try simp only [PL]
    refine wpAnyH_done (by kernel_rfl) ?_ _;go_wp2_with fail
    go_meet
    exact ⟨g5, sz, Az, nz, cz, rfl, by omega, (((((((Env.again hE.bel).wv (hE.h6)).wv (hE.h5)).blkI (hE.h4)).blkI (hE.h3)).wv (hE.here.2)).blkI (hE.here.1.2))⟩
  ·
   go_simp
   obtain ⟨g8, hg8⟩ : ∃ g8, g8 = wd.heap.size := ⟨_, rfl⟩
   have hl8_2 : w.heap.size < g8 := by rw [hg8]; exact (hE.here.1.2).lt
   have hl8_3 : w.heap.size + 1 < g8 := by rw [hg8]; exact (hE.here.2).lt
   replace hE := hE.blk 27 #[.bool false, .slice none 0 0] (g := g8) hg8.symm;generalize wd.alloc (.cells #[.bool false, .slice none 0 0] 27) = W8 at hE ⊢;rw [← hg8];clear hg8;refine hK.out _ _ (hE.h2.j2 hE.here.1.2.c2) (fun hHeld => ?_);clear hK K;try simp only [PL]
   refine r1 2 (fun K hK => ?_);go_simp;refine (rneg_any (c := cq) (hE.h3)).mono ?_
   rintro e w9 ⟨sm, rfl, hn, hb⟩
   replace hE := hE.step hb;clear hb;replace hE := hE.wv hn;clear hn;go_wp2_with fail
   refine hK.out _ _ (hE.h3.j2 hE.h2.c2) (fun hHeld => ?_);clear hK K;try simp only [PL]
   refine r1 3 (fun K hK => ?_);go_simp;have hc := rsum_w (c := cp) (d := cq) hE.h5 hE.here.2 (Nat.le_trans la (by decide)) (Nat.le_trans lb (by decide));refine hc.mono ?_;clear hc
   rintro e w10 ⟨sz, Az, nz, cz, rfl, hz, hb⟩
   replace hE := hE.step hb;clear hb;replace hE := hE.wv hz;clear hz;go_wp2_with fail
   refine hK.out _ _ (hE.h4.j2 hE.h3.c2) (fun hHeld => ?_);clear hK K;try simp only [PL]
   refine r1 5 (fun K hK => ?_)
   have hgl11 : w.heap.size ≤ g8 := by omega
   obtain ⟨x11_0, x11_1⟩ := (hE.h2).c2;obtain ⟨f11_0, f11_1⟩ := hE.h2.f2;replace hE := ((((((((Env.again (bel2 hE.bel hgl11 (.bool sz) (.slice Az nz cz))).wv ((hE.h6).sep2 hE.h2 rfl _ _ rfl)).wv ((hE.h5).sep2 hE.h2 rfl _ _ rfl)).blkI ((hE.h4).far2 (by omega) _ _)).blkI ((hE.h3).far2 (by omega) _ _)).blkI ((hE.h2).s2 _ _)).wv ((hE.here.1.2).sep2 hE.h2 rfl _ _ rfl)).wv ((hE.here.2).sep2 hE.h2 rfl _ _ rfl));go_simp;clear x11_0 x11_1 f11_0 f11_1 hgl11;generalize ((w10.setCell ⟨g8, 0, none⟩ (.bool sz)).setCell ⟨g8, 1, none⟩ (.slice Az nz cz)) = W11 at hE ⊢;refine hK.out _ _ (hE.h4.j2 hE.h3.c2) (fun hHeld => ?_);clear hK K;try simp only [PL]
   refine wpAnyH_done (by kernel_rfl) ?_ _;go_wp2_with fail
   go_meet
   exact ⟨g8, sz, Az, nz, cz, rfl, by omega, (((((((Env.again hE.bel).wv (hE.h6)).wv (hE.h5)).blkI (hE.h4)).blkI (hE.h3)).wv (hE.here.2)).blkI (hE.h2))⟩
 case rest =>
 clear hE;obtain ⟨G1, sz, Az, nz, cz, rfl, hG1, hE⟩ := hcut;generalize wc = wk1 at hE ⊢;have hs := (hE.here.1.2).sgn;have hl := (hE.here.1.2).len
 by_cases h1 : a < b
 ·
  have hcmp : cmpZ a b = -1 := by unfold cmpZ; rw [if_pos h1]
  rw [decide_eq_true (show a + -b < 0 by omega)] at hs;subst hs;clear hl;obtain ⟨k12, k13⟩ := (hE.here.2).c2;go_wp2_with fail
  go_ret
  exact ⟨(by first | rfl | (rw [hcmp]; rfl) | rw [hcmp]), hE.bel⟩
 ·
  by_cases h2 : b < a
  ·
   have hcmp : cmpZ a b = 1 := by unfold cmpZ; rw [if_neg h1, if_pos h2]
   rw [decide_eq_false (show ¬ a + -b < 0 by omega)] at hs;subst hs
   have hz0 : 0 < nz := by rw [hl]; exact (ln_pos b16_two).2 (by omega)
   have u1 : decide (0 < nz) = true := decide_eq_true hz0;have u2 : decide (0 < (nz : Int)) = true := decide_eq_true (by omega);clear hl;obtain ⟨k14, k15⟩ := (hE.here.2).c2;go_wp2_with fail
   go_ret
   exact ⟨(by first | rfl | (rw [hcmp]; rfl) | rw [hcmp]), hE.bel⟩
  ·
   have hcmp : cmpZ a b = 0 := by unfold cmpZ; rw [if_neg h1, if_neg h2]
   have h0 : (a + -b).natAbs = 0 := by omega
   rw [decide_eq_false (show ¬ a + -b < 0 by omega)] at hs;subst hs
   have hz0 : nz = 0 := by rw [hl, h0]; exact ln_zero
   subst hz0;clear hl;obtain ⟨k16, k17⟩ := (hE.here.2).c2;go_wp2_with fail
   go_ret
   exact ⟨(by first | rfl | (rw [hcmp]; rfl) | rw [hcmp]), hE.bel⟩
theorem rorder_v {a b : Rat} {sa ta sb tb : Bool} {Aa Ba Ab Bb : Option Addr} {na ca ma da nb cb mb db : Nat} {w : World} (ha : FV w a sa Aa na ta Ba ma) (hb : FV w b sb Ab nb tb Bb mb) (la : fl a ≤ 100000) (lb : fl b ≤ 100000) :
  Calls Tryz.prog 106 #[.agg #[.bool sa, .slice Aa na ca, .bool ta, .slice Ba ma da], .agg #[.bool sb, .slice Ab nb cb, .bool tb, .slice Bb mb db]] w (fun e w' => e = .returned (.int .i64 (cmpQ a b)) ∧ Below w.heap.size w w') := by
 have hE := ((((Env.start w).fv ha).fv hb).blk 29 #[.bool sa, .slice Aa na ca, .bool ta, .slice Ba ma da] (g := w.heap.size) rfl).blk 29 #[.bool sb, .slice Ab nb cb, .bool tb, .slice Bb mb db] (g := w.heap.size + 1) (by simp)
 obtain ⟨W0, hW0⟩ : ∃ W0, W0 = ((w.alloc (.cells #[.bool sa, .slice Aa na ca, .bool ta, .slice Ba ma da] 29)).alloc (.cells #[.bool sb, .slice Ab nb cb, .bool tb, .slice Bb mb db] 29)) := ⟨_, rfl⟩
 rw [← hW0] at hE;have HW0 := Lib.hid hW0;clear hW0
 go_enter Tryz.func106, Tryz.ntmps106
 go_upto_region 1 with (fail)
 rw [← HW0.out];obtain ⟨ha1, ha2⟩ := (hE.h3).ln la;obtain ⟨hb1, hb2⟩ := (hE.h2).ln lb;obtain ⟨qa1, qa2⟩ := fv_lens (hE.h3) la;obtain ⟨qb1, qb2⟩ := fv_lens (hE.h2) lb;replace hE := hE.drew;refine wp_region_held_drew (S := fun w' => w'.cell? ⟨w.heap.size, 0, none⟩ = some (.bool sa) ∧ w'.cell? ⟨w.heap.size, 1, none⟩ = some (.slice Aa na ca) ∧ w'.cell? ⟨w.heap.size, 2, none⟩ = some (.bool ta) ∧ w'.cell? ⟨w.heap.size, 3, none⟩ = some (.slice Ba ma da) ∧ w'.cell? ⟨w.heap.size + 1, 0, none⟩ = some (.bool sb) ∧ w'.cell? ⟨w.heap.size + 1, 1, none⟩ = some (.slice Ab nb cb) ∧ w'.cell? ⟨w.heap.size + 1, 2, none⟩ = some (.bool tb) ∧ w'.cell? ⟨w.heap.size + 1, 3, none⟩ = some (.slice Bb mb db)) (by kernel_rfl) (hE.here.1.2.j4 hE.here.2.c4) (fun hHeld => ?_);refine tk 0 ?_;refine tk 1 ?_;refine tk 2 ?_;refine tk 3 ?_;refine tk 5 ?_;refine tk 6 ?_;refine tk 7 ?_;refine tk 8 ?_;refine r1 4 (fun K hK => ?_);go_simp;have hc := rproduct_w (c := ca) (d := db) (hE.h3).1 (hE.h2).2 (Nat.le_trans ha1 (by decide)) (Nat.le_trans hb2 (by decide));refine hc.mono ?_;clear hc
 rintro e w1 ⟨sx, Ax, nx, cx, rfl, hx, hb⟩
 replace hE := hE.step hb;clear hb;replace hE := hE.wv hx;clear hx
 have lx : nx ≤ 200000 := by rw [(hE.here.2).len]; exact ln_mulZ (m := 100000) (n := 100000) qa1 qb2
 go_wp2_with fail
 refine hK.out _ _ (hE.h2.j4 hE.here.1.2.c4) (fun hHeld => ?_);clear hK K;try simp only [PL]
 refine r1 9 (fun K hK => ?_);go_simp;have hc := rproduct_w (c := cb) (d := da) (hE.h3).1 (hE.h4).2 (Nat.le_trans hb1 (by decide)) (Nat.le_trans ha2 (by decide));refine hc.mono ?_;clear hc
 rintro e w2 ⟨sy, Ay, ny, cy, rfl, hy, hb⟩
 replace hE := hE.step hb;clear hb;replace hE := hE.wv hy;clear hy
 have ly : ny ≤ 200000 := by rw [(hE.here.2).len]; exact ln_mulZ (m := 100000) (n := 100000) qb1 qa2
 go_wp2_with fail
 refine hK.out _ _ (hE.h3.j4 hE.h2.c4) (fun hHeld => ?_);clear hK K;try simp only [PL]
 refine r1 10 (fun K hK => ?_);go_simp;refine hE.br (rorder1_v (cp := cx) (cq := cy) hE.here.1.2 hE.here.2 (Nat.le_trans lx (by decide)) (Nat.le_trans ly (by decide))) ?_;clear hE;intro w3 hE;go_wp2_with fail
 refine hK.out _ _ (hE.h3.j4 hE.h2.c4) (fun hHeld => ?_);clear hK K;try simp only [PL]
 refine tk 11 ?_;refine wpAnyH_done (by kernel_rfl) ?_ _;go_wp2_with fail
 go_ret
 exact ⟨rfl, hE.bel⟩
end
section
open Go.RowKit

theorem rover_v {a b : Rat} {sa ta sb tb : Bool} {Aa Ba Ab Bb : Option Addr} {na ca ma da nb cb mb db : Nat} {w : World} (ha : FV w a sa Aa na ta Ba ma) (hb : FV w b sb Ab nb tb Bb mb) (la : fl a ≤ 100000) (lb : fl b ≤ 100000) (hb0 : b.num ≠ 0) :
  Calls Tryz.prog 130 #[.agg #[.bool sa, .slice Aa na ca, .bool ta, .slice Ba ma da], .agg #[.bool sb, .slice Ab nb cb, .bool tb, .slice Bb mb db]] w (FR (a / b) w) := by
 have hE := ((((Env.start w).fv ha).fv hb).blk 29 #[.bool sa, .slice Aa na ca, .bool ta, .slice Ba ma da] (g := w.heap.size) rfl).blk 29 #[.bool sb, .slice Ab nb cb, .bool tb, .slice Bb mb db] (g := w.heap.size + 1) (by simp);have hE := hE.blk 29 #[.bool false, .slice none 0 0, .bool false, .slice none 0 0] (g := w.heap.size + 1 + 1) (by simp)
 obtain ⟨W0, hW0⟩ : ∃ W0, W0 = (((w.alloc (.cells #[.bool sa, .slice Aa na ca, .bool ta, .slice Ba ma da] 29)).alloc (.cells #[.bool sb, .slice Ab nb cb, .bool tb, .slice Bb mb db] 29)).alloc (.cells #[.bool false, .slice none 0 0, .bool false, .slice none 0 0] 29)) := ⟨_, rfl⟩
 rw [← hW0] at hE;have HW0 := Lib.hid hW0;clear hW0
 go_enter Tryz.func130, Tryz.ntmps130
 go_upto_region 1 with (fail)
 rw [← HW0.out];obtain ⟨ha1, ha2⟩ := (hE.h4).ln la;obtain ⟨hb1, hb2⟩ := (hE.h3).ln lb;obtain ⟨qa1, qa2⟩ := fv_lens (hE.h4) la;obtain ⟨qb1, qb2⟩ := fv_lens (hE.h3) lb;replace hE := hE.drew;refine wp_region_held_drew (S := fun w' => w'.cell? ⟨w.heap.size, 0, none⟩ = some (.bool sa) ∧ w'.cell? ⟨w.heap.size, 1, none⟩ = some (.slice Aa na ca) ∧ w'.cell? ⟨w.heap.size, 2, none⟩ = some (.bool ta) ∧ w'.cell? ⟨w.heap.size, 3, none⟩ = some (.slice Ba ma da) ∧ w'.cell? ⟨w.heap.size + 1, 0, none⟩ = some (.bool sb) ∧ w'.cell? ⟨w.heap.size + 1, 1, none⟩ = some (.slice Ab nb cb) ∧ w'.cell? ⟨w.heap.size + 1, 2, none⟩ = some (.bool tb) ∧ w'.cell? ⟨w.heap.size + 1, 3, none⟩ = some (.slice Bb mb db)) (by kernel_rfl) (hE.h2.j4 hE.here.1.2.c4) (fun hHeld => ?_);refine tk 0 ?_;refine tk 1 ?_;refine tk 2 ?_;refine tk 3 ?_;refine tk 5 ?_;refine tk 6 ?_;refine tk 7 ?_;refine tk 8 ?_;refine r1 4 (fun K hK => ?_);go_simp;have hc := rproduct_w (c := ca) (d := db) (hE.h4).1 (hE.h3).2 (Nat.le_trans ha1 (by decide)) (Nat.le_trans hb2 (by decide));refine hc.mono ?_;clear hc
 rintro e w1 ⟨sx, Ax, nx, cx, rfl, hx, hb⟩
 replace hE := hE.step hb;clear hb;replace hE := hE.wv hx;clear hx
 have lx : nx ≤ 200000 := by rw [(hE.here.2).len]; exact ln_mulZ (m := 100000) (n := 100000) qa1 qb2
 go_wp2_with fail
 refine hK.out _ _ (hE.h3.j4 hE.h2.c4) (fun hHeld => ?_);clear hK K;try simp only [PL]
 refine r1 9 (fun K hK => ?_);go_simp;have hc := rproduct_w (c := da) (d := cb) (hE.h5).2 (hE.h4).1 (Nat.le_trans ha2 (by decide)) (Nat.le_trans hb1 (by decide));refine hc.mono ?_;clear hc
 rintro e w2 ⟨su, Au, nu, cu, rfl, hu, hb⟩
 replace hE := hE.step hb;clear hb;replace hE := hE.wv hu;clear hu
 have lu : nu ≤ 200000 := by rw [(hE.here.2).len]; exact ln_mulZ (m := 100000) (n := 100000) qa2 qb1
 go_wp2_with fail
 refine hK.out _ _ (hE.h4.j4 hE.h3.c4) (fun hHeld => ?_);clear hK K;try simp only [PL]
 refine r1 10 (fun K hK => ?_);go_simp;have hc := rlowest_v (ca := cx) (cb := cu) hE.here.1.2 hE.here.2 (Nat.le_trans lx (by decide)) (Nat.le_trans lu (by decide)) (Int.mul_ne_zero (den_nz a) hb0);rw [div_low a b] at hc;refine hE.fr hc ?_;clear hE hc;intro sr Ar nr cr tr Br mr dr w3 hE;go_wp2_with fail
 refine hK.out _ _ (hE.h5.j4 hE.h4.c4) (fun hHeld => ?_);clear hK K;try simp only [PL]
 refine r1 11 (fun K hK => ?_)
 have hRl : w.heap.size ≤ w.heap.size + 1 + 1 := by omega
 obtain ⟨WW, hWW, hB, hV, hBel⟩ := ret_frac hE hE.h3 hRl hE.here.2 cr dr;obtain ⟨x0, x1, x2, x3⟩ := (hE.h3).c4;obtain ⟨fz0, fz1, fz2, fz3⟩ := hE.h3.f4;have HWW := Lib.hid hWW;clear hWW;have q4 := (hE.h5).far4 (R := w.heap.size + 1 + 1) (by omega) (.bool sr) (.slice Ar nr cr) (.bool tr) (.slice Br mr dr);rw [← HWW.out] at q4;have q5 := (hE.h4).far4 (R := w.heap.size + 1 + 1) (by omega) (.bool sr) (.slice Ar nr cr) (.bool tr) (.slice Br mr dr);rw [← HWW.out] at q5;go_simp;rw [← HWW.out];refine hK.out _ _ (q4.j4 q5.c4) (fun hHeld => ?_);clear hK K;try simp only [PL]
 refine wpAnyH_done (by kernel_rfl) ?_ _;go_wp2_with fail
 obtain ⟨y0, y1, y2, y3⟩ := hB.c4;refine bodyPost_ret (v := .agg #[.bool sr, .slice Ar nr cr, .bool tr, .slice Br mr dr]) (by simp [results, Tryz.results130, go_sem, y0, y1, y2, y3]) rfl ?_;exact ⟨sr, Ar, nr, cr, tr, Br, mr, dr, rfl, hV, hBel⟩
end
section
open Go.RowKit

theorem rfloor_nn {a b : Int} {Aa Ab : Option Addr} {na ca nb cb : Nat} {w : World} (ha : WV w a false Aa na) (hb : WV w b false Ab nb) (la : na ≤ 900000) (lb : nb ≤ 900000) (hb0 : b ≠ 0) :
  Calls Tryz.prog 103 #[.agg #[.bool false, .slice Aa na ca], .agg #[.bool false, .slice Ab nb cb]] w (WR2 (a.fdiv b) (a.fmod b) w) := by
 have sg1 := ha.sgn;have sg2 := hb.sgn;have S1 := Lib.hid sg1;have S2 := Lib.hid sg2;clear sg1 sg2;have hE := ((((Env.start w).wv ha).wv hb).blk 27 #[.bool false, .slice Aa na ca] (g := w.heap.size) rfl).blk 27 #[.bool false, .slice Ab nb cb] (g := w.heap.size + 1) (by simp);have hE := hE.blk 27 #[.bool false, .slice none 0 0] (g := w.heap.size + 1 + 1) (by simp);have hE := hE.blk 27 #[.bool false, .slice none 0 0] (g := w.heap.size + 1 + 1 + 1) (by simp)
 obtain ⟨W0, hW0⟩ : ∃ W0, W0 = ((((w.alloc (.cells #[.bool false, .slice Aa na ca] 27)).alloc (.cells #[.bool false, .slice Ab nb cb] 27)).alloc (.cells #[.bool false, .slice none 0 0] 27)).alloc (.cells #[.bool false, .slice none 0 0] 27)) := ⟨_, rfl⟩
 rw [← hW0] at hE;have HW0 := Lib.hid hW0;clear hW0
 go_enter Tryz.func103, Tryz.ntmps103
 go_upto_region 1 with (fail)
 rw [← HW0.out];obtain ⟨k1, k2⟩ := (hE.h3).c2;obtain ⟨k3, k4⟩ := (hE.h2).c2;go_wp2_with fail
 have hc := rdivided_v (c := ca) (d := cb) (hE.h5) (hE.h4) la lb hb0;refine hc.mono ?_;clear hc;clear k1 k2 k3 k4
 rintro e v1 ⟨Aq, nq, cq, Ar, nr, cr, rfl, hq, hr, hb⟩
 replace hE := hE.step hb;clear hb;replace hE := (hE.wv hq).wv hr;clear hq hr;have t1 : (false != false) = false := rfl;have e1 := (floor_same a hb0 (fun h => h.1 (by rw [← S1.out, ← S2.out]))).1;have e2 := (floor_same a hb0 (fun h => h.1 (by rw [← S1.out, ← S2.out]))).2;rw [← S1.out, ← S2.out, t1] at e1;rw [← S2.out] at e2;have E1 := Lib.hid e1;have E2 := Lib.hid e2;clear e1 e2;obtain ⟨k5, k6⟩ := (hE.h5).c2;obtain ⟨k7, k8⟩ := (hE.h4).c2
 go_upto_region 5 with (fail)
 clear k5 k6 k7 k8;replace hE := hE.drew;refine wp_region_held_drew (S := fun w' => w'.cell? ⟨w.heap.size, 0, none⟩ = some (.bool false) ∧ w'.cell? ⟨w.heap.size, 1, none⟩ = some (.slice Aa na ca) ∧ w'.cell? ⟨w.heap.size + 1, 0, none⟩ = some (.bool false) ∧ w'.cell? ⟨w.heap.size + 1, 1, none⟩ = some (.slice Ab nb cb)) (by kernel_rfl) (hE.h5.j2 hE.h4.c2) (fun hHeld => ?_);refine tk 0 ?_;refine tk 1 ?_;refine tk 2 ?_;refine tk 3 ?_;refine tk 4 ?_;refine tk 5 ?_;refine tk 7 ?_;refine tk 8 ?_;refine tk 9 ?_;refine r1 6 (fun K hK => ?_);go_simp;have hc := make_v (c := cq) false (hE.here.1.2);rw [Int.natAbs_natCast, E1.out] at hc;refine hc.mono ?_;clear hc
 rintro e w9 ⟨sx, Ax, nx, cx, rfl, hx, hb⟩
 replace hE := hE.step hb;clear hb;replace hE := hE.wv hx;clear hx;go_wp2_with fail
 refine hK.out _ _ (hE.h6.j2 hE.h5.c2) (fun hHeld => ?_);clear hK K;try simp only [PL]
 refine r1 10 (fun K hK => ?_);go_simp;have hc := make_v (c := cr) false (hE.here.1.2);rw [Int.natAbs_natCast, E2.out] at hc;refine hc.mono ?_;clear hc
 rintro e w10 ⟨sy, Ay, ny, cy, rfl, hy, hb⟩
 replace hE := hE.step hb;clear hb;replace hE := hE.wv hy;clear hy;go_wp2_with fail
 refine hK.out _ _ (hE.h7.j2 hE.h6.c2) (fun hHeld => ?_);clear hK K;try simp only [PL]
 refine r1 11 (fun K hK => ?_)
 have hgl11 : w.heap.size ≤ w.heap.size + 1 + 1 := by omega
 obtain ⟨x11_0, x11_1⟩ := (hE.h5).c2;obtain ⟨f11_0, f11_1⟩ := hE.h5.f2;replace hE := (((((((((((Env.again (bel2 hE.bel hgl11 (.bool sx) (.slice Ax nx cx))).wv ((hE.h9).sep2 hE.h5 rfl _ _ rfl)).wv ((hE.h8).sep2 hE.h5 rfl _ _ rfl)).blkI ((hE.h7).far2 (R := w.heap.size + 1 + 1) (by omega) _ _)).blkI ((hE.h6).far2 (R := w.heap.size + 1 + 1) (by omega) _ _)).blkI ((hE.h5).s2 _ _)).blkI ((hE.h4).far2 (R := w.heap.size + 1 + 1) (by omega) _ _)).wv ((hE.h3).sep2 hE.h5 rfl _ _ rfl)).wv ((hE.h2).sep2 hE.h5 rfl _ _ rfl)).wv ((hE.here.1.2).sep2 hE.h5 rfl _ _ rfl)).wv ((hE.here.2).sep2 hE.h5 rfl _ _ rfl));go_simp;clear x11_0 x11_1 f11_0 f11_1 hgl11;generalize ((w10.setCell ⟨w.heap.size + 1 + 1, 0, none⟩ (.bool sx)).setCell ⟨w.heap.size + 1 + 1, 1, none⟩ (.slice Ax nx cx)) = W11 at hE ⊢;refine hK.out _ _ (hE.h7.j2 hE.h6.c2) (fun hHeld => ?_);clear hK K;try simp only [PL]
 refine r1 12 (fun K hK => ?_)
 have hgl12 : w.heap.size ≤ w.heap.size + 1 + 1 + 1 := by omega
 obtain ⟨x12_0, x12_1⟩ := (hE.h4).c2;obtain ⟨f12_0, f12_1⟩ := hE.h4.f2;replace hE := (((((((((((Env.again (bel2 hE.bel hgl12 (.bool sy) (.slice Ay ny cy))).wv ((hE.h9).sep2 hE.h4 rfl _ _ rfl)).wv ((hE.h8).sep2 hE.h4 rfl _ _ rfl)).blkI ((hE.h7).far2 (R := w.heap.size + 1 + 1 + 1) (by omega) _ _)).blkI ((hE.h6).far2 (R := w.heap.size + 1 + 1 + 1) (by omega) _ _)).blkI ((hE.h5).far2 (R := w.heap.size + 1 + 1 + 1) (by omega) _ _)).blkI ((hE.h4).s2 _ _)).wv ((hE.h3).sep2 hE.h4 rfl _ _ rfl)).wv ((hE.h2).sep2 hE.h4 rfl _ _ rfl)).wv ((hE.here.1.2).sep2 hE.h4 rfl _ _ rfl)).wv ((hE.here.2).sep2 hE.h4 rfl _ _ rfl));go_simp;clear x12_0 x12_1 f12_0 f12_1 hgl12;generalize ((W11.setCell ⟨w.heap.size + 1 + 1 + 1, 0, none⟩ (.bool sy)).setCell ⟨w.heap.size + 1 + 1 + 1, 1, none⟩ (.slice Ay ny cy)) = W12 at hE ⊢;refine hK.out _ _ (hE.h7.j2 hE.h6.c2) (fun hHeld => ?_);clear hK K;try simp only [PL]
 refine wpAnyH_done (by kernel_rfl) ?_ _;obtain ⟨y0, y1⟩ := (hE.h5).c2;obtain ⟨y2, y3⟩ := (hE.h4).c2;go_wp2_with fail
 refine bodyPost_ret (v := .tuple #[.agg #[.bool sx, .slice Ax nx cx], .agg #[.bool sy, .slice Ay ny cy]]) (by simp [results, Tryz.results103, go_sem, y0, y1, y2, y3]) rfl ?_;exact ⟨sx, Ax, nx, cx, sy, Ay, ny, cy, rfl, hE.here.1.2, hE.here.2, hE.bel⟩
theorem rint_v {z : Int} {s : Bool} {A : Option Addr} {n c : Nat} {w : World} (ha : WV w z s A n) (h0 : 0 ≤ z) (hz : z ≤ 281474976710655) :
  Calls Tryz.prog 104 #[.agg #[.bool s, .slice A n c]] w (fun e w' => e = .returned (.tuple #[.int .i64 z, .int .i64 0]) ∧ Below w.heap.size w w') := by
 obtain ⟨h1, h2, h3⟩ := id ha
 obtain rfl : s = false := by rw [h1]; exact decide_eq_false (by omega)
 have hx : z.natAbs < 281474976710656 := by omega
 obtain ⟨x, hxe⟩ : ∃ x, x = z.natAbs := ⟨_, rfl⟩
 rw [← hxe] at h2 h3 hx
 obtain rfl : z = (x : Int) := by omega
 clear h1 h0 hz hxe
 have hn3 : n ≤ 3 := by rw [h2]; exact (ln_le b16_two).2 (show x < 281474976710656 from hx)
 have hpow : x / b16 ^ n = 0 := Nat.div_eq_of_lt ((ln_le b16_two).1 (Nat.le_of_eq h2.symm))
 have hst : ∀ j, x / b16 ^ j = 65536 * (x / b16 ^ (j + 1)) + dgt b16 x j ∧ x / b16 ^ j ≤ x ∧ dgt b16 x j < 65536 := fun j => by
  have e1 : x / b16 ^ (j + 1) = x / b16 ^ j / b16 := by rw [Nat.pow_succ, Nat.div_div_eq_div_mul]
  have e2 := Nat.div_add_mod (x / b16 ^ j) b16;refine ⟨?_, Nat.div_le_self _ _, dgt_lt (by decide) x j⟩;rw [e1];exact e2.symm
 have Hhpow := Lib.hid hpow;clear hpow;have Hhst := Lib.hid hst;clear hst;have Hh2 := Lib.hid h2;clear h2;have Hh3 := Lib.hid h3;clear h3;have hE := ((Env.start w).wv ha).blk 27 #[.bool false, .slice A n c] (g := w.heap.size) rfl
 obtain ⟨W0, hW0⟩ : ∃ W0, W0 = (w.alloc (.cells #[.bool false, .slice A n c] 27)) := ⟨_, rfl⟩
 rw [← hW0] at hE;have HW0 := Lib.hid hW0;clear hW0
 go_enter Tryz.func104, Tryz.ntmps104
 go_upto_region 1 with (fail)
 rw [← HW0.out];obtain ⟨k1, k2⟩ := (hE.here.2).c2;go_wp2_with fail
 refine hE.br (rvalid_v (c := c) (hE.here.1.2) (by omega)) ?_;clear hE k1 k2;intro w3 hE;have t1 : decide ((4 : Int) < (n : Int)) = false := decide_eq_false (by omega);have t2 : decide (4 < n) = false := decide_eq_false (by omega);obtain ⟨k4, k5⟩ := (hE.here.2).c2;go_wp2_with fail
 clear t1 t2;clear k4 k5
 go_loopw [4, 5] (fun acc i wr => ∃ j : Nat, j ≤ n ∧ acc = .int .u64 ((x / b16 ^ j : Nat) : Int) ∧ i = .int .i64 ((j : Int) - 1) ∧ Env w (fun V => ((True ∧ WV V (x : Int) false A n) ∧ Blk 27 (w.heap.size) #[.bool false, .slice A n c] V)) wr) (fun _ i _ => (intOf i + 1).toNat)
 case atStart => exact ⟨n, Nat.le_refl n, by rw [Hhpow.out]; rfl, rfl, (((Env.again hE.bel).wv (hE.here.1.2)).blkI (hE.here.2))⟩
 case round =>
  clear hE;obtain ⟨j, hj, rfl, rfl, hE⟩ := hrel
  cases j with
  | zero =>
   rw [show ((0 : Nat) : Int) - 1 = -1 by rfl, Nat.pow_zero, Nat.div_one];have t1 : decide ((x : Int) < 9223372036854775808) = true := decide_eq_true (by omega);have t2 : decide (x < 9223372036854775808) = true := decide_eq_true (by omega)
   have t3 : IntKind.i64.wrap (x : Int) = (x : Int) := by rw [IntKind.wrap_i64]; omega
   obtain ⟨k6, k7⟩ := (hE.here.2).c2;go_wp2_with fail
   refine bodyPost_ret (v := .tuple #[.int .i64 (x : Int), .int .i64 0]) (by simp [results, Tryz.results104, go_sem]) rfl ?_;exact ⟨rfl, hE.bel⟩
  | succ j =>
   obtain ⟨hs1, hs2, hs3⟩ := Hhst.out j;obtain ⟨b, o, rfl, hb, hcc⟩ := (Hh3.out : Rd w.heap.size .u16 w A (ln b16 x) (dgt b16 x)) (by have := Hh2.out; omega);have kd := (hE.bel.cell (p := ⟨b, o + j, none⟩) hb).trans (hcc j (by have := Hh2.out; omega))
   obtain ⟨y, hy⟩ : ∃ y, y = x / b16 ^ (j + 1) := ⟨_, rfl⟩
   obtain ⟨y2, hy2⟩ : ∃ y, y = x / b16 ^ j := ⟨_, rfl⟩
   obtain ⟨d, hd⟩ : ∃ d, d = dgt b16 x j := ⟨_, rfl⟩
   rw [← hy] at hs1 ⊢;rw [← hy2] at hs1 hs2;rw [← hd] at hs1 hs3 kd;rw [show ((j + 1 : Nat) : Int) - 1 = (j : Int) by omega]
   have o1 : IntKind.u64.wrap ((y : Int) * 65536) = ((y * 65536 : Nat) : Int) := by rw [IntKind.wrap_u64]; omega
   have o2 : IntKind.u64.wrap (d : Int) = (d : Int) := by rw [IntKind.wrap_u64]; omega
   have o3 : IntKind.u64.wrap (((y * 65536 : Nat) : Int) + (d : Int)) = (y2 : Int) := by rw [IntKind.wrap_u64]; omega
   have o4 : IntKind.u64.wrap ((y : Int) * 65536 + (d : Int)) = (y2 : Int) := by rw [IntKind.wrap_u64]; omega
   have t1 : (j : Int) < (n : Int) := by omega
   have t4 : j < n := by omega
   have Hhy := Lib.hid hy;clear hy;have Hhy2 := Lib.hid hy2;clear hy2;have Hhd := Lib.hid hd;clear hd;have Hhs1 := Lib.hid hs1;clear hs1;have Hhs2 := Lib.hid hs2;clear hs2;have Hhs3 := Lib.hid hs3;clear hs3;clear hcc hb;obtain ⟨k8, k9⟩ := (hE.here.2).c2;go_wp2_with fail
   go_roundw
   case rel => exact ⟨j, by omega, congrArg (fun z : Nat => Value.int .u64 (z : Int)) Hhy2.out, by go_num, (((Env.again hE.bel).wv (hE.here.1.2)).blkI (hE.here.2))⟩
   case measure => simp [intOf] <;> omega
end
end Go.Proofs.YtjgihmmeimfheaaGreat
