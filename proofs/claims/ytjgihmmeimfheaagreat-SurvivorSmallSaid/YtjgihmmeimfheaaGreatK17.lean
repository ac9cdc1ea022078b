/-
  Several texts in one: The walk of frac.Round.
-/
import Derived.Test.YtjgihmmeimfheaaGreatK3
import Derived.Test.YtjgihmmeimfheaaGreatK8
import Derived.Test.YtjgihmmeimfheaaGreatK13
set_option linter.unusedSimpArgs false
set_option maxRecDepth 100000
set_option maxHeartbeats 16000000
namespace Go.Proofs.YtjgihmmeimfheaaGreat
open Go.RowKit
attribute [local go_sem] run_store_fn
theorem fround_v {a b : Rat} {sa sb ta tb : Bool} {Aa Ba Ab Bb : Option Addr} {na ca ma da nb cb mb db : Nat} {w : World} (ha : FV w a sa Aa na ta Ba ma) (hb : FV w b sb Ab nb tb Bb mb) (la : fl a ≤ 256) (lb : fl b ≤ 256) (hb0 : 0 < b.num) (m : Nat) (hm1 : 1 ≤ m) (hm2 : m ≤ 6) (lr : fl (Rat.divInt (roundZ m a b * b.num) (b.den : Int)) ≤ 256) :
  Calls Tryz.prog 43 #[.agg #[.bool sa, .slice Aa na ca, .bool ta, .slice Ba ma da], .agg #[.bool sb, .slice Ab nb cb, .bool tb, .slice Bb mb db], .int .u8 (m : Int)] w (FOK (Rat.divInt (roundZ m a b * b.num) (b.den : Int)) w) := by
 have t1 : decide ((m : Int) < 1) = false := decide_eq_false (by omega);have t2 : decide (6 < (m : Int)) = false := decide_eq_false (by omega)
 have t3 : ¬ (m : Int) < 1 := by omega
 have t4 : ¬ (6 : Int) < (m : Int) := by omega
 have hsb : sb = false := by rw [hb.1.sgn]; exact decide_eq_false (by omega)
 subst hsb;have hsa : sa = decide (a.num < 0) := ha.1.sgn;have HSA := Lib.hid hsa;clear hsa;obtain ⟨ha1, ha2⟩ := ha.ln la;obtain ⟨hb1, hb2⟩ := hb.ln lb;obtain ⟨qa1, qa2⟩ := fv_lens ha la;obtain ⟨qb1, qb2⟩ := fv_lens hb lb;have hbot : 0 < botQ a b := Int.mul_pos (by have := a.den_pos; omega) hb0;have lbot : ln b16 (botQ a b).natAbs ≤ 512 := ln_mulZ (m := 256) (n := 256) qa2 qb1;have ltop : ln b16 (topQ a b).natAbs ≤ 512 := ln_mulZ (m := 256) (n := 256) qa1 qb2;have lkk : ln b16 (kQ a b).natAbs ≤ 513 := fdiv_len2 ltop (by decide);have lrr : ln b16 (rQ a b).natAbs ≤ 512 := fmod_len lbot hbot;have HL := Lib.hid (And.intro lbot (And.intro ltop (And.intro lkk lrr)));clear lbot ltop lkk lrr;have hE := ((((Env.start w).fv ha).fv hb).blk 29 #[.bool sa, .slice Aa na ca, .bool ta, .slice Ba ma da] (g := w.heap.size) rfl).blk 29 #[.bool false, .slice Ab nb cb, .bool tb, .slice Bb mb db] (g := w.heap.size + 1) (by simp);have hE := hE.blk 29 #[.bool false, .slice none 0 0, .bool false, .slice none 0 0] (g := w.heap.size + 1 + 1) (by simp)
 obtain ⟨W0, hW0⟩ : ∃ W0, W0 = (((w.alloc (.cells #[.bool sa, .slice Aa na ca, .bool ta, .slice Ba ma da] 29)).alloc (.cells #[.bool false, .slice Ab nb cb, .bool tb, .slice Bb mb db] 29)).alloc (.cells #[.bool false, .slice none 0 0, .bool false, .slice none 0 0] 29)) := ⟨_, rfl⟩
 rw [← hW0] at hE;have HW0 := Lib.hid hW0;clear hW0
 go_enter Tryz.func43, Tryz.ntmps43
 go_upto_region 1 with (fail)
 rw [← HW0.out];obtain ⟨k1, k2, k3, k4⟩ := (hE.h2).c4;obtain ⟨k5, k6, k7, k8⟩ := (hE.here.1.2).c4;go_wp2_with fail
 have hc := fallValid_v (c := ca) (d := da) (c2 := cb) (d2 := db) hE.h4 hE.h3 la lb;refine hc.mono ?_;clear hc;clear k1 k2 k3 k4 k5 k6 k7 k8
 rintro e w9 ⟨rfl, hb⟩
 replace hE := hE.step hb;clear hb;obtain ⟨k10, k11, k12, k13⟩ := (hE.h2).c4;obtain ⟨k14, k15, k16, k17⟩ := (hE.here.1.2).c4;go_wp2_with fail
 refine hE.br (ftzero_v (c := cb) (d := db) hE.h3 false (decide_eq_false (by omega))) ?_;clear hE k10 k11 k12 k13 k14 k15 k16 k17;intro w18 hE;obtain ⟨k19, k20, k21, k22⟩ := (hE.h2).c4;obtain ⟨k23, k24, k25, k26⟩ := (hE.here.1.2).c4;go_wp2_with fail
 refine hE.br (ftneg_v (c := cb) (d := db) hE.h3) ?_;clear hE k19 k20 k21 k22 k23 k24 k25 k26;intro w27 hE;obtain ⟨k28, k29, k30, k31⟩ := (hE.h2).c4;obtain ⟨k32, k33, k34, k35⟩ := (hE.here.1.2).c4;go_wp2_with fail
 have hc : Calls _ _ _ _ (WR (botQ a b) _) := ftimes_v (ca := da) (cb := cb) (hE.h4).2 (hE.h3).1 (by omega) (by omega) (Nat.le_trans HL.out.1 (by decide));refine hc.mono ?_;clear hc;clear k28 k29 k30 k31 k32 k33 k34 k35
 rintro e w36 ⟨sy, Ay, ny, cy, rfl, hy, hb⟩
 replace hE := hE.step hb;clear hb;replace hE := hE.wv hy;clear hy
 go_upto_region 6 with (fail)
 obtain ⟨g37, hg37⟩ : ∃ g37, g37 = w36.heap.size := ⟨_, rfl⟩
 have hl37_2 : w.heap.size < g37 := by rw [hg37]; exact (hE.h3).lt
 have hl37_3 : w.heap.size + 1 < g37 := by rw [hg37]; exact (hE.h2).lt
 have hl37_4 : w.heap.size + 1 + 1 < g37 := by rw [hg37]; exact (hE.here.1.2).lt
 replace hE := hE.blk 27 #[.bool sy, .slice Ay ny cy] (g := g37) hg37.symm;generalize w36.alloc (.cells #[.bool sy, .slice Ay ny cy] 27) = W37 at hE ⊢;rw [← hg37];clear hg37
 go_cut [9, 10] from 40 to 49 (fun p q wx => ∃ Gk Gr sk Ak nk ck sr Ar nr cr, p = .pointer (some ⟨Gk, 0, none⟩) ∧ q = .pointer (some ⟨Gr, 0, none⟩) ∧ (g37 < Gk ∧ g37 < Gr ∧ Gk ≠ Gr) ∧ Env w (fun V => (((((((((((True ∧ FV V a sa Aa na ta Ba ma) ∧ FV V b false Ab nb tb Bb mb) ∧ Blk 29 (w.heap.size) #[.bool sa, .slice Aa na ca, .bool ta, .slice Ba ma da] V) ∧ Blk 29 (w.heap.size + 1) #[.bool false, .slice Ab nb cb, .bool tb, .slice Bb mb db] V) ∧ Blk 29 (w.heap.size + 1 + 1) #[.bool false, .slice none 0 0, .bool false, .slice none 0 0] V) ∧ WV V (botQ a b) sy Ay ny) ∧ Blk 27 (g37) #[.bool sy, .slice Ay ny cy] V) ∧ WV V (kQ a b) sk Ak nk) ∧ WV V (rQ a b) sr Ar nr) ∧ Blk 27 (Gk) #[.bool sk, .slice Ak nk ck] V) ∧ Blk 27 (Gr) #[.bool sr, .slice Ar nr cr] V)) wx)
 case first =>
  replace hE := hE.drew;refine wp_region_held_drew (S := fun w' => w'.cell? ⟨w.heap.size, 0, none⟩ = some (.bool sa) ∧ w'.cell? ⟨w.heap.size, 1, none⟩ = some (.slice Aa na ca) ∧ w'.cell? ⟨w.heap.size, 2, none⟩ = some (.bool ta) ∧ w'.cell? ⟨w.heap.size, 3, none⟩ = some (.slice Ba ma da) ∧ w'.cell? ⟨w.heap.size + 1, 0, none⟩ = some (.bool false) ∧ w'.cell? ⟨w.heap.size + 1, 1, none⟩ = some (.slice Ab nb cb) ∧ w'.cell? ⟨w.heap.size + 1, 2, none⟩ = some (.bool tb) ∧ w'.cell? ⟨w.heap.size + 1, 3, none⟩ = some (.slice Bb mb db) ∧ w'.cell? ⟨g37, 0, none⟩ = some (.bool sy) ∧ w'.cell? ⟨g37, 1, none⟩ = some (.slice Ay ny cy)) (by kernel_rfl) (hE.h4.j4 (hE.h3.j4 hE.here.2.c2)) (fun hHeld => ?_)
  generalize W37.drew = wd at *
  refine tk 0 ?_;refine tk 1 ?_;refine tk 2 ?_;refine tk 3 ?_;refine tk 5 ?_;refine wpAnyH_ready (rs := [4, 10, 11]) (by kernel_rfl) (by simp) (AllReadyH.cons rfl (fun K hK => ?_) (AllReadyH.cons rfl (fun K hK => ?_) (AllReadyH.cons rfl (fun K hK => ?_) (AllReadyH.nil))))
  ·
   go_simp;have hc : Calls _ _ _ _ (WR (topQ a b) _) := ftimes_v (ca := ca) (cb := db) (hE.h6).1 (hE.h5).2 (by omega) (by omega) (Nat.le_trans HL.out.2.1 (by decide));have hc := hc;refine hc.mono ?_;clear hc
   rintro e w38 ⟨sx, Ax, nx, cx, rfl, hx, hb⟩
   replace hE := hE.step hb;clear hb;replace hE := hE.wv hx;clear hx;go_wp2_with fail
   refine hK.out _ _ (hE.h5.j4 (hE.h4.j4 hE.here.1.2.c2)) (fun hHeld => ?_);clear hK K;try simp only [PL]
   refine wpAnyH_ready (rs := [6, 10, 11]) (by kernel_rfl) (by simp) (AllReadyH.cons rfl (fun K hK => ?_) (AllReadyH.cons rfl (fun K hK => ?_) (AllReadyH.cons rfl (fun K hK => ?_) (AllReadyH.nil))))
   ·
    go_simp
    have lx : nx ≤ 512 := by rw [(hE.here.2).len]; exact HL.out.2.1
    have ly : ny ≤ 512 := by rw [(hE.h2).len]; exact HL.out.1
    have hc : Calls _ _ _ _ (WR2 (kQ a b) (rQ a b) _) := fdivide_v (ca := cx) (cb := cy) (hE.here.2) (hE.h2) (by omega) (by omega) (by omega);refine hc.mono ?_;clear hc
    rintro e w39 ⟨sk, Ak, nk, ck, sr, Ar, nr, cr, rfl, hk, hr, hb⟩
    replace hE := hE.step hb;clear hb;replace hE := (hE.wv hk).wv hr;clear hk hr lx ly;go_wp2_with fail
    refine hK.out _ _ (hE.h7.j4 (hE.h6.j4 hE.h3.c2)) (fun hHeld => ?_);clear hK K;try simp only [PL]
    refine tk 7 ?_;refine tk 8 ?_;refine tk 9 ?_;refine wpAnyH_ready (rs := [10, 11]) (by kernel_rfl) (by simp) (AllReadyH.cons rfl (fun K hK => ?_) (AllReadyH.cons rfl (fun K hK => ?_) (AllReadyH.nil)))
    ·
     go_simp
     obtain ⟨g40, hg40⟩ : ∃ g40, g40 = w39.heap.size := ⟨_, rfl⟩
     have hl40_2 : w.heap.size < g40 := by rw [hg40]; exact (hE.h7).lt
     have hl40_3 : w.heap.size + 1 < g40 := by rw [hg40]; exact (hE.h6).lt
     have hl40_4 : w.heap.size + 1 + 1 < g40 := by rw [hg40]; exact (hE.h5).lt
     have hl40_6 : g37 < g40 := by rw [hg40]; exact (hE.h3).lt
     replace hE := hE.blk 27 #[.bool false, .slice none 0 0] (g := g40) hg40.symm;generalize w39.alloc (.cells #[.bool false, .slice none 0 0] 27) = W40 at hE ⊢;rw [← hg40];clear hg40;refine hK.out _ _ (hE.h8.j4 (hE.h7.j4 hE.h4.c2)) (fun hHeld => ?_);clear hK K;try simp only [PL]
     refine r1 11 (fun K hK => ?_);go_simp
     obtain ⟨g41, hg41⟩ : ∃ g41, g41 = W40.heap.size := ⟨_, rfl⟩
     have hl41_2 : w.heap.size < g41 := by rw [hg41]; exact (hE.h8).lt
     have hl41_3 : w.heap.size + 1 < g41 := by rw [hg41]; exact (hE.h7).lt
     have hl41_4 : w.heap.size + 1 + 1 < g41 := by rw [hg41]; exact (hE.h6).lt
     have hl41_6 : g37 < g41 := by rw [hg41]; exact (hE.h4).lt
     have hl41_10 : g40 < g41 := by rw [hg41]; exact (hE.here.2).lt
     replace hE := hE.blk 27 #[.bool false, .slice none 0 0] (g := g41) hg41.symm;generalize W40.alloc (.cells #[.bool false, .slice none 0 0] 27) = W41 at hE ⊢;rw [← hg41];clear hg41;refine hK.out _ _ (hE.h9.j4 (hE.h8.j4 hE.h5.c2)) (fun hHeld => ?_);clear hK K;try simp only [PL]
     refine r1 12 (fun K hK => ?_)
     have hgl42 : w.heap.size ≤ g40 := by omega
     obtain ⟨x42_0, x42_1⟩ := (hE.here.1.2).c2;obtain ⟨f42_0, f42_1⟩ := hE.here.1.2.f2;replace hE := (((((((((((((Env.again (bel2 hE.bel hgl42 (.bool sk) (.slice Ak nk ck))).fv ((hE.h11).sep2 hE.here.1.2 rfl _ _ rfl)).fv ((hE.h10).sep2 hE.here.1.2 rfl _ _ rfl)).blkI ((hE.h9).far2 (by omega) _ _)).blkI ((hE.h8).far2 (by omega) _ _)).blkI ((hE.h7).far2 (by omega) _ _)).wv ((hE.h6).sep2 hE.here.1.2 rfl _ _ rfl)).blkI ((hE.h5).far2 (by omega) _ _)).wv ((hE.h4).sep2 hE.here.1.2 rfl _ _ rfl)).wv ((hE.h3).sep2 hE.here.1.2 rfl _ _ rfl)).wv ((hE.h2).sep2 hE.here.1.2 rfl _ _ rfl)).blkI ((hE.here.1.2).s2 _ _)).blkI ((hE.here.2).far2 (by omega) _ _));go_simp;clear x42_0 x42_1 f42_0 f42_1 hgl42;generalize ((W41.setCell ⟨g40, 0, none⟩ (.bool sk)).setCell ⟨g40, 1, none⟩ (.slice Ak nk ck)) = W42 at hE ⊢;refine hK.out _ _ (hE.h9.j4 (hE.h8.j4 hE.h5.c2)) (fun hHeld => ?_);clear hK K;try simp only [PL]
     refine r1 13 (fun K hK => ?_)
     have hgl43 : w.heap.size ≤ g41 := by omega
     obtain ⟨x43_0, x43_1⟩ := (hE.here.2).c2;obtain ⟨f43_0, f43_1⟩ := hE.here.2.f2;replace hE := (((((((((((((Env.again (bel2 hE.bel hgl43 (.bool sr) (.slice Ar nr cr))).fv ((hE.h11).sep2 hE.here.2 rfl _ _ rfl)).fv ((hE.h10).sep2 hE.here.2 rfl _ _ rfl)).blkI ((hE.h9).far2 (by omega) _ _)).blkI ((hE.h8).far2 (by omega) _ _)).blkI ((hE.h7).far2 (by omega) _ _)).wv ((hE.h6).sep2 hE.here.2 rfl _ _ rfl)).blkI ((hE.h5).far2 (by omega) _ _)).wv ((hE.h4).sep2 hE.here.2 rfl _ _ rfl)).wv ((hE.h3).sep2 hE.here.2 rfl _ _ rfl)).wv ((hE.h2).sep2 hE.here.2 rfl _ _ rfl)).blkI ((hE.here.1.2).far2 (by omega) _ _)).blkI ((hE.here.2).s2 _ _));go_simp;clear x43_0 x43_1 f43_0 f43_1 hgl43;generalize ((W42.setCell ⟨g41, 0, none⟩ (.bool sr)).setCell ⟨g41, 1, none⟩ (.slice Ar nr cr)) = W43 at hE ⊢;refine hK.out _ _ (hE.h9.j4 (hE.h8.j4 hE.h5.c2)) (fun hHeld => ?_);clear hK K;try simp only [PL]
     refine wpAnyH_done (by kernel_rfl) ?_ _;go_wp2_with fail
     go_meet
     exact ⟨g40, g41, sk, Ak, nk, ck, sr, Ar, nr, cr, rfl, rfl, ⟨by omega, by omega, by omega⟩, ((((((((((((Env.again hE.bel).fv (hE.h11)).fv (hE.h10)).blkI (hE.h9)).blkI (hE.h8)).blkI (hE.h7)).wv (hE.h6)).blkI (hE.h5)).wv (hE.h3)).wv (hE.h2)).blkI (hE.here.1.2)).blkI (hE.here.2))⟩
    ·
     go_simp
     obtain ⟨g44, hg44⟩ : ∃ g44, g44 = w39.heap.size := ⟨_, rfl⟩
     have hl44_2 : w.heap.size < g44 := by rw [hg44]; exact (hE.h7).lt
     have hl44_3 : w.heap.size + 1 < g44 := by rw [hg44]; exact (hE.h6).lt
     have hl44_4 : w.heap.size + 1 + 1 < g44 := by rw [hg44]; exact (hE.h5).lt
     have hl44_6 : g37 < g44 := by rw [hg44]; exact (hE.h3).lt
     replace hE := hE.blk 27 #[.bool false, .slice none 0 0] (g := g44) hg44.symm;generalize w39.alloc (.cells #[.bool false, .slice none 0 0] 27) = W44 at hE ⊢;rw [← hg44];clear hg44;refine hK.out _ _ (hE.h8.j4 (hE.h7.j4 hE.h4.c2)) (fun hHeld => ?_);clear hK K;try simp only [PL]
     refine r1 10 (fun K hK => ?_);go_simp
     obtain ⟨g45, hg45⟩ : ∃ g45, g45 = W44.heap.size := ⟨_, rfl⟩
     have hl45_2 : w.heap.size < g45 := by rw [hg45]; exact (hE.h8).lt
     have hl45_3 : w.heap.size + 1 < g45 := by rw [hg45]; exact (hE.h7).lt
     have hl45_4 : w.heap.size + 1 + 1 < g45 := by rw [hg45]; exact (hE.h6).lt
     have hl45_6 : g37 < g45 := by rw [hg45]; exact (hE.h4).lt
     have hl45_10 : g44 < g45 := by rw [hg45]; exact (hE.here.2).lt
     replace hE := hE.blk 27 #[.bool false, .slice none 0 0] (g := g45) hg45.symm;generalize W44.alloc (.cells #[.bool false, .slice none 0 0] 27) = W45 at hE ⊢;rw [← hg45];clear hg45;refine hK.out _ _ (hE.h9.j4 (hE.h8.j4 hE.h5.c2)) (fun hHeld => ?_);clear hK K;try simp only [PL]
     refine r1 12 (fun K hK => ?_)
     have hgl46 : w.heap.size ≤ g45 := by omega
     obtain ⟨x46_0, x46_1⟩ := (hE.here.2).c2;obtain ⟨f46_0, f46_1⟩ := hE.here.2.f2;replace hE := (((((((((((((Env.again (bel2 hE.bel hgl46 (.bool sk) (.slice Ak nk ck))).fv ((hE.h11).sep2 hE.here.2 rfl _ _ rfl)).fv ((hE.h10).sep2 hE.here.2 rfl _ _ rfl)).blkI ((hE.h9).far2 (by omega) _ _)).blkI ((hE.h8).far2 (by omega) _ _)).blkI ((hE.h7).far2 (by omega) _ _)).wv ((hE.h6).sep2 hE.here.2 rfl _ _ rfl)).blkI ((hE.h5).far2 (by omega) _ _)).wv ((hE.h4).sep2 hE.here.2 rfl _ _ rfl)).wv ((hE.h3).sep2 hE.here.2 rfl _ _ rfl)).wv ((hE.h2).sep2 hE.here.2 rfl _ _ rfl)).blkI ((hE.here.1.2).far2 (by omega) _ _)).blkI ((hE.here.2).s2 _ _));go_simp;clear x46_0 x46_1 f46_0 f46_1 hgl46;generalize ((W45.setCell ⟨g45, 0, none⟩ (.bool sk)).setCell ⟨g45, 1, none⟩ (.slice Ak nk ck)) = W46 at hE ⊢;refine hK.out _ _ (hE.h9.j4 (hE.h8.j4 hE.h5.c2)) (fun hHeld => ?_);clear hK K;try simp only [PL]
     refine r1 13 (fun K hK => ?_)
     have hgl47 : w.heap.size ≤ g44 := by omega
     obtain ⟨x47_0, x47_1⟩ := (hE.here.1.2).c2;obtain ⟨f47_0, f47_1⟩ := hE.here.1.2.f2;replace hE := (((((((((((((Env.again (bel2 hE.bel hgl47 (.bool sr) (.slice Ar nr cr))).fv ((hE.h11).sep2 hE.here.1.2 rfl _ _ rfl)).fv ((hE.h10).sep2 hE.here.1.2 rfl _ _ rfl)).blkI ((hE.h9).far2 (by omega) _ _)).blkI ((hE.h8).far2 (by omega) _ _)).blkI ((hE.h7).far2 (by omega) _ _)).wv ((hE.h6).sep2 hE.here.1.2 rfl _ _ rfl)).blkI ((hE.h5).far2 (by omega) _ _)).wv ((hE.h4).sep2 hE.here.1.2 rfl _ _ rfl)).wv ((hE.h3).sep2 hE.here.1.2 rfl _ _ rfl)).wv ((hE.h2).sep2 hE.here.1.2 rfl _ _ rfl)).blkI ((hE.here.1.2).s2 _ _)).blkI ((hE.here.2).far2 (by omega) _ _));go_simp;clear x47_0 x47_1 f47_0 f47_1 hgl47;generalize ((W46.setCell ⟨g44, 0, none⟩ (.bool sr)).setCell ⟨g44, 1, none⟩ (.slice Ar nr cr)) = W47 at hE ⊢;refine hK.out _ _ (hE.h9.j4 (hE.h8.j4 hE.h5.c2)) (fun hHeld => ?_);clear hK K;try simp only [PL]
     refine wpAnyH_done (by kernel_rfl) ?_ _;go_wp2_with fail
     go_meet
     exact ⟨g45, g44, sk, Ak, nk, ck, sr, Ar, nr, cr, rfl, rfl, ⟨by omega, by omega, by omega⟩, ((((((((((((Env.again hE.bel).fv (hE.h11)).fv (hE.h10)).blkI (hE.h9)).blkI (hE.h8)).blkI (hE.h7)).wv (hE.h6)).blkI (hE.h5)).wv (hE.h3)).wv (hE.h2)).blkI (hE.here.2)).blkI (hE.here.1.2))⟩
   ·
    go_simp
    obtain ⟨g48, hg48⟩ : ∃ g48, g48 = w38.heap.size := ⟨_, rfl⟩
    have hl48_2 : w.heap.size < g48 := by rw [hg48]; exact (hE.h5).lt
    have hl48_3 : w.heap.size + 1 < g48 := by rw [hg48]; exact (hE.h4).lt
    have hl48_4 : w.heap.size + 1 + 1 < g48 := by rw [hg48]; exact (hE.h3).lt
    have hl48_6 : g37 < g48 := by rw [hg48]; exact (hE.here.1.2).lt
    replace hE := hE.blk 27 #[.bool false, .slice none 0 0] (g := g48) hg48.symm;generalize w38.alloc (.cells #[.bool false, .slice none 0 0] 27) = W48 at hE ⊢;rw [← hg48];clear hg48;refine hK.out _ _ (hE.h6.j4 (hE.h5.j4 hE.h2.c2)) (fun hHeld => ?_);clear hK K;try simp only [PL]
    refine wpAnyH_ready (rs := [6, 11]) (by kernel_rfl) (by simp) (AllReadyH.cons rfl (fun K hK => ?_) (AllReadyH.cons rfl (fun K hK => ?_) (AllReadyH.nil)))
    ·
     go_simp
     have lx : nx ≤ 512 := by rw [(hE.here.1.2).len]; exact HL.out.2.1
     have ly : ny ≤ 512 := by rw [(hE.h3).len]; exact HL.out.1
     have hc : Calls _ _ _ _ (WR2 (kQ a b) (rQ a b) _) := fdivide_v (ca := cx) (cb := cy) (hE.here.1.2) (hE.h3) (by omega) (by omega) (by omega);refine hc.mono ?_;clear hc
     rintro e w49 ⟨sk, Ak, nk, ck, sr, Ar, nr, cr, rfl, hk, hr, hb⟩
     replace hE := hE.step hb;clear hb;replace hE := (hE.wv hk).wv hr;clear hk hr lx ly;go_wp2_with fail
     refine hK.out _ _ (hE.h8.j4 (hE.h7.j4 hE.h4.c2)) (fun hHeld => ?_);clear hK K;try simp only [PL]
     refine tk 7 ?_;refine tk 8 ?_;refine tk 9 ?_;refine r1 11 (fun K hK => ?_);go_simp
     obtain ⟨g50, hg50⟩ : ∃ g50, g50 = w49.heap.size := ⟨_, rfl⟩
     have hl50_2 : w.heap.size < g50 := by rw [hg50]; exact (hE.h8).lt
     have hl50_3 : w.heap.size + 1 < g50 := by rw [hg50]; exact (hE.h7).lt
     have hl50_4 : w.heap.size + 1 + 1 < g50 := by rw [hg50]; exact (hE.h6).lt
     have hl50_6 : g37 < g50 := by rw [hg50]; exact (hE.h4).lt
     have hl50_8 : g48 < g50 := by rw [hg50]; exact (hE.h2).lt
     replace hE := hE.blk 27 #[.bool false, .slice none 0 0] (g := g50) hg50.symm;generalize w49.alloc (.cells #[.bool false, .slice none 0 0] 27) = W50 at hE ⊢;rw [← hg50];clear hg50;refine hK.out _ _ (hE.h9.j4 (hE.h8.j4 hE.h5.c2)) (fun hHeld => ?_);clear hK K;try simp only [PL]
     refine r1 12 (fun K hK => ?_)
     have hgl51 : w.heap.size ≤ g48 := by omega
     obtain ⟨x51_0, x51_1⟩ := (hE.h3).c2;obtain ⟨f51_0, f51_1⟩ := hE.h3.f2;replace hE := (((((((((((((Env.again (bel2 hE.bel hgl51 (.bool sk) (.slice Ak nk ck))).fv ((hE.h11).sep2 hE.h3 rfl _ _ rfl)).fv ((hE.h10).sep2 hE.h3 rfl _ _ rfl)).blkI ((hE.h9).far2 (by omega) _ _)).blkI ((hE.h8).far2 (by omega) _ _)).blkI ((hE.h7).far2 (by omega) _ _)).wv ((hE.h6).sep2 hE.h3 rfl _ _ rfl)).blkI ((hE.h5).far2 (by omega) _ _)).wv ((hE.h4).sep2 hE.h3 rfl _ _ rfl)).blkI ((hE.h3).s2 _ _)).wv ((hE.h2).sep2 hE.h3 rfl _ _ rfl)).wv ((hE.here.1.2).sep2 hE.h3 rfl _ _ rfl)).blkI ((hE.here.2).far2 (by omega) _ _));go_simp;clear x51_0 x51_1 f51_0 f51_1 hgl51;generalize ((W50.setCell ⟨g48, 0, none⟩ (.bool sk)).setCell ⟨g48, 1, none⟩ (.slice Ak nk ck)) = W51 at hE ⊢;refine hK.out _ _ (hE.h9.j4 (hE.h8.j4 hE.h5.c2)) (fun hHeld => ?_);clear hK K;try simp only [PL]
     refine r1 13 (fun K hK => ?_)
     have hgl52 : w.heap.size ≤ g50 := by omega
     obtain ⟨x52_0, x52_1⟩ := (hE.here.2).c2;obtain ⟨f52_0, f52_1⟩ := hE.here.2.f2;replace hE := (((((((((((((Env.again (bel2 hE.bel hgl52 (.bool sr) (.slice Ar nr cr))).fv ((hE.h11).sep2 hE.here.2 rfl _ _ rfl)).fv ((hE.h10).sep2 hE.here.2 rfl _ _ rfl)).blkI ((hE.h9).far2 (by omega) _ _)).blkI ((hE.h8).far2 (by omega) _ _)).blkI ((hE.h7).far2 (by omega) _ _)).wv ((hE.h6).sep2 hE.here.2 rfl _ _ rfl)).blkI ((hE.h5).far2 (by omega) _ _)).wv ((hE.h4).sep2 hE.here.2 rfl _ _ rfl)).blkI ((hE.h3).far2 (by omega) _ _)).wv ((hE.h2).sep2 hE.here.2 rfl _ _ rfl)).wv ((hE.here.1.2).sep2 hE.here.2 rfl _ _ rfl)).blkI ((hE.here.2).s2 _ _));go_simp;clear x52_0 x52_1 f52_0 f52_1 hgl52;generalize ((W51.setCell ⟨g50, 0, none⟩ (.bool sr)).setCell ⟨g50, 1, none⟩ (.slice Ar nr cr)) = W52 at hE ⊢;refine hK.out _ _ (hE.h9.j4 (hE.h8.j4 hE.h5.c2)) (fun hHeld => ?_);clear hK K;try simp only [PL]
     refine wpAnyH_done (by kernel_rfl) ?_ _;go_wp2_with fail
     go_meet
     exact ⟨g48, g50, sk, Ak, nk, ck, sr, Ar, nr, cr, rfl, rfl, ⟨by omega, by omega, by omega⟩, ((((((((((((Env.again hE.bel).fv (hE.h11)).fv (hE.h10)).blkI (hE.h9)).blkI (hE.h8)).blkI (hE.h7)).wv (hE.h6)).blkI (hE.h5)).wv (hE.h2)).wv (hE.here.1.2)).blkI (hE.h3)).blkI (hE.here.2))⟩
    ·
     go_simp
     obtain ⟨g53, hg53⟩ : ∃ g53, g53 = W48.heap.size := ⟨_, rfl⟩
     have hl53_2 : w.heap.size < g53 := by rw [hg53]; exact (hE.h6).lt
     have hl53_3 : w.heap.size + 1 < g53 := by rw [hg53]; exact (hE.h5).lt
     have hl53_4 : w.heap.size + 1 + 1 < g53 := by rw [hg53]; exact (hE.h4).lt
     have hl53_6 : g37 < g53 := by rw [hg53]; exact (hE.h2).lt
     have hl53_8 : g48 < g53 := by rw [hg53]; exact (hE.here.2).lt
     replace hE := hE.blk 27 #[.bool false, .slice none 0 0] (g := g53) hg53.symm;generalize W48.alloc (.cells #[.bool false, .slice none 0 0] 27) = W53 at hE ⊢;rw [← hg53];clear hg53;refine hK.out _ _ (hE.h7.j4 (hE.h6.j4 hE.h3.c2)) (fun hHeld => ?_);clear hK K;try simp only [PL]
     refine r1 6 (fun K hK => ?_);go_simp
     have lx : nx ≤ 512 := by rw [(hE.h2).len]; exact HL.out.2.1
     have ly : ny ≤ 512 := by rw [(hE.h4).len]; exact HL.out.1
     have hc : Calls _ _ _ _ (WR2 (kQ a b) (rQ a b) _) := fdivide_v (ca := cx) (cb := cy) (hE.h2) (hE.h4) (by omega) (by omega) (by omega);refine hc.mono ?_;clear hc
     rintro e w54 ⟨sk, Ak, nk, ck, sr, Ar, nr, cr, rfl, hk, hr, hb⟩
     replace hE := hE.step hb;clear hb;replace hE := (hE.wv hk).wv hr;clear hk hr lx ly;go_wp2_with fail
     refine hK.out _ _ (hE.h9.j4 (hE.h8.j4 hE.h5.c2)) (fun hHeld => ?_);clear hK K;try simp only [PL]
     refine tk 7 ?_;refine tk 8 ?_;refine tk 9 ?_;refine r1 12 (fun K hK => ?_)
     have hgl55 : w.heap.size ≤ g48 := by omega
     obtain ⟨x55_0, x55_1⟩ := (hE.h3).c2;obtain ⟨f55_0, f55_1⟩ := hE.h3.f2;replace hE := (((((((((((((Env.again (bel2 hE.bel hgl55 (.bool sk) (.slice Ak nk ck))).fv ((hE.h11).sep2 hE.h3 rfl _ _ rfl)).fv ((hE.h10).sep2 hE.h3 rfl _ _ rfl)).blkI ((hE.h9).far2 (by omega) _ _)).blkI ((hE.h8).far2 (by omega) _ _)).blkI ((hE.h7).far2 (by omega) _ _)).wv ((hE.h6).sep2 hE.h3 rfl _ _ rfl)).blkI ((hE.h5).far2 (by omega) _ _)).wv ((hE.h4).sep2 hE.h3 rfl _ _ rfl)).blkI ((hE.h3).s2 _ _)).blkI ((hE.h2).far2 (by omega) _ _)).wv ((hE.here.1.2).sep2 hE.h3 rfl _ _ rfl)).wv ((hE.here.2).sep2 hE.h3 rfl _ _ rfl));go_simp;clear x55_0 x55_1 f55_0 f55_1 hgl55;generalize ((w54.setCell ⟨g48, 0, none⟩ (.bool sk)).setCell ⟨g48, 1, none⟩ (.slice Ak nk ck)) = W55 at hE ⊢;refine hK.out _ _ (hE.h9.j4 (hE.h8.j4 hE.h5.c2)) (fun hHeld => ?_);clear hK K;try simp only [PL]
     refine r1 13 (fun K hK => ?_)
     have hgl56 : w.heap.size ≤ g53 := by omega
     obtain ⟨x56_0, x56_1⟩ := (hE.h2).c2;obtain ⟨f56_0, f56_1⟩ := hE.h2.f2;replace hE := (((((((((((((Env.again (bel2 hE.bel hgl56 (.bool sr) (.slice Ar nr cr))).fv ((hE.h11).sep2 hE.h2 rfl _ _ rfl)).fv ((hE.h10).sep2 hE.h2 rfl _ _ rfl)).blkI ((hE.h9).far2 (by omega) _ _)).blkI ((hE.h8).far2 (by omega) _ _)).blkI ((hE.h7).far2 (by omega) _ _)).wv ((hE.h6).sep2 hE.h2 rfl _ _ rfl)).blkI ((hE.h5).far2 (by omega) _ _)).wv ((hE.h4).sep2 hE.h2 rfl _ _ rfl)).blkI ((hE.h3).far2 (by omega) _ _)).blkI ((hE.h2).s2 _ _)).wv ((hE.here.1.2).sep2 hE.h2 rfl _ _ rfl)).wv ((hE.here.2).sep2 hE.h2 rfl _ _ rfl));go_simp;clear x56_0 x56_1 f56_0 f56_1 hgl56;generalize ((W55.setCell ⟨g53, 0, none⟩ (.bool sr)).setCell ⟨g53, 1, none⟩ (.slice Ar nr cr)) = W56 at hE ⊢;refine hK.out _ _ (hE.h9.j4 (hE.h8.j4 hE.h5.c2)) (fun hHeld => ?_);clear hK K;try simp only [PL]
     refine wpAnyH_done (by kernel_rfl) ?_ _;go_wp2_with fail
     go_meet
     exact ⟨g48, g53, sk, Ak, nk, ck, sr, Ar, nr, cr, rfl, rfl, ⟨by omega, by omega, by omega⟩, ((((((((((((Env.again hE.bel).fv (hE.h11)).fv (hE.h10)).blkI (hE.h9)).blkI (hE.h8)).blkI (hE.h7)).wv (hE.h6)).blkI (hE.h5)).wv (hE.here.1.2)).wv (hE.here.2)).blkI (hE.h3)).blkI (hE.h2))⟩
   ·
    go_simp
    obtain ⟨g57, hg57⟩ : ∃ g57, g57 = w38.heap.size := ⟨_, rfl⟩
    have hl57_2 : w.heap.size < g57 := by rw [hg57]; exact (hE.h5).lt
    have hl57_3 : w.heap.size + 1 < g57 := by rw [hg57]; exact (hE.h4).lt
    have hl57_4 : w.heap.size + 1 + 1 < g57 := by rw [hg57]; exact (hE.h3).lt
    have hl57_6 : g37 < g57 := by rw [hg57]; exact (hE.here.1.2).lt
    replace hE := hE.blk 27 #[.bool false, .slice none 0 0] (g := g57) hg57.symm;generalize w38.alloc (.cells #[.bool false, .slice none 0 0] 27) = W57 at hE ⊢;rw [← hg57];clear hg57;refine hK.out _ _ (hE.h6.j4 (hE.h5.j4 hE.h2.c2)) (fun hHeld => ?_);clear hK K;try simp only [PL]
    refine wpAnyH_ready (rs := [6, 10]) (by kernel_rfl) (by simp) (AllReadyH.cons rfl (fun K hK => ?_) (AllReadyH.cons rfl (fun K hK => ?_) (AllReadyH.nil)))
    ·
     go_simp
     have lx : nx ≤ 512 := by rw [(hE.here.1.2).len]; exact HL.out.2.1
     have ly : ny ≤ 512 := by rw [(hE.h3).len]; exact HL.out.1
     have hc : Calls _ _ _ _ (WR2 (kQ a b) (rQ a b) _) := fdivide_v (ca := cx) (cb := cy) (hE.here.1.2) (hE.h3) (by omega) (by omega) (by omega);refine hc.mono ?_;clear hc
     rintro e w58 ⟨sk, Ak, nk, ck, sr, Ar, nr, cr, rfl, hk, hr, hb⟩
     replace hE := hE.step hb;clear hb;replace hE := (hE.wv hk).wv hr;clear hk hr lx ly;go_wp2_with fail
     refine hK.out _ _ (hE.h8.j4 (hE.h7.j4 hE.h4.c2)) (fun hHeld => ?_);clear hK K;try simp only [PL]
     refine tk 7 ?_;refine tk 8 ?_;refine tk 9 ?_;refine r1 10 (fun K hK => ?_);go_simp
     obtain ⟨g59, hg59⟩ : ∃ g59, g59 = w58.heap.size := ⟨_, rfl⟩
     have hl59_2 : w.heap.size < g59 := by rw [hg59]; exact (hE.h8).lt
     have hl59_3 : w.heap.size + 1 < g59 := by rw [hg59]; exact (hE.h7).lt
     have hl59_4 : w.heap.size + 1 + 1 < g59 := by rw [hg59]; exact (hE.h6).lt
     have hl59_6 : g37 < g59 := by rw [hg59]; exact (hE.h4).lt
     have hl59_8 : g57 < g59 := by rw [hg59]; exact (hE.h2).lt
     replace hE := hE.blk 27 #[.bool false, .slice none 0 0] (g := g59) hg59.symm;generalize w58.alloc (.cells #[.bool false, .slice none 0 0] 27) = W59 at hE ⊢;rw [← hg59];clear hg59;refine hK.out _ _ (hE.h9.j4 (hE.h8.j4 hE.h5.c2)) (fun hHeld => ?_);clear hK K;try simp only [PL]
     refine r1 12 (fun K hK => ?_)
     have hgl60 : w.heap.size ≤ g59 := by omega
     obtain ⟨x60_0, x60_1⟩ := (hE.here.2).c2;obtain ⟨f60_0, f60_1⟩ := hE.here.2.f2;replace hE := (((((((((((((Env.again (bel2 hE.bel hgl60 (.bool sk) (.slice Ak nk ck))).fv ((hE.h11).sep2 hE.here.2 rfl _ _ rfl)).fv ((hE.h10).sep2 hE.here.2 rfl _ _ rfl)).blkI ((hE.h9).far2 (by omega) _ _)).blkI ((hE.h8).far2 (by omega) _ _)).blkI ((hE.h7).far2 (by omega) _ _)).wv ((hE.h6).sep2 hE.here.2 rfl _ _ rfl)).blkI ((hE.h5).far2 (by omega) _ _)).wv ((hE.h4).sep2 hE.here.2 rfl _ _ rfl)).blkI ((hE.h3).far2 (by omega) _ _)).wv ((hE.h2).sep2 hE.here.2 rfl _ _ rfl)).wv ((hE.here.1.2).sep2 hE.here.2 rfl _ _ rfl)).blkI ((hE.here.2).s2 _ _));go_simp;clear x60_0 x60_1 f60_0 f60_1 hgl60;generalize ((W59.setCell ⟨g59, 0, none⟩ (.bool sk)).setCell ⟨g59, 1, none⟩ (.slice Ak nk ck)) = W60 at hE ⊢;refine hK.out _ _ (hE.h9.j4 (hE.h8.j4 hE.h5.c2)) (fun hHeld => ?_);clear hK K;try simp only [PL]
     refine r1 13 (fun K hK => ?_)
     have hgl61 : w.heap.size ≤ g57 := by omega
     obtain ⟨x61_0, x61_1⟩ := (hE.h3).c2;obtain ⟨f61_0, f61_1⟩ := hE.h3.f2;replace hE := (((((((((((((Env.again (bel2 hE.bel hgl61 (.bool sr) (.slice Ar nr cr))).fv ((hE.h11).sep2 hE.h3 rfl _ _ rfl)).fv ((hE.h10).sep2 hE.h3 rfl _ _ rfl)).blkI ((hE.h9).far2 (by omega) _ _)).blkI ((hE.h8).far2 (by omega) _ _)).blkI ((hE.h7).far2 (by omega) _ _)).wv ((hE.h6).sep2 hE.h3 rfl _ _ rfl)).blkI ((hE.h5).far2 (by omega) _ _)).wv ((hE.h4).sep2 hE.h3 rfl _ _ rfl)).blkI ((hE.h3).s2 _ _)).wv ((hE.h2).sep2 hE.h3 rfl _ _ rfl)).wv ((hE.here.1.2).sep2 hE.h3 rfl _ _ rfl)).blkI ((hE.here.2).far2 (by omega) _ _));go_simp;clear x61_0 x61_1 f61_0 f61_1 hgl61;generalize ((W60.setCell ⟨g57, 0, none⟩ (.bool sr)).setCell ⟨g57, 1, none⟩ (.slice Ar nr cr)) = W61 at hE ⊢;refine hK.out _ _ (hE.h9.j4 (hE.h8.j4 hE.h5.c2)) (fun hHeld => ?_);clear hK K;try simp only [PL]
     refine wpAnyH_done (by kernel_rfl) ?_ _;go_wp2_with fail
     go_meet
     exact ⟨g59, g57, sk, Ak, nk, ck, sr, Ar, nr, cr, rfl, rfl, ⟨by omega, by omega, by omega⟩, ((((((((((((Env.again hE.bel).fv (hE.h11)).fv (hE.h10)).blkI (hE.h9)).blkI (hE.h8)).blkI (hE.h7)).wv (hE.h6)).blkI (hE.h5)).wv (hE.h2)).wv (hE.here.1.2)).blkI (hE.here.2)).blkI (hE.h3))⟩
    ·
     go_simp
     obtain ⟨g62, hg62⟩ : ∃ g62, g62 = W57.heap.size := ⟨_, rfl⟩
     have hl62_2 : w.heap.size < g62 := by rw [hg62]; exact (hE.h6).lt
     have hl62_3 : w.heap.size + 1 < g62 := by rw [hg62]; exact (hE.h5).lt
     have hl62_4 : w.heap.size + 1 + 1 < g62 := by rw [hg62]; exact (hE.h4).lt
     have hl62_6 : g37 < g62 := by rw [hg62]; exact (hE.h2).lt
     have hl62_8 : g57 < g62 := by rw [hg62]; exact (hE.here.2).lt
     replace hE := hE.blk 27 #[.bool false, .slice none 0 0] (g := g62) hg62.symm;generalize W57.alloc (.cells #[.bool false, .slice none 0 0] 27) = W62 at hE ⊢;rw [← hg62];clear hg62;refine hK.out _ _ (hE.h7.j4 (hE.h6.j4 hE.h3.c2)) (fun hHeld => ?_);clear hK K;try simp only [PL]
     refine r1 6 (fun K hK => ?_);go_simp
     have lx : nx ≤ 512 := by rw [(hE.h2).len]; exact HL.out.2.1
     have ly : ny ≤ 512 := by rw [(hE.h4).len]; exact HL.out.1
     have hc : Calls _ _ _ _ (WR2 (kQ a b) (rQ a b) _) := fdivide_v (ca := cx) (cb := cy) (hE.h2) (hE.h4) (by omega) (by omega) (by omega);refine hc.mono ?_;clear hc
     rintro e w63 ⟨sk, Ak, nk, ck, sr, Ar, nr, cr, rfl, hk, hr, hb⟩
     replace hE := hE.step hb;clear hb;replace hE := (hE.wv hk).wv hr;clear hk hr lx ly;go_wp2_with fail
     refine hK.out _ _ (hE.h9.j4 (hE.h8.j4 hE.h5.c2)) (fun hHeld => ?_);clear hK K;try simp only [PL]
     refine tk 7 ?_;refine tk 8 ?_;refine tk 9 ?_;refine r1 12 (fun K hK => ?_)
     have hgl64 : w.heap.size ≤ g62 := by omega
     obtain ⟨x64_0, x64_1⟩ := (hE.h2).c2;obtain ⟨f64_0, f64_1⟩ := hE.h2.f2;replace hE := (((((((((((((Env.again (bel2 hE.bel hgl64 (.bool sk) (.slice Ak nk ck))).fv ((hE.h11).sep2 hE.h2 rfl _ _ rfl)).fv ((hE.h10).sep2 hE.h2 rfl _ _ rfl)).blkI ((hE.h9).far2 (by omega) _ _)).blkI ((hE.h8).far2 (by omega) _ _)).blkI ((hE.h7).far2 (by omega) _ _)).wv ((hE.h6).sep2 hE.h2 rfl _ _ rfl)).blkI ((hE.h5).far2 (by omega) _ _)).wv ((hE.h4).sep2 hE.h2 rfl _ _ rfl)).blkI ((hE.h3).far2 (by omega) _ _)).blkI ((hE.h2).s2 _ _)).wv ((hE.here.1.2).sep2 hE.h2 rfl _ _ rfl)).wv ((hE.here.2).sep2 hE.h2 rfl _ _ rfl));go_simp;clear x64_0 x64_1 f64_0 f64_1 hgl64;generalize ((w63.setCell ⟨g62, 0, none⟩ (.bool sk)).setCell ⟨g62, 1, none⟩ (.slice Ak nk ck)) = W64 at hE ⊢;refine hK.out _ _ (hE.h9.j4 (hE.h8.j4 hE.h5.c2)) (fun hHeld => ?_);clear hK K;try simp only [PL]
     refine r1 13 (fun K hK => ?_)
     have hgl65 : w.heap.size ≤ g57 := by omega
     obtain ⟨x65_0, x65_1⟩ := (hE.h3).c2;obtain ⟨f65_0, f65_1⟩ := hE.h3.f2;replace hE := (((((((((((((Env.again (bel2 hE.bel hgl65 (.bool sr) (.slice Ar nr cr))).fv ((hE.h11).sep2 hE.h3 rfl _ _ rfl)).fv ((hE.h10).sep2 hE.h3 rfl _ _ rfl)).blkI ((hE.h9).far2 (by omega) _ _)).blkI ((hE.h8).far2 (by omega) _ _)).blkI ((hE.h7).far2 (by omega) _ _)).wv ((hE.h6).sep2 hE.h3 rfl _ _ rfl)).blkI ((hE.h5).far2 (by omega) _ _)).wv ((hE.h4).sep2 hE.h3 rfl _ _ rfl)).blkI ((hE.h3).s2 _ _)).blkI ((hE.h2).far2 (by omega) _ _)).wv ((hE.here.1.2).sep2 hE.h3 rfl _ _ rfl)).wv ((hE.here.2).sep2 hE.h3 rfl _ _ rfl));go_simp;clear x65_0 x65_1 f65_0 f65_1 hgl65;generalize ((W64.setCell ⟨g57, 0, none⟩ (.bool sr)).setCell ⟨g57, 1, none⟩ (.slice Ar nr cr)) = W65 at hE ⊢;refine hK.out _ _ (hE.h9.j4 (hE.h8.j4 hE.h5.c2)) (fun hHeld => ?_);clear hK K;try simp only [PL]
     refine wpAnyH_done (by kernel_rfl) ?_ _;go_wp2_with fail
     go_meet
     exact ⟨g62, g57, sk, Ak, nk, ck, sr, Ar, nr, cr, rfl, rfl, ⟨by omega, by omega, by omega⟩, ((((((((((((Env.again hE.bel).fv (hE.h11)).fv (hE.h10)).blkI (hE.h9)).blkI (hE.h8)).blkI (hE.h7)).wv (hE.h6)).blkI (hE.h5)).wv (hE.here.1.2)).wv (hE.here.2)).blkI (hE.h2)).blkI (hE.h3))⟩
  ·
   go_simp
   obtain ⟨g66, hg66⟩ : ∃ g66, g66 = wd.heap.size := ⟨_, rfl⟩
   have hl66_2 : w.heap.size < g66 := by rw [hg66]; exact (hE.h4).lt
   have hl66_3 : w.heap.size + 1 < g66 := by rw [hg66]; exact (hE.h3).lt
   have hl66_4 : w.heap.size + 1 + 1 < g66 := by rw [hg66]; exact (hE.h2).lt
   have hl66_6 : g37 < g66 := by rw [hg66]; exact (hE.here.2).lt
   replace hE := hE.blk 27 #[.bool false, .slice none 0 0] (g := g66) hg66.symm;generalize wd.alloc (.cells #[.bool false, .slice none 0 0] 27) = W66 at hE ⊢;rw [← hg66];clear hg66;refine hK.out _ _ (hE.h5.j4 (hE.h4.j4 hE.here.1.2.c2)) (fun hHeld => ?_);clear hK K;try simp only [PL]
   refine wpAnyH_ready (rs := [4, 11]) (by kernel_rfl) (by simp) (AllReadyH.cons rfl (fun K hK => ?_) (AllReadyH.cons rfl (fun K hK => ?_) (AllReadyH.nil)))
   ·
    go_simp;have hc : Calls _ _ _ _ (WR (topQ a b) _) := ftimes_v (ca := ca) (cb := db) (hE.h7).1 (hE.h6).2 (by omega) (by omega) (Nat.le_trans HL.out.2.1 (by decide));have hc := hc;refine hc.mono ?_;clear hc
    rintro e w67 ⟨sx, Ax, nx, cx, rfl, hx, hb⟩
    replace hE := hE.step hb;clear hb;replace hE := hE.wv hx;clear hx;go_wp2_with fail
    refine hK.out _ _ (hE.h6.j4 (hE.h5.j4 hE.h2.c2)) (fun hHeld => ?_);clear hK K;try simp only [PL]
    refine wpAnyH_ready (rs := [6, 11]) (by kernel_rfl) (by simp) (AllReadyH.cons rfl (fun K hK => ?_) (AllReadyH.cons rfl (fun K hK => ?_) (AllReadyH.nil)))
    ·
     go_simp
     have lx : nx ≤ 512 := by rw [(hE.here.2).len]; exact HL.out.2.1
     have ly : ny ≤ 512 := by rw [(hE.h3).len]; exact HL.out.1
     have hc : Calls _ _ _ _ (WR2 (kQ a b) (rQ a b) _) := fdivide_v (ca := cx) (cb := cy) (hE.here.2) (hE.h3) (by omega) (by omega) (by omega);refine hc.mono ?_;clear hc
     rintro e w68 ⟨sk, Ak, nk, ck, sr, Ar, nr, cr, rfl, hk, hr, hb⟩
     replace hE := hE.step hb;clear hb;replace hE := (hE.wv hk).wv hr;clear hk hr lx ly;go_wp2_with fail
     refine hK.out _ _ (hE.h8.j4 (hE.h7.j4 hE.h4.c2)) (fun hHeld => ?_);clear hK K;try simp only [PL]
     refine tk 7 ?_;refine tk 8 ?_;refine tk 9 ?_;refine r1 11 (fun K hK => ?_);go_simp
     obtain ⟨g69, hg69⟩ : ∃ g69, g69 = w68.heap.size := ⟨_, rfl⟩
     have hl69_2 : w.heap.size < g69 := by rw [hg69]; exact (hE.h8).lt
     have hl69_3 : w.heap.size + 1 < g69 := by rw [hg69]; exact (hE.h7).lt
     have hl69_4 : w.heap.size + 1 + 1 < g69 := by rw [hg69]; exact (hE.h6).lt
     have hl69_6 : g37 < g69 := by rw [hg69]; exact (hE.h4).lt
     have hl69_7 : g66 < g69 := by rw [hg69]; exact (hE.h3).lt
     replace hE := hE.blk 27 #[.bool false, .slice none 0 0] (g := g69) hg69.symm;generalize w68.alloc (.cells #[.bool false, .slice none 0 0] 27) = W69 at hE ⊢;rw [← hg69];clear hg69;refine hK.out _ _ (hE.h9.j4 (hE.h8.j4 hE.h5.c2)) (fun hHeld => ?_);clear hK K;try simp only [PL]
     refine r1 12 (fun K hK => ?_)
     have hgl70 : w.heap.size ≤ g66 := by omega
     obtain ⟨x70_0, x70_1⟩ := (hE.h4).c2;obtain ⟨f70_0, f70_1⟩ := hE.h4.f2;replace hE := (((((((((((((Env.again (bel2 hE.bel hgl70 (.bool sk) (.slice Ak nk ck))).fv ((hE.h11).sep2 hE.h4 rfl _ _ rfl)).fv ((hE.h10).sep2 hE.h4 rfl _ _ rfl)).blkI ((hE.h9).far2 (by omega) _ _)).blkI ((hE.h8).far2 (by omega) _ _)).blkI ((hE.h7).far2 (by omega) _ _)).wv ((hE.h6).sep2 hE.h4 rfl _ _ rfl)).blkI ((hE.h5).far2 (by omega) _ _)).blkI ((hE.h4).s2 _ _)).wv ((hE.h3).sep2 hE.h4 rfl _ _ rfl)).wv ((hE.h2).sep2 hE.h4 rfl _ _ rfl)).wv ((hE.here.1.2).sep2 hE.h4 rfl _ _ rfl)).blkI ((hE.here.2).far2 (by omega) _ _));go_simp;clear x70_0 x70_1 f70_0 f70_1 hgl70;generalize ((W69.setCell ⟨g66, 0, none⟩ (.bool sk)).setCell ⟨g66, 1, none⟩ (.slice Ak nk ck)) = W70 at hE ⊢;refine hK.out _ _ (hE.h9.j4 (hE.h8.j4 hE.h5.c2)) (fun hHeld => ?_);clear hK K;try simp only [PL]
     refine r1 13 (fun K hK => ?_)
     have hgl71 : w.heap.size ≤ g69 := by omega
     obtain ⟨x71_0, x71_1⟩ := (hE.here.2).c2;obtain ⟨f71_0, f71_1⟩ := hE.here.2.f2;replace hE := (((((((((((((Env.again (bel2 hE.bel hgl71 (.bool sr) (.slice Ar nr cr))).fv ((hE.h11).sep2 hE.here.2 rfl _ _ rfl)).fv ((hE.h10).sep2 hE.here.2 rfl _ _ rfl)).blkI ((hE.h9).far2 (by omega) _ _)).blkI ((hE.h8).far2 (by omega) _ _)).blkI ((hE.h7).far2 (by omega) _ _)).wv ((hE.h6).sep2 hE.here.2 rfl _ _ rfl)).blkI ((hE.h5).far2 (by omega) _ _)).blkI ((hE.h4).far2 (by omega) _ _)).wv ((hE.h3).sep2 hE.here.2 rfl _ _ rfl)).wv ((hE.h2).sep2 hE.here.2 rfl _ _ rfl)).wv ((hE.here.1.2).sep2 hE.here.2 rfl _ _ rfl)).blkI ((hE.here.2).s2 _ _));go_simp;clear x71_0 x71_1 f71_0 f71_1 hgl71;generalize ((W70.setCell ⟨g69, 0, none⟩ (.bool sr)).setCell ⟨g69, 1, none⟩ (.slice Ar nr cr)) = W71 at hE ⊢;refine hK.out _ _ (hE.h9.j4 (hE.h8.j4 hE.h5.c2)) (fun hHeld => ?_);clear hK K;try simp only [PL]
     refine wpAnyH_done (by kernel_rfl) ?_ _;go_wp2_with fail
     go_meet
     exact ⟨g66, g69, sk, Ak, nk, ck, sr, Ar, nr, cr, rfl, rfl, ⟨by omega, by omega, by omega⟩, ((((((((((((Env.again hE.bel).fv (hE.h11)).fv (hE.h10)).blkI (hE.h9)).blkI (hE.h8)).blkI (hE.h7)).wv (hE.h6)).blkI (hE.h5)).wv (hE.h2)).wv (hE.here.1.2)).blkI (hE.h4)).blkI (hE.here.2))⟩
    ·
     go_simp
     obtain ⟨g72, hg72⟩ : ∃ g72, g72 = w67.heap.size := ⟨_, rfl⟩
     have hl72_2 : w.heap.size < g72 := by rw [hg72]; exact (hE.h6).lt
     have hl72_3 : w.heap.size + 1 < g72 := by rw [hg72]; exact (hE.h5).lt
     have hl72_4 : w.heap.size + 1 + 1 < g72 := by rw [hg72]; exact (hE.h4).lt
     have hl72_6 : g37 < g72 := by rw [hg72]; exact (hE.h2).lt
     have hl72_7 : g66 < g72 := by rw [hg72]; exact (hE.here.1.2).lt
     replace hE := hE.blk 27 #[.bool false, .slice none 0 0] (g := g72) hg72.symm;generalize w67.alloc (.cells #[.bool false, .slice none 0 0] 27) = W72 at hE ⊢;rw [← hg72];clear hg72;refine hK.out _ _ (hE.h7.j4 (hE.h6.j4 hE.h3.c2)) (fun hHeld => ?_);clear hK K;try simp only [PL]
     refine r1 6 (fun K hK => ?_);go_simp
     have lx : nx ≤ 512 := by rw [(hE.here.1.2).len]; exact HL.out.2.1
     have ly : ny ≤ 512 := by rw [(hE.h4).len]; exact HL.out.1
     have hc : Calls _ _ _ _ (WR2 (kQ a b) (rQ a b) _) := fdivide_v (ca := cx) (cb := cy) (hE.here.1.2) (hE.h4) (by omega) (by omega) (by omega);refine hc.mono ?_;clear hc
     rintro e w73 ⟨sk, Ak, nk, ck, sr, Ar, nr, cr, rfl, hk, hr, hb⟩
     replace hE := hE.step hb;clear hb;replace hE := (hE.wv hk).wv hr;clear hk hr lx ly;go_wp2_with fail
     refine hK.out _ _ (hE.h9.j4 (hE.h8.j4 hE.h5.c2)) (fun hHeld => ?_);clear hK K;try simp only [PL]
     refine tk 7 ?_;refine tk 8 ?_;refine tk 9 ?_;refine r1 12 (fun K hK => ?_)
     have hgl74 : w.heap.size ≤ g66 := by omega
     obtain ⟨x74_0, x74_1⟩ := (hE.h4).c2;obtain ⟨f74_0, f74_1⟩ := hE.h4.f2;replace hE := (((((((((((((Env.again (bel2 hE.bel hgl74 (.bool sk) (.slice Ak nk ck))).fv ((hE.h11).sep2 hE.h4 rfl _ _ rfl)).fv ((hE.h10).sep2 hE.h4 rfl _ _ rfl)).blkI ((hE.h9).far2 (by omega) _ _)).blkI ((hE.h8).far2 (by omega) _ _)).blkI ((hE.h7).far2 (by omega) _ _)).wv ((hE.h6).sep2 hE.h4 rfl _ _ rfl)).blkI ((hE.h5).far2 (by omega) _ _)).blkI ((hE.h4).s2 _ _)).wv ((hE.h3).sep2 hE.h4 rfl _ _ rfl)).blkI ((hE.h2).far2 (by omega) _ _)).wv ((hE.here.1.2).sep2 hE.h4 rfl _ _ rfl)).wv ((hE.here.2).sep2 hE.h4 rfl _ _ rfl));go_simp;clear x74_0 x74_1 f74_0 f74_1 hgl74;generalize ((w73.setCell ⟨g66, 0, none⟩ (.bool sk)).setCell ⟨g66, 1, none⟩ (.slice Ak nk ck)) = W74 at hE ⊢;refine hK.out _ _ (hE.h9.j4 (hE.h8.j4 hE.h5.c2)) (fun hHeld => ?_);clear hK K;try simp only [PL]
     refine r1 13 (fun K hK => ?_)
     have hgl75 : w.heap.size ≤ g72 := by omega
     obtain ⟨x75_0, x75_1⟩ := (hE.h2).c2;obtain ⟨f75_0, f75_1⟩ := hE.h2.f2;replace hE := (((((((((((((Env.again (bel2 hE.bel hgl75 (.bool sr) (.slice Ar nr cr))).fv ((hE.h11).sep2 hE.h2 rfl _ _ rfl)).fv ((hE.h10).sep2 hE.h2 rfl _ _ rfl)).blkI ((hE.h9).far2 (by omega) _ _)).blkI ((hE.h8).far2 (by omega) _ _)).blkI ((hE.h7).far2 (by omega) _ _)).wv ((hE.h6).sep2 hE.h2 rfl _ _ rfl)).blkI ((hE.h5).far2 (by omega) _ _)).blkI ((hE.h4).far2 (by omega) _ _)).wv ((hE.h3).sep2 hE.h2 rfl _ _ rfl)).blkI ((hE.h2).s2 _ _)).wv ((hE.here.1.2).sep2 hE.h2 rfl _ _ rfl)).wv ((hE.here.2).sep2 hE.h2 rfl _ _ rfl));go_simp;clear x75_0 x75_1 f75_0 f75_1 hgl75;generalize ((W74.setCell ⟨g72, 0, none⟩ (.bool sr)).setCell ⟨g72, 1, none⟩ (.slice Ar nr cr)) = W75 at hE ⊢;refine hK.out _ _ (hE.h9.j4 (hE.h8.j4 hE.h5.c2)) (fun hHeld => ?_);clear hK K;try simp only [PL]
     refine wpAnyH_done (by kernel_rfl) ?_ _;go_wp2_with fail
     go_meet
     exact ⟨g66, g72, sk, Ak, nk, ck, sr, Ar, nr, cr, rfl, rfl, ⟨by omega, by omega, by omega⟩, ((((((((((((Env.again hE.bel).fv (hE.h11)).fv (hE.h10)).blkI (hE.h9)).blkI (hE.h8)).blkI (hE.h7)).wv (hE.h6)).blkI (hE.h5)).wv (hE.here.1.2)).wv (hE.here.2)).blkI (hE.h4)).blkI (hE.h2))⟩
   ·
    go_simp
    obtain ⟨g76, hg76⟩ : ∃ g76, g76 = W66.heap.size := ⟨_, rfl⟩
    have hl76_2 : w.heap.size < g76 := by rw [hg76]; exact (hE.h5).lt
    have hl76_3 : w.heap.size + 1 < g76 := by rw [hg76]; exact (hE.h4).lt
    have hl76_4 : w.heap.size + 1 + 1 < g76 := by rw [hg76]; exact (hE.h3).lt
    have hl76_6 : g37 < g76 := by rw [hg76]; exact (hE.here.1.2).lt
    have hl76_7 : g66 < g76 := by rw [hg76]; exact (hE.here.2).lt
    replace hE := hE.blk 27 #[.bool false, .slice none 0 0] (g := g76) hg76.symm;generalize W66.alloc (.cells #[.bool false, .slice none 0 0] 27) = W76 at hE ⊢;rw [← hg76];clear hg76;refine hK.out _ _ (hE.h6.j4 (hE.h5.j4 hE.h2.c2)) (fun hHeld => ?_);clear hK K;try simp only [PL]
    refine r1 4 (fun K hK => ?_);go_simp;have hc : Calls _ _ _ _ (WR (topQ a b) _) := ftimes_v (ca := ca) (cb := db) (hE.h8).1 (hE.h7).2 (by omega) (by omega) (Nat.le_trans HL.out.2.1 (by decide));have hc := hc;refine hc.mono ?_;clear hc
    rintro e w77 ⟨sx, Ax, nx, cx, rfl, hx, hb⟩
    replace hE := hE.step hb;clear hb;replace hE := hE.wv hx;clear hx;go_wp2_with fail
    refine hK.out _ _ (hE.h7.j4 (hE.h6.j4 hE.h3.c2)) (fun hHeld => ?_);clear hK K;try simp only [PL]
    refine r1 6 (fun K hK => ?_);go_simp
    have lx : nx ≤ 512 := by rw [(hE.here.2).len]; exact HL.out.2.1
    have ly : ny ≤ 512 := by rw [(hE.h4).len]; exact HL.out.1
    have hc : Calls _ _ _ _ (WR2 (kQ a b) (rQ a b) _) := fdivide_v (ca := cx) (cb := cy) (hE.here.2) (hE.h4) (by omega) (by omega) (by omega);refine hc.mono ?_;clear hc
    rintro e w78 ⟨sk, Ak, nk, ck, sr, Ar, nr, cr, rfl, hk, hr, hb⟩
    replace hE := hE.step hb;clear hb;replace hE := (hE.wv hk).wv hr;clear hk hr lx ly;go_wp2_with fail
    refine hK.out _ _ (hE.h9.j4 (hE.h8.j4 hE.h5.c2)) (fun hHeld => ?_);clear hK K;try simp only [PL]
    refine tk 7 ?_;refine tk 8 ?_;refine tk 9 ?_;refine r1 12 (fun K hK => ?_)
    have hgl79 : w.heap.size ≤ g66 := by omega
    obtain ⟨x79_0, x79_1⟩ := (hE.h4).c2;obtain ⟨f79_0, f79_1⟩ := hE.h4.f2;replace hE := (((((((((((((Env.again (bel2 hE.bel hgl79 (.bool sk) (.slice Ak nk ck))).fv ((hE.h11).sep2 hE.h4 rfl _ _ rfl)).fv ((hE.h10).sep2 hE.h4 rfl _ _ rfl)).blkI ((hE.h9).far2 (by omega) _ _)).blkI ((hE.h8).far2 (by omega) _ _)).blkI ((hE.h7).far2 (by omega) _ _)).wv ((hE.h6).sep2 hE.h4 rfl _ _ rfl)).blkI ((hE.h5).far2 (by omega) _ _)).blkI ((hE.h4).s2 _ _)).blkI ((hE.h3).far2 (by omega) _ _)).wv ((hE.h2).sep2 hE.h4 rfl _ _ rfl)).wv ((hE.here.1.2).sep2 hE.h4 rfl _ _ rfl)).wv ((hE.here.2).sep2 hE.h4 rfl _ _ rfl));go_simp;clear x79_0 x79_1 f79_0 f79_1 hgl79;generalize ((w78.setCell ⟨g66, 0, none⟩ (.bool sk)).setCell ⟨g66, 1, none⟩ (.slice Ak nk ck)) = W79 at hE ⊢;refine hK.out _ _ (hE.h9.j4 (hE.h8.j4 hE.h5.c2)) (fun hHeld => ?_);clear hK K;try simp only [PL]
    refine r1 13 (fun K hK => ?_)
    have hgl80 : w.heap.size ≤ g76 := by omega
    obtain ⟨x80_0, x80_1⟩ := (hE.h3).c2;obtain ⟨f80_0, f80_1⟩ := hE.h3.f2;replace hE := (((((((((((((Env.again (bel2 hE.bel hgl80 (.bool sr) (.slice Ar nr cr))).fv ((hE.h11).sep2 hE.h3 rfl _ _ rfl)).fv ((hE.h10).sep2 hE.h3 rfl _ _ rfl)).blkI ((hE.h9).far2 (by omega) _ _)).blkI ((hE.h8).far2 (by omega) _ _)).blkI ((hE.h7).far2 (by omega) _ _)).wv ((hE.h6).sep2 hE.h3 rfl _ _ rfl)).blkI ((hE.h5).far2 (by omega) _ _)).blkI ((hE.h4).far2 (by omega) _ _)).blkI ((hE.h3).s2 _ _)).wv ((hE.h2).sep2 hE.h3 rfl _ _ rfl)).wv ((hE.here.1.2).sep2 hE.h3 rfl _ _ rfl)).wv ((hE.here.2).sep2 hE.h3 rfl _ _ rfl));go_simp;clear x80_0 x80_1 f80_0 f80_1 hgl80;generalize ((W79.setCell ⟨g76, 0, none⟩ (.bool sr)).setCell ⟨g76, 1, none⟩ (.slice Ar nr cr)) = W80 at hE ⊢;refine hK.out _ _ (hE.h9.j4 (hE.h8.j4 hE.h5.c2)) (fun hHeld => ?_);clear hK K;try simp only [PL]
    refine wpAnyH_done (by kernel_rfl) ?_ _;go_wp2_with fail
    go_meet
    exact ⟨g66, g76, sk, Ak, nk, ck, sr, Ar, nr, cr, rfl, rfl, ⟨by omega, by omega, by omega⟩, ((((((((((((Env.again hE.bel).fv (hE.h11)).fv (hE.h10)).blkI (hE.h9)).blkI (hE.h8)).blkI (hE.h7)).wv (hE.h6)).blkI (hE.h5)).wv (hE.here.1.2)).wv (hE.here.2)).blkI (hE.h4)).blkI (hE.h3))⟩
  ·
   go_simp
   obtain ⟨g81, hg81⟩ : ∃ g81, g81 = wd.heap.size := ⟨_, rfl⟩
   have hl81_2 : w.heap.size < g81 := by rw [hg81]; exact (hE.h4).lt
   have hl81_3 : w.heap.size + 1 < g81 := by rw [hg81]; exact (hE.h3).lt
   have hl81_4 : w.heap.size + 1 + 1 < g81 := by rw [hg81]; exact (hE.h2).lt
   have hl81_6 : g37 < g81 := by rw [hg81]; exact (hE.here.2).lt
   replace hE := hE.blk 27 #[.bool false, .slice none 0 0] (g := g81) hg81.symm;generalize wd.alloc (.cells #[.bool false, .slice none 0 0] 27) = W81 at hE ⊢;rw [← hg81];clear hg81;refine hK.out _ _ (hE.h5.j4 (hE.h4.j4 hE.here.1.2.c2)) (fun hHeld => ?_);clear hK K;try simp only [PL]
   refine wpAnyH_ready (rs := [4, 10]) (by kernel_rfl) (by simp) (AllReadyH.cons rfl (fun K hK => ?_) (AllReadyH.cons rfl (fun K hK => ?_) (AllReadyH.nil)))
   ·
    go_simp;have hc : Calls _ _ _ _ (WR (topQ a b) _) := ftimes_v (ca := ca) (cb := db) (hE.h7).1 (hE.h6).2 (by omega) (by omega) (Nat.le_trans HL.out.2.1 (by decide));have hc := hc;refine hc.mono ?_;clear hc
    rintro e w82 ⟨sx, Ax, nx, cx, rfl, hx, hb⟩
    replace hE := hE.step hb;clear hb;replace hE := hE.wv hx;clear hx;go_wp2_with fail
    refine hK.out _ _ (hE.h6.j4 (hE.h5.j4 hE.h2.c2)) (fun hHeld => ?_);clear hK K;try simp only [PL]
    refine wpAnyH_ready (rs := [6, 10]) (by kernel_rfl) (by simp) (AllReadyH.cons rfl (fun K hK => ?_) (AllReadyH.cons rfl (fun K hK => ?_) (AllReadyH.nil)))
    ·
     go_simp
     have lx : nx ≤ 512 := by rw [(hE.here.2).len]; exact HL.out.2.1
     have ly : ny ≤ 512 := by rw [(hE.h3).len]; exact HL.out.1
     have hc : Calls _ _ _ _ (WR2 (kQ a b) (rQ a b) _) := fdivide_v (ca := cx) (cb := cy) (hE.here.2) (hE.h3) (by omega) (by omega) (by omega);refine hc.mono ?_;clear hc
     rintro e w83 ⟨sk, Ak, nk, ck, sr, Ar, nr, cr, rfl, hk, hr, hb⟩
     replace hE := hE.step hb;clear hb;replace hE := (hE.wv hk).wv hr;clear hk hr lx ly;go_wp2_with fail
     refine hK.out _ _ (hE.h8.j4 (hE.h7.j4 hE.h4.c2)) (fun hHeld => ?_);clear hK K;try simp only [PL]
     refine tk 7 ?_;refine tk 8 ?_;refine tk 9 ?_;refine r1 10 (fun K hK => ?_);go_simp
     obtain ⟨g84, hg84⟩ : ∃ g84, g84 = w83.heap.size := ⟨_, rfl⟩
     have hl84_2 : w.heap.size < g84 := by rw [hg84]; exact (hE.h8).lt
     have hl84_3 : w.heap.size + 1 < g84 := by rw [hg84]; exact (hE.h7).lt
     have hl84_4 : w.heap.size + 1 + 1 < g84 := by rw [hg84]; exact (hE.h6).lt
     have hl84_6 : g37 < g84 := by rw [hg84]; exact (hE.h4).lt
     have hl84_7 : g81 < g84 := by rw [hg84]; exact (hE.h3).lt
     replace hE := hE.blk 27 #[.bool false, .slice none 0 0] (g := g84) hg84.symm;generalize w83.alloc (.cells #[.bool false, .slice none 0 0] 27) = W84 at hE ⊢;rw [← hg84];clear hg84;refine hK.out _ _ (hE.h9.j4 (hE.h8.j4 hE.h5.c2)) (fun hHeld => ?_);clear hK K;try simp only [PL]
     refine r1 12 (fun K hK => ?_)
     have hgl85 : w.heap.size ≤ g84 := by omega
     obtain ⟨x85_0, x85_1⟩ := (hE.here.2).c2;obtain ⟨f85_0, f85_1⟩ := hE.here.2.f2;replace hE := (((((((((((((Env.again (bel2 hE.bel hgl85 (.bool sk) (.slice Ak nk ck))).fv ((hE.h11).sep2 hE.here.2 rfl _ _ rfl)).fv ((hE.h10).sep2 hE.here.2 rfl _ _ rfl)).blkI ((hE.h9).far2 (by omega) _ _)).blkI ((hE.h8).far2 (by omega) _ _)).blkI ((hE.h7).far2 (by omega) _ _)).wv ((hE.h6).sep2 hE.here.2 rfl _ _ rfl)).blkI ((hE.h5).far2 (by omega) _ _)).blkI ((hE.h4).far2 (by omega) _ _)).wv ((hE.h3).sep2 hE.here.2 rfl _ _ rfl)).wv ((hE.h2).sep2 hE.here.2 rfl _ _ rfl)).wv ((hE.here.1.2).sep2 hE.here.2 rfl _ _ rfl)).blkI ((hE.here.2).s2 _ _));go_simp;clear x85_0 x85_1 f85_0 f85_1 hgl85;generalize ((W84.setCell ⟨g84, 0, none⟩ (.bool sk)).setCell ⟨g84, 1, none⟩ (.slice Ak nk ck)) = W85 at hE ⊢;refine hK.out _ _ (hE.h9.j4 (hE.h8.j4 hE.h5.c2)) (fun hHeld => ?_);clear hK K;try simp only [PL]
     refine r1 13 (fun K hK => ?_)
     have hgl86 : w.heap.size ≤ g81 := by omega
     obtain ⟨x86_0, x86_1⟩ := (hE.h4).c2;obtain ⟨f86_0, f86_1⟩ := hE.h4.f2;replace hE := (((((((((((((Env.again (bel2 hE.bel hgl86 (.bool sr) (.slice Ar nr cr))).fv ((hE.h11).sep2 hE.h4 rfl _ _ rfl)).fv ((hE.h10).sep2 hE.h4 rfl _ _ rfl)).blkI ((hE.h9).far2 (by omega) _ _)).blkI ((hE.h8).far2 (by omega) _ _)).blkI ((hE.h7).far2 (by omega) _ _)).wv ((hE.h6).sep2 hE.h4 rfl _ _ rfl)).blkI ((hE.h5).far2 (by omega) _ _)).blkI ((hE.h4).s2 _ _)).wv ((hE.h3).sep2 hE.h4 rfl _ _ rfl)).wv ((hE.h2).sep2 hE.h4 rfl _ _ rfl)).wv ((hE.here.1.2).sep2 hE.h4 rfl _ _ rfl)).blkI ((hE.here.2).far2 (by omega) _ _));go_simp;clear x86_0 x86_1 f86_0 f86_1 hgl86;generalize ((W85.setCell ⟨g81, 0, none⟩ (.bool sr)).setCell ⟨g81, 1, none⟩ (.slice Ar nr cr)) = W86 at hE ⊢;refine hK.out _ _ (hE.h9.j4 (hE.h8.j4 hE.h5.c2)) (fun hHeld => ?_);clear hK K;try simp only [PL]
     refine wpAnyH_done (by kernel_rfl) ?_ _;go_wp2_with fail
     go_meet
     exact ⟨g84, g81, sk, Ak, nk, ck, sr, Ar, nr, cr, rfl, rfl, ⟨by omega, by omega, by omega⟩, ((((((((((((Env.again hE.bel).fv (hE.h11)).fv (hE.h10)).blkI (hE.h9)).blkI (hE.h8)).blkI (hE.h7)).wv (hE.h6)).blkI (hE.h5)).wv (hE.h2)).wv (hE.here.1.2)).blkI (hE.here.2)).blkI (hE.h4))⟩
    ·
     go_simp
     obtain ⟨g87, hg87⟩ : ∃ g87, g87 = w82.heap.size := ⟨_, rfl⟩
     have hl87_2 : w.heap.size < g87 := by rw [hg87]; exact (hE.h6).lt
     have hl87_3 : w.heap.size + 1 < g87 := by rw [hg87]; exact (hE.h5).lt
     have hl87_4 : w.heap.size + 1 + 1 < g87 := by rw [hg87]; exact (hE.h4).lt
     have hl87_6 : g37 < g87 := by rw [hg87]; exact (hE.h2).lt
     have hl87_7 : g81 < g87 := by rw [hg87]; exact (hE.here.1.2).lt
     replace hE := hE.blk 27 #[.bool false, .slice none 0 0] (g := g87) hg87.symm;generalize w82.alloc (.cells #[.bool false, .slice none 0 0] 27) = W87 at hE ⊢;rw [← hg87];clear hg87;refine hK.out _ _ (hE.h7.j4 (hE.h6.j4 hE.h3.c2)) (fun hHeld => ?_);clear hK K;try simp only [PL]
     refine r1 6 (fun K hK => ?_);go_simp
     have lx : nx ≤ 512 := by rw [(hE.here.1.2).len]; exact HL.out.2.1
     have ly : ny ≤ 512 := by rw [(hE.h4).len]; exact HL.out.1
     have hc : Calls _ _ _ _ (WR2 (kQ a b) (rQ a b) _) := fdivide_v (ca := cx) (cb := cy) (hE.here.1.2) (hE.h4) (by omega) (by omega) (by omega);refine hc.mono ?_;clear hc
     rintro e w88 ⟨sk, Ak, nk, ck, sr, Ar, nr, cr, rfl, hk, hr, hb⟩
     replace hE := hE.step hb;clear hb;replace hE := (hE.wv hk).wv hr;clear hk hr lx ly;go_wp2_with fail
     refine hK.out _ _ (hE.h9.j4 (hE.h8.j4 hE.h5.c2)) (fun hHeld => ?_);clear hK K;try simp only [PL]
     refine tk 7 ?_;refine tk 8 ?_;refine tk 9 ?_;refine r1 12 (fun K hK => ?_)
     have hgl89 : w.heap.size ≤ g87 := by omega
     obtain ⟨x89_0, x89_1⟩ := (hE.h2).c2;obtain ⟨f89_0, f89_1⟩ := hE.h2.f2;replace hE := (((((((((((((Env.again (bel2 hE.bel hgl89 (.bool sk) (.slice Ak nk ck))).fv ((hE.h11).sep2 hE.h2 rfl _ _ rfl)).fv ((hE.h10).sep2 hE.h2 rfl _ _ rfl)).blkI ((hE.h9).far2 (by omega) _ _)).blkI ((hE.h8).far2 (by omega) _ _)).blkI ((hE.h7).far2 (by omega) _ _)).wv ((hE.h6).sep2 hE.h2 rfl _ _ rfl)).blkI ((hE.h5).far2 (by omega) _ _)).blkI ((hE.h4).far2 (by omega) _ _)).wv ((hE.h3).sep2 hE.h2 rfl _ _ rfl)).blkI ((hE.h2).s2 _ _)).wv ((hE.here.1.2).sep2 hE.h2 rfl _ _ rfl)).wv ((hE.here.2).sep2 hE.h2 rfl _ _ rfl));go_simp;clear x89_0 x89_1 f89_0 f89_1 hgl89;generalize ((w88.setCell ⟨g87, 0, none⟩ (.bool sk)).setCell ⟨g87, 1, none⟩ (.slice Ak nk ck)) = W89 at hE ⊢;refine hK.out _ _ (hE.h9.j4 (hE.h8.j4 hE.h5.c2)) (fun hHeld => ?_);clear hK K;try simp only [PL]
     refine r1 13 (fun K hK => ?_)
     have hgl90 : w.heap.size ≤ g81 := by omega
     obtain ⟨x90_0, x90_1⟩ := (hE.h4).c2;obtain ⟨f90_0, f90_1⟩ := hE.h4.f2;replace hE := (((((((((((((Env.again (bel2 hE.bel hgl90 (.bool sr) (.slice Ar nr cr))).fv ((hE.h11).sep2 hE.h4 rfl _ _ rfl)).fv ((hE.h10).sep2 hE.h4 rfl _ _ rfl)).blkI ((hE.h9).far2 (by omega) _ _)).blkI ((hE.h8).far2 (by omega) _ _)).blkI ((hE.h7).far2 (by omega) _ _)).wv ((hE.h6).sep2 hE.h4 rfl _ _ rfl)).blkI ((hE.h5).far2 (by omega) _ _)).blkI ((hE.h4).s2 _ _)).wv ((hE.h3).sep2 hE.h4 rfl _ _ rfl)).blkI ((hE.h2).far2 (by omega) _ _)).wv ((hE.here.1.2).sep2 hE.h4 rfl _ _ rfl)).wv ((hE.here.2).sep2 hE.h4 rfl _ _ rfl));go_simp;clear x90_0 x90_1 f90_0 f90_1 hgl90;generalize ((W89.setCell ⟨g81, 0, none⟩ (.bool sr)).setCell ⟨g81, 1, none⟩ (.slice Ar nr cr)) = W90 at hE ⊢;refine hK.out _ _ (hE.h9.j4 (hE.h8.j4 hE.h5.c2)) (fun hHeld => ?_);clear hK K;try simp only [PL]
     refine wpAnyH_done (by kernel_rfl) ?_ _;go_wp2_with fail
     go_meet
     exact ⟨g87, g81, sk, Ak, nk, ck, sr, Ar, nr, cr, rfl, rfl, ⟨by omega, by omega, by omega⟩, ((((((((((((Env.again hE.bel).fv (hE.h11)).fv (hE.h10)).blkI (hE.h9)).blkI (hE.h8)).blkI (hE.h7)).wv (hE.h6)).blkI (hE.h5)).wv (hE.here.1.2)).wv (hE.here.2)).blkI (hE.h2)).blkI (hE.h4))⟩
   ·
    go_simp
    obtain ⟨g91, hg91⟩ : ∃ g91, g91 = W81.heap.size := ⟨_, rfl⟩
    have hl91_2 : w.heap.size < g91 := by rw [hg91]; exact (hE.h5).lt
    have hl91_3 : w.heap.size + 1 < g91 := by rw [hg91]; exact (hE.h4).lt
    have hl91_4 : w.heap.size + 1 + 1 < g91 := by rw [hg91]; exact (hE.h3).lt
    have hl91_6 : g37 < g91 := by rw [hg91]; exact (hE.here.1.2).lt
    have hl91_7 : g81 < g91 := by rw [hg91]; exact (hE.here.2).lt
    replace hE := hE.blk 27 #[.bool false, .slice none 0 0] (g := g91) hg91.symm;generalize W81.alloc (.cells #[.bool false, .slice none 0 0] 27) = W91 at hE ⊢;rw [← hg91];clear hg91;refine hK.out _ _ (hE.h6.j4 (hE.h5.j4 hE.h2.c2)) (fun hHeld => ?_);clear hK K;try simp only [PL]
    refine r1 4 (fun K hK => ?_);go_simp;have hc : Calls _ _ _ _ (WR (topQ a b) _) := ftimes_v (ca := ca) (cb := db) (hE.h8).1 (hE.h7).2 (by omega) (by omega) (Nat.le_trans HL.out.2.1 (by decide));have hc := hc;refine hc.mono ?_;clear hc
    rintro e w92 ⟨sx, Ax, nx, cx, rfl, hx, hb⟩
    replace hE := hE.step hb;clear hb;replace hE := hE.wv hx;clear hx;go_wp2_with fail
    refine hK.out _ _ (hE.h7.j4 (hE.h6.j4 hE.h3.c2)) (fun hHeld => ?_);clear hK K;try simp only [PL]
    refine r1 6 (fun K hK => ?_);go_simp
    have lx : nx ≤ 512 := by rw [(hE.here.2).len]; exact HL.out.2.1
    have ly : ny ≤ 512 := by rw [(hE.h4).len]; exact HL.out.1
    have hc : Calls _ _ _ _ (WR2 (kQ a b) (rQ a b) _) := fdivide_v (ca := cx) (cb := cy) (hE.here.2) (hE.h4) (by omega) (by omega) (by omega);refine hc.mono ?_;clear hc
    rintro e w93 ⟨sk, Ak, nk, ck, sr, Ar, nr, cr, rfl, hk, hr, hb⟩
    replace hE := hE.step hb;clear hb;replace hE := (hE.wv hk).wv hr;clear hk hr lx ly;go_wp2_with fail
    refine hK.out _ _ (hE.h9.j4 (hE.h8.j4 hE.h5.c2)) (fun hHeld => ?_);clear hK K;try simp only [PL]
    refine tk 7 ?_;refine tk 8 ?_;refine tk 9 ?_;refine r1 12 (fun K hK => ?_)
    have hgl94 : w.heap.size ≤ g91 := by omega
    obtain ⟨x94_0, x94_1⟩ := (hE.h3).c2;obtain ⟨f94_0, f94_1⟩ := hE.h3.f2;replace hE := (((((((((((((Env.again (bel2 hE.bel hgl94 (.bool sk) (.slice Ak nk ck))).fv ((hE.h11).sep2 hE.h3 rfl _ _ rfl)).fv ((hE.h10).sep2 hE.h3 rfl _ _ rfl)).blkI ((hE.h9).far2 (by omega) _ _)).blkI ((hE.h8).far2 (by omega) _ _)).blkI ((hE.h7).far2 (by omega) _ _)).wv ((hE.h6).sep2 hE.h3 rfl _ _ rfl)).blkI ((hE.h5).far2 (by omega) _ _)).blkI ((hE.h4).far2 (by omega) _ _)).blkI ((hE.h3).s2 _ _)).wv ((hE.h2).sep2 hE.h3 rfl _ _ rfl)).wv ((hE.here.1.2).sep2 hE.h3 rfl _ _ rfl)).wv ((hE.here.2).sep2 hE.h3 rfl _ _ rfl));go_simp;clear x94_0 x94_1 f94_0 f94_1 hgl94;generalize ((w93.setCell ⟨g91, 0, none⟩ (.bool sk)).setCell ⟨g91, 1, none⟩ (.slice Ak nk ck)) = W94 at hE ⊢;refine hK.out _ _ (hE.h9.j4 (hE.h8.j4 hE.h5.c2)) (fun hHeld => ?_);clear hK K;try simp only [PL]
    refine r1 13 (fun K hK => ?_)
    have hgl95 : w.heap.size ≤ g81 := by omega
    obtain ⟨x95_0, x95_1⟩ := (hE.h4).c2;obtain ⟨f95_0, f95_1⟩ := hE.h4.f2;replace hE := (((((((((((((Env.again (bel2 hE.bel hgl95 (.bool sr) (.slice Ar nr cr))).fv ((hE.h11).sep2 hE.h4 rfl _ _ rfl)).fv ((hE.h10).sep2 hE.h4 rfl _ _ rfl)).blkI ((hE.h9).far2 (by omega) _ _)).blkI ((hE.h8).far2 (by omega) _ _)).blkI ((hE.h7).far2 (by omega) _ _)).wv ((hE.h6).sep2 hE.h4 rfl _ _ rfl)).blkI ((hE.h5).far2 (by omega) _ _)).blkI ((hE.h4).s2 _ _)).blkI ((hE.h3).far2 (by omega) _ _)).wv ((hE.h2).sep2 hE.h4 rfl _ _ rfl)).wv ((hE.here.1.2).sep2 hE.h4 rfl _ _ rfl)).wv ((hE.here.2).sep2 hE.h4 rfl _ _ rfl));go_simp;clear x95_0 x95_1 f95_0 f95_1 hgl95;generalize ((W94.setCell ⟨g81, 0, none⟩ (.bool sr)).setCell ⟨g81, 1, none⟩ (.slice Ar nr cr)) = W95 at hE ⊢;refine hK.out _ _ (hE.h9.j4 (hE.h8.j4 hE.h5.c2)) (fun hHeld => ?_);clear hK K;try simp only [PL]
    refine wpAnyH_done (by kernel_rfl) ?_ _;go_wp2_with fail
    go_meet
    exact ⟨g91, g81, sk, Ak, nk, ck, sr, Ar, nr, cr, rfl, rfl, ⟨by omega, by omega, by omega⟩, ((((((((((((Env.again hE.bel).fv (hE.h11)).fv (hE.h10)).blkI (hE.h9)).blkI (hE.h8)).blkI (hE.h7)).wv (hE.h6)).blkI (hE.h5)).wv (hE.here.1.2)).wv (hE.here.2)).blkI (hE.h3)).blkI (hE.h4))⟩
 case rest =>
 clear hE;obtain ⟨Gk, Gr, sk, Ak, nk, ck, sr, Ar, nr, cr, rfl, rfl, ⟨hGk, hGr, hGn⟩, hE⟩ := hcut;generalize wc = wk6 at hE ⊢
 have lk : nk ≤ 513 := by rw [(hE.h3).len]; exact HL.out.2.2.1
 have lr9 : nr ≤ 512 := by rw [(hE.h2).len]; exact HL.out.2.2.2
 have ly : ny ≤ 512 := by rw [(hE.h5).len]; exact HL.out.1
 by_cases h0 : rQ a b = 0
 ·
  have HRZ : Hid (roundZ m a b = kQ a b) := Lib.hid (by unfold roundZ; rw [if_pos h0])
  obtain rfl : nr = 0 := by rw [(hE.h2).len, h0]; exact ln_zero
  have lk2 : ln b16 (kQ a b).natAbs ≤ 514 := Nat.le_trans HL.out.2.2.1 (by decide);clear h0;obtain ⟨k96, k97⟩ := (hE.here.2).c2
  go_upto_region 11 with (fail)
  clear k96 k97;replace hE := hE.drew;refine wp_region_held_drew (S := fun w' => w'.cell? ⟨Gk, 0, none⟩ = some (.bool sk) ∧ w'.cell? ⟨Gk, 1, none⟩ = some (.slice Ak nk ck) ∧ w'.cell? ⟨w.heap.size + 1, 0, none⟩ = some (.bool false) ∧ w'.cell? ⟨w.heap.size + 1, 1, none⟩ = some (.slice Ab nb cb) ∧ w'.cell? ⟨w.heap.size + 1, 2, none⟩ = some (.bool tb) ∧ w'.cell? ⟨w.heap.size + 1, 3, none⟩ = some (.slice Bb mb db)) (by kernel_rfl) (hE.here.1.2.j2 hE.h7.c4) (fun hHeld => ?_);refine tk 0 ?_;refine tk 1 ?_;refine tk 2 ?_;refine tk 4 ?_;refine tk 5 ?_;refine r1 3 (fun K hK => ?_);go_simp;have hc := ftimes_v (ca := ck) (cb := cb) (hE.h3) (hE.h9).1 (by omega) (by omega) (Nat.le_trans (ln_mulZ (m := 514) (n := 256) lk2 qb1) (by decide));refine hc.mono ?_;clear hc
  rintro e w98 ⟨sp, Ap, np, cp, rfl, hp, hb⟩
  replace hE := hE.step hb;clear hb;replace hE := hE.wv hp;clear hp
  have lp : np ≤ 770 := by rw [(hE.here.2).len]; exact ln_mulZ (m := 514) (n := 256) lk2 qb1
  go_wp2_with fail
  refine hK.out _ _ (hE.h2.j2 hE.h8.c4) (fun hHeld => ?_);clear hK K;try simp only [PL]
  refine r1 6 (fun K hK => ?_);go_simp;have hc := flowest_v (ca := cp) (cb := db) (hE.here.2) (hE.h10).2 (by omega) (by omega) (den_nz b);rw [← HRZ.out] at hc;refine hE.fr hc ?_;clear hE hc;intro sf Af nf cf tf Bf mf df w99 hE;go_wp2_with fail
  refine hK.out _ _ (hE.h3.j2 hE.h9.c4) (fun hHeld => ?_);clear hK K;try simp only [PL]
  refine r1 7 (fun K hK => ?_);go_simp;refine hE.fr (fresult_ok (c := cf) (d := df) hE.here.2 lr) ?_;clear hE;intro sr Ar nr cr tr Br mr dr w100 hE;go_wp2_with fail
  refine hK.out _ _ (hE.h4.j2 hE.h10.c4) (fun hHeld => ?_);clear hK K;try simp only [PL]
  refine tk 8 ?_;refine tk 9 ?_;refine r1 10 (fun K hK => ?_)
  have hRl : w.heap.size ≤ w.heap.size + 1 + 1 := by omega
  obtain ⟨WW, hWW, hB, hV, hBel⟩ := ret_frac hE hE.h9 hRl hE.here.2 cr dr;obtain ⟨x0, x1, x2, x3⟩ := (hE.h9).c4;obtain ⟨fz0, fz1, fz2, fz3⟩ := hE.h9.f4;have HWW := Lib.hid hWW;clear hWW;have q101 := (hE.h4).far4 (R := w.heap.size + 1 + 1) (by omega) (.bool sr) (.slice Ar nr cr) (.bool tr) (.slice Br mr dr);rw [← HWW.out] at q101;have q102 := (hE.h10).far4 (R := w.heap.size + 1 + 1) (by omega) (.bool sr) (.slice Ar nr cr) (.bool tr) (.slice Br mr dr);rw [← HWW.out] at q102;go_simp;rw [← HWW.out];refine hK.out _ _ (q101.j2 q102.c4) (fun hHeld => ?_);clear hK K;try simp only [PL]
  refine tk 11 ?_;refine wpAnyH_done (by kernel_rfl) ?_ _;go_wp2_with fail
  obtain ⟨y0, y1, y2, y3⟩ := hB.c4;refine bodyPost_ret (v := .tuple #[.agg #[.bool sr, .slice Ar nr cr, .bool tr, .slice Br mr dr], .int .i64 0]) (by simp [results, Tryz.results43, go_sem, y0, y1, y2, y3]) rfl ?_;exact ⟨sr, Ar, nr, cr, tr, Br, mr, dr, rfl, hV, hBel⟩
 ·
  have hz : 0 < nr := by rw [(hE.h2).len]; exact (ln_pos b16_two).2 (by omega)
  have u1 : decide (0 < (nr : Int)) = true := decide_eq_true (by omega);have u2 : decide (0 < nr) = true := decide_eq_true hz;have H0 := Lib.hid h0;clear h0;obtain ⟨k103, k104⟩ := (hE.here.2).c2
  go_upto_region 8 with (fail)
  clear k103 k104;clear u1 u2
  obtain ⟨od, hod⟩ : ∃ v, v = oddQ a b := ⟨_, rfl⟩
  obtain ⟨hv, hhv⟩ : ∃ v, v = cmpZ (rQ a b + rQ a b) (botQ a b) := ⟨_, rfl⟩
  have HOD := Lib.hid hod;have HHV := Lib.hid hhv;clear hod hhv
  go_cut [11] from 54 to 74 (fun p wx => ∃ Gw, p = .pointer (some ⟨Gw, 0, none⟩) ∧ (g37 < Gw ∧ Gk ≠ Gw) ∧ Env w (fun V => ((((((((((((True ∧ FV V a sa Aa na ta Ba ma) ∧ FV V b false Ab nb tb Bb mb) ∧ Blk 29 (w.heap.size) #[.bool sa, .slice Aa na ca, .bool ta, .slice Ba ma da] V) ∧ Blk 29 (w.heap.size + 1) #[.bool false, .slice Ab nb cb, .bool tb, .slice Bb mb db] V) ∧ Blk 29 (w.heap.size + 1 + 1) #[.bool false, .slice none 0 0, .bool false, .slice none 0 0] V) ∧ WV V (botQ a b) sy Ay ny) ∧ Blk 27 (g37) #[.bool sy, .slice Ay ny cy] V) ∧ WV V (kQ a b) sk Ak nk) ∧ WV V (rQ a b) sr Ar nr) ∧ Blk 27 (Gk) #[.bool sk, .slice Ak nk ck] V) ∧ Blk 27 (Gr) #[.bool sr, .slice Ar nr cr] V) ∧ Blk 106 (Gw) #[.bool sa, .bool od, .int .i64 hv] V)) wx)
  case first =>
   by_cases hk0 : nk = 0
   ·
    subst hk0
    have hk9 : (kQ a b).natAbs = 0 := by
     have := (hE.h3).len;exact Nat.eq_zero_of_not_pos (fun h => by have := (ln_pos b16_two).2 h; omega)
    have hod2 : od = false := by rw [HOD.out]; unfold oddQ; rw [hk9]; rfl
    clear hk9 HOD;subst hod2;replace hE := hE.drew;refine wp_region_held_drew (S := fun w' => w'.cell? ⟨w.heap.size, 0, none⟩ = some (.bool sa) ∧ w'.cell? ⟨w.heap.size, 1, none⟩ = some (.slice Aa na ca) ∧ w'.cell? ⟨w.heap.size, 2, none⟩ = some (.bool ta) ∧ w'.cell? ⟨w.heap.size, 3, none⟩ = some (.slice Ba ma da) ∧ w'.cell? ⟨Gk, 0, none⟩ = some (.bool sk) ∧ w'.cell? ⟨Gk, 1, none⟩ = some (.slice Ak 0 ck) ∧ w'.cell? ⟨Gr, 0, none⟩ = some (.bool sr) ∧ w'.cell? ⟨Gr, 1, none⟩ = some (.slice Ar nr cr) ∧ w'.cell? ⟨g37, 0, none⟩ = some (.bool sy) ∧ w'.cell? ⟨g37, 1, none⟩ = some (.slice Ay ny cy)) (by kernel_rfl) (hE.h8.j4 (hE.here.1.2.j2 (hE.here.2.j2 hE.h4.c2))) (fun hHeld => ?_)
    generalize wk6.drew = wd at *
    refine tk 0 ?_;refine tk 1 ?_;refine tk 3 ?_;refine tk 4 ?_;refine tk 5 ?_;refine tk 6 ?_;refine tk 15 ?_;refine tk 16 ?_;refine tk 18 ?_;refine wpAnyH_ready (rs := [2, 21]) (by kernel_rfl) (by simp) (AllReadyH.cons rfl (fun K hK => ?_) (AllReadyH.cons rfl (fun K hK => ?_) (AllReadyH.nil)))
    ·
     go_simp;refine hE.br (ftneg_v (c := ca) (d := da) hE.h10) ?_;clear hE;intro w105 hE;go_wp2_with fail
     refine hK.out _ _ (hE.h8.j4 (hE.here.1.2.j2 (hE.here.2.j2 hE.h4.c2))) (fun hHeld => ?_);clear hK K;try simp only [PL]
     refine tk 7 ?_;refine tu 8 ?_;refine tu 9 ?_;refine tu 10 ?_;refine tu 11 ?_;refine tu 12 ?_;refine tu 13 ?_;refine tk 14 ?_;refine wpAnyH_ready (rs := [17, 21]) (by kernel_rfl) (by simp) (AllReadyH.cons rfl (fun K hK => ?_) (AllReadyH.cons rfl (fun K hK => ?_) (AllReadyH.nil)))
     ·
      go_simp;have l2r : ln b16 (rQ a b + rQ a b).natAbs ≤ 513 := ln_addZ (m := 512) HL.out.2.2.2 HL.out.2.2.2;have hc := fplus_v (ca := cr) (cb := cr) hE.h2 hE.h2 (by omega) (by omega) (Nat.le_trans l2r (by decide));refine hc.mono ?_;clear hc
      rintro e w106 ⟨su, Au, nu, cu, rfl, hu, hb⟩
      replace hE := hE.step hb;clear hb;replace hE := hE.wv hu;clear hu
      have lu : nu ≤ 513 := by rw [(hE.here.2).len]; exact l2r
      clear l2r;go_wp2_with fail
      refine hK.out _ _ (hE.h9.j4 (hE.h2.j2 (hE.here.1.2.j2 hE.h5.c2))) (fun hHeld => ?_);clear hK K;try simp only [PL]
      refine wpAnyH_ready (rs := [19, 21]) (by kernel_rfl) (by simp) (AllReadyH.cons rfl (fun K hK => ?_) (AllReadyH.cons rfl (fun K hK => ?_) (AllReadyH.nil)))
      ·
       go_simp;have hc := cmp_v (c := cu) (d := cy) (hE.here.2) (hE.h6) (by omega) (by omega);rw [← HHV.out] at hc;refine hE.br (hc) ?_;clear hE;intro w107 hE;go_wp2_with fail
       refine hK.out _ _ (hE.h9.j4 (hE.h2.j2 (hE.here.1.2.j2 hE.h5.c2))) (fun hHeld => ?_);clear hK K;try simp only [PL]
       refine tk 20 ?_;refine r1 21 (fun K hK => ?_);go_simp
       obtain ⟨g108, hg108⟩ : ∃ g108, g108 = w107.heap.size := ⟨_, rfl⟩
       have hl108_2 : w.heap.size < g108 := by rw [hg108]; exact (hE.h9).lt
       have hl108_3 : w.heap.size + 1 < g108 := by rw [hg108]; exact (hE.h8).lt
       have hl108_4 : w.heap.size + 1 + 1 < g108 := by rw [hg108]; exact (hE.h7).lt
       have hl108_6 : g37 < g108 := by rw [hg108]; exact (hE.h5).lt
       have hl108_9 : Gk < g108 := by rw [hg108]; exact (hE.h2).lt
       have hl108_10 : Gr < g108 := by rw [hg108]; exact (hE.here.1.2).lt
       replace hE := hE.blk 106 #[.bool false, .bool false, .int .i64 0] (g := g108) hg108.symm;generalize w107.alloc (.cells #[.bool false, .bool false, .int .i64 0] 106) = W108 at hE ⊢;rw [← hg108];clear hg108;refine hK.out _ _ (hE.h10.j4 (hE.h3.j2 (hE.h2.j2 hE.h6.c2))) (fun hHeld => ?_);clear hK K;try simp only [PL]
       refine r1 22 (fun K hK => ?_)
       have hgl109 : w.heap.size ≤ g108 := by omega
       obtain ⟨x109_0, x109_1, x109_2⟩ := (hE.here.2).c3;obtain ⟨f109_0, f109_1, f109_2⟩ := hE.here.2.f3;replace hE := ((((((((((((((Env.again (bel3 hE.bel hgl109 (.bool sa) (.bool false) (.int .i64 hv))).fv ((hE.h12).sep3 hE.here.2 rfl _ _ _ rfl rfl)).fv ((hE.h11).sep3 hE.here.2 rfl _ _ _ rfl rfl)).blkI ((hE.h10).far3 (by omega) _ _ _)).blkI ((hE.h9).far3 (by omega) _ _ _)).blkI ((hE.h8).far3 (by omega) _ _ _)).wv ((hE.h7).sep3 hE.here.2 rfl _ _ _ rfl rfl)).blkI ((hE.h6).far3 (by omega) _ _ _)).wv ((hE.h5).sep3 hE.here.2 rfl _ _ _ rfl rfl)).wv ((hE.h4).sep3 hE.here.2 rfl _ _ _ rfl rfl)).blkI ((hE.h3).far3 (by omega) _ _ _)).blkI ((hE.h2).far3 (by omega) _ _ _)).wv ((hE.here.1.2).sep3 hE.here.2 rfl _ _ _ rfl rfl)).blkI ((hE.here.2).s3 _ _ _));go_simp;clear x109_0 x109_1 x109_2 f109_0 f109_1 f109_2 hgl109;generalize (((W108.setCell ⟨g108, 0, none⟩ (.bool sa)).setCell ⟨g108, 1, none⟩ (.bool false)).setCell ⟨g108, 2, none⟩ (.int .i64 hv)) = W109 at hE ⊢;refine hK.out _ _ (hE.h10.j4 (hE.h3.j2 (hE.h2.j2 hE.h6.c2))) (fun hHeld => ?_);clear hK K;try simp only [PL]
       refine wpAnyH_done (by kernel_rfl) ?_ _;go_wp2_with fail
       go_meet
       exact ⟨g108, rfl, ⟨by omega, by omega⟩, (((((((((((((Env.again hE.bel).fv (hE.h12)).fv (hE.h11)).blkI (hE.h10)).blkI (hE.h9)).blkI (hE.h8)).wv (hE.h7)).blkI (hE.h6)).wv (hE.h5)).wv (hE.h4)).blkI (hE.h3)).blkI (hE.h2)).blkI (hE.here.2))⟩
      ·
       go_simp
       obtain ⟨g110, hg110⟩ : ∃ g110, g110 = w106.heap.size := ⟨_, rfl⟩
       have hl110_2 : w.heap.size < g110 := by rw [hg110]; exact (hE.h9).lt
       have hl110_3 : w.heap.size + 1 < g110 := by rw [hg110]; exact (hE.h8).lt
       have hl110_4 : w.heap.size + 1 + 1 < g110 := by rw [hg110]; exact (hE.h7).lt
       have hl110_6 : g37 < g110 := by rw [hg110]; exact (hE.h5).lt
       have hl110_9 : Gk < g110 := by rw [hg110]; exact (hE.h2).lt
       have hl110_10 : Gr < g110 := by rw [hg110]; exact (hE.here.1.2).lt
       replace hE := hE.blk 106 #[.bool false, .bool false, .int .i64 0] (g := g110) hg110.symm;generalize w106.alloc (.cells #[.bool false, .bool false, .int .i64 0] 106) = W110 at hE ⊢;rw [← hg110];clear hg110;refine hK.out _ _ (hE.h10.j4 (hE.h3.j2 (hE.h2.j2 hE.h6.c2))) (fun hHeld => ?_);clear hK K;try simp only [PL]
       refine r1 19 (fun K hK => ?_);go_simp;have hc := cmp_v (c := cu) (d := cy) (hE.here.1.2) (hE.h7) (by omega) (by omega);rw [← HHV.out] at hc;refine hE.br (hc) ?_;clear hE;intro w111 hE;go_wp2_with fail
       refine hK.out _ _ (hE.h10.j4 (hE.h3.j2 (hE.h2.j2 hE.h6.c2))) (fun hHeld => ?_);clear hK K;try simp only [PL]
       refine tk 20 ?_;refine r1 22 (fun K hK => ?_)
       have hgl112 : w.heap.size ≤ g110 := by omega
       obtain ⟨x112_0, x112_1, x112_2⟩ := (hE.here.2).c3;obtain ⟨f112_0, f112_1, f112_2⟩ := hE.here.2.f3;replace hE := ((((((((((((((Env.again (bel3 hE.bel hgl112 (.bool sa) (.bool false) (.int .i64 hv))).fv ((hE.h12).sep3 hE.here.2 rfl _ _ _ rfl rfl)).fv ((hE.h11).sep3 hE.here.2 rfl _ _ _ rfl rfl)).blkI ((hE.h10).far3 (by omega) _ _ _)).blkI ((hE.h9).far3 (by omega) _ _ _)).blkI ((hE.h8).far3 (by omega) _ _ _)).wv ((hE.h7).sep3 hE.here.2 rfl _ _ _ rfl rfl)).blkI ((hE.h6).far3 (by omega) _ _ _)).wv ((hE.h5).sep3 hE.here.2 rfl _ _ _ rfl rfl)).wv ((hE.h4).sep3 hE.here.2 rfl _ _ _ rfl rfl)).blkI ((hE.h3).far3 (by omega) _ _ _)).blkI ((hE.h2).far3 (by omega) _ _ _)).wv ((hE.here.1.2).sep3 hE.here.2 rfl _ _ _ rfl rfl)).blkI ((hE.here.2).s3 _ _ _));go_simp;clear x112_0 x112_1 x112_2 f112_0 f112_1 f112_2 hgl112;generalize (((w111.setCell ⟨g110, 0, none⟩ (.bool sa)).setCell ⟨g110, 1, none⟩ (.bool false)).setCell ⟨g110, 2, none⟩ (.int .i64 hv)) = W112 at hE ⊢;refine hK.out _ _ (hE.h10.j4 (hE.h3.j2 (hE.h2.j2 hE.h6.c2))) (fun hHeld => ?_);clear hK K;try simp only [PL]
       refine wpAnyH_done (by kernel_rfl) ?_ _;go_wp2_with fail
       go_meet
       exact ⟨g110, rfl, ⟨by omega, by omega⟩, (((((((((((((Env.again hE.bel).fv (hE.h12)).fv (hE.h11)).blkI (hE.h10)).blkI (hE.h9)).blkI (hE.h8)).wv (hE.h7)).blkI (hE.h6)).wv (hE.h5)).wv (hE.h4)).blkI (hE.h3)).blkI (hE.h2)).blkI (hE.here.2))⟩
     ·
      go_simp
      obtain ⟨g113, hg113⟩ : ∃ g113, g113 = w105.heap.size := ⟨_, rfl⟩
      have hl113_2 : w.heap.size < g113 := by rw [hg113]; exact (hE.h8).lt
      have hl113_3 : w.heap.size + 1 < g113 := by rw [hg113]; exact (hE.h7).lt
      have hl113_4 : w.heap.size + 1 + 1 < g113 := by rw [hg113]; exact (hE.h6).lt
      have hl113_6 : g37 < g113 := by rw [hg113]; exact (hE.h4).lt
      have hl113_9 : Gk < g113 := by rw [hg113]; exact (hE.here.1.2).lt
      have hl113_10 : Gr < g113 := by rw [hg113]; exact (hE.here.2).lt
      replace hE := hE.blk 106 #[.bool false, .bool false, .int .i64 0] (g := g113) hg113.symm;generalize w105.alloc (.cells #[.bool false, .bool false, .int .i64 0] 106) = W113 at hE ⊢;rw [← hg113];clear hg113;refine hK.out _ _ (hE.h9.j4 (hE.h2.j2 (hE.here.1.2.j2 hE.h5.c2))) (fun hHeld => ?_);clear hK K;try simp only [PL]
      refine r1 17 (fun K hK => ?_);go_simp;have l2r : ln b16 (rQ a b + rQ a b).natAbs ≤ 513 := ln_addZ (m := 512) HL.out.2.2.2 HL.out.2.2.2;have hc := fplus_v (ca := cr) (cb := cr) hE.h3 hE.h3 (by omega) (by omega) (Nat.le_trans l2r (by decide));refine hc.mono ?_;clear hc
      rintro e w114 ⟨su, Au, nu, cu, rfl, hu, hb⟩
      replace hE := hE.step hb;clear hb;replace hE := hE.wv hu;clear hu
      have lu : nu ≤ 513 := by rw [(hE.here.2).len]; exact l2r
      clear l2r;go_wp2_with fail
      refine hK.out _ _ (hE.h10.j4 (hE.h3.j2 (hE.h2.j2 hE.h6.c2))) (fun hHeld => ?_);clear hK K;try simp only [PL]
      refine r1 19 (fun K hK => ?_);go_simp;have hc := cmp_v (c := cu) (d := cy) (hE.here.2) (hE.h7) (by omega) (by omega);rw [← HHV.out] at hc;refine hE.br (hc) ?_;clear hE;intro w115 hE;go_wp2_with fail
      refine hK.out _ _ (hE.h10.j4 (hE.h3.j2 (hE.h2.j2 hE.h6.c2))) (fun hHeld => ?_);clear hK K;try simp only [PL]
      refine tk 20 ?_;refine r1 22 (fun K hK => ?_)
      have hgl116 : w.heap.size ≤ g113 := by omega
      obtain ⟨x116_0, x116_1, x116_2⟩ := (hE.here.1.2).c3;obtain ⟨f116_0, f116_1, f116_2⟩ := hE.here.1.2.f3;replace hE := ((((((((((((((Env.again (bel3 hE.bel hgl116 (.bool sa) (.bool false) (.int .i64 hv))).fv ((hE.h12).sep3 hE.here.1.2 rfl _ _ _ rfl rfl)).fv ((hE.h11).sep3 hE.here.1.2 rfl _ _ _ rfl rfl)).blkI ((hE.h10).far3 (by omega) _ _ _)).blkI ((hE.h9).far3 (by omega) _ _ _)).blkI ((hE.h8).far3 (by omega) _ _ _)).wv ((hE.h7).sep3 hE.here.1.2 rfl _ _ _ rfl rfl)).blkI ((hE.h6).far3 (by omega) _ _ _)).wv ((hE.h5).sep3 hE.here.1.2 rfl _ _ _ rfl rfl)).wv ((hE.h4).sep3 hE.here.1.2 rfl _ _ _ rfl rfl)).blkI ((hE.h3).far3 (by omega) _ _ _)).blkI ((hE.h2).far3 (by omega) _ _ _)).blkI ((hE.here.1.2).s3 _ _ _)).wv ((hE.here.2).sep3 hE.here.1.2 rfl _ _ _ rfl rfl));go_simp;clear x116_0 x116_1 x116_2 f116_0 f116_1 f116_2 hgl116;generalize (((w115.setCell ⟨g113, 0, none⟩ (.bool sa)).setCell ⟨g113, 1, none⟩ (.bool false)).setCell ⟨g113, 2, none⟩ (.int .i64 hv)) = W116 at hE ⊢;refine hK.out _ _ (hE.h10.j4 (hE.h3.j2 (hE.h2.j2 hE.h6.c2))) (fun hHeld => ?_);clear hK K;try simp only [PL]
      refine wpAnyH_done (by kernel_rfl) ?_ _;go_wp2_with fail
      go_meet
      exact ⟨g113, rfl, ⟨by omega, by omega⟩, (((((((((((((Env.again hE.bel).fv (hE.h12)).fv (hE.h11)).blkI (hE.h10)).blkI (hE.h9)).blkI (hE.h8)).wv (hE.h7)).blkI (hE.h6)).wv (hE.h5)).wv (hE.h4)).blkI (hE.h3)).blkI (hE.h2)).blkI (hE.here.1.2))⟩
    ·
     go_simp
     obtain ⟨g117, hg117⟩ : ∃ g117, g117 = wd.heap.size := ⟨_, rfl⟩
     have hl117_2 : w.heap.size < g117 := by rw [hg117]; exact (hE.h8).lt
     have hl117_3 : w.heap.size + 1 < g117 := by rw [hg117]; exact (hE.h7).lt
     have hl117_4 : w.heap.size + 1 + 1 < g117 := by rw [hg117]; exact (hE.h6).lt
     have hl117_6 : g37 < g117 := by rw [hg117]; exact (hE.h4).lt
     have hl117_9 : Gk < g117 := by rw [hg117]; exact (hE.here.1.2).lt
     have hl117_10 : Gr < g117 := by rw [hg117]; exact (hE.here.2).lt
     replace hE := hE.blk 106 #[.bool false, .bool false, .int .i64 0] (g := g117) hg117.symm;generalize wd.alloc (.cells #[.bool false, .bool false, .int .i64 0] 106) = W117 at hE ⊢;rw [← hg117];clear hg117;refine hK.out _ _ (hE.h9.j4 (hE.h2.j2 (hE.here.1.2.j2 hE.h5.c2))) (fun hHeld => ?_);clear hK K;try simp only [PL]
     refine r1 2 (fun K hK => ?_);go_simp;refine hE.br (ftneg_v (c := ca) (d := da) hE.h11) ?_;clear hE;intro w118 hE;go_wp2_with fail
     refine hK.out _ _ (hE.h9.j4 (hE.h2.j2 (hE.here.1.2.j2 hE.h5.c2))) (fun hHeld => ?_);clear hK K;try simp only [PL]
     refine tk 7 ?_;refine tu 8 ?_;refine tu 9 ?_;refine tu 10 ?_;refine tu 11 ?_;refine tu 12 ?_;refine tu 13 ?_;refine tk 14 ?_;refine r1 17 (fun K hK => ?_);go_simp;have l2r : ln b16 (rQ a b + rQ a b).natAbs ≤ 513 := ln_addZ (m := 512) HL.out.2.2.2 HL.out.2.2.2;have hc := fplus_v (ca := cr) (cb := cr) hE.h3 hE.h3 (by omega) (by omega) (Nat.le_trans l2r (by decide));refine hc.mono ?_;clear hc
     rintro e w119 ⟨su, Au, nu, cu, rfl, hu, hb⟩
     replace hE := hE.step hb;clear hb;replace hE := hE.wv hu;clear hu
     have lu : nu ≤ 513 := by rw [(hE.here.2).len]; exact l2r
     clear l2r;go_wp2_with fail
     refine hK.out _ _ (hE.h10.j4 (hE.h3.j2 (hE.h2.j2 hE.h6.c2))) (fun hHeld => ?_);clear hK K;try simp only [PL]
     refine r1 19 (fun K hK => ?_);go_simp;have hc := cmp_v (c := cu) (d := cy) (hE.here.2) (hE.h7) (by omega) (by omega);rw [← HHV.out] at hc;refine hE.br (hc) ?_;clear hE;intro w120 hE;go_wp2_with fail
     refine hK.out _ _ (hE.h10.j4 (hE.h3.j2 (hE.h2.j2 hE.h6.c2))) (fun hHeld => ?_);clear hK K;try simp only [PL]
     refine tk 20 ?_;refine r1 22 (fun K hK => ?_)
     have hgl121 : w.heap.size ≤ g117 := by omega
     obtain ⟨x121_0, x121_1, x121_2⟩ := (hE.here.1.2).c3;obtain ⟨f121_0, f121_1, f121_2⟩ := hE.here.1.2.f3;replace hE := ((((((((((((((Env.again (bel3 hE.bel hgl121 (.bool sa) (.bool false) (.int .i64 hv))).fv ((hE.h12).sep3 hE.here.1.2 rfl _ _ _ rfl rfl)).fv ((hE.h11).sep3 hE.here.1.2 rfl _ _ _ rfl rfl)).blkI ((hE.h10).far3 (by omega) _ _ _)).blkI ((hE.h9).far3 (by omega) _ _ _)).blkI ((hE.h8).far3 (by omega) _ _ _)).wv ((hE.h7).sep3 hE.here.1.2 rfl _ _ _ rfl rfl)).blkI ((hE.h6).far3 (by omega) _ _ _)).wv ((hE.h5).sep3 hE.here.1.2 rfl _ _ _ rfl rfl)).wv ((hE.h4).sep3 hE.here.1.2 rfl _ _ _ rfl rfl)).blkI ((hE.h3).far3 (by omega) _ _ _)).blkI ((hE.h2).far3 (by omega) _ _ _)).blkI ((hE.here.1.2).s3 _ _ _)).wv ((hE.here.2).sep3 hE.here.1.2 rfl _ _ _ rfl rfl));go_simp;clear x121_0 x121_1 x121_2 f121_0 f121_1 f121_2 hgl121;generalize (((w120.setCell ⟨g117, 0, none⟩ (.bool sa)).setCell ⟨g117, 1, none⟩ (.bool false)).setCell ⟨g117, 2, none⟩ (.int .i64 hv)) = W121 at hE ⊢;refine hK.out _ _ (hE.h10.j4 (hE.h3.j2 (hE.h2.j2 hE.h6.c2))) (fun hHeld => ?_);clear hK K;try simp only [PL]
     refine wpAnyH_done (by kernel_rfl) ?_ _;go_wp2_with fail
     go_meet
     exact ⟨g117, rfl, ⟨by omega, by omega⟩, (((((((((((((Env.again hE.bel).fv (hE.h12)).fv (hE.h11)).blkI (hE.h10)).blkI (hE.h9)).blkI (hE.h8)).wv (hE.h7)).blkI (hE.h6)).wv (hE.h5)).wv (hE.h4)).blkI (hE.h3)).blkI (hE.h2)).blkI (hE.here.1.2))⟩
   ·
    obtain ⟨bl, ol, dl, rfl, hbl, hcl, hdl⟩ := limb_zero (hE.h3) (by omega)
    have hod2 : (((dl : Nat) : Int).tmod 2 == 1) = od := by
     rw [HOD.out, Int.tmod_eq_emod_of_nonneg (by omega)]; unfold oddQ; rw [← hdl, Bool.eq_iff_iff, beq_iff_eq, beq_iff_eq]; omega
    clear hdl;have v1 : decide (0 < (nk : Int)) = true := decide_eq_true (by omega);have v2 : decide (0 < nk) = true := decide_eq_true (by omega)
    have v3 : 0 < nk := by omega
    replace hE := hE.at_ hbl hcl;clear hbl hcl;replace hE := hE.drew;refine wp_region_held_drew (S := fun w' => w'.cell? ⟨w.heap.size, 0, none⟩ = some (.bool sa) ∧ w'.cell? ⟨w.heap.size, 1, none⟩ = some (.slice Aa na ca) ∧ w'.cell? ⟨w.heap.size, 2, none⟩ = some (.bool ta) ∧ w'.cell? ⟨w.heap.size, 3, none⟩ = some (.slice Ba ma da) ∧ w'.cell? ⟨Gk, 0, none⟩ = some (.bool sk) ∧ w'.cell? ⟨Gk, 1, none⟩ = some (.slice (some ⟨bl, ol, none⟩) nk ck) ∧ w'.cell? ⟨Gr, 0, none⟩ = some (.bool sr) ∧ w'.cell? ⟨Gr, 1, none⟩ = some (.slice Ar nr cr) ∧ w'.cell? ⟨g37, 0, none⟩ = some (.bool sy) ∧ w'.cell? ⟨g37, 1, none⟩ = some (.slice Ay ny cy) ∧ w'.cell? ⟨bl, ol, none⟩ = some (.int .u16 ((dl : Nat) : Int))) (by kernel_rfl) (hE.h9.j4 (hE.h2.j2 (hE.here.1.2.j2 (hE.h5.j2 (hE.here.2).2)))) (fun hHeld => ?_)
    generalize wk6.drew = wd at *
    refine tk 0 ?_;refine tk 1 ?_;refine tk 3 ?_;refine tk 4 ?_;refine tk 5 ?_;refine tk 6 ?_;refine tk 15 ?_;refine tk 16 ?_;refine tk 18 ?_;refine wpAnyH_ready (rs := [2, 21]) (by kernel_rfl) (by simp) (AllReadyH.cons rfl (fun K hK => ?_) (AllReadyH.cons rfl (fun K hK => ?_) (AllReadyH.nil)))
    ·
     go_simp;refine hE.br (ftneg_v (c := ca) (d := da) hE.h11) ?_;clear hE;intro w122 hE;go_wp2_with fail
     refine hK.out _ _ (hE.h9.j4 (hE.h2.j2 (hE.here.1.2.j2 (hE.h5.j2 (hE.here.2).2)))) (fun hHeld => ?_);clear hK K;try simp only [PL]
     refine tk 7 ?_;refine tk 8 ?_;refine tk 9 ?_;refine tk 10 ?_;refine tk 11 ?_;refine tk 12 ?_;refine tk 13 ?_;refine tk 14 ?_;refine wpAnyH_ready (rs := [17, 21]) (by kernel_rfl) (by simp) (AllReadyH.cons rfl (fun K hK => ?_) (AllReadyH.cons rfl (fun K hK => ?_) (AllReadyH.nil)))
     ·
      go_simp;have l2r : ln b16 (rQ a b + rQ a b).natAbs ≤ 513 := ln_addZ (m := 512) HL.out.2.2.2 HL.out.2.2.2;have hc := fplus_v (ca := cr) (cb := cr) hE.h3 hE.h3 (by omega) (by omega) (Nat.le_trans l2r (by decide));refine hc.mono ?_;clear hc
      rintro e w123 ⟨su, Au, nu, cu, rfl, hu, hb⟩
      replace hE := hE.step hb;clear hb;replace hE := hE.wv hu;clear hu
      have lu : nu ≤ 513 := by rw [(hE.here.2).len]; exact l2r
      clear l2r;go_wp2_with fail
      refine hK.out _ _ (hE.h10.j4 (hE.h3.j2 (hE.h2.j2 (hE.h6.j2 (hE.here.1.2).2)))) (fun hHeld => ?_);clear hK K;try simp only [PL]
      refine wpAnyH_ready (rs := [19, 21]) (by kernel_rfl) (by simp) (AllReadyH.cons rfl (fun K hK => ?_) (AllReadyH.cons rfl (fun K hK => ?_) (AllReadyH.nil)))
      ·
       go_simp;have hc := cmp_v (c := cu) (d := cy) (hE.here.2) (hE.h7) (by omega) (by omega);rw [← HHV.out] at hc;refine hE.br (hc) ?_;clear hE;intro w124 hE;go_wp2_with fail
       refine hK.out _ _ (hE.h10.j4 (hE.h3.j2 (hE.h2.j2 (hE.h6.j2 (hE.here.1.2).2)))) (fun hHeld => ?_);clear hK K;try simp only [PL]
       refine tk 20 ?_;refine r1 21 (fun K hK => ?_);go_simp
       obtain ⟨g125, hg125⟩ : ∃ g125, g125 = w124.heap.size := ⟨_, rfl⟩
       have hl125_2 : w.heap.size < g125 := by rw [hg125]; exact (hE.h10).lt
       have hl125_3 : w.heap.size + 1 < g125 := by rw [hg125]; exact (hE.h9).lt
       have hl125_4 : w.heap.size + 1 + 1 < g125 := by rw [hg125]; exact (hE.h8).lt
       have hl125_6 : g37 < g125 := by rw [hg125]; exact (hE.h6).lt
       have hl125_9 : Gk < g125 := by rw [hg125]; exact (hE.h3).lt
       have hl125_10 : Gr < g125 := by rw [hg125]; exact (hE.h2).lt
       replace hE := hE.blk 106 #[.bool false, .bool false, .int .i64 0] (g := g125) hg125.symm;generalize w124.alloc (.cells #[.bool false, .bool false, .int .i64 0] 106) = W125 at hE ⊢;rw [← hg125];clear hg125;refine hK.out _ _ (hE.h11.j4 (hE.h4.j2 (hE.h3.j2 (hE.h7.j2 (hE.h2).2)))) (fun hHeld => ?_);clear hK K;try simp only [PL]
       refine r1 22 (fun K hK => ?_)
       have hgl126 : w.heap.size ≤ g125 := by omega
       obtain ⟨x126_0, x126_1, x126_2⟩ := (hE.here.2).c3;obtain ⟨f126_0, f126_1, f126_2⟩ := hE.here.2.f3;replace hE := (((((((((((((((Env.again (bel3 hE.bel hgl126 (.bool sa) (.bool od) (.int .i64 hv))).fv ((hE.h13).sep3 hE.here.2 rfl _ _ _ rfl rfl)).fv ((hE.h12).sep3 hE.here.2 rfl _ _ _ rfl rfl)).blkI ((hE.h11).far3 (by omega) _ _ _)).blkI ((hE.h10).far3 (by omega) _ _ _)).blkI ((hE.h9).far3 (by omega) _ _ _)).wv ((hE.h8).sep3 hE.here.2 rfl _ _ _ rfl rfl)).blkI ((hE.h7).far3 (by omega) _ _ _)).wv ((hE.h6).sep3 hE.here.2 rfl _ _ _ rfl rfl)).wv ((hE.h5).sep3 hE.here.2 rfl _ _ _ rfl rfl)).blkI ((hE.h4).far3 (by omega) _ _ _)).blkI ((hE.h3).far3 (by omega) _ _ _)).atI ((hE.h2).far3 (by first | omega | exact At.apart (hE.h2) (hE.here.2) rfl) _ _ _)).wv ((hE.here.1.2).sep3 hE.here.2 rfl _ _ _ rfl rfl)).blkI ((hE.here.2).s3 _ _ _));go_simp;clear x126_0 x126_1 x126_2 f126_0 f126_1 f126_2 hgl126;generalize (((W125.setCell ⟨g125, 0, none⟩ (.bool sa)).setCell ⟨g125, 1, none⟩ (.bool od)).setCell ⟨g125, 2, none⟩ (.int .i64 hv)) = W126 at hE ⊢;refine hK.out _ _ (hE.h11.j4 (hE.h4.j2 (hE.h3.j2 (hE.h7.j2 (hE.h2).2)))) (fun hHeld => ?_);clear hK K;try simp only [PL]
       refine wpAnyH_done (by kernel_rfl) ?_ _;go_wp2_with fail
       go_meet
       exact ⟨g125, rfl, ⟨by omega, by omega⟩, (((((((((((((Env.again hE.bel).fv (hE.h13)).fv (hE.h12)).blkI (hE.h11)).blkI (hE.h10)).blkI (hE.h9)).wv (hE.h8)).blkI (hE.h7)).wv (hE.h6)).wv (hE.h5)).blkI (hE.h4)).blkI (hE.h3)).blkI (hE.here.2))⟩
      ·
       go_simp
       obtain ⟨g127, hg127⟩ : ∃ g127, g127 = w123.heap.size := ⟨_, rfl⟩
       have hl127_2 : w.heap.size < g127 := by rw [hg127]; exact (hE.h10).lt
       have hl127_3 : w.heap.size + 1 < g127 := by rw [hg127]; exact (hE.h9).lt
       have hl127_4 : w.heap.size + 1 + 1 < g127 := by rw [hg127]; exact (hE.h8).lt
       have hl127_6 : g37 < g127 := by rw [hg127]; exact (hE.h6).lt
       have hl127_9 : Gk < g127 := by rw [hg127]; exact (hE.h3).lt
       have hl127_10 : Gr < g127 := by rw [hg127]; exact (hE.h2).lt
       replace hE := hE.blk 106 #[.bool false, .bool false, .int .i64 0] (g := g127) hg127.symm;generalize w123.alloc (.cells #[.bool false, .bool false, .int .i64 0] 106) = W127 at hE ⊢;rw [← hg127];clear hg127;refine hK.out _ _ (hE.h11.j4 (hE.h4.j2 (hE.h3.j2 (hE.h7.j2 (hE.h2).2)))) (fun hHeld => ?_);clear hK K;try simp only [PL]
       refine r1 19 (fun K hK => ?_);go_simp;have hc := cmp_v (c := cu) (d := cy) (hE.here.1.2) (hE.h8) (by omega) (by omega);rw [← HHV.out] at hc;refine hE.br (hc) ?_;clear hE;intro w128 hE;go_wp2_with fail
       refine hK.out _ _ (hE.h11.j4 (hE.h4.j2 (hE.h3.j2 (hE.h7.j2 (hE.h2).2)))) (fun hHeld => ?_);clear hK K;try simp only [PL]
       refine tk 20 ?_;refine r1 22 (fun K hK => ?_)
       have hgl129 : w.heap.size ≤ g127 := by omega
       obtain ⟨x129_0, x129_1, x129_2⟩ := (hE.here.2).c3;obtain ⟨f129_0, f129_1, f129_2⟩ := hE.here.2.f3;replace hE := (((((((((((((((Env.again (bel3 hE.bel hgl129 (.bool sa) (.bool od) (.int .i64 hv))).fv ((hE.h13).sep3 hE.here.2 rfl _ _ _ rfl rfl)).fv ((hE.h12).sep3 hE.here.2 rfl _ _ _ rfl rfl)).blkI ((hE.h11).far3 (by omega) _ _ _)).blkI ((hE.h10).far3 (by omega) _ _ _)).blkI ((hE.h9).far3 (by omega) _ _ _)).wv ((hE.h8).sep3 hE.here.2 rfl _ _ _ rfl rfl)).blkI ((hE.h7).far3 (by omega) _ _ _)).wv ((hE.h6).sep3 hE.here.2 rfl _ _ _ rfl rfl)).wv ((hE.h5).sep3 hE.here.2 rfl _ _ _ rfl rfl)).blkI ((hE.h4).far3 (by omega) _ _ _)).blkI ((hE.h3).far3 (by omega) _ _ _)).atI ((hE.h2).far3 (by first | omega | exact At.apart (hE.h2) (hE.here.2) rfl) _ _ _)).wv ((hE.here.1.2).sep3 hE.here.2 rfl _ _ _ rfl rfl)).blkI ((hE.here.2).s3 _ _ _));go_simp;clear x129_0 x129_1 x129_2 f129_0 f129_1 f129_2 hgl129;generalize (((w128.setCell ⟨g127, 0, none⟩ (.bool sa)).setCell ⟨g127, 1, none⟩ (.bool od)).setCell ⟨g127, 2, none⟩ (.int .i64 hv)) = W129 at hE ⊢;refine hK.out _ _ (hE.h11.j4 (hE.h4.j2 (hE.h3.j2 (hE.h7.j2 (hE.h2).2)))) (fun hHeld => ?_);clear hK K;try simp only [PL]
       refine wpAnyH_done (by kernel_rfl) ?_ _;go_wp2_with fail
       go_meet
       exact ⟨g127, rfl, ⟨by omega, by omega⟩, (((((((((((((Env.again hE.bel).fv (hE.h13)).fv (hE.h12)).blkI (hE.h11)).blkI (hE.h10)).blkI (hE.h9)).wv (hE.h8)).blkI (hE.h7)).wv (hE.h6)).wv (hE.h5)).blkI (hE.h4)).blkI (hE.h3)).blkI (hE.here.2))⟩
     ·
      go_simp
      obtain ⟨g130, hg130⟩ : ∃ g130, g130 = w122.heap.size := ⟨_, rfl⟩
      have hl130_2 : w.heap.size < g130 := by rw [hg130]; exact (hE.h9).lt
      have hl130_3 : w.heap.size + 1 < g130 := by rw [hg130]; exact (hE.h8).lt
      have hl130_4 : w.heap.size + 1 + 1 < g130 := by rw [hg130]; exact (hE.h7).lt
      have hl130_6 : g37 < g130 := by rw [hg130]; exact (hE.h5).lt
      have hl130_9 : Gk < g130 := by rw [hg130]; exact (hE.h2).lt
      have hl130_10 : Gr < g130 := by rw [hg130]; exact (hE.here.1.2).lt
      replace hE := hE.blk 106 #[.bool false, .bool false, .int .i64 0] (g := g130) hg130.symm;generalize w122.alloc (.cells #[.bool false, .bool false, .int .i64 0] 106) = W130 at hE ⊢;rw [← hg130];clear hg130;refine hK.out _ _ (hE.h10.j4 (hE.h3.j2 (hE.h2.j2 (hE.h6.j2 (hE.here.1.2).2)))) (fun hHeld => ?_);clear hK K;try simp only [PL]
      refine r1 17 (fun K hK => ?_);go_simp;have l2r : ln b16 (rQ a b + rQ a b).natAbs ≤ 513 := ln_addZ (m := 512) HL.out.2.2.2 HL.out.2.2.2;have hc := fplus_v (ca := cr) (cb := cr) hE.h4 hE.h4 (by omega) (by omega) (Nat.le_trans l2r (by decide));refine hc.mono ?_;clear hc
      rintro e w131 ⟨su, Au, nu, cu, rfl, hu, hb⟩
      replace hE := hE.step hb;clear hb;replace hE := hE.wv hu;clear hu
      have lu : nu ≤ 513 := by rw [(hE.here.2).len]; exact l2r
      clear l2r;go_wp2_with fail
      refine hK.out _ _ (hE.h11.j4 (hE.h4.j2 (hE.h3.j2 (hE.h7.j2 (hE.h2).2)))) (fun hHeld => ?_);clear hK K;try simp only [PL]
      refine r1 19 (fun K hK => ?_);go_simp;have hc := cmp_v (c := cu) (d := cy) (hE.here.2) (hE.h8) (by omega) (by omega);rw [← HHV.out] at hc;refine hE.br (hc) ?_;clear hE;intro w132 hE;go_wp2_with fail
      refine hK.out _ _ (hE.h11.j4 (hE.h4.j2 (hE.h3.j2 (hE.h7.j2 (hE.h2).2)))) (fun hHeld => ?_);clear hK K;try simp only [PL]
      refine tk 20 ?_;refine r1 22 (fun K hK => ?_)
      have hgl133 : w.heap.size ≤ g130 := by omega
      obtain ⟨x133_0, x133_1, x133_2⟩ := (hE.here.1.2).c3;obtain ⟨f133_0, f133_1, f133_2⟩ := hE.here.1.2.f3;replace hE := (((((((((((((((Env.again (bel3 hE.bel hgl133 (.bool sa) (.bool od) (.int .i64 hv))).fv ((hE.h13).sep3 hE.here.1.2 rfl _ _ _ rfl rfl)).fv ((hE.h12).sep3 hE.here.1.2 rfl _ _ _ rfl rfl)).blkI ((hE.h11).far3 (by omega) _ _ _)).blkI ((hE.h10).far3 (by omega) _ _ _)).blkI ((hE.h9).far3 (by omega) _ _ _)).wv ((hE.h8).sep3 hE.here.1.2 rfl _ _ _ rfl rfl)).blkI ((hE.h7).far3 (by omega) _ _ _)).wv ((hE.h6).sep3 hE.here.1.2 rfl _ _ _ rfl rfl)).wv ((hE.h5).sep3 hE.here.1.2 rfl _ _ _ rfl rfl)).blkI ((hE.h4).far3 (by omega) _ _ _)).blkI ((hE.h3).far3 (by omega) _ _ _)).atI ((hE.h2).far3 (by first | omega | exact At.apart (hE.h2) (hE.here.1.2) rfl) _ _ _)).blkI ((hE.here.1.2).s3 _ _ _)).wv ((hE.here.2).sep3 hE.here.1.2 rfl _ _ _ rfl rfl));go_simp;clear x133_0 x133_1 x133_2 f133_0 f133_1 f133_2 hgl133;generalize (((w132.setCell ⟨g130, 0, none⟩ (.bool sa)).setCell ⟨g130, 1, none⟩ (.bool od)).setCell ⟨g130, 2, none⟩ (.int .i64 hv)) = W133 at hE ⊢;refine hK.out _ _ (hE.h11.j4 (hE.h4.j2 (hE.h3.j2 (hE.h7.j2 (hE.h2).2)))) (fun hHeld => ?_);clear hK K;try simp only [PL]
      refine wpAnyH_done (by kernel_rfl) ?_ _;go_wp2_with fail
      go_meet
      exact ⟨g130, rfl, ⟨by omega, by omega⟩, (((((((((((((Env.again hE.bel).fv (hE.h13)).fv (hE.h12)).blkI (hE.h11)).blkI (hE.h10)).blkI (hE.h9)).wv (hE.h8)).blkI (hE.h7)).wv (hE.h6)).wv (hE.h5)).blkI (hE.h4)).blkI (hE.h3)).blkI (hE.here.1.2))⟩
    ·
     go_simp
     obtain ⟨g134, hg134⟩ : ∃ g134, g134 = wd.heap.size := ⟨_, rfl⟩
     have hl134_2 : w.heap.size < g134 := by rw [hg134]; exact (hE.h9).lt
     have hl134_3 : w.heap.size + 1 < g134 := by rw [hg134]; exact (hE.h8).lt
     have hl134_4 : w.heap.size + 1 + 1 < g134 := by rw [hg134]; exact (hE.h7).lt
     have hl134_6 : g37 < g134 := by rw [hg134]; exact (hE.h5).lt
     have hl134_9 : Gk < g134 := by rw [hg134]; exact (hE.h2).lt
     have hl134_10 : Gr < g134 := by rw [hg134]; exact (hE.here.1.2).lt
     replace hE := hE.blk 106 #[.bool false, .bool false, .int .i64 0] (g := g134) hg134.symm;generalize wd.alloc (.cells #[.bool false, .bool false, .int .i64 0] 106) = W134 at hE ⊢;rw [← hg134];clear hg134;refine hK.out _ _ (hE.h10.j4 (hE.h3.j2 (hE.h2.j2 (hE.h6.j2 (hE.here.1.2).2)))) (fun hHeld => ?_);clear hK K;try simp only [PL]
     refine r1 2 (fun K hK => ?_);go_simp;refine hE.br (ftneg_v (c := ca) (d := da) hE.h12) ?_;clear hE;intro w135 hE;go_wp2_with fail
     refine hK.out _ _ (hE.h10.j4 (hE.h3.j2 (hE.h2.j2 (hE.h6.j2 (hE.here.1.2).2)))) (fun hHeld => ?_);clear hK K;try simp only [PL]
     refine tk 7 ?_;refine tk 8 ?_;refine tk 9 ?_;refine tk 10 ?_;refine tk 11 ?_;refine tk 12 ?_;refine tk 13 ?_;refine tk 14 ?_;refine r1 17 (fun K hK => ?_);go_simp;have l2r : ln b16 (rQ a b + rQ a b).natAbs ≤ 513 := ln_addZ (m := 512) HL.out.2.2.2 HL.out.2.2.2;have hc := fplus_v (ca := cr) (cb := cr) hE.h4 hE.h4 (by omega) (by omega) (Nat.le_trans l2r (by decide));refine hc.mono ?_;clear hc
     rintro e w136 ⟨su, Au, nu, cu, rfl, hu, hb⟩
     replace hE := hE.step hb;clear hb;replace hE := hE.wv hu;clear hu
     have lu : nu ≤ 513 := by rw [(hE.here.2).len]; exact l2r
     clear l2r;go_wp2_with fail
     refine hK.out _ _ (hE.h11.j4 (hE.h4.j2 (hE.h3.j2 (hE.h7.j2 (hE.h2).2)))) (fun hHeld => ?_);clear hK K;try simp only [PL]
     refine r1 19 (fun K hK => ?_);go_simp;have hc := cmp_v (c := cu) (d := cy) (hE.here.2) (hE.h8) (by omega) (by omega);rw [← HHV.out] at hc;refine hE.br (hc) ?_;clear hE;intro w137 hE;go_wp2_with fail
     refine hK.out _ _ (hE.h11.j4 (hE.h4.j2 (hE.h3.j2 (hE.h7.j2 (hE.h2).2)))) (fun hHeld => ?_);clear hK K;try simp only [PL]
     refine tk 20 ?_;refine r1 22 (fun K hK => ?_)
     have hgl138 : w.heap.size ≤ g134 := by omega
     obtain ⟨x138_0, x138_1, x138_2⟩ := (hE.here.1.2).c3;obtain ⟨f138_0, f138_1, f138_2⟩ := hE.here.1.2.f3;replace hE := (((((((((((((((Env.again (bel3 hE.bel hgl138 (.bool sa) (.bool od) (.int .i64 hv))).fv ((hE.h13).sep3 hE.here.1.2 rfl _ _ _ rfl rfl)).fv ((hE.h12).sep3 hE.here.1.2 rfl _ _ _ rfl rfl)).blkI ((hE.h11).far3 (by omega) _ _ _)).blkI ((hE.h10).far3 (by omega) _ _ _)).blkI ((hE.h9).far3 (by omega) _ _ _)).wv ((hE.h8).sep3 hE.here.1.2 rfl _ _ _ rfl rfl)).blkI ((hE.h7).far3 (by omega) _ _ _)).wv ((hE.h6).sep3 hE.here.1.2 rfl _ _ _ rfl rfl)).wv ((hE.h5).sep3 hE.here.1.2 rfl _ _ _ rfl rfl)).blkI ((hE.h4).far3 (by omega) _ _ _)).blkI ((hE.h3).far3 (by omega) _ _ _)).atI ((hE.h2).far3 (by first | omega | exact At.apart (hE.h2) (hE.here.1.2) rfl) _ _ _)).blkI ((hE.here.1.2).s3 _ _ _)).wv ((hE.here.2).sep3 hE.here.1.2 rfl _ _ _ rfl rfl));go_simp;clear x138_0 x138_1 x138_2 f138_0 f138_1 f138_2 hgl138;generalize (((w137.setCell ⟨g134, 0, none⟩ (.bool sa)).setCell ⟨g134, 1, none⟩ (.bool od)).setCell ⟨g134, 2, none⟩ (.int .i64 hv)) = W138 at hE ⊢;refine hK.out _ _ (hE.h11.j4 (hE.h4.j2 (hE.h3.j2 (hE.h7.j2 (hE.h2).2)))) (fun hHeld => ?_);clear hK K;try simp only [PL]
     refine wpAnyH_done (by kernel_rfl) ?_ _;go_wp2_with fail
     go_meet
     exact ⟨g134, rfl, ⟨by omega, by omega⟩, (((((((((((((Env.again hE.bel).fv (hE.h13)).fv (hE.h12)).blkI (hE.h11)).blkI (hE.h10)).blkI (hE.h9)).wv (hE.h8)).blkI (hE.h7)).wv (hE.h6)).wv (hE.h5)).blkI (hE.h4)).blkI (hE.h3)).blkI (hE.here.1.2))⟩
  case rest =>
  clear hE;obtain ⟨Gw, rfl, ⟨hGw, hGx⟩, hE⟩ := hcut;generalize wc = wk8 at hE ⊢
  obtain ⟨up, hup⟩ : ∃ v, v = upB m sa od hv := ⟨_, rfl⟩
  have HUP : Hid (up = upQ m a b) := Lib.hid (by rw [hup, HSA.out, HOD.out, HHV.out]; rfl);have Hhup := Lib.hid hup;clear hup
  go_upto_region 9 with (fail)
  go_cut [80] from 75 to 80 (fun p wx => p = .bool up ∧ Env w (fun V => ((((((((((((True ∧ FV V a sa Aa na ta Ba ma) ∧ FV V b false Ab nb tb Bb mb) ∧ Blk 29 (w.heap.size) #[.bool sa, .slice Aa na ca, .bool ta, .slice Ba ma da] V) ∧ Blk 29 (w.heap.size + 1) #[.bool false, .slice Ab nb cb, .bool tb, .slice Bb mb db] V) ∧ Blk 29 (w.heap.size + 1 + 1) #[.bool false, .slice none 0 0, .bool false, .slice none 0 0] V) ∧ WV V (botQ a b) sy Ay ny) ∧ Blk 27 (g37) #[.bool sy, .slice Ay ny cy] V) ∧ WV V (kQ a b) sk Ak nk) ∧ WV V (rQ a b) sr Ar nr) ∧ Blk 27 (Gk) #[.bool sk, .slice Ak nk ck] V) ∧ Blk 27 (Gr) #[.bool sr, .slice Ar nr cr] V) ∧ Blk 106 (Gw) #[.bool sa, .bool od, .int .i64 hv] V)) wx)
  case first =>
   rcases (show m = 1 ∨ m = 2 ∨ m = 3 ∨ m = 4 ∨ m = 5 ∨ m = 6 by omega) with rfl | rfl | rfl | rfl | rfl | rfl
   ·
    clear t1 t2 t3 t4
    have hix : ∀ W, (Instr.index 108 (.agg #[.func (.func 112) #[] #[], .func (.func 113) #[] #[], .func (.func 114) #[] #[], .func (.func 115) #[] #[], .func (.func 116) #[] #[], .func (.func 117) #[] #[]]) (.int .u8 (IntKind.u8.wrap 0))).run Tryz.prog W = .ok (.func (.func 112) #[] #[]) W := fun _ => by kernel_rfl
    replace hE := hE.drew;refine wp_region_held_drew (S := fun w' => w'.cell? ⟨Gw, 0, none⟩ = some (.bool sa) ∧ w'.cell? ⟨Gw, 1, none⟩ = some (.bool od) ∧ w'.cell? ⟨Gw, 2, none⟩ = some (.int .i64 hv)) (by kernel_rfl) (hE.here.2.c3) (fun hHeld => ?_);refine tk 1 ?_;refine tk 2 ?_;refine tk 4 ?_;refine r1 0 (fun K hK => ?_);go_simp;refine hE.br (upwards_v _) ?_;clear hE;intro w139 hE;go_wp2_with fail
    refine hK.out _ _ (hE.here.2.c3) (fun hHeld => ?_);clear hK K;try simp only [PL]
    refine tk 3 ?_;refine r1 5 (fun K hK => ?_);go_simp;have hc := up1_v sa od hv w139;rw [← Hhup.out] at hc;refine hE.br hc ?_;clear hE hc;intro w140 hE;go_wp2_with fail
    refine hK.out _ _ (hE.here.2.c3) (fun hHeld => ?_);clear hK K;try simp only [PL]
    refine wpAnyH_done (by kernel_rfl) ?_ _;go_wp2_with fail
    go_meet
    exact ⟨rfl, (((((((((((((Env.again hE.bel).fv (hE.h11)).fv (hE.h10)).blkI (hE.h9)).blkI (hE.h8)).blkI (hE.h7)).wv (hE.h6)).blkI (hE.h5)).wv (hE.h4)).wv (hE.h3)).blkI (hE.h2)).blkI (hE.here.1.2)).blkI (hE.here.2))⟩
   ·
    clear t1 t2 t3 t4
    have hix : ∀ W, (Instr.index 108 (.agg #[.func (.func 112) #[] #[], .func (.func 113) #[] #[], .func (.func 114) #[] #[], .func (.func 115) #[] #[], .func (.func 116) #[] #[], .func (.func 117) #[] #[]]) (.int .u8 (IntKind.u8.wrap 1))).run Tryz.prog W = .ok (.func (.func 113) #[] #[]) W := fun _ => by kernel_rfl
    replace hE := hE.drew;refine wp_region_held_drew (S := fun w' => w'.cell? ⟨Gw, 0, none⟩ = some (.bool sa) ∧ w'.cell? ⟨Gw, 1, none⟩ = some (.bool od) ∧ w'.cell? ⟨Gw, 2, none⟩ = some (.int .i64 hv)) (by kernel_rfl) (hE.here.2.c3) (fun hHeld => ?_);refine tk 1 ?_;refine tk 2 ?_;refine tk 4 ?_;refine r1 0 (fun K hK => ?_);go_simp;refine hE.br (upwards_v _) ?_;clear hE;intro w141 hE;go_wp2_with fail
    refine hK.out _ _ (hE.here.2.c3) (fun hHeld => ?_);clear hK K;try simp only [PL]
    refine tk 3 ?_;refine r1 5 (fun K hK => ?_);go_simp;have hc := up2_v sa od hv w141;rw [← Hhup.out] at hc;refine hE.br hc ?_;clear hE hc;intro w142 hE;go_wp2_with fail
    refine hK.out _ _ (hE.here.2.c3) (fun hHeld => ?_);clear hK K;try simp only [PL]
    refine wpAnyH_done (by kernel_rfl) ?_ _;go_wp2_with fail
    go_meet
    exact ⟨rfl, (((((((((((((Env.again hE.bel).fv (hE.h11)).fv (hE.h10)).blkI (hE.h9)).blkI (hE.h8)).blkI (hE.h7)).wv (hE.h6)).blkI (hE.h5)).wv (hE.h4)).wv (hE.h3)).blkI (hE.h2)).blkI (hE.here.1.2)).blkI (hE.here.2))⟩
   ·
    clear t1 t2 t3 t4
    have hix : ∀ W, (Instr.index 108 (.agg #[.func (.func 112) #[] #[], .func (.func 113) #[] #[], .func (.func 114) #[] #[], .func (.func 115) #[] #[], .func (.func 116) #[] #[], .func (.func 117) #[] #[]]) (.int .u8 (IntKind.u8.wrap 2))).run Tryz.prog W = .ok (.func (.func 114) #[] #[]) W := fun _ => by kernel_rfl
    replace hE := hE.drew;refine wp_region_held_drew (S := fun w' => w'.cell? ⟨Gw, 0, none⟩ = some (.bool sa) ∧ w'.cell? ⟨Gw, 1, none⟩ = some (.bool od) ∧ w'.cell? ⟨Gw, 2, none⟩ = some (.int .i64 hv)) (by kernel_rfl) (hE.here.2.c3) (fun hHeld => ?_);refine tk 1 ?_;refine tk 2 ?_;refine tk 4 ?_;refine r1 0 (fun K hK => ?_);go_simp;refine hE.br (upwards_v _) ?_;clear hE;intro w143 hE;go_wp2_with fail
    refine hK.out _ _ (hE.here.2.c3) (fun hHeld => ?_);clear hK K;try simp only [PL]
    refine tk 3 ?_;refine r1 5 (fun K hK => ?_);go_simp;have hc := up3_v sa od hv w143;rw [← Hhup.out] at hc;refine hE.br hc ?_;clear hE hc;intro w144 hE;go_wp2_with fail
    refine hK.out _ _ (hE.here.2.c3) (fun hHeld => ?_);clear hK K;try simp only [PL]
    refine wpAnyH_done (by kernel_rfl) ?_ _;go_wp2_with fail
    go_meet
    exact ⟨rfl, (((((((((((((Env.again hE.bel).fv (hE.h11)).fv (hE.h10)).blkI (hE.h9)).blkI (hE.h8)).blkI (hE.h7)).wv (hE.h6)).blkI (hE.h5)).wv (hE.h4)).wv (hE.h3)).blkI (hE.h2)).blkI (hE.here.1.2)).blkI (hE.here.2))⟩
   ·
    clear t1 t2 t3 t4
    have hix : ∀ W, (Instr.index 108 (.agg #[.func (.func 112) #[] #[], .func (.func 113) #[] #[], .func (.func 114) #[] #[], .func (.func 115) #[] #[], .func (.func 116) #[] #[], .func (.func 117) #[] #[]]) (.int .u8 (IntKind.u8.wrap 3))).run Tryz.prog W = .ok (.func (.func 115) #[] #[]) W := fun _ => by kernel_rfl
    replace hE := hE.drew;refine wp_region_held_drew (S := fun w' => w'.cell? ⟨Gw, 0, none⟩ = some (.bool sa) ∧ w'.cell? ⟨Gw, 1, none⟩ = some (.bool od) ∧ w'.cell? ⟨Gw, 2, none⟩ = some (.int .i64 hv)) (by kernel_rfl) (hE.here.2.c3) (fun hHeld => ?_);refine tk 1 ?_;refine tk 2 ?_;refine tk 4 ?_;refine r1 0 (fun K hK => ?_);go_simp;refine hE.br (upwards_v _) ?_;clear hE;intro w145 hE;go_wp2_with fail
    refine hK.out _ _ (hE.here.2.c3) (fun hHeld => ?_);clear hK K;try simp only [PL]
    refine tk 3 ?_;refine r1 5 (fun K hK => ?_);go_simp;have hc := up4_v sa od hv w145;rw [← Hhup.out] at hc;refine hE.br hc ?_;clear hE hc;intro w146 hE;go_wp2_with fail
    refine hK.out _ _ (hE.here.2.c3) (fun hHeld => ?_);clear hK K;try simp only [PL]
    refine wpAnyH_done (by kernel_rfl) ?_ _;go_wp2_with fail
    go_meet
    exact ⟨rfl, (((((((((((((Env.again hE.bel).fv (hE.h11)).fv (hE.h10)).blkI (hE.h9)).blkI (hE.h8)).blkI (hE.h7)).wv (hE.h6)).blkI (hE.h5)).wv (hE.h4)).wv (hE.h3)).blkI (hE.h2)).blkI (hE.here.1.2)).blkI (hE.here.2))⟩
   ·
    clear t1 t2 t3 t4
    have hix : ∀ W, (Instr.index 108 (.agg #[.func (.func 112) #[] #[], .func (.func 113) #[] #[], .func (.func 114) #[] #[], .func (.func 115) #[] #[], .func (.func 116) #[] #[], .func (.func 117) #[] #[]]) (.int .u8 (IntKind.u8.wrap 4))).run Tryz.prog W = .ok (.func (.func 116) #[] #[]) W := fun _ => by kernel_rfl
    replace hE := hE.drew;refine wp_region_held_drew (S := fun w' => w'.cell? ⟨Gw, 0, none⟩ = some (.bool sa) ∧ w'.cell? ⟨Gw, 1, none⟩ = some (.bool od) ∧ w'.cell? ⟨Gw, 2, none⟩ = some (.int .i64 hv)) (by kernel_rfl) (hE.here.2.c3) (fun hHeld => ?_);refine tk 1 ?_;refine tk 2 ?_;refine tk 4 ?_;refine r1 0 (fun K hK => ?_);go_simp;refine hE.br (upwards_v _) ?_;clear hE;intro w147 hE;go_wp2_with fail
    refine hK.out _ _ (hE.here.2.c3) (fun hHeld => ?_);clear hK K;try simp only [PL]
    refine tk 3 ?_;refine r1 5 (fun K hK => ?_);go_simp;have hc := up5_v sa od hv w147;rw [← Hhup.out] at hc;refine hE.br hc ?_;clear hE hc;intro w148 hE;go_wp2_with fail
    refine hK.out _ _ (hE.here.2.c3) (fun hHeld => ?_);clear hK K;try simp only [PL]
    refine wpAnyH_done (by kernel_rfl) ?_ _;go_wp2_with fail
    go_meet
    exact ⟨rfl, (((((((((((((Env.again hE.bel).fv (hE.h11)).fv (hE.h10)).blkI (hE.h9)).blkI (hE.h8)).blkI (hE.h7)).wv (hE.h6)).blkI (hE.h5)).wv (hE.h4)).wv (hE.h3)).blkI (hE.h2)).blkI (hE.here.1.2)).blkI (hE.here.2))⟩
   ·
    clear t1 t2 t3 t4
    have hix : ∀ W, (Instr.index 108 (.agg #[.func (.func 112) #[] #[], .func (.func 113) #[] #[], .func (.func 114) #[] #[], .func (.func 115) #[] #[], .func (.func 116) #[] #[], .func (.func 117) #[] #[]]) (.int .u8 (IntKind.u8.wrap 5))).run Tryz.prog W = .ok (.func (.func 117) #[] #[]) W := fun _ => by kernel_rfl
    replace hE := hE.drew;refine wp_region_held_drew (S := fun w' => w'.cell? ⟨Gw, 0, none⟩ = some (.bool sa) ∧ w'.cell? ⟨Gw, 1, none⟩ = some (.bool od) ∧ w'.cell? ⟨Gw, 2, none⟩ = some (.int .i64 hv)) (by kernel_rfl) (hE.here.2.c3) (fun hHeld => ?_);refine tk 1 ?_;refine tk 2 ?_;refine tk 4 ?_;refine r1 0 (fun K hK => ?_);go_simp;refine hE.br (upwards_v _) ?_;clear hE;intro w149 hE;go_wp2_with fail
    refine hK.out _ _ (hE.here.2.c3) (fun hHeld => ?_);clear hK K;try simp only [PL]
    refine tk 3 ?_;refine r1 5 (fun K hK => ?_);go_simp;have hc := up6_v sa od hv w149;rw [← Hhup.out] at hc;refine hE.br hc ?_;clear hE hc;intro w150 hE;go_wp2_with fail
    refine hK.out _ _ (hE.here.2.c3) (fun hHeld => ?_);clear hK K;try simp only [PL]
    refine wpAnyH_done (by kernel_rfl) ?_ _;go_wp2_with fail
    go_meet
    exact ⟨rfl, (((((((((((((Env.again hE.bel).fv (hE.h11)).fv (hE.h10)).blkI (hE.h9)).blkI (hE.h8)).blkI (hE.h7)).wv (hE.h6)).blkI (hE.h5)).wv (hE.h4)).wv (hE.h3)).blkI (hE.h2)).blkI (hE.here.1.2)).blkI (hE.here.2))⟩
  case rest =>
  clear hE;obtain ⟨rfl, hE⟩ := hcut;generalize wc = wk9 at hE ⊢;clear Hhup
  cases up with
  | false =>
   have HRZ : Hid (roundZ m a b = kQ a b) := Lib.hid (by unfold roundZ; rw [if_neg H0.out, ← HUP.out]; rfl);have lk2 : ln b16 (kQ a b).natAbs ≤ 514 := Nat.le_trans HL.out.2.2.1 (by decide)
   go_upto_region 11 with (fail)
   replace hE := hE.drew;refine wp_region_held_drew (S := fun w' => w'.cell? ⟨Gk, 0, none⟩ = some (.bool sk) ∧ w'.cell? ⟨Gk, 1, none⟩ = some (.slice Ak nk ck) ∧ w'.cell? ⟨w.heap.size + 1, 0, none⟩ = some (.bool false) ∧ w'.cell? ⟨w.heap.size + 1, 1, none⟩ = some (.slice Ab nb cb) ∧ w'.cell? ⟨w.heap.size + 1, 2, none⟩ = some (.bool tb) ∧ w'.cell? ⟨w.heap.size + 1, 3, none⟩ = some (.slice Bb mb db)) (by kernel_rfl) (hE.h2.j2 hE.h8.c4) (fun hHeld => ?_);refine tk 0 ?_;refine tk 1 ?_;refine tk 2 ?_;refine tk 4 ?_;refine tk 5 ?_;refine r1 3 (fun K hK => ?_);go_simp;have hc := ftimes_v (ca := ck) (cb := cb) (hE.h4) (hE.h10).1 (by omega) (by omega) (Nat.le_trans (ln_mulZ (m := 514) (n := 256) lk2 qb1) (by decide));refine hc.mono ?_;clear hc
   rintro e w151 ⟨sp, Ap, np, cp, rfl, hp, hb⟩
   replace hE := hE.step hb;clear hb;replace hE := hE.wv hp;clear hp
   have lp : np ≤ 770 := by rw [(hE.here.2).len]; exact ln_mulZ (m := 514) (n := 256) lk2 qb1
   go_wp2_with fail
   refine hK.out _ _ (hE.h3.j2 hE.h9.c4) (fun hHeld => ?_);clear hK K;try simp only [PL]
   refine r1 6 (fun K hK => ?_);go_simp;have hc := flowest_v (ca := cp) (cb := db) (hE.here.2) (hE.h11).2 (by omega) (by omega) (den_nz b);rw [← HRZ.out] at hc;refine hE.fr hc ?_;clear hE hc;intro sf Af nf cf tf Bf mf df w152 hE;go_wp2_with fail
   refine hK.out _ _ (hE.h4.j2 hE.h10.c4) (fun hHeld => ?_);clear hK K;try simp only [PL]
   refine r1 7 (fun K hK => ?_);go_simp;refine hE.fr (fresult_ok (c := cf) (d := df) hE.here.2 lr) ?_;clear hE;intro sr Ar nr cr tr Br mr dr w153 hE;go_wp2_with fail
   refine hK.out _ _ (hE.h5.j2 hE.h11.c4) (fun hHeld => ?_);clear hK K;try simp only [PL]
   refine tk 8 ?_;refine tk 9 ?_;refine r1 10 (fun K hK => ?_)
   have hRl : w.heap.size ≤ w.heap.size + 1 + 1 := by omega
   obtain ⟨WW, hWW, hB, hV, hBel⟩ := ret_frac hE hE.h10 hRl hE.here.2 cr dr;obtain ⟨x0, x1, x2, x3⟩ := (hE.h10).c4;obtain ⟨fz0, fz1, fz2, fz3⟩ := hE.h10.f4;have HWW := Lib.hid hWW;clear hWW;have q154 := (hE.h5).far4 (R := w.heap.size + 1 + 1) (by omega) (.bool sr) (.slice Ar nr cr) (.bool tr) (.slice Br mr dr);rw [← HWW.out] at q154;have q155 := (hE.h11).far4 (R := w.heap.size + 1 + 1) (by omega) (.bool sr) (.slice Ar nr cr) (.bool tr) (.slice Br mr dr);rw [← HWW.out] at q155;go_simp;rw [← HWW.out];refine hK.out _ _ (q154.j2 q155.c4) (fun hHeld => ?_);clear hK K;try simp only [PL]
   refine tk 11 ?_;refine wpAnyH_done (by kernel_rfl) ?_ _;go_wp2_with fail
   obtain ⟨y0, y1, y2, y3⟩ := hB.c4;refine bodyPost_ret (v := .tuple #[.agg #[.bool sr, .slice Ar nr cr, .bool tr, .slice Br mr dr], .int .i64 0]) (by simp [results, Tryz.results43, go_sem, y0, y1, y2, y3]) rfl ?_;exact ⟨sr, Ar, nr, cr, tr, Br, mr, dr, rfl, hV, hBel⟩
  | true =>
   have HRZ : Hid (roundZ m a b = kQ a b + 1) := Lib.hid (by unfold roundZ; rw [if_neg H0.out, ← HUP.out]; rfl);have lk2 : ln b16 (kQ a b + 1).natAbs ≤ 514 := ln_addZ (m := 513) HL.out.2.2.1 (by decide)
   go_upto_region 10 with (fail)
   replace hE := hE.drew;refine wp_region_held_drew (S := fun w' => True) (by kernel_rfl) (trivial) (fun hHeld => ?_);refine wpAnyH_ready (rs := [0, 1]) (by kernel_rfl) (by simp) (AllReadyH.cons rfl (fun K hK => ?_) (AllReadyH.cons rfl (fun K hK => ?_) (AllReadyH.nil)))
   ·
    obtain ⟨k156, k157⟩ := (hE.h2).c2;go_simp;clear k156 k157;refine hK.out _ _ (trivial) (fun hHeld => ?_);clear hK K;try simp only [PL]
    refine r1 1 (fun K hK => ?_);go_simp;have hc := fromInt_v 1 wk9.drew (by decide) (by decide);refine hc.mono ?_;clear hc
    rintro e w158 ⟨so, Ao, no, co, rfl, ho, hb⟩
    replace hE := hE.step hb;clear hb;replace hE := hE.wv ho;clear ho;go_wp2_with fail
    refine hK.out _ _ (trivial) (fun hHeld => ?_);clear hK K;try simp only [PL]
    refine r1 2 (fun K hK => ?_);go_simp;have lo : no ≤ 4 := small_len (hE.here.2) (by decide) (by decide);have hc := fplus_v (ca := ck) (cb := co) hE.h5 hE.here.2 (by omega) (by omega) (Nat.le_trans lk2 (by decide));refine hc.mono ?_;clear hc
    rintro e w159 ⟨sz, Az, nz, cz, rfl, hz, hb⟩
    replace hE := hE.step hb;clear hb;replace hE := hE.wv hz;clear hz
    have lz : nz ≤ 514 := by rw [(hE.here.2).len]; exact lk2
    go_wp2_with fail
    refine hK.out _ _ (trivial) (fun hHeld => ?_);clear hK K;try simp only [PL]
    refine r1 3 (fun K hK => ?_)
    have hgl160 : w.heap.size ≤ Gk := by omega
    obtain ⟨x160_0, x160_1⟩ := (hE.h4).c2;obtain ⟨f160_0, f160_1⟩ := hE.h4.f2;replace hE := (((((((((((((((Env.again (bel2 hE.bel hgl160 (.bool sz) (.slice Az nz cz))).fv ((hE.h13).sep2 hE.h4 rfl _ _ rfl)).fv ((hE.h12).sep2 hE.h4 rfl _ _ rfl)).blkI ((hE.h11).far2 (by omega) _ _)).blkI ((hE.h10).far2 (by omega) _ _)).blkI ((hE.h9).far2 (by omega) _ _)).wv ((hE.h8).sep2 hE.h4 rfl _ _ rfl)).blkI ((hE.h7).far2 (by omega) _ _)).wv ((hE.h6).sep2 hE.h4 rfl _ _ rfl)).wv ((hE.h5).sep2 hE.h4 rfl _ _ rfl)).blkI ((hE.h4).s2 _ _)).blkI ((hE.h3).far2 (by omega) _ _)).blkI ((hE.h2).far2 (by omega) _ _)).wv ((hE.here.1.2).sep2 hE.h4 rfl _ _ rfl)).wv ((hE.here.2).sep2 hE.h4 rfl _ _ rfl));go_simp;clear x160_0 x160_1 f160_0 f160_1 hgl160;generalize ((w159.setCell ⟨Gk, 0, none⟩ (.bool sz)).setCell ⟨Gk, 1, none⟩ (.slice Az nz cz)) = W160 at hE ⊢;refine hK.out _ _ (trivial) (fun hHeld => ?_);clear hK K;try simp only [PL]
    refine wpAnyH_done (by kernel_rfl) ?_ _
    go_upto_region 11 with (fail)
    replace hE := hE.drew;refine wp_region_held_drew (S := fun w' => w'.cell? ⟨Gk, 0, none⟩ = some (.bool sz) ∧ w'.cell? ⟨Gk, 1, none⟩ = some (.slice Az nz cz) ∧ w'.cell? ⟨w.heap.size + 1, 0, none⟩ = some (.bool false) ∧ w'.cell? ⟨w.heap.size + 1, 1, none⟩ = some (.slice Ab nb cb) ∧ w'.cell? ⟨w.heap.size + 1, 2, none⟩ = some (.bool tb) ∧ w'.cell? ⟨w.heap.size + 1, 3, none⟩ = some (.slice Bb mb db)) (by kernel_rfl) (hE.h4.j2 hE.h10.c4) (fun hHeld => ?_);refine tk 0 ?_;refine tk 1 ?_;refine tk 2 ?_;refine tk 4 ?_;refine tk 5 ?_;refine r1 3 (fun K hK => ?_);go_simp;have hc := ftimes_v (ca := cz) (cb := cb) (hE.here.2) (hE.h12).1 (by omega) (by omega) (Nat.le_trans (ln_mulZ (m := 514) (n := 256) lk2 qb1) (by decide));refine hc.mono ?_;clear hc
    rintro e w161 ⟨sp, Ap, np, cp, rfl, hp, hb⟩
    replace hE := hE.step hb;clear hb;replace hE := hE.wv hp;clear hp
    have lp : np ≤ 770 := by rw [(hE.here.2).len]; exact ln_mulZ (m := 514) (n := 256) lk2 qb1
    go_wp2_with fail
    refine hK.out _ _ (hE.h5.j2 hE.h11.c4) (fun hHeld => ?_);clear hK K;try simp only [PL]
    refine r1 6 (fun K hK => ?_);go_simp;have hc := flowest_v (ca := cp) (cb := db) (hE.here.2) (hE.h13).2 (by omega) (by omega) (den_nz b);rw [← HRZ.out] at hc;refine hE.fr hc ?_;clear hE hc;intro sf Af nf cf tf Bf mf df w162 hE;go_wp2_with fail
    refine hK.out _ _ (hE.h6.j2 hE.h12.c4) (fun hHeld => ?_);clear hK K;try simp only [PL]
    refine r1 7 (fun K hK => ?_);go_simp;refine hE.fr (fresult_ok (c := cf) (d := df) hE.here.2 lr) ?_;clear hE;intro sr Ar nr cr tr Br mr dr w163 hE;go_wp2_with fail
    refine hK.out _ _ (hE.h7.j2 hE.h13.c4) (fun hHeld => ?_);clear hK K;try simp only [PL]
    refine tk 8 ?_;refine tk 9 ?_;refine r1 10 (fun K hK => ?_)
    have hRl : w.heap.size ≤ w.heap.size + 1 + 1 := by omega
    obtain ⟨WW, hWW, hB, hV, hBel⟩ := ret_frac hE hE.h12 hRl hE.here.2 cr dr;obtain ⟨x0, x1, x2, x3⟩ := (hE.h12).c4;obtain ⟨fz0, fz1, fz2, fz3⟩ := hE.h12.f4;have HWW := Lib.hid hWW;clear hWW;have q164 := (hE.h7).far4 (R := w.heap.size + 1 + 1) (by omega) (.bool sr) (.slice Ar nr cr) (.bool tr) (.slice Br mr dr);rw [← HWW.out] at q164;have q165 := (hE.h13).far4 (R := w.heap.size + 1 + 1) (by omega) (.bool sr) (.slice Ar nr cr) (.bool tr) (.slice Br mr dr);rw [← HWW.out] at q165;go_simp;rw [← HWW.out];refine hK.out _ _ (q164.j2 q165.c4) (fun hHeld => ?_);clear hK K;try simp only [PL]
    refine tk 11 ?_;refine wpAnyH_done (by kernel_rfl) ?_ _;go_wp2_with fail
    obtain ⟨y0, y1, y2, y3⟩ := hB.c4;refine bodyPost_ret (v := .tuple #[.agg #[.bool sr, .slice Ar nr cr, .bool tr, .slice Br mr dr], .int .i64 0]) (by simp [results, Tryz.results43, go_sem, y0, y1, y2, y3]) rfl ?_;exact ⟨sr, Ar, nr, cr, tr, Br, mr, dr, rfl, hV, hBel⟩
   ·
    go_simp;have hc := fromInt_v 1 wk9.drew (by decide) (by decide);refine hc.mono ?_;clear hc
    rintro e w166 ⟨so, Ao, no, co, rfl, ho, hb⟩
    replace hE := hE.step hb;clear hb;replace hE := hE.wv ho;clear ho;go_wp2_with fail
    refine hK.out _ _ (trivial) (fun hHeld => ?_);clear hK K;try simp only [PL]
    refine r1 0 (fun K hK => ?_);obtain ⟨k167, k168⟩ := (hE.h3).c2;go_simp;clear k167 k168;refine hK.out _ _ (trivial) (fun hHeld => ?_);clear hK K;try simp only [PL]
    refine r1 2 (fun K hK => ?_);go_simp;have lo : no ≤ 4 := small_len (hE.here.2) (by decide) (by decide);have hc := fplus_v (ca := ck) (cb := co) hE.h5 hE.here.2 (by omega) (by omega) (Nat.le_trans lk2 (by decide));refine hc.mono ?_;clear hc
    rintro e w169 ⟨sz, Az, nz, cz, rfl, hz, hb⟩
    replace hE := hE.step hb;clear hb;replace hE := hE.wv hz;clear hz
    have lz : nz ≤ 514 := by rw [(hE.here.2).len]; exact lk2
    go_wp2_with fail
    refine hK.out _ _ (trivial) (fun hHeld => ?_);clear hK K;try simp only [PL]
    refine r1 3 (fun K hK => ?_)
    have hgl170 : w.heap.size ≤ Gk := by omega
    obtain ⟨x170_0, x170_1⟩ := (hE.h4).c2;obtain ⟨f170_0, f170_1⟩ := hE.h4.f2;replace hE := (((((((((((((((Env.again (bel2 hE.bel hgl170 (.bool sz) (.slice Az nz cz))).fv ((hE.h13).sep2 hE.h4 rfl _ _ rfl)).fv ((hE.h12).sep2 hE.h4 rfl _ _ rfl)).blkI ((hE.h11).far2 (by omega) _ _)).blkI ((hE.h10).far2 (by omega) _ _)).blkI ((hE.h9).far2 (by omega) _ _)).wv ((hE.h8).sep2 hE.h4 rfl _ _ rfl)).blkI ((hE.h7).far2 (by omega) _ _)).wv ((hE.h6).sep2 hE.h4 rfl _ _ rfl)).wv ((hE.h5).sep2 hE.h4 rfl _ _ rfl)).blkI ((hE.h4).s2 _ _)).blkI ((hE.h3).far2 (by omega) _ _)).blkI ((hE.h2).far2 (by omega) _ _)).wv ((hE.here.1.2).sep2 hE.h4 rfl _ _ rfl)).wv ((hE.here.2).sep2 hE.h4 rfl _ _ rfl));go_simp;clear x170_0 x170_1 f170_0 f170_1 hgl170;generalize ((w169.setCell ⟨Gk, 0, none⟩ (.bool sz)).setCell ⟨Gk, 1, none⟩ (.slice Az nz cz)) = W170 at hE ⊢;refine hK.out _ _ (trivial) (fun hHeld => ?_);clear hK K;try simp only [PL]
    refine wpAnyH_done (by kernel_rfl) ?_ _
    go_upto_region 11 with (fail)
    replace hE := hE.drew;refine wp_region_held_drew (S := fun w' => w'.cell? ⟨Gk, 0, none⟩ = some (.bool sz) ∧ w'.cell? ⟨Gk, 1, none⟩ = some (.slice Az nz cz) ∧ w'.cell? ⟨w.heap.size + 1, 0, none⟩ = some (.bool false) ∧ w'.cell? ⟨w.heap.size + 1, 1, none⟩ = some (.slice Ab nb cb) ∧ w'.cell? ⟨w.heap.size + 1, 2, none⟩ = some (.bool tb) ∧ w'.cell? ⟨w.heap.size + 1, 3, none⟩ = some (.slice Bb mb db)) (by kernel_rfl) (hE.h4.j2 hE.h10.c4) (fun hHeld => ?_);refine tk 0 ?_;refine tk 1 ?_;refine tk 2 ?_;refine tk 4 ?_;refine tk 5 ?_;refine r1 3 (fun K hK => ?_);go_simp;have hc := ftimes_v (ca := cz) (cb := cb) (hE.here.2) (hE.h12).1 (by omega) (by omega) (Nat.le_trans (ln_mulZ (m := 514) (n := 256) lk2 qb1) (by decide));refine hc.mono ?_;clear hc
    rintro e w171 ⟨sp, Ap, np, cp, rfl, hp, hb⟩
    replace hE := hE.step hb;clear hb;replace hE := hE.wv hp;clear hp
    have lp : np ≤ 770 := by rw [(hE.here.2).len]; exact ln_mulZ (m := 514) (n := 256) lk2 qb1
    go_wp2_with fail
    refine hK.out _ _ (hE.h5.j2 hE.h11.c4) (fun hHeld => ?_);clear hK K;try simp only [PL]
    refine r1 6 (fun K hK => ?_);go_simp;have hc := flowest_v (ca := cp) (cb := db) (hE.here.2) (hE.h13).2 (by omega) (by omega) (den_nz b);rw [← HRZ.out] at hc;refine hE.fr hc ?_;clear hE hc;intro sf Af nf cf tf Bf mf df w172 hE;go_wp2_with fail
    refine hK.out _ _ (hE.h6.j2 hE.h12.c4) (fun hHeld => ?_);clear hK K;try simp only [PL]
    refine r1 7 (fun K hK => ?_);go_simp;refine hE.fr (fresult_ok (c := cf) (d := df) hE.here.2 lr) ?_;clear hE;intro sr Ar nr cr tr Br mr dr w173 hE;go_wp2_with fail
    refine hK.out _ _ (hE.h7.j2 hE.h13.c4) (fun hHeld => ?_);clear hK K;try simp only [PL]
    refine tk 8 ?_;refine tk 9 ?_;refine r1 10 (fun K hK => ?_)
    have hRl : w.heap.size ≤ w.heap.size + 1 + 1 := by omega
    obtain ⟨WW, hWW, hB, hV, hBel⟩ := ret_frac hE hE.h12 hRl hE.here.2 cr dr;obtain ⟨x0, x1, x2, x3⟩ := (hE.h12).c4;obtain ⟨fz0, fz1, fz2, fz3⟩ := hE.h12.f4;have HWW := Lib.hid hWW;clear hWW;have q174 := (hE.h7).far4 (R := w.heap.size + 1 + 1) (by omega) (.bool sr) (.slice Ar nr cr) (.bool tr) (.slice Br mr dr);rw [← HWW.out] at q174;have q175 := (hE.h13).far4 (R := w.heap.size + 1 + 1) (by omega) (.bool sr) (.slice Ar nr cr) (.bool tr) (.slice Br mr dr);rw [← HWW.out] at q175;go_simp;rw [← HWW.out];refine hK.out _ _ (q174.j2 q175.c4) (fun hHeld => ?_);clear hK K;try simp only [PL]
    refine tk 11 ?_;refine wpAnyH_done (by kernel_rfl) ?_ _;go_wp2_with fail
    obtain ⟨y0, y1, y2, y3⟩ := hB.c4;refine bodyPost_ret (v := .tuple #[.agg #[.bool sr, .slice Ar nr cr, .bool tr, .slice Br mr dr], .int .i64 0]) (by simp [results, Tryz.results43, go_sem, y0, y1, y2, y3]) rfl ?_;exact ⟨sr, Ar, nr, cr, tr, Br, mr, dr, rfl, hV, hBel⟩
end Go.Proofs.YtjgihmmeimfheaaGreat
