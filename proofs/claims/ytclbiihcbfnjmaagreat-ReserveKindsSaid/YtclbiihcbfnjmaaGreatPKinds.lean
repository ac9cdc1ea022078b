/-
  Parts.
-/
import Derived.Test.YtclbiihcbfnjmaaGreatK2
import Derived.Test.YtclbiihcbfnjmaaGreatK8
import Derived.Test.YtclbiihcbfnjmaaGreatPI
set_option linter.unusedSimpArgs false
set_option maxRecDepth 100000
set_option maxHeartbeats 8000000
namespace Go.Proofs.YtclbiihcbfnjmaaGreat
open Go.RowKit

theorem rem61 {x : Int} (h0 : 0 ≤ x) : Int.tmod x 61 = x % 61 := Int.tmod_eq_emod_of_nonneg h0
theorem pkinds_walk (b : Bh) (E Y : Int) (w : World) (hb : b.rd w) (z2 : Int) (l2 : 0 ≤ z2) (_ : z2 ≤ 255) (z3 : Int) (l3 : 0 ≤ z3) (_ : z3 ≤ 255) :
  Calls Tryz.prog 7 #[.agg b.C, .agg #[.int .i64 E, .int .i64 Y], .int .u8 z2, .int .u8 z3] w (fun e w' => e = .returned (.bool true) ∧ Below w.heap.size w w') := by
 obtain ⟨f, hf⟩ : ∃ f : Nat, z2 % 61 = (f : Int) := ⟨(z2 % 61).toNat, by omega⟩
 obtain ⟨t, ht⟩ : ∃ t : Nat, z3 % 61 = (t : Int) := ⟨(z3 % 61).toNat, by omega⟩
 have hf61 : f < 61 := by omega
 have ht61 : t < 61 := by omega
 have q1 : Int.tmod z2 61 = (f : Int) := (rem61 l2).trans hf;have q2 : Int.tmod z3 61 = (t : Int) := (rem61 l3).trans ht;have Hhb := Lib.hid hb;clear hb;have Hq1 := Lib.hid q1;clear q1;have Hq2 := Lib.hid q2;clear q2;clear hf ht;have hE := ((Env.start w).blk 31 b.C (g := w.heap.size) rfl).blk 33 #[.int .i64 E, .int .i64 Y] (g := w.heap.size + 1) (by simp)
 obtain ⟨W0, hW0⟩ : ∃ W0, W0 = ((w.alloc (.cells b.C 31)).alloc (.cells #[.int .i64 E, .int .i64 Y] 33)) := ⟨_, rfl⟩
 rw [← hW0] at hE;have HW0 := Lib.hid hW0;clear hW0
 go_enter Tryz.func7, Tryz.ntmps7
 go_upto_region 1 with (fail)
 rw [← HW0.out];go_wp2_with fail
 refine hE.br (awakeP_t _) ?_;clear hE;intro w1 hE;have q1 := Hq1.out;have q2 := Hq2.out;have hmk := make_ints
 go_upto_region 5 with (fail)
 clear hmk;have hfi := intl_make w1;have hbm := belAlloc w1 (.cells izs 3)
 obtain ⟨gA, hgA⟩ : ∃ g, g = w1.heap.size := ⟨_, rfl⟩
 have hlA_0 : w.heap.size < gA := by rw [hgA]; exact (hE.here.1.2).lt
 have hlA_1 : w.heap.size + 1 < gA := by rw [hgA]; exact (hE.here.2).lt
 rw [← hgA] at hfi ⊢;replace hE := (hE.step hbm).intl hfi;clear hbm hfi;generalize w1.alloc (.cells izs 3) = WA at hE ⊢;clear hgA;clear q1 q2;have hmk := make_ints
 go_upto_region 6 with (fail)
 clear hmk;have hfi := intl_make WA;have hbm := belAlloc WA (.cells izs 3)
 obtain ⟨gS, hgS⟩ : ∃ g, g = WA.heap.size := ⟨_, rfl⟩
 have hlS_0 : w.heap.size < gS := by rw [hgS]; exact (hE.h2).lt
 have hlS_1 : w.heap.size + 1 < gS := by rw [hgS]; exact (hE.here.1.2).lt
 have hlS_2 : gA < gS := by rw [hgS]; exact IntL.lt (hE.here.2)
 rw [← hgS] at hfi ⊢;replace hE := (hE.step hbm).intl hfi;clear hbm hfi;generalize WA.alloc (.cells izs 3) = WS at hE ⊢;clear hgS;go_wp2_with fail
 go_loopw [13] (fun p wr => ∃ j : Nat, f ≤ j ∧ (j ≤ t ∨ j = f) ∧ p = .int .i64 (j : Int) ∧ Env w (fun V => ((((True ∧ Blk 31 (w.heap.size) b.C V) ∧ Blk 33 (w.heap.size + 1) #[.int .i64 E, .int .i64 Y] V) ∧ IntL gA 61 (ones f j) V) ∧ IntL gS 61 (fun _ => 0) V)) wr) (fun p _ => t - (intOf p).toNat)
 case atStart => exact ⟨f, Nat.le_refl _, .inr rfl, rfl, (((((Env.again hE.bel).blkI (hE.h3)).blkI (hE.h2)).intl (IntL.congr (hE.here.1.2) (fun k _ => by unfold ones; rw [if_neg (by omega)]))).intl (hE.here.2))⟩
 case round =>
  clear hE;obtain ⟨j, hfj, hjt, rfl, hE⟩ := hrel
  by_cases hlt : j < t
  ·
   have t1 : decide ((j : Int) < (t : Int)) = true := decide_eq_true (by omega)
   have t2 : (j : Int) < (t : Int) := by omega
   have t3 : (j : Int) < 61 := by omega
   have o1 : IntKind.i64.wrap ((j : Int) + 1) = (j : Int) + 1 := by rw [IntKind.wrap_i64]; omega
   obtain ⟨hI2, hgr⟩ := IntL.put (hE.here.1.2) j 1;obtain ⟨csv, hBv, hnv⟩ := IntL.blk (hE.here.1.2);have xv := IntL.at_ (hE.here.1.2) (k := j) (by omega);have fv := IntL.frozen (hE.here.1.2) j;replace hE := (((((Env.again (Go.Proofs.YtclbiihcbfnjmaaGreat.Below.grownB hE.bel hgr hE.bel.size (by omega))).blkI (Blk.grownB (hE.h3) hgr (by omega))).blkI (Blk.grownB (hE.h2) hgr (by omega))).intl (IntL.congr (l2 := ones f (j + 1)) hI2 (fun k _ => ones_put hfj k))).intl (IntL.far (hE.here.2) hBv (by omega) hgr));go_wp2_with fail
   clear hI2 hgr hBv hnv xv fv;generalize wr.setCell ⟨gA, j, none⟩ (.int .i64 1) = VA at hE ⊢
   go_roundw
   case rel => exact ⟨j + 1, by omega, .inl (by omega), by (try simp) <;> norm_cast, (((((Env.again hE.bel).blkI (hE.h3)).blkI (hE.h2)).intl (hE.here.1.2)).intl (hE.here.2))⟩
   case measure => (simp [intOf]) <;> omega
  ·
   have t1 : decide ((j : Int) < (t : Int)) = false := decide_eq_false (by omega)
   have t2 : ¬ (j : Int) < (t : Int) := by omega
   have t3 : (f : Int) < 61 := by omega
   have hfull : ∀ k : Nat, k < 61 → ones f j k = ones f t k := fun k _ => by unfold ones; split <;> split <;> first | rfl | omega
   replace hE := (((((Env.again hE.bel).blkI (hE.h3)).blkI (hE.h2)).intl (IntL.congr (hE.here.1.2) hfull)).intl (hE.here.2));clear hfull
   go_upto_region 10 with (fail)
   clear t1 t2;obtain ⟨hI2, hgr⟩ := IntL.put (hE.here.2) f 1;obtain ⟨csv, hBv, hnv⟩ := IntL.blk (hE.here.2);have xv := IntL.at_ (hE.here.2) (k := f) hf61;have fv := IntL.frozen (hE.here.2) f;replace hE := (((((Env.again (Go.Proofs.YtclbiihcbfnjmaaGreat.Below.grownB hE.bel hgr hE.bel.size (by omega))).blkI (Blk.grownB (hE.h3) hgr (by omega))).blkI (Blk.grownB (hE.h2) hgr (by omega))).intl (IntL.far (hE.here.1.2) hBv (by omega) hgr)).intl (IntL.congr (l2 := ones f (f + 1)) hI2 (fun k _ => by have := ones_put (a := f) (j := f) (Nat.le_refl _) k; unfold updI at this ⊢; unfold ones at this ⊢; rw [if_neg (show ¬ (f ≤ k ∧ k < f) by omega)] at this; exact this)))
   go_upto_region 11 with (fail)
   clear hI2 hgr hBv hnv xv fv;generalize wr.setCell ⟨gS, f, none⟩ (.int .i64 1) = VS at hE ⊢
   go_cut [14] from 56 to 60 (fun p wx => ∃ G1 sp Ap np cp tp Bp mp dp, p = .pointer (some ⟨G1, 0, none⟩) ∧ (w.heap.size < G1 ∧ w.heap.size + 1 < G1 ∧ gA < G1 ∧ gS < G1) ∧ Env w (fun V => ((((((True ∧ Blk 31 (w.heap.size) b.C V) ∧ Blk 33 (w.heap.size + 1) #[.int .i64 E, .int .i64 Y] V) ∧ IntL gA 61 (ones f t) V) ∧ IntL gS 61 (ones f (f + 1)) V) ∧ FV V ((0 : Int) : Rat) sp Ap np tp Bp mp) ∧ Blk 36 (G1) #[.int .i64 E, .int .i64 Y, .int .i64 0, .bool sp, .slice Ap np cp, .bool tp, .slice Bp mp dp, .slice (some ⟨gA, 0, none⟩) 61 61, .slice none 0 0] V)) wx)
   case first =>
    replace hE := hE.drew;refine wp_region_held_drew (S := fun V => Blk 33 (w.heap.size + 1) #[.int .i64 E, .int .i64 Y] V) (by kernel_rfl) (hE.h2) (fun hHeld => ?_)
    generalize VS.drew = wd at *
    refine tk 0 ?_ (hy := by
     intro w hSw;have kc0 := (hSw).cell 0;have kc1 := (hSw).cell 1;clear hSw
     first | (go_simp; done) | (go_simp; with_reducible rfl))
    try simp only [PL]
    refine tk 2 ?_;refine wpAnyH_ready (rs := [1, 4]) (by kernel_rfl) (by simp) (AllReadyH.cons rfl (fun K hK => ?_) (AllReadyH.cons rfl (fun K hK => ?_) (AllReadyH.nil)))
    ·
     go_simp;have hc := ffromInt_v 0 wd (by decide) (by decide);refine hE.fr (hc) ?_;clear hE;intro sp Ap np cp tp Bp mp dp w2 hE;clear hc;go_wp2_with fail
     refine hK.out _ _ (hE.h3) (fun hHeld => ?_);clear hK K;try simp only [PL]
     refine tk 3 ?_;refine r1 4 (fun K hK => ?_);go_simp
     obtain ⟨g3, hg3⟩ : ∃ g3, g3 = w2.heap.size := ⟨_, rfl⟩
     have hl3_0 : w.heap.size < g3 := by rw [hg3]; exact (hE.h4).lt
     have hl3_1 : w.heap.size + 1 < g3 := by rw [hg3]; exact (hE.h3).lt
     have hl3_2 : gA < g3 := by rw [hg3]; exact IntL.lt (hE.h2)
     have hl3_3 : gS < g3 := by rw [hg3]; exact IntL.lt (hE.here.1.2)
     replace hE := hE.blk 36 qz9 (g := g3) hg3.symm;generalize w2.alloc (.cells qz9 36) = W3 at hE ⊢;rw [← hg3];clear hg3;refine hK.out _ _ (hE.h4) (fun hHeld => ?_);clear hK K;try simp only [PL]
     refine r1 5 (fun K hK => ?_)
     have hgl4 : w.heap.size ≤ g3 := by omega
     have hgr4 := (sets_grown [.int .i64 E, .int .i64 Y, .int .i64 0, .bool sp, .slice Ap np cp, .bool tp, .slice Bp mp dp, .slice (some ⟨gA, 0, none⟩) 61 61, .slice none 0 0] 0 W3 ⟨_, hE.here.2, rfl⟩).1;change W3.grownBy (((((((((W3.setCell ⟨g3, 0, none⟩ (.int .i64 E)).setCell ⟨g3, 1, none⟩ (.int .i64 Y)).setCell ⟨g3, 2, none⟩ (.int .i64 0)).setCell ⟨g3, 3, none⟩ (.bool sp)).setCell ⟨g3, 4, none⟩ (.slice Ap np cp)).setCell ⟨g3, 5, none⟩ (.bool tp)).setCell ⟨g3, 6, none⟩ (.slice Bp mp dp)).setCell ⟨g3, 7, none⟩ (.slice (some ⟨gA, 0, none⟩) 61 61)).setCell ⟨g3, 8, none⟩ (.slice none 0 0)) _ at hgr4;have x4_0 := (hE.here.2).cell 0;have f4_0 := (hE.here.2).frozen 0;have x4_1 := (hE.here.2).cell 1;have f4_1 := (hE.here.2).frozen 1;have x4_2 := (hE.here.2).cell 2;have f4_2 := (hE.here.2).frozen 2;have x4_3 := (hE.here.2).cell 3;have f4_3 := (hE.here.2).frozen 3;have x4_4 := (hE.here.2).cell 4;have f4_4 := (hE.here.2).frozen 4;have x4_5 := (hE.here.2).cell 5;have f4_5 := (hE.here.2).frozen 5;have x4_6 := (hE.here.2).cell 6;have f4_6 := (hE.here.2).frozen 6;have x4_7 := (hE.here.2).cell 7;have f4_7 := (hE.here.2).frozen 7;have x4_8 := (hE.here.2).cell 8;have f4_8 := (hE.here.2).frozen 8;replace hE := (((((((Env.again (Go.Proofs.YtclbiihcbfnjmaaGreat.Below.grownB hE.bel hgr4 hE.bel.size hgl4)).blkI (Blk.grownB (hE.h5) hgr4 (by omega))).blkI (Blk.grownB (hE.h4) hgr4 (by omega))).intl (IntL.far (hE.h3) (hE.here.2) (by omega) hgr4)).intl (IntL.far (hE.h2) (hE.here.2) (by omega) hgr4)).fv ((hE.here.1.2).grownB (hE.here.2) rfl hgr4)).blkI (show Blk 36 g3 #[.int .i64 E, .int .i64 Y, .int .i64 0, .bool sp, .slice Ap np cp, .bool tp, .slice Bp mp dp, .slice (some ⟨gA, 0, none⟩) 61 61, .slice none 0 0] _ by simpa using ((((((((((((((((((hE.here.2).set_ 0 (.int .i64 E))).set_ 1 (.int .i64 Y))).set_ 2 (.int .i64 0))).set_ 3 (.bool sp))).set_ 4 (.slice Ap np cp))).set_ 5 (.bool tp))).set_ 6 (.slice Bp mp dp))).set_ 7 (.slice (some ⟨gA, 0, none⟩) 61 61))).set_ 8 (.slice none 0 0))));go_simp;clear x4_0 f4_0 x4_1 f4_1 x4_2 f4_2 x4_3 f4_3 x4_4 f4_4 x4_5 f4_5 x4_6 f4_6 x4_7 f4_7 x4_8 f4_8 hgl4 hgr4;generalize (((((((((W3.setCell ⟨g3, 0, none⟩ (.int .i64 E)).setCell ⟨g3, 1, none⟩ (.int .i64 Y)).setCell ⟨g3, 2, none⟩ (.int .i64 0)).setCell ⟨g3, 3, none⟩ (.bool sp)).setCell ⟨g3, 4, none⟩ (.slice Ap np cp)).setCell ⟨g3, 5, none⟩ (.bool tp)).setCell ⟨g3, 6, none⟩ (.slice Bp mp dp)).setCell ⟨g3, 7, none⟩ (.slice (some ⟨gA, 0, none⟩) 61 61)).setCell ⟨g3, 8, none⟩ (.slice none 0 0)) = V4 at hE ⊢;refine hK.out _ _ (hE.h4) (fun hHeld => ?_);clear hK K;try simp only [PL]
     refine wpAnyH_done (by kernel_rfl) ?_ _;go_wp2_with fail
     go_meet
     exact ⟨g3, sp, Ap, np, cp, tp, Bp, mp, dp, rfl, ⟨by omega, by omega, by omega, by omega⟩, (((((((Env.again hE.bel).blkI (hE.h5)).blkI (hE.h4)).intl (hE.h3)).intl (hE.h2)).fv (hE.here.1.2)).blkI (hE.here.2))⟩
    ·
     go_simp
     obtain ⟨g5, hg5⟩ : ∃ g5, g5 = wd.heap.size := ⟨_, rfl⟩
     have hl5_0 : w.heap.size < g5 := by rw [hg5]; exact (hE.h3).lt
     have hl5_1 : w.heap.size + 1 < g5 := by rw [hg5]; exact (hE.h2).lt
     have hl5_2 : gA < g5 := by rw [hg5]; exact IntL.lt (hE.here.1.2)
     have hl5_3 : gS < g5 := by rw [hg5]; exact IntL.lt (hE.here.2)
     replace hE := hE.blk 36 qz9 (g := g5) hg5.symm;generalize wd.alloc (.cells qz9 36) = W5 at hE ⊢;rw [← hg5];clear hg5;refine hK.out _ _ (hE.h3) (fun hHeld => ?_);clear hK K;try simp only [PL]
     refine r1 1 (fun K hK => ?_);go_simp;have hc := ffromInt_v 0 W5 (by decide) (by decide);refine hE.fr (hc) ?_;clear hE;intro sp Ap np cp tp Bp mp dp w6 hE;clear hc;go_wp2_with fail
     refine hK.out _ _ (hE.h4) (fun hHeld => ?_);clear hK K;try simp only [PL]
     refine tk 3 ?_;refine r1 5 (fun K hK => ?_)
     have hgl7 : w.heap.size ≤ g5 := by omega
     have hgr7 := (sets_grown [.int .i64 E, .int .i64 Y, .int .i64 0, .bool sp, .slice Ap np cp, .bool tp, .slice Bp mp dp, .slice (some ⟨gA, 0, none⟩) 61 61, .slice none 0 0] 0 w6 ⟨_, hE.here.1.2, rfl⟩).1;change w6.grownBy (((((((((w6.setCell ⟨g5, 0, none⟩ (.int .i64 E)).setCell ⟨g5, 1, none⟩ (.int .i64 Y)).setCell ⟨g5, 2, none⟩ (.int .i64 0)).setCell ⟨g5, 3, none⟩ (.bool sp)).setCell ⟨g5, 4, none⟩ (.slice Ap np cp)).setCell ⟨g5, 5, none⟩ (.bool tp)).setCell ⟨g5, 6, none⟩ (.slice Bp mp dp)).setCell ⟨g5, 7, none⟩ (.slice (some ⟨gA, 0, none⟩) 61 61)).setCell ⟨g5, 8, none⟩ (.slice none 0 0)) _ at hgr7;have x7_0 := (hE.here.1.2).cell 0;have f7_0 := (hE.here.1.2).frozen 0;have x7_1 := (hE.here.1.2).cell 1;have f7_1 := (hE.here.1.2).frozen 1;have x7_2 := (hE.here.1.2).cell 2;have f7_2 := (hE.here.1.2).frozen 2;have x7_3 := (hE.here.1.2).cell 3;have f7_3 := (hE.here.1.2).frozen 3;have x7_4 := (hE.here.1.2).cell 4;have f7_4 := (hE.here.1.2).frozen 4;have x7_5 := (hE.here.1.2).cell 5;have f7_5 := (hE.here.1.2).frozen 5;have x7_6 := (hE.here.1.2).cell 6;have f7_6 := (hE.here.1.2).frozen 6;have x7_7 := (hE.here.1.2).cell 7;have f7_7 := (hE.here.1.2).frozen 7;have x7_8 := (hE.here.1.2).cell 8;have f7_8 := (hE.here.1.2).frozen 8;replace hE := (((((((Env.again (Go.Proofs.YtclbiihcbfnjmaaGreat.Below.grownB hE.bel hgr7 hE.bel.size hgl7)).blkI (Blk.grownB (hE.h5) hgr7 (by omega))).blkI (Blk.grownB (hE.h4) hgr7 (by omega))).intl (IntL.far (hE.h3) (hE.here.1.2) (by omega) hgr7)).intl (IntL.far (hE.h2) (hE.here.1.2) (by omega) hgr7)).blkI (show Blk 36 g5 #[.int .i64 E, .int .i64 Y, .int .i64 0, .bool sp, .slice Ap np cp, .bool tp, .slice Bp mp dp, .slice (some ⟨gA, 0, none⟩) 61 61, .slice none 0 0] _ by simpa using ((((((((((((((((((hE.here.1.2).set_ 0 (.int .i64 E))).set_ 1 (.int .i64 Y))).set_ 2 (.int .i64 0))).set_ 3 (.bool sp))).set_ 4 (.slice Ap np cp))).set_ 5 (.bool tp))).set_ 6 (.slice Bp mp dp))).set_ 7 (.slice (some ⟨gA, 0, none⟩) 61 61))).set_ 8 (.slice none 0 0)))).fv ((hE.here.2).grownB (hE.here.1.2) rfl hgr7));go_simp;clear x7_0 f7_0 x7_1 f7_1 x7_2 f7_2 x7_3 f7_3 x7_4 f7_4 x7_5 f7_5 x7_6 f7_6 x7_7 f7_7 x7_8 f7_8 hgl7 hgr7;generalize (((((((((w6.setCell ⟨g5, 0, none⟩ (.int .i64 E)).setCell ⟨g5, 1, none⟩ (.int .i64 Y)).setCell ⟨g5, 2, none⟩ (.int .i64 0)).setCell ⟨g5, 3, none⟩ (.bool sp)).setCell ⟨g5, 4, none⟩ (.slice Ap np cp)).setCell ⟨g5, 5, none⟩ (.bool tp)).setCell ⟨g5, 6, none⟩ (.slice Bp mp dp)).setCell ⟨g5, 7, none⟩ (.slice (some ⟨gA, 0, none⟩) 61 61)).setCell ⟨g5, 8, none⟩ (.slice none 0 0)) = V7 at hE ⊢;refine hK.out _ _ (hE.h4) (fun hHeld => ?_);clear hK K;try simp only [PL]
     refine wpAnyH_done (by kernel_rfl) ?_ _;go_wp2_with fail
     go_meet
     exact ⟨g5, sp, Ap, np, cp, tp, Bp, mp, dp, rfl, ⟨by omega, by omega, by omega, by omega⟩, (((((((Env.again hE.bel).blkI (hE.h5)).blkI (hE.h4)).intl (hE.h3)).intl (hE.h2)).fv (hE.here.2)).blkI (hE.here.1.2))⟩
   case rest =>
   clear hE;obtain ⟨G1, sp, Ap, np, cp, tp, Bp, mp, dp, rfl, ⟨hG10, hG11, hG12, hG13⟩, hE⟩ := hcut;generalize wc = wk11 at hE ⊢
   go_upto_region 12 with (fail)
   by_cases hU : UsP b (Ct.mk E Y 0 (FHof (((0 : Int) : Rat)) sp Ap np cp tp Bp mp dp) (some ⟨gA, 0, none⟩) 61 61 (ones f t) none 0 0 (fun _ => (0 : Int)))
   rotate_left 1
   ·
    obtain ⟨k8, k9, k10, k11, k12, k13, k14⟩ := (hE.h5).c7;have k15 := (hE.here.2).cell 0;have k16 := (hE.here.2).cell 1;have k17 := (hE.here.2).cell 2;have k18 := (hE.here.2).cell 3;have k19 := (hE.here.2).cell 4;have k20 := (hE.here.2).cell 5;have k21 := (hE.here.2).cell 6;have k22 := (hE.here.2).cell 7;have k23 := (hE.here.2).cell 8;go_wp2_with fail
    refine hE.br (pusable_f (x := (Ct.mk E Y 0 (FHof (((0 : Int) : Rat)) sp Ap np cp tp Bp mp dp) (some ⟨gA, 0, none⟩) 61 61 (ones f t) none 0 0 (fun _ => (0 : Int)))) (Bh.rd_below Hhb.out hE.bel) (show Ct.rd _ _ from ⟨(hE.here.1.2).rd, (hE.h3).rd, RdI.nil none⟩) (show I64 0 from ⟨by decide, by decide⟩) hU) ?_;clear hE k8 k9 k10 k11 k12 k13 k14 k15 k16 k17 k18 k19 k20 k21 k22 k23;intro w24 hE;go_wp2_with fail
    go_ret
    exact ⟨rfl, hE.bel⟩
   obtain ⟨hbb, hxb, hok, N, h16, hN⟩ := hU.get;have hHU := Lib.hid hU;clear hU;obtain ⟨k25, k26, k27, k28, k29, k30, k31⟩ := (hE.h5).c7;have k32 := (hE.here.2).cell 0;have k33 := (hE.here.2).cell 1;have k34 := (hE.here.2).cell 2;have k35 := (hE.here.2).cell 3;have k36 := (hE.here.2).cell 4;have k37 := (hE.here.2).cell 5;have k38 := (hE.here.2).cell 6;have k39 := (hE.here.2).cell 7;have k40 := (hE.here.2).cell 8;go_wp2_with fail
   refine hE.br (pusable_t (x := (Ct.mk E Y 0 (FHof (((0 : Int) : Rat)) sp Ap np cp tp Bp mp dp) (some ⟨gA, 0, none⟩) 61 61 (ones f t) none 0 0 (fun _ => (0 : Int)))) (Bh.rd_below Hhb.out hE.bel) (show Ct.rd _ _ from ⟨(hE.here.1.2).rd, (hE.h3).rd, RdI.nil none⟩) (show I64 0 from ⟨by decide, by decide⟩) hHU.out) ?_;clear hE k25 k26 k27 k28 k29 k30 k31 k32 k33 k34 k35 k36 k37 k38 k39 k40;intro w41 hE
   go_upto_region 14 with (fail)
   go_cut [15] from 64 to 68 (fun p wx => ∃ G2 sq Aq nq cq tq Bq mq dq, p = .pointer (some ⟨G2, 0, none⟩) ∧ (w.heap.size < G2 ∧ w.heap.size + 1 < G2 ∧ G1 < G2 ∧ gA < G2 ∧ gS < G2) ∧ Env w (fun V => ((((((((True ∧ Blk 31 (w.heap.size) b.C V) ∧ Blk 33 (w.heap.size + 1) #[.int .i64 E, .int .i64 Y] V) ∧ IntL gA 61 (ones f t) V) ∧ IntL gS 61 (ones f (f + 1)) V) ∧ FV V ((0 : Int) : Rat) sp Ap np tp Bp mp) ∧ Blk 36 (G1) #[.int .i64 E, .int .i64 Y, .int .i64 0, .bool sp, .slice Ap np cp, .bool tp, .slice Bp mp dp, .slice (some ⟨gA, 0, none⟩) 61 61, .slice none 0 0] V) ∧ FV V ((0 : Int) : Rat) sq Aq nq tq Bq mq) ∧ Blk 36 (G2) #[.int .i64 E, .int .i64 Y, .int .i64 0, .bool sq, .slice Aq nq cq, .bool tq, .slice Bq mq dq, .slice none 0 0, .slice (some ⟨gA, 0, none⟩) 61 61] V)) wx)
   case first =>
    replace hE := hE.drew;refine wp_region_held_drew (S := fun V => Blk 33 (w.heap.size + 1) #[.int .i64 E, .int .i64 Y] V) (by kernel_rfl) (hE.h4) (fun hHeld => ?_)
    generalize w41.drew = wd at *
    refine tk 0 ?_ (hy := by
     intro w hSw;have kc0 := (hSw).cell 0;have kc1 := (hSw).cell 1;clear hSw
     first | (go_simp; done) | (go_simp; with_reducible rfl))
    try simp only [PL]
    refine tk 2 ?_;refine wpAnyH_ready (rs := [1, 4]) (by kernel_rfl) (by simp) (AllReadyH.cons rfl (fun K hK => ?_) (AllReadyH.cons rfl (fun K hK => ?_) (AllReadyH.nil)))
    ·
     go_simp;have hc := ffromInt_v 0 wd (by decide) (by decide);refine hE.fr (hc) ?_;clear hE;intro sq Aq nq cq tq Bq mq dq w42 hE;clear hc;go_wp2_with fail
     refine hK.out _ _ (hE.h5) (fun hHeld => ?_);clear hK K;try simp only [PL]
     refine tk 3 ?_;refine r1 4 (fun K hK => ?_);go_simp
     obtain ⟨g43, hg43⟩ : ∃ g43, g43 = w42.heap.size := ⟨_, rfl⟩
     have hl43_0 : w.heap.size < g43 := by rw [hg43]; exact (hE.h6).lt
     have hl43_1 : w.heap.size + 1 < g43 := by rw [hg43]; exact (hE.h5).lt
     have hl43_2 : gA < g43 := by rw [hg43]; exact IntL.lt (hE.h4)
     have hl43_3 : gS < g43 := by rw [hg43]; exact IntL.lt (hE.h3)
     have hl43_5 : G1 < g43 := by rw [hg43]; exact (hE.here.1.2).lt
     replace hE := hE.blk 36 qz9 (g := g43) hg43.symm;generalize w42.alloc (.cells qz9 36) = W43 at hE ⊢;rw [← hg43];clear hg43;refine hK.out _ _ (hE.h6) (fun hHeld => ?_);clear hK K;try simp only [PL]
     refine r1 5 (fun K hK => ?_)
     have hgl44 : w.heap.size ≤ g43 := by omega
     have hgr44 := (sets_grown [.int .i64 E, .int .i64 Y, .int .i64 0, .bool sq, .slice Aq nq cq, .bool tq, .slice Bq mq dq, .slice none 0 0, .slice (some ⟨gA, 0, none⟩) 61 61] 0 W43 ⟨_, hE.here.2, rfl⟩).1;change W43.grownBy (((((((((W43.setCell ⟨g43, 0, none⟩ (.int .i64 E)).setCell ⟨g43, 1, none⟩ (.int .i64 Y)).setCell ⟨g43, 2, none⟩ (.int .i64 0)).setCell ⟨g43, 3, none⟩ (.bool sq)).setCell ⟨g43, 4, none⟩ (.slice Aq nq cq)).setCell ⟨g43, 5, none⟩ (.bool tq)).setCell ⟨g43, 6, none⟩ (.slice Bq mq dq)).setCell ⟨g43, 7, none⟩ (.slice none 0 0)).setCell ⟨g43, 8, none⟩ (.slice (some ⟨gA, 0, none⟩) 61 61)) _ at hgr44;have x44_0 := (hE.here.2).cell 0;have f44_0 := (hE.here.2).frozen 0;have x44_1 := (hE.here.2).cell 1;have f44_1 := (hE.here.2).frozen 1;have x44_2 := (hE.here.2).cell 2;have f44_2 := (hE.here.2).frozen 2;have x44_3 := (hE.here.2).cell 3;have f44_3 := (hE.here.2).frozen 3;have x44_4 := (hE.here.2).cell 4;have f44_4 := (hE.here.2).frozen 4;have x44_5 := (hE.here.2).cell 5;have f44_5 := (hE.here.2).frozen 5;have x44_6 := (hE.here.2).cell 6;have f44_6 := (hE.here.2).frozen 6;have x44_7 := (hE.here.2).cell 7;have f44_7 := (hE.here.2).frozen 7;have x44_8 := (hE.here.2).cell 8;have f44_8 := (hE.here.2).frozen 8;replace hE := (((((((((Env.again (Go.Proofs.YtclbiihcbfnjmaaGreat.Below.grownB hE.bel hgr44 hE.bel.size hgl44)).blkI (Blk.grownB (hE.h7) hgr44 (by omega))).blkI (Blk.grownB (hE.h6) hgr44 (by omega))).intl (IntL.far (hE.h5) (hE.here.2) (by omega) hgr44)).intl (IntL.far (hE.h4) (hE.here.2) (by omega) hgr44)).fv ((hE.h3).grownB (hE.here.2) rfl hgr44)).blkI (Blk.grownB (hE.h2) hgr44 (by omega))).fv ((hE.here.1.2).grownB (hE.here.2) rfl hgr44)).blkI (show Blk 36 g43 #[.int .i64 E, .int .i64 Y, .int .i64 0, .bool sq, .slice Aq nq cq, .bool tq, .slice Bq mq dq, .slice none 0 0, .slice (some ⟨gA, 0, none⟩) 61 61] _ by simpa using ((((((((((((((((((hE.here.2).set_ 0 (.int .i64 E))).set_ 1 (.int .i64 Y))).set_ 2 (.int .i64 0))).set_ 3 (.bool sq))).set_ 4 (.slice Aq nq cq))).set_ 5 (.bool tq))).set_ 6 (.slice Bq mq dq))).set_ 7 (.slice none 0 0))).set_ 8 (.slice (some ⟨gA, 0, none⟩) 61 61))));go_simp;clear x44_0 f44_0 x44_1 f44_1 x44_2 f44_2 x44_3 f44_3 x44_4 f44_4 x44_5 f44_5 x44_6 f44_6 x44_7 f44_7 x44_8 f44_8 hgl44 hgr44;generalize (((((((((W43.setCell ⟨g43, 0, none⟩ (.int .i64 E)).setCell ⟨g43, 1, none⟩ (.int .i64 Y)).setCell ⟨g43, 2, none⟩ (.int .i64 0)).setCell ⟨g43, 3, none⟩ (.bool sq)).setCell ⟨g43, 4, none⟩ (.slice Aq nq cq)).setCell ⟨g43, 5, none⟩ (.bool tq)).setCell ⟨g43, 6, none⟩ (.slice Bq mq dq)).setCell ⟨g43, 7, none⟩ (.slice none 0 0)).setCell ⟨g43, 8, none⟩ (.slice (some ⟨gA, 0, none⟩) 61 61)) = V44 at hE ⊢;refine hK.out _ _ (hE.h6) (fun hHeld => ?_);clear hK K;try simp only [PL]
     refine wpAnyH_done (by kernel_rfl) ?_ _;go_wp2_with fail
     go_meet
     exact ⟨g43, sq, Aq, nq, cq, tq, Bq, mq, dq, rfl, ⟨by omega, by omega, by omega, by omega, by omega⟩, (((((((((Env.again hE.bel).blkI (hE.h7)).blkI (hE.h6)).intl (hE.h5)).intl (hE.h4)).fv (hE.h3)).blkI (hE.h2)).fv (hE.here.1.2)).blkI (hE.here.2))⟩
    ·
     go_simp
     obtain ⟨g45, hg45⟩ : ∃ g45, g45 = wd.heap.size := ⟨_, rfl⟩
     have hl45_0 : w.heap.size < g45 := by rw [hg45]; exact (hE.h5).lt
     have hl45_1 : w.heap.size + 1 < g45 := by rw [hg45]; exact (hE.h4).lt
     have hl45_2 : gA < g45 := by rw [hg45]; exact IntL.lt (hE.h3)
     have hl45_3 : gS < g45 := by rw [hg45]; exact IntL.lt (hE.h2)
     have hl45_5 : G1 < g45 := by rw [hg45]; exact (hE.here.2).lt
     replace hE := hE.blk 36 qz9 (g := g45) hg45.symm;generalize wd.alloc (.cells qz9 36) = W45 at hE ⊢;rw [← hg45];clear hg45;refine hK.out _ _ (hE.h5) (fun hHeld => ?_);clear hK K;try simp only [PL]
     refine r1 1 (fun K hK => ?_);go_simp;have hc := ffromInt_v 0 W45 (by decide) (by decide);refine hE.fr (hc) ?_;clear hE;intro sq Aq nq cq tq Bq mq dq w46 hE;clear hc;go_wp2_with fail
     refine hK.out _ _ (hE.h6) (fun hHeld => ?_);clear hK K;try simp only [PL]
     refine tk 3 ?_;refine r1 5 (fun K hK => ?_)
     have hgl47 : w.heap.size ≤ g45 := by omega
     have hgr47 := (sets_grown [.int .i64 E, .int .i64 Y, .int .i64 0, .bool sq, .slice Aq nq cq, .bool tq, .slice Bq mq dq, .slice none 0 0, .slice (some ⟨gA, 0, none⟩) 61 61] 0 w46 ⟨_, hE.here.1.2, rfl⟩).1;change w46.grownBy (((((((((w46.setCell ⟨g45, 0, none⟩ (.int .i64 E)).setCell ⟨g45, 1, none⟩ (.int .i64 Y)).setCell ⟨g45, 2, none⟩ (.int .i64 0)).setCell ⟨g45, 3, none⟩ (.bool sq)).setCell ⟨g45, 4, none⟩ (.slice Aq nq cq)).setCell ⟨g45, 5, none⟩ (.bool tq)).setCell ⟨g45, 6, none⟩ (.slice Bq mq dq)).setCell ⟨g45, 7, none⟩ (.slice none 0 0)).setCell ⟨g45, 8, none⟩ (.slice (some ⟨gA, 0, none⟩) 61 61)) _ at hgr47;have x47_0 := (hE.here.1.2).cell 0;have f47_0 := (hE.here.1.2).frozen 0;have x47_1 := (hE.here.1.2).cell 1;have f47_1 := (hE.here.1.2).frozen 1;have x47_2 := (hE.here.1.2).cell 2;have f47_2 := (hE.here.1.2).frozen 2;have x47_3 := (hE.here.1.2).cell 3;have f47_3 := (hE.here.1.2).frozen 3;have x47_4 := (hE.here.1.2).cell 4;have f47_4 := (hE.here.1.2).frozen 4;have x47_5 := (hE.here.1.2).cell 5;have f47_5 := (hE.here.1.2).frozen 5;have x47_6 := (hE.here.1.2).cell 6;have f47_6 := (hE.here.1.2).frozen 6;have x47_7 := (hE.here.1.2).cell 7;have f47_7 := (hE.here.1.2).frozen 7;have x47_8 := (hE.here.1.2).cell 8;have f47_8 := (hE.here.1.2).frozen 8;replace hE := (((((((((Env.again (Go.Proofs.YtclbiihcbfnjmaaGreat.Below.grownB hE.bel hgr47 hE.bel.size hgl47)).blkI (Blk.grownB (hE.h7) hgr47 (by omega))).blkI (Blk.grownB (hE.h6) hgr47 (by omega))).intl (IntL.far (hE.h5) (hE.here.1.2) (by omega) hgr47)).intl (IntL.far (hE.h4) (hE.here.1.2) (by omega) hgr47)).fv ((hE.h3).grownB (hE.here.1.2) rfl hgr47)).blkI (Blk.grownB (hE.h2) hgr47 (by omega))).blkI (show Blk 36 g45 #[.int .i64 E, .int .i64 Y, .int .i64 0, .bool sq, .slice Aq nq cq, .bool tq, .slice Bq mq dq, .slice none 0 0, .slice (some ⟨gA, 0, none⟩) 61 61] _ by simpa using ((((((((((((((((((hE.here.1.2).set_ 0 (.int .i64 E))).set_ 1 (.int .i64 Y))).set_ 2 (.int .i64 0))).set_ 3 (.bool sq))).set_ 4 (.slice Aq nq cq))).set_ 5 (.bool tq))).set_ 6 (.slice Bq mq dq))).set_ 7 (.slice none 0 0))).set_ 8 (.slice (some ⟨gA, 0, none⟩) 61 61)))).fv ((hE.here.2).grownB (hE.here.1.2) rfl hgr47));go_simp;clear x47_0 f47_0 x47_1 f47_1 x47_2 f47_2 x47_3 f47_3 x47_4 f47_4 x47_5 f47_5 x47_6 f47_6 x47_7 f47_7 x47_8 f47_8 hgl47 hgr47;generalize (((((((((w46.setCell ⟨g45, 0, none⟩ (.int .i64 E)).setCell ⟨g45, 1, none⟩ (.int .i64 Y)).setCell ⟨g45, 2, none⟩ (.int .i64 0)).setCell ⟨g45, 3, none⟩ (.bool sq)).setCell ⟨g45, 4, none⟩ (.slice Aq nq cq)).setCell ⟨g45, 5, none⟩ (.bool tq)).setCell ⟨g45, 6, none⟩ (.slice Bq mq dq)).setCell ⟨g45, 7, none⟩ (.slice none 0 0)).setCell ⟨g45, 8, none⟩ (.slice (some ⟨gA, 0, none⟩) 61 61)) = V47 at hE ⊢;refine hK.out _ _ (hE.h6) (fun hHeld => ?_);clear hK K;try simp only [PL]
     refine wpAnyH_done (by kernel_rfl) ?_ _;go_wp2_with fail
     go_meet
     exact ⟨g45, sq, Aq, nq, cq, tq, Bq, mq, dq, rfl, ⟨by omega, by omega, by omega, by omega, by omega⟩, (((((((((Env.again hE.bel).blkI (hE.h7)).blkI (hE.h6)).intl (hE.h5)).intl (hE.h4)).fv (hE.h3)).blkI (hE.h2)).fv (hE.here.2)).blkI (hE.here.1.2))⟩
   case rest =>
   clear hE;obtain ⟨G2, sq, Aq, nq, cq, tq, Bq, mq, dq, rfl, ⟨hG20, hG21, hG22, hG23, hG24⟩, hE⟩ := hcut;generalize wc = wk14 at hE ⊢
   go_upto_region 15 with (fail)
   go_cut [16] from 68 to 72 (fun p wx => ∃ G3 sr Ar nr cr tr Br mr dr, p = .pointer (some ⟨G3, 0, none⟩) ∧ (w.heap.size < G3 ∧ w.heap.size + 1 < G3 ∧ G1 < G3 ∧ G2 < G3 ∧ gA < G3 ∧ gS < G3) ∧ Env w (fun V => ((((((((((True ∧ Blk 31 (w.heap.size) b.C V) ∧ Blk 33 (w.heap.size + 1) #[.int .i64 E, .int .i64 Y] V) ∧ IntL gA 61 (ones f t) V) ∧ IntL gS 61 (ones f (f + 1)) V) ∧ FV V ((0 : Int) : Rat) sp Ap np tp Bp mp) ∧ Blk 36 (G1) #[.int .i64 E, .int .i64 Y, .int .i64 0, .bool sp, .slice Ap np cp, .bool tp, .slice Bp mp dp, .slice (some ⟨gA, 0, none⟩) 61 61, .slice none 0 0] V) ∧ FV V ((0 : Int) : Rat) sq Aq nq tq Bq mq) ∧ Blk 36 (G2) #[.int .i64 E, .int .i64 Y, .int .i64 0, .bool sq, .slice Aq nq cq, .bool tq, .slice Bq mq dq, .slice none 0 0, .slice (some ⟨gA, 0, none⟩) 61 61] V) ∧ FV V ((0 : Int) : Rat) sr Ar nr tr Br mr) ∧ Blk 36 (G3) #[.int .i64 E, .int .i64 Y, .int .i64 0, .bool sr, .slice Ar nr cr, .bool tr, .slice Br mr dr, .slice (some ⟨gS, 0, none⟩) 61 61, .slice none 0 0] V)) wx)
   case first =>
    replace hE := hE.drew;refine wp_region_held_drew (S := fun V => Blk 33 (w.heap.size + 1) #[.int .i64 E, .int .i64 Y] V) (by kernel_rfl) (hE.h6) (fun hHeld => ?_)
    generalize wk14.drew = wd at *
    refine tk 0 ?_ (hy := by
     intro w hSw;have kc0 := (hSw).cell 0;have kc1 := (hSw).cell 1;clear hSw
     first | (go_simp; done) | (go_simp; with_reducible rfl))
    try simp only [PL]
    refine tk 2 ?_;refine wpAnyH_ready (rs := [1, 4]) (by kernel_rfl) (by simp) (AllReadyH.cons rfl (fun K hK => ?_) (AllReadyH.cons rfl (fun K hK => ?_) (AllReadyH.nil)))
    ·
     go_simp;have hc := ffromInt_v 0 wd (by decide) (by decide);refine hE.fr (hc) ?_;clear hE;intro sr Ar nr cr tr Br mr dr w48 hE;clear hc;go_wp2_with fail
     refine hK.out _ _ (hE.h7) (fun hHeld => ?_);clear hK K;try simp only [PL]
     refine tk 3 ?_;refine r1 4 (fun K hK => ?_);go_simp
     obtain ⟨g49, hg49⟩ : ∃ g49, g49 = w48.heap.size := ⟨_, rfl⟩
     have hl49_0 : w.heap.size < g49 := by rw [hg49]; exact (hE.h8).lt
     have hl49_1 : w.heap.size + 1 < g49 := by rw [hg49]; exact (hE.h7).lt
     have hl49_2 : gA < g49 := by rw [hg49]; exact IntL.lt (hE.h6)
     have hl49_3 : gS < g49 := by rw [hg49]; exact IntL.lt (hE.h5)
     have hl49_5 : G1 < g49 := by rw [hg49]; exact (hE.h3).lt
     have hl49_7 : G2 < g49 := by rw [hg49]; exact (hE.here.1.2).lt
     replace hE := hE.blk 36 qz9 (g := g49) hg49.symm;generalize w48.alloc (.cells qz9 36) = W49 at hE ⊢;rw [← hg49];clear hg49;refine hK.out _ _ (hE.h8) (fun hHeld => ?_);clear hK K;try simp only [PL]
     refine r1 5 (fun K hK => ?_)
     have hgl50 : w.heap.size ≤ g49 := by omega
     have hgr50 := (sets_grown [.int .i64 E, .int .i64 Y, .int .i64 0, .bool sr, .slice Ar nr cr, .bool tr, .slice Br mr dr, .slice (some ⟨gS, 0, none⟩) 61 61, .slice none 0 0] 0 W49 ⟨_, hE.here.2, rfl⟩).1;change W49.grownBy (((((((((W49.setCell ⟨g49, 0, none⟩ (.int .i64 E)).setCell ⟨g49, 1, none⟩ (.int .i64 Y)).setCell ⟨g49, 2, none⟩ (.int .i64 0)).setCell ⟨g49, 3, none⟩ (.bool sr)).setCell ⟨g49, 4, none⟩ (.slice Ar nr cr)).setCell ⟨g49, 5, none⟩ (.bool tr)).setCell ⟨g49, 6, none⟩ (.slice Br mr dr)).setCell ⟨g49, 7, none⟩ (.slice (some ⟨gS, 0, none⟩) 61 61)).setCell ⟨g49, 8, none⟩ (.slice none 0 0)) _ at hgr50;have x50_0 := (hE.here.2).cell 0;have f50_0 := (hE.here.2).frozen 0;have x50_1 := (hE.here.2).cell 1;have f50_1 := (hE.here.2).frozen 1;have x50_2 := (hE.here.2).cell 2;have f50_2 := (hE.here.2).frozen 2;have x50_3 := (hE.here.2).cell 3;have f50_3 := (hE.here.2).frozen 3;have x50_4 := (hE.here.2).cell 4;have f50_4 := (hE.here.2).frozen 4;have x50_5 := (hE.here.2).cell 5;have f50_5 := (hE.here.2).frozen 5;have x50_6 := (hE.here.2).cell 6;have f50_6 := (hE.here.2).frozen 6;have x50_7 := (hE.here.2).cell 7;have f50_7 := (hE.here.2).frozen 7;have x50_8 := (hE.here.2).cell 8;have f50_8 := (hE.here.2).frozen 8;replace hE := (((((((((((Env.again (Go.Proofs.YtclbiihcbfnjmaaGreat.Below.grownB hE.bel hgr50 hE.bel.size hgl50)).blkI (Blk.grownB (hE.h9) hgr50 (by omega))).blkI (Blk.grownB (hE.h8) hgr50 (by omega))).intl (IntL.far (hE.h7) (hE.here.2) (by omega) hgr50)).intl (IntL.far (hE.h6) (hE.here.2) (by omega) hgr50)).fv ((hE.h5).grownB (hE.here.2) rfl hgr50)).blkI (Blk.grownB (hE.h4) hgr50 (by omega))).fv ((hE.h3).grownB (hE.here.2) rfl hgr50)).blkI (Blk.grownB (hE.h2) hgr50 (by omega))).fv ((hE.here.1.2).grownB (hE.here.2) rfl hgr50)).blkI (show Blk 36 g49 #[.int .i64 E, .int .i64 Y, .int .i64 0, .bool sr, .slice Ar nr cr, .bool tr, .slice Br mr dr, .slice (some ⟨gS, 0, none⟩) 61 61, .slice none 0 0] _ by simpa using ((((((((((((((((((hE.here.2).set_ 0 (.int .i64 E))).set_ 1 (.int .i64 Y))).set_ 2 (.int .i64 0))).set_ 3 (.bool sr))).set_ 4 (.slice Ar nr cr))).set_ 5 (.bool tr))).set_ 6 (.slice Br mr dr))).set_ 7 (.slice (some ⟨gS, 0, none⟩) 61 61))).set_ 8 (.slice none 0 0))));go_simp;clear x50_0 f50_0 x50_1 f50_1 x50_2 f50_2 x50_3 f50_3 x50_4 f50_4 x50_5 f50_5 x50_6 f50_6 x50_7 f50_7 x50_8 f50_8 hgl50 hgr50;generalize (((((((((W49.setCell ⟨g49, 0, none⟩ (.int .i64 E)).setCell ⟨g49, 1, none⟩ (.int .i64 Y)).setCell ⟨g49, 2, none⟩ (.int .i64 0)).setCell ⟨g49, 3, none⟩ (.bool sr)).setCell ⟨g49, 4, none⟩ (.slice Ar nr cr)).setCell ⟨g49, 5, none⟩ (.bool tr)).setCell ⟨g49, 6, none⟩ (.slice Br mr dr)).setCell ⟨g49, 7, none⟩ (.slice (some ⟨gS, 0, none⟩) 61 61)).setCell ⟨g49, 8, none⟩ (.slice none 0 0)) = V50 at hE ⊢;refine hK.out _ _ (hE.h8) (fun hHeld => ?_);clear hK K;try simp only [PL]
     refine wpAnyH_done (by kernel_rfl) ?_ _;go_wp2_with fail
     go_meet
     exact ⟨g49, sr, Ar, nr, cr, tr, Br, mr, dr, rfl, ⟨by omega, by omega, by omega, by omega, by omega, by omega⟩, (((((((((((Env.again hE.bel).blkI (hE.h9)).blkI (hE.h8)).intl (hE.h7)).intl (hE.h6)).fv (hE.h5)).blkI (hE.h4)).fv (hE.h3)).blkI (hE.h2)).fv (hE.here.1.2)).blkI (hE.here.2))⟩
    ·
     go_simp
     obtain ⟨g51, hg51⟩ : ∃ g51, g51 = wd.heap.size := ⟨_, rfl⟩
     have hl51_0 : w.heap.size < g51 := by rw [hg51]; exact (hE.h7).lt
     have hl51_1 : w.heap.size + 1 < g51 := by rw [hg51]; exact (hE.h6).lt
     have hl51_2 : gA < g51 := by rw [hg51]; exact IntL.lt (hE.h5)
     have hl51_3 : gS < g51 := by rw [hg51]; exact IntL.lt (hE.h4)
     have hl51_5 : G1 < g51 := by rw [hg51]; exact (hE.h2).lt
     have hl51_7 : G2 < g51 := by rw [hg51]; exact (hE.here.2).lt
     replace hE := hE.blk 36 qz9 (g := g51) hg51.symm;generalize wd.alloc (.cells qz9 36) = W51 at hE ⊢;rw [← hg51];clear hg51;refine hK.out _ _ (hE.h7) (fun hHeld => ?_);clear hK K;try simp only [PL]
     refine r1 1 (fun K hK => ?_);go_simp;have hc := ffromInt_v 0 W51 (by decide) (by decide);refine hE.fr (hc) ?_;clear hE;intro sr Ar nr cr tr Br mr dr w52 hE;clear hc;go_wp2_with fail
     refine hK.out _ _ (hE.h8) (fun hHeld => ?_);clear hK K;try simp only [PL]
     refine tk 3 ?_;refine r1 5 (fun K hK => ?_)
     have hgl53 : w.heap.size ≤ g51 := by omega
     have hgr53 := (sets_grown [.int .i64 E, .int .i64 Y, .int .i64 0, .bool sr, .slice Ar nr cr, .bool tr, .slice Br mr dr, .slice (some ⟨gS, 0, none⟩) 61 61, .slice none 0 0] 0 w52 ⟨_, hE.here.1.2, rfl⟩).1;change w52.grownBy (((((((((w52.setCell ⟨g51, 0, none⟩ (.int .i64 E)).setCell ⟨g51, 1, none⟩ (.int .i64 Y)).setCell ⟨g51, 2, none⟩ (.int .i64 0)).setCell ⟨g51, 3, none⟩ (.bool sr)).setCell ⟨g51, 4, none⟩ (.slice Ar nr cr)).setCell ⟨g51, 5, none⟩ (.bool tr)).setCell ⟨g51, 6, none⟩ (.slice Br mr dr)).setCell ⟨g51, 7, none⟩ (.slice (some ⟨gS, 0, none⟩) 61 61)).setCell ⟨g51, 8, none⟩ (.slice none 0 0)) _ at hgr53;have x53_0 := (hE.here.1.2).cell 0;have f53_0 := (hE.here.1.2).frozen 0;have x53_1 := (hE.here.1.2).cell 1;have f53_1 := (hE.here.1.2).frozen 1;have x53_2 := (hE.here.1.2).cell 2;have f53_2 := (hE.here.1.2).frozen 2;have x53_3 := (hE.here.1.2).cell 3;have f53_3 := (hE.here.1.2).frozen 3;have x53_4 := (hE.here.1.2).cell 4;have f53_4 := (hE.here.1.2).frozen 4;have x53_5 := (hE.here.1.2).cell 5;have f53_5 := (hE.here.1.2).frozen 5;have x53_6 := (hE.here.1.2).cell 6;have f53_6 := (hE.here.1.2).frozen 6;have x53_7 := (hE.here.1.2).cell 7;have f53_7 := (hE.here.1.2).frozen 7;have x53_8 := (hE.here.1.2).cell 8;have f53_8 := (hE.here.1.2).frozen 8;replace hE := (((((((((((Env.again (Go.Proofs.YtclbiihcbfnjmaaGreat.Below.grownB hE.bel hgr53 hE.bel.size hgl53)).blkI (Blk.grownB (hE.h9) hgr53 (by omega))).blkI (Blk.grownB (hE.h8) hgr53 (by omega))).intl (IntL.far (hE.h7) (hE.here.1.2) (by omega) hgr53)).intl (IntL.far (hE.h6) (hE.here.1.2) (by omega) hgr53)).fv ((hE.h5).grownB (hE.here.1.2) rfl hgr53)).blkI (Blk.grownB (hE.h4) hgr53 (by omega))).fv ((hE.h3).grownB (hE.here.1.2) rfl hgr53)).blkI (Blk.grownB (hE.h2) hgr53 (by omega))).blkI (show Blk 36 g51 #[.int .i64 E, .int .i64 Y, .int .i64 0, .bool sr, .slice Ar nr cr, .bool tr, .slice Br mr dr, .slice (some ⟨gS, 0, none⟩) 61 61, .slice none 0 0] _ by simpa using ((((((((((((((((((hE.here.1.2).set_ 0 (.int .i64 E))).set_ 1 (.int .i64 Y))).set_ 2 (.int .i64 0))).set_ 3 (.bool sr))).set_ 4 (.slice Ar nr cr))).set_ 5 (.bool tr))).set_ 6 (.slice Br mr dr))).set_ 7 (.slice (some ⟨gS, 0, none⟩) 61 61))).set_ 8 (.slice none 0 0)))).fv ((hE.here.2).grownB (hE.here.1.2) rfl hgr53));go_simp;clear x53_0 f53_0 x53_1 f53_1 x53_2 f53_2 x53_3 f53_3 x53_4 f53_4 x53_5 f53_5 x53_6 f53_6 x53_7 f53_7 x53_8 f53_8 hgl53 hgr53;generalize (((((((((w52.setCell ⟨g51, 0, none⟩ (.int .i64 E)).setCell ⟨g51, 1, none⟩ (.int .i64 Y)).setCell ⟨g51, 2, none⟩ (.int .i64 0)).setCell ⟨g51, 3, none⟩ (.bool sr)).setCell ⟨g51, 4, none⟩ (.slice Ar nr cr)).setCell ⟨g51, 5, none⟩ (.bool tr)).setCell ⟨g51, 6, none⟩ (.slice Br mr dr)).setCell ⟨g51, 7, none⟩ (.slice (some ⟨gS, 0, none⟩) 61 61)).setCell ⟨g51, 8, none⟩ (.slice none 0 0)) = V53 at hE ⊢;refine hK.out _ _ (hE.h8) (fun hHeld => ?_);clear hK K;try simp only [PL]
     refine wpAnyH_done (by kernel_rfl) ?_ _;go_wp2_with fail
     go_meet
     exact ⟨g51, sr, Ar, nr, cr, tr, Br, mr, dr, rfl, ⟨by omega, by omega, by omega, by omega, by omega, by omega⟩, (((((((((((Env.again hE.bel).blkI (hE.h9)).blkI (hE.h8)).intl (hE.h7)).intl (hE.h6)).fv (hE.h5)).blkI (hE.h4)).fv (hE.h3)).blkI (hE.h2)).fv (hE.here.2)).blkI (hE.here.1.2))⟩
   case rest =>
   clear hE;obtain ⟨G3, sr, Ar, nr, cr, tr, Br, mr, dr, rfl, ⟨hG30, hG31, hG32, hG33, hG34, hG35⟩, hE⟩ := hcut;generalize wc = wk15 at hE ⊢
   go_upto_region 16 with (fail)
   go_cut [17] from 72 to 76 (fun p wx => ∃ G4 sy Ay ny cy ty By my dy, p = .pointer (some ⟨G4, 0, none⟩) ∧ (w.heap.size < G4 ∧ w.heap.size + 1 < G4 ∧ G1 < G4 ∧ G2 < G4 ∧ G3 < G4 ∧ gA < G4 ∧ gS < G4) ∧ Env w (fun V => ((((((((((((True ∧ Blk 31 (w.heap.size) b.C V) ∧ Blk 33 (w.heap.size + 1) #[.int .i64 E, .int .i64 Y] V) ∧ IntL gA 61 (ones f t) V) ∧ IntL gS 61 (ones f (f + 1)) V) ∧ FV V ((0 : Int) : Rat) sp Ap np tp Bp mp) ∧ Blk 36 (G1) #[.int .i64 E, .int .i64 Y, .int .i64 0, .bool sp, .slice Ap np cp, .bool tp, .slice Bp mp dp, .slice (some ⟨gA, 0, none⟩) 61 61, .slice none 0 0] V) ∧ FV V ((0 : Int) : Rat) sq Aq nq tq Bq mq) ∧ Blk 36 (G2) #[.int .i64 E, .int .i64 Y, .int .i64 0, .bool sq, .slice Aq nq cq, .bool tq, .slice Bq mq dq, .slice none 0 0, .slice (some ⟨gA, 0, none⟩) 61 61] V) ∧ FV V ((0 : Int) : Rat) sr Ar nr tr Br mr) ∧ Blk 36 (G3) #[.int .i64 E, .int .i64 Y, .int .i64 0, .bool sr, .slice Ar nr cr, .bool tr, .slice Br mr dr, .slice (some ⟨gS, 0, none⟩) 61 61, .slice none 0 0] V) ∧ FV V 1 sy Ay ny ty By my) ∧ Blk 36 (G4) #[.int .i64 E, .int .i64 Y, .int .i64 (t : Int), .bool sy, .slice Ay ny cy, .bool ty, .slice By my dy, .slice none 0 0, .slice none 0 0] V)) wx)
   case first =>
    replace hE := hE.drew;refine wp_region_held_drew (S := fun V => Blk 33 (w.heap.size + 1) #[.int .i64 E, .int .i64 Y] V) (by kernel_rfl) (hE.h8) (fun hHeld => ?_)
    generalize wk15.drew = wd at *
    refine tk 0 ?_ (hy := by
     intro w hSw;have kc0 := (hSw).cell 0;have kc1 := (hSw).cell 1;clear hSw
     first | (go_simp; done) | (go_simp; with_reducible rfl))
    try simp only [PL]
    refine tk 2 ?_;refine wpAnyH_ready (rs := [1, 4]) (by kernel_rfl) (by simp) (AllReadyH.cons rfl (fun K hK => ?_) (AllReadyH.cons rfl (fun K hK => ?_) (AllReadyH.nil)))
    ·
     go_simp;have hc := ffromInt_v 1 wd (by decide) (by decide);change Calls _ _ _ _ (FR 1 _) at hc;refine hE.fr (hc) ?_;clear hE;intro sy Ay ny cy ty By my dy w54 hE;clear hc;go_wp2_with fail
     refine hK.out _ _ (hE.h9) (fun hHeld => ?_);clear hK K;try simp only [PL]
     refine tk 3 ?_;refine r1 4 (fun K hK => ?_);go_simp
     obtain ⟨g55, hg55⟩ : ∃ g55, g55 = w54.heap.size := ⟨_, rfl⟩
     have hl55_0 : w.heap.size < g55 := by rw [hg55]; exact (hE.h10).lt
     have hl55_1 : w.heap.size + 1 < g55 := by rw [hg55]; exact (hE.h9).lt
     have hl55_2 : gA < g55 := by rw [hg55]; exact IntL.lt (hE.h8)
     have hl55_3 : gS < g55 := by rw [hg55]; exact IntL.lt (hE.h7)
     have hl55_5 : G1 < g55 := by rw [hg55]; exact (hE.h5).lt
     have hl55_7 : G2 < g55 := by rw [hg55]; exact (hE.h3).lt
     have hl55_9 : G3 < g55 := by rw [hg55]; exact (hE.here.1.2).lt
     replace hE := hE.blk 36 qz9 (g := g55) hg55.symm;generalize w54.alloc (.cells qz9 36) = W55 at hE ⊢;rw [← hg55];clear hg55;refine hK.out _ _ (hE.h10) (fun hHeld => ?_);clear hK K;try simp only [PL]
     refine r1 5 (fun K hK => ?_)
     have hgl56 : w.heap.size ≤ g55 := by omega
     have hgr56 := (sets_grown [.int .i64 E, .int .i64 Y, .int .i64 (t : Int), .bool sy, .slice Ay ny cy, .bool ty, .slice By my dy, .slice none 0 0, .slice none 0 0] 0 W55 ⟨_, hE.here.2, rfl⟩).1;change W55.grownBy (((((((((W55.setCell ⟨g55, 0, none⟩ (.int .i64 E)).setCell ⟨g55, 1, none⟩ (.int .i64 Y)).setCell ⟨g55, 2, none⟩ (.int .i64 (t : Int))).setCell ⟨g55, 3, none⟩ (.bool sy)).setCell ⟨g55, 4, none⟩ (.slice Ay ny cy)).setCell ⟨g55, 5, none⟩ (.bool ty)).setCell ⟨g55, 6, none⟩ (.slice By my dy)).setCell ⟨g55, 7, none⟩ (.slice none 0 0)).setCell ⟨g55, 8, none⟩ (.slice none 0 0)) _ at hgr56;have x56_0 := (hE.here.2).cell 0;have f56_0 := (hE.here.2).frozen 0;have x56_1 := (hE.here.2).cell 1;have f56_1 := (hE.here.2).frozen 1;have x56_2 := (hE.here.2).cell 2;have f56_2 := (hE.here.2).frozen 2;have x56_3 := (hE.here.2).cell 3;have f56_3 := (hE.here.2).frozen 3;have x56_4 := (hE.here.2).cell 4;have f56_4 := (hE.here.2).frozen 4;have x56_5 := (hE.here.2).cell 5;have f56_5 := (hE.here.2).frozen 5;have x56_6 := (hE.here.2).cell 6;have f56_6 := (hE.here.2).frozen 6;have x56_7 := (hE.here.2).cell 7;have f56_7 := (hE.here.2).frozen 7;have x56_8 := (hE.here.2).cell 8;have f56_8 := (hE.here.2).frozen 8;replace hE := (((((((((((((Env.again (Go.Proofs.YtclbiihcbfnjmaaGreat.Below.grownB hE.bel hgr56 hE.bel.size hgl56)).blkI (Blk.grownB (hE.h11) hgr56 (by omega))).blkI (Blk.grownB (hE.h10) hgr56 (by omega))).intl (IntL.far (hE.h9) (hE.here.2) (by omega) hgr56)).intl (IntL.far (hE.h8) (hE.here.2) (by omega) hgr56)).fv ((hE.h7).grownB (hE.here.2) rfl hgr56)).blkI (Blk.grownB (hE.h6) hgr56 (by omega))).fv ((hE.h5).grownB (hE.here.2) rfl hgr56)).blkI (Blk.grownB (hE.h4) hgr56 (by omega))).fv ((hE.h3).grownB (hE.here.2) rfl hgr56)).blkI (Blk.grownB (hE.h2) hgr56 (by omega))).fv ((hE.here.1.2).grownB (hE.here.2) rfl hgr56)).blkI (show Blk 36 g55 #[.int .i64 E, .int .i64 Y, .int .i64 (t : Int), .bool sy, .slice Ay ny cy, .bool ty, .slice By my dy, .slice none 0 0, .slice none 0 0] _ by simpa using ((((((((((((((((((hE.here.2).set_ 0 (.int .i64 E))).set_ 1 (.int .i64 Y))).set_ 2 (.int .i64 (t : Int)))).set_ 3 (.bool sy))).set_ 4 (.slice Ay ny cy))).set_ 5 (.bool ty))).set_ 6 (.slice By my dy))).set_ 7 (.slice none 0 0))).set_ 8 (.slice none 0 0))));go_simp;clear x56_0 f56_0 x56_1 f56_1 x56_2 f56_2 x56_3 f56_3 x56_4 f56_4 x56_5 f56_5 x56_6 f56_6 x56_7 f56_7 x56_8 f56_8 hgl56 hgr56;generalize (((((((((W55.setCell ⟨g55, 0, none⟩ (.int .i64 E)).setCell ⟨g55, 1, none⟩ (.int .i64 Y)).setCell ⟨g55, 2, none⟩ (.int .i64 (t : Int))).setCell ⟨g55, 3, none⟩ (.bool sy)).setCell ⟨g55, 4, none⟩ (.slice Ay ny cy)).setCell ⟨g55, 5, none⟩ (.bool ty)).setCell ⟨g55, 6, none⟩ (.slice By my dy)).setCell ⟨g55, 7, none⟩ (.slice none 0 0)).setCell ⟨g55, 8, none⟩ (.slice none 0 0)) = V56 at hE ⊢;refine hK.out _ _ (hE.h10) (fun hHeld => ?_);clear hK K;try simp only [PL]
     refine wpAnyH_done (by kernel_rfl) ?_ _;go_wp2_with fail
     go_meet
     exact ⟨g55, sy, Ay, ny, cy, ty, By, my, dy, rfl, ⟨by omega, by omega, by omega, by omega, by omega, by omega, by omega⟩, (((((((((((((Env.again hE.bel).blkI (hE.h11)).blkI (hE.h10)).intl (hE.h9)).intl (hE.h8)).fv (hE.h7)).blkI (hE.h6)).fv (hE.h5)).blkI (hE.h4)).fv (hE.h3)).blkI (hE.h2)).fv (hE.here.1.2)).blkI (hE.here.2))⟩
    ·
     go_simp
     obtain ⟨g57, hg57⟩ : ∃ g57, g57 = wd.heap.size := ⟨_, rfl⟩
     have hl57_0 : w.heap.size < g57 := by rw [hg57]; exact (hE.h9).lt
     have hl57_1 : w.heap.size + 1 < g57 := by rw [hg57]; exact (hE.h8).lt
     have hl57_2 : gA < g57 := by rw [hg57]; exact IntL.lt (hE.h7)
     have hl57_3 : gS < g57 := by rw [hg57]; exact IntL.lt (hE.h6)
     have hl57_5 : G1 < g57 := by rw [hg57]; exact (hE.h4).lt
     have hl57_7 : G2 < g57 := by rw [hg57]; exact (hE.h2).lt
     have hl57_9 : G3 < g57 := by rw [hg57]; exact (hE.here.2).lt
     replace hE := hE.blk 36 qz9 (g := g57) hg57.symm;generalize wd.alloc (.cells qz9 36) = W57 at hE ⊢;rw [← hg57];clear hg57;refine hK.out _ _ (hE.h9) (fun hHeld => ?_);clear hK K;try simp only [PL]
     refine r1 1 (fun K hK => ?_);go_simp;have hc := ffromInt_v 1 W57 (by decide) (by decide);change Calls _ _ _ _ (FR 1 _) at hc;refine hE.fr (hc) ?_;clear hE;intro sy Ay ny cy ty By my dy w58 hE;clear hc;go_wp2_with fail
     refine hK.out _ _ (hE.h10) (fun hHeld => ?_);clear hK K;try simp only [PL]
     refine tk 3 ?_;refine r1 5 (fun K hK => ?_)
     have hgl59 : w.heap.size ≤ g57 := by omega
     have hgr59 := (sets_grown [.int .i64 E, .int .i64 Y, .int .i64 (t : Int), .bool sy, .slice Ay ny cy, .bool ty, .slice By my dy, .slice none 0 0, .slice none 0 0] 0 w58 ⟨_, hE.here.1.2, rfl⟩).1;change w58.grownBy (((((((((w58.setCell ⟨g57, 0, none⟩ (.int .i64 E)).setCell ⟨g57, 1, none⟩ (.int .i64 Y)).setCell ⟨g57, 2, none⟩ (.int .i64 (t : Int))).setCell ⟨g57, 3, none⟩ (.bool sy)).setCell ⟨g57, 4, none⟩ (.slice Ay ny cy)).setCell ⟨g57, 5, none⟩ (.bool ty)).setCell ⟨g57, 6, none⟩ (.slice By my dy)).setCell ⟨g57, 7, none⟩ (.slice none 0 0)).setCell ⟨g57, 8, none⟩ (.slice none 0 0)) _ at hgr59;have x59_0 := (hE.here.1.2).cell 0;have f59_0 := (hE.here.1.2).frozen 0;have x59_1 := (hE.here.1.2).cell 1;have f59_1 := (hE.here.1.2).frozen 1;have x59_2 := (hE.here.1.2).cell 2;have f59_2 := (hE.here.1.2).frozen 2;have x59_3 := (hE.here.1.2).cell 3;have f59_3 := (hE.here.1.2).frozen 3;have x59_4 := (hE.here.1.2).cell 4;have f59_4 := (hE.here.1.2).frozen 4;have x59_5 := (hE.here.1.2).cell 5;have f59_5 := (hE.here.1.2).frozen 5;have x59_6 := (hE.here.1.2).cell 6;have f59_6 := (hE.here.1.2).frozen 6;have x59_7 := (hE.here.1.2).cell 7;have f59_7 := (hE.here.1.2).frozen 7;have x59_8 := (hE.here.1.2).cell 8;have f59_8 := (hE.here.1.2).frozen 8;replace hE := (((((((((((((Env.again (Go.Proofs.YtclbiihcbfnjmaaGreat.Below.grownB hE.bel hgr59 hE.bel.size hgl59)).blkI (Blk.grownB (hE.h11) hgr59 (by omega))).blkI (Blk.grownB (hE.h10) hgr59 (by omega))).intl (IntL.far (hE.h9) (hE.here.1.2) (by omega) hgr59)).intl (IntL.far (hE.h8) (hE.here.1.2) (by omega) hgr59)).fv ((hE.h7).grownB (hE.here.1.2) rfl hgr59)).blkI (Blk.grownB (hE.h6) hgr59 (by omega))).fv ((hE.h5).grownB (hE.here.1.2) rfl hgr59)).blkI (Blk.grownB (hE.h4) hgr59 (by omega))).fv ((hE.h3).grownB (hE.here.1.2) rfl hgr59)).blkI (Blk.grownB (hE.h2) hgr59 (by omega))).blkI (show Blk 36 g57 #[.int .i64 E, .int .i64 Y, .int .i64 (t : Int), .bool sy, .slice Ay ny cy, .bool ty, .slice By my dy, .slice none 0 0, .slice none 0 0] _ by simpa using ((((((((((((((((((hE.here.1.2).set_ 0 (.int .i64 E))).set_ 1 (.int .i64 Y))).set_ 2 (.int .i64 (t : Int)))).set_ 3 (.bool sy))).set_ 4 (.slice Ay ny cy))).set_ 5 (.bool ty))).set_ 6 (.slice By my dy))).set_ 7 (.slice none 0 0))).set_ 8 (.slice none 0 0)))).fv ((hE.here.2).grownB (hE.here.1.2) rfl hgr59));go_simp;clear x59_0 f59_0 x59_1 f59_1 x59_2 f59_2 x59_3 f59_3 x59_4 f59_4 x59_5 f59_5 x59_6 f59_6 x59_7 f59_7 x59_8 f59_8 hgl59 hgr59;generalize (((((((((w58.setCell ⟨g57, 0, none⟩ (.int .i64 E)).setCell ⟨g57, 1, none⟩ (.int .i64 Y)).setCell ⟨g57, 2, none⟩ (.int .i64 (t : Int))).setCell ⟨g57, 3, none⟩ (.bool sy)).setCell ⟨g57, 4, none⟩ (.slice Ay ny cy)).setCell ⟨g57, 5, none⟩ (.bool ty)).setCell ⟨g57, 6, none⟩ (.slice By my dy)).setCell ⟨g57, 7, none⟩ (.slice none 0 0)).setCell ⟨g57, 8, none⟩ (.slice none 0 0)) = V59 at hE ⊢;refine hK.out _ _ (hE.h10) (fun hHeld => ?_);clear hK K;try simp only [PL]
     refine wpAnyH_done (by kernel_rfl) ?_ _;go_wp2_with fail
     go_meet
     exact ⟨g57, sy, Ay, ny, cy, ty, By, my, dy, rfl, ⟨by omega, by omega, by omega, by omega, by omega, by omega, by omega⟩, (((((((((((((Env.again hE.bel).blkI (hE.h11)).blkI (hE.h10)).intl (hE.h9)).intl (hE.h8)).fv (hE.h7)).blkI (hE.h6)).fv (hE.h5)).blkI (hE.h4)).fv (hE.h3)).blkI (hE.h2)).fv (hE.here.2)).blkI (hE.here.1.2))⟩
   case rest =>
   clear hE;obtain ⟨G4, sy, Ay, ny, cy, ty, By, my, dy, rfl, ⟨hG40, hG41, hG42, hG43, hG44, hG45, hG46⟩, hE⟩ := hcut;generalize wc = wk16 at hE ⊢
   go_upto_region 17 with (fail)
   have hnil : Amts 0 (fun _ => (0 : Int)) := ⟨by decide, fun k h => absurd h (Nat.not_lt_zero k)⟩;have hok2 : Ct.ok (Ct.mk E Y 0 (FHof (((0 : Int) : Rat)) sq Aq nq cq tq Bq mq dq) none 0 0 (fun _ => (0 : Int)) (some ⟨gA, 0, none⟩) 61 61 (ones f t)) b := ⟨hok.1, hok.2.1, show (0 : Int) ≤ 0 ∧ (0 : Int) ≤ 120 by decide, prem_ok (hE.h5) (by decide) (by rw [fl_le]; decide +kernel) cq dq, hnil, ones_amts f t⟩;have hxb2 : Ct.bd (Ct.mk E Y 0 (FHof (((0 : Int) : Rat)) sq Aq nq cq tq Bq mq dq) none 0 0 (fun _ => (0 : Int)) (some ⟨gA, 0, none⟩) 61 61 (ones f t)) := ⟨by have := hok2.2.2.1; exact ⟨by have := this.1; omega, by have := this.2; omega⟩, ⟨Nat.le_trans hok2.2.2.2.1.2.2.1 (by decide), Nat.le_trans hok2.2.2.2.1.2.2.2 (by decide)⟩, Nat.le_trans hok2.2.2.2.2.1.1 (by decide), Nat.le_trans hok2.2.2.2.2.2.1 (by decide)⟩;have hok3 : Ct.ok (Ct.mk E Y 0 (FHof (((0 : Int) : Rat)) sr Ar nr cr tr Br mr dr) (some ⟨gS, 0, none⟩) 61 61 (ones f (f + 1)) none 0 0 (fun _ => (0 : Int))) b := ⟨hok.1, hok.2.1, show (0 : Int) ≤ 0 ∧ (0 : Int) ≤ 120 by decide, prem_ok (hE.h3) (by decide) (by rw [fl_le]; decide +kernel) cr dr, ones_amts f (f + 1), hnil⟩;have hxb3 : Ct.bd (Ct.mk E Y 0 (FHof (((0 : Int) : Rat)) sr Ar nr cr tr Br mr dr) (some ⟨gS, 0, none⟩) 61 61 (ones f (f + 1)) none 0 0 (fun _ => (0 : Int))) := ⟨by have := hok3.2.2.1; exact ⟨by have := this.1; omega, by have := this.2; omega⟩, ⟨Nat.le_trans hok3.2.2.2.1.2.2.1 (by decide), Nat.le_trans hok3.2.2.2.1.2.2.2 (by decide)⟩, Nat.le_trans hok3.2.2.2.2.1.1 (by decide), Nat.le_trans hok3.2.2.2.2.2.1 (by decide)⟩;have hok4 : Ct.ok (Ct.mk E Y (t : Int) (FHof (1) sy Ay ny cy ty By my dy) none 0 0 (fun _ => (0 : Int)) none 0 0 (fun _ => (0 : Int))) b := ⟨hok.1, hok.2.1, show (0 : Int) ≤ (t : Int) ∧ (t : Int) ≤ 120 by omega, prem_ok (hE.here.1.2) (by decide) (by rw [fl_le]; decide +kernel) cy dy, hnil, hnil⟩;have hxb4 : Ct.bd (Ct.mk E Y (t : Int) (FHof (1) sy Ay ny cy ty By my dy) none 0 0 (fun _ => (0 : Int)) none 0 0 (fun _ => (0 : Int))) := ⟨by have := hok4.2.2.1; exact ⟨by have := this.1; omega, by have := this.2; omega⟩, ⟨Nat.le_trans hok4.2.2.2.1.2.2.1 (by decide), Nat.le_trans hok4.2.2.2.1.2.2.2 (by decide)⟩, Nat.le_trans hok4.2.2.2.2.1.1 (by decide), Nat.le_trans hok4.2.2.2.2.2.1 (by decide)⟩;have hq4 : (FHof 1 sy Ay ny cy ty By my dy).q = 1 := FHof.q_eq (hE.here.1.2)
   have hN61 : N ≤ 61 := by omega
   have hn0 : ∀ k, amt (fun _ => (0 : Int)) 0 k = 0 := fun k => nil0_eq k
   have hw1 : b.ben (Ct.mk E Y 0 (FHof (((0 : Int) : Rat)) sp Ap np cp tp Bp mp dp) (some ⟨gA, 0, none⟩) 61 61 (ones f t) none 0 0 (fun _ => (0 : Int))) N 0 = (ps (dd b.v (b.rt E Y)) (f : Int) (t : Int) N) := kinds_live hN61 f t hn0;have hw2 : b.ben (Ct.mk E Y 0 (FHof (((0 : Int) : Rat)) sq Aq nq cq tq Bq mq dq) none 0 0 (fun _ => (0 : Int)) (some ⟨gA, 0, none⟩) 61 61 (ones f t)) N 0 = (ps (cc b.v (b.rt E Y)) (f : Int) (t : Int) N) := kinds_dead hN61 f t hn0;have hw3 : b.ben (Ct.mk E Y 0 (FHof (((0 : Int) : Rat)) sr Ar nr cr tr Br mr dr) (some ⟨gS, 0, none⟩) 61 61 (ones f (f + 1)) none 0 0 (fun _ => (0 : Int))) N 0 = (if f < N then dd b.v (b.rt E Y) f else 0) := kinds_one hN61 f hn0
   have hw4 : b.prm (Ct.mk E Y (t : Int) (FHof (1) sy Ay ny cy ty By my dy) none 0 0 (fun _ => (0 : Int)) none 0 0 (fun _ => (0 : Int))) 1 N 0 = (ps (dd b.v (b.rt E Y)) ((0 : Nat) : Int) (t : Int) N) := by unfold Bh.prm; rw [show (Ct.T (Ct.mk E Y (t : Int) (FHof (1) sy Ay ny cy ty By my dy) none 0 0 (fun _ => (0 : Int)) none 0 0 (fun _ => (0 : Int)))).toNat = t from Int.toNat_natCast t]; exact kinds_prem t nil0_eq
   have hl1 : fl (b.ben (Ct.mk E Y 0 (FHof (((0 : Int) : Rat)) sp Ap np cp tp Bp mp dp) (some ⟨gA, 0, none⟩) 61 61 (ones f t) none 0 0 (fun _ => (0 : Int))) N 0) ≤ 256 := (Ct.vlB (x := (Ct.mk E Y 0 (FHof (((0 : Int) : Rat)) sp Ap np cp tp Bp mp dp) (some ⟨gA, 0, none⟩) 61 61 (ones f t) none 0 0 (fun _ => (0 : Int)))) Hhb.out hok hN (show N ≤ 80 by omega)).a 0;have hl2 : fl (b.ben (Ct.mk E Y 0 (FHof (((0 : Int) : Rat)) sq Aq nq cq tq Bq mq dq) none 0 0 (fun _ => (0 : Int)) (some ⟨gA, 0, none⟩) 61 61 (ones f t)) N 0) ≤ 256 := (Ct.vlB (x := (Ct.mk E Y 0 (FHof (((0 : Int) : Rat)) sq Aq nq cq tq Bq mq dq) none 0 0 (fun _ => (0 : Int)) (some ⟨gA, 0, none⟩) 61 61 (ones f t))) Hhb.out hok2 hN (show N ≤ 80 by omega)).a 0;have hl3 : fl (b.ben (Ct.mk E Y 0 (FHof (((0 : Int) : Rat)) sr Ar nr cr tr Br mr dr) (some ⟨gS, 0, none⟩) 61 61 (ones f (f + 1)) none 0 0 (fun _ => (0 : Int))) N 0) ≤ 256 := (Ct.vlB (x := (Ct.mk E Y 0 (FHof (((0 : Int) : Rat)) sr Ar nr cr tr Br mr dr) (some ⟨gS, 0, none⟩) 61 61 (ones f (f + 1)) none 0 0 (fun _ => (0 : Int)))) Hhb.out hok3 hN (show N ≤ 80 by omega)).a 0;have hl4 : fl (b.prm (Ct.mk E Y (t : Int) (FHof (1) sy Ay ny cy ty By my dy) none 0 0 (fun _ => (0 : Int)) none 0 0 (fun _ => (0 : Int))) 1 N 0) ≤ 256 := (Ct.vlU (x := (Ct.mk E Y (t : Int) (FHof (1) sy Ay ny cy ty By my dy) none 0 0 (fun _ => (0 : Int)) none 0 0 (fun _ => (0 : Int)))) Hhb.out hok4 hN (show N ≤ 80 by omega)).a 0;rw [hw1] at hl1;rw [hw2] at hl2;rw [hw3] at hl3;rw [hw4] at hl4;have Hhw1 := Lib.hid hw1;clear hw1;have Hhw2 := Lib.hid hw2;clear hw2;have Hhw3 := Lib.hid hw3;clear hw3;have Hhw4 := Lib.hid hw4;clear hw4;have Hhl1 := Lib.hid hl1;clear hl1;have Hhl2 := Lib.hid hl2;clear hl2;have Hhl3 := Lib.hid hl3;clear hl3;have Hhl4 := Lib.hid hl4;clear hl4;have Hhn0 := Lib.hid hn0;clear hn0;have Hhok := Lib.hid hok;clear hok;have Hhxb := Lib.hid hxb;clear hxb;have Hhok2 := Lib.hid hok2;clear hok2;have Hhxb2 := Lib.hid hxb2;clear hxb2;have Hhok3 := Lib.hid hok3;clear hok3;have Hhxb3 := Lib.hid hxb3;clear hxb3;have Hhok4 := Lib.hid hok4;clear hok4;have Hhxb4 := Lib.hid hxb4;clear hxb4;have HhN := Lib.hid hN;clear hN;have Hhbb := Lib.hid hbb;clear hbb;have Hhq4 := Lib.hid hq4;clear hq4;obtain ⟨k60, k61, k62, k63, k64, k65, k66⟩ := (hE.h11).c7;have k67 := (hE.h6).cell 0;have k68 := (hE.h6).cell 1;have k69 := (hE.h6).cell 2;have k70 := (hE.h6).cell 3;have k71 := (hE.h6).cell 4;have k72 := (hE.h6).cell 5;have k73 := (hE.h6).cell 6;have k74 := (hE.h6).cell 7;have k75 := (hE.h6).cell 8;go_wp2_with fail
   have hc := vbene_v (x := (Ct.mk E Y 0 (FHof (((0 : Int) : Rat)) sp Ap np cp tp Bp mp dp) (some ⟨gA, 0, none⟩) 61 61 (ones f t) none 0 0 (fun _ => (0 : Int)))) (Bh.rd_below Hhb.out hE.bel) Hhbb.out (show Ct.rd _ _ from ⟨(hE.h7).rd, (hE.h9).rd, RdI.nil none⟩) Hhxb.out Hhok.out N HhN.out (by omega) 0 HhN.out.pos;rw [Hhw1.out] at hc;refine hE.fr (hc) ?_;clear hE k60 k61 k62 k63 k64 k65 k66 k67 k68 k69 k70 k71 k72 k73 k74 k75;intro sa Aa na ca ta Ba ma da w76 hE;clear hc
   go_upto_region 18 with (fail)
   obtain ⟨g77, hg77⟩ : ∃ g77, g77 = w76.heap.size := ⟨_, rfl⟩
   have hl77_0 : w.heap.size < g77 := by rw [hg77]; exact (hE.h12).lt
   have hl77_1 : w.heap.size + 1 < g77 := by rw [hg77]; exact (hE.h11).lt
   have hl77_2 : gA < g77 := by rw [hg77]; exact IntL.lt (hE.h10)
   have hl77_3 : gS < g77 := by rw [hg77]; exact IntL.lt (hE.h9)
   have hl77_5 : G1 < g77 := by rw [hg77]; exact (hE.h7).lt
   have hl77_7 : G2 < g77 := by rw [hg77]; exact (hE.h5).lt
   have hl77_9 : G3 < g77 := by rw [hg77]; exact (hE.h3).lt
   have hl77_11 : G4 < g77 := by rw [hg77]; exact (hE.here.1.2).lt
   replace hE := hE.blk 29 (qf4 sa Aa na ca ta Ba ma da) (g := g77) hg77.symm;generalize w76.alloc (.cells (qf4 sa Aa na ca ta Ba ma da) 29) = W77 at hE ⊢;rw [← hg77];clear hg77;obtain ⟨k78, k79, k80, k81, k82, k83, k84⟩ := (hE.h13).c7;obtain ⟨k85, k86⟩ := (hE.h12).c2;go_wp2_with fail
   have hc := cAnn_v (F := b.F) (S := b.S) (E := E) (Y := Y) (A := b.A) (n := b.n) (c := b.c) (r := b.r) (si := b.i.s) (ti := b.i.t) (Ai := b.i.A) (Bi := b.i.B) (ni := b.i.n) (mi := b.i.m) (ci := b.i.c) (di := b.i.d) (fi := b.i.f) (gi := b.i.g) (Hhb.out.1.below hE.bel) Hhbb.out.1 (FRd.below Hhb.out.2 hE.bel) Hhbb.out.2.1 Hhbb.out.2.2 Hhok.out.1 Hhok.out.2.1 N HhN.out (by omega) f t (by omega) (by omega);change Calls _ _ _ _ (FOK (ps (dd b.v (b.rt E Y)) (f : Int) (t : Int) N) _) at hc;refine hE.fr (hc) ?_;clear hE k78 k79 k80 k81 k82 k83 k84 k85 k86;intro sb Ab nb cb tb Bb mb db w87 hE;clear hc
   go_upto_region 19 with (fail)
   obtain ⟨g88, hg88⟩ : ∃ g88, g88 = w87.heap.size := ⟨_, rfl⟩
   have hl88_0 : w.heap.size < g88 := by rw [hg88]; exact (hE.h14).lt
   have hl88_1 : w.heap.size + 1 < g88 := by rw [hg88]; exact (hE.h13).lt
   have hl88_2 : gA < g88 := by rw [hg88]; exact IntL.lt (hE.h12)
   have hl88_3 : gS < g88 := by rw [hg88]; exact IntL.lt (hE.h11)
   have hl88_5 : G1 < g88 := by rw [hg88]; exact (hE.h9).lt
   have hl88_7 : G2 < g88 := by rw [hg88]; exact (hE.h7).lt
   have hl88_9 : G3 < g88 := by rw [hg88]; exact (hE.h5).lt
   have hl88_11 : G4 < g88 := by rw [hg88]; exact (hE.h3).lt
   have hl88_13 : g77 < g88 := by rw [hg88]; exact (hE.here.1.2).lt
   replace hE := hE.blk 29 (qf4 sb Ab nb cb tb Bb mb db) (g := g88) hg88.symm;generalize w87.alloc (.cells (qf4 sb Ab nb cb tb Bb mb db) 29) = W88 at hE ⊢;rw [← hg88];clear hg88;obtain ⟨k89, k90, k91, k92, k93, k94, k95⟩ := (hE.h15).c7;have k96 := (hE.h8).cell 0;have k97 := (hE.h8).cell 1;have k98 := (hE.h8).cell 2;have k99 := (hE.h8).cell 3;have k100 := (hE.h8).cell 4;have k101 := (hE.h8).cell 5;have k102 := (hE.h8).cell 6;have k103 := (hE.h8).cell 7;have k104 := (hE.h8).cell 8;go_wp2_with fail
   have hc := vbene_v (x := (Ct.mk E Y 0 (FHof (((0 : Int) : Rat)) sq Aq nq cq tq Bq mq dq) none 0 0 (fun _ => (0 : Int)) (some ⟨gA, 0, none⟩) 61 61 (ones f t))) (Bh.rd_below Hhb.out hE.bel) Hhbb.out (show Ct.rd _ _ from ⟨(hE.h9).rd, RdI.nil none, (hE.h13).rd⟩) Hhxb2.out Hhok2.out N HhN.out (by omega) 0 HhN.out.pos;rw [Hhw2.out] at hc;refine hE.fr (hc) ?_;clear hE k89 k90 k91 k92 k93 k94 k95 k96 k97 k98 k99 k100 k101 k102 k103 k104;intro sm Am nm cm tm Bm mm dm w105 hE;clear hc
   go_upto_region 20 with (fail)
   obtain ⟨g106, hg106⟩ : ∃ g106, g106 = w105.heap.size := ⟨_, rfl⟩
   have hl106_0 : w.heap.size < g106 := by rw [hg106]; exact (hE.h16).lt
   have hl106_1 : w.heap.size + 1 < g106 := by rw [hg106]; exact (hE.h15).lt
   have hl106_2 : gA < g106 := by rw [hg106]; exact IntL.lt (hE.h14)
   have hl106_3 : gS < g106 := by rw [hg106]; exact IntL.lt (hE.h13)
   have hl106_5 : G1 < g106 := by rw [hg106]; exact (hE.h11).lt
   have hl106_7 : G2 < g106 := by rw [hg106]; exact (hE.h9).lt
   have hl106_9 : G3 < g106 := by rw [hg106]; exact (hE.h7).lt
   have hl106_11 : G4 < g106 := by rw [hg106]; exact (hE.h5).lt
   have hl106_13 : g77 < g106 := by rw [hg106]; exact (hE.h3).lt
   have hl106_15 : g88 < g106 := by rw [hg106]; exact (hE.here.1.2).lt
   replace hE := hE.blk 29 (qf4 sm Am nm cm tm Bm mm dm) (g := g106) hg106.symm;generalize w105.alloc (.cells (qf4 sm Am nm cm tm Bm mm dm) 29) = W106 at hE ⊢;rw [← hg106];clear hg106;obtain ⟨k107, k108, k109, k110, k111, k112, k113⟩ := (hE.h17).c7;obtain ⟨k114, k115⟩ := (hE.h16).c2;go_wp2_with fail
   have hc := cAss_v (F := b.F) (S := b.S) (E := E) (Y := Y) (A := b.A) (n := b.n) (c := b.c) (r := b.r) (si := b.i.s) (ti := b.i.t) (Ai := b.i.A) (Bi := b.i.B) (ni := b.i.n) (mi := b.i.m) (ci := b.i.c) (di := b.i.d) (fi := b.i.f) (gi := b.i.g) (Hhb.out.1.below hE.bel) Hhbb.out.1 (FRd.below Hhb.out.2 hE.bel) Hhbb.out.2.1 Hhbb.out.2.2 Hhok.out.1 Hhok.out.2.1 N HhN.out (by omega) f t (by omega) (by omega);change Calls _ _ _ _ (FOK (ps (cc b.v (b.rt E Y)) (f : Int) (t : Int) N) _) at hc;refine hE.fr (hc) ?_;clear hE k107 k108 k109 k110 k111 k112 k113 k114 k115;intro sn An nn cn tn Bn mn dn w116 hE;clear hc
   go_upto_region 21 with (fail)
   obtain ⟨g117, hg117⟩ : ∃ g117, g117 = w116.heap.size := ⟨_, rfl⟩
   have hl117_0 : w.heap.size < g117 := by rw [hg117]; exact (hE.h18).lt
   have hl117_1 : w.heap.size + 1 < g117 := by rw [hg117]; exact (hE.h17).lt
   have hl117_2 : gA < g117 := by rw [hg117]; exact IntL.lt (hE.h16)
   have hl117_3 : gS < g117 := by rw [hg117]; exact IntL.lt (hE.h15)
   have hl117_5 : G1 < g117 := by rw [hg117]; exact (hE.h13).lt
   have hl117_7 : G2 < g117 := by rw [hg117]; exact (hE.h11).lt
   have hl117_9 : G3 < g117 := by rw [hg117]; exact (hE.h9).lt
   have hl117_11 : G4 < g117 := by rw [hg117]; exact (hE.h7).lt
   have hl117_13 : g77 < g117 := by rw [hg117]; exact (hE.h5).lt
   have hl117_15 : g88 < g117 := by rw [hg117]; exact (hE.h3).lt
   have hl117_17 : g106 < g117 := by rw [hg117]; exact (hE.here.1.2).lt
   replace hE := hE.blk 29 (qf4 sn An nn cn tn Bn mn dn) (g := g117) hg117.symm;generalize w116.alloc (.cells (qf4 sn An nn cn tn Bn mn dn) 29) = W117 at hE ⊢;rw [← hg117];clear hg117;obtain ⟨k118, k119, k120, k121, k122, k123, k124⟩ := (hE.h19).c7;have k125 := (hE.h10).cell 0;have k126 := (hE.h10).cell 1;have k127 := (hE.h10).cell 2;have k128 := (hE.h10).cell 3;have k129 := (hE.h10).cell 4;have k130 := (hE.h10).cell 5;have k131 := (hE.h10).cell 6;have k132 := (hE.h10).cell 7;have k133 := (hE.h10).cell 8;go_wp2_with fail
   have hc := vbene_v (x := (Ct.mk E Y 0 (FHof (((0 : Int) : Rat)) sr Ar nr cr tr Br mr dr) (some ⟨gS, 0, none⟩) 61 61 (ones f (f + 1)) none 0 0 (fun _ => (0 : Int)))) (Bh.rd_below Hhb.out hE.bel) Hhbb.out (show Ct.rd _ _ from ⟨(hE.h11).rd, (hE.h16).rd, RdI.nil none⟩) Hhxb3.out Hhok3.out N HhN.out (by omega) 0 HhN.out.pos;rw [Hhw3.out] at hc;refine hE.fr (hc) ?_;clear hE k118 k119 k120 k121 k122 k123 k124 k125 k126 k127 k128 k129 k130 k131 k132 k133;intro se Ae ne ce te Be me de w134 hE;clear hc
   go_upto_region 22 with (fail)
   obtain ⟨g135, hg135⟩ : ∃ g135, g135 = w134.heap.size := ⟨_, rfl⟩
   have hl135_0 : w.heap.size < g135 := by rw [hg135]; exact (hE.h20).lt
   have hl135_1 : w.heap.size + 1 < g135 := by rw [hg135]; exact (hE.h19).lt
   have hl135_2 : gA < g135 := by rw [hg135]; exact IntL.lt (hE.h18)
   have hl135_3 : gS < g135 := by rw [hg135]; exact IntL.lt (hE.h17)
   have hl135_5 : G1 < g135 := by rw [hg135]; exact (hE.h15).lt
   have hl135_7 : G2 < g135 := by rw [hg135]; exact (hE.h13).lt
   have hl135_9 : G3 < g135 := by rw [hg135]; exact (hE.h11).lt
   have hl135_11 : G4 < g135 := by rw [hg135]; exact (hE.h9).lt
   have hl135_13 : g77 < g135 := by rw [hg135]; exact (hE.h7).lt
   have hl135_15 : g88 < g135 := by rw [hg135]; exact (hE.h5).lt
   have hl135_17 : g106 < g135 := by rw [hg135]; exact (hE.h3).lt
   have hl135_19 : g117 < g135 := by rw [hg135]; exact (hE.here.1.2).lt
   replace hE := hE.blk 29 (qf4 se Ae ne ce te Be me de) (g := g135) hg135.symm;generalize w134.alloc (.cells (qf4 se Ae ne ce te Be me de) 29) = W135 at hE ⊢;rw [← hg135];clear hg135;obtain ⟨k136, k137, k138, k139, k140, k141, k142⟩ := (hE.h21).c7;obtain ⟨k143, k144⟩ := (hE.h20).c2;go_wp2_with fail
   have hc := cEnd_v (F := b.F) (S := b.S) (E := E) (Y := Y) (A := b.A) (n := b.n) (c := b.c) (r := b.r) (si := b.i.s) (ti := b.i.t) (Ai := b.i.A) (Bi := b.i.B) (ni := b.i.n) (mi := b.i.m) (ci := b.i.c) (di := b.i.d) (fi := b.i.f) (gi := b.i.g) (Hhb.out.1.below hE.bel) Hhbb.out.1 (FRd.below Hhb.out.2 hE.bel) Hhbb.out.2.1 Hhbb.out.2.2 Hhok.out.1 Hhok.out.2.1 N HhN.out (by omega) f (by omega);change Calls _ _ _ _ (FOK (if f < N then dd b.v (b.rt E Y) f else 0) _) at hc;refine hE.fr (hc) ?_;clear hE k136 k137 k138 k139 k140 k141 k142 k143 k144;intro sv Av nv cv tv Bv mv dv w145 hE;clear hc
   go_upto_region 23 with (fail)
   obtain ⟨g146, hg146⟩ : ∃ g146, g146 = w145.heap.size := ⟨_, rfl⟩
   have hl146_0 : w.heap.size < g146 := by rw [hg146]; exact (hE.h22).lt
   have hl146_1 : w.heap.size + 1 < g146 := by rw [hg146]; exact (hE.h21).lt
   have hl146_2 : gA < g146 := by rw [hg146]; exact IntL.lt (hE.h20)
   have hl146_3 : gS < g146 := by rw [hg146]; exact IntL.lt (hE.h19)
   have hl146_5 : G1 < g146 := by rw [hg146]; exact (hE.h17).lt
   have hl146_7 : G2 < g146 := by rw [hg146]; exact (hE.h15).lt
   have hl146_9 : G3 < g146 := by rw [hg146]; exact (hE.h13).lt
   have hl146_11 : G4 < g146 := by rw [hg146]; exact (hE.h11).lt
   have hl146_13 : g77 < g146 := by rw [hg146]; exact (hE.h9).lt
   have hl146_15 : g88 < g146 := by rw [hg146]; exact (hE.h7).lt
   have hl146_17 : g106 < g146 := by rw [hg146]; exact (hE.h5).lt
   have hl146_19 : g117 < g146 := by rw [hg146]; exact (hE.h3).lt
   have hl146_21 : g135 < g146 := by rw [hg146]; exact (hE.here.1.2).lt
   replace hE := hE.blk 29 (qf4 sv Av nv cv tv Bv mv dv) (g := g146) hg146.symm;generalize w145.alloc (.cells (qf4 sv Av nv cv tv Bv mv dv) 29) = W146 at hE ⊢;rw [← hg146];clear hg146;obtain ⟨k147, k148, k149, k150, k151, k152, k153⟩ := (hE.h23).c7;have k154 := (hE.h12).cell 0;have k155 := (hE.h12).cell 1;have k156 := (hE.h12).cell 2;have k157 := (hE.h12).cell 3;have k158 := (hE.h12).cell 4;have k159 := (hE.h12).cell 5;have k160 := (hE.h12).cell 6;have k161 := (hE.h12).cell 7;have k162 := (hE.h12).cell 8;go_wp2_with fail
   have hc := vpremt_v (x := (Ct.mk E Y (t : Int) (FHof (1) sy Ay ny cy ty By my dy) none 0 0 (fun _ => (0 : Int)) none 0 0 (fun _ => (0 : Int)))) (Bh.rd_below Hhb.out hE.bel) Hhbb.out (show Ct.rd _ _ from ⟨(hE.h13).rd, RdI.nil none, RdI.nil none⟩) Hhxb4.out Hhok4.out N HhN.out (by omega) 0 HhN.out.pos;change Calls _ _ _ _ (FOK (b.prm (Ct.mk E Y (t : Int) (FHof (1) sy Ay ny cy ty By my dy) none 0 0 (fun _ => (0 : Int)) none 0 0 (fun _ => (0 : Int))) (FHof 1 sy Ay ny cy ty By my dy).q N 0) _) at hc;rw [Hhq4.out] at hc;rw [Hhw4.out] at hc;refine hE.fr (hc) ?_;clear hE k147 k148 k149 k150 k151 k152 k153 k154 k155 k156 k157 k158 k159 k160 k161 k162;intro sg Ag ng cg tg Bg mg dg w163 hE;clear hc
   go_upto_region 24 with (fail)
   obtain ⟨g164, hg164⟩ : ∃ g164, g164 = w163.heap.size := ⟨_, rfl⟩
   have hl164_0 : w.heap.size < g164 := by rw [hg164]; exact (hE.h24).lt
   have hl164_1 : w.heap.size + 1 < g164 := by rw [hg164]; exact (hE.h23).lt
   have hl164_2 : gA < g164 := by rw [hg164]; exact IntL.lt (hE.h22)
   have hl164_3 : gS < g164 := by rw [hg164]; exact IntL.lt (hE.h21)
   have hl164_5 : G1 < g164 := by rw [hg164]; exact (hE.h19).lt
   have hl164_7 : G2 < g164 := by rw [hg164]; exact (hE.h17).lt
   have hl164_9 : G3 < g164 := by rw [hg164]; exact (hE.h15).lt
   have hl164_11 : G4 < g164 := by rw [hg164]; exact (hE.h13).lt
   have hl164_13 : g77 < g164 := by rw [hg164]; exact (hE.h11).lt
   have hl164_15 : g88 < g164 := by rw [hg164]; exact (hE.h9).lt
   have hl164_17 : g106 < g164 := by rw [hg164]; exact (hE.h7).lt
   have hl164_19 : g117 < g164 := by rw [hg164]; exact (hE.h5).lt
   have hl164_21 : g135 < g164 := by rw [hg164]; exact (hE.h3).lt
   have hl164_23 : g146 < g164 := by rw [hg164]; exact (hE.here.1.2).lt
   replace hE := hE.blk 29 (qf4 sg Ag ng cg tg Bg mg dg) (g := g164) hg164.symm;generalize w163.alloc (.cells (qf4 sg Ag ng cg tg Bg mg dg) 29) = W164 at hE ⊢;rw [← hg164];clear hg164;obtain ⟨k165, k166, k167, k168, k169, k170, k171⟩ := (hE.h25).c7;obtain ⟨k172, k173⟩ := (hE.h24).c2;go_wp2_with fail
   have hc := cAnn_v (F := b.F) (S := b.S) (E := E) (Y := Y) (A := b.A) (n := b.n) (c := b.c) (r := b.r) (si := b.i.s) (ti := b.i.t) (Ai := b.i.A) (Bi := b.i.B) (ni := b.i.n) (mi := b.i.m) (ci := b.i.c) (di := b.i.d) (fi := b.i.f) (gi := b.i.g) (Hhb.out.1.below hE.bel) Hhbb.out.1 (FRd.below Hhb.out.2 hE.bel) Hhbb.out.2.1 Hhbb.out.2.2 Hhok.out.1 Hhok.out.2.1 N HhN.out (by omega) 0 t (by omega) (by omega);change Calls _ _ _ _ (FOK (ps (dd b.v (b.rt E Y)) ((0 : Nat) : Int) (t : Int) N) _) at hc;refine hE.fr (hc) ?_;clear hE k165 k166 k167 k168 k169 k170 k171 k172 k173;intro sh Ah nh ch th Bh mh dh w174 hE;clear hc
   go_upto_region 25 with (fail)
   obtain ⟨g175, hg175⟩ : ∃ g175, g175 = w174.heap.size := ⟨_, rfl⟩
   have hl175_0 : w.heap.size < g175 := by rw [hg175]; exact (hE.here.1.1.1.1.1.1.1.1.1.1.1.1.1.1.1.1.1.1.1.1.1.1.1.1.1.1.2).lt
   have hl175_1 : w.heap.size + 1 < g175 := by rw [hg175]; exact (hE.h25).lt
   have hl175_2 : gA < g175 := by rw [hg175]; exact IntL.lt (hE.h24)
   have hl175_3 : gS < g175 := by rw [hg175]; exact IntL.lt (hE.h23)
   have hl175_5 : G1 < g175 := by rw [hg175]; exact (hE.h21).lt
   have hl175_7 : G2 < g175 := by rw [hg175]; exact (hE.h19).lt
   have hl175_9 : G3 < g175 := by rw [hg175]; exact (hE.h17).lt
   have hl175_11 : G4 < g175 := by rw [hg175]; exact (hE.h15).lt
   have hl175_13 : g77 < g175 := by rw [hg175]; exact (hE.h13).lt
   have hl175_15 : g88 < g175 := by rw [hg175]; exact (hE.h11).lt
   have hl175_17 : g106 < g175 := by rw [hg175]; exact (hE.h9).lt
   have hl175_19 : g117 < g175 := by rw [hg175]; exact (hE.h7).lt
   have hl175_21 : g135 < g175 := by rw [hg175]; exact (hE.h5).lt
   have hl175_23 : g146 < g175 := by rw [hg175]; exact (hE.h3).lt
   have hl175_25 : g164 < g175 := by rw [hg175]; exact (hE.here.1.2).lt
   replace hE := hE.blk 29 (qf4 sh Ah nh ch th Bh mh dh) (g := g175) hg175.symm;generalize w174.alloc (.cells (qf4 sh Ah nh ch th Bh mh dh) 29) = W175 at hE ⊢;rw [← hg175];clear hg175
   go_upto_region 27 with (fail)
   obtain ⟨k176, k177, k178, k179⟩ := (hE.h14).c4;obtain ⟨k180, k181, k182, k183⟩ := (hE.h12).c4;go_wp2_with fail
   refine hE.br (pw_equal (v := true) (ca := ca) (da := da) (cb := cb) (db := db) (hE.h15) (hE.h13) Hhl1.out Hhl1.out (decide_eq_true rfl)) ?_;clear hE k176 k177 k178 k179 k180 k181 k182 k183;intro w184 hE;obtain ⟨k185, k186, k187, k188⟩ := (hE.h10).c4;obtain ⟨k189, k190, k191, k192⟩ := (hE.h8).c4;go_wp2_with fail
   refine hE.br (pw_equal (v := true) (ca := cm) (da := dm) (cb := cn) (db := dn) (hE.h11) (hE.h9) Hhl2.out Hhl2.out (decide_eq_true rfl)) ?_;clear hE k185 k186 k187 k188 k189 k190 k191 k192;intro w193 hE;obtain ⟨k194, k195, k196, k197⟩ := (hE.h6).c4;obtain ⟨k198, k199, k200, k201⟩ := (hE.h4).c4;go_wp2_with fail
   refine hE.br (pw_equal (v := true) (ca := ce) (da := de) (cb := cv) (db := dv) (hE.h7) (hE.h5) Hhl3.out Hhl3.out (decide_eq_true rfl)) ?_;clear hE k194 k195 k196 k197 k198 k199 k200 k201;intro w202 hE;obtain ⟨k203, k204, k205, k206⟩ := (hE.h2).c4;obtain ⟨k207, k208, k209, k210⟩ := (hE.here.2).c4;go_wp2_with fail
   refine hE.br (pw_equal (v := true) (ca := cg) (da := dg) (cb := ch) (db := dh) (hE.h3) (hE.here.1.2) Hhl4.out Hhl4.out (decide_eq_true rfl)) ?_;clear hE k203 k204 k205 k206 k207 k208 k209 k210;intro w211 hE;go_wp2_with fail
   go_ret
   exact ⟨rfl, hE.bel⟩
end Go.Proofs.YtclbiihcbfnjmaaGreat
