/-
  Several texts in one: The walk of the reference's level.
-/
import Derived.Test.YtjgihmmeimfheaaGreatK3
import Derived.Test.YtjgihmmeimfheaaGreatK8
import Derived.Test.YtjgihmmeimfheaaGreatK24
set_option linter.unusedSimpArgs false
set_option maxRecDepth 100000
set_option maxHeartbeats 8000000
namespace Go.Proofs.YtjgihmmeimfheaaGreat
open Go.RowKit

theorem cmpQ_ge0 {a b : Rat} : 0 ≤ cmpQ a b ↔ b ≤ a := by
 by_cases h : a < b
 · rw [cmpQ_lt2 h]; exact ⟨fun h2 => absurd h2 (by decide), fun h2 => absurd h2 (Rat.not_le.2 h)⟩
 ·
  refine ⟨fun _ => Rat.not_lt.1 h, fun _ => ?_⟩
  by_cases h2 : a = b
  · rw [cmpQ_eq h2]; decide
  · rw [cmpQ_gt (by grind)]; decide
theorem cmpQ_gt0 {a b : Rat} : 0 < cmpQ a b ↔ b < a := by
 by_cases h : b < a
 · rw [cmpQ_gt h]; exact ⟨fun _ => h, fun _ => by decide⟩
 ·
  by_cases h2 : a = b
  · rw [cmpQ_eq h2]; exact ⟨fun h3 => absurd h3 (by decide), fun h3 => absurd h3 h⟩
  · rw [cmpQ_lt2 (by grind)]; exact ⟨fun h3 => absurd h3 (by decide), fun h3 => absurd h3 h⟩
theorem rslevel_v {A : Option Addr} {n c : Nat} {r : Nat → Cl} {w : World} (a : Int) (ha : 0 ≤ a ∧ a ≤ 1099511627776) (hM : ClM A n r w) (hok : ClOK n r) (hn : n ≤ 32) (hD : Szd n (wq r)) :
  Calls Tryz.prog 100 #[.int .i64 a, .slice A n c] w (LevP a r n w) := by
 have hw4 := hok.w hM;have hK := hok.K
 have hwK : ∀ k, k < n → 0 ≤ wq r k ∧ 0 ≤ Kz r k := fun k hk => ⟨(hw4 k hk).1, (hK k hk).1⟩
 have HhM := Lib.hid hM;clear hM;have Hhok := Lib.hid hok;clear hok;have Hhw4 := Lib.hid hw4;clear hw4;have HhK := Lib.hid hK;clear hK;have HhwK := Lib.hid hwK;clear hwK;have hE := Env.start w;have hE := hE.blk 29 #[.bool false, .slice none 0 0, .bool false, .slice none 0 0] (g := w.heap.size) rfl
 obtain ⟨W0, hW0⟩ : ∃ W0, W0 = (w.alloc (.cells #[.bool false, .slice none 0 0, .bool false, .slice none 0 0] 29)) := ⟨_, rfl⟩
 rw [← hW0] at hE;have HW0 := Lib.hid hW0;clear hW0
 go_enter Tryz.func100, Tryz.ntmps100
 go_upto_region 1 with (fail)
 rw [← HW0.out];have hmk := make_full boolElem n (by omega);go_wp2_with fail
 clear hmk;have hws := hE.bel.size;have hrm := full_made boolElem n (by omega) W0;have hbm := belAlloc W0 (.cells (mkC boolElem n) 4)
 obtain ⟨gF, hgF⟩ : ∃ g, g = W0.heap.size := ⟨_, rfl⟩
 have hwF : w.heap.size < gF := by rw [hgF]; exact (hE.here.2).lt
 rw [← hgF] at hrm ⊢;replace hE := (hE.step hbm).rwr hrm;clear hbm hrm hgF hws;generalize W0.alloc (.cells (mkC boolElem n) 4) = W7 at hE ⊢
 go_loopw [] (fun wr => ∃ (f : Nat → Bool) (s : Rat), Rnd (wq r) (Kz r) n a f s ∧ Env w (fun V => ((True ∧ Blk 29 (w.heap.size) #[.bool false, .slice none 0 0, .bool false, .slice none 0 0] V) ∧ Rw 4 1 gF n n (fun j => [.bool (f j)]) V)) wr) (fun wr => n - cntW wr gF n)
 case atStart => exact ⟨fun _ => false, 0, rnd_start ha.1, hE⟩
 case round =>
  clear hE;obtain ⟨f, s, hrn, hE⟩ := hrel;have hcn0 : cntW wr gF n = cntB f n := cntW_row (hE.here.2) n (Nat.le_refl n);have hin := rnd_in HhwK.out hrn
  have hfw : ∀ k, k < n → f k = true → wq r k ≠ 0 := fun k hk h => (hrn.2.1 k hk h).1
  have hzb := fun k (hk : k ≤ n) => inZ_b (K := Kz r) (f := f) (M := 1099511627776) (by decide) (k := k) (fun j hj => HhK.out j (by omega))
  have Hhrn := Lib.hid hrn;clear hrn;have Hhcn0 := Lib.hid hcn0;clear hcn0;have Hhin := Lib.hid hin;clear hin;have Hhfw := Lib.hid hfw;clear hfw;have Hhzb := Lib.hid hzb;clear hzb;go_wp2_with fail
  refine hE.fr (rffromInt_v 0 _ (by decide) (by decide)) ?_;clear hE;intro si Ai ni ci ti Bi mi di w1 hE
  go_upto_region 3 with (fail)
  obtain ⟨g2, hg2⟩ : ∃ g2, g2 = w1.heap.size := ⟨_, rfl⟩
  have hl2_0 : w.heap.size < g2 := by rw [hg2]; exact (hE.h2).lt
  have hl2_1 : gF < g2 := by rw [hg2]; exact Rw.lt (hE.here.1.2)
  have hlw_g2 : w.heap.size ≤ g2 := by rw [hg2]; exact hE.bel.size
  replace hE := hE.blk 29 #[.bool si, .slice Ai ni ci, .bool ti, .slice Bi mi di] (g := g2) hg2.symm;generalize w1.alloc (.cells #[.bool si, .slice Ai ni ci, .bool ti, .slice Bi mi di] 29) = W2 at hE ⊢;rw [← hg2];clear hg2;go_wp2_with fail
  refine hE.fr (rffromInt_v 0 _ (by decide) (by decide)) ?_;clear hE;intro sj Aj nj cj tj Bj mj dj w3 hE
  go_upto_region 5 with (fail)
  obtain ⟨g4, hg4⟩ : ∃ g4, g4 = w3.heap.size := ⟨_, rfl⟩
  have hl4_0 : w.heap.size < g4 := by rw [hg4]; exact (hE.h4).lt
  have hl4_1 : gF < g4 := by rw [hg4]; exact Rw.lt (hE.h3)
  have hl4_3 : g2 < g4 := by rw [hg4]; exact (hE.here.1.2).lt
  have hlw_g4 : w.heap.size ≤ g4 := by rw [hg4]; exact hE.bel.size
  replace hE := hE.blk 29 #[.bool sj, .slice Aj nj cj, .bool tj, .slice Bj mj dj] (g := g4) hg4.symm;generalize w3.alloc (.cells #[.bool sj, .slice Aj nj cj, .bool tj, .slice Bj mj dj] 29) = W4 at hE ⊢;rw [← hg4];clear hg4;go_wp2_with fail
  have eo : ((0 : Int) : Rat) = outW (wq r) f 0 := rfl;have em : ((0 : Int) : Rat) = mxq (wq r) (Kz r) f 0 := rfl;have ez : a = a - inZ (Kz r) f 0 := (Int.sub_zero a).symm;have Heo := Lib.hid eo;clear eo;have Hem := Lib.hid em;clear em;have Hez := Lib.hid ez;clear ez
  go_loopw [7, 9] (fun sl x wr => ∃ (k : Nat) (sy : Bool) (ty : Bool) (Ay : Option Addr) (By : Option Addr) (ny : Nat) (cy : Nat) (my : Nat) (dy : Nat) (sv : Bool) (tv : Bool) (Av : Option Addr) (Bv : Option Addr) (nv : Nat) (cv : Nat) (mv : Nat) (dv : Nat), k ≤ n ∧ sl = .int .i64 (a - inZ (Kz r) f k) ∧ x = .int .i64 (k : Int) ∧ Env w (fun V => ((((((True ∧ Blk 29 (w.heap.size) #[.bool false, .slice none 0 0, .bool false, .slice none 0 0] V) ∧ Rw 4 1 gF n n (fun j => [.bool (f j)]) V) ∧ FV V (outW (wq r) f k) sy Ay ny ty By my) ∧ Blk 29 (g2) #[.bool sy, .slice Ay ny cy, .bool ty, .slice By my dy] V) ∧ FV V (mxq (wq r) (Kz r) f k) sv Av nv tv Bv mv) ∧ Blk 29 (g4) #[.bool sv, .slice Av nv cv, .bool tv, .slice Bv mv dv] V)) wr) (fun _ x _ => n - (intOf x).toNat)
  case atStart => exact ⟨0, si, ti, Ai, Bi, ni, ci, mi, di, sj, tj, Aj, Bj, nj, cj, mj, dj, Nat.zero_le _, by rw [← Hez.out], rfl, ((((((Env.again hE.bel).blkI (hE.h5)).rwr (hE.h4)).fv ((hE.h3).to Heo.out)).blkI (hE.h2)).fv ((hE.here.1.2).to Hem.out)).blkI (hE.here.2)⟩
  case round =>
   clear hE;obtain ⟨k, sy, ty, Ay, By, ny, cy, my, dy, sv, tv, Av, Bv, nv, cv, mv, dv, hk, rfl, rfl, hE⟩ := hrel;have hlo : fl (outW (wq r) f k) ≤ 45 := fl_out hn hD Hhw4.out hk;have hlm := fl_mxq Hhw4.out HhK.out Hhfw.out hk;have hzk := Hhzb.out k hk;have hzk2 : 0 ≤ inZ (Kz r) f k ∧ inZ (Kz r) f k ≤ 35184372088832 := ⟨hzk.1, by have := hzk.2; omega⟩;clear hzk
   obtain ⟨z, hz⟩ : ∃ z, z = a - inZ (Kz r) f k := ⟨_, rfl⟩
   have hzz : -35184372088832 ≤ z ∧ z ≤ 1099511627776 := by omega
   rw [← hz];clear hzk2;have Hhz := Lib.hid hz;clear hz
   by_cases hlt : k < n
   rotate_left
   ·
    obtain rfl : k = n := by omega
    have t1 : decide ((k : Int) < (k : Int)) = false := decide_eq_false (by omega);obtain ⟨k5, k6, k7, k8⟩ := (hE.h2).c4;go_wp2_with fail
    clear t1;clear k5 k6 k7 k8
    obtain ⟨v, hv⟩ : ∃ v, v = decide ((outW (wq r) f k).num = 0) := ⟨_, rfl⟩
    have hvz : v = true ↔ outW (wq r) f k = 0 := by rw [hv, decide_eq_true_iff]; exact Rat.num_eq_zero
    have hcon := rfzero_v (ca := cy) (da := dy) (hE.h3);rw [← hv] at hcon;clear hv;refine hE.br (hcon) ?_;clear hE;intro w9 hE;clear hcon
    cases v with
    | true =>
     have h0 := hvz.1 rfl;clear hvz;have Hh0 := Lib.hid h0;clear h0
     go_upto_region 15 with (fail)
     obtain ⟨k10, k11, k12, k13⟩ := (hE.here.2).c4
     have hRl : w.heap.size ≤ w.heap.size := by omega
     obtain ⟨WW, hWW, hB, hV, hBel⟩ := ret_frac hE hE.h5 hRl hE.here.1.2 cv dv;obtain ⟨x0, x1, x2, x3⟩ := (hE.h5).c4;obtain ⟨fz0, fz1, fz2, fz3⟩ := hE.h5.f4;have HWW := Lib.hid hWW;clear hWW;go_wp2_with fail
     clear x0 x1 x2 x3;rw [← HWW.out];obtain ⟨y0, y1, y2, y3⟩ := hB.c4;refine bodyPost_ret (v := .agg #[.bool sv, .slice Av nv cv, .bool tv, .slice Bv mv dv]) (by simp [results, Tryz.results100, go_sem, y0, y1, y2, y3]) rfl ?_;exact ⟨_, rnd_top HhwK.out Hhrn.out Hh0.out, by omega, sv, Av, nv, cv, tv, Bv, mv, dv, rfl, hV, hBel⟩
    | false =>
     have h0 : ¬ outW (wq r) f k = 0 := fun h => by have := hvz.2 h; cases this
     clear hvz
     have h0n : (outW (wq r) f k).num ≠ 0 := fun h => h0 (Rat.num_eq_zero.1 h)
     have hz0 : 0 ≤ z := by have h1 := Hhin.out; rw [← inZ_su] at h1; have h2 := Rat.intCast_le_intCast.1 h1; rw [Hhz.out]; omega
     have hus : ((z : Int) : Rat) / outW (wq r) f k * outW (wq r) f k = ((a : Int) : Rat) - inK (Kz r) f k := by rw [Rat.div_mul_cancel h0, Hhz.out, Rat.intCast_sub, inZ_su]
     have hlz : fl ((z : Int) : Rat) ≤ 3 := fl_int3 (by omega) (by omega);have hlu : fl (((z : Int) : Rat) / outW (wq r) f k) ≤ 48 := fl_over hlz hlo h0n;have Hh0 := Lib.hid h0;clear h0;have Hhus := Lib.hid hus;clear hus
     go_upto_region 16 with (fail)
     go_cut [11] from 64 to 68 (fun p0 wx => ∃ G16 s5 A5 n5 c5 t5 B5 m5 d5, p0 = .pointer (some ⟨G16, 0, none⟩) ∧ (w.heap.size < G16 ∧ g2 < G16 ∧ g4 < G16 ∧ gF < G16) ∧ Env w (fun V => ((((((((True ∧ Blk 29 (w.heap.size) #[.bool false, .slice none 0 0, .bool false, .slice none 0 0] V) ∧ Rw 4 1 gF k k (fun j => [.bool (f j)]) V) ∧ FV V (outW (wq r) f k) sy Ay ny ty By my) ∧ Blk 29 (g2) #[.bool sy, .slice Ay ny cy, .bool ty, .slice By my dy] V) ∧ FV V (mxq (wq r) (Kz r) f k) sv Av nv tv Bv mv) ∧ Blk 29 (g4) #[.bool sv, .slice Av nv cv, .bool tv, .slice Bv mv dv] V) ∧ FV V (((z : Int) : Rat) / outW (wq r) f k) s5 A5 n5 t5 B5 m5) ∧ Blk 29 (G16) #[.bool s5, .slice A5 n5 c5, .bool t5, .slice B5 m5 d5] V)) wx)
     case first =>
      replace hE := hE.drew;refine wp_region_held_drew (S := fun V => Blk 29 (g2) #[.bool sy, .slice Ay ny cy, .bool ty, .slice By my dy] V) (by kernel_rfl) (hE.h2) (fun hHeld => ?_)
      generalize w9.drew = wd at *
      refine tk 0 ?_
      refine tk 2 ?_ (hy := by
       intro w hSw;have kc0 := (hSw).cell 0;have kc1 := (hSw).cell 1;have kc2 := (hSw).cell 2;have kc3 := (hSw).cell 3;clear hSw
       first | (go_simp; done) | (go_simp; with_reducible rfl))
      try simp only [PL]
      refine wpAnyH_ready (rs := [1, 4]) (by kernel_rfl) (by simp) (AllReadyH.cons rfl (fun K hK => ?_) (AllReadyH.cons rfl (fun K hK => ?_) (AllReadyH.nil)))
      ·
       go_simp;refine hE.fr (rffromInt_v z _ (by omega) (by omega)) ?_;clear hE;intro s4 A4 n4 c4 t4 B4 m4 d4 w14 hE;go_wp2_with fail
       refine hK.out _ _ (hE.h3) (fun hHeld => ?_);clear hK K;try simp only [PL]
       refine wpAnyH_ready (rs := [3, 4]) (by kernel_rfl) (by simp) (AllReadyH.cons rfl (fun K hK => ?_) (AllReadyH.cons rfl (fun K hK => ?_) (AllReadyH.nil)))
       ·
        go_simp;refine hE.fr (rover_v (ca := c4) (da := d4) (cb := cy) (db := dy) (hE.here.2) (hE.h4) (by omega) (by omega) h0n) ?_;clear hE;intro s5 A5 n5 c5 t5 B5 m5 d5 w15 hE;go_wp2_with fail
        refine hK.out _ _ (hE.h4) (fun hHeld => ?_);clear hK K;try simp only [PL]
        refine r1 4 (fun K hK => ?_);go_simp
        obtain ⟨g16, hg16⟩ : ∃ g16, g16 = w15.heap.size := ⟨_, rfl⟩
        have hl16_0 : w.heap.size < g16 := by rw [hg16]; exact (hE.h7).lt
        have hl16_1 : gF < g16 := by rw [hg16]; exact Rw.lt (hE.h6)
        have hl16_3 : g2 < g16 := by rw [hg16]; exact (hE.h4).lt
        have hl16_5 : g4 < g16 := by rw [hg16]; exact (hE.h2).lt
        have hlw_g16 : w.heap.size ≤ g16 := by rw [hg16]; exact hE.bel.size
        replace hE := hE.blk 29 #[.bool false, .slice none 0 0, .bool false, .slice none 0 0] (g := g16) hg16.symm;generalize w15.alloc (.cells #[.bool false, .slice none 0 0, .bool false, .slice none 0 0] 29) = W16 at hE ⊢;rw [← hg16];clear hg16;refine hK.out _ _ (hE.h5) (fun hHeld => ?_);clear hK K;try simp only [PL]
        refine r1 5 (fun K hK => ?_)
        have hgl17 : w.heap.size ≤ g16 := by omega
        obtain ⟨x17_0, x17_1, x17_2, x17_3⟩ := (hE.here.2).c4;obtain ⟨f17_0, f17_1, f17_2, f17_3⟩ := hE.here.2.f4;replace hE := ((((((((((Env.again (bel4 hE.bel hgl17 (.bool s5) (.slice A5 n5 c5) (.bool t5) (.slice B5 m5 d5))).blkI ((hE.h8).far4 (by omega) _ _ _ _)).rwr ((hE.h7).grownB (st4_grown (hE.here.2) _ _ _ _) ((hE.h7).ne (hE.here.2) (by decide)))).fv ((hE.h6).sep4 hE.here.2 rfl _ _ _ _ rfl rfl rfl)).blkI ((hE.h5).far4 (by omega) _ _ _ _)).fv ((hE.h4).sep4 hE.here.2 rfl _ _ _ _ rfl rfl rfl)).blkI ((hE.h3).far4 (by omega) _ _ _ _)).fv ((hE.h2).sep4 hE.here.2 rfl _ _ _ _ rfl rfl rfl)).fv ((hE.here.1.2).sep4 hE.here.2 rfl _ _ _ _ rfl rfl rfl)).blkI ((hE.here.2).s4 _ _ _ _));go_simp;clear x17_0 x17_1 x17_2 x17_3 f17_0 f17_1 f17_2 f17_3 hgl17;generalize ((((W16.setCell ⟨g16, 0, none⟩ (.bool s5)).setCell ⟨g16, 1, none⟩ (.slice A5 n5 c5)).setCell ⟨g16, 2, none⟩ (.bool t5)).setCell ⟨g16, 3, none⟩ (.slice B5 m5 d5)) = W17 at hE ⊢;refine hK.out _ _ (hE.h5) (fun hHeld => ?_);clear hK K;try simp only [PL]
        refine wpAnyH_done (by kernel_rfl) ?_ _;go_wp2_with fail
        go_meet
        exact ⟨g16, s5, A5, n5, c5, t5, B5, m5, d5, rfl, ⟨by omega, by omega, by omega, by omega⟩, (((((((((Env.again hE.bel).blkI (hE.h8)).rwr (hE.h7)).fv (hE.h6)).blkI (hE.h5)).fv (hE.h4)).blkI (hE.h3)).fv (hE.here.1.2)).blkI (hE.here.2))⟩
       ·
        go_simp
        obtain ⟨g18, hg18⟩ : ∃ g18, g18 = w14.heap.size := ⟨_, rfl⟩
        have hl18_0 : w.heap.size < g18 := by rw [hg18]; exact (hE.h6).lt
        have hl18_1 : gF < g18 := by rw [hg18]; exact Rw.lt (hE.h5)
        have hl18_3 : g2 < g18 := by rw [hg18]; exact (hE.h3).lt
        have hl18_5 : g4 < g18 := by rw [hg18]; exact (hE.here.1.2).lt
        have hlw_g18 : w.heap.size ≤ g18 := by rw [hg18]; exact hE.bel.size
        replace hE := hE.blk 29 #[.bool false, .slice none 0 0, .bool false, .slice none 0 0] (g := g18) hg18.symm;generalize w14.alloc (.cells #[.bool false, .slice none 0 0, .bool false, .slice none 0 0] 29) = W18 at hE ⊢;rw [← hg18];clear hg18;refine hK.out _ _ (hE.h4) (fun hHeld => ?_);clear hK K;try simp only [PL]
        refine r1 3 (fun K hK => ?_);go_simp;refine hE.fr (rover_v (ca := c4) (da := d4) (cb := cy) (db := dy) (hE.here.1.2) (hE.h5) (by omega) (by omega) h0n) ?_;clear hE;intro s5 A5 n5 c5 t5 B5 m5 d5 w19 hE;go_wp2_with fail
        refine hK.out _ _ (hE.h5) (fun hHeld => ?_);clear hK K;try simp only [PL]
        refine r1 5 (fun K hK => ?_)
        have hgl20 : w.heap.size ≤ g18 := by omega
        obtain ⟨x20_0, x20_1, x20_2, x20_3⟩ := (hE.here.1.2).c4;obtain ⟨f20_0, f20_1, f20_2, f20_3⟩ := hE.here.1.2.f4;replace hE := ((((((((((Env.again (bel4 hE.bel hgl20 (.bool s5) (.slice A5 n5 c5) (.bool t5) (.slice B5 m5 d5))).blkI ((hE.h8).far4 (by omega) _ _ _ _)).rwr ((hE.h7).grownB (st4_grown (hE.here.1.2) _ _ _ _) ((hE.h7).ne (hE.here.1.2) (by decide)))).fv ((hE.h6).sep4 hE.here.1.2 rfl _ _ _ _ rfl rfl rfl)).blkI ((hE.h5).far4 (by omega) _ _ _ _)).fv ((hE.h4).sep4 hE.here.1.2 rfl _ _ _ _ rfl rfl rfl)).blkI ((hE.h3).far4 (by omega) _ _ _ _)).fv ((hE.h2).sep4 hE.here.1.2 rfl _ _ _ _ rfl rfl rfl)).blkI ((hE.here.1.2).s4 _ _ _ _)).fv ((hE.here.2).sep4 hE.here.1.2 rfl _ _ _ _ rfl rfl rfl));go_simp;clear x20_0 x20_1 x20_2 x20_3 f20_0 f20_1 f20_2 f20_3 hgl20;generalize ((((w19.setCell ⟨g18, 0, none⟩ (.bool s5)).setCell ⟨g18, 1, none⟩ (.slice A5 n5 c5)).setCell ⟨g18, 2, none⟩ (.bool t5)).setCell ⟨g18, 3, none⟩ (.slice B5 m5 d5)) = W20 at hE ⊢;refine hK.out _ _ (hE.h5) (fun hHeld => ?_);clear hK K;try simp only [PL]
        refine wpAnyH_done (by kernel_rfl) ?_ _;go_wp2_with fail
        go_meet
        exact ⟨g18, s5, A5, n5, c5, t5, B5, m5, d5, rfl, ⟨by omega, by omega, by omega, by omega⟩, (((((((((Env.again hE.bel).blkI (hE.h8)).rwr (hE.h7)).fv (hE.h6)).blkI (hE.h5)).fv (hE.h4)).blkI (hE.h3)).fv (hE.here.2)).blkI (hE.here.1.2))⟩
      ·
       go_simp
       obtain ⟨g21, hg21⟩ : ∃ g21, g21 = wd.heap.size := ⟨_, rfl⟩
       have hl21_0 : w.heap.size < g21 := by rw [hg21]; exact (hE.h5).lt
       have hl21_1 : gF < g21 := by rw [hg21]; exact Rw.lt (hE.h4)
       have hl21_3 : g2 < g21 := by rw [hg21]; exact (hE.h2).lt
       have hl21_5 : g4 < g21 := by rw [hg21]; exact (hE.here.2).lt
       have hlw_g21 : w.heap.size ≤ g21 := by rw [hg21]; exact hE.bel.size
       replace hE := hE.blk 29 #[.bool false, .slice none 0 0, .bool false, .slice none 0 0] (g := g21) hg21.symm;generalize wd.alloc (.cells #[.bool false, .slice none 0 0, .bool false, .slice none 0 0] 29) = W21 at hE ⊢;rw [← hg21];clear hg21;refine hK.out _ _ (hE.h3) (fun hHeld => ?_);clear hK K;try simp only [PL]
       refine r1 1 (fun K hK => ?_);go_simp;refine hE.fr (rffromInt_v z _ (by omega) (by omega)) ?_;clear hE;intro s4 A4 n4 c4 t4 B4 m4 d4 w22 hE;go_wp2_with fail
       refine hK.out _ _ (hE.h4) (fun hHeld => ?_);clear hK K;try simp only [PL]
       refine r1 3 (fun K hK => ?_);go_simp;refine hE.fr (rover_v (ca := c4) (da := d4) (cb := cy) (db := dy) (hE.here.2) (hE.h5) (by omega) (by omega) h0n) ?_;clear hE;intro s5 A5 n5 c5 t5 B5 m5 d5 w23 hE;go_wp2_with fail
       refine hK.out _ _ (hE.h5) (fun hHeld => ?_);clear hK K;try simp only [PL]
       refine r1 5 (fun K hK => ?_)
       have hgl24 : w.heap.size ≤ g21 := by omega
       obtain ⟨x24_0, x24_1, x24_2, x24_3⟩ := (hE.h2).c4;obtain ⟨f24_0, f24_1, f24_2, f24_3⟩ := hE.h2.f4;replace hE := ((((((((((Env.again (bel4 hE.bel hgl24 (.bool s5) (.slice A5 n5 c5) (.bool t5) (.slice B5 m5 d5))).blkI ((hE.h8).far4 (by omega) _ _ _ _)).rwr ((hE.h7).grownB (st4_grown (hE.h2) _ _ _ _) ((hE.h7).ne (hE.h2) (by decide)))).fv ((hE.h6).sep4 hE.h2 rfl _ _ _ _ rfl rfl rfl)).blkI ((hE.h5).far4 (by omega) _ _ _ _)).fv ((hE.h4).sep4 hE.h2 rfl _ _ _ _ rfl rfl rfl)).blkI ((hE.h3).far4 (by omega) _ _ _ _)).blkI ((hE.h2).s4 _ _ _ _)).fv ((hE.here.1.2).sep4 hE.h2 rfl _ _ _ _ rfl rfl rfl)).fv ((hE.here.2).sep4 hE.h2 rfl _ _ _ _ rfl rfl rfl));go_simp;clear x24_0 x24_1 x24_2 x24_3 f24_0 f24_1 f24_2 f24_3 hgl24;generalize ((((w23.setCell ⟨g21, 0, none⟩ (.bool s5)).setCell ⟨g21, 1, none⟩ (.slice A5 n5 c5)).setCell ⟨g21, 2, none⟩ (.bool t5)).setCell ⟨g21, 3, none⟩ (.slice B5 m5 d5)) = W24 at hE ⊢;refine hK.out _ _ (hE.h5) (fun hHeld => ?_);clear hK K;try simp only [PL]
       refine wpAnyH_done (by kernel_rfl) ?_ _;go_wp2_with fail
       go_meet
       exact ⟨g21, s5, A5, n5, c5, t5, B5, m5, d5, rfl, ⟨by omega, by omega, by omega, by omega⟩, (((((((((Env.again hE.bel).blkI (hE.h8)).rwr (hE.h7)).fv (hE.h6)).blkI (hE.h5)).fv (hE.h4)).blkI (hE.h3)).fv (hE.here.2)).blkI (hE.h2))⟩
     case rest =>
     clear hE;obtain ⟨G16, s5, A5, n5, c5, t5, B5, m5, d5, rfl, ⟨hG16_0, hG16_1, hG16_2, hG16_3⟩, hE⟩ := hcut;generalize wc = wk16 at hE ⊢
     go_upto_region 17 with (fail)
     obtain ⟨u, hu⟩ : ∃ u, u = ((z : Int) : Rat) / outW (wq r) f k := ⟨_, rfl⟩
     rw [← hu] at hE hlu;have hus := Hhus.out;rw [← hu] at hus;clear Hhus;have Hhus := Lib.hid hus;clear hus;have Hhu := Lib.hid hu;clear hu;have hu0 : 0 ≤ u := Rat.le_trans Hhrn.out.1 (rnd_share HhwK.out Hhrn.out Hh0.out Hhus.out);have Hhu0 := Lib.hid hu0;clear hu0;go_wp2_with fail
     go_loopw [12, 13] (fun sl x wr => ∃ (q : Nat) (v : Bool), q ≤ k ∧ sl = .bool v ∧ x = .int .i64 (q : Int) ∧ (v = true ↔ Joined (wq r) (Kz r) f u q) ∧ Env w (fun V => ((((True ∧ Blk 29 (w.heap.size) #[.bool false, .slice none 0 0, .bool false, .slice none 0 0] V) ∧ Rw 4 1 gF k k (fun j => [.bool ((nxB (wq r) (Kz r) f u q) j)]) V) ∧ FV V u s5 A5 n5 t5 B5 m5) ∧ Blk 29 (G16) #[.bool s5, .slice A5 n5 c5, .bool t5, .slice B5 m5 d5] V)) wr) (fun _ x _ => k - (intOf x).toNat)
     case atStart => exact ⟨0, false, Nat.zero_le _, rfl, rfl, ⟨fun h => (by cases h), fun h => absurd h joined_zero⟩, ((((Env.again hE.bel).blkI (hE.h7)).rwr (Rw.congr (hE.h6) (fun j _ => by rw [nxB_zero]))).fv (hE.here.1.2)).blkI (hE.here.2)⟩
     case round =>
      clear hE;obtain ⟨q, v, hq, rfl, rfl, hvj, hE⟩ := hrel;have Hhvj := Lib.hid hvj;clear hvj
      by_cases hql : q < k
      rotate_left
      ·
       obtain rfl : q = k := by omega
       have t1 : decide ((q : Int) < (q : Int)) = false := decide_eq_false (by omega);have hcn1 : cntW wr gF q = cntB (nxB (wq r) (Kz r) f u q) q := cntW_row (hE.h2) q (Nat.le_refl q);have Hhcn1 := Lib.hid hcn1;clear hcn1
       cases v with
       | false =>
        go_upto_region 25 with (fail)
        obtain ⟨k25, k26, k27, k28⟩ := (hE.here.2).c4
        have hRl : w.heap.size ≤ w.heap.size := by omega
        obtain ⟨WW, hWW, hB, hV, hBel⟩ := ret_frac hE hE.h3 hRl hE.here.1.2 c5 d5;obtain ⟨x0, x1, x2, x3⟩ := (hE.h3).c4;obtain ⟨fz0, fz1, fz2, fz3⟩ := hE.h3.f4;have HWW := Lib.hid hWW;clear hWW;go_wp2_with fail
        clear x0 x1 x2 x3;rw [← HWW.out];obtain ⟨y0, y1, y2, y3⟩ := hB.c4;refine bodyPost_ret (v := .agg #[.bool s5, .slice A5 n5 c5, .bool t5, .slice B5 m5 d5]) (by simp [results, Tryz.results100, go_sem, y0, y1, y2, y3]) rfl ?_;have hlv := rnd_end HhwK.out Hhrn.out Hh0.out Hhus.out (fun h => by have := Hhvj.out.2 h; cases this);exact ⟨_, hlv, hlu, s5, A5, n5, c5, t5, B5, m5, d5, rfl, hV, hBel⟩
       | true =>
        go_wp2_with fail
        go_roundw
        case rel => exact ⟨(nxB (wq r) (Kz r) f u q), u, rnd_next HhwK.out Hhrn.out Hh0.out Hhus.out, (((Env.again hE.bel).blkI (hE.h3)).rwr (hE.h2))⟩
        case measure => have h1 := joined_cnt (Hhvj.out.1 rfl); have h2 := cntB_le (nxB (wq r) (Kz r) f u q) q; have h3 := Hhcn0.out; have h4 := Hhcn1.out; omega
      obtain ⟨b, o, rfl, hb, hc⟩ := (HhM.out.below hE.bel) (by omega);clear hb hc
      obtain ⟨x, hx2⟩ : ∃ x, x = r q := ⟨_, rfl⟩
      have hxw : FV wr (wq r q) x.w.s x.w.A x.w.n x.w.t x.w.B x.w.m := by rw [hx2]; exact (ClM.fv (HhM.out.below hE.bel) Hhok.out hql).2.1
      have hw4q := (Hhw4.out q hql).2
      have hxb : 0 ≤ x.K ∧ x.K ≤ 1099511627776 := by rw [hx2]; exact HhK.out q hql
      have hfx : fl ((x.K : Int) : Rat) ≤ 3 := fl_int3 (by omega) (by omega)
      obtain ⟨pw, hpw⟩ : ∃ pw, pw = wq r q := ⟨_, rfl⟩
      have hKx : Kz r q = x.K := by rw [hx2]; rfl
      rw [← hpw] at hxw hw4q;have hlp : fl (u * pw) ≤ 58 := fl_le2 (fl_times hlu hw4q) (by decide);have Hhx2 := Lib.hid hx2;clear hx2;have Hhpw := Lib.hid hpw;clear hpw;have HhKx := Lib.hid hKx;clear hKx;replace hE := (hE.fv hxw).clm (HhM.out.below hE.bel);clear hxw;have t1 : decide ((q : Int) < (k : Int)) = true := decide_eq_true (by omega)
      have t2 : (q : Int) < (k : Int) := by omega
      obtain ⟨fq, hfq⟩ : ∃ v, v = f q := ⟨_, rfl⟩
      have hnq : nxB (wq r) (Kz r) f u q q = fq := by rw [nxB_at, hfq]
      have Hhfq := Lib.hid hfq;clear hfq;have Hhnq := Lib.hid hnq;clear hnq
      go_upto_region 21 with (fail)
      clear t1
      cases fq with
      | true =>
       replace hE := hE.drew;refine wp_region_held_drew (S := fun V => Rw 4 1 gF k k (fun j => [.bool ((nxB (wq r) (Kz r) f u q) j)]) V) (by kernel_rfl) (hE.h4) (fun hHeld => ?_)
       generalize wr.drew = wd at *
       refine tk 0 ?_;refine tk 1 ?_;refine tk 2 ?_
       refine tk 3 ?_ (hy := by
        intro w hSw;have kc := Rw.cell hSw (k := q) (i := 0) (o := q) (v := .bool true) hql (by decide) (by omega) (by rw [Hhnq.out]; rfl);clear hSw
        first | (go_simp; done) | (go_simp; with_reducible rfl))
       try simp only [PL]
       refine tk 4 ?_;refine tk 5 ?_;refine tu 6 ?_;refine tu 7 ?_;refine tu 8 ?_;refine tu 9 ?_;refine tu 10 ?_;refine tu 11 ?_;refine tu 12 ?_;refine tk 13 ?_;refine tk 14 ?_;refine tu 15 ?_;refine tu 16 ?_;refine tu 17 ?_;refine tu 18 ?_;refine tu 19 ?_;refine tu 20 ?_;refine tu 21 ?_;refine tu 22 ?_;refine tu 23 ?_;refine tu 24 ?_;refine tu 25 ?_;refine tu 26 ?_;refine tu 27 ?_;refine tu 28 ?_;refine tu 29 ?_;refine tk 30 ?_;refine wpAnyH_done (by kernel_rfl) ?_ _;have hh : f q = true ∨ ¬ (wq r q ≠ 0 ∧ ((Kz r q : Int) : Rat) ≤ u * wq r q) := .inl Hhfq.out.symm;have Hhh := Lib.hid hh;clear hh;go_wp2_with fail
       go_roundw
       case rel => exact ⟨q + 1, v, by omega, rfl, by go_num, by rw [joined_same Hhh.out]; exact Hhvj.out, ((((Env.again hE.bel).blkI (hE.h5)).rwr (Rw.congr (hE.h4) (fun j _ => by rw [nxB_same Hhh.out]))).fv (hE.h3)).blkI (hE.h2)⟩
       case measure => simp [intOf]; omega
      | false =>
       by_cases hp0 : pw = 0
       ·
        have hd : decide (pw.num = 0) = true := decide_eq_true (by rw [hp0]; rfl);have Hhp0 := Lib.hid hp0;clear hp0;replace hE := hE.drew;refine wp_region_held_drew (S := fun V => Rw 4 1 gF k k (fun j => [.bool ((nxB (wq r) (Kz r) f u q) j)]) V ∧ ClM (some ⟨b, o, none⟩) k r V) (by kernel_rfl) (⟨hE.h4, hE.here.2⟩) (fun hHeld => ?_)
        generalize wr.drew = wd at *
        refine tk 0 ?_;refine tk 1 ?_;refine tk 2 ?_
        refine tk 3 ?_ (hy := by
         intro w hSw;have kc := Rw.cell hSw.1 (k := q) (i := 0) (o := q) (v := .bool false) hql (by decide) (by omega) (by rw [Hhnq.out]; rfl);clear hSw
         first | (go_simp; done) | (go_simp; with_reducible rfl))
        try simp only [PL]
        refine tk 4 ?_;refine tk 5 ?_;refine tk 6 ?_;refine tk 7 ?_;refine tk 8 ?_;refine tk 9 ?_
        refine tk 10 ?_ (hy := by
         intro w hSw;obtain ⟨b2, o2, e2, -, hc2⟩ := hSw.2 (by omega)
         cases e2
         obtain ⟨⟨d0, d1, d2, d3, d4, d5⟩, -⟩ := hc2 q hql;rw [← Hhx2.out] at d0 d1 d2 d3 d4 d5;clear hc2;clear hSw
         first | (go_simp; done) | (go_simp; with_reducible rfl))
        try simp only [PL]
        refine r1 11 (fun K hK => ?_);go_simp;have hcon := rfzero_v (ca := x.w.c) (da := x.w.d) (hE.here.1.2);rw [hd] at hcon;refine hE.br (hcon) ?_;clear hE;intro w29 hE;clear hcon;go_wp2_with fail
        refine hK.out _ _ (⟨hE.h4, hE.here.2⟩) (fun hHeld => ?_);clear hK K;try simp only [PL]
        refine tk 12 ?_;refine tk 13 ?_;refine tk 14 ?_;refine tu 15 ?_;refine tu 16 ?_;refine tu 17 ?_;refine tu 18 ?_;refine tu 19 ?_;refine tu 20 ?_;refine tu 21 ?_;refine tu 22 ?_;refine tu 23 ?_;refine tu 24 ?_;refine tu 25 ?_;refine tu 26 ?_;refine tu 27 ?_;refine tu 28 ?_;refine tu 29 ?_;refine tk 30 ?_;refine wpAnyH_done (by kernel_rfl) ?_ _;have hh : f q = true ∨ ¬ (wq r q ≠ 0 ∧ ((Kz r q : Int) : Rat) ≤ u * wq r q) := .inr (fun h => h.1 (by rw [← Hhpw.out]; exact Hhp0.out));have Hhh := Lib.hid hh;clear hh;go_wp2_with fail
        go_roundw
        case rel => exact ⟨q + 1, v, by omega, rfl, by go_num, by rw [joined_same Hhh.out]; exact Hhvj.out, ((((Env.again hE.bel).blkI (hE.h5)).rwr (Rw.congr (hE.h4) (fun j _ => by rw [nxB_same Hhh.out]))).fv (hE.h3)).blkI (hE.h2)⟩
        case measure => simp [intOf]; omega
       have hd : decide (pw.num = 0) = false := decide_eq_false (fun h => hp0 (Rat.num_eq_zero.1 h));have Hhp0 := Lib.hid hp0;clear hp0
       obtain ⟨v2, hv2⟩ : ∃ v2, decide (0 ≤ cmpQ (u * pw) ((x.K : Int) : Rat)) = v2 := ⟨_, rfl⟩
       have hvc : v2 = true ↔ ((Kz r q : Int) : Rat) ≤ u * wq r q := by rw [← hv2, decide_eq_true_iff, HhKx.out, ← Hhpw.out]; exact cmpQ_ge0
       have Hhvc := Lib.hid hvc;clear hvc;replace hE := hE.drew;refine wp_region_held_drew (S := fun V => Rw 4 1 gF k k (fun j => [.bool ((nxB (wq r) (Kz r) f u q) j)]) V ∧ Blk 29 (G16) #[.bool s5, .slice A5 n5 c5, .bool t5, .slice B5 m5 d5] V ∧ ClM (some ⟨b, o, none⟩) k r V) (by kernel_rfl) (⟨hE.h4, hE.h2, hE.here.2⟩) (fun hHeld => ?_)
       generalize wr.drew = wd at *
       refine tk 0 ?_;refine tk 1 ?_;refine tk 2 ?_
       refine tk 3 ?_ (hy := by
        intro w hSw;have kc := Rw.cell hSw.1 (k := q) (i := 0) (o := q) (v := .bool false) hql (by decide) (by omega) (by rw [Hhnq.out]; rfl);clear hSw
        first | (go_simp; done) | (go_simp; with_reducible rfl))
       try simp only [PL]
       refine tk 4 ?_;refine tk 5 ?_;refine tk 6 ?_;refine tk 7 ?_;refine tk 8 ?_;refine tk 9 ?_
       refine tk 10 ?_ (hy := by
        intro w hSw;obtain ⟨b2, o2, e2, -, hc2⟩ := hSw.2.2 (by omega)
        cases e2
        obtain ⟨⟨d0, d1, d2, d3, d4, d5⟩, -⟩ := hc2 q hql;rw [← Hhx2.out] at d0 d1 d2 d3 d4 d5;clear hc2;clear hSw
        first | (go_simp; done) | (go_simp; with_reducible rfl))
       try simp only [PL]
       refine r1 11 (fun K hK => ?_);go_simp;have hcon := rfzero_v (ca := x.w.c) (da := x.w.d) (hE.here.1.2);rw [hd] at hcon;refine hE.br (hcon) ?_;clear hE;intro w30 hE;clear hcon;go_wp2_with fail
       refine hK.out _ _ (⟨hE.h4, hE.h2, hE.here.2⟩) (fun hHeld => ?_);clear hK K;try simp only [PL]
       refine tk 12 ?_;refine tk 13 ?_;refine tk 14 ?_
       refine tk 15 ?_ (hy := by
        intro w hSw;have kc0 := (hSw.2.1).cell 0;have kc1 := (hSw.2.1).cell 1;have kc2 := (hSw.2.1).cell 2;have kc3 := (hSw.2.1).cell 3;clear hSw
        first | (go_simp; done) | (go_simp; with_reducible rfl))
       try simp only [PL]
       refine tk 16 ?_;refine tk 17 ?_;refine tk 18 ?_;refine tk 19 ?_
       refine tk 20 ?_ (hy := by
        intro w hSw;obtain ⟨b2, o2, e2, -, hc2⟩ := hSw.2.2 (by omega)
        cases e2
        obtain ⟨⟨d0, d1, d2, d3, d4, d5⟩, -⟩ := hc2 q hql;rw [← Hhx2.out] at d0 d1 d2 d3 d4 d5;clear hc2;clear hSw
        first | (go_simp; done) | (go_simp; with_reducible rfl))
       try simp only [PL]
       refine tk 22 ?_;refine tk 23 ?_;refine tk 24 ?_;refine tk 25 ?_
       refine tk 26 ?_ (hy := by
        intro w hSw;obtain ⟨b2, o2, e2, -, hc2⟩ := hSw.2.2 (by omega)
        cases e2
        obtain ⟨⟨d0, d1, d2, d3, d4, d5⟩, -⟩ := hc2 q hql;rw [← Hhx2.out] at d0 d1 d2 d3 d4 d5;clear hc2;clear hSw
        first | (go_simp; done) | (go_simp; with_reducible rfl))
       try simp only [PL]
       refine r1 21 (fun K hK => ?_);go_simp;refine hE.fr (rtimes_v (ca := c5) (da := d5) (cb := x.w.c) (db := x.w.d) (hE.h3) (hE.here.1.2) (by omega) (by omega)) ?_;clear hE;intro s6 A6 n6 c6 t6 B6 m6 d6 w31 hE;go_wp2_with fail
       refine hK.out _ _ (⟨hE.h5, hE.h3, hE.here.1.2⟩) (fun hHeld => ?_);clear hK K;try simp only [PL]
       refine r1 27 (fun K hK => ?_);go_simp;refine hE.fr (rffromInt_v x.K _ (by omega) (by omega)) ?_;clear hE;intro s7 A7 n7 c7 t7 B7 m7 d7 w32 hE;go_wp2_with fail
       refine hK.out _ _ (⟨hE.h6, hE.h4, hE.h2⟩) (fun hHeld => ?_);clear hK K;try simp only [PL]
       refine r1 28 (fun K hK => ?_);go_simp;refine hE.br (rorder_v (ca := c6) (da := d6) (cb := c7) (db := d7) (hE.here.1.2) (hE.here.2) (by omega) (by omega)) ?_;clear hE;intro w33 hE;go_wp2_with fail
       refine hK.out _ _ (⟨hE.h6, hE.h4, hE.h2⟩) (fun hHeld => ?_);clear hK K;try simp only [PL]
       refine tk 29 ?_;refine tk 30 ?_;refine wpAnyH_done (by kernel_rfl) ?_ _
       cases v2 with
       | false =>
        have hh : f q = true ∨ ¬ (wq r q ≠ 0 ∧ ((Kz r q : Int) : Rat) ≤ u * wq r q) := .inr (fun h => by have := Hhvc.out.2 h.2; cases this);have Hhh := Lib.hid hh;clear hh;go_wp2_with fail
        go_roundw
        case rel => exact ⟨q + 1, v, by omega, rfl, by go_num, by rw [joined_same Hhh.out]; exact Hhvj.out, ((((Env.again hE.bel).blkI (hE.h7)).rwr (Rw.congr (hE.h6) (fun j _ => by rw [nxB_same Hhh.out]))).fv (hE.h5)).blkI (hE.h4)⟩
        case measure => simp [intOf]; omega
       | true =>
        have hh : wq r q ≠ 0 ∧ ((Kz r q : Int) : Rat) ≤ u * wq r q := ⟨fun h => Hhp0.out (by rw [Hhpw.out]; exact h), Hhvc.out.1 rfl⟩;have Hhh := Lib.hid hh;clear hh;have kc := Rw.cell (hE.h6) (k := q) (i := 0) (o := q) (v := .bool false) hql (by decide) (by omega) (by rw [Hhnq.out]; rfl);have kf := Rw.frozen (hE.h6) q
        go_upto_region 23 with (fail)
        clear kc kf hv2;obtain ⟨hR2, hgr⟩ := Rw.put (hE.h6) hql (x := [.bool true]) rfl (fun u hu => by simp only [List.mem_cons, List.not_mem_nil, or_false] at hu; subst hu; rfl)
        have es : w33.setCells gF (q * 1) [.bool true] = w33.setCell ⟨gF, q, none⟩ (.bool true) := by rw [Nat.mul_one]; rfl
        rw [es] at hR2 hgr;replace hR2 := Rw.congr (e' := fun j => [.bool ((nxB (wq r) (Kz r) f u (q + 1)) j)]) hR2 (fun j _ => (updB_row (nxB (wq r) (Kz r) f u q) q true j).trans (by rw [← nxB_more (.inr Hhh.out) j]; rfl));replace hE := (((((((((Env.again (Go.Proofs.YtjgihmmeimfheaaGreat.Below.grownB hE.bel hgr hE.bel.size (by omega))).blkI (Blk.grownB (hE.h7) hgr (Ne.symm ((hE.h6).ne (hE.h7) (by decide))))).rwr hR2).fv (Rw.fv (hE.h6) (hE.h5) hgr)).blkI (Blk.grownB (hE.h4) hgr (Ne.symm ((hE.h6).ne (hE.h4) (by decide))))).fv (Rw.fv (hE.h6) (hE.h3) hgr)).clm (HhM.out.below (Go.Proofs.YtjgihmmeimfheaaGreat.Below.grownB hE.bel hgr hE.bel.size (by omega)))).fv (Rw.fv (hE.h6) (hE.here.1.2) hgr)).fv (Rw.fv (hE.h6) (hE.here.2) hgr));clear hR2 hgr es;generalize w33.setCell ⟨gF, q, none⟩ (.bool true) = VR at hE ⊢;go_wp2_with fail
        go_roundw
        case rel => exact ⟨q + 1, true, by omega, rfl, by go_num, ⟨fun _ => joined_more Hhfq.out.symm Hhh.out, fun _ => rfl⟩, ((((Env.again hE.bel).blkI (hE.h7)).rwr (hE.h6)).fv (hE.h5)).blkI (hE.h4)⟩
        case measure => simp [intOf]; omega
   obtain ⟨b, o, rfl, hb, hc⟩ := (HhM.out.below hE.bel) (by omega)
   obtain ⟨x, hx2⟩ : ∃ x, x = r k := ⟨_, rfl⟩
   obtain ⟨⟨d0, d1, d2, d3, d4, d5⟩, -⟩ := hc k hlt;rw [← hx2] at d0 d1 d2 d3 d4 d5;clear hb hc d0 d1 d2 d3 d4
   have hxw : FV wr (wq r k) x.w.s x.w.A x.w.n x.w.t x.w.B x.w.m := by rw [hx2]; exact (ClM.fv (HhM.out.below hE.bel) Hhok.out hlt).2.1
   have hw4k := (Hhw4.out k hlt).2
   have hxb : 0 ≤ x.K ∧ x.K ≤ 1099511627776 := by rw [hx2]; exact HhK.out k hlt
   have hfx : fl ((x.K : Int) : Rat) ≤ 3 := fl_int3 (by omega) (by omega)
   obtain ⟨pw, hpw⟩ : ∃ pw, pw = wq r k := ⟨_, rfl⟩
   have hKx : Kz r k = x.K := by rw [hx2]; rfl
   rw [← hpw] at hxw hw4k;have Hhx2 := Lib.hid hx2;clear hx2;have Hhpw := Lib.hid hpw;clear hpw;have HhKx := Lib.hid hKx;clear hKx;replace hE := (hE.fv hxw).clm (HhM.out.below hE.bel);clear hxw;have t1 : decide ((k : Int) < (n : Int)) = true := decide_eq_true (by omega)
   have t2 : (k : Int) < (n : Int) := by omega
   obtain ⟨fk, hfk⟩ : ∃ v, v = f k := ⟨_, rfl⟩
   have kc := Rw.cell (hE.h6) (k := k) (i := 0) (o := k) (v := .bool fk) hlt (by decide) (by omega) (by rw [hfk]; rfl);have Hhfk := Lib.hid hfk;clear hfk
   have o1 : IntKind.i64.wrap (z - x.K) = z - x.K := by rw [IntKind.wrap_i64]; omega
   cases fk with
   | true =>
    have hpn : pw.num ≠ 0 := fun h => Hhfw.out k hlt Hhfk.out.symm (by rw [← Hhpw.out]; exact Rat.num_eq_zero.1 h)
    have hi1 : a - inZ (Kz r) f (k + 1) = z - x.K := by unfold inZ; rw [← Hhfk.out, if_pos rfl, HhKx.out, Hhz.out]; omega
    have ho1 : outW (wq r) f (k + 1) = outW (wq r) f k := by show su (fun j => if f j then 0 else wq r j) k + (if f k then 0 else wq r k) = su (fun j => if f j then 0 else wq r j) k; rw [← Hhfk.out, if_pos rfl, Rat.add_zero]
    have hm1 : mxq (wq r) (Kz r) f (k + 1) = if mxq (wq r) (Kz r) f k < ((x.K : Int) : Rat) / pw then ((x.K : Int) : Rat) / pw else mxq (wq r) (Kz r) f k := by
     show (if _ then _ else _) = _;rw [← Hhfk.out, HhKx.out, ← Hhpw.out]; simp only [true_and]
    have hlq : fl (((x.K : Int) : Rat) / pw) ≤ 7 := fl_over hfx hw4k hpn;have Hhi1 := Lib.hid hi1;clear hi1;have Hho1 := Lib.hid ho1;clear ho1;have Hhm1 := Lib.hid hm1;clear hm1
    go_upto_region 10 with (fail)
    clear kc d5 t1 o1
    go_cut [10] from 37 to 49 (fun p0 wx => ∃ G10 s6 A6 n6 c6 t6 B6 m6 d6, p0 = .pointer (some ⟨G10, 0, none⟩) ∧ (w.heap.size < G10 ∧ g2 < G10 ∧ g4 < G10 ∧ gF < G10) ∧ Env w (fun V => ((((((((((True ∧ Blk 29 (w.heap.size) #[.bool false, .slice none 0 0, .bool false, .slice none 0 0] V) ∧ Rw 4 1 gF n n (fun j => [.bool (f j)]) V) ∧ FV V (outW (wq r) f k) sy Ay ny ty By my) ∧ Blk 29 (g2) #[.bool sy, .slice Ay ny cy, .bool ty, .slice By my dy] V) ∧ FV V (mxq (wq r) (Kz r) f k) sv Av nv tv Bv mv) ∧ Blk 29 (g4) #[.bool sv, .slice Av nv cv, .bool tv, .slice Bv mv dv] V) ∧ FV V pw x.w.s x.w.A x.w.n x.w.t x.w.B x.w.m) ∧ ClM (some ⟨b, o, none⟩) n r V) ∧ FV V (((x.K : Int) : Rat) / pw) s6 A6 n6 t6 B6 m6) ∧ Blk 29 (G10) #[.bool s6, .slice A6 n6 c6, .bool t6, .slice B6 m6 d6] V)) wx)
    case first =>
     replace hE := hE.drew;refine wp_region_held_drew (S := fun V => ClM (some ⟨b, o, none⟩) n r V) (by kernel_rfl) (hE.here.2) (fun hHeld => ?_)
     generalize wr.drew = wd at *
     refine tk 0 ?_;refine tk 1 ?_;refine tk 2 ?_;refine tk 3 ?_
     refine tk 4 ?_ (hy := by
      intro w hSw;obtain ⟨b2, o2, e2, -, hc2⟩ := hSw (by omega)
      cases e2
      obtain ⟨⟨d0, d1, d2, d3, d4, d5⟩, -⟩ := hc2 k hlt;rw [← Hhx2.out] at d0 d1 d2 d3 d4 d5;clear hc2;clear hSw
      first | (go_simp; done) | (go_simp; with_reducible rfl))
     try simp only [PL]
     refine tk 6 ?_;refine tk 7 ?_;refine tk 8 ?_;refine tk 9 ?_
     refine tk 10 ?_ (hy := by
      intro w hSw;obtain ⟨b2, o2, e2, -, hc2⟩ := hSw (by omega)
      cases e2
      obtain ⟨⟨d0, d1, d2, d3, d4, d5⟩, -⟩ := hc2 k hlt;rw [← Hhx2.out] at d0 d1 d2 d3 d4 d5;clear hc2;clear hSw
      first | (go_simp; done) | (go_simp; with_reducible rfl))
     try simp only [PL]
     refine wpAnyH_ready (rs := [5, 12]) (by kernel_rfl) (by simp) (AllReadyH.cons rfl (fun K hK => ?_) (AllReadyH.cons rfl (fun K hK => ?_) (AllReadyH.nil)))
     ·
      go_simp;refine hE.fr (rffromInt_v x.K _ (by omega) (by omega)) ?_;clear hE;intro s7 A7 n7 c7 t7 B7 m7 d7 w34 hE;go_wp2_with fail
      refine hK.out _ _ (hE.here.1.2) (fun hHeld => ?_);clear hK K;try simp only [PL]
      refine wpAnyH_ready (rs := [11, 12]) (by kernel_rfl) (by simp) (AllReadyH.cons rfl (fun K hK => ?_) (AllReadyH.cons rfl (fun K hK => ?_) (AllReadyH.nil)))
      ·
       go_simp;refine hE.fr (rover_v (ca := c7) (da := d7) (cb := x.w.c) (db := x.w.d) (hE.here.2) (hE.h2) (by omega) (by omega) hpn) ?_;clear hE;intro s6 A6 n6 c6 t6 B6 m6 d6 w35 hE;go_wp2_with fail
       refine hK.out _ _ (hE.h2) (fun hHeld => ?_);clear hK K;try simp only [PL]
       refine r1 12 (fun K hK => ?_);go_simp
       obtain ⟨g36, hg36⟩ : ∃ g36, g36 = w35.heap.size := ⟨_, rfl⟩
       have hl36_0 : w.heap.size < g36 := by rw [hg36]; exact (hE.h9).lt
       have hl36_1 : gF < g36 := by rw [hg36]; exact Rw.lt (hE.h8)
       have hl36_3 : g2 < g36 := by rw [hg36]; exact (hE.h6).lt
       have hl36_5 : g4 < g36 := by rw [hg36]; exact (hE.h4).lt
       have hlw_g36 : w.heap.size ≤ g36 := by rw [hg36]; exact hE.bel.size
       replace hE := hE.blk 29 #[.bool false, .slice none 0 0, .bool false, .slice none 0 0] (g := g36) hg36.symm;generalize w35.alloc (.cells #[.bool false, .slice none 0 0, .bool false, .slice none 0 0] 29) = W36 at hE ⊢;rw [← hg36];clear hg36;refine hK.out _ _ (hE.h3) (fun hHeld => ?_);clear hK K;try simp only [PL]
       refine r1 13 (fun K hK => ?_)
       have hgl37 : w.heap.size ≤ g36 := by omega
       obtain ⟨x37_0, x37_1, x37_2, x37_3⟩ := (hE.here.2).c4;obtain ⟨f37_0, f37_1, f37_2, f37_3⟩ := hE.here.2.f4;replace hE := ((((((((((((Env.again (bel4 hE.bel hgl37 (.bool s6) (.slice A6 n6 c6) (.bool t6) (.slice B6 m6 d6))).blkI ((hE.h10).far4 (by omega) _ _ _ _)).rwr ((hE.h9).grownB (st4_grown (hE.here.2) _ _ _ _) ((hE.h9).ne (hE.here.2) (by decide)))).fv ((hE.h8).sep4 hE.here.2 rfl _ _ _ _ rfl rfl rfl)).blkI ((hE.h7).far4 (by omega) _ _ _ _)).fv ((hE.h6).sep4 hE.here.2 rfl _ _ _ _ rfl rfl rfl)).blkI ((hE.h5).far4 (by omega) _ _ _ _)).fv ((hE.h4).sep4 hE.here.2 rfl _ _ _ _ rfl rfl rfl)).clm (HhM.out.below (bel4 hE.bel (by omega) _ _ _ _))).fv ((hE.h2).sep4 hE.here.2 rfl _ _ _ _ rfl rfl rfl)).fv ((hE.here.1.2).sep4 hE.here.2 rfl _ _ _ _ rfl rfl rfl)).blkI ((hE.here.2).s4 _ _ _ _));go_simp;clear x37_0 x37_1 x37_2 x37_3 f37_0 f37_1 f37_2 f37_3 hgl37;generalize ((((W36.setCell ⟨g36, 0, none⟩ (.bool s6)).setCell ⟨g36, 1, none⟩ (.slice A6 n6 c6)).setCell ⟨g36, 2, none⟩ (.bool t6)).setCell ⟨g36, 3, none⟩ (.slice B6 m6 d6)) = W37 at hE ⊢;refine hK.out _ _ (hE.h3) (fun hHeld => ?_);clear hK K;try simp only [PL]
       refine wpAnyH_done (by kernel_rfl) ?_ _;go_wp2_with fail
       go_meet
       exact ⟨g36, s6, A6, n6, c6, t6, B6, m6, d6, rfl, ⟨by omega, by omega, by omega, by omega⟩, (((((((((((Env.again hE.bel).blkI (hE.h10)).rwr (hE.h9)).fv (hE.h8)).blkI (hE.h7)).fv (hE.h6)).blkI (hE.h5)).fv (hE.h4)).clm (hE.h3)).fv (hE.here.1.2)).blkI (hE.here.2))⟩
      ·
       go_simp
       obtain ⟨g38, hg38⟩ : ∃ g38, g38 = w34.heap.size := ⟨_, rfl⟩
       have hl38_0 : w.heap.size < g38 := by rw [hg38]; exact (hE.h8).lt
       have hl38_1 : gF < g38 := by rw [hg38]; exact Rw.lt (hE.h7)
       have hl38_3 : g2 < g38 := by rw [hg38]; exact (hE.h5).lt
       have hl38_5 : g4 < g38 := by rw [hg38]; exact (hE.h3).lt
       have hlw_g38 : w.heap.size ≤ g38 := by rw [hg38]; exact hE.bel.size
       replace hE := hE.blk 29 #[.bool false, .slice none 0 0, .bool false, .slice none 0 0] (g := g38) hg38.symm;generalize w34.alloc (.cells #[.bool false, .slice none 0 0, .bool false, .slice none 0 0] 29) = W38 at hE ⊢;rw [← hg38];clear hg38;refine hK.out _ _ (hE.h2) (fun hHeld => ?_);clear hK K;try simp only [PL]
       refine r1 11 (fun K hK => ?_);go_simp;refine hE.fr (rover_v (ca := c7) (da := d7) (cb := x.w.c) (db := x.w.d) (hE.here.1.2) (hE.h3) (by omega) (by omega) hpn) ?_;clear hE;intro s6 A6 n6 c6 t6 B6 m6 d6 w39 hE;go_wp2_with fail
       refine hK.out _ _ (hE.h3) (fun hHeld => ?_);clear hK K;try simp only [PL]
       refine r1 13 (fun K hK => ?_)
       have hgl40 : w.heap.size ≤ g38 := by omega
       obtain ⟨x40_0, x40_1, x40_2, x40_3⟩ := (hE.here.1.2).c4;obtain ⟨f40_0, f40_1, f40_2, f40_3⟩ := hE.here.1.2.f4;replace hE := ((((((((((((Env.again (bel4 hE.bel hgl40 (.bool s6) (.slice A6 n6 c6) (.bool t6) (.slice B6 m6 d6))).blkI ((hE.h10).far4 (by omega) _ _ _ _)).rwr ((hE.h9).grownB (st4_grown (hE.here.1.2) _ _ _ _) ((hE.h9).ne (hE.here.1.2) (by decide)))).fv ((hE.h8).sep4 hE.here.1.2 rfl _ _ _ _ rfl rfl rfl)).blkI ((hE.h7).far4 (by omega) _ _ _ _)).fv ((hE.h6).sep4 hE.here.1.2 rfl _ _ _ _ rfl rfl rfl)).blkI ((hE.h5).far4 (by omega) _ _ _ _)).fv ((hE.h4).sep4 hE.here.1.2 rfl _ _ _ _ rfl rfl rfl)).clm (HhM.out.below (bel4 hE.bel (by omega) _ _ _ _))).fv ((hE.h2).sep4 hE.here.1.2 rfl _ _ _ _ rfl rfl rfl)).blkI ((hE.here.1.2).s4 _ _ _ _)).fv ((hE.here.2).sep4 hE.here.1.2 rfl _ _ _ _ rfl rfl rfl));go_simp;clear x40_0 x40_1 x40_2 x40_3 f40_0 f40_1 f40_2 f40_3 hgl40;generalize ((((w39.setCell ⟨g38, 0, none⟩ (.bool s6)).setCell ⟨g38, 1, none⟩ (.slice A6 n6 c6)).setCell ⟨g38, 2, none⟩ (.bool t6)).setCell ⟨g38, 3, none⟩ (.slice B6 m6 d6)) = W40 at hE ⊢;refine hK.out _ _ (hE.h3) (fun hHeld => ?_);clear hK K;try simp only [PL]
       refine wpAnyH_done (by kernel_rfl) ?_ _;go_wp2_with fail
       go_meet
       exact ⟨g38, s6, A6, n6, c6, t6, B6, m6, d6, rfl, ⟨by omega, by omega, by omega, by omega⟩, (((((((((((Env.again hE.bel).blkI (hE.h10)).rwr (hE.h9)).fv (hE.h8)).blkI (hE.h7)).fv (hE.h6)).blkI (hE.h5)).fv (hE.h4)).clm (hE.h3)).fv (hE.here.2)).blkI (hE.here.1.2))⟩
     ·
      go_simp
      obtain ⟨g41, hg41⟩ : ∃ g41, g41 = wd.heap.size := ⟨_, rfl⟩
      have hl41_0 : w.heap.size < g41 := by rw [hg41]; exact (hE.h7).lt
      have hl41_1 : gF < g41 := by rw [hg41]; exact Rw.lt (hE.h6)
      have hl41_3 : g2 < g41 := by rw [hg41]; exact (hE.h4).lt
      have hl41_5 : g4 < g41 := by rw [hg41]; exact (hE.h2).lt
      have hlw_g41 : w.heap.size ≤ g41 := by rw [hg41]; exact hE.bel.size
      replace hE := hE.blk 29 #[.bool false, .slice none 0 0, .bool false, .slice none 0 0] (g := g41) hg41.symm;generalize wd.alloc (.cells #[.bool false, .slice none 0 0, .bool false, .slice none 0 0] 29) = W41 at hE ⊢;rw [← hg41];clear hg41;refine hK.out _ _ (hE.here.1.2) (fun hHeld => ?_);clear hK K;try simp only [PL]
      refine r1 5 (fun K hK => ?_);go_simp;refine hE.fr (rffromInt_v x.K _ (by omega) (by omega)) ?_;clear hE;intro s7 A7 n7 c7 t7 B7 m7 d7 w42 hE;go_wp2_with fail
      refine hK.out _ _ (hE.h2) (fun hHeld => ?_);clear hK K;try simp only [PL]
      refine r1 11 (fun K hK => ?_);go_simp;refine hE.fr (rover_v (ca := c7) (da := d7) (cb := x.w.c) (db := x.w.d) (hE.here.2) (hE.h3) (by omega) (by omega) hpn) ?_;clear hE;intro s6 A6 n6 c6 t6 B6 m6 d6 w43 hE;go_wp2_with fail
      refine hK.out _ _ (hE.h3) (fun hHeld => ?_);clear hK K;try simp only [PL]
      refine r1 13 (fun K hK => ?_)
      have hgl44 : w.heap.size ≤ g41 := by omega
      obtain ⟨x44_0, x44_1, x44_2, x44_3⟩ := (hE.h2).c4;obtain ⟨f44_0, f44_1, f44_2, f44_3⟩ := hE.h2.f4;replace hE := ((((((((((((Env.again (bel4 hE.bel hgl44 (.bool s6) (.slice A6 n6 c6) (.bool t6) (.slice B6 m6 d6))).blkI ((hE.h10).far4 (by omega) _ _ _ _)).rwr ((hE.h9).grownB (st4_grown (hE.h2) _ _ _ _) ((hE.h9).ne (hE.h2) (by decide)))).fv ((hE.h8).sep4 hE.h2 rfl _ _ _ _ rfl rfl rfl)).blkI ((hE.h7).far4 (by omega) _ _ _ _)).fv ((hE.h6).sep4 hE.h2 rfl _ _ _ _ rfl rfl rfl)).blkI ((hE.h5).far4 (by omega) _ _ _ _)).fv ((hE.h4).sep4 hE.h2 rfl _ _ _ _ rfl rfl rfl)).clm (HhM.out.below (bel4 hE.bel (by omega) _ _ _ _))).blkI ((hE.h2).s4 _ _ _ _)).fv ((hE.here.1.2).sep4 hE.h2 rfl _ _ _ _ rfl rfl rfl)).fv ((hE.here.2).sep4 hE.h2 rfl _ _ _ _ rfl rfl rfl));go_simp;clear x44_0 x44_1 x44_2 x44_3 f44_0 f44_1 f44_2 f44_3 hgl44;generalize ((((w43.setCell ⟨g41, 0, none⟩ (.bool s6)).setCell ⟨g41, 1, none⟩ (.slice A6 n6 c6)).setCell ⟨g41, 2, none⟩ (.bool t6)).setCell ⟨g41, 3, none⟩ (.slice B6 m6 d6)) = W44 at hE ⊢;refine hK.out _ _ (hE.h3) (fun hHeld => ?_);clear hK K;try simp only [PL]
      refine wpAnyH_done (by kernel_rfl) ?_ _;go_wp2_with fail
      go_meet
      exact ⟨g41, s6, A6, n6, c6, t6, B6, m6, d6, rfl, ⟨by omega, by omega, by omega, by omega⟩, (((((((((((Env.again hE.bel).blkI (hE.h10)).rwr (hE.h9)).fv (hE.h8)).blkI (hE.h7)).fv (hE.h6)).blkI (hE.h5)).fv (hE.h4)).clm (hE.h3)).fv (hE.here.2)).blkI (hE.h2))⟩
    case rest =>
    clear hE;obtain ⟨G10, s6, A6, n6, c6, t6, B6, m6, d6, rfl, ⟨hG10_0, hG10_1, hG10_2, hG10_3⟩, hE⟩ := hcut;generalize wc = wk10 at hE ⊢
    go_upto_region 11 with (fail)
    obtain ⟨k45, k46, k47, k48⟩ := (hE.h4).c4;obtain ⟨k49, k50, k51, k52⟩ := (hE.here.2).c4;go_wp2_with fail
    clear k45 k46 k47 k48 k49 k50 k51 k52
    obtain ⟨v, hv⟩ : ∃ v, decide (0 < cmpQ (((x.K : Int) : Rat) / pw) (mxq (wq r) (Kz r) f k)) = v := ⟨_, rfl⟩
    have hcm : v = true ↔ mxq (wq r) (Kz r) f k < ((x.K : Int) : Rat) / pw := by rw [← hv, decide_eq_true_iff]; exact cmpQ_gt0
    have Hhcm := Lib.hid hcm;clear hcm;refine hE.br (rorder_v (ca := c6) (da := d6) (cb := cv) (db := dv) (hE.here.1.2) (hE.h5) (by omega) (by omega)) ?_;clear hE;intro w53 hE
    cases v with
    | false =>
     have hm2 : mxq (wq r) (Kz r) f k = mxq (wq r) (Kz r) f (k + 1) := by rw [Hhm1.out, if_neg (fun h => by have := Hhcm.out.2 h; cases this)]
     have Hhm2 := Lib.hid hm2;clear hm2;go_wp2_with fail
     go_roundw
     case rel => exact ⟨k + 1, sy, ty, Ay, By, ny, cy, my, dy, sv, tv, Av, Bv, nv, cv, mv, dv, by omega, by rw [Hhi1.out], by go_num, (((((Env.again hE.bel).blkI (hE.h9)).rwr (hE.h8)).fv ((hE.h7).to Hho1.out.symm)).blkI (hE.h6)).fv ((hE.h5).to Hhm2.out) |>.blkI (hE.h4)⟩
     case measure => simp [intOf]; omega
    | true =>
     have hm2 : ((x.K : Int) : Rat) / pw = mxq (wq r) (Kz r) f (k + 1) := by rw [Hhm1.out, if_pos (Hhcm.out.1 rfl)]
     have Hhm2 := Lib.hid hm2;clear hm2
     go_upto_region 12 with (fail)
     clear hv;obtain ⟨k54, k55, k56, k57⟩ := (hE.here.2).c4
     have hgl58 : w.heap.size ≤ g4 := by omega
     obtain ⟨x58_0, x58_1, x58_2, x58_3⟩ := (hE.h4).c4;obtain ⟨f58_0, f58_1, f58_2, f58_3⟩ := hE.h4.f4;replace hE := (((((((((((Env.again (bel4 hE.bel hgl58 (.bool s6) (.slice A6 n6 c6) (.bool t6) (.slice B6 m6 d6))).blkI ((hE.h9).far4 (by omega) _ _ _ _)).rwr ((hE.h8).grownB (st4_grown (hE.h4) _ _ _ _) ((hE.h8).ne (hE.h4) (by decide)))).fv ((hE.h7).sep4 hE.h4 rfl _ _ _ _ rfl rfl rfl)).blkI ((hE.h6).far4 (by omega) _ _ _ _)).fv ((hE.h5).sep4 hE.h4 rfl _ _ _ _ rfl rfl rfl)).blkI ((hE.h4).s4 _ _ _ _)).fv ((hE.h3).sep4 hE.h4 rfl _ _ _ _ rfl rfl rfl)).clm (HhM.out.below (bel4 hE.bel (by omega) _ _ _ _))).fv ((hE.here.1.2).sep4 hE.h4 rfl _ _ _ _ rfl rfl rfl)).blkI ((hE.here.2).far4 (by omega) _ _ _ _))
     go_upto_region 7 with (fail)
     clear x58_0 x58_1 x58_2 x58_3 f58_0 f58_1 f58_2 f58_3 hgl58;generalize ((((w53.setCell ⟨g4, 0, none⟩ (.bool s6)).setCell ⟨g4, 1, none⟩ (.slice A6 n6 c6)).setCell ⟨g4, 2, none⟩ (.bool t6)).setCell ⟨g4, 3, none⟩ (.slice B6 m6 d6)) = W58 at hE ⊢;go_wp2_with fail
     go_roundw
     case rel => exact ⟨k + 1, sy, ty, Ay, By, ny, cy, my, dy, s6, t6, A6, B6, n6, c6, m6, d6, by omega, by rw [Hhi1.out], by go_num, (((((Env.again hE.bel).blkI (hE.h9)).rwr (hE.h8)).fv ((hE.h7).to Hho1.out.symm)).blkI (hE.h6)).fv ((hE.here.1.2).to Hhm2.out) |>.blkI (hE.h4)⟩
     case measure => simp [intOf]; omega
   | false =>
    have hi1 : a - inZ (Kz r) f (k + 1) = z := by unfold inZ; rw [← Hhfk.out, if_neg Bool.false_ne_true, Hhz.out]; omega
    have ho1 : outW (wq r) f k + pw = outW (wq r) f (k + 1) := by unfold outW; rw [show su (fun j => if f j then 0 else wq r j) (k + 1) = su (fun j => if f j then 0 else wq r j) k + (if f k then 0 else wq r k) from rfl, ← Hhfk.out, if_neg Bool.false_ne_true, Hhpw.out]
    have hm2 : mxq (wq r) (Kz r) f k = mxq (wq r) (Kz r) f (k + 1) := by
     show _ = if _ then _ else _
     rw [← Hhfk.out, if_neg (fun h => Bool.false_ne_true h.1)]
    have Hhi1 := Lib.hid hi1;clear hi1;have Hho1 := Lib.hid ho1;clear ho1;have Hhm2 := Lib.hid hm2;clear hm2
    go_upto_region 13 with (fail)
    clear kc d5 t1 o1;replace hE := hE.drew;refine wp_region_held_drew (S := fun V => ClM (some ⟨b, o, none⟩) n r V) (by kernel_rfl) (hE.here.2) (fun hHeld => ?_)
    generalize wr.drew = wd at *
    refine tk 1 ?_;refine tk 2 ?_;refine tk 3 ?_;refine tk 4 ?_
    refine tk 5 ?_ (hy := by
     intro w hSw;obtain ⟨b2, o2, e2, -, hc2⟩ := hSw (by omega)
     cases e2
     obtain ⟨⟨d0, d1, d2, d3, d4, d5⟩, -⟩ := hc2 k hlt;rw [← Hhx2.out] at d0 d1 d2 d3 d4 d5;clear hc2;clear hSw
     first | (go_simp; done) | (go_simp; with_reducible rfl))
    try simp only [PL]
    refine r1 0 (fun K hK => ?_);obtain ⟨k59, k60, k61, k62⟩ := (hE.h4).c4;go_simp;clear k59 k60 k61 k62;refine hK.out _ _ (hE.here.2) (fun hHeld => ?_);clear hK K;try simp only [PL]
    refine r1 6 (fun K hK => ?_);go_simp;refine hE.fr (rplus_v (ca := cy) (da := dy) (cb := x.w.c) (db := x.w.d) (hE.h5) (hE.here.1.2) (by omega) (by omega)) ?_;clear hE;intro s6 A6 n6 c6 t6 B6 m6 d6 w63 hE;go_wp2_with fail
    refine hK.out _ _ (hE.here.1.2) (fun hHeld => ?_);clear hK K;try simp only [PL]
    refine r1 7 (fun K hK => ?_)
    have hgl64 : w.heap.size ≤ g2 := by omega
    obtain ⟨x64_0, x64_1, x64_2, x64_3⟩ := (hE.h5).c4;obtain ⟨f64_0, f64_1, f64_2, f64_3⟩ := hE.h5.f4;replace hE := ((((((((((Env.again (bel4 hE.bel hgl64 (.bool s6) (.slice A6 n6 c6) (.bool t6) (.slice B6 m6 d6))).blkI ((hE.h8).far4 (by omega) _ _ _ _)).rwr ((hE.h7).grownB (st4_grown (hE.h5) _ _ _ _) ((hE.h7).ne (hE.h5) (by decide)))).fv ((hE.h6).sep4 hE.h5 rfl _ _ _ _ rfl rfl rfl)).blkI ((hE.h5).s4 _ _ _ _)).fv ((hE.h4).sep4 hE.h5 rfl _ _ _ _ rfl rfl rfl)).blkI ((hE.h3).far4 (by omega) _ _ _ _)).fv ((hE.h2).sep4 hE.h5 rfl _ _ _ _ rfl rfl rfl)).clm (HhM.out.below (bel4 hE.bel (by omega) _ _ _ _))).fv ((hE.here.2).sep4 hE.h5 rfl _ _ _ _ rfl rfl rfl));go_simp;clear x64_0 x64_1 x64_2 x64_3 f64_0 f64_1 f64_2 f64_3 hgl64;generalize ((((w63.setCell ⟨g2, 0, none⟩ (.bool s6)).setCell ⟨g2, 1, none⟩ (.slice A6 n6 c6)).setCell ⟨g2, 2, none⟩ (.bool t6)).setCell ⟨g2, 3, none⟩ (.slice B6 m6 d6)) = W64 at hE ⊢;refine hK.out _ _ (hE.here.1.2) (fun hHeld => ?_);clear hK K;try simp only [PL]
    refine wpAnyH_done (by kernel_rfl) ?_ _;go_wp2_with fail
    go_roundw
    case rel => exact ⟨k + 1, s6, t6, A6, B6, n6, c6, m6, d6, sv, tv, Av, Bv, nv, cv, mv, dv, by omega, by rw [Hhi1.out], by go_num, (((((Env.again hE.bel).blkI (hE.h8)).rwr (hE.h7)).fv ((hE.here.2).to Hho1.out)).blkI (hE.h5)).fv ((hE.h4).to Hhm2.out) |>.blkI (hE.h3)⟩
    case measure => simp [intOf]; omega
end Go.Proofs.YtjgihmmeimfheaaGreat
