/-
  Parts.
-/
import Derived.Test.YtclbiihcbfnjmaaGreatK2
import Derived.Test.YtclbiihcbfnjmaaGreatK8
import Derived.Test.YtclbiihcbfnjmaaGreatP7
import Derived.Test.YtclbiihcbfnjmaaGreatK24
import Derived.Test.YtclbiihcbfnjmaaGreatK18
set_option linter.unusedSimpArgs false
set_option maxRecDepth 100000
set_option maxHeartbeats 8000000
namespace Go.Proofs.YtclbiihcbfnjmaaGreat
open Go.RowKit

def Bh.equ (b : Bh) (x : Ct) (N : Nat) : Rat := b.ben x N 0 / b.prm x 1 N 0
theorem Bh.prm_pos {b : Bh} {x : Ct} {w : World} (hb : b.rd w) (ho : x.ok b) (hT : x.T ≠ 0) {N : Nat} (hN : Cnt b.v (b.rt x.E x.Y) N) : 0 < b.prm x 1 N 0 := by
 have h := pay_pos (m := x.T.toNat) (Bh.dis hb ho.1) (rt_rates hb.1 ho.2.1 N) hN.pos (by have := ho.2.2.1.1; omega);have e : b.prm x 1 N 0 = va b.v (b.rt x.E x.Y) N (pay x.T.toNat 1) (fun _ => 0) 0 := va_congr _ _ _ (fun _ _ => rfl) (fun n _ => nil0_eq n) (Nat.zero_le _);rw [e];exact h
theorem Bh.equ_fl {b : Bh} {x : Ct} {w : World} (hb : b.rd w) (ho : x.ok b) (hT : x.T ≠ 0) {N : Nat} (hN : Cnt b.v (b.rt x.E x.Y) N) (h80 : N ≤ 80) : fl (b.equ x N) ≤ 256 :=
 Go.Proofs.YtclbiihcbfnjmaaGreat.equ_fl (Bh.dis hb ho.1) (rt_rates hb.1 ho.2.1 N) (amt_pm (M := 1099511627776) fun k hk => ho.2.2.2.2.1.2 k hk) (amt_pm (M := 1099511627776) fun k hk => ho.2.2.2.2.2.2 k hk) (pay_pm (M := 1) (q := 1) (by decide) (by decide) (Dv.int 1)) nil0_pm h80 (Bh.prm_pos hb ho hT hN)
theorem vequi_v {b : Bh} {x : Ct} {w : World} (hb : b.rd w) (hbb : b.bd) (hx : x.rd w) (hxb : x.bd) (hok : x.ok b) (N : Nat) (hN : Cnt b.v (b.rt x.E x.Y) N) (h80 : N ≤ 80) (hT : x.T ≠ 0) :
  Calls Tryz.prog 29 #[.agg b.C, .agg x.C] w (FOK (b.equ x N) w) := by
 have hpp := Bh.prm_pos hb hok hT hN;have hef := Bh.equ_fl hb hok hT hN h80
 have hnum : (b.prm x 1 N 0).num ≠ 0 := fun h => by have := Rat.num_eq_zero.1 h; rw [this] at hpp; exact absurd hpp (by decide)
 have hvB := Ct.vlB hb hok hN h80;have hvU := Ct.vlU hb hok hN h80
 have hlb : ∀ k, k < x.n → -9223372036854775808 ≤ x.l k ∧ x.l k ≤ 9223372036854775807 := fun k hk => by have := hok.2.2.2.2.1.2 k hk; omega
 have hkb : ∀ k, k < x.m → -9223372036854775808 ≤ x.k k ∧ x.k k ≤ 9223372036854775807 := fun k hk => by have := hok.2.2.2.2.2.2 k hk; omega
 have h0 := hok.2.2.1.1;have hN0 := hN.pos;have t1 : decide (x.T = 0) = false := decide_eq_false hT;have t2 : ¬ x.T = 0 := hT;have Hh0 := Lib.hid h0;have HhT := Lib.hid hT;clear hT h0;have T1 := Lib.hid t1;have T2 := Lib.hid t2;clear t1 t2;have Hhb := Lib.hid hb;clear hb;have Hhbb := Lib.hid hbb;clear hbb;have Hhx := Lib.hid hx;clear hx;have Hhxb := Lib.hid hxb;clear hxb;have Hhok := Lib.hid hok;clear hok;have HhN := Lib.hid hN;clear hN;have Hhpp := Lib.hid hpp;clear hpp;have Hhef := Lib.hid hef;clear hef;have Hhnum := Lib.hid hnum;clear hnum;have HhvB := Lib.hid hvB;clear hvB;have HhvU := Lib.hid hvU;clear hvU;have Hhlb := Lib.hid hlb;clear hlb;have Hhkb := Lib.hid hkb;clear hkb;have hE := ((Env.start w).blk 31 b.C (g := w.heap.size) rfl).blk 36 x.C (g := w.heap.size + 1) (by simp);have hE := hE.blk 29 qz4 (g := w.heap.size + 1 + 1) (by simp)
 obtain ⟨W0, hW0⟩ : ∃ W0, W0 = (((w.alloc (.cells b.C 31)).alloc (.cells x.C 36)).alloc (.cells qz4 29)) := ⟨_, rfl⟩
 rw [← hW0] at hE;have HW0 := Lib.hid hW0;clear hW0
 go_enter Tryz.func29, Tryz.ntmps29
 go_upto_region 1 with (fail)
 rw [← HW0.out];obtain ⟨k1, k2, k3, k4, k5, k6, k7⟩ := (hE.h2).c7;have k8 := (hE.here.1.2).cell 0;have k9 := (hE.here.1.2).cell 1;have k10 := (hE.here.1.2).cell 2;have k11 := (hE.here.1.2).cell 3;have k12 := (hE.here.1.2).cell 4;have k13 := (hE.here.1.2).cell 5;have k14 := (hE.here.1.2).cell 6;have k15 := (hE.here.1.2).cell 7;have k16 := (hE.here.1.2).cell 8;go_wp2_with fail
 refine (vnew_v (Bh.rd_below Hhb.out hE.bel) Hhbb.out (Ct.rd_below Hhx.out hE.bel) Hhxb.out Hhok.out N HhN.out h80).mono ?_;clear k1 k2 k3 k4 k5 k6 k7 k8 k9 k10 k11 k12 k13 k14 k15 k16
 rintro e wc ⟨G, cap, h, rfl, hCB, hcq, hb1⟩
 replace hE := (hE.step hb1).colp hCB;replace hE := hE.colq hcq;clear hb1 hCB hcq
 go_upto_region 2 with (fail)
 obtain ⟨g17, hg17⟩ : ∃ g17, g17 = wc.heap.size := ⟨_, rfl⟩
 have hl17_0 : w.heap.size < g17 := by rw [hg17]; exact (hE.h4).lt
 have hl17_1 : w.heap.size + 1 < g17 := by rw [hg17]; exact (hE.h3).lt
 have hl17_2 : w.heap.size + 1 + 1 < g17 := by rw [hg17]; exact (hE.h2).lt
 have hl17_3 : G < g17 := by rw [hg17]; exact ColP.lt (hE.here.1.2)
 replace hE := hE.blk 80 (x.Q G N cap) (g := g17) hg17.symm;generalize wc.alloc (.cells (x.Q G N cap) 80) = W17 at hE ⊢;rw [← hg17];clear hg17;have t1 := T1.out;have t2 := T2.out;have k18 := (hE.here.2).cell 2
 go_upto_region 6 with (fail)
 clear k18;clear t1 t2
 try rw [show (x.T == 0) = false from by simpa using T2.out]
 go_cut [8] from 23 to 33 (fun p wx => ∃ G6 sy Ay ny cy ty By my dy, p = .pointer (some ⟨G6, 0, none⟩) ∧ g17 < G6 ∧ Env w (fun V => ((((((((True ∧ Blk 31 (w.heap.size) b.C V) ∧ Blk 36 (w.heap.size + 1) x.C V) ∧ Blk 29 (w.heap.size + 1 + 1) qz4 V) ∧ ColB G N cap h V) ∧ ColQ h N (fun _ _ => True) (colq b.v (b.rt x.E x.Y) N) V) ∧ Blk 80 (g17) (x.Q G N cap) V) ∧ FV V (b.ben x N 0) sy Ay ny ty By my) ∧ Blk 29 (G6) (qf4 sy Ay ny cy ty By my dy) V)) wx)
 case first =>
  replace hE := hE.drew;refine wp_region_held_drew (S := fun V => Blk 80 (g17) (x.Q G N cap) V) (by kernel_rfl) (hE.here.2) (fun hHeld => ?_)
  generalize W17.drew = wd at *
  refine tk 0 ?_ (hy := by
   intro w hSw;have kc0 := (hSw).cell 0;have kc1 := (hSw).cell 1;have kc2 := (hSw).cell 2;have kc3 := (hSw).cell 3;have kc4 := (hSw).cell 4;have kc5 := (hSw).cell 5;have kc6 := (hSw).cell 6;have kc7 := (hSw).cell 7;have kc8 := (hSw).cell 8;have kc9 := (hSw).cell 9;clear hSw
   first | (go_simp; done) | (go_simp; with_reducible rfl))
  try simp only [PL]
  refine tk 1 ?_;refine tk 2 ?_
  refine tk 3 ?_ (hy := by
   intro w hSw;have kc7 := (hSw).cell 7;clear hSw
   first | (go_simp; done) | (go_simp; with_reducible rfl))
  try simp only [PL]
  refine tk 5 ?_;refine tk 6 ?_
  refine tk 7 ?_ (hy := by
   intro w hSw;have kc8 := (hSw).cell 8;clear hSw
   first | (go_simp; done) | (go_simp; with_reducible rfl))
  try simp only [PL]
  refine wpAnyH_ready (rs := [4, 10]) (by kernel_rfl) (by simp) (AllReadyH.cons rfl (fun K hK => ?_) (AllReadyH.cons rfl (fun K hK => ?_) (AllReadyH.nil)))
  ·
   go_simp;refine (vlisted_v _ _ _ _).mono ?_
   rintro e _ ⟨rfl, rfl⟩
   obtain ⟨g19, hg19⟩ : ∃ g19, g19 = wd.heap.size := ⟨_, rfl⟩
   have hl19_0 : w.heap.size < g19 := by rw [hg19]; exact (hE.h5).lt
   have hl19_1 : w.heap.size + 1 < g19 := by rw [hg19]; exact (hE.h4).lt
   have hl19_2 : w.heap.size + 1 + 1 < g19 := by rw [hg19]; exact (hE.h3).lt
   have hl19_3 : G < g19 := by rw [hg19]; exact ColP.lt (hE.h2)
   have hl19_5 : g17 < g19 := by rw [hg19]; exact (hE.here.2).lt
   replace hE := hE.blk 34 #[.slice x.A x.n x.c] (g := g19) hg19.symm;generalize wd.alloc (.cells #[.slice x.A x.n x.c] 34) = W19 at hE ⊢;rw [← hg19];clear hg19;replace hE := hE.pay (pay_listed (l := x.l) (N := N) (hE.here.2) (RdI.below Hhx.out.2.1 hE.bel) Hhlb.out (by omega));go_wp2_with fail
   refine hK.out _ _ (hE.h2) (fun hHeld => ?_);clear hK K;try simp only [PL]
   refine wpAnyH_ready (rs := [8, 10]) (by kernel_rfl) (by simp) (AllReadyH.cons rfl (fun K hK => ?_) (AllReadyH.cons rfl (fun K hK => ?_) (AllReadyH.nil)))
   ·
    go_simp;refine (vlisted_v _ _ _ _).mono ?_
    rintro e _ ⟨rfl, rfl⟩
    obtain ⟨g20, hg20⟩ : ∃ g20, g20 = W19.heap.size := ⟨_, rfl⟩
    have hl20_0 : w.heap.size < g20 := by rw [hg20]; exact (hE.h7).lt
    have hl20_1 : w.heap.size + 1 < g20 := by rw [hg20]; exact (hE.h6).lt
    have hl20_2 : w.heap.size + 1 + 1 < g20 := by rw [hg20]; exact (hE.h5).lt
    have hl20_3 : G < g20 := by rw [hg20]; exact ColP.lt (hE.h4)
    have hl20_5 : g17 < g20 := by rw [hg20]; exact (hE.h2).lt
    have hl20_6 : g19 < g20 := by rw [hg20]; exact (hE.here.1.2).lt
    replace hE := hE.blk 34 #[.slice x.B x.m x.d] (g := g20) hg20.symm;generalize W19.alloc (.cells #[.slice x.B x.m x.d] 34) = W20 at hE ⊢;rw [← hg20];clear hg20;replace hE := hE.pay (pay_listed (l := x.k) (N := N) (hE.here.2) (RdI.below Hhx.out.2.2 hE.bel) Hhkb.out (by omega));go_wp2_with fail
    refine hK.out _ _ (hE.h4) (fun hHeld => ?_);clear hK K;try simp only [PL]
    refine wpAnyH_ready (rs := [9, 10]) (by kernel_rfl) (by simp) (AllReadyH.cons rfl (fun K hK => ?_) (AllReadyH.cons rfl (fun K hK => ?_) (AllReadyH.nil)))
    ·
     go_simp;refine hE.fr (vvalue_v (x := x) (h := h) (hE.h6) (hE.h5) HhN.out h80 (hE.h2) (hE.here.2) HhvB.out 0 HhN.out.pos) ?_;clear hE;intro sy Ay ny cy ty By my dy w21 hE;go_wp2_with fail
     refine hK.out _ _ (hE.h5) (fun hHeld => ?_);clear hK K;try simp only [PL]
     refine r1 10 (fun K hK => ?_);go_simp
     obtain ⟨g22, hg22⟩ : ∃ g22, g22 = w21.heap.size := ⟨_, rfl⟩
     have hl22_0 : w.heap.size < g22 := by rw [hg22]; exact (hE.h10).lt
     have hl22_1 : w.heap.size + 1 < g22 := by rw [hg22]; exact (hE.h9).lt
     have hl22_2 : w.heap.size + 1 + 1 < g22 := by rw [hg22]; exact (hE.h8).lt
     have hl22_3 : G < g22 := by rw [hg22]; exact ColP.lt (hE.h7)
     have hl22_5 : g17 < g22 := by rw [hg22]; exact (hE.h5).lt
     have hl22_6 : g19 < g22 := by rw [hg22]; exact (hE.h4).lt
     have hl22_8 : g20 < g22 := by rw [hg22]; exact (hE.h2).lt
     replace hE := hE.blk 29 qz4 (g := g22) hg22.symm;generalize w21.alloc (.cells qz4 29) = W22 at hE ⊢;rw [← hg22];clear hg22;refine hK.out _ _ (hE.h6) (fun hHeld => ?_);clear hK K;try simp only [PL]
     refine r1 11 (fun K hK => ?_);replace hE := (((((((((((Env.again hE.bel).blkI (hE.h11)).blkI (hE.h10)).blkI (hE.h9)).colp (hE.h8)).colq (hE.h7)).blkI (hE.h6)).blkI (hE.h5)).blkI (hE.h3)).fv (hE.here.1.2)).blkI (hE.here.2))
     have hgl23 : w.heap.size ≤ g22 := by omega
     obtain ⟨x23_0, x23_1, x23_2, x23_3⟩ := (hE.here.2).c4;obtain ⟨f23_0, f23_1, f23_2, f23_3⟩ := hE.here.2.f4;replace hE := (((((((((((Env.again (bel4 hE.bel hgl23 (.bool sy) (.slice Ay ny cy) (.bool ty) (.slice By my dy))).blkI ((hE.h9).far4 (by omega) _ _ _ _)).blkI ((hE.h8).far4 (by omega) _ _ _ _)).blkI ((hE.h7).far4 (by omega) _ _ _ _)).colp (ColP.st4 (hE.h6) (hE.here.2) (by decide) _ _ _ _)).colq (ColQ.st4 (hE.h5) (hE.here.2) rfl _ _ _ _)).blkI ((hE.h4).far4 (by omega) _ _ _ _)).blkI ((hE.h3).far4 (by omega) _ _ _ _)).blkI ((hE.h2).far4 (by omega) _ _ _ _)).fv ((hE.here.1.2).sep4 hE.here.2 rfl _ _ _ _ rfl rfl rfl)).blkI ((hE.here.2).s4 _ _ _ _));go_simp;clear x23_0 x23_1 x23_2 x23_3 f23_0 f23_1 f23_2 f23_3 hgl23;generalize ((((W22.setCell ⟨g22, 0, none⟩ (.bool sy)).setCell ⟨g22, 1, none⟩ (.slice Ay ny cy)).setCell ⟨g22, 2, none⟩ (.bool ty)).setCell ⟨g22, 3, none⟩ (.slice By my dy)) = W23 at hE ⊢;refine hK.out _ _ (hE.h4) (fun hHeld => ?_);clear hK K;try simp only [PL]
     refine wpAnyH_done (by kernel_rfl) ?_ _;go_wp2_with fail
     go_meet
     exact ⟨g22, sy, Ay, ny, cy, ty, By, my, dy, rfl, by omega, (((((((((Env.again hE.bel).blkI (hE.h9)).blkI (hE.h8)).blkI (hE.h7)).colp (hE.h6)).colq (hE.h5)).blkI (hE.h4)).fv (hE.here.1.2)).blkI (hE.here.2))⟩
    ·
     go_simp
     obtain ⟨g24, hg24⟩ : ∃ g24, g24 = W20.heap.size := ⟨_, rfl⟩
     have hl24_0 : w.heap.size < g24 := by rw [hg24]; exact (hE.h9).lt
     have hl24_1 : w.heap.size + 1 < g24 := by rw [hg24]; exact (hE.h8).lt
     have hl24_2 : w.heap.size + 1 + 1 < g24 := by rw [hg24]; exact (hE.h7).lt
     have hl24_3 : G < g24 := by rw [hg24]; exact ColP.lt (hE.h6)
     have hl24_5 : g17 < g24 := by rw [hg24]; exact (hE.h4).lt
     have hl24_6 : g19 < g24 := by rw [hg24]; exact (hE.h3).lt
     have hl24_8 : g20 < g24 := by rw [hg24]; exact (hE.here.1.2).lt
     replace hE := hE.blk 29 qz4 (g := g24) hg24.symm;generalize W20.alloc (.cells qz4 29) = W24 at hE ⊢;rw [← hg24];clear hg24;refine hK.out _ _ (hE.h5) (fun hHeld => ?_);clear hK K;try simp only [PL]
     refine r1 9 (fun K hK => ?_);go_simp;refine hE.fr (vvalue_v (x := x) (h := h) (hE.h7) (hE.h6) HhN.out h80 (hE.h3) (hE.here.1.2) HhvB.out 0 HhN.out.pos) ?_;clear hE;intro sy Ay ny cy ty By my dy w25 hE;go_wp2_with fail
     refine hK.out _ _ (hE.h6) (fun hHeld => ?_);clear hK K;try simp only [PL]
     refine r1 11 (fun K hK => ?_);replace hE := (((((((((((Env.again hE.bel).blkI (hE.h11)).blkI (hE.h10)).blkI (hE.h9)).colp (hE.h8)).colq (hE.h7)).blkI (hE.h6)).blkI (hE.h5)).blkI (hE.h3)).blkI (hE.here.1.2)).fv (hE.here.2))
     have hgl26 : w.heap.size ≤ g24 := by omega
     obtain ⟨x26_0, x26_1, x26_2, x26_3⟩ := (hE.here.1.2).c4;obtain ⟨f26_0, f26_1, f26_2, f26_3⟩ := hE.here.1.2.f4;replace hE := (((((((((((Env.again (bel4 hE.bel hgl26 (.bool sy) (.slice Ay ny cy) (.bool ty) (.slice By my dy))).blkI ((hE.h9).far4 (by omega) _ _ _ _)).blkI ((hE.h8).far4 (by omega) _ _ _ _)).blkI ((hE.h7).far4 (by omega) _ _ _ _)).colp (ColP.st4 (hE.h6) (hE.here.1.2) (by decide) _ _ _ _)).colq (ColQ.st4 (hE.h5) (hE.here.1.2) rfl _ _ _ _)).blkI ((hE.h4).far4 (by omega) _ _ _ _)).blkI ((hE.h3).far4 (by omega) _ _ _ _)).blkI ((hE.h2).far4 (by omega) _ _ _ _)).blkI ((hE.here.1.2).s4 _ _ _ _)).fv ((hE.here.2).sep4 hE.here.1.2 rfl _ _ _ _ rfl rfl rfl));go_simp;clear x26_0 x26_1 x26_2 x26_3 f26_0 f26_1 f26_2 f26_3 hgl26;generalize ((((w25.setCell ⟨g24, 0, none⟩ (.bool sy)).setCell ⟨g24, 1, none⟩ (.slice Ay ny cy)).setCell ⟨g24, 2, none⟩ (.bool ty)).setCell ⟨g24, 3, none⟩ (.slice By my dy)) = W26 at hE ⊢;refine hK.out _ _ (hE.h4) (fun hHeld => ?_);clear hK K;try simp only [PL]
     refine wpAnyH_done (by kernel_rfl) ?_ _;go_wp2_with fail
     go_meet
     exact ⟨g24, sy, Ay, ny, cy, ty, By, my, dy, rfl, by omega, (((((((((Env.again hE.bel).blkI (hE.h9)).blkI (hE.h8)).blkI (hE.h7)).colp (hE.h6)).colq (hE.h5)).blkI (hE.h4)).fv (hE.here.2)).blkI (hE.here.1.2))⟩
   ·
    go_simp
    obtain ⟨g27, hg27⟩ : ∃ g27, g27 = W19.heap.size := ⟨_, rfl⟩
    have hl27_0 : w.heap.size < g27 := by rw [hg27]; exact (hE.h7).lt
    have hl27_1 : w.heap.size + 1 < g27 := by rw [hg27]; exact (hE.h6).lt
    have hl27_2 : w.heap.size + 1 + 1 < g27 := by rw [hg27]; exact (hE.h5).lt
    have hl27_3 : G < g27 := by rw [hg27]; exact ColP.lt (hE.h4)
    have hl27_5 : g17 < g27 := by rw [hg27]; exact (hE.h2).lt
    have hl27_6 : g19 < g27 := by rw [hg27]; exact (hE.here.1.2).lt
    replace hE := hE.blk 29 qz4 (g := g27) hg27.symm;generalize W19.alloc (.cells qz4 29) = W27 at hE ⊢;rw [← hg27];clear hg27;refine hK.out _ _ (hE.h3) (fun hHeld => ?_);clear hK K;try simp only [PL]
    refine r1 8 (fun K hK => ?_);go_simp;refine (vlisted_v _ _ _ _).mono ?_
    rintro e _ ⟨rfl, rfl⟩
    obtain ⟨g28, hg28⟩ : ∃ g28, g28 = W27.heap.size := ⟨_, rfl⟩
    have hl28_0 : w.heap.size < g28 := by rw [hg28]; exact (hE.h8).lt
    have hl28_1 : w.heap.size + 1 < g28 := by rw [hg28]; exact (hE.h7).lt
    have hl28_2 : w.heap.size + 1 + 1 < g28 := by rw [hg28]; exact (hE.h6).lt
    have hl28_3 : G < g28 := by rw [hg28]; exact ColP.lt (hE.h5)
    have hl28_5 : g17 < g28 := by rw [hg28]; exact (hE.h3).lt
    have hl28_6 : g19 < g28 := by rw [hg28]; exact (hE.h2).lt
    have hl28_8 : g27 < g28 := by rw [hg28]; exact (hE.here.2).lt
    replace hE := hE.blk 34 #[.slice x.B x.m x.d] (g := g28) hg28.symm;generalize W27.alloc (.cells #[.slice x.B x.m x.d] 34) = W28 at hE ⊢;rw [← hg28];clear hg28;replace hE := hE.pay (pay_listed (l := x.k) (N := N) (hE.here.2) (RdI.below Hhx.out.2.2 hE.bel) Hhkb.out (by omega));go_wp2_with fail
    refine hK.out _ _ (hE.h5) (fun hHeld => ?_);clear hK K;try simp only [PL]
    refine r1 9 (fun K hK => ?_);go_simp;refine hE.fr (vvalue_v (x := x) (h := h) (hE.h7) (hE.h6) HhN.out h80 (hE.h3) (hE.here.2) HhvB.out 0 HhN.out.pos) ?_;clear hE;intro sy Ay ny cy ty By my dy w29 hE;go_wp2_with fail
    refine hK.out _ _ (hE.h6) (fun hHeld => ?_);clear hK K;try simp only [PL]
    refine r1 11 (fun K hK => ?_);replace hE := (((((((((((Env.again hE.bel).blkI (hE.h11)).blkI (hE.h10)).blkI (hE.h9)).colp (hE.h8)).colq (hE.h7)).blkI (hE.h6)).blkI (hE.h5)).blkI (hE.h3)).blkI (hE.h2)).fv (hE.here.2))
    have hgl30 : w.heap.size ≤ g27 := by omega
    obtain ⟨x30_0, x30_1, x30_2, x30_3⟩ := (hE.h2).c4;obtain ⟨f30_0, f30_1, f30_2, f30_3⟩ := hE.h2.f4;replace hE := (((((((((((Env.again (bel4 hE.bel hgl30 (.bool sy) (.slice Ay ny cy) (.bool ty) (.slice By my dy))).blkI ((hE.h9).far4 (by omega) _ _ _ _)).blkI ((hE.h8).far4 (by omega) _ _ _ _)).blkI ((hE.h7).far4 (by omega) _ _ _ _)).colp (ColP.st4 (hE.h6) (hE.h2) (by decide) _ _ _ _)).colq (ColQ.st4 (hE.h5) (hE.h2) rfl _ _ _ _)).blkI ((hE.h4).far4 (by omega) _ _ _ _)).blkI ((hE.h3).far4 (by omega) _ _ _ _)).blkI ((hE.h2).s4 _ _ _ _)).blkI ((hE.here.1.2).far4 (by omega) _ _ _ _)).fv ((hE.here.2).sep4 hE.h2 rfl _ _ _ _ rfl rfl rfl));go_simp;clear x30_0 x30_1 x30_2 x30_3 f30_0 f30_1 f30_2 f30_3 hgl30;generalize ((((w29.setCell ⟨g27, 0, none⟩ (.bool sy)).setCell ⟨g27, 1, none⟩ (.slice Ay ny cy)).setCell ⟨g27, 2, none⟩ (.bool ty)).setCell ⟨g27, 3, none⟩ (.slice By my dy)) = W30 at hE ⊢;refine hK.out _ _ (hE.h4) (fun hHeld => ?_);clear hK K;try simp only [PL]
    refine wpAnyH_done (by kernel_rfl) ?_ _;go_wp2_with fail
    go_meet
    exact ⟨g27, sy, Ay, ny, cy, ty, By, my, dy, rfl, by omega, (((((((((Env.again hE.bel).blkI (hE.h9)).blkI (hE.h8)).blkI (hE.h7)).colp (hE.h6)).colq (hE.h5)).blkI (hE.h4)).fv (hE.here.2)).blkI (hE.h2))⟩
  ·
   go_simp
   obtain ⟨g31, hg31⟩ : ∃ g31, g31 = wd.heap.size := ⟨_, rfl⟩
   have hl31_0 : w.heap.size < g31 := by rw [hg31]; exact (hE.h5).lt
   have hl31_1 : w.heap.size + 1 < g31 := by rw [hg31]; exact (hE.h4).lt
   have hl31_2 : w.heap.size + 1 + 1 < g31 := by rw [hg31]; exact (hE.h3).lt
   have hl31_3 : G < g31 := by rw [hg31]; exact ColP.lt (hE.h2)
   have hl31_5 : g17 < g31 := by rw [hg31]; exact (hE.here.2).lt
   replace hE := hE.blk 29 qz4 (g := g31) hg31.symm;generalize wd.alloc (.cells qz4 29) = W31 at hE ⊢;rw [← hg31];clear hg31;refine hK.out _ _ (hE.here.1.2) (fun hHeld => ?_);clear hK K;try simp only [PL]
   refine r1 4 (fun K hK => ?_);go_simp;refine (vlisted_v _ _ _ _).mono ?_
   rintro e _ ⟨rfl, rfl⟩
   obtain ⟨g32, hg32⟩ : ∃ g32, g32 = W31.heap.size := ⟨_, rfl⟩
   have hl32_0 : w.heap.size < g32 := by rw [hg32]; exact (hE.h6).lt
   have hl32_1 : w.heap.size + 1 < g32 := by rw [hg32]; exact (hE.h5).lt
   have hl32_2 : w.heap.size + 1 + 1 < g32 := by rw [hg32]; exact (hE.h4).lt
   have hl32_3 : G < g32 := by rw [hg32]; exact ColP.lt (hE.h3)
   have hl32_5 : g17 < g32 := by rw [hg32]; exact (hE.here.1.2).lt
   have hl32_6 : g31 < g32 := by rw [hg32]; exact (hE.here.2).lt
   replace hE := hE.blk 34 #[.slice x.A x.n x.c] (g := g32) hg32.symm;generalize W31.alloc (.cells #[.slice x.A x.n x.c] 34) = W32 at hE ⊢;rw [← hg32];clear hg32;replace hE := hE.pay (pay_listed (l := x.l) (N := N) (hE.here.2) (RdI.below Hhx.out.2.1 hE.bel) Hhlb.out (by omega));go_wp2_with fail
   refine hK.out _ _ (hE.h3) (fun hHeld => ?_);clear hK K;try simp only [PL]
   refine r1 8 (fun K hK => ?_);go_simp;refine (vlisted_v _ _ _ _).mono ?_
   rintro e _ ⟨rfl, rfl⟩
   obtain ⟨g33, hg33⟩ : ∃ g33, g33 = W32.heap.size := ⟨_, rfl⟩
   have hl33_0 : w.heap.size < g33 := by rw [hg33]; exact (hE.h8).lt
   have hl33_1 : w.heap.size + 1 < g33 := by rw [hg33]; exact (hE.h7).lt
   have hl33_2 : w.heap.size + 1 + 1 < g33 := by rw [hg33]; exact (hE.h6).lt
   have hl33_3 : G < g33 := by rw [hg33]; exact ColP.lt (hE.h5)
   have hl33_5 : g17 < g33 := by rw [hg33]; exact (hE.h3).lt
   have hl33_6 : g31 < g33 := by rw [hg33]; exact (hE.h2).lt
   have hl33_7 : g32 < g33 := by rw [hg33]; exact (hE.here.1.2).lt
   replace hE := hE.blk 34 #[.slice x.B x.m x.d] (g := g33) hg33.symm;generalize W32.alloc (.cells #[.slice x.B x.m x.d] 34) = W33 at hE ⊢;rw [← hg33];clear hg33;replace hE := hE.pay (pay_listed (l := x.k) (N := N) (hE.here.2) (RdI.below Hhx.out.2.2 hE.bel) Hhkb.out (by omega));go_wp2_with fail
   refine hK.out _ _ (hE.h5) (fun hHeld => ?_);clear hK K;try simp only [PL]
   refine r1 9 (fun K hK => ?_);go_simp;refine hE.fr (vvalue_v (x := x) (h := h) (hE.h7) (hE.h6) HhN.out h80 (hE.h2) (hE.here.2) HhvB.out 0 HhN.out.pos) ?_;clear hE;intro sy Ay ny cy ty By my dy w34 hE;go_wp2_with fail
   refine hK.out _ _ (hE.h6) (fun hHeld => ?_);clear hK K;try simp only [PL]
   refine r1 11 (fun K hK => ?_);replace hE := (((((((((((Env.again hE.bel).blkI (hE.h11)).blkI (hE.h10)).blkI (hE.h9)).colp (hE.h8)).colq (hE.h7)).blkI (hE.h6)).blkI (hE.h5)).blkI (hE.h4)).blkI (hE.h2)).fv (hE.here.2))
   have hgl35 : w.heap.size ≤ g31 := by omega
   obtain ⟨x35_0, x35_1, x35_2, x35_3⟩ := (hE.h3).c4;obtain ⟨f35_0, f35_1, f35_2, f35_3⟩ := hE.h3.f4;replace hE := (((((((((((Env.again (bel4 hE.bel hgl35 (.bool sy) (.slice Ay ny cy) (.bool ty) (.slice By my dy))).blkI ((hE.h9).far4 (by omega) _ _ _ _)).blkI ((hE.h8).far4 (by omega) _ _ _ _)).blkI ((hE.h7).far4 (by omega) _ _ _ _)).colp (ColP.st4 (hE.h6) (hE.h3) (by decide) _ _ _ _)).colq (ColQ.st4 (hE.h5) (hE.h3) rfl _ _ _ _)).blkI ((hE.h4).far4 (by omega) _ _ _ _)).blkI ((hE.h3).s4 _ _ _ _)).blkI ((hE.h2).far4 (by omega) _ _ _ _)).blkI ((hE.here.1.2).far4 (by omega) _ _ _ _)).fv ((hE.here.2).sep4 hE.h3 rfl _ _ _ _ rfl rfl rfl));go_simp;clear x35_0 x35_1 x35_2 x35_3 f35_0 f35_1 f35_2 f35_3 hgl35;generalize ((((w34.setCell ⟨g31, 0, none⟩ (.bool sy)).setCell ⟨g31, 1, none⟩ (.slice Ay ny cy)).setCell ⟨g31, 2, none⟩ (.bool ty)).setCell ⟨g31, 3, none⟩ (.slice By my dy)) = W35 at hE ⊢;refine hK.out _ _ (hE.h4) (fun hHeld => ?_);clear hK K;try simp only [PL]
   refine wpAnyH_done (by kernel_rfl) ?_ _;go_wp2_with fail
   go_meet
   exact ⟨g31, sy, Ay, ny, cy, ty, By, my, dy, rfl, by omega, (((((((((Env.again hE.bel).blkI (hE.h9)).blkI (hE.h8)).blkI (hE.h7)).colp (hE.h6)).colq (hE.h5)).blkI (hE.h4)).fv (hE.here.2)).blkI (hE.h3))⟩
 case rest =>
 clear hE;obtain ⟨G6, sy, Ay, ny, cy, ty, By, my, dy, rfl, hG6, hE⟩ := hcut;generalize wc = wk6 at hE ⊢
 go_upto_region 7 with (fail)
 replace hE := hE.drew;refine wp_region_held_drew (S := fun V => Blk 29 (G6) (qf4 sy Ay ny cy ty By my dy) V ∧ Blk 80 (g17) (x.Q G N cap) V) (by kernel_rfl) (⟨hE.here.2, hE.h2⟩) (fun hHeld => ?_)
 generalize wk6.drew = wd at *
 refine tk 0 ?_ (hy := by
  intro w hSw;have kc0 := (hSw.1).cell 0;have kc1 := (hSw.1).cell 1;have kc2 := (hSw.1).cell 2;have kc3 := (hSw.1).cell 3;clear hSw
  first | (go_simp; done) | (go_simp; with_reducible rfl))
 try simp only [PL]
 refine tk 1 ?_ (hy := by
  intro w hSw;have kc0 := (hSw.2).cell 0;have kc1 := (hSw.2).cell 1;have kc2 := (hSw.2).cell 2;have kc3 := (hSw.2).cell 3;have kc4 := (hSw.2).cell 4;have kc5 := (hSw.2).cell 5;have kc6 := (hSw.2).cell 6;have kc7 := (hSw.2).cell 7;have kc8 := (hSw.2).cell 8;have kc9 := (hSw.2).cell 9;clear hSw
  first | (go_simp; done) | (go_simp; with_reducible rfl))
 try simp only [PL]
 refine tk 2 ?_ (hy := by
  intro w hSw;have kc0 := (hSw.2).cell 0;have kc1 := (hSw.2).cell 1;have kc2 := (hSw.2).cell 2;have kc3 := (hSw.2).cell 3;have kc4 := (hSw.2).cell 4;have kc5 := (hSw.2).cell 5;have kc6 := (hSw.2).cell 6;have kc7 := (hSw.2).cell 7;have kc8 := (hSw.2).cell 8;have kc9 := (hSw.2).cell 9;clear hSw
  first | (go_simp; done) | (go_simp; with_reducible rfl))
 try simp only [PL]
 refine r1 3 (fun K hK => ?_);go_simp;refine hE.fr (ffromInt_v 1 _ (by decide) (by decide)) ?_;clear hE;intro sz Az nz cz tz Bz mz dz w36 hE;go_wp2_with fail
 refine hK.out _ _ (⟨hE.here.1.2, hE.h3⟩) (fun hHeld => ?_);clear hK K;try simp only [PL]
 refine r1 4 (fun K hK => ?_);go_simp;refine (vprem_v x G N cap _ _ _ _ _ _ _ _ _).mono ?_
 rintro e _ ⟨rfl, rfl⟩
 obtain ⟨g37, hg37⟩ : ∃ g37, g37 = w36.heap.size := ⟨_, rfl⟩
 have hl37_0 : w.heap.size < g37 := by rw [hg37]; exact (hE.h8).lt
 have hl37_1 : w.heap.size + 1 < g37 := by rw [hg37]; exact (hE.h7).lt
 have hl37_2 : w.heap.size + 1 + 1 < g37 := by rw [hg37]; exact (hE.h6).lt
 have hl37_5 : g17 < g37 := by rw [hg37]; exact (hE.h3).lt
 have hl37_7 : G6 < g37 := by rw [hg37]; exact (hE.here.1.2).lt
 replace hE := hE.blk 80 (x.Q G N cap) (g := g37) hg37.symm
 have hsz : (w36.alloc (.cells (x.Q G N cap) 80)).heap.size = g37 + 1 := by rw [hg37, World.size_alloc]
 generalize w36.alloc (.cells (x.Q G N cap) 80) = W37 at hE hsz ⊢
 obtain ⟨g38, hg38⟩ : ∃ g38, g38 = g37 + 1 := ⟨_, rfl⟩
 have hl38_0 : w.heap.size < g38 := by rw [hg38, ← hsz]; exact (hE.h9).lt
 have hl38_1 : w.heap.size + 1 < g38 := by rw [hg38, ← hsz]; exact (hE.h8).lt
 have hl38_2 : w.heap.size + 1 + 1 < g38 := by rw [hg38, ← hsz]; exact (hE.h7).lt
 have hl38_5 : g17 < g38 := by rw [hg38, ← hsz]; exact (hE.h4).lt
 have hl38_7 : G6 < g38 := by rw [hg38, ← hsz]; exact (hE.h2).lt
 have hl38_9 : g37 < g38 := by rw [hg38, ← hsz]; exact (hE.here.2).lt
 replace hE := hE.blk 29 (qf4 sz Az nz cz tz Bz mz dz) (g := g38) (hsz.trans hg38.symm);generalize W37.alloc (.cells (qf4 sz Az nz cz tz Bz mz dz) 29) = W38 at hE ⊢;rw [← hg37, ← hg38];clear hsz hg38 hg37;replace hE := hE.pay (pay_prem (M := N) (hE.here.1.2) Hh0.out (hE.h2) (hE.here.2));go_wp2_with fail
 refine hK.out _ _ (⟨hE.h4, hE.h6⟩) (fun hHeld => ?_);clear hK K;try simp only [PL]
 refine r1 5 (fun K hK => ?_);go_simp;refine (vlisted_v _ _ _ _).mono ?_
 rintro e _ ⟨rfl, rfl⟩
 obtain ⟨g39, hg39⟩ : ∃ g39, g39 = W38.heap.size := ⟨_, rfl⟩
 have hl39_0 : w.heap.size < g39 := by rw [hg39]; exact (hE.h11).lt
 have hl39_1 : w.heap.size + 1 < g39 := by rw [hg39]; exact (hE.h10).lt
 have hl39_2 : w.heap.size + 1 + 1 < g39 := by rw [hg39]; exact (hE.h9).lt
 have hl39_3 : G < g39 := by rw [hg39]; exact ColP.lt (hE.h8)
 have hl39_5 : g17 < g39 := by rw [hg39]; exact (hE.h6).lt
 have hl39_7 : G6 < g39 := by rw [hg39]; exact (hE.h4).lt
 have hl39_9 : g37 < g39 := by rw [hg39]; exact (hE.h2).lt
 have hl39_10 : g38 < g39 := by rw [hg39]; exact (hE.here.1.2).lt
 replace hE := hE.blk 34 #[.slice none 0 0] (g := g39) hg39.symm;generalize W38.alloc (.cells #[.slice none 0 0] 34) = W39 at hE ⊢;rw [← hg39];clear hg39;replace hE := hE.pay (pay_listed (l := (fun _ => (0 : Int))) (N := N) (hE.here.2) (RdI.nil _) (fun _ h => absurd h (by omega)) (by omega));go_wp2_with fail
 refine hK.out _ _ (⟨hE.h6, hE.h8⟩) (fun hHeld => ?_);clear hK K;try simp only [PL]
 refine r1 6 (fun K hK => ?_);go_simp;refine hE.fr (vvalue_v (x := x) (h := h) (hE.h10) (hE.h9) HhN.out h80 (hE.h2) (hE.here.2) HhvU.out 0 HhN.out.pos) ?_;clear hE;intro su Au nu cu tu Bu mu du w40 hE;go_wp2_with fail
 refine hK.out _ _ (⟨hE.h7, hE.h9⟩) (fun hHeld => ?_);clear hK K;try simp only [PL]
 refine r1 7 (fun K hK => ?_);go_simp;have hc := vover_v (ca := cy) (da := dy) (cb := cu) (db := du) (hE.h8) (hE.here.2) (HhvB.out.a 0) (HhvU.out.a 0) Hhnum.out Hhef.out;change Calls _ _ _ _ (FR (b.equ x N) _) at hc;refine hE.fr (hc) ?_;clear hE;intro sq Aq nq cq tq Bq mq dq w41 hE;clear hc;go_wp2_with fail
 refine hK.out _ _ (⟨hE.h8, hE.h10⟩) (fun hHeld => ?_);clear hK K;try simp only [PL]
 refine r1 8 (fun K hK => ?_)
 have hRl : w.heap.size ≤ w.heap.size + 1 + 1 := by omega
 obtain ⟨WW, hWW, hB, hV, hBel⟩ := ret_frac hE hE.h13 hRl hE.here.2 cq dq;obtain ⟨x0, x1, x2, x3⟩ := (hE.h13).c4;obtain ⟨fz0, fz1, fz2, fz3⟩ := hE.h13.f4;have HWW := Lib.hid hWW;clear hWW;go_simp;rw [← HWW.out];refine hK.out _ _ (by rw [HWW.out]; exact ⟨(hE.h8).far4 (R := w.heap.size + 1 + 1) (by omega) (.bool sq) (.slice Aq nq cq) (.bool tq) (.slice Bq mq dq), (hE.h10).far4 (R := w.heap.size + 1 + 1) (by omega) (.bool sq) (.slice Aq nq cq) (.bool tq) (.slice Bq mq dq)⟩) (fun hHeld => ?_);clear hK K;try simp only [PL]
 refine tk 9 ?_;refine wpAnyH_done (by kernel_rfl) ?_ _;go_wp2_with fail
 obtain ⟨y0, y1, y2, y3⟩ := hB.c4;refine bodyPost_ret (v := .tuple #[.agg (qf4 sq Aq nq cq tq Bq mq dq), .int .i64 0]) (by simp [results, Tryz.results29, go_sem, y0, y1, y2, y3]) rfl ?_;exact ⟨sq, Aq, nq, cq, tq, Bq, mq, dq, rfl, hV, hBel⟩
end Go.Proofs.YtclbiihcbfnjmaaGreat
