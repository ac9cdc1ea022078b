/-
  Parts.
-/
import Derived.Test.YtclbiihcbfnjmaaGreatK2
import Derived.Test.YtclbiihcbfnjmaaGreatK8
import Derived.Test.YtclbiihcbfnjmaaGreatK23
set_option linter.unusedSimpArgs false
set_option maxRecDepth 100000
set_option maxHeartbeats 8000000
namespace Go.Proofs.YtclbiihcbfnjmaaGreat
open Go.RowKit

def nil0 : Nat → Rat := amt (fun _ => 0) 0
theorem nil0_eq (k : Nat) : nil0 k = 0 := by unfold nil0 amt; rw [if_neg (Nat.not_lt_zero k)]
theorem nil0_pm : Pm 1 1 nil0 := amt_pm (M := 1) (n := 0) fun k h => absurd h (by omega)
def Bh.ben (b : Bh) (x : Ct) (N t : Nat) : Rat := va b.v (b.rt x.E x.Y) N (amt x.l x.n) x.K t
def Bh.prm (b : Bh) (x : Ct) (p : Rat) (N t : Nat) : Rat := va b.v (b.rt x.E x.Y) N (pay x.T.toNat p) nil0 t
theorem Ct.vlB {x : Ct} {b : Bh} {w : World} (hb : b.rd w) (ho : x.ok b) {N : Nat} (hN : Cnt b.v (b.rt x.E x.Y) N) (h80 : N ≤ 80) : VlOK b.v (b.rt x.E x.Y) (amt x.l x.n) x.K N :=
 vl_ok (Bh.dis hb ho.1) (rt_rates hb.1 ho.2.1 N) (amt_pm (M := 1099511627776) fun k hk => ho.2.2.2.2.1.2 k hk) (amt_pm (M := 1099511627776) fun k hk => ho.2.2.2.2.2.2 k hk) hN (Bh.v_i hb ho.1) h80 (by decide) (by decide) (by decide) (by decide) (by decide) (by decide)
theorem Ct.vlP {x : Ct} {b : Bh} {w : World} (hb : b.rd w) (h : x.rd w) (ho : x.ok b) {N : Nat} (hN : Cnt b.v (b.rt x.E x.Y) N) (h80 : N ≤ 80) : VlOK b.v (b.rt x.E x.Y) (pay x.T.toNat x.p.q) nil0 N :=
 vl_ok (Bh.dis hb ho.1) (rt_rates hb.1 ho.2.1 N) (Ct.pm h ho).2.2 nil0_pm hN (Bh.v_i hb ho.1) h80 x.p.q.den_pos (Ct.prem h ho).2.2.2 (by decide) (by decide) (by decide) (by decide)
theorem Ct.vlU {x : Ct} {b : Bh} {w : World} (hb : b.rd w) (ho : x.ok b) {N : Nat} (hN : Cnt b.v (b.rt x.E x.Y) N) (h80 : N ≤ 80) : VlOK b.v (b.rt x.E x.Y) (pay x.T.toNat 1) nil0 N :=
 vl_ok (Bh.dis hb ho.1) (rt_rates hb.1 ho.2.1 N) (pay_pm (M := 1) (q := 1) (by decide) (by decide) (Dv.int 1)) nil0_pm hN (Bh.v_i hb ho.1) h80 (by decide) (by decide) (by decide) (by decide) (by decide) (by decide)
theorem vbene1_v {b : Bh} {x : Ct} {w : World} {G cap ga : Nat} {h : Nat → Nat → Q8} (hb : b.rd w) (hx : x.rd w) (hok : x.ok b) (N : Nat) (hN : Cnt b.v (b.rt x.E x.Y) N) (h80 : N ≤ 80) (hC : ColB G N cap h w) (hQ : ColQ h N (fun _ _ => True) (colq b.v (b.rt x.E x.Y) N) w) (t : Nat) (ht : t < N) (hat : At ga 0 (.int .i64 (t : Int)) w) :
  Calls Tryz.prog 68 #[.agg (x.Q G N cap), .pointer (some ⟨ga, 0, none⟩)] w (FR (b.ben x N t) w) := by
 have hp0 := Ct.prem hx hok;have hvl := Ct.vlB hb hok hN h80
 have hlb : ∀ k, k < x.n → -9223372036854775808 ≤ x.l k ∧ x.l k ≤ 9223372036854775807 := fun k hk => by have := hok.2.2.2.2.1.2 k hk; omega
 have hkb : ∀ k, k < x.m → -9223372036854775808 ≤ x.k k ∧ x.k k ≤ 9223372036854775807 := fun k hk => by have := hok.2.2.2.2.2.2 k hk; omega
 obtain ⟨hpf, -⟩ := hp0;have hT := hok.2.2.1.1;have lta := hat.1;have Hhb := Lib.hid hb;clear hb;have Hhx := Lib.hid hx;clear hx;have Hhok := Lib.hid hok;clear hok;have HhN := Lib.hid hN;clear hN;have HhC := Lib.hid hC;clear hC;have HhQ := Lib.hid hQ;clear hQ;have Hhvl := Lib.hid hvl;clear hvl;have Hhpf := Lib.hid hpf;clear hpf;have HhT := Lib.hid hT;clear hT;have Hhlb := Lib.hid hlb;clear hlb;have Hhkb := Lib.hid hkb;clear hkb;have hE := ((Env.start w).at_ hat.1 hat.2).blk 80 (x.Q G N cap) (g := w.heap.size) rfl;have hE := hE.blk 29 qz4 (g := w.heap.size + 1) (by simp)
 obtain ⟨W0, hW0⟩ : ∃ W0, W0 = ((w.alloc (.cells (x.Q G N cap) 80)).alloc (.cells qz4 29)) := ⟨_, rfl⟩
 rw [← hW0] at hE;have HW0 := Lib.hid hW0;clear hW0
 go_enter Tryz.func68, Tryz.ntmps68
 go_upto_region 1 with (fail)
 rw [← HW0.out];replace hE := hE.drew;refine wp_region_held_drew (S := fun V => Blk 80 (w.heap.size) (x.Q G N cap) V ∧ At ga (0) (.int .i64 (t : Int)) V) (by kernel_rfl) (⟨hE.here.1.2, hE.h2⟩) (fun hHeld => ?_)
 generalize W0.drew = wd at *
 refine tk 0 ?_ (hy := by
  intro w hSw;have kc0 := (hSw.1).cell 0;have kc1 := (hSw.1).cell 1;have kc2 := (hSw.1).cell 2;have kc3 := (hSw.1).cell 3;have kc4 := (hSw.1).cell 4;have kc5 := (hSw.1).cell 5;have kc6 := (hSw.1).cell 6;have kc7 := (hSw.1).cell 7;have kc8 := (hSw.1).cell 8;have kc9 := (hSw.1).cell 9;clear hSw
  first | (go_simp; done) | (go_simp; with_reducible rfl))
 try simp only [PL]
 refine tk 1 ?_ (hy := by
  intro w hSw;have kc0 := (hSw.2).2;clear hSw
  first | (go_simp; done) | (go_simp; with_reducible rfl))
 try simp only [PL]
 refine tk 2 ?_;refine tk 3 ?_
 refine tk 4 ?_ (hy := by
  intro w hSw;have kc7 := (hSw.1).cell 7;clear hSw
  first | (go_simp; done) | (go_simp; with_reducible rfl))
 try simp only [PL]
 refine tk 6 ?_;refine tk 7 ?_
 refine tk 8 ?_ (hy := by
  intro w hSw;have kc8 := (hSw.1).cell 8;clear hSw
  first | (go_simp; done) | (go_simp; with_reducible rfl))
 try simp only [PL]
 refine r1 5 (fun K hK => ?_);go_simp;refine (vlisted_v _ _ _ _).mono ?_
 rintro e _ ⟨rfl, rfl⟩
 obtain ⟨g1, hg1⟩ : ∃ g1, g1 = wd.heap.size := ⟨_, rfl⟩
 have hl1_1 : w.heap.size < g1 := by rw [hg1]; exact (hE.here.1.2).lt
 have hl1_2 : w.heap.size + 1 < g1 := by rw [hg1]; exact (hE.here.2).lt
 replace hE := hE.blk 34 #[.slice x.A x.n x.c] (g := g1) hg1.symm;generalize wd.alloc (.cells #[.slice x.A x.n x.c] 34) = W1 at hE ⊢;rw [← hg1];clear hg1;replace hE := hE.pay (pay_listed (l := x.l) (N := N) (hE.here.2) (RdI.below Hhx.out.2.1 hE.bel) Hhlb.out (by omega));go_wp2_with fail
 refine hK.out _ _ (⟨hE.h3, hE.h4⟩) (fun hHeld => ?_);clear hK K;try simp only [PL]
 refine r1 9 (fun K hK => ?_);go_simp;refine (vlisted_v _ _ _ _).mono ?_
 rintro e _ ⟨rfl, rfl⟩
 obtain ⟨g2, hg2⟩ : ∃ g2, g2 = W1.heap.size := ⟨_, rfl⟩
 have hl2_1 : w.heap.size < g2 := by rw [hg2]; exact (hE.h3).lt
 have hl2_2 : w.heap.size + 1 < g2 := by rw [hg2]; exact (hE.h2).lt
 have hl2_3 : g1 < g2 := by rw [hg2]; exact (hE.here.1.2).lt
 replace hE := hE.blk 34 #[.slice x.B x.m x.d] (g := g2) hg2.symm;generalize W1.alloc (.cells #[.slice x.B x.m x.d] 34) = W2 at hE ⊢;rw [← hg2];clear hg2;replace hE := hE.pay (pay_listed (l := x.k) (N := N) (hE.here.2) (RdI.below Hhx.out.2.2 hE.bel) Hhkb.out (by omega));go_wp2_with fail
 refine hK.out _ _ (⟨hE.h5, hE.h6⟩) (fun hHeld => ?_);clear hK K;try simp only [PL]
 refine r1 10 (fun K hK => ?_);go_simp;refine hE.fr (vvalue_v (x := x) (h := h) (ColP.below HhC.out hE.bel) (ColQ.stable _ _ _ _ _ _ hE.bel HhQ.out) HhN.out h80 (hE.h2) (hE.here.2) Hhvl.out t ht) ?_;clear hE;intro sq Aq nq cq tq Bq mq dq w3 hE;go_wp2_with fail
 refine hK.out _ _ (⟨hE.h6, hE.h7⟩) (fun hHeld => ?_);clear hK K;try simp only [PL]
 refine r1 11 (fun K hK => ?_)
 have hRl : w.heap.size ≤ w.heap.size + 1 := by omega
 obtain ⟨WW, hWW, hB, hV, hBel⟩ := ret_frac hE hE.h5 hRl hE.here.2 cq dq;obtain ⟨x0, x1, x2, x3⟩ := (hE.h5).c4;obtain ⟨fz0, fz1, fz2, fz3⟩ := hE.h5.f4;have HWW := Lib.hid hWW;clear hWW;go_simp;rw [← HWW.out];refine hK.out _ _ (by rw [HWW.out]; exact ⟨(hE.h6).far4 (R := w.heap.size + 1) (by omega) (.bool sq) (.slice Aq nq cq) (.bool tq) (.slice Bq mq dq), (hE.h7).far4 (R := w.heap.size + 1) (by omega) (.bool sq) (.slice Aq nq cq) (.bool tq) (.slice Bq mq dq)⟩) (fun hHeld => ?_);clear hK K;try simp only [PL]
 refine wpAnyH_done (by kernel_rfl) ?_ _;go_wp2_with fail
 obtain ⟨y0, y1, y2, y3⟩ := hB.c4;refine bodyPost_ret (v := .agg (qf4 sq Aq nq cq tq Bq mq dq)) (by simp [results, Tryz.results68, go_sem, y0, y1, y2, y3]) rfl ?_;exact ⟨sq, Aq, nq, cq, tq, Bq, mq, dq, rfl, hV, hBel⟩
theorem vbene_v {b : Bh} {x : Ct} {w : World} (hb : b.rd w) (hbb : b.bd) (hx : x.rd w) (hxb : x.bd) (hok : x.ok b) (N : Nat) (hN : Cnt b.v (b.rt x.E x.Y) N) (h80 : N ≤ 80) (t : Nat) (ht : t < N) :
  Calls Tryz.prog 20 #[.agg b.C, .agg x.C, .int .i64 (t : Int)] w (FOK (b.ben x N t) w) := by
 have Hhb := Lib.hid hb;clear hb;have Hhbb := Lib.hid hbb;clear hbb;have Hhx := Lib.hid hx;clear hx;have Hhxb := Lib.hid hxb;clear hxb;have Hhok := Lib.hid hok;clear hok;have HhN := Lib.hid hN;clear hN;have hE := (((Env.start w).blk 31 b.C (g := w.heap.size) rfl).blk 36 x.C (g := w.heap.size + 1) (by simp)).blk 3 #[.int .i64 (t : Int)] (g := w.heap.size + 1 + 1) (by simp);have hE := hE.blk 29 qz4 (g := w.heap.size + 1 + 1 + 1) (by simp)
 obtain ⟨W0, hW0⟩ : ∃ W0, W0 = ((((w.alloc (.cells b.C 31)).alloc (.cells x.C 36)).alloc (.cells #[.int .i64 (t : Int)] 3)).alloc (.cells qz4 29)) := ⟨_, rfl⟩
 rw [← hW0] at hE;have HW0 := Lib.hid hW0;clear hW0
 go_enter Tryz.func20, Tryz.ntmps20
 go_upto_region 1 with (fail)
 rw [← HW0.out];obtain ⟨k1, k2, k3, k4, k5, k6, k7⟩ := (hE.h3).c7;have k8 := (hE.here.1.2).c1;have k9 := (hE.h2).cell 0;have k10 := (hE.h2).cell 1;have k11 := (hE.h2).cell 2;have k12 := (hE.h2).cell 3;have k13 := (hE.h2).cell 4;have k14 := (hE.h2).cell 5;have k15 := (hE.h2).cell 6;have k16 := (hE.h2).cell 7;have k17 := (hE.h2).cell 8;go_wp2_with fail
 have hca := At.of_blk (hE.here.1.2) 0 rfl;refine hE.fr (vat_v (q := b.ben x N t) (of := .func (.func 68) #[] #[.pointer (some ⟨w.heap.size + 1 + 1, 0, none⟩)]) (Bh.rd_below Hhb.out hE.bel) Hhbb.out (Ct.rd_below Hhx.out hE.bel) Hhxb.out Hhok.out N HhN.out h80 t ht ⟨68, #[.pointer (some ⟨w.heap.size + 1 + 1, 0, none⟩)], rfl, enters_of Tryz.func68 (by kernel_rfl) rfl, fun W G cap h hW hC hQ => vbene1_v (Bh.rd_below Hhb.out (hE.bel.trans (hW.mono hE.bel.size))) (Ct.rd_below Hhx.out (hE.bel.trans (hW.mono hE.bel.size))) Hhok.out N HhN.out h80 hC hQ t ht (At.stable _ _ _ _ _ hW hca)⟩) ?_;clear hE k1 k2 k3 k4 k5 k6 k7 k8 k9 k10 k11 k12 k13 k14 k15 k16 k17 hca;intro sq Aq nq cq tq Bq mq dq w9 hE
 have hRl : w.heap.size ≤ w.heap.size + 1 + 1 + 1 := by omega
 obtain ⟨WW, hWW, hB, hV, hBel⟩ := ret_frac hE hE.here.1.2 hRl hE.here.2 cq dq;obtain ⟨x0, x1, x2, x3⟩ := (hE.here.1.2).c4;obtain ⟨fz0, fz1, fz2, fz3⟩ := hE.here.1.2.f4;have HWW := Lib.hid hWW;clear hWW;go_wp2_with fail
 clear x0 x1 x2 x3;rw [← HWW.out];obtain ⟨y0, y1, y2, y3⟩ := hB.c4;refine bodyPost_ret (v := .tuple #[.agg (qf4 sq Aq nq cq tq Bq mq dq), .int .i64 0]) (by simp [results, Tryz.results20, go_sem, y0, y1, y2, y3]) rfl ?_;exact ⟨sq, Aq, nq, cq, tq, Bq, mq, dq, rfl, hV, hBel⟩
theorem vbene_dead {b : Bh} {x : Ct} {w : World} (hb : b.rd w) (hbb : b.bd) (hx : x.rd w) (hxb : x.bd) (hok : x.ok b) (N : Nat) (hN : Cnt b.v (b.rt x.E x.Y) N) (h80 : N ≤ 80) (t : Nat) (ht : N ≤ t) (_ : t ≤ 9223372036854775807) :
  Calls Tryz.prog 20 #[.agg b.C, .agg x.C, .int .i64 (t : Int)] w (FErr 320 w) := by
 have Hhb := Lib.hid hb;clear hb;have Hhbb := Lib.hid hbb;clear hbb;have Hhx := Lib.hid hx;clear hx;have Hhxb := Lib.hid hxb;clear hxb;have Hhok := Lib.hid hok;clear hok;have HhN := Lib.hid hN;clear hN;have hE := (((Env.start w).blk 31 b.C (g := w.heap.size) rfl).blk 36 x.C (g := w.heap.size + 1) (by simp)).blk 3 #[.int .i64 (t : Int)] (g := w.heap.size + 1 + 1) (by simp);have hE := hE.blk 29 qz4 (g := w.heap.size + 1 + 1 + 1) (by simp)
 obtain ⟨W0, hW0⟩ : ∃ W0, W0 = ((((w.alloc (.cells b.C 31)).alloc (.cells x.C 36)).alloc (.cells #[.int .i64 (t : Int)] 3)).alloc (.cells qz4 29)) := ⟨_, rfl⟩
 rw [← hW0] at hE;have HW0 := Lib.hid hW0;clear hW0
 go_enter Tryz.func20, Tryz.ntmps20
 go_upto_region 1 with (fail)
 rw [← HW0.out];obtain ⟨k1, k2, k3, k4, k5, k6, k7⟩ := (hE.h3).c7;have k8 := (hE.here.1.2).c1;have k9 := (hE.h2).cell 0;have k10 := (hE.h2).cell 1;have k11 := (hE.h2).cell 2;have k12 := (hE.h2).cell 3;have k13 := (hE.h2).cell 4;have k14 := (hE.h2).cell 5;have k15 := (hE.h2).cell 6;have k16 := (hE.h2).cell 7;have k17 := (hE.h2).cell 8;go_wp2_with fail
 refine hE.br (vat_dead (Bh.rd_below Hhb.out hE.bel) Hhbb.out (Ct.rd_below Hhx.out hE.bel) Hhxb.out Hhok.out N HhN.out h80 t ht) ?_;clear hE k1 k2 k3 k4 k5 k6 k7 k8 k9 k10 k11 k12 k13 k14 k15 k16 k17;intro w18 hE
 have hRl : w.heap.size ≤ w.heap.size + 1 + 1 + 1 := by omega
 have hB := (hE.here.2).s4 (.bool false) (.slice none 0 0) (.bool false) (.slice none 0 0);have hBel := bel4 hE.bel hRl (.bool false) (.slice none 0 0) (.bool false) (.slice none 0 0)
 obtain ⟨WW, hWW⟩ : ∃ x, x = ((((w18.setCell ⟨w.heap.size + 1 + 1 + 1, 0, none⟩ (.bool false)).setCell ⟨w.heap.size + 1 + 1 + 1, 1, none⟩ (.slice none 0 0)).setCell ⟨w.heap.size + 1 + 1 + 1, 2, none⟩ (.bool false)).setCell ⟨w.heap.size + 1 + 1 + 1, 3, none⟩ (.slice none 0 0)) := ⟨_, rfl⟩
 rw [← hWW] at hB hBel;obtain ⟨x0, x1, x2, x3⟩ := (hE.here.2).c4;obtain ⟨fz0, fz1, fz2, fz3⟩ := (hE.here.2).f4;have HWW := Lib.hid hWW;clear hWW;go_wp2_with fail
 clear x0 x1 x2 x3;rw [← HWW.out];obtain ⟨y0, y1, y2, y3⟩ := hB.c4;refine bodyPost_ret (v := .tuple #[.agg qz4, .int .i64 320]) (by simp [results, Tryz.results20, go_sem, y0, y1, y2, y3]) rfl ?_;exact ⟨rfl, hBel⟩
theorem vpremt1_v {b : Bh} {x : Ct} {w : World} {G cap ga : Nat} {h : Nat → Nat → Q8} (hb : b.rd w) (hx : x.rd w) (hok : x.ok b) (N : Nat) (hN : Cnt b.v (b.rt x.E x.Y) N) (h80 : N ≤ 80) (hC : ColB G N cap h w) (hQ : ColQ h N (fun _ _ => True) (colq b.v (b.rt x.E x.Y) N) w) (t : Nat) (ht : t < N) (hat : At ga 0 (.int .i64 (t : Int)) w) :
  Calls Tryz.prog 69 #[.agg (x.Q G N cap), .pointer (some ⟨ga, 0, none⟩)] w (FR (b.prm x x.p.q N t) w) := by
 have hp0 := Ct.prem hx hok;have hvl := Ct.vlP hb hx hok hN h80;obtain ⟨hpf, -⟩ := hp0;have hT := hok.2.2.1.1;have lta := hat.1;have Hhb := Lib.hid hb;clear hb;have Hhx := Lib.hid hx;clear hx;have Hhok := Lib.hid hok;clear hok;have HhN := Lib.hid hN;clear hN;have HhC := Lib.hid hC;clear hC;have HhQ := Lib.hid hQ;clear hQ;have Hhvl := Lib.hid hvl;clear hvl;have Hhpf := Lib.hid hpf;clear hpf;have HhT := Lib.hid hT;clear hT;have hE := ((Env.start w).at_ hat.1 hat.2).blk 80 (x.Q G N cap) (g := w.heap.size) rfl;have hE := hE.blk 29 qz4 (g := w.heap.size + 1) (by simp)
 obtain ⟨W0, hW0⟩ : ∃ W0, W0 = ((w.alloc (.cells (x.Q G N cap) 80)).alloc (.cells qz4 29)) := ⟨_, rfl⟩
 rw [← hW0] at hE;have HW0 := Lib.hid hW0;clear hW0
 go_enter Tryz.func69, Tryz.ntmps69
 go_upto_region 1 with (fail)
 rw [← HW0.out];replace hE := hE.drew;refine wp_region_held_drew (S := fun V => Blk 80 (w.heap.size) (x.Q G N cap) V ∧ At ga (0) (.int .i64 (t : Int)) V) (by kernel_rfl) (⟨hE.here.1.2, hE.h2⟩) (fun hHeld => ?_)
 generalize W0.drew = wd at *
 refine tk 0 ?_ (hy := by
  intro w hSw;have kc0 := (hSw.1).cell 0;have kc1 := (hSw.1).cell 1;have kc2 := (hSw.1).cell 2;have kc3 := (hSw.1).cell 3;have kc4 := (hSw.1).cell 4;have kc5 := (hSw.1).cell 5;have kc6 := (hSw.1).cell 6;have kc7 := (hSw.1).cell 7;have kc8 := (hSw.1).cell 8;have kc9 := (hSw.1).cell 9;clear hSw
  first | (go_simp; done) | (go_simp; with_reducible rfl))
 try simp only [PL]
 refine tk 1 ?_ (hy := by
  intro w hSw;have kc0 := (hSw.2).2;clear hSw
  first | (go_simp; done) | (go_simp; with_reducible rfl))
 try simp only [PL]
 refine tk 2 ?_ (hy := by
  intro w hSw;have kc0 := (hSw.1).cell 0;have kc1 := (hSw.1).cell 1;have kc2 := (hSw.1).cell 2;have kc3 := (hSw.1).cell 3;have kc4 := (hSw.1).cell 4;have kc5 := (hSw.1).cell 5;have kc6 := (hSw.1).cell 6;have kc7 := (hSw.1).cell 7;have kc8 := (hSw.1).cell 8;have kc9 := (hSw.1).cell 9;clear hSw
  first | (go_simp; done) | (go_simp; with_reducible rfl))
 try simp only [PL]
 refine tk 3 ?_;refine tk 4 ?_
 refine tk 5 ?_ (hy := by
  intro w hSw;have kc3 := (hSw.1).cell 3;have kc4 := (hSw.1).cell 4;have kc5 := (hSw.1).cell 5;have kc6 := (hSw.1).cell 6;clear hSw
  first | (go_simp; done) | (go_simp; with_reducible rfl))
 try simp only [PL]
 refine r1 6 (fun K hK => ?_);go_simp;refine (vprem_v x G N cap _ _ _ _ _ _ _ _ _).mono ?_
 rintro e _ ⟨rfl, rfl⟩
 have hq0 := Hhpf.out.below hE.bel
 obtain ⟨g1, hg1⟩ : ∃ g1, g1 = wd.heap.size := ⟨_, rfl⟩
 have hl1_1 : w.heap.size < g1 := by rw [hg1]; exact (hE.here.1.2).lt
 have hl1_2 : w.heap.size + 1 < g1 := by rw [hg1]; exact (hE.here.2).lt
 replace hE := hE.blk 80 (x.Q G N cap) (g := g1) hg1.symm
 have hsz : (wd.alloc (.cells (x.Q G N cap) 80)).heap.size = g1 + 1 := by rw [hg1, World.size_alloc]
 generalize wd.alloc (.cells (x.Q G N cap) 80) = W1 at hE hsz ⊢
 obtain ⟨g2, hg2⟩ : ∃ g2, g2 = g1 + 1 := ⟨_, rfl⟩
 have hl2_1 : w.heap.size < g2 := by rw [hg2, ← hsz]; exact (hE.h2).lt
 have hl2_2 : w.heap.size + 1 < g2 := by rw [hg2, ← hsz]; exact (hE.here.1.2).lt
 have hl2_3 : g1 < g2 := by rw [hg2, ← hsz]; exact (hE.here.2).lt
 replace hE := hE.blk 29 (qf4 x.p.s x.p.A x.p.n x.p.c x.p.t x.p.B x.p.m x.p.d) (g := g2) (hsz.trans hg2.symm);generalize W1.alloc (.cells (qf4 x.p.s x.p.A x.p.n x.p.c x.p.t x.p.B x.p.m x.p.d) 29) = W2 at hE ⊢;rw [← hg1, ← hg2];clear hsz hg2 hg1;clear hq0;replace hE := hE.pay (pay_prem (M := N) (hE.here.1.2) HhT.out (Hhpf.out.below hE.bel) (hE.here.2));go_wp2_with fail
 refine hK.out _ _ (⟨hE.h4, hE.h5⟩) (fun hHeld => ?_);clear hK K;try simp only [PL]
 refine r1 7 (fun K hK => ?_);go_simp;refine (vlisted_v _ _ _ _).mono ?_
 rintro e _ ⟨rfl, rfl⟩
 obtain ⟨g3, hg3⟩ : ∃ g3, g3 = W2.heap.size := ⟨_, rfl⟩
 have hl3_1 : w.heap.size < g3 := by rw [hg3]; exact (hE.h4).lt
 have hl3_2 : w.heap.size + 1 < g3 := by rw [hg3]; exact (hE.h3).lt
 have hl3_3 : g1 < g3 := by rw [hg3]; exact (hE.h2).lt
 have hl3_4 : g2 < g3 := by rw [hg3]; exact (hE.here.1.2).lt
 replace hE := hE.blk 34 #[.slice none 0 0] (g := g3) hg3.symm;generalize W2.alloc (.cells #[.slice none 0 0] 34) = W3 at hE ⊢;rw [← hg3];clear hg3;replace hE := hE.pay (pay_listed (l := (fun _ => (0 : Int))) (N := N) (hE.here.2) (RdI.nil _) (fun _ h => absurd h (by omega)) (by omega));go_wp2_with fail
 refine hK.out _ _ (⟨hE.h6, hE.h7⟩) (fun hHeld => ?_);clear hK K;try simp only [PL]
 refine r1 8 (fun K hK => ?_);go_simp;refine hE.fr (vvalue_v (x := x) (h := h) (ColP.below HhC.out hE.bel) (ColQ.stable _ _ _ _ _ _ hE.bel HhQ.out) HhN.out h80 (hE.h2) (hE.here.2) Hhvl.out t ht) ?_;clear hE;intro sq Aq nq cq tq Bq mq dq w4 hE;go_wp2_with fail
 refine hK.out _ _ (⟨hE.h7, hE.h8⟩) (fun hHeld => ?_);clear hK K;try simp only [PL]
 refine r1 9 (fun K hK => ?_)
 have hRl : w.heap.size ≤ w.heap.size + 1 := by omega
 obtain ⟨WW, hWW, hB, hV, hBel⟩ := ret_frac hE hE.h6 hRl hE.here.2 cq dq;obtain ⟨x0, x1, x2, x3⟩ := (hE.h6).c4;obtain ⟨fz0, fz1, fz2, fz3⟩ := hE.h6.f4;have HWW := Lib.hid hWW;clear hWW;go_simp;rw [← HWW.out];refine hK.out _ _ (by rw [HWW.out]; exact ⟨(hE.h7).far4 (R := w.heap.size + 1) (by omega) (.bool sq) (.slice Aq nq cq) (.bool tq) (.slice Bq mq dq), (hE.h8).far4 (R := w.heap.size + 1) (by omega) (.bool sq) (.slice Aq nq cq) (.bool tq) (.slice Bq mq dq)⟩) (fun hHeld => ?_);clear hK K;try simp only [PL]
 refine wpAnyH_done (by kernel_rfl) ?_ _;go_wp2_with fail
 obtain ⟨y0, y1, y2, y3⟩ := hB.c4;refine bodyPost_ret (v := .agg (qf4 sq Aq nq cq tq Bq mq dq)) (by simp [results, Tryz.results69, go_sem, y0, y1, y2, y3]) rfl ?_;exact ⟨sq, Aq, nq, cq, tq, Bq, mq, dq, rfl, hV, hBel⟩
theorem vpremt_v {b : Bh} {x : Ct} {w : World} (hb : b.rd w) (hbb : b.bd) (hx : x.rd w) (hxb : x.bd) (hok : x.ok b) (N : Nat) (hN : Cnt b.v (b.rt x.E x.Y) N) (h80 : N ≤ 80) (t : Nat) (ht : t < N) :
  Calls Tryz.prog 21 #[.agg b.C, .agg x.C, .int .i64 (t : Int)] w (FOK (b.prm x x.p.q N t) w) := by
 have Hhb := Lib.hid hb;clear hb;have Hhbb := Lib.hid hbb;clear hbb;have Hhx := Lib.hid hx;clear hx;have Hhxb := Lib.hid hxb;clear hxb;have Hhok := Lib.hid hok;clear hok;have HhN := Lib.hid hN;clear hN;have hE := (((Env.start w).blk 31 b.C (g := w.heap.size) rfl).blk 36 x.C (g := w.heap.size + 1) (by simp)).blk 3 #[.int .i64 (t : Int)] (g := w.heap.size + 1 + 1) (by simp);have hE := hE.blk 29 qz4 (g := w.heap.size + 1 + 1 + 1) (by simp)
 obtain ⟨W0, hW0⟩ : ∃ W0, W0 = ((((w.alloc (.cells b.C 31)).alloc (.cells x.C 36)).alloc (.cells #[.int .i64 (t : Int)] 3)).alloc (.cells qz4 29)) := ⟨_, rfl⟩
 rw [← hW0] at hE;have HW0 := Lib.hid hW0;clear hW0
 go_enter Tryz.func21, Tryz.ntmps21
 go_upto_region 1 with (fail)
 rw [← HW0.out];obtain ⟨k1, k2, k3, k4, k5, k6, k7⟩ := (hE.h3).c7;have k8 := (hE.here.1.2).c1;have k9 := (hE.h2).cell 0;have k10 := (hE.h2).cell 1;have k11 := (hE.h2).cell 2;have k12 := (hE.h2).cell 3;have k13 := (hE.h2).cell 4;have k14 := (hE.h2).cell 5;have k15 := (hE.h2).cell 6;have k16 := (hE.h2).cell 7;have k17 := (hE.h2).cell 8;go_wp2_with fail
 have hca := At.of_blk (hE.here.1.2) 0 rfl;refine hE.fr (vat_v (q := b.prm x x.p.q N t) (of := .func (.func 69) #[] #[.pointer (some ⟨w.heap.size + 1 + 1, 0, none⟩)]) (Bh.rd_below Hhb.out hE.bel) Hhbb.out (Ct.rd_below Hhx.out hE.bel) Hhxb.out Hhok.out N HhN.out h80 t ht ⟨69, #[.pointer (some ⟨w.heap.size + 1 + 1, 0, none⟩)], rfl, enters_of Tryz.func69 (by kernel_rfl) rfl, fun W G cap h hW hC hQ => vpremt1_v (Bh.rd_below Hhb.out (hE.bel.trans (hW.mono hE.bel.size))) (Ct.rd_below Hhx.out (hE.bel.trans (hW.mono hE.bel.size))) Hhok.out N HhN.out h80 hC hQ t ht (At.stable _ _ _ _ _ hW hca)⟩) ?_;clear hE k1 k2 k3 k4 k5 k6 k7 k8 k9 k10 k11 k12 k13 k14 k15 k16 k17 hca;intro sq Aq nq cq tq Bq mq dq w9 hE
 have hRl : w.heap.size ≤ w.heap.size + 1 + 1 + 1 := by omega
 obtain ⟨WW, hWW, hB, hV, hBel⟩ := ret_frac hE hE.here.1.2 hRl hE.here.2 cq dq;obtain ⟨x0, x1, x2, x3⟩ := (hE.here.1.2).c4;obtain ⟨fz0, fz1, fz2, fz3⟩ := hE.here.1.2.f4;have HWW := Lib.hid hWW;clear hWW;go_wp2_with fail
 clear x0 x1 x2 x3;rw [← HWW.out];obtain ⟨y0, y1, y2, y3⟩ := hB.c4;refine bodyPost_ret (v := .tuple #[.agg (qf4 sq Aq nq cq tq Bq mq dq), .int .i64 0]) (by simp [results, Tryz.results21, go_sem, y0, y1, y2, y3]) rfl ?_;exact ⟨sq, Aq, nq, cq, tq, Bq, mq, dq, rfl, hV, hBel⟩
end Go.Proofs.YtclbiihcbfnjmaaGreat
