/-
  The walk of ReserveYears.
-/
import Derived.Test.YtclbiihcbfnjmaaGreatK2
import Derived.Test.YtclbiihcbfnjmaaGreatK8
import Derived.Test.YtclbiihcbfnjmaaGreatK25
import Derived.Test.YtclbiihcbfnjmaaGreatRvY
set_option linter.unusedSimpArgs false
set_option maxRecDepth 100000
set_option maxHeartbeats 8000000
namespace Go.Proofs.YtclbiihcbfnjmaaGreat
open Go.RowKit

theorem bh_right_t {b : Bh} {x : Ct} {N t : Nat} (ho : x.ok b) (hN : Cnt b.v (b.rt x.E x.Y) N) (hn : N ≤ 16) (h15 : b.n ≤ 15) (ht : t < N) : RightP b.F b.S b.n b.r x.E (x.Y + (t : Int)) := by
 obtain ⟨h1, h2, h3, h4, h5⟩ := ho.2.1
 refine ⟨h1, h2, h3, by omega, ?_⟩
 by_cases hy : x.E + x.Y ≤ b.F + (b.n : Int) - 1
 · omega
 ·
  have hf : b.rt x.E x.Y 0 = 1 := by
   show rt b.F b.S b.n b.r x.E x.Y ((0 : Nat) : Int) = 1
   unfold rt
   rw [if_pos (by omega)]
  have hd : dd b.v (b.rt x.E x.Y) 1 = 0 := by
   rw [dd_more, hf]
   grind
  have : ¬ 1 < N := fun h => hN.2 1 h hd
  omega
theorem Ct.L_in {x : Ct} {k : Nat} (h : (k : Int) < x.T) : x.L k = amt x.l x.n k - x.p.q := by
 unfold Ct.L pay
 rw [if_pos (by omega)]
theorem Ct.L_out {x : Ct} {k : Nat} (h : ¬ (k : Int) < x.T) : x.L k = amt x.l x.n k := by
 unfold Ct.L pay
 rw [if_neg (by omega)]
 grind
theorem pyears_walk (b : Bh) (x : Ct) (w : World) (hb : b.rd w) (hx : x.rd w) (hT : I64 x.T)  :
  Calls Tryz.prog 4 #[.agg #[.int .i64 b.F, .int .i64 b.S, .slice b.A b.n b.c, .bool b.i.s, .slice b.i.A b.i.n b.i.c, .bool b.i.t, .slice b.i.B b.i.m b.i.d], .agg #[.int .i64 x.E, .int .i64 x.Y, .int .i64 x.T, .bool x.p.s, .slice x.p.A x.p.n x.p.c, .bool x.p.t, .slice x.p.B x.p.m x.p.d, .slice x.A x.n x.c, .slice x.B x.m x.d]] w (fun e w' => e = .returned (.bool true) ∧ Below w.heap.size w w') := by
 by_cases hU : UsP b x
 ·
  obtain ⟨hbb, hxb, hok, N, h16, hN⟩ := hU.get
  have hlb : ∀ k, k < x.n → -9223372036854775808 ≤ x.l k ∧ x.l k ≤ 9223372036854775807 := fun k hk => by have := hok.2.2.2.2.1.2 k hk; omega
  have hkb : ∀ k, k < x.m → -9223372036854775808 ≤ x.k k ∧ x.k k ≤ 9223372036854775807 := fun k hk => by have := hok.2.2.2.2.2.2 k hk; omega
  have hal := fun k => amt_len hok.2.2.2.2.1 k
  have hkl := fun k => amt_len hok.2.2.2.2.2 k
  have hyl := fun (t : Nat) (ht : t < N) => year_len (f := b.rt x.E x.Y) (a := amt x.l x.n) (Bh.dis hb hok.1) (rt_rates hb.1 hok.2.1 N) (Ct.pm hx hok).1 (Ct.pm hx hok).2.1 (amt_pm (M := 1099511627776) fun k hk => hok.2.2.2.2.1.2 k hk) hN (Bh.v_i hb hok.1) h16 x.p.q.den_pos (Ct.prem hx hok).2.2.2 (by decide) (by decide) ht
  have hvy := fun (t : Nat) (ht : t < N) => va_year (L := x.L) (K := x.K) hN (Bh.v_i hb hok.1) ht
  have hvl := Ct.vl hb hx hok hN (show N ≤ 80 by omega)
  have h15 : b.n ≤ 15 := by have := hU.1.1.1.1; omega
  have hrt := fun (t : Nat) (ht : t < N) => bh_right_t hok hN h16 h15 ht
  obtain ⟨hpf, hp0, -, -⟩ := Ct.prem hx hok
  have hpl : fl x.p.q ≤ 256 := (okF_q hx.1 hok.2.2.2.1.1).2.2.2
  obtain ⟨hif, hri⟩ := Bh.fv hb hok.1
  have hil : fl b.i.q ≤ 256 := Nat.le_trans hri.fl (by decide)
  have hi1 : fl (1 + b.i.q) ≤ 256 := Nat.le_trans hri.one (by decide)
  have hT0 := hok.2.2.1
  have hN0 := hN.pos
  have hYr := hok.2.1.2.2.2
  have hv0 := fun (t : Nat) (ht : N ≤ t) => (va_last (v := b.v) (f := b.rt x.E x.Y) (L := x.L) (K := x.K) ht).symm
  have Hhb := Lib.hid hb
  clear hb
  have Hhx := Lib.hid hx
  clear hx
  have HhU := Lib.hid hU
  clear hU
  have Hhlb := Lib.hid hlb
  clear hlb
  have Hhkb := Lib.hid hkb
  clear hkb
  have Hhal := Lib.hid hal
  clear hal
  have Hhkl := Lib.hid hkl
  clear hkl
  have Hhyl := Lib.hid hyl
  clear hyl
  have Hhvy := Lib.hid hvy
  clear hvy
  have Hhvl := Lib.hid hvl
  clear hvl
  have Hhrt := Lib.hid hrt
  clear hrt
  have Hhpf := Lib.hid hpf
  clear hpf
  have Hhp0 := Lib.hid hp0
  clear hp0
  have Hhpl := Lib.hid hpl
  clear hpl
  have Hhif := Lib.hid hif
  clear hif
  have Hhri := Lib.hid hri
  clear hri
  have Hhil := Lib.hid hil
  clear hil
  have Hhi1 := Lib.hid hi1
  clear hi1
  have Hhv0 := Lib.hid hv0
  clear hv0
  have hE := ((Env.start w).blk 31 #[.int .i64 b.F, .int .i64 b.S, .slice b.A b.n b.c, .bool b.i.s, .slice b.i.A b.i.n b.i.c, .bool b.i.t, .slice b.i.B b.i.m b.i.d] (g := w.heap.size) rfl).blk 36 #[.int .i64 x.E, .int .i64 x.Y, .int .i64 x.T, .bool x.p.s, .slice x.p.A x.p.n x.p.c, .bool x.p.t, .slice x.p.B x.p.m x.p.d, .slice x.A x.n x.c, .slice x.B x.m x.d] (g := w.heap.size + 1) (by simp)
  obtain ⟨W0, hW0⟩ : ∃ W0, W0 = ((w.alloc (.cells #[.int .i64 b.F, .int .i64 b.S, .slice b.A b.n b.c, .bool b.i.s, .slice b.i.A b.i.n b.i.c, .bool b.i.t, .slice b.i.B b.i.m b.i.d] 31)).alloc (.cells #[.int .i64 x.E, .int .i64 x.Y, .int .i64 x.T, .bool x.p.s, .slice x.p.A x.p.n x.p.c, .bool x.p.t, .slice x.p.B x.p.m x.p.d, .slice x.A x.n x.c, .slice x.B x.m x.d] 36)) := ⟨_, rfl⟩
  rw [← hW0] at hE
  have HW0 := Lib.hid hW0
  clear hW0
  go_enter Tryz.func4, Tryz.ntmps4
  go_upto_region 1 with (fail)
  rw [← HW0.out]
  go_wp2_with fail
  refine hE.br (awakeP_t _) ?_
  clear hE
  intro w1 hE
  obtain ⟨k2, k3, k4, k5, k6, k7, k8⟩ := (hE.here.1.2).c7
  have k9 := (hE.here.2).cell 0
  have k10 := (hE.here.2).cell 1
  have k11 := (hE.here.2).cell 2
  have k12 := (hE.here.2).cell 3
  have k13 := (hE.here.2).cell 4
  have k14 := (hE.here.2).cell 5
  have k15 := (hE.here.2).cell 6
  have k16 := (hE.here.2).cell 7
  have k17 := (hE.here.2).cell 8
  go_wp2_with fail
  refine hE.br (pusable_t (Bh.rd_below Hhb.out hE.bel) (Ct.rd_below Hhx.out hE.bel) hT HhU.out) ?_
  clear hE k2 k3 k4 k5 k6 k7 k8 k9 k10 k11 k12 k13 k14 k15 k16 k17
  intro w18 hE
  obtain ⟨k19, k20, k21, k22, k23, k24, k25⟩ := (hE.here.1.2).c7
  have k26 := (hE.here.2).cell 0
  have k27 := (hE.here.2).cell 1
  have k28 := (hE.here.2).cell 2
  have k29 := (hE.here.2).cell 3
  have k30 := (hE.here.2).cell 4
  have k31 := (hE.here.2).cell 5
  have k32 := (hE.here.2).cell 6
  have k33 := (hE.here.2).cell 7
  have k34 := (hE.here.2).cell 8
  go_wp2_with fail
  refine (vreserves_v (Bh.rd_below Hhb.out hE.bel) hbb (Ct.rd_below Hhx.out hE.bel) hxb hok N hN (by omega) ).mono ?_
  clear k19 k20 k21 k22 k23 k24 k25 k26 k27 k28 k29 k30 k31 k32 k33 k34
  rintro e wr ⟨GV, hh, rfl, hF1, hF2, hb1⟩
  replace hE := ((hE.step hb1).frb hF1).frq hF2
  clear hb1 hF1 hF2
  have t1 : decide ((N : Int) = 0) = false := decide_eq_false (by omega)
  have t2 : ¬ (N : Int) = 0 := by omega
  go_upto_region 8 with (fail)
  clear t1 t2
  try rw [show ((N : Int) == 0) = false from by simp; omega]
  go_wp2_with fail
  have hc := ffromInt_v 1 wr (by decide) (by decide)
  change Calls _ _ _ _ (FR 1 _) at hc
  refine hE.fr (hc) ?_
  clear hE
  intro so Ao no co tio Bo mo dio w35 hE
  clear hc
  go_upto_region 9 with (fail)
  obtain ⟨g36, hg36⟩ : ∃ g36, g36 = w35.heap.size := ⟨_, rfl⟩
  have hl36_0 : w.heap.size < g36 := by rw [hg36]; exact (hE.h4).lt
  have hl36_1 : w.heap.size + 1 < g36 := by rw [hg36]; exact (hE.h3).lt
  have hl36_2 : GV < g36 := by rw [hg36]; exact FrB.lt (hE.h2)
  replace hE := hE.blk 29 #[.bool so, .slice Ao no co, .bool tio, .slice Bo mo dio] (g := g36) hg36.symm
  generalize w35.alloc (.cells #[.bool so, .slice Ao no co, .bool tio, .slice Bo mo dio] 29) = W36 at hE ⊢
  rw [← hg36]
  clear hg36
  go_wp2_with fail
  go_loopw [8] (fun p wr => ∃ k : Nat, k ≤ N ∧ p = .int .i64 (k : Int) ∧ Env w (fun V => ((((((True ∧ Blk 31 (w.heap.size) #[.int .i64 b.F, .int .i64 b.S, .slice b.A b.n b.c, .bool b.i.s, .slice b.i.A b.i.n b.i.c, .bool b.i.t, .slice b.i.B b.i.m b.i.d] V) ∧ Blk 36 (w.heap.size + 1) #[.int .i64 x.E, .int .i64 x.Y, .int .i64 x.T, .bool x.p.s, .slice x.p.A x.p.n x.p.c, .bool x.p.t, .slice x.p.B x.p.m x.p.d, .slice x.A x.n x.c, .slice x.B x.m x.d] V) ∧ FrB GV N 0 hh V) ∧ FrQ hh N 0 (b.val x N) V) ∧ FV V 1 so Ao no tio Bo mo) ∧ Blk 29 (g36) #[.bool so, .slice Ao no co, .bool tio, .slice Bo mo dio] V)) wr) (fun p _ => N - (intOf p).toNat)
  case atStart => exact ⟨0, Nat.zero_le _, rfl, hE⟩
  case round =>
   clear hE
   obtain ⟨k, hk, rfl, hE⟩ := hrel
   by_cases hlt : k < N
   ·
    have t1 : decide ((k : Int) < (N : Int)) = true := decide_eq_true (by omega)
    have t2 : (k : Int) < (N : Int) := by omega
    have o1 : IntKind.i64.wrap (x.Y + (k : Int)) = x.Y + (k : Int) := by rw [IntKind.wrap_i64]; omega
    have o2 : IntKind.i64.wrap ((k : Int) + 1) = ((k + 1 : Nat) : Int) := by rw [IntKind.wrap_i64]; omega
    have k37 := (hE.h5).cell 0
    have k38 := (hE.h5).cell 1
    have k39 := (hE.h5).cell 2
    have k40 := (hE.h4).cell 0
    have k41 := (hE.h4).cell 1
    go_wp2_with fail
    have hc := lRate_v (c := b.c) (Hhb.out.1.below hE.bel) hbb.1 (Hhrt.out k hlt)
    rw [fr_at (k := k) rfl] at hc
    change Calls _ _ _ _ (FOK (b.rt x.E x.Y k) _) at hc
    refine hE.fr (hc) ?_
    clear hE k37 k38 k39 k40 k41
    intro sq Aq nq cq tq Bq mq dq w42 hE
    clear hc o1
    go_upto_region 13 with (fail)
    obtain ⟨g43, hg43⟩ : ∃ g43, g43 = w42.heap.size := ⟨_, rfl⟩
    have hl43_0 : w.heap.size < g43 := by rw [hg43]; exact (hE.h6).lt
    have hl43_1 : w.heap.size + 1 < g43 := by rw [hg43]; exact (hE.h5).lt
    have hl43_2 : GV < g43 := by rw [hg43]; exact FrB.lt (hE.h4)
    have hl43_5 : g36 < g43 := by rw [hg43]; exact (hE.here.1.2).lt
    replace hE := hE.blk 29 #[.bool sq, .slice Aq nq cq, .bool tq, .slice Bq mq dq] (g := g43) hg43.symm
    generalize w42.alloc (.cells #[.bool sq, .slice Aq nq cq, .bool tq, .slice Bq mq dq] 29) = W43 at hE ⊢
    rw [← hg43]
    clear hg43
    go_wp2_with fail
    refine hE.fr (ffromInt_v 0 _ (by decide) (by decide)) ?_
    clear hE
    intro sx Ax nx cx tx Bx mx dx w44 hE
    go_upto_region 14 with (fail)
    obtain ⟨g45, hg45⟩ : ∃ g45, g45 = w44.heap.size := ⟨_, rfl⟩
    have hl45_0 : w.heap.size < g45 := by rw [hg45]; exact (hE.h8).lt
    have hl45_1 : w.heap.size + 1 < g45 := by rw [hg45]; exact (hE.h7).lt
    have hl45_2 : GV < g45 := by rw [hg45]; exact FrB.lt (hE.h6)
    have hl45_5 : g36 < g45 := by rw [hg45]; exact (hE.h3).lt
    have hl45_7 : g43 < g45 := by rw [hg45]; exact (hE.here.1.2).lt
    replace hE := hE.blk 29 #[.bool sx, .slice Ax nx cx, .bool tx, .slice Bx mx dx] (g := g45) hg45.symm
    generalize w44.alloc (.cells #[.bool sx, .slice Ax nx cx, .bool tx, .slice Bx mx dx] 29) = W45 at hE ⊢
    rw [← hg45]
    clear hg45
    go_upto_if 59 with (fail)
    go_cut [11] from 55 to 65 (fun p wx => ∃ se Ae ne ce te Be me de, p = .pointer (some ⟨g45, 0, none⟩) ∧ Env w (fun V => ((((((((((True ∧ Blk 31 (w.heap.size) #[.int .i64 b.F, .int .i64 b.S, .slice b.A b.n b.c, .bool b.i.s, .slice b.i.A b.i.n b.i.c, .bool b.i.t, .slice b.i.B b.i.m b.i.d] V) ∧ Blk 36 (w.heap.size + 1) #[.int .i64 x.E, .int .i64 x.Y, .int .i64 x.T, .bool x.p.s, .slice x.p.A x.p.n x.p.c, .bool x.p.t, .slice x.p.B x.p.m x.p.d, .slice x.A x.n x.c, .slice x.B x.m x.d] V) ∧ FrB GV N 0 hh V) ∧ FrQ hh N 0 (b.val x N) V) ∧ FV V 1 so Ao no tio Bo mo) ∧ Blk 29 (g36) #[.bool so, .slice Ao no co, .bool tio, .slice Bo mo dio] V) ∧ FV V (b.rt x.E x.Y k) sq Aq nq tq Bq mq) ∧ Blk 29 (g43) #[.bool sq, .slice Aq nq cq, .bool tq, .slice Bq mq dq] V) ∧ Blk 29 (g45) #[.bool se, .slice Ae ne ce, .bool te, .slice Be me de] V) ∧ FV V (b.val x N (k + 1)) se Ae ne te Be me)) wx)
    case first =>
     by_cases hk1 : k + 1 < N
     ·
      have d1 : decide (((k + 1 : Nat) : Int) < (N : Int)) = true := decide_eq_true (by omega)
      have d3 : decide ((k : Int) + 1 < (N : Int)) = true := decide_eq_true (by omega)
      have d2 : ((k + 1 : Nat) : Int) < (N : Int) := by omega
      have d4 : (k : Int) + 1 < (N : Int) := by omega
      replace hE := hE.fv (show FV _ ((b.val x N (k + 1))) (hh (k + 1)).s (hh (k + 1)).A (hh (k + 1)).n (hh (k + 1)).t (hh (k + 1)).B (hh (k + 1)).m from (hE.h6) (k + 1) (Nat.zero_le _) hk1)
      replace hE := hE.atI (b := GV) (o := ((k + 1) * 4)) (v := .bool (hh (k + 1)).s) ⟨FrB.lt (hE.h8), FrB.at_ (hE.h8) (k := (k + 1)) (i := 0) (Nat.zero_le _) hk1 (by decide) (by omega)⟩
      replace hE := hE.atI (b := GV) (o := ((k + 1) * 4 + 1)) (v := .slice (hh (k + 1)).A (hh (k + 1)).n (hh (k + 1)).c) ⟨FrB.lt (hE.h9), FrB.at_ (hE.h9) (k := (k + 1)) (i := 1) (Nat.zero_le _) hk1 (by decide) (by omega)⟩
      replace hE := hE.atI (b := GV) (o := ((k + 1) * 4 + 2)) (v := .bool (hh (k + 1)).t) ⟨FrB.lt (hE.h10), FrB.at_ (hE.h10) (k := (k + 1)) (i := 2) (Nat.zero_le _) hk1 (by decide) (by omega)⟩
      replace hE := hE.atI (b := GV) (o := ((k + 1) * 4 + 3)) (v := .slice (hh (k + 1)).B (hh (k + 1)).m (hh (k + 1)).d) ⟨FrB.lt (hE.h11), FrB.at_ (hE.h11) (k := (k + 1)) (i := 3) (Nat.zero_le _) hk1 (by decide) (by omega)⟩
      have k46 := (hE.h3).2
      have k47 := (hE.h2).2
      have k48 := (hE.here.1.2).2
      have k49 := (hE.here.2).2
      have hgl50 : w.heap.size ≤ g45 := by omega
      obtain ⟨x50_0, x50_1, x50_2, x50_3⟩ := (hE.h5).c4
      obtain ⟨f50_0, f50_1, f50_2, f50_3⟩ := hE.h5.f4
      replace hE := ((((((((((((((((Env.again (bel4 hE.bel hgl50 (.bool (hh (k + 1)).s) (.slice (hh (k + 1)).A (hh (k + 1)).n (hh (k + 1)).c) (.bool (hh (k + 1)).t) (.slice (hh (k + 1)).B (hh (k + 1)).m (hh (k + 1)).d))).blkI ((hE.h14).far4 (by omega) _ _ _ _)).blkI ((hE.h13).far4 (by omega) _ _ _ _)).frb (FrB.st4 (hE.h12) (hE.h5) (by omega) _ _ _ _)).frq (FrQ.st4 (hE.h11) (hE.h5) rfl _ _ _ _)).fv ((hE.h10).sep4 hE.h5 rfl _ _ _ _ rfl rfl rfl)).blkI ((hE.h9).far4 (by omega) _ _ _ _)).fv ((hE.h8).sep4 hE.h5 rfl _ _ _ _ rfl rfl rfl)).blkI ((hE.h7).far4 (by omega) _ _ _ _)).fv ((hE.h6).sep4 hE.h5 rfl _ _ _ _ rfl rfl rfl)).blkI ((hE.h5).s4 _ _ _ _)).fv ((hE.h4).sep4 hE.h5 rfl _ _ _ _ rfl rfl rfl)).atI ((hE.h3).far4 (by first | omega | exact At.apart (hE.h3) (hE.h5) rfl) _ _ _ _)).atI ((hE.h2).far4 (by first | omega | exact At.apart (hE.h2) (hE.h5) rfl) _ _ _ _)).atI ((hE.here.1.2).far4 (by first | omega | exact At.apart (hE.here.1.2) (hE.h5) rfl) _ _ _ _)).atI ((hE.here.2).far4 (by first | omega | exact At.apart (hE.here.2) (hE.h5) rfl) _ _ _ _))
      go_wp2_with fail
      clear x50_0 x50_1 x50_2 x50_3 f50_0 f50_1 f50_2 f50_3 hgl50
      generalize ((((W45.setCell ⟨g45, 0, none⟩ (.bool (hh (k + 1)).s)).setCell ⟨g45, 1, none⟩ (.slice (hh (k + 1)).A (hh (k + 1)).n (hh (k + 1)).c)).setCell ⟨g45, 2, none⟩ (.bool (hh (k + 1)).t)).setCell ⟨g45, 3, none⟩ (.slice (hh (k + 1)).B (hh (k + 1)).m (hh (k + 1)).d)) = W50 at hE ⊢
      clear k46 k47 k48 k49
      go_meet
      exact ⟨(hh (k + 1)).s, (hh (k + 1)).A, (hh (k + 1)).n, (hh (k + 1)).c, (hh (k + 1)).t, (hh (k + 1)).B, (hh (k + 1)).m, (hh (k + 1)).d, rfl, (((((((((((Env.again hE.bel).blkI (hE.h14)).blkI (hE.h13)).frb (hE.h12)).frq (hE.h11)).fv (hE.h10)).blkI (hE.h9)).fv (hE.h8)).blkI (hE.h7)).blkI (hE.h5)).fv (hE.h4))⟩
     ·
      have d1 : decide (((k + 1 : Nat) : Int) < (N : Int)) = false := decide_eq_false (by omega)
      have d3 : decide ((k : Int) + 1 < (N : Int)) = false := decide_eq_false (by omega)
      have d2 : ¬ ((k + 1 : Nat) : Int) < (N : Int) := by omega
      have d4 : ¬ (k : Int) + 1 < (N : Int) := by omega
      have hz : FV W45 (0 : Rat) sx Ax nx tx Bx mx := hE.here.1.2
      rw [Hhv0.out (k + 1) (by omega)] at hz
      replace hE := hE.fv (show FV W45 (b.val x N (k + 1)) sx Ax nx tx Bx mx from hz)
      clear hz
      go_wp2_with fail
      go_meet
      exact ⟨sx, Ax, nx, cx, tx, Bx, mx, dx, rfl, (((((((((((Env.again hE.bel).blkI (hE.h10)).blkI (hE.h9)).frb (hE.h8)).frq (hE.h7)).fv (hE.h6)).blkI (hE.h5)).fv (hE.h4)).blkI (hE.h3)).blkI (hE.here.1.2)).fv (hE.here.2))⟩
    case rest =>
    clear hE
    obtain ⟨se, Ae, ne, ce, te, Be, me, de, rfl, hE⟩ := hcut
    generalize wc = wk1 at hE ⊢
    go_upto_region 16 with (fail)
    replace hE := hE.fv (show FV _ ((b.val x N k)) (hh k).s (hh k).A (hh k).n (hh k).t (hh k).B (hh k).m from (hE.h6) k (Nat.zero_le _) hlt)
    replace hE := hE.atI (b := GV) (o := (k * 4)) (v := .bool (hh k).s) ⟨FrB.lt (hE.h8), FrB.at_ (hE.h8) (k := k) (i := 0) (Nat.zero_le _) hlt (by decide) (by omega)⟩
    replace hE := hE.atI (b := GV) (o := (k * 4 + 1)) (v := .slice (hh k).A (hh k).n (hh k).c) ⟨FrB.lt (hE.h9), FrB.at_ (hE.h9) (k := k) (i := 1) (Nat.zero_le _) hlt (by decide) (by omega)⟩
    replace hE := hE.atI (b := GV) (o := (k * 4 + 2)) (v := .bool (hh k).t) ⟨FrB.lt (hE.h10), FrB.at_ (hE.h10) (k := k) (i := 2) (Nat.zero_le _) hlt (by decide) (by omega)⟩
    replace hE := hE.atI (b := GV) (o := (k * 4 + 3)) (v := .slice (hh k).B (hh k).m (hh k).d) ⟨FrB.lt (hE.h11), FrB.at_ (hE.h11) (k := k) (i := 3) (Nat.zero_le _) hlt (by decide) (by omega)⟩
    go_cut [12] from 65 to 74 (fun p wx => ∃ G7 sf Af nf cf tf Bf mf df, p = .pointer (some ⟨G7, 0, none⟩) ∧ (w.heap.size < G7 ∧ w.heap.size + 1 < G7 ∧ g36 < G7 ∧ g43 < G7 ∧ g45 < G7 ∧ GV < G7) ∧ Env w (fun V => (((((((((((((((((True ∧ Blk 31 (w.heap.size) #[.int .i64 b.F, .int .i64 b.S, .slice b.A b.n b.c, .bool b.i.s, .slice b.i.A b.i.n b.i.c, .bool b.i.t, .slice b.i.B b.i.m b.i.d] V) ∧ Blk 36 (w.heap.size + 1) #[.int .i64 x.E, .int .i64 x.Y, .int .i64 x.T, .bool x.p.s, .slice x.p.A x.p.n x.p.c, .bool x.p.t, .slice x.p.B x.p.m x.p.d, .slice x.A x.n x.c, .slice x.B x.m x.d] V) ∧ FrB GV N 0 hh V) ∧ FrQ hh N 0 (b.val x N) V) ∧ FV V 1 so Ao no tio Bo mo) ∧ Blk 29 (g36) #[.bool so, .slice Ao no co, .bool tio, .slice Bo mo dio] V) ∧ FV V (b.rt x.E x.Y k) sq Aq nq tq Bq mq) ∧ Blk 29 (g43) #[.bool sq, .slice Aq nq cq, .bool tq, .slice Bq mq dq] V) ∧ Blk 29 (g45) #[.bool se, .slice Ae ne ce, .bool te, .slice Be me de] V) ∧ FV V (b.val x N (k + 1)) se Ae ne te Be me) ∧ FV V (b.val x N k) (hh k).s (hh k).A (hh k).n (hh k).t (hh k).B (hh k).m) ∧ At GV (k * 4) (.bool (hh k).s) V) ∧ At GV (k * 4 + 1) (.slice (hh k).A (hh k).n (hh k).c) V) ∧ At GV (k * 4 + 2) (.bool (hh k).t) V) ∧ At GV (k * 4 + 3) (.slice (hh k).B (hh k).m (hh k).d) V) ∧ FV V (b.val x N k - amt x.l x.n k) sf Af nf tf Bf mf) ∧ Blk 29 (G7) #[.bool sf, .slice Af nf cf, .bool tf, .slice Bf mf df] V)) wx)
    case first =>
     replace hE := hE.drew
     refine wp_region_held_drew (S := fun V => Blk 36 (w.heap.size + 1) #[.int .i64 x.E, .int .i64 x.Y, .int .i64 x.T, .bool x.p.s, .slice x.p.A x.p.n x.p.c, .bool x.p.t, .slice x.p.B x.p.m x.p.d, .slice x.A x.n x.c, .slice x.B x.m x.d] V ∧ At GV ((k * 4)) (.bool (hh k).s) V ∧ At GV ((k * 4 + 1)) (.slice (hh k).A (hh k).n (hh k).c) V ∧ At GV ((k * 4 + 2)) (.bool (hh k).t) V ∧ At GV ((k * 4 + 3)) (.slice (hh k).B (hh k).m (hh k).d) V) (by kernel_rfl) (⟨hE.h13, hE.h3, hE.h2, hE.here.1.2, hE.here.2⟩) (fun hHeld => ?_)
     generalize wk1.drew = wd at *
     refine tk 0 ?_
     try simp only [PL]
     refine tk 1 ?_
     try simp only [PL]
     refine tk 2 ?_
     try simp only [PL]
     refine tk 3 ?_ (hy := by
      intro w hSw
      have kc0 := (hSw.2.1).2
      have kc1 := (hSw.2.2.1).2
      have kc2 := (hSw.2.2.2.1).2
      have kc3 := (hSw.2.2.2.2).2
      clear hSw
      first | (go_simp; done) | (go_simp; with_reducible rfl))
     try simp only [PL]
     refine tk 4 ?_
     try simp only [PL]
     refine tk 5 ?_ (hy := by
      intro w hSw
      have kc7 := (hSw.1).cell 7
      clear hSw
      first | (go_simp; done) | (go_simp; with_reducible rfl))
     try simp only [PL]
     refine tk 6 ?_
     try simp only [PL]
     refine wpAnyH_ready (rs := [7, 9]) (by kernel_rfl) (by simp) (AllReadyH.cons rfl (fun K hK => ?_) (AllReadyH.cons rfl (fun K hK => ?_) (AllReadyH.nil)))
     ·
      go_simp
      refine hE.fr (pw_at (RdI.below Hhx.out.2.1 hE.bel) Hhlb.out k (by omega)) ?_
      clear hE
      intro sa Aa na ca ta Ba ma da w51 hE
      go_wp2_with fail
      refine hK.out _ _ (⟨hE.h14, hE.h4, hE.h3, hE.h2, hE.here.1.2⟩) (fun hHeld => ?_)
      clear hK K
      try simp only [PL]
      refine wpAnyH_ready (rs := [8, 9]) (by kernel_rfl) (by simp) (AllReadyH.cons rfl (fun K hK => ?_) (AllReadyH.cons rfl (fun K hK => ?_) (AllReadyH.nil)))
      ·
       go_simp
       refine hE.fr (pw_less (ca := (hh k).c) (da := (hh k).d) (cb := ca) (db := da) (hE.h5) (hE.here.2) (Hhvl.out.a k) (Hhal.out k) (Hhyl.out k hlt).1) ?_
       clear hE
       intro sf Af nf cf tf Bf mf df w52 hE
       go_wp2_with fail
       refine hK.out _ _ (⟨hE.h15, hE.h5, hE.h4, hE.h3, hE.h2⟩) (fun hHeld => ?_)
       clear hK K
       try simp only [PL]
       refine r1 9 (fun K hK => ?_)
       go_simp
       obtain ⟨g53, hg53⟩ : ∃ g53, g53 = w52.heap.size := ⟨_, rfl⟩
       have hl53_0 : w.heap.size < g53 := by rw [hg53]; exact (hE.h16).lt
       have hl53_1 : w.heap.size + 1 < g53 := by rw [hg53]; exact (hE.h15).lt
       have hl53_2 : GV < g53 := by rw [hg53]; exact FrB.lt (hE.h14)
       have hl53_5 : g36 < g53 := by rw [hg53]; exact (hE.h11).lt
       have hl53_7 : g43 < g53 := by rw [hg53]; exact (hE.h9).lt
       have hl53_8 : g45 < g53 := by rw [hg53]; exact (hE.h8).lt
       replace hE := hE.blk 29 #[.bool false, .slice none 0 0, .bool false, .slice none 0 0] (g := g53) hg53.symm
       generalize w52.alloc (.cells #[.bool false, .slice none 0 0, .bool false, .slice none 0 0] 29) = W53 at hE ⊢
       rw [← hg53]
       clear hg53
       refine hK.out _ _ (⟨hE.h16, hE.h6, hE.h5, hE.h4, hE.h3⟩) (fun hHeld => ?_)
       clear hK K
       try simp only [PL]
       refine r1 10 (fun K hK => ?_)
       have hgl54 : w.heap.size ≤ g53 := by omega
       obtain ⟨x54_0, x54_1, x54_2, x54_3⟩ := (hE.here.2).c4
       obtain ⟨f54_0, f54_1, f54_2, f54_3⟩ := hE.here.2.f4
       replace hE := (((((((((((((((((((Env.again (bel4 hE.bel hgl54 (.bool sf) (.slice Af nf cf) (.bool tf) (.slice Bf mf df))).blkI ((hE.h17).far4 (by omega) _ _ _ _)).blkI ((hE.h16).far4 (by omega) _ _ _ _)).frb (FrB.st4 (hE.h15) (hE.here.2) (by omega) _ _ _ _)).frq (FrQ.st4 (hE.h14) (hE.here.2) rfl _ _ _ _)).fv ((hE.h13).sep4 hE.here.2 rfl _ _ _ _ rfl rfl rfl)).blkI ((hE.h12).far4 (by omega) _ _ _ _)).fv ((hE.h11).sep4 hE.here.2 rfl _ _ _ _ rfl rfl rfl)).blkI ((hE.h10).far4 (by omega) _ _ _ _)).blkI ((hE.h9).far4 (by omega) _ _ _ _)).fv ((hE.h8).sep4 hE.here.2 rfl _ _ _ _ rfl rfl rfl)).fv ((hE.h7).sep4 hE.here.2 rfl _ _ _ _ rfl rfl rfl)).atI ((hE.h6).far4 (by first | omega | exact At.apart (hE.h6) (hE.here.2) rfl) _ _ _ _)).atI ((hE.h5).far4 (by first | omega | exact At.apart (hE.h5) (hE.here.2) rfl) _ _ _ _)).atI ((hE.h4).far4 (by first | omega | exact At.apart (hE.h4) (hE.here.2) rfl) _ _ _ _)).atI ((hE.h3).far4 (by first | omega | exact At.apart (hE.h3) (hE.here.2) rfl) _ _ _ _)).fv ((hE.h2).sep4 hE.here.2 rfl _ _ _ _ rfl rfl rfl)).fv ((hE.here.1.2).sep4 hE.here.2 rfl _ _ _ _ rfl rfl rfl)).blkI ((hE.here.2).s4 _ _ _ _))
       go_simp
       clear x54_0 x54_1 x54_2 x54_3 f54_0 f54_1 f54_2 f54_3 hgl54
       generalize ((((W53.setCell ⟨g53, 0, none⟩ (.bool sf)).setCell ⟨g53, 1, none⟩ (.slice Af nf cf)).setCell ⟨g53, 2, none⟩ (.bool tf)).setCell ⟨g53, 3, none⟩ (.slice Bf mf df)) = W54 at hE ⊢
       refine hK.out _ _ (⟨hE.h16, hE.h6, hE.h5, hE.h4, hE.h3⟩) (fun hHeld => ?_)
       clear hK K
       try simp only [PL]
       refine wpAnyH_done (by kernel_rfl) ?_ _
       go_wp2_with fail
       go_meet
       exact ⟨g53, sf, Af, nf, cf, tf, Bf, mf, df, rfl, ⟨by omega, by omega, by omega, by omega, by omega, by omega⟩, ((((((((((((((((((Env.again hE.bel).blkI (hE.h17)).blkI (hE.h16)).frb (hE.h15)).frq (hE.h14)).fv (hE.h13)).blkI (hE.h12)).fv (hE.h11)).blkI (hE.h10)).blkI (hE.h9)).fv (hE.h8)).fv (hE.h7)).atI (hE.h6)).atI (hE.h5)).atI (hE.h4)).atI (hE.h3)).fv (hE.here.1.2)).blkI (hE.here.2))⟩
      ·
       go_simp
       obtain ⟨g55, hg55⟩ : ∃ g55, g55 = w51.heap.size := ⟨_, rfl⟩
       have hl55_0 : w.heap.size < g55 := by rw [hg55]; exact (hE.h15).lt
       have hl55_1 : w.heap.size + 1 < g55 := by rw [hg55]; exact (hE.h14).lt
       have hl55_2 : GV < g55 := by rw [hg55]; exact FrB.lt (hE.h13)
       have hl55_5 : g36 < g55 := by rw [hg55]; exact (hE.h10).lt
       have hl55_7 : g43 < g55 := by rw [hg55]; exact (hE.h8).lt
       have hl55_8 : g45 < g55 := by rw [hg55]; exact (hE.h7).lt
       replace hE := hE.blk 29 #[.bool false, .slice none 0 0, .bool false, .slice none 0 0] (g := g55) hg55.symm
       generalize w51.alloc (.cells #[.bool false, .slice none 0 0, .bool false, .slice none 0 0] 29) = W55 at hE ⊢
       rw [← hg55]
       clear hg55
       refine hK.out _ _ (⟨hE.h15, hE.h5, hE.h4, hE.h3, hE.h2⟩) (fun hHeld => ?_)
       clear hK K
       try simp only [PL]
       refine r1 8 (fun K hK => ?_)
       go_simp
       refine hE.fr (pw_less (ca := (hh k).c) (da := (hh k).d) (cb := ca) (db := da) (hE.h6) (hE.here.1.2) (Hhvl.out.a k) (Hhal.out k) (Hhyl.out k hlt).1) ?_
       clear hE
       intro sf Af nf cf tf Bf mf df w56 hE
       go_wp2_with fail
       refine hK.out _ _ (⟨hE.h16, hE.h6, hE.h5, hE.h4, hE.h3⟩) (fun hHeld => ?_)
       clear hK K
       try simp only [PL]
       refine r1 10 (fun K hK => ?_)
       have hgl57 : w.heap.size ≤ g55 := by omega
       obtain ⟨x57_0, x57_1, x57_2, x57_3⟩ := (hE.here.1.2).c4
       obtain ⟨f57_0, f57_1, f57_2, f57_3⟩ := hE.here.1.2.f4
       replace hE := (((((((((((((((((((Env.again (bel4 hE.bel hgl57 (.bool sf) (.slice Af nf cf) (.bool tf) (.slice Bf mf df))).blkI ((hE.h17).far4 (by omega) _ _ _ _)).blkI ((hE.h16).far4 (by omega) _ _ _ _)).frb (FrB.st4 (hE.h15) (hE.here.1.2) (by omega) _ _ _ _)).frq (FrQ.st4 (hE.h14) (hE.here.1.2) rfl _ _ _ _)).fv ((hE.h13).sep4 hE.here.1.2 rfl _ _ _ _ rfl rfl rfl)).blkI ((hE.h12).far4 (by omega) _ _ _ _)).fv ((hE.h11).sep4 hE.here.1.2 rfl _ _ _ _ rfl rfl rfl)).blkI ((hE.h10).far4 (by omega) _ _ _ _)).blkI ((hE.h9).far4 (by omega) _ _ _ _)).fv ((hE.h8).sep4 hE.here.1.2 rfl _ _ _ _ rfl rfl rfl)).fv ((hE.h7).sep4 hE.here.1.2 rfl _ _ _ _ rfl rfl rfl)).atI ((hE.h6).far4 (by first | omega | exact At.apart (hE.h6) (hE.here.1.2) rfl) _ _ _ _)).atI ((hE.h5).far4 (by first | omega | exact At.apart (hE.h5) (hE.here.1.2) rfl) _ _ _ _)).atI ((hE.h4).far4 (by first | omega | exact At.apart (hE.h4) (hE.here.1.2) rfl) _ _ _ _)).atI ((hE.h3).far4 (by first | omega | exact At.apart (hE.h3) (hE.here.1.2) rfl) _ _ _ _)).fv ((hE.h2).sep4 hE.here.1.2 rfl _ _ _ _ rfl rfl rfl)).blkI ((hE.here.1.2).s4 _ _ _ _)).fv ((hE.here.2).sep4 hE.here.1.2 rfl _ _ _ _ rfl rfl rfl))
       go_simp
       clear x57_0 x57_1 x57_2 x57_3 f57_0 f57_1 f57_2 f57_3 hgl57
       generalize ((((w56.setCell ⟨g55, 0, none⟩ (.bool sf)).setCell ⟨g55, 1, none⟩ (.slice Af nf cf)).setCell ⟨g55, 2, none⟩ (.bool tf)).setCell ⟨g55, 3, none⟩ (.slice Bf mf df)) = W57 at hE ⊢
       refine hK.out _ _ (⟨hE.h16, hE.h6, hE.h5, hE.h4, hE.h3⟩) (fun hHeld => ?_)
       clear hK K
       try simp only [PL]
       refine wpAnyH_done (by kernel_rfl) ?_ _
       go_wp2_with fail
       go_meet
       exact ⟨g55, sf, Af, nf, cf, tf, Bf, mf, df, rfl, ⟨by omega, by omega, by omega, by omega, by omega, by omega⟩, ((((((((((((((((((Env.again hE.bel).blkI (hE.h17)).blkI (hE.h16)).frb (hE.h15)).frq (hE.h14)).fv (hE.h13)).blkI (hE.h12)).fv (hE.h11)).blkI (hE.h10)).blkI (hE.h9)).fv (hE.h8)).fv (hE.h7)).atI (hE.h6)).atI (hE.h5)).atI (hE.h4)).atI (hE.h3)).fv (hE.here.2)).blkI (hE.here.1.2))⟩
     ·
      go_simp
      obtain ⟨g58, hg58⟩ : ∃ g58, g58 = wd.heap.size := ⟨_, rfl⟩
      have hl58_0 : w.heap.size < g58 := by rw [hg58]; exact (hE.h14).lt
      have hl58_1 : w.heap.size + 1 < g58 := by rw [hg58]; exact (hE.h13).lt
      have hl58_2 : GV < g58 := by rw [hg58]; exact FrB.lt (hE.h12)
      have hl58_5 : g36 < g58 := by rw [hg58]; exact (hE.h9).lt
      have hl58_7 : g43 < g58 := by rw [hg58]; exact (hE.h7).lt
      have hl58_8 : g45 < g58 := by rw [hg58]; exact (hE.h6).lt
      replace hE := hE.blk 29 #[.bool false, .slice none 0 0, .bool false, .slice none 0 0] (g := g58) hg58.symm
      generalize wd.alloc (.cells #[.bool false, .slice none 0 0, .bool false, .slice none 0 0] 29) = W58 at hE ⊢
      rw [← hg58]
      clear hg58
      refine hK.out _ _ (⟨hE.h14, hE.h4, hE.h3, hE.h2, hE.here.1.2⟩) (fun hHeld => ?_)
      clear hK K
      try simp only [PL]
      refine r1 7 (fun K hK => ?_)
      go_simp
      refine hE.fr (pw_at (RdI.below Hhx.out.2.1 hE.bel) Hhlb.out k (by omega)) ?_
      clear hE
      intro sa Aa na ca ta Ba ma da w59 hE
      go_wp2_with fail
      refine hK.out _ _ (⟨hE.h15, hE.h5, hE.h4, hE.h3, hE.h2⟩) (fun hHeld => ?_)
      clear hK K
      try simp only [PL]
      refine r1 8 (fun K hK => ?_)
      go_simp
      refine hE.fr (pw_less (ca := (hh k).c) (da := (hh k).d) (cb := ca) (db := da) (hE.h6) (hE.here.2) (Hhvl.out.a k) (Hhal.out k) (Hhyl.out k hlt).1) ?_
      clear hE
      intro sf Af nf cf tf Bf mf df w60 hE
      go_wp2_with fail
      refine hK.out _ _ (⟨hE.h16, hE.h6, hE.h5, hE.h4, hE.h3⟩) (fun hHeld => ?_)
      clear hK K
      try simp only [PL]
      refine r1 10 (fun K hK => ?_)
      have hgl61 : w.heap.size ≤ g58 := by omega
      obtain ⟨x61_0, x61_1, x61_2, x61_3⟩ := (hE.h2).c4
      obtain ⟨f61_0, f61_1, f61_2, f61_3⟩ := hE.h2.f4
      replace hE := (((((((((((((((((((Env.again (bel4 hE.bel hgl61 (.bool sf) (.slice Af nf cf) (.bool tf) (.slice Bf mf df))).blkI ((hE.h17).far4 (by omega) _ _ _ _)).blkI ((hE.h16).far4 (by omega) _ _ _ _)).frb (FrB.st4 (hE.h15) (hE.h2) (by omega) _ _ _ _)).frq (FrQ.st4 (hE.h14) (hE.h2) rfl _ _ _ _)).fv ((hE.h13).sep4 hE.h2 rfl _ _ _ _ rfl rfl rfl)).blkI ((hE.h12).far4 (by omega) _ _ _ _)).fv ((hE.h11).sep4 hE.h2 rfl _ _ _ _ rfl rfl rfl)).blkI ((hE.h10).far4 (by omega) _ _ _ _)).blkI ((hE.h9).far4 (by omega) _ _ _ _)).fv ((hE.h8).sep4 hE.h2 rfl _ _ _ _ rfl rfl rfl)).fv ((hE.h7).sep4 hE.h2 rfl _ _ _ _ rfl rfl rfl)).atI ((hE.h6).far4 (by first | omega | exact At.apart (hE.h6) (hE.h2) rfl) _ _ _ _)).atI ((hE.h5).far4 (by first | omega | exact At.apart (hE.h5) (hE.h2) rfl) _ _ _ _)).atI ((hE.h4).far4 (by first | omega | exact At.apart (hE.h4) (hE.h2) rfl) _ _ _ _)).atI ((hE.h3).far4 (by first | omega | exact At.apart (hE.h3) (hE.h2) rfl) _ _ _ _)).blkI ((hE.h2).s4 _ _ _ _)).fv ((hE.here.1.2).sep4 hE.h2 rfl _ _ _ _ rfl rfl rfl)).fv ((hE.here.2).sep4 hE.h2 rfl _ _ _ _ rfl rfl rfl))
      go_simp
      clear x61_0 x61_1 x61_2 x61_3 f61_0 f61_1 f61_2 f61_3 hgl61
      generalize ((((w60.setCell ⟨g58, 0, none⟩ (.bool sf)).setCell ⟨g58, 1, none⟩ (.slice Af nf cf)).setCell ⟨g58, 2, none⟩ (.bool tf)).setCell ⟨g58, 3, none⟩ (.slice Bf mf df)) = W61 at hE ⊢
      refine hK.out _ _ (⟨hE.h16, hE.h6, hE.h5, hE.h4, hE.h3⟩) (fun hHeld => ?_)
      clear hK K
      try simp only [PL]
      refine wpAnyH_done (by kernel_rfl) ?_ _
      go_wp2_with fail
      go_meet
      exact ⟨g58, sf, Af, nf, cf, tf, Bf, mf, df, rfl, ⟨by omega, by omega, by omega, by omega, by omega, by omega⟩, ((((((((((((((((((Env.again hE.bel).blkI (hE.h17)).blkI (hE.h16)).frb (hE.h15)).frq (hE.h14)).fv (hE.h13)).blkI (hE.h12)).fv (hE.h11)).blkI (hE.h10)).blkI (hE.h9)).fv (hE.h8)).fv (hE.h7)).atI (hE.h6)).atI (hE.h5)).atI (hE.h4)).atI (hE.h3)).fv (hE.here.2)).blkI (hE.h2))⟩
    case rest =>
    clear hE
    obtain ⟨G7, sf, Af, nf, cf, tf, Bf, mf, df, rfl, ⟨hg0, hg1, hg2, hg3, hg4, hg5⟩, hE⟩ := hcut
    generalize wc = wk7 at hE ⊢
    have k62 := (hE.h15).cell 2
    go_upto_if 77 with (fail)
    clear k62
    go_cut [12] from 74 to 82 (fun p wx => ∃ sg Ag ng cg tg Bg mg dg, p = .pointer (some ⟨G7, 0, none⟩) ∧ Env w (fun V => (((((((((((((((((True ∧ Blk 31 (w.heap.size) #[.int .i64 b.F, .int .i64 b.S, .slice b.A b.n b.c, .bool b.i.s, .slice b.i.A b.i.n b.i.c, .bool b.i.t, .slice b.i.B b.i.m b.i.d] V) ∧ Blk 36 (w.heap.size + 1) #[.int .i64 x.E, .int .i64 x.Y, .int .i64 x.T, .bool x.p.s, .slice x.p.A x.p.n x.p.c, .bool x.p.t, .slice x.p.B x.p.m x.p.d, .slice x.A x.n x.c, .slice x.B x.m x.d] V) ∧ FrB GV N 0 hh V) ∧ FrQ hh N 0 (b.val x N) V) ∧ FV V 1 so Ao no tio Bo mo) ∧ Blk 29 (g36) #[.bool so, .slice Ao no co, .bool tio, .slice Bo mo dio] V) ∧ FV V (b.rt x.E x.Y k) sq Aq nq tq Bq mq) ∧ Blk 29 (g43) #[.bool sq, .slice Aq nq cq, .bool tq, .slice Bq mq dq] V) ∧ Blk 29 (g45) #[.bool se, .slice Ae ne ce, .bool te, .slice Be me de] V) ∧ FV V (b.val x N (k + 1)) se Ae ne te Be me) ∧ FV V (b.val x N k) (hh k).s (hh k).A (hh k).n (hh k).t (hh k).B (hh k).m) ∧ At GV (k * 4) (.bool (hh k).s) V) ∧ At GV (k * 4 + 1) (.slice (hh k).A (hh k).n (hh k).c) V) ∧ At GV (k * 4 + 2) (.bool (hh k).t) V) ∧ At GV (k * 4 + 3) (.slice (hh k).B (hh k).m (hh k).d) V) ∧ Blk 29 (G7) #[.bool sg, .slice Ag ng cg, .bool tg, .slice Bg mg dg] V) ∧ FV V (b.val x N k - x.L k) sg Ag ng tg Bg mg)) wx)
    case first =>
     by_cases hkT : (k : Int) < x.T
     ·
      have d1 : decide ((k : Int) < x.T) = true := decide_eq_true hkT
      have heL : x.L k = amt x.l x.n k - x.p.q := Ct.L_in hkT
      have HL := Lib.hid heL
      clear heL
      have k63 := (hE.h15).cell 3
      have k64 := (hE.h15).cell 4
      have k65 := (hE.h15).cell 5
      have k66 := (hE.h15).cell 6
      obtain ⟨j1, j2, j3, j4⟩ := (hE.here.2).c4
      go_wp2_with fail
      clear j1 j2 j3 j4 k63 k64 k65 k66
      have heq : b.val x N k - amt x.l x.n k + x.p.q = b.val x N k - x.L k := by rw [HL.out]; grind
      have hc := pw_sum (ca := cf) (da := df) (cb := x.p.c) (db := x.p.d) (hE.here.1.2) (Hhpf.out.below hE.bel) (Hhyl.out k hlt).1 Hhpl.out (by rw [heq]; exact (Hhyl.out k hlt).2.1)
      rw [heq] at hc
      clear heq
      refine hE.fr (hc) ?_
      clear hE
      intro sg Ag ng cg tg Bg mg dg w67 hE
      clear hc
      have hgl68 : w.heap.size ≤ G7 := by omega
      obtain ⟨x68_0, x68_1, x68_2, x68_3⟩ := (hE.here.1.2).c4
      obtain ⟨f68_0, f68_1, f68_2, f68_3⟩ := hE.here.1.2.f4
      replace hE := (((((((((((((((((((Env.again (bel4 hE.bel hgl68 (.bool sg) (.slice Ag ng cg) (.bool tg) (.slice Bg mg dg))).blkI ((hE.h17).far4 (by omega) _ _ _ _)).blkI ((hE.h16).far4 (by omega) _ _ _ _)).frb (FrB.st4 (hE.h15) (hE.here.1.2) (by omega) _ _ _ _)).frq (FrQ.st4 (hE.h14) (hE.here.1.2) rfl _ _ _ _)).fv ((hE.h13).sep4 hE.here.1.2 rfl _ _ _ _ rfl rfl rfl)).blkI ((hE.h12).far4 (by omega) _ _ _ _)).fv ((hE.h11).sep4 hE.here.1.2 rfl _ _ _ _ rfl rfl rfl)).blkI ((hE.h10).far4 (by omega) _ _ _ _)).blkI ((hE.h9).far4 (by omega) _ _ _ _)).fv ((hE.h8).sep4 hE.here.1.2 rfl _ _ _ _ rfl rfl rfl)).fv ((hE.h7).sep4 hE.here.1.2 rfl _ _ _ _ rfl rfl rfl)).atI ((hE.h6).far4 (by first | omega | exact At.apart (hE.h6) (hE.here.1.2) rfl) _ _ _ _)).atI ((hE.h5).far4 (by first | omega | exact At.apart (hE.h5) (hE.here.1.2) rfl) _ _ _ _)).atI ((hE.h4).far4 (by first | omega | exact At.apart (hE.h4) (hE.here.1.2) rfl) _ _ _ _)).atI ((hE.h3).far4 (by first | omega | exact At.apart (hE.h3) (hE.here.1.2) rfl) _ _ _ _)).fv ((hE.h2).sep4 hE.here.1.2 rfl _ _ _ _ rfl rfl rfl)).blkI ((hE.here.1.2).s4 _ _ _ _)).fv ((hE.here.2).sep4 hE.here.1.2 rfl _ _ _ _ rfl rfl rfl))
      go_wp2_with fail
      clear x68_0 x68_1 x68_2 x68_3 f68_0 f68_1 f68_2 f68_3 hgl68
      generalize ((((w67.setCell ⟨G7, 0, none⟩ (.bool sg)).setCell ⟨G7, 1, none⟩ (.slice Ag ng cg)).setCell ⟨G7, 2, none⟩ (.bool tg)).setCell ⟨G7, 3, none⟩ (.slice Bg mg dg)) = W68 at hE ⊢
      go_meet
      exact ⟨sg, Ag, ng, cg, tg, Bg, mg, dg, rfl, ((((((((((((((((((Env.again hE.bel).blkI (hE.h17)).blkI (hE.h16)).frb (hE.h15)).frq (hE.h14)).fv (hE.h13)).blkI (hE.h12)).fv (hE.h11)).blkI (hE.h10)).blkI (hE.h9)).fv (hE.h8)).fv (hE.h7)).atI (hE.h6)).atI (hE.h5)).atI (hE.h4)).atI (hE.h3)).blkI (hE.here.1.2)).fv (hE.here.2))⟩
     ·
      have d1 : decide ((k : Int) < x.T) = false := decide_eq_false hkT
      have heL : x.L k = amt x.l x.n k := Ct.L_out hkT
      have HL := Lib.hid heL
      clear heL
      replace hE := hE.fv (show FV wk7 (b.val x N k - x.L k) sf Af nf tf Bf mf from by rw [HL.out]; exact hE.here.1.2)
      go_wp2_with fail
      go_meet
      exact ⟨sf, Af, nf, cf, tf, Bf, mf, df, rfl, ((((((((((((((((((Env.again hE.bel).blkI (hE.h17)).blkI (hE.h16)).frb (hE.h15)).frq (hE.h14)).fv (hE.h13)).blkI (hE.h12)).fv (hE.h11)).blkI (hE.h10)).blkI (hE.h9)).fv (hE.h8)).fv (hE.h7)).atI (hE.h6)).atI (hE.h5)).atI (hE.h4)).atI (hE.h3)).blkI (hE.here.1.2)).fv (hE.here.2))⟩
    case rest =>
    clear hE
    obtain ⟨sg, Ag, ng, cg, tg, Bg, mg, dg, rfl, hE⟩ := hcut
    generalize wc = wk8 at hE ⊢
    go_upto_region 19 with (fail)
    go_cut [12] from 82 to 88 (fun p wx => ∃ sw Aw nw cw tw Bw mw dw, p = .pointer (some ⟨G7, 0, none⟩) ∧ Env w (fun V => ((((((((((((((((((True ∧ Blk 31 (w.heap.size) #[.int .i64 b.F, .int .i64 b.S, .slice b.A b.n b.c, .bool b.i.s, .slice b.i.A b.i.n b.i.c, .bool b.i.t, .slice b.i.B b.i.m b.i.d] V) ∧ Blk 36 (w.heap.size + 1) #[.int .i64 x.E, .int .i64 x.Y, .int .i64 x.T, .bool x.p.s, .slice x.p.A x.p.n x.p.c, .bool x.p.t, .slice x.p.B x.p.m x.p.d, .slice x.A x.n x.c, .slice x.B x.m x.d] V) ∧ FrB GV N 0 hh V) ∧ FrQ hh N 0 (b.val x N) V) ∧ FV V 1 so Ao no tio Bo mo) ∧ Blk 29 (g36) #[.bool so, .slice Ao no co, .bool tio, .slice Bo mo dio] V) ∧ FV V (b.rt x.E x.Y k) sq Aq nq tq Bq mq) ∧ Blk 29 (g43) #[.bool sq, .slice Aq nq cq, .bool tq, .slice Bq mq dq] V) ∧ Blk 29 (g45) #[.bool se, .slice Ae ne ce, .bool te, .slice Be me de] V) ∧ FV V (b.val x N (k + 1)) se Ae ne te Be me) ∧ FV V (b.val x N k) (hh k).s (hh k).A (hh k).n (hh k).t (hh k).B (hh k).m) ∧ At GV (k * 4) (.bool (hh k).s) V) ∧ At GV (k * 4 + 1) (.slice (hh k).A (hh k).n (hh k).c) V) ∧ At GV (k * 4 + 2) (.bool (hh k).t) V) ∧ At GV (k * 4 + 3) (.slice (hh k).B (hh k).m (hh k).d) V) ∧ Blk 29 (G7) #[.bool sw, .slice Aw nw cw, .bool tw, .slice Bw mw dw] V) ∧ FV V (b.val x N k - x.L k) sg Ag ng tg Bg mg) ∧ FV V ((b.val x N k - x.L k) * (1 + b.i.q)) sw Aw nw tw Bw mw)) wx)
    case first =>
     replace hE := hE.drew
     refine wp_region_held_drew (S := fun V => Blk 29 (g36) #[.bool so, .slice Ao no co, .bool tio, .slice Bo mo dio] V ∧ Blk 31 (w.heap.size) #[.int .i64 b.F, .int .i64 b.S, .slice b.A b.n b.c, .bool b.i.s, .slice b.i.A b.i.n b.i.c, .bool b.i.t, .slice b.i.B b.i.m b.i.d] V) (by kernel_rfl) (⟨hE.h11, hE.h16⟩) (fun hHeld => ?_)
     generalize wk8.drew = wd at *
     refine tk 1 ?_ (hy := by
      intro w hSw
      have kc0 := (hSw.1).cell 0
      have kc1 := (hSw.1).cell 1
      have kc2 := (hSw.1).cell 2
      have kc3 := (hSw.1).cell 3
      clear hSw
      first | (go_simp; done) | (go_simp; with_reducible rfl))
     try simp only [PL]
     refine tk 2 ?_
     try simp only [PL]
     refine tk 3 ?_ (hy := by
      intro w hSw
      have kc3 := (hSw.2).cell 3
      have kc4 := (hSw.2).cell 4
      have kc5 := (hSw.2).cell 5
      have kc6 := (hSw.2).cell 6
      clear hSw
      first | (go_simp; done) | (go_simp; with_reducible rfl))
     try simp only [PL]
     refine wpAnyH_ready (rs := [0, 4]) (by kernel_rfl) (by simp) (AllReadyH.cons rfl (fun K hK => ?_) (AllReadyH.cons rfl (fun K hK => ?_) (AllReadyH.nil)))
     ·
      obtain ⟨k69, k70, k71, k72⟩ := (hE.here.1.2).c4
      go_simp
      clear k69 k70 k71 k72
      refine hK.out _ _ (⟨hE.h11, hE.h16⟩) (fun hHeld => ?_)
      clear hK K
      try simp only [PL]
      refine r1 4 (fun K hK => ?_)
      go_simp
      refine hE.fr (pw_sum (ca := co) (da := dio) (cb := b.i.c) (db := b.i.d) (hE.h12) (Hhif.out.below hE.bel) (by decide) Hhil.out Hhi1.out) ?_
      clear hE
      intro sy Ay ny cy ty By my dy w73 hE
      go_wp2_with fail
      refine hK.out _ _ (⟨hE.h12, hE.h17⟩) (fun hHeld => ?_)
      clear hK K
      try simp only [PL]
      refine r1 5 (fun K hK => ?_)
      go_simp
      refine hE.fr (pw_product (ca := cg) (da := dg) (cb := cy) (db := dy) (hE.here.1.2) (hE.here.2) (Hhyl.out k hlt).2.1 Hhi1.out (by have h := Hhvy.out k hlt; change (b.val x N k - x.L k) * (1 + b.i.q) = _ at h; rw [h]; exact (Hhyl.out k hlt).2.2.2.2.2.2)) ?_
      clear hE
      intro sw Aw nw cw tw Bw mw dw w74 hE
      go_wp2_with fail
      refine hK.out _ _ (⟨hE.h13, hE.h18⟩) (fun hHeld => ?_)
      clear hK K
      try simp only [PL]
      refine r1 6 (fun K hK => ?_)
      have hgl75 : w.heap.size ≤ G7 := by omega
      obtain ⟨x75_0, x75_1, x75_2, x75_3⟩ := (hE.h3).c4
      obtain ⟨f75_0, f75_1, f75_2, f75_3⟩ := hE.h3.f4
      replace hE := ((((((((((((((((((((Env.again (bel4 hE.bel hgl75 (.bool sw) (.slice Aw nw cw) (.bool tw) (.slice Bw mw dw))).blkI ((hE.h18).far4 (by omega) _ _ _ _)).blkI ((hE.h17).far4 (by omega) _ _ _ _)).frb (FrB.st4 (hE.h16) (hE.h3) (by omega) _ _ _ _)).frq (FrQ.st4 (hE.h15) (hE.h3) rfl _ _ _ _)).fv ((hE.h14).sep4 hE.h3 rfl _ _ _ _ rfl rfl rfl)).blkI ((hE.h13).far4 (by omega) _ _ _ _)).fv ((hE.h12).sep4 hE.h3 rfl _ _ _ _ rfl rfl rfl)).blkI ((hE.h11).far4 (by omega) _ _ _ _)).blkI ((hE.h10).far4 (by omega) _ _ _ _)).fv ((hE.h9).sep4 hE.h3 rfl _ _ _ _ rfl rfl rfl)).fv ((hE.h8).sep4 hE.h3 rfl _ _ _ _ rfl rfl rfl)).atI ((hE.h7).far4 (by first | omega | exact At.apart (hE.h7) (hE.h3) rfl) _ _ _ _)).atI ((hE.h6).far4 (by first | omega | exact At.apart (hE.h6) (hE.h3) rfl) _ _ _ _)).atI ((hE.h5).far4 (by first | omega | exact At.apart (hE.h5) (hE.h3) rfl) _ _ _ _)).atI ((hE.h4).far4 (by first | omega | exact At.apart (hE.h4) (hE.h3) rfl) _ _ _ _)).blkI ((hE.h3).s4 _ _ _ _)).fv ((hE.h2).sep4 hE.h3 rfl _ _ _ _ rfl rfl rfl)).fv ((hE.here.1.2).sep4 hE.h3 rfl _ _ _ _ rfl rfl rfl)).fv ((hE.here.2).sep4 hE.h3 rfl _ _ _ _ rfl rfl rfl))
      go_simp
      clear x75_0 x75_1 x75_2 x75_3 f75_0 f75_1 f75_2 f75_3 hgl75
      generalize ((((w74.setCell ⟨G7, 0, none⟩ (.bool sw)).setCell ⟨G7, 1, none⟩ (.slice Aw nw cw)).setCell ⟨G7, 2, none⟩ (.bool tw)).setCell ⟨G7, 3, none⟩ (.slice Bw mw dw)) = W75 at hE ⊢
      refine hK.out _ _ (⟨hE.h13, hE.h18⟩) (fun hHeld => ?_)
      clear hK K
      try simp only [PL]
      refine wpAnyH_done (by kernel_rfl) ?_ _
      go_wp2_with fail
      go_meet
      exact ⟨sw, Aw, nw, cw, tw, Bw, mw, dw, rfl, (((((((((((((((((((Env.again hE.bel).blkI (hE.h18)).blkI (hE.h17)).frb (hE.h16)).frq (hE.h15)).fv (hE.h14)).blkI (hE.h13)).fv (hE.h12)).blkI (hE.h11)).blkI (hE.h10)).fv (hE.h9)).fv (hE.h8)).atI (hE.h7)).atI (hE.h6)).atI (hE.h5)).atI (hE.h4)).blkI (hE.h3)).fv (hE.h2)).fv (hE.here.2))⟩
     ·
      go_simp
      refine hE.fr (pw_sum (ca := co) (da := dio) (cb := b.i.c) (db := b.i.d) (hE.h12) (Hhif.out.below hE.bel) (by decide) Hhil.out Hhi1.out) ?_
      clear hE
      intro sy Ay ny cy ty By my dy w76 hE
      go_wp2_with fail
      refine hK.out _ _ (⟨hE.h12, hE.h17⟩) (fun hHeld => ?_)
      clear hK K
      try simp only [PL]
      refine r1 0 (fun K hK => ?_)
      obtain ⟨k77, k78, k79, k80⟩ := (hE.h2).c4
      go_simp
      clear k77 k78 k79 k80
      refine hK.out _ _ (⟨hE.h12, hE.h17⟩) (fun hHeld => ?_)
      clear hK K
      try simp only [PL]
      refine r1 5 (fun K hK => ?_)
      go_simp
      refine hE.fr (pw_product (ca := cg) (da := dg) (cb := cy) (db := dy) (hE.here.1.2) (hE.here.2) (Hhyl.out k hlt).2.1 Hhi1.out (by have h := Hhvy.out k hlt; change (b.val x N k - x.L k) * (1 + b.i.q) = _ at h; rw [h]; exact (Hhyl.out k hlt).2.2.2.2.2.2)) ?_
      clear hE
      intro sw Aw nw cw tw Bw mw dw w81 hE
      go_wp2_with fail
      refine hK.out _ _ (⟨hE.h13, hE.h18⟩) (fun hHeld => ?_)
      clear hK K
      try simp only [PL]
      refine r1 6 (fun K hK => ?_)
      have hgl82 : w.heap.size ≤ G7 := by omega
      obtain ⟨x82_0, x82_1, x82_2, x82_3⟩ := (hE.h3).c4
      obtain ⟨f82_0, f82_1, f82_2, f82_3⟩ := hE.h3.f4
      replace hE := ((((((((((((((((((((Env.again (bel4 hE.bel hgl82 (.bool sw) (.slice Aw nw cw) (.bool tw) (.slice Bw mw dw))).blkI ((hE.h18).far4 (by omega) _ _ _ _)).blkI ((hE.h17).far4 (by omega) _ _ _ _)).frb (FrB.st4 (hE.h16) (hE.h3) (by omega) _ _ _ _)).frq (FrQ.st4 (hE.h15) (hE.h3) rfl _ _ _ _)).fv ((hE.h14).sep4 hE.h3 rfl _ _ _ _ rfl rfl rfl)).blkI ((hE.h13).far4 (by omega) _ _ _ _)).fv ((hE.h12).sep4 hE.h3 rfl _ _ _ _ rfl rfl rfl)).blkI ((hE.h11).far4 (by omega) _ _ _ _)).blkI ((hE.h10).far4 (by omega) _ _ _ _)).fv ((hE.h9).sep4 hE.h3 rfl _ _ _ _ rfl rfl rfl)).fv ((hE.h8).sep4 hE.h3 rfl _ _ _ _ rfl rfl rfl)).atI ((hE.h7).far4 (by first | omega | exact At.apart (hE.h7) (hE.h3) rfl) _ _ _ _)).atI ((hE.h6).far4 (by first | omega | exact At.apart (hE.h6) (hE.h3) rfl) _ _ _ _)).atI ((hE.h5).far4 (by first | omega | exact At.apart (hE.h5) (hE.h3) rfl) _ _ _ _)).atI ((hE.h4).far4 (by first | omega | exact At.apart (hE.h4) (hE.h3) rfl) _ _ _ _)).blkI ((hE.h3).s4 _ _ _ _)).fv ((hE.h2).sep4 hE.h3 rfl _ _ _ _ rfl rfl rfl)).fv ((hE.here.1.2).sep4 hE.h3 rfl _ _ _ _ rfl rfl rfl)).fv ((hE.here.2).sep4 hE.h3 rfl _ _ _ _ rfl rfl rfl))
      go_simp
      clear x82_0 x82_1 x82_2 x82_3 f82_0 f82_1 f82_2 f82_3 hgl82
      generalize ((((w81.setCell ⟨G7, 0, none⟩ (.bool sw)).setCell ⟨G7, 1, none⟩ (.slice Aw nw cw)).setCell ⟨G7, 2, none⟩ (.bool tw)).setCell ⟨G7, 3, none⟩ (.slice Bw mw dw)) = W82 at hE ⊢
      refine hK.out _ _ (⟨hE.h13, hE.h18⟩) (fun hHeld => ?_)
      clear hK K
      try simp only [PL]
      refine wpAnyH_done (by kernel_rfl) ?_ _
      go_wp2_with fail
      go_meet
      exact ⟨sw, Aw, nw, cw, tw, Bw, mw, dw, rfl, (((((((((((((((((((Env.again hE.bel).blkI (hE.h18)).blkI (hE.h17)).frb (hE.h16)).frq (hE.h15)).fv (hE.h14)).blkI (hE.h13)).fv (hE.h12)).blkI (hE.h11)).blkI (hE.h10)).fv (hE.h9)).fv (hE.h8)).atI (hE.h7)).atI (hE.h6)).atI (hE.h5)).atI (hE.h4)).blkI (hE.h3)).fv (hE.h2)).fv (hE.here.2))⟩
    case rest =>
    clear hE
    obtain ⟨sw, Aw, nw, cw, tw, Bw, mw, dw, rfl, hE⟩ := hcut
    generalize wc = wk9 at hE ⊢
    go_upto_region 20 with (fail)
    replace hE := hE.drew
    refine wp_region_held_drew (S := fun V => Blk 29 (G7) #[.bool sw, .slice Aw nw cw, .bool tw, .slice Bw mw dw] V ∧ Blk 29 (g43) #[.bool sq, .slice Aq nq cq, .bool tq, .slice Bq mq dq] V ∧ Blk 36 (w.heap.size + 1) #[.int .i64 x.E, .int .i64 x.Y, .int .i64 x.T, .bool x.p.s, .slice x.p.A x.p.n x.p.c, .bool x.p.t, .slice x.p.B x.p.m x.p.d, .slice x.A x.n x.c, .slice x.B x.m x.d] V ∧ Blk 29 (g36) #[.bool so, .slice Ao no co, .bool tio, .slice Bo mo dio] V ∧ Blk 29 (g45) #[.bool se, .slice Ae ne ce, .bool te, .slice Be me de] V) (by kernel_rfl) (⟨hE.h2, hE.h10, hE.h16, hE.h12, hE.h9⟩) (fun hHeld => ?_)
    generalize wk9.drew = wd at *
    refine tk 0 ?_
    try simp only [PL]
    refine tk 1 ?_
    try simp only [PL]
    refine tk 2 ?_
    try simp only [PL]
    refine tk 3 ?_ (hy := by
     intro w hSw
     have kc0 := (hSw.1).cell 0
     have kc1 := (hSw.1).cell 1
     have kc2 := (hSw.1).cell 2
     have kc3 := (hSw.1).cell 3
     clear hSw
     first | (go_simp; done) | (go_simp; with_reducible rfl))
    try simp only [PL]
    refine tk 4 ?_ (hy := by
     intro w hSw
     have kc0 := (hSw.2.1).cell 0
     have kc1 := (hSw.2.1).cell 1
     have kc2 := (hSw.2.1).cell 2
     have kc3 := (hSw.2.1).cell 3
     clear hSw
     first | (go_simp; done) | (go_simp; with_reducible rfl))
    try simp only [PL]
    refine tk 5 ?_
    try simp only [PL]
    refine tk 6 ?_ (hy := by
     intro w hSw
     have kc8 := (hSw.2.2.1).cell 8
     clear hSw
     first | (go_simp; done) | (go_simp; with_reducible rfl))
    try simp only [PL]
    refine tk 7 ?_
    try simp only [PL]
    refine tk 10 ?_ (hy := by
     intro w hSw
     have kc0 := (hSw.2.2.2.1).cell 0
     have kc1 := (hSw.2.2.2.1).cell 1
     have kc2 := (hSw.2.2.2.1).cell 2
     have kc3 := (hSw.2.2.2.1).cell 3
     clear hSw
     first | (go_simp; done) | (go_simp; with_reducible rfl))
    try simp only [PL]
    refine tk 11 ?_ (hy := by
     intro w hSw
     have kc0 := (hSw.2.1).cell 0
     have kc1 := (hSw.2.1).cell 1
     have kc2 := (hSw.2.1).cell 2
     have kc3 := (hSw.2.1).cell 3
     clear hSw
     first | (go_simp; done) | (go_simp; with_reducible rfl))
    try simp only [PL]
    refine tk 13 ?_ (hy := by
     intro w hSw
     have kc0 := (hSw.2.2.2.2).cell 0
     have kc1 := (hSw.2.2.2.2).cell 1
     have kc2 := (hSw.2.2.2.2).cell 2
     have kc3 := (hSw.2.2.2.2).cell 3
     clear hSw
     first | (go_simp; done) | (go_simp; with_reducible rfl))
    try simp only [PL]
    refine r1 8 (fun K hK => ?_)
    go_simp
    refine hE.fr (pw_at (RdI.below Hhx.out.2.2 hE.bel) Hhkb.out k (by omega)) ?_
    clear hE
    intro sb Ab nb cb tb Bb mb db w83 hE
    go_wp2_with fail
    refine hK.out _ _ (⟨hE.h3, hE.h11, hE.h17, hE.h13, hE.h10⟩) (fun hHeld => ?_)
    clear hK K
    try simp only [PL]
    refine r1 9 (fun K hK => ?_)
    go_simp
    refine hE.fr (pw_product (ca := cq) (da := dq) (cb := cb) (db := db) (hE.h12) (hE.here.2) (Hhyl.out k hlt).2.2.1 (Hhkl.out k) (Hhyl.out k hlt).2.2.2.1) ?_
    clear hE
    intro sh Ah nh ch th Bh mh dh w84 hE
    go_wp2_with fail
    refine hK.out _ _ (⟨hE.h4, hE.h12, hE.h18, hE.h14, hE.h11⟩) (fun hHeld => ?_)
    clear hK K
    try simp only [PL]
    refine r1 12 (fun K hK => ?_)
    go_simp
    refine hE.fr (pw_less (ca := co) (da := dio) (cb := cq) (db := dq) (hE.h15) (hE.h13) (by decide) (Hhyl.out k hlt).2.2.1 (Hhyl.out k hlt).2.2.2.2.1) ?_
    clear hE
    intro sl Al nl cl tl Bl ml dl w85 hE
    go_wp2_with fail
    refine hK.out _ _ (⟨hE.h5, hE.h13, hE.h19, hE.h15, hE.h12⟩) (fun hHeld => ?_)
    clear hK K
    try simp only [PL]
    refine r1 14 (fun K hK => ?_)
    go_simp
    refine hE.fr (pw_product (ca := cl) (da := dl) (cb := ce) (db := de) (hE.here.2) (hE.h11) (Hhyl.out k hlt).2.2.2.2.1 (Hhvl.out.a (k + 1)) (Hhyl.out k hlt).2.2.2.2.2.1) ?_
    clear hE
    intro sv Av nv cv tv Bv mv dv w86 hE
    go_wp2_with fail
    refine hK.out _ _ (⟨hE.h6, hE.h14, hE.h20, hE.h16, hE.h13⟩) (fun hHeld => ?_)
    clear hK K
    try simp only [PL]
    refine r1 15 (fun K hK => ?_)
    go_simp
    refine hE.fr (pw_sum (ca := ch) (da := dh) (cb := cv) (db := dv) (hE.h2) (hE.here.2) (Hhyl.out k hlt).2.2.2.1 (Hhyl.out k hlt).2.2.2.2.2.1 (Hhyl.out k hlt).2.2.2.2.2.2) ?_
    clear hE
    intro sz Az nz cz tz Bz mz dz w87 hE
    go_wp2_with fail
    refine hK.out _ _ (⟨hE.h7, hE.h15, hE.h21, hE.h17, hE.h14⟩) (fun hHeld => ?_)
    clear hK K
    try simp only [PL]
    refine r1 16 (fun K hK => ?_)
    go_simp
    refine hE.br (pw_equal (v := true) (ca := cw) (da := dw) (cb := cz) (db := dz) (hE.h5) (hE.here.2) (by have h := Hhvy.out k hlt; change (b.val x N k - x.L k) * (1 + b.i.q) = _ at h; rw [h]; exact (Hhyl.out k hlt).2.2.2.2.2.2) (Hhyl.out k hlt).2.2.2.2.2.2 (decide_eq_true (Hhvy.out k hlt))) ?_
    clear hE
    intro w88 hE
    go_wp2_with fail
    refine hK.out _ _ (⟨hE.h7, hE.h15, hE.h21, hE.h17, hE.h14⟩) (fun hHeld => ?_)
    clear hK K
    try simp only [PL]
    refine tk 17 ?_
    try simp only [PL]
    refine tk 18 ?_
    try simp only [PL]
    refine wpAnyH_done (by kernel_rfl) ?_ _
    go_wp2_with fail
    go_roundw
    case rel => exact ⟨k + 1, by omega, by (try simp) <;> norm_cast, (((((((Env.again hE.bel).blkI (hE.h22)).blkI (hE.h21)).frb (hE.h20)).frq (hE.h19)).fv (hE.h18)).blkI (hE.h17))⟩
    case measure => (simp [intOf]) <;> omega
   ·
    have t1 : decide ((k : Int) < (N : Int)) = false := decide_eq_false (by omega)
    have t2 : ¬ (k : Int) < (N : Int) := by omega
    go_wp2_with fail
    go_ret
    exact ⟨rfl, hE.bel⟩
 ·
  have Hhb := Lib.hid hb
  clear hb
  have Hhx := Lib.hid hx
  clear hx
  have HhU := Lib.hid hU
  clear hU
  have hE := ((Env.start w).blk 31 #[.int .i64 b.F, .int .i64 b.S, .slice b.A b.n b.c, .bool b.i.s, .slice b.i.A b.i.n b.i.c, .bool b.i.t, .slice b.i.B b.i.m b.i.d] (g := w.heap.size) rfl).blk 36 #[.int .i64 x.E, .int .i64 x.Y, .int .i64 x.T, .bool x.p.s, .slice x.p.A x.p.n x.p.c, .bool x.p.t, .slice x.p.B x.p.m x.p.d, .slice x.A x.n x.c, .slice x.B x.m x.d] (g := w.heap.size + 1) (by simp)
  obtain ⟨W0, hW0⟩ : ∃ W0, W0 = ((w.alloc (.cells #[.int .i64 b.F, .int .i64 b.S, .slice b.A b.n b.c, .bool b.i.s, .slice b.i.A b.i.n b.i.c, .bool b.i.t, .slice b.i.B b.i.m b.i.d] 31)).alloc (.cells #[.int .i64 x.E, .int .i64 x.Y, .int .i64 x.T, .bool x.p.s, .slice x.p.A x.p.n x.p.c, .bool x.p.t, .slice x.p.B x.p.m x.p.d, .slice x.A x.n x.c, .slice x.B x.m x.d] 36)) := ⟨_, rfl⟩
  rw [← hW0] at hE
  have HW0 := Lib.hid hW0
  clear hW0
  go_enter Tryz.func4, Tryz.ntmps4
  go_upto_region 1 with (fail)
  rw [← HW0.out]
  go_wp2_with fail
  refine hE.br (awakeP_t _) ?_
  clear hE
  intro w1 hE
  obtain ⟨k2, k3, k4, k5, k6, k7, k8⟩ := (hE.here.1.2).c7
  have k9 := (hE.here.2).cell 0
  have k10 := (hE.here.2).cell 1
  have k11 := (hE.here.2).cell 2
  have k12 := (hE.here.2).cell 3
  have k13 := (hE.here.2).cell 4
  have k14 := (hE.here.2).cell 5
  have k15 := (hE.here.2).cell 6
  have k16 := (hE.here.2).cell 7
  have k17 := (hE.here.2).cell 8
  go_wp2_with fail
  refine hE.br (pusable_f (Bh.rd_below Hhb.out hE.bel) (Ct.rd_below Hhx.out hE.bel) hT HhU.out) ?_
  clear hE k2 k3 k4 k5 k6 k7 k8 k9 k10 k11 k12 k13 k14 k15 k16 k17
  intro w18 hE
  go_wp2_with fail
  go_ret
  exact ⟨rfl, hE.bel⟩
end Go.Proofs.YtclbiihcbfnjmaaGreat
