/-
  Several texts in one: The walks of survivor.total and of the comparisons of byLimit and units.
-/
import Derived.Test.YtjgihmmeimfheaaGreatK3
import Derived.Test.YtjgihmmeimfheaaGreatK8
import Derived.Test.YtjgihmmeimfheaaGreatK13
import Derived.Test.YtjgihmmeimfheaaGreatK6
import Derived.Test.YtjgihmmeimfheaaGreatK12
set_option linter.unusedSimpArgs false
set_option maxRecDepth 100000
set_option maxHeartbeats 4000000
namespace Go.Proofs.YtjgihmmeimfheaaGreat
open Go.RowKit

def ixC (x : Cl) (i : Int) (l : FH) : List Value := [.int .i64 x.I, .bool x.w.s, .slice x.w.A x.w.n x.w.c, .bool x.w.t, .slice x.w.B x.w.m x.w.d, .int .i64 x.K, .int .i64 i, .bool l.s, .slice l.A l.n l.c, .bool l.t, .slice l.B l.m l.d]
theorem ixC_ok (x : Cl) (i : Int) (l : FH) : ∀ v ∈ ixC x i l, noLimb v = true ∧ v.oneCell' = true := fun v hv => by
 unfold ixC at hv;simp only [List.mem_cons, List.not_mem_nil, or_false] at hv
 rcases hv with rfl | rfl | rfl | rfl | rfl | rfl | rfl | rfl | rfl | rfl | rfl <;> exact ⟨rfl, rfl⟩
def zFH : FH := ⟨false, none, 0, 0, fun _ => 0, false, none, 0, 0, fun _ => 0⟩
def wq (r : Nat → Cl) (k : Nat) : Rat := (r k).w.q
def Kz (r : Nat → Cl) (k : Nat) : Int := (r k).K
theorem Cl.fv {x : Cl} {W : World} (h : x.ok) (hr : x.w.rd W) : FV W x.w.q x.w.s x.w.A x.w.n x.w.t x.w.B x.w.m ∧ 0 ≤ x.w.q ∧ fl x.w.q ≤ 4 := by
 obtain ⟨⟨h1, h2⟩, ⟨h3, h4⟩, -⟩ := h;have hv : FV W x.w.q x.w.s x.w.A x.w.n x.w.t x.w.B x.w.m := (okF_q hr h1).1;refine ⟨hv, ?_, ?_⟩
 ·
  have := hv.1.sgn;rw [h2] at this;have := of_decide_eq_false this.symm;exact Rat.num_nonneg.1 (by omega)
 ·
  have l1 := hv.1.len;have l2 := hv.2.len;rw [Int.natAbs_natCast] at l2;rw [fl_le];omega
theorem ClM.fv {b o n : Nat} {r : Nat → Cl} {W : World} (h : ClM (some ⟨b, o, none⟩) n r W) (hok : ClOK n r) {k : Nat} (hk : k < n) : (r k).cells W b (o + k * 6) ∧ FV W (wq r k) (r k).w.s (r k).w.A (r k).w.n (r k).w.t (r k).w.B (r k).w.m ∧ b < W.heap.size := by
 obtain ⟨b', o', e, hlt, hc⟩ := h (by omega)
 cases e
 exact ⟨(hc k hk).1, (Cl.fv (hok.2 k hk).2 (hc k hk).2).1, hlt⟩
theorem ClOK.w {n : Nat} {r : Nat → Cl} {A : Option Addr} {W : World} (hok : ClOK n r) (h : ClM A n r W) : ∀ k, k < n → 0 ≤ wq r k ∧ fl (wq r k) ≤ 4 := fun k hk => by
 obtain ⟨b, o, e, hlt, hc⟩ := h (by omega);exact (Cl.fv (hok.2 k hk).2 (hc k hk).2).2
theorem ClOK.K {n : Nat} {r : Nat → Cl} (hok : ClOK n r) : ∀ k, k < n → 0 ≤ Kz r k ∧ Kz r k ≤ 1099511627776 := fun k hk => (hok.2 k hk).2.2.2
theorem stotal_v {A : Option Addr} {n c : Nat} {r : Nat → Cl} {w : World} (a : Int) (hM : ClM A n r w) (hok : ClOK n r) (hn : n ≤ 32) :
  Calls Tryz.prog 42 #[.int .i64 a, .slice A n c] w fun e w' => e = .returned (.int .i64 (totZ a (wq r) (Kz r) n)) ∧ Below w.heap.size w w' := by
 have hKb := hok.K
 have hcb := fun k (hk : k ≤ n) => capS_b (w := wq r) (K := Kz r) (n := k) (M := 1099511627776) (fun j hj => hKb j (by omega)) (by decide)
 have hE := (Env.start w).clm hM;clear hM;have Hhok := Lib.hid hok;clear hok;have Hhcb := Lib.hid hcb;clear hcb
 have hmin : ∀ (W : World) (ts : Array TypeId) (t : TypeId), (Builtin.min_ ts t #[.int .i64 a, .int .i64 (capS (wq r) (Kz r) n)]).run Tryz.prog W = .ok (.int .i64 (totZ a (wq r) (Kz r) n)) W := by
  intro W ts t; rw [run_min_int2]; congr 2; unfold totZ; split <;> omega
 have Hmin := Lib.hid hmin;clear hmin
 go_enter Tryz.func42, Tryz.ntmps42
 go_wp2_with fail
 go_loopw [5, 10] (fun s x wr => ∃ k : Nat, k ≤ n ∧ s = .int .i64 (capS (wq r) (Kz r) k) ∧ x = .int .i64 (k : Int) ∧ Env w (fun V => True ∧ ClM A n r V) wr) (fun _ x _ => n - (intOf x).toNat)
 case atStart => exact ⟨0, Nat.zero_le _, rfl, rfl, hE⟩
 case round =>
  clear hE;obtain ⟨k, hk, rfl, rfl, hE⟩ := hrel
  by_cases hlt : k < n
  rotate_left
  ·
   obtain rfl : k = n := by omega
   have t1 : decide ((k : Int) < (k : Int)) = false := decide_eq_false (by omega);have hmin := Hmin.out;go_wp2_with fail
   go_ret
   exact ⟨rfl, hE.bel⟩
  obtain ⟨b, o, rfl, hb, hc⟩ := hE.here.2 (by omega)
  obtain ⟨x, hx⟩ : ∃ x, x = r k := ⟨_, rfl⟩
  obtain ⟨⟨d0, d1, d2, d3, d4, d5⟩, hrd⟩ := hc k hlt;rw [← hx] at d0 d1 d2 d3 d4 d5 hrd
  have hxok : x.ok := by rw [hx]; exact (Hhok.out.2 k hlt).2
  have hfv := (Cl.fv hxok hrd).1;have t1 : decide ((k : Int) < (n : Int)) = true := decide_eq_true (by omega)
  have t2 : (k : Int) < (n : Int) := by omega
  have hE := hE.fv hfv;clear hfv hrd hc hxok
  obtain ⟨s, hs⟩ : ∃ s, s = capS (wq r) (Kz r) k := ⟨_, rfl⟩
  have hcs : capS (wq r) (Kz r) (k + 1) = s + if x.w.q = 0 then 0 else x.K := by rw [hs, hx]; rfl
  have hsb : 0 ≤ s ∧ s ≤ 35184372088832 := by have := Hhcb.out k hk; rw [hs]; omega
  have hxb : 0 ≤ x.K ∧ x.K ≤ 1099511627776 := by have := Hhok.out.K k hlt; rw [hx]; exact this
  rw [← hs];have Hhx := Lib.hid hx;clear hx;have Hhs := Lib.hid hs;clear hs;have Hhcs := Lib.hid hcs;clear hcs
  go_upto_region 5 with (fail)
  clear d0 d1 d2 d3 d4 d5 t1
  obtain ⟨g1, hg1⟩ : ∃ g1, g1 = wr.heap.size := ⟨_, rfl⟩
  replace hE := hE.blk 46 #[.int .i64 x.I, .bool x.w.s, .slice x.w.A x.w.n x.w.c, .bool x.w.t, .slice x.w.B x.w.m x.w.d, .int .i64 x.K] (g := g1) hg1.symm;generalize wr.alloc (.cells #[.int .i64 x.I, .bool x.w.s, .slice x.w.A x.w.n x.w.c, .bool x.w.t, .slice x.w.B x.w.m x.w.d, .int .i64 x.K] 46) = W1 at hE ⊢;rw [← hg1];clear hg1;have k2 := (hE.here.2).cell 0;have k3 := (hE.here.2).cell 1;have k4 := (hE.here.2).cell 2;have k5 := (hE.here.2).cell 3;have k6 := (hE.here.2).cell 4;have k7 := (hE.here.2).cell 5;go_wp2_with fail
  refine (szero_v (ca := x.w.c) (da := x.w.d) (hE.here.1.2)).mono ?_
  rintro e w9 ⟨v, rfl, hv, hb9⟩
  replace hE := hE.step hb9;clear hb9;clear k2 k3 k4 k5 k6 k7;have HV := Lib.hid hv;clear hv;have k8 := (hE.here.2).cell 0;have k9 := (hE.here.2).cell 1;have k10 := (hE.here.2).cell 2;have k11 := (hE.here.2).cell 3;have k12 := (hE.here.2).cell 4;have k13 := (hE.here.2).cell 5
  cases v with
  | true =>
   go_wp2_with fail
   clear k8 k9 k10 k11 k12 k13
   go_roundw
   case rel => exact ⟨k + 1, by omega, by rw [Hhcs.out, if_pos (Rat.num_eq_zero.1 (HV.out.1 (by simp))), Int.add_zero], by go_num, (Env.again hE.bel).clm (hE.h2)⟩
   case measure => simp [intOf]; omega
  | false =>
   have o1 : IntKind.i64.wrap (s + x.K) = s + x.K := by rw [IntKind.wrap_i64]; omega
   go_wp2_with fail
   clear k8 k9 k10 k11 k12 k13
   go_roundw
   case rel => exact ⟨k + 1, by omega, by rw [Hhcs.out, if_neg (fun h => Bool.false_ne_true (HV.out.2 (Rat.num_eq_zero.2 h)))], by go_num, (Env.again hE.bel).clm (hE.h2)⟩
   case measure => simp [intOf]; omega
theorem sless_v {x y : Cl} {i j : Int} {l m : FH} {p q : Rat} {w : World} (hx : FV w p x.w.s x.w.A x.w.n x.w.t x.w.B x.w.m) (hy : FV w q y.w.s y.w.A y.w.n y.w.t y.w.B y.w.m) (lx : fl p ≤ 4) (ly : fl q ≤ 4) (bx : 0 ≤ x.K ∧ x.K ≤ 1099511627776) (by_ : 0 ≤ y.K ∧ y.K ≤ 1099511627776) :
  Calls Tryz.prog 111 #[.agg #[.int .i64 x.I, .bool x.w.s, .slice x.w.A x.w.n x.w.c, .bool x.w.t, .slice x.w.B x.w.m x.w.d, .int .i64 x.K, .int .i64 i, .bool l.s, .slice l.A l.n l.c, .bool l.t, .slice l.B l.m l.d], .agg #[.int .i64 y.I, .bool y.w.s, .slice y.w.A y.w.n y.w.c, .bool y.w.t, .slice y.w.B y.w.m y.w.d, .int .i64 y.K, .int .i64 j, .bool m.s, .slice m.A m.n m.c, .bool m.t, .slice m.B m.m m.d]] w (fun e w' => e = .returned (.int .i64 (cmpQ (((x.K : Int) : Rat) * q) (((y.K : Int) : Rat) * p))) ∧ Below w.heap.size w w') := by
 have l1 : fl ((x.K : Int) : Rat) ≤ 3 := fl_int3 (by omega) (by omega);have l2 : fl ((y.K : Int) : Rat) ≤ 3 := fl_int3 (by omega) (by omega);have m1 : fl (((x.K : Int) : Rat) * q) ≤ 7 := fl_times l1 ly;have m2 : fl (((y.K : Int) : Rat) * p) ≤ 7 := fl_times l2 lx;have hE := ((((Env.start w).fv hx).fv hy).blk 76 #[.int .i64 x.I, .bool x.w.s, .slice x.w.A x.w.n x.w.c, .bool x.w.t, .slice x.w.B x.w.m x.w.d, .int .i64 x.K, .int .i64 i, .bool l.s, .slice l.A l.n l.c, .bool l.t, .slice l.B l.m l.d] (g := w.heap.size) rfl).blk 76 #[.int .i64 y.I, .bool y.w.s, .slice y.w.A y.w.n y.w.c, .bool y.w.t, .slice y.w.B y.w.m y.w.d, .int .i64 y.K, .int .i64 j, .bool m.s, .slice m.A m.n m.c, .bool m.t, .slice m.B m.m m.d] (g := w.heap.size + 1) (by simp)
 obtain ⟨W0, hW0⟩ : ∃ W0, W0 = ((w.alloc (.cells #[.int .i64 x.I, .bool x.w.s, .slice x.w.A x.w.n x.w.c, .bool x.w.t, .slice x.w.B x.w.m x.w.d, .int .i64 x.K, .int .i64 i, .bool l.s, .slice l.A l.n l.c, .bool l.t, .slice l.B l.m l.d] 76)).alloc (.cells #[.int .i64 y.I, .bool y.w.s, .slice y.w.A y.w.n y.w.c, .bool y.w.t, .slice y.w.B y.w.m y.w.d, .int .i64 y.K, .int .i64 j, .bool m.s, .slice m.A m.n m.c, .bool m.t, .slice m.B m.m m.d] 76)) := ⟨_, rfl⟩
 rw [← hW0] at hE;have HW0 := Lib.hid hW0;clear hW0
 go_enter Tryz.func111, Tryz.ntmps111
 go_upto_region 1 with (fail)
 rw [← HW0.out]
 go_cut [5, 6] from 9 to 20 (fun p0 p1 wx => ∃ G1 sm1 Am1 nm1 cm1 tm1 Bm1 mm1 dm1, p0 = .pointer (some ⟨G1, 0, none⟩) ∧ p1 = .int .i64 0 ∧ (w.heap.size < G1 ∧ w.heap.size + 1 < G1) ∧ Env w (fun V => ((((((True ∧ FV V p x.w.s x.w.A x.w.n x.w.t x.w.B x.w.m) ∧ FV V q y.w.s y.w.A y.w.n y.w.t y.w.B y.w.m) ∧ Blk 76 (w.heap.size) #[.int .i64 x.I, .bool x.w.s, .slice x.w.A x.w.n x.w.c, .bool x.w.t, .slice x.w.B x.w.m x.w.d, .int .i64 x.K, .int .i64 i, .bool l.s, .slice l.A l.n l.c, .bool l.t, .slice l.B l.m l.d] V) ∧ Blk 76 (w.heap.size + 1) #[.int .i64 y.I, .bool y.w.s, .slice y.w.A y.w.n y.w.c, .bool y.w.t, .slice y.w.B y.w.m y.w.d, .int .i64 y.K, .int .i64 j, .bool m.s, .slice m.A m.n m.c, .bool m.t, .slice m.B m.m m.d] V) ∧ FV V (((x.K : Int) : Rat) * q) sm1 Am1 nm1 tm1 Bm1 mm1) ∧ Blk 29 (G1) #[.bool sm1, .slice Am1 nm1 cm1, .bool tm1, .slice Bm1 mm1 dm1] V)) wx)
 case first =>
  replace hE := hE.drew;refine wp_region_held_drew (S := fun V => Blk 76 (w.heap.size) #[.int .i64 x.I, .bool x.w.s, .slice x.w.A x.w.n x.w.c, .bool x.w.t, .slice x.w.B x.w.m x.w.d, .int .i64 x.K, .int .i64 i, .bool l.s, .slice l.A l.n l.c, .bool l.t, .slice l.B l.m l.d] V ∧ Blk 76 (w.heap.size + 1) #[.int .i64 y.I, .bool y.w.s, .slice y.w.A y.w.n y.w.c, .bool y.w.t, .slice y.w.B y.w.m y.w.d, .int .i64 y.K, .int .i64 j, .bool m.s, .slice m.A m.n m.c, .bool m.t, .slice m.B m.m m.d] V) (by kernel_rfl) (⟨hE.here.1.2, hE.here.2⟩) (fun hHeld => ?_)
  generalize W0.drew = wd at *
  refine tk 0 ?_;refine tk 1 ?_
  refine tk 2 ?_ (hy := by
   intro w hSw;have kc5 := (hSw.1).cell 5;clear hSw
   first | (go_simp; done) | (go_simp; with_reducible rfl))
  try simp only [PL]
  refine tk 4 ?_;refine tk 5 ?_
  refine tk 6 ?_ (hy := by
   intro w hSw;have kc1 := (hSw.2).cell 1;have kc2 := (hSw.2).cell 2;have kc3 := (hSw.2).cell 3;have kc4 := (hSw.2).cell 4;clear hSw
   first | (go_simp; done) | (go_simp; with_reducible rfl))
  try simp only [PL]
  refine wpAnyH_ready (rs := [3, 11]) (by kernel_rfl) (by simp) (AllReadyH.cons rfl (fun K hK => ?_) (AllReadyH.cons rfl (fun K hK => ?_) (AllReadyH.nil)))
  ·
   go_simp;refine hE.fr (ffromInt_v x.K _ (by omega) (by omega)) ?_;clear hE;intro sf1 Af1 nf1 cf1 tf1 Bf1 mf1 df1 w1 hE;go_wp2_with fail
   refine hK.out _ _ (⟨hE.h2, hE.here.1.2⟩) (fun hHeld => ?_);clear hK K;try simp only [PL]
   refine wpAnyH_ready (rs := [7, 11]) (by kernel_rfl) (by simp) (AllReadyH.cons rfl (fun K hK => ?_) (AllReadyH.cons rfl (fun K hK => ?_) (AllReadyH.nil)))
   ·
    go_simp;refine hE.fr (fmul_v (ca := cf1) (da := df1) (cb := y.w.c) (db := y.w.d) (hE.here.2) (hE.h3) (by omega) (by omega) (by omega)) ?_;clear hE;intro sm1 Am1 nm1 cm1 tm1 Bm1 mm1 dm1 w2 hE;go_wp2_with fail
    refine hK.out _ _ (⟨hE.h3, hE.h2⟩) (fun hHeld => ?_);clear hK K;try simp only [PL]
    refine tk 8 ?_;refine tk 9 ?_;refine tk 10 ?_;refine r1 11 (fun K hK => ?_);go_simp
    obtain ⟨g3, hg3⟩ : ∃ g3, g3 = w2.heap.size := ⟨_, rfl⟩
    have hl3_2 : w.heap.size < g3 := by rw [hg3]; exact (hE.h3).lt
    have hl3_3 : w.heap.size + 1 < g3 := by rw [hg3]; exact (hE.h2).lt
    replace hE := hE.blk 29 #[.bool false, .slice none 0 0, .bool false, .slice none 0 0] (g := g3) hg3.symm;generalize w2.alloc (.cells #[.bool false, .slice none 0 0, .bool false, .slice none 0 0] 29) = W3 at hE ⊢;rw [← hg3];clear hg3;refine hK.out _ _ (⟨hE.h4, hE.h3⟩) (fun hHeld => ?_);clear hK K;try simp only [PL]
    refine r1 12 (fun K hK => ?_)
    have hgl4 : w.heap.size ≤ g3 := by omega
    obtain ⟨x4_0, x4_1, x4_2, x4_3⟩ := (hE.here.2).c4;obtain ⟨f4_0, f4_1, f4_2, f4_3⟩ := hE.here.2.f4;replace hE := ((((((((Env.again (bel4 hE.bel hgl4 (.bool sm1) (.slice Am1 nm1 cm1) (.bool tm1) (.slice Bm1 mm1 dm1))).fv ((hE.h6).sep4 hE.here.2 rfl _ _ _ _ rfl rfl rfl)).fv ((hE.h5).sep4 hE.here.2 rfl _ _ _ _ rfl rfl rfl)).blkI ((hE.h4).far4 (by omega) _ _ _ _)).blkI ((hE.h3).far4 (by omega) _ _ _ _)).fv ((hE.h2).sep4 hE.here.2 rfl _ _ _ _ rfl rfl rfl)).fv ((hE.here.1.2).sep4 hE.here.2 rfl _ _ _ _ rfl rfl rfl)).blkI ((hE.here.2).s4 _ _ _ _));go_simp;clear x4_0 x4_1 x4_2 x4_3 f4_0 f4_1 f4_2 f4_3 hgl4;generalize ((((W3.setCell ⟨g3, 0, none⟩ (.bool sm1)).setCell ⟨g3, 1, none⟩ (.slice Am1 nm1 cm1)).setCell ⟨g3, 2, none⟩ (.bool tm1)).setCell ⟨g3, 3, none⟩ (.slice Bm1 mm1 dm1)) = W4 at hE ⊢;refine hK.out _ _ (⟨hE.h4, hE.h3⟩) (fun hHeld => ?_);clear hK K;try simp only [PL]
    refine tk 13 ?_;refine wpAnyH_done (by kernel_rfl) ?_ _;go_wp2_with fail
    go_meet
    exact ⟨g3, sm1, Am1, nm1, cm1, tm1, Bm1, mm1, dm1, rfl, rfl, ⟨by omega, by omega⟩, (((((((Env.again hE.bel).fv (hE.h6)).fv (hE.h5)).blkI (hE.h4)).blkI (hE.h3)).fv (hE.here.1.2)).blkI (hE.here.2))⟩
   ·
    go_simp
    obtain ⟨g5, hg5⟩ : ∃ g5, g5 = w1.heap.size := ⟨_, rfl⟩
    have hl5_2 : w.heap.size < g5 := by rw [hg5]; exact (hE.h2).lt
    have hl5_3 : w.heap.size + 1 < g5 := by rw [hg5]; exact (hE.here.1.2).lt
    replace hE := hE.blk 29 #[.bool false, .slice none 0 0, .bool false, .slice none 0 0] (g := g5) hg5.symm;generalize w1.alloc (.cells #[.bool false, .slice none 0 0, .bool false, .slice none 0 0] 29) = W5 at hE ⊢;rw [← hg5];clear hg5;refine hK.out _ _ (⟨hE.h3, hE.h2⟩) (fun hHeld => ?_);clear hK K;try simp only [PL]
    refine r1 7 (fun K hK => ?_);go_simp;refine hE.fr (fmul_v (ca := cf1) (da := df1) (cb := y.w.c) (db := y.w.d) (hE.here.1.2) (hE.h4) (by omega) (by omega) (by omega)) ?_;clear hE;intro sm1 Am1 nm1 cm1 tm1 Bm1 mm1 dm1 w6 hE;go_wp2_with fail
    refine hK.out _ _ (⟨hE.h4, hE.h3⟩) (fun hHeld => ?_);clear hK K;try simp only [PL]
    refine tk 8 ?_;refine tk 9 ?_;refine tk 10 ?_;refine r1 12 (fun K hK => ?_)
    have hgl7 : w.heap.size ≤ g5 := by omega
    obtain ⟨x7_0, x7_1, x7_2, x7_3⟩ := (hE.here.1.2).c4;obtain ⟨f7_0, f7_1, f7_2, f7_3⟩ := hE.here.1.2.f4;replace hE := ((((((((Env.again (bel4 hE.bel hgl7 (.bool sm1) (.slice Am1 nm1 cm1) (.bool tm1) (.slice Bm1 mm1 dm1))).fv ((hE.h6).sep4 hE.here.1.2 rfl _ _ _ _ rfl rfl rfl)).fv ((hE.h5).sep4 hE.here.1.2 rfl _ _ _ _ rfl rfl rfl)).blkI ((hE.h4).far4 (by omega) _ _ _ _)).blkI ((hE.h3).far4 (by omega) _ _ _ _)).fv ((hE.h2).sep4 hE.here.1.2 rfl _ _ _ _ rfl rfl rfl)).blkI ((hE.here.1.2).s4 _ _ _ _)).fv ((hE.here.2).sep4 hE.here.1.2 rfl _ _ _ _ rfl rfl rfl));go_simp;clear x7_0 x7_1 x7_2 x7_3 f7_0 f7_1 f7_2 f7_3 hgl7;generalize ((((w6.setCell ⟨g5, 0, none⟩ (.bool sm1)).setCell ⟨g5, 1, none⟩ (.slice Am1 nm1 cm1)).setCell ⟨g5, 2, none⟩ (.bool tm1)).setCell ⟨g5, 3, none⟩ (.slice Bm1 mm1 dm1)) = W7 at hE ⊢;refine hK.out _ _ (⟨hE.h4, hE.h3⟩) (fun hHeld => ?_);clear hK K;try simp only [PL]
    refine tk 13 ?_;refine wpAnyH_done (by kernel_rfl) ?_ _;go_wp2_with fail
    go_meet
    exact ⟨g5, sm1, Am1, nm1, cm1, tm1, Bm1, mm1, dm1, rfl, rfl, ⟨by omega, by omega⟩, (((((((Env.again hE.bel).fv (hE.h6)).fv (hE.h5)).blkI (hE.h4)).blkI (hE.h3)).fv (hE.here.2)).blkI (hE.here.1.2))⟩
  ·
   go_simp
   obtain ⟨g8, hg8⟩ : ∃ g8, g8 = wd.heap.size := ⟨_, rfl⟩
   have hl8_2 : w.heap.size < g8 := by rw [hg8]; exact (hE.here.1.2).lt
   have hl8_3 : w.heap.size + 1 < g8 := by rw [hg8]; exact (hE.here.2).lt
   replace hE := hE.blk 29 #[.bool false, .slice none 0 0, .bool false, .slice none 0 0] (g := g8) hg8.symm;generalize wd.alloc (.cells #[.bool false, .slice none 0 0, .bool false, .slice none 0 0] 29) = W8 at hE ⊢;rw [← hg8];clear hg8;refine hK.out _ _ (⟨hE.h2, hE.here.1.2⟩) (fun hHeld => ?_);clear hK K;try simp only [PL]
   refine r1 3 (fun K hK => ?_);go_simp;refine hE.fr (ffromInt_v x.K _ (by omega) (by omega)) ?_;clear hE;intro sf1 Af1 nf1 cf1 tf1 Bf1 mf1 df1 w9 hE;go_wp2_with fail
   refine hK.out _ _ (⟨hE.h3, hE.h2⟩) (fun hHeld => ?_);clear hK K;try simp only [PL]
   refine r1 7 (fun K hK => ?_);go_simp;refine hE.fr (fmul_v (ca := cf1) (da := df1) (cb := y.w.c) (db := y.w.d) (hE.here.2) (hE.h4) (by omega) (by omega) (by omega)) ?_;clear hE;intro sm1 Am1 nm1 cm1 tm1 Bm1 mm1 dm1 w10 hE;go_wp2_with fail
   refine hK.out _ _ (⟨hE.h4, hE.h3⟩) (fun hHeld => ?_);clear hK K;try simp only [PL]
   refine tk 8 ?_;refine tk 9 ?_;refine tk 10 ?_;refine r1 12 (fun K hK => ?_)
   have hgl11 : w.heap.size ≤ g8 := by omega
   obtain ⟨x11_0, x11_1, x11_2, x11_3⟩ := (hE.h2).c4;obtain ⟨f11_0, f11_1, f11_2, f11_3⟩ := hE.h2.f4;replace hE := ((((((((Env.again (bel4 hE.bel hgl11 (.bool sm1) (.slice Am1 nm1 cm1) (.bool tm1) (.slice Bm1 mm1 dm1))).fv ((hE.h6).sep4 hE.h2 rfl _ _ _ _ rfl rfl rfl)).fv ((hE.h5).sep4 hE.h2 rfl _ _ _ _ rfl rfl rfl)).blkI ((hE.h4).far4 (by omega) _ _ _ _)).blkI ((hE.h3).far4 (by omega) _ _ _ _)).blkI ((hE.h2).s4 _ _ _ _)).fv ((hE.here.1.2).sep4 hE.h2 rfl _ _ _ _ rfl rfl rfl)).fv ((hE.here.2).sep4 hE.h2 rfl _ _ _ _ rfl rfl rfl));go_simp;clear x11_0 x11_1 x11_2 x11_3 f11_0 f11_1 f11_2 f11_3 hgl11;generalize ((((w10.setCell ⟨g8, 0, none⟩ (.bool sm1)).setCell ⟨g8, 1, none⟩ (.slice Am1 nm1 cm1)).setCell ⟨g8, 2, none⟩ (.bool tm1)).setCell ⟨g8, 3, none⟩ (.slice Bm1 mm1 dm1)) = W11 at hE ⊢;refine hK.out _ _ (⟨hE.h4, hE.h3⟩) (fun hHeld => ?_);clear hK K;try simp only [PL]
   refine tk 13 ?_;refine wpAnyH_done (by kernel_rfl) ?_ _;go_wp2_with fail
   go_meet
   exact ⟨g8, sm1, Am1, nm1, cm1, tm1, Bm1, mm1, dm1, rfl, rfl, ⟨by omega, by omega⟩, (((((((Env.again hE.bel).fv (hE.h6)).fv (hE.h5)).blkI (hE.h4)).blkI (hE.h3)).fv (hE.here.2)).blkI (hE.h2))⟩
 case rest =>
 clear hE;obtain ⟨G1, sm1, Am1, nm1, cm1, tm1, Bm1, mm1, dm1, rfl, rfl, ⟨hG1_0, hG1_1⟩, hE⟩ := hcut;generalize wc = wk1 at hE ⊢
 go_upto_region 2 with (fail)
 go_cut [7, 8] from 20 to 31 (fun p0 p1 wx => ∃ G2 sm2 Am2 nm2 cm2 tm2 Bm2 mm2 dm2, p0 = .pointer (some ⟨G2, 0, none⟩) ∧ p1 = .int .i64 0 ∧ (w.heap.size < G2 ∧ w.heap.size + 1 < G2 ∧ G1 < G2) ∧ Env w (fun V => ((((((((True ∧ FV V p x.w.s x.w.A x.w.n x.w.t x.w.B x.w.m) ∧ FV V q y.w.s y.w.A y.w.n y.w.t y.w.B y.w.m) ∧ Blk 76 (w.heap.size) #[.int .i64 x.I, .bool x.w.s, .slice x.w.A x.w.n x.w.c, .bool x.w.t, .slice x.w.B x.w.m x.w.d, .int .i64 x.K, .int .i64 i, .bool l.s, .slice l.A l.n l.c, .bool l.t, .slice l.B l.m l.d] V) ∧ Blk 76 (w.heap.size + 1) #[.int .i64 y.I, .bool y.w.s, .slice y.w.A y.w.n y.w.c, .bool y.w.t, .slice y.w.B y.w.m y.w.d, .int .i64 y.K, .int .i64 j, .bool m.s, .slice m.A m.n m.c, .bool m.t, .slice m.B m.m m.d] V) ∧ FV V (((x.K : Int) : Rat) * q) sm1 Am1 nm1 tm1 Bm1 mm1) ∧ Blk 29 (G1) #[.bool sm1, .slice Am1 nm1 cm1, .bool tm1, .slice Bm1 mm1 dm1] V) ∧ FV V (((y.K : Int) : Rat) * p) sm2 Am2 nm2 tm2 Bm2 mm2) ∧ Blk 29 (G2) #[.bool sm2, .slice Am2 nm2 cm2, .bool tm2, .slice Bm2 mm2 dm2] V)) wx)
 case first =>
  replace hE := hE.drew;refine wp_region_held_drew (S := fun V => Blk 76 (w.heap.size + 1) #[.int .i64 y.I, .bool y.w.s, .slice y.w.A y.w.n y.w.c, .bool y.w.t, .slice y.w.B y.w.m y.w.d, .int .i64 y.K, .int .i64 j, .bool m.s, .slice m.A m.n m.c, .bool m.t, .slice m.B m.m m.d] V ∧ Blk 76 (w.heap.size) #[.int .i64 x.I, .bool x.w.s, .slice x.w.A x.w.n x.w.c, .bool x.w.t, .slice x.w.B x.w.m x.w.d, .int .i64 x.K, .int .i64 i, .bool l.s, .slice l.A l.n l.c, .bool l.t, .slice l.B l.m l.d] V) (by kernel_rfl) (⟨hE.h2, hE.h3⟩) (fun hHeld => ?_)
  generalize wk1.drew = wd at *
  refine tk 0 ?_;refine tk 1 ?_
  refine tk 2 ?_ (hy := by
   intro w hSw;have kc5 := (hSw.1).cell 5;clear hSw
   first | (go_simp; done) | (go_simp; with_reducible rfl))
  try simp only [PL]
  refine tk 4 ?_;refine tk 5 ?_
  refine tk 6 ?_ (hy := by
   intro w hSw;have kc1 := (hSw.2).cell 1;have kc2 := (hSw.2).cell 2;have kc3 := (hSw.2).cell 3;have kc4 := (hSw.2).cell 4;clear hSw
   first | (go_simp; done) | (go_simp; with_reducible rfl))
  try simp only [PL]
  refine wpAnyH_ready (rs := [3, 11]) (by kernel_rfl) (by simp) (AllReadyH.cons rfl (fun K hK => ?_) (AllReadyH.cons rfl (fun K hK => ?_) (AllReadyH.nil)))
  ·
   go_simp;refine hE.fr (ffromInt_v y.K _ (by omega) (by omega)) ?_;clear hE;intro sf2 Af2 nf2 cf2 tf2 Bf2 mf2 df2 w12 hE;go_wp2_with fail
   refine hK.out _ _ (⟨hE.h3, hE.h4⟩) (fun hHeld => ?_);clear hK K;try simp only [PL]
   refine wpAnyH_ready (rs := [7, 11]) (by kernel_rfl) (by simp) (AllReadyH.cons rfl (fun K hK => ?_) (AllReadyH.cons rfl (fun K hK => ?_) (AllReadyH.nil)))
   ·
    go_simp;refine hE.fr (fmul_v (ca := cf2) (da := df2) (cb := x.w.c) (db := x.w.d) (hE.here.2) (hE.h6) (by omega) (by omega) (by omega)) ?_;clear hE;intro sm2 Am2 nm2 cm2 tm2 Bm2 mm2 dm2 w13 hE;go_wp2_with fail
    refine hK.out _ _ (⟨hE.h4, hE.h5⟩) (fun hHeld => ?_);clear hK K;try simp only [PL]
    refine tk 8 ?_;refine tk 9 ?_;refine tk 10 ?_;refine r1 11 (fun K hK => ?_);go_simp
    obtain ⟨g14, hg14⟩ : ∃ g14, g14 = w13.heap.size := ⟨_, rfl⟩
    have hl14_2 : w.heap.size < g14 := by rw [hg14]; exact (hE.h5).lt
    have hl14_3 : w.heap.size + 1 < g14 := by rw [hg14]; exact (hE.h4).lt
    have hl14_5 : G1 < g14 := by rw [hg14]; exact (hE.h2).lt
    replace hE := hE.blk 29 #[.bool false, .slice none 0 0, .bool false, .slice none 0 0] (g := g14) hg14.symm;generalize w13.alloc (.cells #[.bool false, .slice none 0 0, .bool false, .slice none 0 0] 29) = W14 at hE ⊢;rw [← hg14];clear hg14;refine hK.out _ _ (⟨hE.h5, hE.h6⟩) (fun hHeld => ?_);clear hK K;try simp only [PL]
    refine r1 12 (fun K hK => ?_)
    have hgl15 : w.heap.size ≤ g14 := by omega
    obtain ⟨x15_0, x15_1, x15_2, x15_3⟩ := (hE.here.2).c4;obtain ⟨f15_0, f15_1, f15_2, f15_3⟩ := hE.here.2.f4;replace hE := ((((((((((Env.again (bel4 hE.bel hgl15 (.bool sm2) (.slice Am2 nm2 cm2) (.bool tm2) (.slice Bm2 mm2 dm2))).fv ((hE.h8).sep4 hE.here.2 rfl _ _ _ _ rfl rfl rfl)).fv ((hE.h7).sep4 hE.here.2 rfl _ _ _ _ rfl rfl rfl)).blkI ((hE.h6).far4 (by omega) _ _ _ _)).blkI ((hE.h5).far4 (by omega) _ _ _ _)).fv ((hE.h4).sep4 hE.here.2 rfl _ _ _ _ rfl rfl rfl)).blkI ((hE.h3).far4 (by omega) _ _ _ _)).fv ((hE.h2).sep4 hE.here.2 rfl _ _ _ _ rfl rfl rfl)).fv ((hE.here.1.2).sep4 hE.here.2 rfl _ _ _ _ rfl rfl rfl)).blkI ((hE.here.2).s4 _ _ _ _));go_simp;clear x15_0 x15_1 x15_2 x15_3 f15_0 f15_1 f15_2 f15_3 hgl15;generalize ((((W14.setCell ⟨g14, 0, none⟩ (.bool sm2)).setCell ⟨g14, 1, none⟩ (.slice Am2 nm2 cm2)).setCell ⟨g14, 2, none⟩ (.bool tm2)).setCell ⟨g14, 3, none⟩ (.slice Bm2 mm2 dm2)) = W15 at hE ⊢;refine hK.out _ _ (⟨hE.h5, hE.h6⟩) (fun hHeld => ?_);clear hK K;try simp only [PL]
    refine tk 13 ?_;refine wpAnyH_done (by kernel_rfl) ?_ _;go_wp2_with fail
    go_meet
    exact ⟨g14, sm2, Am2, nm2, cm2, tm2, Bm2, mm2, dm2, rfl, rfl, ⟨by omega, by omega, by omega⟩, (((((((((Env.again hE.bel).fv (hE.h8)).fv (hE.h7)).blkI (hE.h6)).blkI (hE.h5)).fv (hE.h4)).blkI (hE.h3)).fv (hE.here.1.2)).blkI (hE.here.2))⟩
   ·
    go_simp
    obtain ⟨g16, hg16⟩ : ∃ g16, g16 = w12.heap.size := ⟨_, rfl⟩
    have hl16_2 : w.heap.size < g16 := by rw [hg16]; exact (hE.h4).lt
    have hl16_3 : w.heap.size + 1 < g16 := by rw [hg16]; exact (hE.h3).lt
    have hl16_5 : G1 < g16 := by rw [hg16]; exact (hE.here.1.2).lt
    replace hE := hE.blk 29 #[.bool false, .slice none 0 0, .bool false, .slice none 0 0] (g := g16) hg16.symm;generalize w12.alloc (.cells #[.bool false, .slice none 0 0, .bool false, .slice none 0 0] 29) = W16 at hE ⊢;rw [← hg16];clear hg16;refine hK.out _ _ (⟨hE.h4, hE.h5⟩) (fun hHeld => ?_);clear hK K;try simp only [PL]
    refine r1 7 (fun K hK => ?_);go_simp;refine hE.fr (fmul_v (ca := cf2) (da := df2) (cb := x.w.c) (db := x.w.d) (hE.here.1.2) (hE.h7) (by omega) (by omega) (by omega)) ?_;clear hE;intro sm2 Am2 nm2 cm2 tm2 Bm2 mm2 dm2 w17 hE;go_wp2_with fail
    refine hK.out _ _ (⟨hE.h5, hE.h6⟩) (fun hHeld => ?_);clear hK K;try simp only [PL]
    refine tk 8 ?_;refine tk 9 ?_;refine tk 10 ?_;refine r1 12 (fun K hK => ?_)
    have hgl18 : w.heap.size ≤ g16 := by omega
    obtain ⟨x18_0, x18_1, x18_2, x18_3⟩ := (hE.here.1.2).c4;obtain ⟨f18_0, f18_1, f18_2, f18_3⟩ := hE.here.1.2.f4;replace hE := ((((((((((Env.again (bel4 hE.bel hgl18 (.bool sm2) (.slice Am2 nm2 cm2) (.bool tm2) (.slice Bm2 mm2 dm2))).fv ((hE.h8).sep4 hE.here.1.2 rfl _ _ _ _ rfl rfl rfl)).fv ((hE.h7).sep4 hE.here.1.2 rfl _ _ _ _ rfl rfl rfl)).blkI ((hE.h6).far4 (by omega) _ _ _ _)).blkI ((hE.h5).far4 (by omega) _ _ _ _)).fv ((hE.h4).sep4 hE.here.1.2 rfl _ _ _ _ rfl rfl rfl)).blkI ((hE.h3).far4 (by omega) _ _ _ _)).fv ((hE.h2).sep4 hE.here.1.2 rfl _ _ _ _ rfl rfl rfl)).blkI ((hE.here.1.2).s4 _ _ _ _)).fv ((hE.here.2).sep4 hE.here.1.2 rfl _ _ _ _ rfl rfl rfl));go_simp;clear x18_0 x18_1 x18_2 x18_3 f18_0 f18_1 f18_2 f18_3 hgl18;generalize ((((w17.setCell ⟨g16, 0, none⟩ (.bool sm2)).setCell ⟨g16, 1, none⟩ (.slice Am2 nm2 cm2)).setCell ⟨g16, 2, none⟩ (.bool tm2)).setCell ⟨g16, 3, none⟩ (.slice Bm2 mm2 dm2)) = W18 at hE ⊢;refine hK.out _ _ (⟨hE.h5, hE.h6⟩) (fun hHeld => ?_);clear hK K;try simp only [PL]
    refine tk 13 ?_;refine wpAnyH_done (by kernel_rfl) ?_ _;go_wp2_with fail
    go_meet
    exact ⟨g16, sm2, Am2, nm2, cm2, tm2, Bm2, mm2, dm2, rfl, rfl, ⟨by omega, by omega, by omega⟩, (((((((((Env.again hE.bel).fv (hE.h8)).fv (hE.h7)).blkI (hE.h6)).blkI (hE.h5)).fv (hE.h4)).blkI (hE.h3)).fv (hE.here.2)).blkI (hE.here.1.2))⟩
  ·
   go_simp
   obtain ⟨g19, hg19⟩ : ∃ g19, g19 = wd.heap.size := ⟨_, rfl⟩
   have hl19_2 : w.heap.size < g19 := by rw [hg19]; exact (hE.h3).lt
   have hl19_3 : w.heap.size + 1 < g19 := by rw [hg19]; exact (hE.h2).lt
   have hl19_5 : G1 < g19 := by rw [hg19]; exact (hE.here.2).lt
   replace hE := hE.blk 29 #[.bool false, .slice none 0 0, .bool false, .slice none 0 0] (g := g19) hg19.symm;generalize wd.alloc (.cells #[.bool false, .slice none 0 0, .bool false, .slice none 0 0] 29) = W19 at hE ⊢;rw [← hg19];clear hg19;refine hK.out _ _ (⟨hE.h3, hE.h4⟩) (fun hHeld => ?_);clear hK K;try simp only [PL]
   refine r1 3 (fun K hK => ?_);go_simp;refine hE.fr (ffromInt_v y.K _ (by omega) (by omega)) ?_;clear hE;intro sf2 Af2 nf2 cf2 tf2 Bf2 mf2 df2 w20 hE;go_wp2_with fail
   refine hK.out _ _ (⟨hE.h4, hE.h5⟩) (fun hHeld => ?_);clear hK K;try simp only [PL]
   refine r1 7 (fun K hK => ?_);go_simp;refine hE.fr (fmul_v (ca := cf2) (da := df2) (cb := x.w.c) (db := x.w.d) (hE.here.2) (hE.h7) (by omega) (by omega) (by omega)) ?_;clear hE;intro sm2 Am2 nm2 cm2 tm2 Bm2 mm2 dm2 w21 hE;go_wp2_with fail
   refine hK.out _ _ (⟨hE.h5, hE.h6⟩) (fun hHeld => ?_);clear hK K;try simp only [PL]
   refine tk 8 ?_;refine tk 9 ?_;refine tk 10 ?_;refine r1 12 (fun K hK => ?_)
   have hgl22 : w.heap.size ≤ g19 := by omega
   obtain ⟨x22_0, x22_1, x22_2, x22_3⟩ := (hE.h2).c4;obtain ⟨f22_0, f22_1, f22_2, f22_3⟩ := hE.h2.f4;replace hE := ((((((((((Env.again (bel4 hE.bel hgl22 (.bool sm2) (.slice Am2 nm2 cm2) (.bool tm2) (.slice Bm2 mm2 dm2))).fv ((hE.h8).sep4 hE.h2 rfl _ _ _ _ rfl rfl rfl)).fv ((hE.h7).sep4 hE.h2 rfl _ _ _ _ rfl rfl rfl)).blkI ((hE.h6).far4 (by omega) _ _ _ _)).blkI ((hE.h5).far4 (by omega) _ _ _ _)).fv ((hE.h4).sep4 hE.h2 rfl _ _ _ _ rfl rfl rfl)).blkI ((hE.h3).far4 (by omega) _ _ _ _)).blkI ((hE.h2).s4 _ _ _ _)).fv ((hE.here.1.2).sep4 hE.h2 rfl _ _ _ _ rfl rfl rfl)).fv ((hE.here.2).sep4 hE.h2 rfl _ _ _ _ rfl rfl rfl));go_simp;clear x22_0 x22_1 x22_2 x22_3 f22_0 f22_1 f22_2 f22_3 hgl22;generalize ((((w21.setCell ⟨g19, 0, none⟩ (.bool sm2)).setCell ⟨g19, 1, none⟩ (.slice Am2 nm2 cm2)).setCell ⟨g19, 2, none⟩ (.bool tm2)).setCell ⟨g19, 3, none⟩ (.slice Bm2 mm2 dm2)) = W22 at hE ⊢;refine hK.out _ _ (⟨hE.h5, hE.h6⟩) (fun hHeld => ?_);clear hK K;try simp only [PL]
   refine tk 13 ?_;refine wpAnyH_done (by kernel_rfl) ?_ _;go_wp2_with fail
   go_meet
   exact ⟨g19, sm2, Am2, nm2, cm2, tm2, Bm2, mm2, dm2, rfl, rfl, ⟨by omega, by omega, by omega⟩, (((((((((Env.again hE.bel).fv (hE.h8)).fv (hE.h7)).blkI (hE.h6)).blkI (hE.h5)).fv (hE.h4)).blkI (hE.h3)).fv (hE.here.2)).blkI (hE.h2))⟩
 case rest =>
 clear hE;obtain ⟨G2, sm2, Am2, nm2, cm2, tm2, Bm2, mm2, dm2, rfl, rfl, ⟨hG2_0, hG2_1, hG2_2⟩, hE⟩ := hcut;generalize wc = wk2 at hE ⊢
 go_upto_region 3 with (fail)
 obtain ⟨k23, k24, k25, k26⟩ := (hE.h2).c4;obtain ⟨k27, k28, k29, k30⟩ := (hE.here.2).c4;go_wp2_with fail
 refine hE.br (fcmp_v (ca := cm1) (da := dm1) (cb := cm2) (db := dm2) (hE.h3) (hE.here.1.2) (by omega) (by omega)) ?_;clear hE k23 k24 k25 k26 k27 k28 k29 k30;intro w31 hE;go_wp2_with fail
 go_ret
 exact ⟨rfl, hE.bel⟩
theorem slost_v {x y : Cl} {i j : Int} {l m : FH} {p q : Rat} {w : World} (hl : FV w p l.s l.A l.n l.t l.B l.m) (hm : FV w q m.s m.A m.n m.t m.B m.m) (ll : fl p ≤ 256) (lm : fl q ≤ 256) :
  Calls Tryz.prog 82 #[.agg #[.int .i64 x.I, .bool x.w.s, .slice x.w.A x.w.n x.w.c, .bool x.w.t, .slice x.w.B x.w.m x.w.d, .int .i64 x.K, .int .i64 i, .bool l.s, .slice l.A l.n l.c, .bool l.t, .slice l.B l.m l.d], .agg #[.int .i64 y.I, .bool y.w.s, .slice y.w.A y.w.n y.w.c, .bool y.w.t, .slice y.w.B y.w.m y.w.d, .int .i64 y.K, .int .i64 j, .bool m.s, .slice m.A m.n m.c, .bool m.t, .slice m.B m.m m.d]] w (fun e w' => e = .returned (.int .i64 (cmpQ q p)) ∧ Below w.heap.size w w') := by
 have hE := ((((Env.start w).fv hl).fv hm).blk 76 #[.int .i64 x.I, .bool x.w.s, .slice x.w.A x.w.n x.w.c, .bool x.w.t, .slice x.w.B x.w.m x.w.d, .int .i64 x.K, .int .i64 i, .bool l.s, .slice l.A l.n l.c, .bool l.t, .slice l.B l.m l.d] (g := w.heap.size) rfl).blk 76 #[.int .i64 y.I, .bool y.w.s, .slice y.w.A y.w.n y.w.c, .bool y.w.t, .slice y.w.B y.w.m y.w.d, .int .i64 y.K, .int .i64 j, .bool m.s, .slice m.A m.n m.c, .bool m.t, .slice m.B m.m m.d] (g := w.heap.size + 1) (by simp)
 obtain ⟨W0, hW0⟩ : ∃ W0, W0 = ((w.alloc (.cells #[.int .i64 x.I, .bool x.w.s, .slice x.w.A x.w.n x.w.c, .bool x.w.t, .slice x.w.B x.w.m x.w.d, .int .i64 x.K, .int .i64 i, .bool l.s, .slice l.A l.n l.c, .bool l.t, .slice l.B l.m l.d] 76)).alloc (.cells #[.int .i64 y.I, .bool y.w.s, .slice y.w.A y.w.n y.w.c, .bool y.w.t, .slice y.w.B y.w.m y.w.d, .int .i64 y.K, .int .i64 j, .bool m.s, .slice m.A m.n m.c, .bool m.t, .slice m.B m.m m.d] 76)) := ⟨_, rfl⟩
 rw [← hW0] at hE;have HW0 := Lib.hid hW0;clear hW0
 go_enter Tryz.func82, Tryz.ntmps82
 go_upto_region 1 with (fail)
 rw [← HW0.out];have k1 := (hE.here.1.2).cell 0;have k2 := (hE.here.1.2).cell 1;have k3 := (hE.here.1.2).cell 2;have k4 := (hE.here.1.2).cell 3;have k5 := (hE.here.1.2).cell 4;have k6 := (hE.here.1.2).cell 5;have k7 := (hE.here.1.2).cell 6;have k8 := (hE.here.1.2).cell 7;have k9 := (hE.here.1.2).cell 8;have k10 := (hE.here.1.2).cell 9;have k11 := (hE.here.1.2).cell 10;have k12 := (hE.here.2).cell 0;have k13 := (hE.here.2).cell 1;have k14 := (hE.here.2).cell 2;have k15 := (hE.here.2).cell 3;have k16 := (hE.here.2).cell 4;have k17 := (hE.here.2).cell 5;have k18 := (hE.here.2).cell 6;have k19 := (hE.here.2).cell 7;have k20 := (hE.here.2).cell 8;have k21 := (hE.here.2).cell 9;have k22 := (hE.here.2).cell 10;go_wp2_with fail
 refine hE.br (fcmp_v (ca := m.c) (da := m.d) (cb := l.c) (db := l.d) (hE.h2) (hE.h3) lm ll) ?_;clear hE k1 k2 k3 k4 k5 k6 k7 k8 k9 k10 k11 k12 k13 k14 k15 k16 k17 k18 k19 k20 k21 k22;intro w23 hE;go_wp2_with fail
 go_ret
 exact ⟨rfl, hE.bel⟩
end Go.Proofs.YtjgihmmeimfheaaGreat
