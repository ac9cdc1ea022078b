/-
  The walks of survivor.Level and Exact, and of the laws' usable, total, within and sumAt.
-/
import Derived.Test.YtjgihmmeimfheaaGreatK3
import Derived.Test.YtjgihmmeimfheaaGreatK18
import Derived.Test.YtjgihmmeimfheaaGreatSV6
namespace Go.Proofs.YtjgihmmeimfheaaGreat
open Go.RowKit

def LevT (a : Int) (r : Nat → Cl) (n : Nat) (w : World) (e : Ending) (w' : World) : Prop := ∃ t, Lv (prs (wq r) (Kz r) (List.range n)) ((totZ a (wq r) (Kz r) n : Int) : Rat) t ∧ fl t ≤ 48 ∧ FOK t w e w'
def ExT (a : Int) (r : Nat → Cl) (n : Nat) (w : World) (e : Ending) (w' : World) : Prop := ∃ t g cap h, e = .returned (.tuple #[.slice (some ⟨g, 0, none⟩) n cap, .int .i64 0]) ∧ Lv (prs (wq r) (Kz r) (List.range n)) ((totZ a (wq r) (Kz r) n : Int) : Rat) t ∧ fl t ≤ 48 ∧ w.heap.size ≤ g ∧ Rw 29 4 g n cap (fun j => zqL (h j)) w' ∧ FqS h n (xq t (wq r) (Kz r)) w' ∧ Below w.heap.size w w'
/-- What usable says. -/
def Us (a : Int) (n : Nat) (r : Nat → Cl) : Prop := n ≤ 10 ∧ 0 ≤ a ∧ a ≤ 1099511627776 ∧ ClOK n r
set_option linter.unusedSimpArgs false in
set_option maxRecDepth 100000 in
set_option maxHeartbeats 4000000 in
theorem sLevel_v {A : Option Addr} {n c : Nat} {r : Nat → Cl} {w : World} (a : Int) (ha : 0 ≤ a ∧ a ≤ 1099511627776) (hM : ClM A n r w) (hok : ClOK n r) (hn : n ≤ 10) :
  Calls Tryz.prog 13 #[.int .i64 a, .slice A n c] w (LevT a r n w) := by
 have Hhok := Lib.hid hok
 clear hok
 have HhM := Lib.hid hM
 clear hM
 have hE := Env.start w
 have hE := hE.blk 29 #[.bool false, .slice none 0 0, .bool false, .slice none 0 0] (g := w.heap.size) rfl
 obtain ⟨W0, hW0⟩ : ∃ W0, W0 = (w.alloc (.cells #[.bool false, .slice none 0 0, .bool false, .slice none 0 0] 29)) := ⟨_, rfl⟩
 rw [← hW0] at hE
 have HW0 := Lib.hid hW0
 clear hW0
 go_enter Tryz.func13, Tryz.ntmps13
 go_upto_region 1 with (fail)
 rw [← HW0.out]
 go_wp2_with fail
 refine (svalid_any A n c r _ (HhM.out.below hE.bel)).mono ?_
 rintro e w1 ⟨v, rfl, hv, hb⟩
 replace hE := hE.step hb
 obtain rfl : v = true := hv.2 Hhok.out
 clear hv hb
 have t1 : decide (a < 0) = false := decide_eq_false (by omega)
 have t2 : decide ((1099511627776 : Int) < a) = false := decide_eq_false (by omega)
 go_wp2_with fail
 clear t1 t2
 refine (slevel_v a ha (HhM.out.below hE.bel) Hhok.out hn).mono ?_
 rintro e w2 ⟨t, hlv, hft, sq, Aq, nq, cq, tq, Bq, mq, dq, rfl, hq, hb⟩
 replace hE := (hE.step hb).fv hq
 clear hb hq
 have Hhlv := Lib.hid hlv
 clear hlv
 have hRl : w.heap.size ≤ w.heap.size := by omega
 obtain ⟨WW, hWW, hB, hV, hBel⟩ := ret_frac hE hE.here.1.2 hRl hE.here.2 cq dq
 obtain ⟨x0, x1, x2, x3⟩ := (hE.here.1.2).c4
 obtain ⟨fz0, fz1, fz2, fz3⟩ := hE.here.1.2.f4
 have HWW := Lib.hid hWW
 clear hWW
 go_wp2_with fail
 clear x0 x1 x2 x3
 rw [← HWW.out]
 obtain ⟨y0, y1, y2, y3⟩ := hB.c4
 refine bodyPost_ret (v := .tuple #[.agg #[.bool sq, .slice Aq nq cq, .bool tq, .slice Bq mq dq], .int .i64 0]) (by simp [results, Tryz.results13, go_sem, y0, y1, y2, y3]) rfl ?_
 exact ⟨t, Hhlv.out, hft, sq, Aq, nq, cq, tq, Bq, mq, dq, rfl, hV, hBel⟩
set_option linter.unusedSimpArgs false in
set_option maxRecDepth 100000 in
set_option maxHeartbeats 4000000 in
theorem sExact_v {A : Option Addr} {n c : Nat} {r : Nat → Cl} {w : World} (a : Int) (ha : 0 ≤ a ∧ a ≤ 1099511627776) (hM : ClM A n r w) (hok : ClOK n r) (hn : n ≤ 10) :
  Calls Tryz.prog 14 #[.int .i64 a, .slice A n c] w (ExT a r n w) := by
 have Hhok := Lib.hid hok
 clear hok
 have HhM := Lib.hid hM
 clear hM
 have hE := Env.start w
 go_enter Tryz.func14, Tryz.ntmps14
 go_wp2_with fail
 refine (svalid_any A n c r _ (HhM.out.below hE.bel)).mono ?_
 rintro e w1 ⟨v, rfl, hv, hb⟩
 replace hE := hE.step hb
 obtain rfl : v = true := hv.2 Hhok.out
 clear hv hb
 have t1 : decide (a < 0) = false := decide_eq_false (by omega)
 have t2 : decide ((1099511627776 : Int) < a) = false := decide_eq_false (by omega)
 go_wp2_with fail
 clear t1 t2
 refine (sexact_v a ha (HhM.out.below hE.bel) Hhok.out hn).mono ?_
 rintro e w2 ⟨t, g, cap, h, rfl, hlv, hft, hg, hR, hq, hb⟩
 have hwg : w.heap.size ≤ g := Nat.le_trans hE.bel.size hg
 replace hE := hE.step hb
 have HF := Lib.hid (And.intro hlv (And.intro hR (And.intro hq hE)))
 clear hlv hR hq hE hb hg
 go_wp2_with fail
 refine bodyPost_ret (v := .tuple #[.slice (some ⟨g, 0, none⟩) n cap, .int .i64 0]) (by simp [results, Tryz.results14, go_sem]) rfl ?_
 exact ⟨t, g, cap, h, rfl, HF.out.1, hft, hwg, HF.out.2.1, HF.out.2.2.1, HF.out.2.2.2.bel⟩
set_option linter.unusedSimpArgs false in
set_option maxRecDepth 100000 in
set_option maxHeartbeats 4000000 in
theorem susable_v {A : Option Addr} {n c : Nat} {r : Nat → Cl} {w : World} (a : Int) (hM : ClM A n r w) :
  Calls Tryz.prog 12 #[.int .i64 a, .slice A n c] w (BoolIff (Us a n r) w) := by
 have HM := Lib.hid hM
 clear hM
 by_cases h1 : n ≤ 10
 rotate_left
 ·
  have t1 : decide ((n : Int) ≤ 10) = false := decide_eq_false (by omega)
  have H1 := Lib.hid h1
  clear h1
  go_enter Tryz.func12, Tryz.ntmps12
  go_wp2_with fail
  go_ret
  exact ⟨false, rfl, no_iff (fun h => by have h1 := h.1; have h2 := H1.out; omega), Below.refl _ _⟩
 have t1 : decide ((n : Int) ≤ 10) = true := decide_eq_true (by omega)
 by_cases h2 : 0 ≤ a
 rotate_left
 ·
  have t2 : decide ((0 : Int) ≤ a) = false := decide_eq_false h2
  have H1 := Lib.hid h2
  clear h2
  go_enter Tryz.func12, Tryz.ntmps12
  go_wp2_with fail
  go_ret
  exact ⟨false, rfl, no_iff (fun h => by have h1 := h.2.1; have h2 := H1.out; omega), Below.refl _ _⟩
 have t2 : decide ((0 : Int) ≤ a) = true := decide_eq_true h2
 by_cases h3 : a ≤ 1099511627776
 rotate_left
 ·
  have t3 : decide (a ≤ 1099511627776) = false := decide_eq_false h3
  have H1 := Lib.hid h3
  clear h3
  go_enter Tryz.func12, Tryz.ntmps12
  go_wp2_with fail
  go_ret
  exact ⟨false, rfl, no_iff (fun h => by have h1 := h.2.2.1; have h2 := H1.out; omega), Below.refl _ _⟩
 have t3 : decide (a ≤ 1099511627776) = true := decide_eq_true h3
 have H123 := Lib.hid (And.intro h1 (And.intro h2 h3))
 clear h1 h2 h3
 go_enter Tryz.func12, Tryz.ntmps12
 go_wp2_with fail
 refine (svalid_any A n c r _ HM.out).mono ?_
 rintro e w1 ⟨v, rfl, hv, hb⟩
 have HV := Lib.hid (And.intro hv hb)
 clear hv hb
 go_wp2_with fail
 go_ret
 exact ⟨v, rfl, ⟨fun h => ⟨H123.out.1, H123.out.2.1, H123.out.2.2, HV.out.1.1 h⟩, fun h => HV.out.1.2 h.2.2.2⟩, HV.out.2⟩
set_option linter.unusedSimpArgs false in
set_option maxRecDepth 100000 in
set_option maxHeartbeats 4000000 in
theorem ltotal_v {A : Option Addr} {n c : Nat} {r : Nat → Cl} {w : World} (a : Int) (hM : ClM A n r w) (hok : ClOK n r) (hn : n ≤ 10) :
  Calls Tryz.prog 17 #[.int .i64 a, .slice A n c] w (fun e w' => e = .returned (.int .i64 (totZ a (wq r) (Kz r) n)) ∧ Below w.heap.size w w') := by
 have hKb := hok.K
 have hcb := fun k (hk : k ≤ n) => capS_b (w := wq r) (K := Kz r) (n := k) (M := 1099511627776) (fun j hj => hKb j (by omega)) (by decide)
 have hE := Env.start w
 have Hhok := Lib.hid hok
 clear hok
 have Hhcb := Lib.hid hcb
 clear hcb
 have HhM := Lib.hid hM
 clear hM
 have hmin : ∀ (W : World) (ts : Array TypeId) (t : TypeId), (Builtin.min_ ts t #[.int .i64 (capS (wq r) (Kz r) n), .int .i64 a]).run Tryz.prog W = .ok (.int .i64 (totZ a (wq r) (Kz r) n)) W := by
  intro W ts t; rw [run_min_int2]; congr 2; unfold totZ; split <;> omega
 have Hmin := Lib.hid hmin
 clear hmin
 go_enter Tryz.func17, Tryz.ntmps17
 go_wp2_with fail
 go_loopw [5, 6] (fun s x wr => ∃ k : Nat, k ≤ n ∧ s = .int .i64 (capS (wq r) (Kz r) k) ∧ x = .int .i64 (k : Int) ∧ Env w (fun V => True) wr) (fun _ x _ => n - (intOf x).toNat)
 case atStart => exact ⟨0, Nat.zero_le _, rfl, rfl, hE⟩
 case round =>
  clear hE
  obtain ⟨k, hk, rfl, rfl, hE⟩ := hrel
  by_cases hlt : k < n
  rotate_left
  ·
   obtain rfl : k = n := by omega
   have t1 : decide ((k : Int) < (k : Int)) = false := decide_eq_false (by omega)
   have hmin := Hmin.out
   go_wp2_with fail
   go_ret
   exact ⟨rfl, hE.bel⟩
  obtain ⟨b, o, rfl, hb, hc⟩ := (HhM.out.below hE.bel) (by omega)
  obtain ⟨x, hx⟩ : ∃ x, x = r k := ⟨_, rfl⟩
  obtain ⟨⟨d0, d1, d2, d3, d4, d5⟩, hrd⟩ := hc k hlt
  rw [← hx] at d0 d1 d2 d3 d4 d5 hrd
  have hxok : x.ok := by rw [hx]; exact (Hhok.out.2 k hlt).2
  have hnz := FV.nz (Cl.fv hxok hrd).1
  have t1 : decide ((k : Int) < (n : Int)) = true := decide_eq_true (by omega)
  have t2 : (k : Int) < (n : Int) := by omega
  obtain ⟨s, hs⟩ : ∃ s, s = capS (wq r) (Kz r) k := ⟨_, rfl⟩
  have hcs : capS (wq r) (Kz r) (k + 1) = s + if x.w.q = 0 then 0 else x.K := by rw [hs, hx]; rfl
  have hsb : 0 ≤ s ∧ s ≤ 10995116277760 := by have := Hhcb.out k hk; rw [hs]; omega
  have hxb : 0 ≤ x.K ∧ x.K ≤ 1099511627776 := by have := Hhok.out.K k hlt; rw [hx]; exact this
  rw [← hs]
  obtain ⟨nx, hnx⟩ : ∃ m, m = x.w.n := ⟨_, rfl⟩
  rw [← hnx] at d2 hnz
  have Hhx := Lib.hid hx
  clear hx
  have Hhs := Lib.hid hs
  clear hs
  have Hhcs := Lib.hid hcs
  clear hcs
  have Hhnx := Lib.hid hnx
  clear hnx
  have Hhnz := Lib.hid hnz
  clear hnz
  clear hc hrd hxok d0 d1 d3 d4
  by_cases h0 : nx = 0
  ·
   have u1 : decide ((0 : Int) < (nx : Int)) = false := decide_eq_false (by omega)
   have u2 : decide (0 < nx) = false := decide_eq_false (by omega)
   have H0 := Lib.hid h0
   clear h0
   go_wp2_with fail
   go_roundw
   case rel => exact ⟨k + 1, by omega, by rw [Hhcs.out, if_pos (Hhnz.out.1 H0.out), Int.add_zero], by go_num, hE⟩
   case measure => simp [intOf]; omega
  have u1 : decide ((0 : Int) < (nx : Int)) = true := decide_eq_true (by omega)
  have u2 : decide (0 < nx) = true := decide_eq_true (by omega)
  have H0 := Lib.hid h0
  clear h0
  have o1 : IntKind.i64.wrap (s + x.K) = s + x.K := by rw [IntKind.wrap_i64]; omega
  go_wp2_with fail
  go_roundw
  case rel => exact ⟨k + 1, by omega, by rw [Hhcs.out, if_neg (fun h => H0.out (Hhnz.out.2 h))], by go_num, hE⟩
  case measure => simp [intOf]; omega
set_option linter.unusedSimpArgs false in
set_option maxRecDepth 100000 in
set_option maxHeartbeats 4000000 in
theorem lwithin_v {t p : Rat} {sq tq : Bool} {Aq Bq : Option Addr} {nq cq mq dq : Nat} {x : Cl} {w : World} (hq : FV w t sq Aq nq tq Bq mq) (hx : FV w p x.w.s x.w.A x.w.n x.w.t x.w.B x.w.m) (lt : fl t ≤ 76) (lp : fl p ≤ 4) (bx : 0 ≤ x.K ∧ x.K ≤ 1099511627776) :
  Calls Tryz.prog 34 #[.agg #[.bool sq, .slice Aq nq cq, .bool tq, .slice Bq mq dq], .agg #[.int .i64 x.I, .bool x.w.s, .slice x.w.A x.w.n x.w.c, .bool x.w.t, .slice x.w.B x.w.m x.w.d, .int .i64 x.K]] w (FR (part t (p, ((x.K : Int) : Rat))) w) := by
 have hfp : fl (t * p) ≤ 80 := fl_times lt lp
 have hfK : fl ((x.K : Int) : Rat) ≤ 3 := fl_int3 (by omega) (by omega)
 have hE := ((((Env.start w).fv hq).fv hx).blk 29 #[.bool sq, .slice Aq nq cq, .bool tq, .slice Bq mq dq] (g := w.heap.size) rfl).blk 46 #[.int .i64 x.I, .bool x.w.s, .slice x.w.A x.w.n x.w.c, .bool x.w.t, .slice x.w.B x.w.m x.w.d, .int .i64 x.K] (g := w.heap.size + 1) (by simp)
 have hE := hE.blk 29 #[.bool false, .slice none 0 0, .bool false, .slice none 0 0] (g := w.heap.size + 1 + 1) (by simp)
 obtain ⟨W0, hW0⟩ : ∃ W0, W0 = (((w.alloc (.cells #[.bool sq, .slice Aq nq cq, .bool tq, .slice Bq mq dq] 29)).alloc (.cells #[.int .i64 x.I, .bool x.w.s, .slice x.w.A x.w.n x.w.c, .bool x.w.t, .slice x.w.B x.w.m x.w.d, .int .i64 x.K] 46)).alloc (.cells #[.bool false, .slice none 0 0, .bool false, .slice none 0 0] 29)) := ⟨_, rfl⟩
 rw [← hW0] at hE
 have HW0 := Lib.hid hW0
 clear hW0
 go_enter Tryz.func34, Tryz.ntmps34
 go_upto_region 1 with (fail)
 rw [← HW0.out]
 obtain ⟨k1, k2, k3, k4⟩ := (hE.h2).c4
 have k5 := (hE.here.1.2).cell 0
 have k6 := (hE.here.1.2).cell 1
 have k7 := (hE.here.1.2).cell 2
 have k8 := (hE.here.1.2).cell 3
 have k9 := (hE.here.1.2).cell 4
 have k10 := (hE.here.1.2).cell 5
 go_wp2_with fail
 refine hE.fr (fmul_v (ca := cq) (da := dq) (cb := x.w.c) (db := x.w.d) (hE.h4) (hE.h3) (by omega) (by omega) (by omega)) ?_
 clear hE k1 k2 k3 k4 k5 k6 k7 k8 k9 k10
 intro sr Ar nr cr tr Br mr dr w11 hE
 go_upto_region 2 with (fail)
 obtain ⟨g12, hg12⟩ : ∃ g12, g12 = w11.heap.size := ⟨_, rfl⟩
 have hl12_2 : w.heap.size < g12 := by rw [hg12]; exact (hE.h3).lt
 have hl12_3 : w.heap.size + 1 < g12 := by rw [hg12]; exact (hE.h2).lt
 have hl12_4 : w.heap.size + 1 + 1 < g12 := by rw [hg12]; exact (hE.here.1.2).lt
 replace hE := hE.blk 29 #[.bool sr, .slice Ar nr cr, .bool tr, .slice Br mr dr] (g := g12) hg12.symm
 generalize w11.alloc (.cells #[.bool sr, .slice Ar nr cr, .bool tr, .slice Br mr dr] 29) = W12 at hE ⊢
 rw [← hg12]
 clear hg12
 have k13 := (hE.h3).cell 0
 have k14 := (hE.h3).cell 1
 have k15 := (hE.h3).cell 2
 have k16 := (hE.h3).cell 3
 have k17 := (hE.h3).cell 4
 have k18 := (hE.h3).cell 5
 go_wp2_with fail
 refine hE.fr (ffromInt_v x.K _ (by omega) (by omega)) ?_
 clear hE k13 k14 k15 k16 k17 k18
 intro sf Af nf cf tf Bf mf df w19 hE
 go_upto_region 3 with (fail)
 obtain ⟨g20, hg20⟩ : ∃ g20, g20 = w19.heap.size := ⟨_, rfl⟩
 have hl20_2 : w.heap.size < g20 := by rw [hg20]; exact (hE.h5).lt
 have hl20_3 : w.heap.size + 1 < g20 := by rw [hg20]; exact (hE.h4).lt
 have hl20_4 : w.heap.size + 1 + 1 < g20 := by rw [hg20]; exact (hE.h3).lt
 have hl20_6 : g12 < g20 := by rw [hg20]; exact (hE.here.1.2).lt
 replace hE := hE.blk 29 #[.bool sf, .slice Af nf cf, .bool tf, .slice Bf mf df] (g := g20) hg20.symm
 generalize w19.alloc (.cells #[.bool sf, .slice Af nf cf, .bool tf, .slice Bf mf df] 29) = W20 at hE ⊢
 rw [← hg20]
 clear hg20
 obtain ⟨v, hv⟩ : ∃ v, decide (0 < cmpQ (t * p) ((x.K : Int) : Rat)) = v := ⟨_, rfl⟩
 obtain ⟨k21, k22, k23, k24⟩ := (hE.h2).c4
 obtain ⟨k25, k26, k27, k28⟩ := (hE.here.2).c4
 go_wp2_with fail
 refine hE.br (fcmp_v (ca := cr) (da := dr) (cb := cf) (db := df) (hE.h3) (hE.here.1.2) (by omega) (by omega)) ?_
 clear hE k21 k22 k23 k24 k25 k26 k27 k28
 intro w29 hE
 have hcm : v = true ↔ ¬ t * p ≤ ((x.K : Int) : Rat) := by
  rw [← hv, decide_eq_true_iff, cmpQ_val]
  split
  · rename_i h1; exact ⟨fun h2 => absurd h2 (by decide), fun h2 => absurd (Rat.le_of_lt h1) h2⟩
  ·
   rename_i h1; split
   · rename_i h2; exact ⟨fun h3 => absurd h3 (by decide), fun h3 => absurd (by rw [h2]; exact Rat.le_refl) h3⟩
   · rename_i h2; refine ⟨fun _ => fun h3 => ?_, fun _ => by decide⟩; grind
 have Hhcm := Lib.hid hcm
 clear hcm
 cases v with
 | true =>
  have hq : ((x.K : Int) : Rat) = part t (p, ((x.K : Int) : Rat)) := by unfold part mn; rw [if_neg (Hhcm.out.1 (by simp))]
  have Hhq := Lib.hid hq
  clear hq
  obtain ⟨k30, k31, k32, k33⟩ := (hE.here.2).c4
  have hRl : w.heap.size ≤ w.heap.size + 1 + 1 := by omega
  obtain ⟨WW, hWW, hB, hV, hBel⟩ := ret_frac hE hE.h4 hRl hE.here.1.2 cf df
  obtain ⟨x0, x1, x2, x3⟩ := (hE.h4).c4
  obtain ⟨fz0, fz1, fz2, fz3⟩ := hE.h4.f4
  have HWW := Lib.hid hWW
  clear hWW
  go_wp2_with fail
  clear x0 x1 x2 x3
  rw [← HWW.out]
  obtain ⟨y0, y1, y2, y3⟩ := hB.c4
  refine bodyPost_ret (v := .agg #[.bool sf, .slice Af nf cf, .bool tf, .slice Bf mf df]) (by simp [results, Tryz.results34, go_sem, y0, y1, y2, y3]) rfl ?_
  exact ⟨sf, Af, nf, cf, tf, Bf, mf, df, rfl, hV.to Hhq.out, hBel⟩
 | false =>
  have hq : t * p = part t (p, ((x.K : Int) : Rat)) := by unfold part mn; rw [if_pos (Classical.byContradiction fun h1 => absurd (Hhcm.out.2 h1) Bool.false_ne_true)]
  have Hhq := Lib.hid hq
  clear hq
  obtain ⟨k34, k35, k36, k37⟩ := (hE.h2).c4
  have hRl : w.heap.size ≤ w.heap.size + 1 + 1 := by omega
  obtain ⟨WW, hWW, hB, hV, hBel⟩ := ret_frac hE hE.h4 hRl hE.h3 cr dr
  obtain ⟨x0, x1, x2, x3⟩ := (hE.h4).c4
  obtain ⟨fz0, fz1, fz2, fz3⟩ := hE.h4.f4
  have HWW := Lib.hid hWW
  clear hWW
  go_wp2_with fail
  clear x0 x1 x2 x3
  rw [← HWW.out]
  obtain ⟨y0, y1, y2, y3⟩ := hB.c4
  refine bodyPost_ret (v := .agg #[.bool sr, .slice Ar nr cr, .bool tr, .slice Br mr dr]) (by simp [results, Tryz.results34, go_sem, y0, y1, y2, y3]) rfl ?_
  exact ⟨sr, Ar, nr, cr, tr, Br, mr, dr, rfl, hV.to Hhq.out, hBel⟩
set_option linter.unusedSimpArgs false in
set_option maxRecDepth 100000 in
set_option maxHeartbeats 4000000 in
theorem lsumAt_v {t : Rat} {sq tq : Bool} {Aq Bq : Option Addr} {nq cq mq dq : Nat} {A : Option Addr} {n c : Nat} {r : Nat → Cl} {w : World} (hq : FV w t sq Aq nq tq Bq mq) (h0 : 0 ≤ t) (lt : fl t ≤ 50) (hM : ClM A n r w) (hok : ClOK n r) (hn : n ≤ 10) :
  Calls Tryz.prog 31 #[.agg #[.bool sq, .slice Aq nq cq, .bool tq, .slice Bq mq dq], .slice A n c] w (FR (su (xq t (wq r) (Kz r)) n) w) := by
 have hw4 := hok.w hM
 have hK := hok.K
 have hfs : ∀ i, i ≤ n → fl (su (xq t (wq r) (Kz r)) i) ≤ 94 := fun i hi => fl_sumat h0 lt hn hw4 hK hi
 have hfx : ∀ i, i < n → fl (xq t (wq r) (Kz r) i) ≤ 60 := fun i hi => by
  unfold xq part mn; split
  · exact fl_le2 (fl_times lt (hw4 i hi).2) (by decide)
  · have h2 := hK i hi; exact fl_le2 (fl_int3 (by omega) (by omega)) (by decide)
 have h0s : ((0 : Int) : Rat) = su (xq t (wq r) (Kz r)) 0 := rfl
 have Hhok := Lib.hid hok
 clear hok
 have HhM := Lib.hid hM
 clear hM
 have Hhw4 := Lib.hid hw4
 clear hw4
 have HhK := Lib.hid hK
 clear hK
 have Hhfs := Lib.hid hfs
 clear hfs
 have Hhfx := Lib.hid hfx
 clear hfx
 have hE := ((Env.start w).fv hq).blk 29 #[.bool sq, .slice Aq nq cq, .bool tq, .slice Bq mq dq] (g := w.heap.size) rfl
 have hE := hE.blk 29 #[.bool false, .slice none 0 0, .bool false, .slice none 0 0] (g := w.heap.size + 1) (by simp)
 obtain ⟨W0, hW0⟩ : ∃ W0, W0 = ((w.alloc (.cells #[.bool sq, .slice Aq nq cq, .bool tq, .slice Bq mq dq] 29)).alloc (.cells #[.bool false, .slice none 0 0, .bool false, .slice none 0 0] 29)) := ⟨_, rfl⟩
 rw [← hW0] at hE
 have HW0 := Lib.hid hW0
 clear hW0
 go_enter Tryz.func31, Tryz.ntmps31
 go_upto_region 1 with (fail)
 rw [← HW0.out]
 go_wp2_with fail
 have hc := ffromInt_v 0 W0 (by decide) (by decide)
 rw [h0s] at hc
 refine hE.fr (hc) ?_
 clear hE
 intro sz Az nz cz tz Bz mz dz w1 hE
 clear hc h0s
 go_upto_region 2 with (fail)
 obtain ⟨g2, hg2⟩ : ∃ g2, g2 = w1.heap.size := ⟨_, rfl⟩
 have hl2_1 : w.heap.size < g2 := by rw [hg2]; exact (hE.h2).lt
 have hl2_2 : w.heap.size + 1 < g2 := by rw [hg2]; exact (hE.here.1.2).lt
 replace hE := hE.blk 29 #[.bool sz, .slice Az nz cz, .bool tz, .slice Bz mz dz] (g := g2) hg2.symm
 generalize w1.alloc (.cells #[.bool sz, .slice Az nz cz, .bool tz, .slice Bz mz dz] 29) = W2 at hE ⊢
 rw [← hg2]
 clear hg2
 go_wp2_with fail
 go_loopw [6] (fun x wr => ∃ (k : Nat) (sz : Bool) (Az : Option Addr) (nz cz : Nat) (tz : Bool) (Bz : Option Addr) (mz dz : Nat), k ≤ n ∧ x = .int .i64 (k : Int) ∧ Env w (fun V => (((((True ∧ FV V t sq Aq nq tq Bq mq) ∧ Blk 29 (w.heap.size) #[.bool sq, .slice Aq nq cq, .bool tq, .slice Bq mq dq] V) ∧ Blk 29 (w.heap.size + 1) #[.bool false, .slice none 0 0, .bool false, .slice none 0 0] V) ∧ FV V (su (xq t (wq r) (Kz r)) k) sz Az nz tz Bz mz) ∧ Blk 29 (g2) #[.bool sz, .slice Az nz cz, .bool tz, .slice Bz mz dz] V)) wr) (fun x _ => n - (intOf x).toNat)
 case atStart => exact ⟨0, sz, Az, nz, cz, tz, Bz, mz, dz, Nat.zero_le _, rfl, ((((((Env.again hE.bel).fv (hE.h4)).blkI (hE.h3)).blkI (hE.h2)).fv (hE.here.1.2)).blkI (hE.here.2))⟩
 case round =>
  clear hE
  obtain ⟨k, sz, Az, nz, cz, tz, Bz, mz, dz, hk, rfl, hE⟩ := hrel
  by_cases hlt : k < n
  rotate_left
  ·
   obtain rfl : k = n := by omega
   have t1 : decide ((k : Int) < (k : Int)) = false := decide_eq_false (by omega)
   obtain ⟨k3, k4, k5, k6⟩ := (hE.here.2).c4
   have hRl : w.heap.size ≤ w.heap.size + 1 := by omega
   obtain ⟨WW, hWW, hB, hV, hBel⟩ := ret_frac hE hE.h2 hRl hE.here.1.2 cz dz
   obtain ⟨x0, x1, x2, x3⟩ := (hE.h2).c4
   obtain ⟨fz0, fz1, fz2, fz3⟩ := hE.h2.f4
   have HWW := Lib.hid hWW
   clear hWW
   go_wp2_with fail
   clear x0 x1 x2 x3
   rw [← HWW.out]
   obtain ⟨y0, y1, y2, y3⟩ := hB.c4
   refine bodyPost_ret (v := .agg #[.bool sz, .slice Az nz cz, .bool tz, .slice Bz mz dz]) (by simp [results, Tryz.results31, go_sem, y0, y1, y2, y3]) rfl ?_
   exact ⟨sz, Az, nz, cz, tz, Bz, mz, dz, rfl, hV, hBel⟩
  obtain ⟨b, o, rfl, hb, hc⟩ := (HhM.out.below hE.bel) (by omega)
  obtain ⟨x, hx⟩ : ∃ x, x = r k := ⟨_, rfl⟩
  have hxok : x.ok := by rw [hx]; exact (Hhok.out.2 k hlt).2
  have hrd := (hc k hlt).2
  rw [← hx] at hrd
  have hfv := (Cl.fv hxok hrd).1
  have t1 : decide ((k : Int) < (n : Int)) = true := decide_eq_true (by omega)
  have t2 : (k : Int) < (n : Int) := by omega
  have hxq : part t (x.w.q, ((x.K : Int) : Rat)) = xq t (wq r) (Kz r) k := by rw [hx]; rfl
  have hxb := hxok.2.2
  have hx4 := (Cl.fv hxok hrd).2.2
  have hss : su (xq t (wq r) (Kz r)) k + xq t (wq r) (Kz r) k = su (xq t (wq r) (Kz r)) (k + 1) := rfl
  have hE := (hE.fv hfv).clm (HhM.out.below hE.bel)
  clear hfv hrd hxok hb hc
  have Hhx := Lib.hid hx
  clear hx
  have Hhxq := Lib.hid hxq
  clear hxq
  have Hhss := Lib.hid hss
  clear hss
  go_upto_region 5 with (fail)
  clear t1
  replace hE := hE.drew
  refine wp_region_held_drew (S := fun V => Blk 29 (w.heap.size) #[.bool sq, .slice Aq nq cq, .bool tq, .slice Bq mq dq] V ∧ ClM (some ⟨b, o, none⟩) n r V) (by kernel_rfl) (⟨hE.h5, hE.here.2⟩) (fun hHeld => ?_)
  generalize wr.drew = wd at *
  refine wpAnyH_take (i := 1) (v := ?v1_1_1) rfl (by kernel_rfl) (by kernel_rfl) (by kernel_rfl) (fun _ _ _ h => h) (Or.inl ⟨by rfl, ?hy1_1_1⟩) (by assumption) ?rest1_1_1
  case hy1_1_1 =>
   intro w hSw
   have kc0 := (hSw.1).cell 0
   have kc1 := (hSw.1).cell 1
   have kc2 := (hSw.1).cell 2
   have kc3 := (hSw.1).cell 3
   clear hSw
   first | (go_simp; done) | (go_simp; with_reducible rfl)
  try simp only [PL]
  refine tk 2 ?_
  try simp only [PL]
  refine tk 3 ?_
  try simp only [PL]
  refine tk 4 ?_
  try simp only [PL]
  refine wpAnyH_take (i := 5) (v := ?v1_5_5) rfl (by kernel_rfl) (by kernel_rfl) (by kernel_rfl) (fun _ _ _ h => h) (Or.inl ⟨by rfl, ?hy1_5_5⟩) (by assumption) ?rest1_5_5
  case hy1_5_5 =>
   intro w hSw
   obtain ⟨b2, o2, e2, -, hc2⟩ := hSw.2 (by omega)
   cases e2
   obtain ⟨⟨d0, d1, d2, d3, d4, d5⟩, -⟩ := hc2 k hlt
   rw [← Hhx.out] at d0 d1 d2 d3 d4 d5
   clear hc2
   clear hSw
   first | (go_simp; done) | (go_simp; with_reducible rfl)
  try simp only [PL]
  refine wpAnyH_ready (rs := [0, 6]) (by kernel_rfl) (by simp) (AllReadyH.cons rfl (fun K hK => ?_) (AllReadyH.cons rfl (fun K hK => ?_) (AllReadyH.nil)))
  ·
   obtain ⟨k7, k8, k9, k10⟩ := (hE.h2).c4
   go_simp
   clear k7 k8 k9 k10
   refine hK.out _ _ (⟨hE.h5, hE.here.2⟩) (fun hHeld => ?_)
   clear hK K
   try simp only [PL]
   refine r1 6 (fun K hK => ?_)
   go_simp
   have hc := lwithin_v (cq := cq) (dq := dq) (hE.h6) (hE.here.1.2) (by omega) hx4 hxb
   rw [Hhxq.out] at hc
   refine hE.fr (hc) ?_
   clear hE
   intro sr Ar nr cr tr Br mr dr w11 hE
   clear hc
   go_wp2_with fail
   refine hK.out _ _ (⟨hE.h6, hE.here.1.2⟩) (fun hHeld => ?_)
   clear hK K
   try simp only [PL]
   refine r1 7 (fun K hK => ?_)
   go_simp
   have hc := fadd_v (ca := cz) (da := dz) (cb := cr) (db := dr) (hE.h4) (hE.here.2) (fl_le2 (Hhfs.out k hk) (by decide)) (fl_le2 (Hhfx.out k hlt) (by decide)) (by rw [Hhss.out]; exact fl_le2 (Hhfs.out (k + 1) hlt) (by decide))
   rw [Hhss.out] at hc
   refine hE.fr (hc) ?_
   clear hE
   intro sy Ay ny cy ty By my dy w12 hE
   clear hc
   go_wp2_with fail
   refine hK.out _ _ (⟨hE.h7, hE.h2⟩) (fun hHeld => ?_)
   clear hK K
   try simp only [PL]
   refine tk 8 ?_
   try simp only [PL]
   refine tk 9 ?_
   try simp only [PL]
   refine tk 10 ?_
   try simp only [PL]
   refine r1 11 (fun K hK => ?_)
   have hgl13 : w.heap.size ≤ g2 := by omega
   obtain ⟨x13_0, x13_1, x13_2, x13_3⟩ := (hE.h4).c4
   obtain ⟨f13_0, f13_1, f13_2, f13_3⟩ := hE.h4.f4
   replace hE := ((((((((((Env.again (bel4 hE.bel hgl13 (.bool sy) (.slice Ay ny cy) (.bool ty) (.slice By my dy))).fv ((hE.h8).sep4 hE.h4 rfl (.bool sy) (.slice Ay ny cy) (.bool ty) (.slice By my dy) rfl rfl rfl)).blkI ((hE.h7).far4 (R := g2) (by omega) (.bool sy) (.slice Ay ny cy) (.bool ty) (.slice By my dy))).blkI ((hE.h6).far4 (R := g2) (by omega) (.bool sy) (.slice Ay ny cy) (.bool ty) (.slice By my dy))).fv ((hE.h5).sep4 hE.h4 rfl (.bool sy) (.slice Ay ny cy) (.bool ty) (.slice By my dy) rfl rfl rfl)).blkI ((hE.h4).s4 (.bool sy) (.slice Ay ny cy) (.bool ty) (.slice By my dy))).fv ((hE.h3).sep4 hE.h4 rfl (.bool sy) (.slice Ay ny cy) (.bool ty) (.slice By my dy) rfl rfl rfl)).clm (HhM.out.below (bel4 hE.bel (by omega) (.bool sy) (.slice Ay ny cy) (.bool ty) (.slice By my dy)))).fv ((hE.here.1.2).sep4 hE.h4 rfl (.bool sy) (.slice Ay ny cy) (.bool ty) (.slice By my dy) rfl rfl rfl)).fv ((hE.here.2).sep4 hE.h4 rfl (.bool sy) (.slice Ay ny cy) (.bool ty) (.slice By my dy) rfl rfl rfl))
   go_simp
   clear x13_0 x13_1 x13_2 x13_3 f13_0 f13_1 f13_2 f13_3 hgl13
   generalize ((((w12.setCell ⟨g2, 0, none⟩ (.bool sy)).setCell ⟨g2, 1, none⟩ (.slice Ay ny cy)).setCell ⟨g2, 2, none⟩ (.bool ty)).setCell ⟨g2, 3, none⟩ (.slice By my dy)) = W13 at hE ⊢
   refine hK.out _ _ (⟨hE.h7, hE.h2⟩) (fun hHeld => ?_)
   clear hK K
   try simp only [PL]
   refine wpAnyH_done (by kernel_rfl) ?_ _
   go_wp2_with fail
   go_roundw
   case rel => exact ⟨k + 1, sy, Ay, ny, cy, ty, By, my, dy, by omega, by go_num, ((((((Env.again hE.bel).fv (hE.h8)).blkI (hE.h7)).blkI (hE.h6)).fv (hE.here.2)).blkI (hE.h4))⟩
   case measure => simp [intOf]; omega
  ·
   go_simp
   have hc := lwithin_v (cq := cq) (dq := dq) (hE.h6) (hE.here.1.2) (by omega) hx4 hxb
   rw [Hhxq.out] at hc
   refine hE.fr (hc) ?_
   clear hE
   intro sr Ar nr cr tr Br mr dr w14 hE
   clear hc
   go_wp2_with fail
   refine hK.out _ _ (⟨hE.h6, hE.here.1.2⟩) (fun hHeld => ?_)
   clear hK K
   try simp only [PL]
   refine r1 0 (fun K hK => ?_)
   obtain ⟨k15, k16, k17, k18⟩ := (hE.h3).c4
   go_simp
   clear k15 k16 k17 k18
   refine hK.out _ _ (⟨hE.h6, hE.here.1.2⟩) (fun hHeld => ?_)
   clear hK K
   try simp only [PL]
   refine r1 7 (fun K hK => ?_)
   go_simp
   have hc := fadd_v (ca := cz) (da := dz) (cb := cr) (db := dr) (hE.h4) (hE.here.2) (fl_le2 (Hhfs.out k hk) (by decide)) (fl_le2 (Hhfx.out k hlt) (by decide)) (by rw [Hhss.out]; exact fl_le2 (Hhfs.out (k + 1) hlt) (by decide))
   rw [Hhss.out] at hc
   refine hE.fr (hc) ?_
   clear hE
   intro sy Ay ny cy ty By my dy w19 hE
   clear hc
   go_wp2_with fail
   refine hK.out _ _ (⟨hE.h7, hE.h2⟩) (fun hHeld => ?_)
   clear hK K
   try simp only [PL]
   refine tk 8 ?_
   try simp only [PL]
   refine tk 9 ?_
   try simp only [PL]
   refine tk 10 ?_
   try simp only [PL]
   refine r1 11 (fun K hK => ?_)
   have hgl20 : w.heap.size ≤ g2 := by omega
   obtain ⟨x20_0, x20_1, x20_2, x20_3⟩ := (hE.h4).c4
   obtain ⟨f20_0, f20_1, f20_2, f20_3⟩ := hE.h4.f4
   replace hE := ((((((((((Env.again (bel4 hE.bel hgl20 (.bool sy) (.slice Ay ny cy) (.bool ty) (.slice By my dy))).fv ((hE.h8).sep4 hE.h4 rfl (.bool sy) (.slice Ay ny cy) (.bool ty) (.slice By my dy) rfl rfl rfl)).blkI ((hE.h7).far4 (R := g2) (by omega) (.bool sy) (.slice Ay ny cy) (.bool ty) (.slice By my dy))).blkI ((hE.h6).far4 (R := g2) (by omega) (.bool sy) (.slice Ay ny cy) (.bool ty) (.slice By my dy))).fv ((hE.h5).sep4 hE.h4 rfl (.bool sy) (.slice Ay ny cy) (.bool ty) (.slice By my dy) rfl rfl rfl)).blkI ((hE.h4).s4 (.bool sy) (.slice Ay ny cy) (.bool ty) (.slice By my dy))).fv ((hE.h3).sep4 hE.h4 rfl (.bool sy) (.slice Ay ny cy) (.bool ty) (.slice By my dy) rfl rfl rfl)).clm (HhM.out.below (bel4 hE.bel (by omega) (.bool sy) (.slice Ay ny cy) (.bool ty) (.slice By my dy)))).fv ((hE.here.1.2).sep4 hE.h4 rfl (.bool sy) (.slice Ay ny cy) (.bool ty) (.slice By my dy) rfl rfl rfl)).fv ((hE.here.2).sep4 hE.h4 rfl (.bool sy) (.slice Ay ny cy) (.bool ty) (.slice By my dy) rfl rfl rfl))
   go_simp
   clear x20_0 x20_1 x20_2 x20_3 f20_0 f20_1 f20_2 f20_3 hgl20
   generalize ((((w19.setCell ⟨g2, 0, none⟩ (.bool sy)).setCell ⟨g2, 1, none⟩ (.slice Ay ny cy)).setCell ⟨g2, 2, none⟩ (.bool ty)).setCell ⟨g2, 3, none⟩ (.slice By my dy)) = W20 at hE ⊢
   refine hK.out _ _ (⟨hE.h7, hE.h2⟩) (fun hHeld => ?_)
   clear hK K
   try simp only [PL]
   refine wpAnyH_done (by kernel_rfl) ?_ _
   go_wp2_with fail
   go_roundw
   case rel => exact ⟨k + 1, sy, Ay, ny, cy, ty, By, my, dy, by omega, by go_num, ((((((Env.again hE.bel).fv (hE.h8)).blkI (hE.h7)).blkI (hE.h6)).fv (hE.here.2)).blkI (hE.h4))⟩
   case measure => simp [intOf]; omega
end Go.Proofs.YtjgihmmeimfheaaGreat
