/-
  Several texts in one: The walk of the reference's Valid of claims. The walk of the reference's Without. Amounts and claims that are not allowed.
-/
import Derived.Test.YtjgihmmeimfheaaGreatK3
import Derived.Test.YtjgihmmeimfheaaGreatK8
import Derived.Test.YtjgihmmeimfheaaGreatK21
set_option linter.unusedSimpArgs false
set_option maxRecDepth 100000
set_option maxHeartbeats 8000000
namespace Go.Proofs.YtjgihmmeimfheaaGreat
section
open Go.RowKit

theorem rsvalid_v {A : Option Addr} {n c : Nat} {r : Nat → Cl} {w : World} (hM : ClM A n r w) :
  Calls Tryz.prog 26 #[.slice A n c] w (BoolIff (ClOK n r) w) := by
 have hE := (Env.start w).clm hM;clear hM
 go_enter Tryz.func26, Tryz.ntmps26
 by_cases hn : n ≤ 32
 rotate_left
 ·
  have t1 : decide ((32 : Int) < (n : Int)) = true := decide_eq_true (by omega);have HN := Lib.hid hn;clear hn;go_wp2_with fail
  go_ret
  exact ⟨false, rfl, no_iff (fun h => HN.out h.1), hE.bel⟩
 have t1 : decide ((32 : Int) < (n : Int)) = false := decide_eq_false (by omega);go_wp2_with fail
 clear t1
 go_loopw [3] (fun x wr => ∃ k : Nat, k ≤ n ∧ x = .int .i64 (k : Int) ∧ Hid (∀ j, j < k → (∀ i, j = i + 1 → (r i).I < (r j).I) ∧ (r j).ok) ∧ Env w (fun V => (True ∧ ClM A n r V)) wr) (fun x _ => n - (intOf x).toNat)
 case atStart => exact ⟨0, Nat.zero_le _, rfl, Lib.hid (fun j hj => absurd hj (Nat.not_lt_zero j)), hE⟩
 case round =>
  clear hE;obtain ⟨k, hk, rfl, HK, hE⟩ := hrel
  by_cases hlt : k < n
  rotate_left
  ·
   obtain rfl : n = k := by omega
   have t1 : decide ((n : Int) < (n : Int)) = false := decide_eq_false (by omega);go_wp2_with fail
   go_ret
   exact ⟨true, rfl, yes_iff ⟨hn, HK.out⟩, hE.bel⟩
  have t1 : decide ((k : Int) < (n : Int)) = true := decide_eq_true (by omega)
  have t2 : (k : Int) < (n : Int) := by omega
  obtain ⟨b, o, rfl, hb, hc⟩ := hE.here.2 (by omega)
  obtain ⟨x, hx⟩ : ∃ x, x = r k := ⟨_, rfl⟩
  obtain ⟨⟨d0, d1, d2, d3, d4, d5⟩, -⟩ := hc k hlt;rw [← hx] at d0 d1 d2 d3 d4 d5;clear hb hc;have Hhx := Lib.hid hx;clear hx
  go_upto_region 7 with (fail)
  clear d0 d1 d2 d3 d4 d5 t1
  obtain ⟨g1, hg1⟩ : ∃ g1, g1 = wr.heap.size := ⟨_, rfl⟩
  have hlw_g1 : w.heap.size ≤ g1 := by rw [hg1]; exact hE.bel.size
  replace hE := hE.blk 29 #[.bool x.w.s, .slice x.w.A x.w.n x.w.c, .bool x.w.t, .slice x.w.B x.w.m x.w.d] (g := g1) hg1.symm;generalize wr.alloc (.cells #[.bool x.w.s, .slice x.w.A x.w.n x.w.c, .bool x.w.t, .slice x.w.B x.w.m x.w.d] 29) = W1 at hE ⊢;rw [← hg1];clear hg1
  by_cases c0 : x.K < 0
  ·
   have u0 : decide (x.K < 0) = true := decide_eq_true c0;have Hc0 := Lib.hid c0;clear c0;replace hE := hE.drew;refine wp_region_held_drew (S := fun V => ClM (some ⟨b, o, none⟩) n r V ∧ Blk 29 (g1) #[.bool x.w.s, .slice x.w.A x.w.n x.w.c, .bool x.w.t, .slice x.w.B x.w.m x.w.d] V) (by kernel_rfl) (⟨hE.here.1.2, hE.here.2⟩) (fun hHeld => ?_)
   generalize W1.drew = wd at *
   refine tk 0 ?_;refine tk 1 ?_;refine tk 2 ?_;refine tk 3 ?_
   refine tk 4 ?_ (hy := by
    intro w hSw;obtain ⟨b2, o2, e2, -, hc2⟩ := hSw.1 (by omega)
    cases e2
    obtain ⟨⟨d0, d1, d2, d3, d4, d5⟩, -⟩ := hc2 k hlt;rw [← Hhx.out] at d0 d1 d2 d3 d4 d5;clear hc2;clear hSw
    first | (go_simp; done) | (go_simp; with_reducible rfl))
   try simp only [PL]
   refine tk 5 ?_;refine tk 6 ?_;refine tu 7 ?_;refine tu 8 ?_;refine tu 9 ?_;refine tu 10 ?_;refine tu 11 ?_;refine tu 12 ?_;refine tk 13 ?_;refine tk 14 ?_;refine tu 15 ?_;refine tu 16 ?_;refine tu 17 ?_;refine tu 18 ?_;refine tu 19 ?_;refine tk 20 ?_;refine tk 21 ?_;refine tu 22 ?_;refine tu 23 ?_;refine tu 24 ?_;refine tu 25 ?_;refine tu 26 ?_;refine tk 27 ?_;refine tk 28 ?_;refine tu 29 ?_;refine tu 30 ?_;refine tu 31 ?_;refine tk 32 ?_;refine tk 33 ?_;refine tu 34 ?_;refine tu 35 ?_;refine tu 36 ?_;refine tk 37 ?_;refine tk 38 ?_;refine tu 39 ?_;refine tu 40 ?_;refine tu 41 ?_;refine tu 42 ?_;refine tu 43 ?_;refine tu 44 ?_;refine tu 45 ?_;refine tu 46 ?_;refine tu 47 ?_;refine tu 48 ?_;refine tu 49 ?_;refine tu 50 ?_;refine tu 51 ?_;refine tu 52 ?_;refine tu 53 ?_;refine tu 54 ?_;refine tk 55 ?_;refine wpAnyH_done (by kernel_rfl) ?_ _;go_wp2_with fail
   go_ret
   exact ⟨false, rfl, no_iff (fun h => by have h2 := (h.2 k hlt).2; rw [← Hhx.out] at h2; obtain ⟨⟨h3, h4⟩, ⟨h5, h6⟩, h7, h8⟩ := h2; have := Hc0.out; omega), hE.bel⟩
  have u0 : decide (x.K < 0) = false := decide_eq_false c0
  by_cases c1 : 1099511627776 < x.K
  ·
   have u1 : decide (1099511627776 < x.K) = true := decide_eq_true c1;have Hc1 := Lib.hid c1;clear c1;replace hE := hE.drew;refine wp_region_held_drew (S := fun V => ClM (some ⟨b, o, none⟩) n r V ∧ Blk 29 (g1) #[.bool x.w.s, .slice x.w.A x.w.n x.w.c, .bool x.w.t, .slice x.w.B x.w.m x.w.d] V) (by kernel_rfl) (⟨hE.here.1.2, hE.here.2⟩) (fun hHeld => ?_)
   generalize W1.drew = wd at *
   refine tk 0 ?_;refine tk 1 ?_;refine tk 2 ?_;refine tk 3 ?_
   refine tk 4 ?_ (hy := by
    intro w hSw;obtain ⟨b2, o2, e2, -, hc2⟩ := hSw.1 (by omega)
    cases e2
    obtain ⟨⟨d0, d1, d2, d3, d4, d5⟩, -⟩ := hc2 k hlt;rw [← Hhx.out] at d0 d1 d2 d3 d4 d5;clear hc2;clear hSw
    first | (go_simp; done) | (go_simp; with_reducible rfl))
   try simp only [PL]
   refine tk 5 ?_;refine tk 6 ?_;refine tk 7 ?_;refine tk 8 ?_;refine tk 9 ?_;refine tk 10 ?_
   refine tk 11 ?_ (hy := by
    intro w hSw;obtain ⟨b2, o2, e2, -, hc2⟩ := hSw.1 (by omega)
    cases e2
    obtain ⟨⟨d0, d1, d2, d3, d4, d5⟩, -⟩ := hc2 k hlt;rw [← Hhx.out] at d0 d1 d2 d3 d4 d5;clear hc2;clear hSw
    first | (go_simp; done) | (go_simp; with_reducible rfl))
   try simp only [PL]
   refine tk 12 ?_;refine tk 13 ?_;refine tk 14 ?_;refine tu 15 ?_;refine tu 16 ?_;refine tu 17 ?_;refine tu 18 ?_;refine tu 19 ?_;refine tk 20 ?_;refine tk 21 ?_;refine tu 22 ?_;refine tu 23 ?_;refine tu 24 ?_;refine tu 25 ?_;refine tu 26 ?_;refine tk 27 ?_;refine tk 28 ?_;refine tu 29 ?_;refine tu 30 ?_;refine tu 31 ?_;refine tk 32 ?_;refine tk 33 ?_;refine tu 34 ?_;refine tu 35 ?_;refine tu 36 ?_;refine tk 37 ?_;refine tk 38 ?_;refine tu 39 ?_;refine tu 40 ?_;refine tu 41 ?_;refine tu 42 ?_;refine tu 43 ?_;refine tu 44 ?_;refine tu 45 ?_;refine tu 46 ?_;refine tu 47 ?_;refine tu 48 ?_;refine tu 49 ?_;refine tu 50 ?_;refine tu 51 ?_;refine tu 52 ?_;refine tu 53 ?_;refine tu 54 ?_;refine tk 55 ?_;refine wpAnyH_done (by kernel_rfl) ?_ _;go_wp2_with fail
   go_ret
   exact ⟨false, rfl, no_iff (fun h => by have h2 := (h.2 k hlt).2; rw [← Hhx.out] at h2; obtain ⟨⟨h3, h4⟩, ⟨h5, h6⟩, h7, h8⟩ := h2; have := Hc1.out; omega), hE.bel⟩
  have u1 : decide (1099511627776 < x.K) = false := decide_eq_false c1
  by_cases c2 : 4 < x.w.n
  ·
   have uc2 : decide ((4 : Int) < (x.w.n : Int)) = true := decide_eq_true (by omega);have vc2 : decide (4 < x.w.n) = true := decide_eq_true (by omega);have Hc2 := Lib.hid c2;clear c2;replace hE := hE.drew;refine wp_region_held_drew (S := fun V => ClM (some ⟨b, o, none⟩) n r V ∧ Blk 29 (g1) #[.bool x.w.s, .slice x.w.A x.w.n x.w.c, .bool x.w.t, .slice x.w.B x.w.m x.w.d] V) (by kernel_rfl) (⟨hE.here.1.2, hE.here.2⟩) (fun hHeld => ?_)
   generalize W1.drew = wd at *
   refine tk 0 ?_;refine tk 1 ?_;refine tk 2 ?_;refine tk 3 ?_
   refine tk 4 ?_ (hy := by
    intro w hSw;obtain ⟨b2, o2, e2, -, hc2⟩ := hSw.1 (by omega)
    cases e2
    obtain ⟨⟨d0, d1, d2, d3, d4, d5⟩, -⟩ := hc2 k hlt;rw [← Hhx.out] at d0 d1 d2 d3 d4 d5;clear hc2;clear hSw
    first | (go_simp; done) | (go_simp; with_reducible rfl))
   try simp only [PL]
   refine tk 5 ?_;refine tk 6 ?_;refine tk 7 ?_;refine tk 8 ?_;refine tk 9 ?_;refine tk 10 ?_
   refine tk 11 ?_ (hy := by
    intro w hSw;obtain ⟨b2, o2, e2, -, hc2⟩ := hSw.1 (by omega)
    cases e2
    obtain ⟨⟨d0, d1, d2, d3, d4, d5⟩, -⟩ := hc2 k hlt;rw [← Hhx.out] at d0 d1 d2 d3 d4 d5;clear hc2;clear hSw
    first | (go_simp; done) | (go_simp; with_reducible rfl))
   try simp only [PL]
   refine tk 12 ?_;refine tk 13 ?_;refine tk 14 ?_;refine tk 15 ?_;refine tk 16 ?_
   refine tk 17 ?_ (hy := by
    intro w hSw;have kc1 := (hSw.2).cell 1;clear hSw
    first | (go_simp; done) | (go_simp; with_reducible rfl))
   try simp only [PL]
   refine tk 18 ?_;refine tk 19 ?_;refine tk 20 ?_;refine tk 21 ?_;refine tu 22 ?_;refine tu 23 ?_;refine tu 24 ?_;refine tu 25 ?_;refine tu 26 ?_;refine tk 27 ?_;refine tk 28 ?_;refine tu 29 ?_;refine tu 30 ?_;refine tu 31 ?_;refine tk 32 ?_;refine tk 33 ?_;refine tu 34 ?_;refine tu 35 ?_;refine tu 36 ?_;refine tk 37 ?_;refine tk 38 ?_;refine tu 39 ?_;refine tu 40 ?_;refine tu 41 ?_;refine tu 42 ?_;refine tu 43 ?_;refine tu 44 ?_;refine tu 45 ?_;refine tu 46 ?_;refine tu 47 ?_;refine tu 48 ?_;refine tu 49 ?_;refine tu 50 ?_;refine tu 51 ?_;refine tu 52 ?_;refine tu 53 ?_;refine tu 54 ?_;refine tk 55 ?_;refine wpAnyH_done (by kernel_rfl) ?_ _;go_wp2_with fail
   go_ret
   exact ⟨false, rfl, no_iff (fun h => by have h2 := (h.2 k hlt).2; rw [← Hhx.out] at h2; obtain ⟨⟨h3, h4⟩, ⟨h5, h6⟩, h7, h8⟩ := h2; have := Hc2.out; omega), hE.bel⟩
  have uc2 : decide ((4 : Int) < (x.w.n : Int)) = false := decide_eq_false (by omega);have vc2 : decide (4 < x.w.n) = false := decide_eq_false (by omega)
  by_cases c3 : 4 < x.w.m
  ·
   have uc3 : decide ((4 : Int) < (x.w.m : Int)) = true := decide_eq_true (by omega);have vc3 : decide (4 < x.w.m) = true := decide_eq_true (by omega);have Hc3 := Lib.hid c3;clear c3;replace hE := hE.drew;refine wp_region_held_drew (S := fun V => ClM (some ⟨b, o, none⟩) n r V ∧ Blk 29 (g1) #[.bool x.w.s, .slice x.w.A x.w.n x.w.c, .bool x.w.t, .slice x.w.B x.w.m x.w.d] V) (by kernel_rfl) (⟨hE.here.1.2, hE.here.2⟩) (fun hHeld => ?_)
   generalize W1.drew = wd at *
   refine tk 0 ?_;refine tk 1 ?_;refine tk 2 ?_;refine tk 3 ?_
   refine tk 4 ?_ (hy := by
    intro w hSw;obtain ⟨b2, o2, e2, -, hc2⟩ := hSw.1 (by omega)
    cases e2
    obtain ⟨⟨d0, d1, d2, d3, d4, d5⟩, -⟩ := hc2 k hlt;rw [← Hhx.out] at d0 d1 d2 d3 d4 d5;clear hc2;clear hSw
    first | (go_simp; done) | (go_simp; with_reducible rfl))
   try simp only [PL]
   refine tk 5 ?_;refine tk 6 ?_;refine tk 7 ?_;refine tk 8 ?_;refine tk 9 ?_;refine tk 10 ?_
   refine tk 11 ?_ (hy := by
    intro w hSw;obtain ⟨b2, o2, e2, -, hc2⟩ := hSw.1 (by omega)
    cases e2
    obtain ⟨⟨d0, d1, d2, d3, d4, d5⟩, -⟩ := hc2 k hlt;rw [← Hhx.out] at d0 d1 d2 d3 d4 d5;clear hc2;clear hSw
    first | (go_simp; done) | (go_simp; with_reducible rfl))
   try simp only [PL]
   refine tk 12 ?_;refine tk 13 ?_;refine tk 14 ?_;refine tk 15 ?_;refine tk 16 ?_
   refine tk 17 ?_ (hy := by
    intro w hSw;have kc1 := (hSw.2).cell 1;clear hSw
    first | (go_simp; done) | (go_simp; with_reducible rfl))
   try simp only [PL]
   refine tk 18 ?_;refine tk 19 ?_;refine tk 20 ?_;refine tk 21 ?_;refine tk 22 ?_;refine tk 23 ?_
   refine tk 24 ?_ (hy := by
    intro w hSw;have kc3 := (hSw.2).cell 3;clear hSw
    first | (go_simp; done) | (go_simp; with_reducible rfl))
   try simp only [PL]
   refine tk 25 ?_;refine tk 26 ?_;refine tk 27 ?_;refine tk 28 ?_;refine tu 29 ?_;refine tu 30 ?_;refine tu 31 ?_;refine tk 32 ?_;refine tk 33 ?_;refine tu 34 ?_;refine tu 35 ?_;refine tu 36 ?_;refine tk 37 ?_;refine tk 38 ?_;refine tu 39 ?_;refine tu 40 ?_;refine tu 41 ?_;refine tu 42 ?_;refine tu 43 ?_;refine tu 44 ?_;refine tu 45 ?_;refine tu 46 ?_;refine tu 47 ?_;refine tu 48 ?_;refine tu 49 ?_;refine tu 50 ?_;refine tu 51 ?_;refine tu 52 ?_;refine tu 53 ?_;refine tu 54 ?_;refine tk 55 ?_;refine wpAnyH_done (by kernel_rfl) ?_ _;go_wp2_with fail
   go_ret
   exact ⟨false, rfl, no_iff (fun h => by have h2 := (h.2 k hlt).2; rw [← Hhx.out] at h2; obtain ⟨⟨h3, h4⟩, ⟨h5, h6⟩, h7, h8⟩ := h2; have := Hc3.out; omega), hE.bel⟩
  have uc3 : decide ((4 : Int) < (x.w.m : Int)) = false := decide_eq_false (by omega);have vc3 : decide (4 < x.w.m) = false := decide_eq_false (by omega)
  by_cases c4 : x.w.s = true
  ·
   have u4 : x.w.s = true := c4;have Hc4 := Lib.hid c4;clear c4;replace hE := hE.drew;refine wp_region_held_drew (S := fun V => ClM (some ⟨b, o, none⟩) n r V ∧ Blk 29 (g1) #[.bool x.w.s, .slice x.w.A x.w.n x.w.c, .bool x.w.t, .slice x.w.B x.w.m x.w.d] V) (by kernel_rfl) (⟨hE.here.1.2, hE.here.2⟩) (fun hHeld => ?_)
   generalize W1.drew = wd at *
   refine tk 0 ?_;refine tk 1 ?_;refine tk 2 ?_;refine tk 3 ?_
   refine tk 4 ?_ (hy := by
    intro w hSw;obtain ⟨b2, o2, e2, -, hc2⟩ := hSw.1 (by omega)
    cases e2
    obtain ⟨⟨d0, d1, d2, d3, d4, d5⟩, -⟩ := hc2 k hlt;rw [← Hhx.out] at d0 d1 d2 d3 d4 d5;clear hc2;clear hSw
    first | (go_simp; done) | (go_simp; with_reducible rfl))
   try simp only [PL]
   refine tk 5 ?_;refine tk 6 ?_;refine tk 7 ?_;refine tk 8 ?_;refine tk 9 ?_;refine tk 10 ?_
   refine tk 11 ?_ (hy := by
    intro w hSw;obtain ⟨b2, o2, e2, -, hc2⟩ := hSw.1 (by omega)
    cases e2
    obtain ⟨⟨d0, d1, d2, d3, d4, d5⟩, -⟩ := hc2 k hlt;rw [← Hhx.out] at d0 d1 d2 d3 d4 d5;clear hc2;clear hSw
    first | (go_simp; done) | (go_simp; with_reducible rfl))
   try simp only [PL]
   refine tk 12 ?_;refine tk 13 ?_;refine tk 14 ?_;refine tk 15 ?_;refine tk 16 ?_
   refine tk 17 ?_ (hy := by
    intro w hSw;have kc1 := (hSw.2).cell 1;clear hSw
    first | (go_simp; done) | (go_simp; with_reducible rfl))
   try simp only [PL]
   refine tk 18 ?_;refine tk 19 ?_;refine tk 20 ?_;refine tk 21 ?_;refine tk 22 ?_;refine tk 23 ?_
   refine tk 24 ?_ (hy := by
    intro w hSw;have kc3 := (hSw.2).cell 3;clear hSw
    first | (go_simp; done) | (go_simp; with_reducible rfl))
   try simp only [PL]
   refine tk 25 ?_;refine tk 26 ?_;refine tk 27 ?_;refine tk 28 ?_;refine tk 29 ?_;refine tk 30 ?_
   refine tk 31 ?_ (hy := by
    intro w hSw;have kc0 := (hSw.2).cell 0;clear hSw
    first | (go_simp; done) | (go_simp; with_reducible rfl))
   try simp only [PL]
   refine tk 32 ?_;refine tk 33 ?_;refine tu 34 ?_;refine tu 35 ?_;refine tu 36 ?_;refine tk 37 ?_;refine tk 38 ?_;refine tu 39 ?_;refine tu 40 ?_;refine tu 41 ?_;refine tu 42 ?_;refine tu 43 ?_;refine tu 44 ?_;refine tu 45 ?_;refine tu 46 ?_;refine tu 47 ?_;refine tu 48 ?_;refine tu 49 ?_;refine tu 50 ?_;refine tu 51 ?_;refine tu 52 ?_;refine tu 53 ?_;refine tu 54 ?_;refine tk 55 ?_;refine wpAnyH_done (by kernel_rfl) ?_ _;go_wp2_with fail
   go_ret
   exact ⟨false, rfl, no_iff (fun h => by have h2 := (h.2 k hlt).2; rw [← Hhx.out] at h2; obtain ⟨⟨h3, h4⟩, ⟨h5, h6⟩, h7, h8⟩ := h2; rw [Hc4.out] at h4; cases h4), hE.bel⟩
  have u4 : x.w.s = false := by simpa using c4
  have Hu4 := Lib.hid u4;have Hcs := Lib.hid (And.intro c0 (And.intro c1 (And.intro c2 c3)));clear c0 c1 c2 c3 c4
  obtain ⟨v, hv⟩ : ∃ v, okF x.w.s x.w.n x.w.f x.w.t x.w.m x.w.g = v := ⟨_, rfl⟩
  have Hhv := Lib.hid hv;clear hv
  cases v with
  | false =>
   replace hE := hE.drew;refine wp_region_held_drew (S := fun V => ClM (some ⟨b, o, none⟩) n r V ∧ Blk 29 (g1) #[.bool x.w.s, .slice x.w.A x.w.n x.w.c, .bool x.w.t, .slice x.w.B x.w.m x.w.d] V) (by kernel_rfl) (⟨hE.here.1.2, hE.here.2⟩) (fun hHeld => ?_)
   generalize W1.drew = wd at *
   refine tk 0 ?_;refine tk 1 ?_;refine tk 2 ?_;refine tk 3 ?_
   refine tk 4 ?_ (hy := by
    intro w hSw;obtain ⟨b2, o2, e2, -, hc2⟩ := hSw.1 (by omega)
    cases e2
    obtain ⟨⟨d0, d1, d2, d3, d4, d5⟩, -⟩ := hc2 k hlt;rw [← Hhx.out] at d0 d1 d2 d3 d4 d5;clear hc2;clear hSw
    first | (go_simp; done) | (go_simp; with_reducible rfl))
   try simp only [PL]
   refine tk 5 ?_;refine tk 6 ?_;refine tk 7 ?_;refine tk 8 ?_;refine tk 9 ?_;refine tk 10 ?_
   refine tk 11 ?_ (hy := by
    intro w hSw;obtain ⟨b2, o2, e2, -, hc2⟩ := hSw.1 (by omega)
    cases e2
    obtain ⟨⟨d0, d1, d2, d3, d4, d5⟩, -⟩ := hc2 k hlt;rw [← Hhx.out] at d0 d1 d2 d3 d4 d5;clear hc2;clear hSw
    first | (go_simp; done) | (go_simp; with_reducible rfl))
   try simp only [PL]
   refine tk 12 ?_;refine tk 13 ?_;refine tk 14 ?_;refine tk 15 ?_;refine tk 16 ?_
   refine tk 17 ?_ (hy := by
    intro w hSw;have kc1 := (hSw.2).cell 1;clear hSw
    first | (go_simp; done) | (go_simp; with_reducible rfl))
   try simp only [PL]
   refine tk 18 ?_;refine tk 19 ?_;refine tk 20 ?_;refine tk 21 ?_;refine tk 22 ?_;refine tk 23 ?_
   refine tk 24 ?_ (hy := by
    intro w hSw;have kc3 := (hSw.2).cell 3;clear hSw
    first | (go_simp; done) | (go_simp; with_reducible rfl))
   try simp only [PL]
   refine tk 25 ?_;refine tk 26 ?_;refine tk 27 ?_;refine tk 28 ?_;refine tk 29 ?_;refine tk 30 ?_
   refine tk 31 ?_ (hy := by
    intro w hSw;have kc0 := (hSw.2).cell 0;clear hSw
    first | (go_simp; done) | (go_simp; with_reducible rfl))
   try simp only [PL]
   refine tk 32 ?_;refine tk 33 ?_
   refine tk 34 ?_ (hy := by
    intro w hSw;have kc0 := (hSw.2).cell 0;have kc1 := (hSw.2).cell 1;have kc2 := (hSw.2).cell 2;have kc3 := (hSw.2).cell 3;clear hSw
    first | (go_simp; done) | (go_simp; with_reducible rfl))
   try simp only [PL]
   refine r1 35 (fun K hK => ?_);go_simp;have hrd := (hE.here.1.2).rds k hlt;rw [← Hhx.out] at hrd;have hcon := rfvalid_any (sa := x.w.s) (ta := x.w.t) (ca := x.w.c) (da := x.w.d) hrd (by have := Hcs.out; omega) (by have := Hcs.out; omega);rw [Hhv.out, Hu4.out] at hcon;clear hrd;refine hE.br (hcon) ?_;clear hE;intro w2 hE;clear hcon;go_wp2_with fail
   refine hK.out _ _ (⟨hE.here.1.2, hE.here.2⟩) (fun hHeld => ?_);clear hK K;try simp only [PL]
   refine tk 36 ?_;refine tk 37 ?_;refine tk 38 ?_;refine tu 39 ?_;refine tu 40 ?_;refine tu 41 ?_;refine tu 42 ?_;refine tu 43 ?_;refine tu 44 ?_;refine tu 45 ?_;refine tu 46 ?_;refine tu 47 ?_;refine tu 48 ?_;refine tu 49 ?_;refine tu 50 ?_;refine tu 51 ?_;refine tu 52 ?_;refine tu 53 ?_;refine tu 54 ?_;refine tk 55 ?_;refine wpAnyH_done (by kernel_rfl) ?_ _;go_wp2_with fail
   go_ret
   exact ⟨false, rfl, no_iff (fun h => by have h2 := (h.2 k hlt).2; rw [← Hhx.out] at h2; obtain ⟨⟨h3, h4⟩, ⟨h5, h6⟩, h7, h8⟩ := h2; have := Hhv.out; rw [h3] at this; cases this), hE.bel⟩
  | true =>
   have hokx : x.ok := by have h1 := Hcs.out; exact ⟨⟨Hhv.out, Hu4.out⟩, ⟨by omega, by omega⟩, by omega, by omega⟩
   have Hhokx := Lib.hid hokx;clear hokx
   by_cases hk0 : k = 0
   ·
    have u5 : decide ((0 : Int) < (k : Int)) = false := decide_eq_false (by omega);have u6 : decide (0 < k) = false := decide_eq_false (by omega)
    have Hstep : Hid (∀ j, j < k + 1 → (∀ i, j = i + 1 → (r i).I < (r j).I) ∧ (r j).ok) := Lib.hid (fun j hj => by
     by_cases ej : j = k
     · subst ej; exact ⟨fun i hi => absurd hi (by omega), by rw [← Hhx.out]; exact Hhokx.out⟩
     · exact HK.out j (by omega))
    clear hk0;replace hE := hE.drew;refine wp_region_held_drew (S := fun V => ClM (some ⟨b, o, none⟩) n r V ∧ Blk 29 (g1) #[.bool x.w.s, .slice x.w.A x.w.n x.w.c, .bool x.w.t, .slice x.w.B x.w.m x.w.d] V) (by kernel_rfl) (⟨hE.here.1.2, hE.here.2⟩) (fun hHeld => ?_)
    generalize W1.drew = wd at *
    refine tk 0 ?_;refine tk 1 ?_;refine tk 2 ?_;refine tk 3 ?_
    refine tk 4 ?_ (hy := by
     intro w hSw;obtain ⟨b2, o2, e2, -, hc2⟩ := hSw.1 (by omega)
     cases e2
     obtain ⟨⟨d0, d1, d2, d3, d4, d5⟩, -⟩ := hc2 k hlt;rw [← Hhx.out] at d0 d1 d2 d3 d4 d5;clear hc2;clear hSw
     first | (go_simp; done) | (go_simp; with_reducible rfl))
    try simp only [PL]
    refine tk 5 ?_;refine tk 6 ?_;refine tk 7 ?_;refine tk 8 ?_;refine tk 9 ?_;refine tk 10 ?_
    refine tk 11 ?_ (hy := by
     intro w hSw;obtain ⟨b2, o2, e2, -, hc2⟩ := hSw.1 (by omega)
     cases e2
     obtain ⟨⟨d0, d1, d2, d3, d4, d5⟩, -⟩ := hc2 k hlt;rw [← Hhx.out] at d0 d1 d2 d3 d4 d5;clear hc2;clear hSw
     first | (go_simp; done) | (go_simp; with_reducible rfl))
    try simp only [PL]
    refine tk 12 ?_;refine tk 13 ?_;refine tk 14 ?_;refine tk 15 ?_;refine tk 16 ?_
    refine tk 17 ?_ (hy := by
     intro w hSw;have kc1 := (hSw.2).cell 1;clear hSw
     first | (go_simp; done) | (go_simp; with_reducible rfl))
    try simp only [PL]
    refine tk 18 ?_;refine tk 19 ?_;refine tk 20 ?_;refine tk 21 ?_;refine tk 22 ?_;refine tk 23 ?_
    refine tk 24 ?_ (hy := by
     intro w hSw;have kc3 := (hSw.2).cell 3;clear hSw
     first | (go_simp; done) | (go_simp; with_reducible rfl))
    try simp only [PL]
    refine tk 25 ?_;refine tk 26 ?_;refine tk 27 ?_;refine tk 28 ?_;refine tk 29 ?_;refine tk 30 ?_
    refine tk 31 ?_ (hy := by
     intro w hSw;have kc0 := (hSw.2).cell 0;clear hSw
     first | (go_simp; done) | (go_simp; with_reducible rfl))
    try simp only [PL]
    refine tk 32 ?_;refine tk 33 ?_
    refine tk 34 ?_ (hy := by
     intro w hSw;have kc0 := (hSw.2).cell 0;have kc1 := (hSw.2).cell 1;have kc2 := (hSw.2).cell 2;have kc3 := (hSw.2).cell 3;clear hSw
     first | (go_simp; done) | (go_simp; with_reducible rfl))
    try simp only [PL]
    refine r1 35 (fun K hK => ?_);go_simp;have hrd := (hE.here.1.2).rds k hlt;rw [← Hhx.out] at hrd;have hcon := rfvalid_any (sa := x.w.s) (ta := x.w.t) (ca := x.w.c) (da := x.w.d) hrd (by have := Hcs.out; omega) (by have := Hcs.out; omega);rw [Hhv.out, Hu4.out] at hcon;clear hrd;refine hE.br (hcon) ?_;clear hE;intro w3 hE;clear hcon;go_wp2_with fail
    refine hK.out _ _ (⟨hE.here.1.2, hE.here.2⟩) (fun hHeld => ?_);clear hK K;try simp only [PL]
    refine tk 36 ?_;refine tk 37 ?_;refine tk 38 ?_;refine tk 39 ?_;refine tk 40 ?_;refine tk 41 ?_;refine tu 42 ?_;refine tu 43 ?_;refine tu 44 ?_;refine tu 45 ?_;refine tu 46 ?_;refine tu 47 ?_;refine tu 48 ?_;refine tu 49 ?_;refine tu 50 ?_;refine tu 51 ?_;refine tu 52 ?_;refine tu 53 ?_;refine tk 54 ?_;refine tk 55 ?_;refine wpAnyH_done (by kernel_rfl) ?_ _;go_wp2_with fail
    go_roundw
    case rel => exact ⟨k + 1, by omega, by go_num, Hstep, (Env.again hE.bel).clm hE.here.1.2⟩
    case measure => simp [intOf]; omega
   have u5 : decide ((0 : Int) < (k : Int)) = true := decide_eq_true (by omega);have u6 : decide (0 < k) = true := decide_eq_true (by omega)
   obtain ⟨q, hq⟩ : ∃ q, q = k - 1 := ⟨_, rfl⟩
   have hqk : k = q + 1 := by omega
   have hqn : q < n := by omega
   have hqn2 : (q : Int) < (n : Int) := by omega
   have o1 : IntKind.i64.wrap (q : Int) = (q : Int) := by rw [IntKind.wrap_i64]; omega
   have es : (k : Int) - 1 = (q : Int) := by omega
   obtain ⟨y, hy⟩ : ∃ y, y = r q := ⟨_, rfl⟩
   have Hhq := Lib.hid hq;clear hq;have Hhqk := Lib.hid hqk;clear hqk;have Hhy := Lib.hid hy;clear hy;clear hk0
   by_cases c7 : x.I ≤ y.I
   ·
    have u7 : decide (x.I ≤ y.I) = true := decide_eq_true c7;have Hc7 := Lib.hid c7;clear c7;replace hE := hE.drew;refine wp_region_held_drew (S := fun V => ClM (some ⟨b, o, none⟩) n r V ∧ Blk 29 (g1) #[.bool x.w.s, .slice x.w.A x.w.n x.w.c, .bool x.w.t, .slice x.w.B x.w.m x.w.d] V) (by kernel_rfl) (⟨hE.here.1.2, hE.here.2⟩) (fun hHeld => ?_)
    generalize W1.drew = wd at *
    refine tk 0 ?_;refine tk 1 ?_;refine tk 2 ?_;refine tk 3 ?_
    refine tk 4 ?_ (hy := by
     intro w hSw;obtain ⟨b2, o2, e2, -, hc2⟩ := hSw.1 (by omega)
     cases e2
     obtain ⟨⟨d0, d1, d2, d3, d4, d5⟩, -⟩ := hc2 k hlt;rw [← Hhx.out] at d0 d1 d2 d3 d4 d5;clear hc2;clear hSw
     first | (go_simp; done) | (go_simp; with_reducible rfl))
    try simp only [PL]
    refine tk 5 ?_;refine tk 6 ?_;refine tk 7 ?_;refine tk 8 ?_;refine tk 9 ?_;refine tk 10 ?_
    refine tk 11 ?_ (hy := by
     intro w hSw;obtain ⟨b2, o2, e2, -, hc2⟩ := hSw.1 (by omega)
     cases e2
     obtain ⟨⟨d0, d1, d2, d3, d4, d5⟩, -⟩ := hc2 k hlt;rw [← Hhx.out] at d0 d1 d2 d3 d4 d5;clear hc2;clear hSw
     first | (go_simp; done) | (go_simp; with_reducible rfl))
    try simp only [PL]
    refine tk 12 ?_;refine tk 13 ?_;refine tk 14 ?_;refine tk 15 ?_;refine tk 16 ?_
    refine tk 17 ?_ (hy := by
     intro w hSw;have kc1 := (hSw.2).cell 1;clear hSw
     first | (go_simp; done) | (go_simp; with_reducible rfl))
    try simp only [PL]
    refine tk 18 ?_;refine tk 19 ?_;refine tk 20 ?_;refine tk 21 ?_;refine tk 22 ?_;refine tk 23 ?_
    refine tk 24 ?_ (hy := by
     intro w hSw;have kc3 := (hSw.2).cell 3;clear hSw
     first | (go_simp; done) | (go_simp; with_reducible rfl))
    try simp only [PL]
    refine tk 25 ?_;refine tk 26 ?_;refine tk 27 ?_;refine tk 28 ?_;refine tk 29 ?_;refine tk 30 ?_
    refine tk 31 ?_ (hy := by
     intro w hSw;have kc0 := (hSw.2).cell 0;clear hSw
     first | (go_simp; done) | (go_simp; with_reducible rfl))
    try simp only [PL]
    refine tk 32 ?_;refine tk 33 ?_
    refine tk 34 ?_ (hy := by
     intro w hSw;have kc0 := (hSw.2).cell 0;have kc1 := (hSw.2).cell 1;have kc2 := (hSw.2).cell 2;have kc3 := (hSw.2).cell 3;clear hSw
     first | (go_simp; done) | (go_simp; with_reducible rfl))
    try simp only [PL]
    refine r1 35 (fun K hK => ?_);go_simp;have hrd := (hE.here.1.2).rds k hlt;rw [← Hhx.out] at hrd;have hcon := rfvalid_any (sa := x.w.s) (ta := x.w.t) (ca := x.w.c) (da := x.w.d) hrd (by have := Hcs.out; omega) (by have := Hcs.out; omega);rw [Hhv.out, Hu4.out] at hcon;clear hrd;refine hE.br (hcon) ?_;clear hE;intro w4 hE;clear hcon;go_wp2_with fail
    refine hK.out _ _ (⟨hE.here.1.2, hE.here.2⟩) (fun hHeld => ?_);clear hK K;try simp only [PL]
    refine tk 36 ?_;refine tk 37 ?_;refine tk 38 ?_;refine tk 39 ?_;refine tk 40 ?_;refine tk 41 ?_;refine tk 42 ?_;refine tk 43 ?_;refine tk 44 ?_;refine tk 45 ?_;refine tk 46 ?_
    refine tk 47 ?_ (hy := by
     intro w hSw;obtain ⟨b2, o2, e2, -, hc2⟩ := hSw.1 (by omega)
     cases e2
     obtain ⟨⟨d0, d1, d2, d3, d4, d5⟩, -⟩ := hc2 q hqn;rw [← Hhy.out] at d0 d1 d2 d3 d4 d5;clear hc2;clear hSw
     first | (go_simp; done) | (go_simp; with_reducible rfl))
    try simp only [PL]
    refine tk 48 ?_;refine tk 49 ?_;refine tk 50 ?_;refine tk 51 ?_
    refine tk 52 ?_ (hy := by
     intro w hSw;obtain ⟨b2, o2, e2, -, hc2⟩ := hSw.1 (by omega)
     cases e2
     obtain ⟨⟨d0, d1, d2, d3, d4, d5⟩, -⟩ := hc2 k hlt;rw [← Hhx.out] at d0 d1 d2 d3 d4 d5;clear hc2;clear hSw
     first | (go_simp; done) | (go_simp; with_reducible rfl))
    try simp only [PL]
    refine tk 53 ?_;refine tk 54 ?_;refine tk 55 ?_;refine wpAnyH_done (by kernel_rfl) ?_ _;go_wp2_with fail
    go_ret
    exact ⟨false, rfl, no_iff (fun h => by have h2 := (h.2 k hlt).1 q Hhqk.out; rw [← Hhx.out, ← Hhy.out] at h2; have := Hc7.out; omega), hE.bel⟩
   have u7 : decide (x.I ≤ y.I) = false := decide_eq_false c7
   have Hstep : Hid (∀ j, j < k + 1 → (∀ i, j = i + 1 → (r i).I < (r j).I) ∧ (r j).ok) := Lib.hid (fun j hj => by
    by_cases ej : j = k
    · subst ej; exact ⟨fun i hi => by obtain rfl : i = q := (by have := Hhqk.out; omega); rw [← Hhx.out, ← Hhy.out]; omega, by rw [← Hhx.out]; exact Hhokx.out⟩
    · exact HK.out j (by omega))
   clear c7;replace hE := hE.drew;refine wp_region_held_drew (S := fun V => ClM (some ⟨b, o, none⟩) n r V ∧ Blk 29 (g1) #[.bool x.w.s, .slice x.w.A x.w.n x.w.c, .bool x.w.t, .slice x.w.B x.w.m x.w.d] V) (by kernel_rfl) (⟨hE.here.1.2, hE.here.2⟩) (fun hHeld => ?_)
   generalize W1.drew = wd at *
   refine tk 0 ?_;refine tk 1 ?_;refine tk 2 ?_;refine tk 3 ?_
   refine tk 4 ?_ (hy := by
    intro w hSw;obtain ⟨b2, o2, e2, -, hc2⟩ := hSw.1 (by omega)
    cases e2
    obtain ⟨⟨d0, d1, d2, d3, d4, d5⟩, -⟩ := hc2 k hlt;rw [← Hhx.out] at d0 d1 d2 d3 d4 d5;clear hc2;clear hSw
    first | (go_simp; done) | (go_simp; with_reducible rfl))
   try simp only [PL]
   refine tk 5 ?_;refine tk 6 ?_;refine tk 7 ?_;refine tk 8 ?_;refine tk 9 ?_;refine tk 10 ?_
   refine tk 11 ?_ (hy := by
    intro w hSw;obtain ⟨b2, o2, e2, -, hc2⟩ := hSw.1 (by omega)
    cases e2
    obtain ⟨⟨d0, d1, d2, d3, d4, d5⟩, -⟩ := hc2 k hlt;rw [← Hhx.out] at d0 d1 d2 d3 d4 d5;clear hc2;clear hSw
    first | (go_simp; done) | (go_simp; with_reducible rfl))
   try simp only [PL]
   refine tk 12 ?_;refine tk 13 ?_;refine tk 14 ?_;refine tk 15 ?_;refine tk 16 ?_
   refine tk 17 ?_ (hy := by
    intro w hSw;have kc1 := (hSw.2).cell 1;clear hSw
    first | (go_simp; done) | (go_simp; with_reducible rfl))
   try simp only [PL]
   refine tk 18 ?_;refine tk 19 ?_;refine tk 20 ?_;refine tk 21 ?_;refine tk 22 ?_;refine tk 23 ?_
   refine tk 24 ?_ (hy := by
    intro w hSw;have kc3 := (hSw.2).cell 3;clear hSw
    first | (go_simp; done) | (go_simp; with_reducible rfl))
   try simp only [PL]
   refine tk 25 ?_;refine tk 26 ?_;refine tk 27 ?_;refine tk 28 ?_;refine tk 29 ?_;refine tk 30 ?_
   refine tk 31 ?_ (hy := by
    intro w hSw;have kc0 := (hSw.2).cell 0;clear hSw
    first | (go_simp; done) | (go_simp; with_reducible rfl))
   try simp only [PL]
   refine tk 32 ?_;refine tk 33 ?_
   refine tk 34 ?_ (hy := by
    intro w hSw;have kc0 := (hSw.2).cell 0;have kc1 := (hSw.2).cell 1;have kc2 := (hSw.2).cell 2;have kc3 := (hSw.2).cell 3;clear hSw
    first | (go_simp; done) | (go_simp; with_reducible rfl))
   try simp only [PL]
   refine r1 35 (fun K hK => ?_);go_simp;have hrd := (hE.here.1.2).rds k hlt;rw [← Hhx.out] at hrd;have hcon := rfvalid_any (sa := x.w.s) (ta := x.w.t) (ca := x.w.c) (da := x.w.d) hrd (by have := Hcs.out; omega) (by have := Hcs.out; omega);rw [Hhv.out, Hu4.out] at hcon;clear hrd;refine hE.br (hcon) ?_;clear hE;intro w5 hE;clear hcon;go_wp2_with fail
   refine hK.out _ _ (⟨hE.here.1.2, hE.here.2⟩) (fun hHeld => ?_);clear hK K;try simp only [PL]
   refine tk 36 ?_;refine tk 37 ?_;refine tk 38 ?_;refine tk 39 ?_;refine tk 40 ?_;refine tk 41 ?_;refine tk 42 ?_;refine tk 43 ?_;refine tk 44 ?_;refine tk 45 ?_;refine tk 46 ?_
   refine tk 47 ?_ (hy := by
    intro w hSw;obtain ⟨b2, o2, e2, -, hc2⟩ := hSw.1 (by omega)
    cases e2
    obtain ⟨⟨d0, d1, d2, d3, d4, d5⟩, -⟩ := hc2 q hqn;rw [← Hhy.out] at d0 d1 d2 d3 d4 d5;clear hc2;clear hSw
    first | (go_simp; done) | (go_simp; with_reducible rfl))
   try simp only [PL]
   refine tk 48 ?_;refine tk 49 ?_;refine tk 50 ?_;refine tk 51 ?_
   refine tk 52 ?_ (hy := by
    intro w hSw;obtain ⟨b2, o2, e2, -, hc2⟩ := hSw.1 (by omega)
    cases e2
    obtain ⟨⟨d0, d1, d2, d3, d4, d5⟩, -⟩ := hc2 k hlt;rw [← Hhx.out] at d0 d1 d2 d3 d4 d5;clear hc2;clear hSw
    first | (go_simp; done) | (go_simp; with_reducible rfl))
   try simp only [PL]
   refine tk 53 ?_;refine tk 54 ?_;refine tk 55 ?_;refine wpAnyH_done (by kernel_rfl) ?_ _;go_wp2_with fail
   go_roundw
   case rel => exact ⟨k + 1, by omega, by go_num, Hstep, (Env.again hE.bel).clm hE.here.1.2⟩
   case measure => simp [intOf]; omega
end
section
open Go.RowKit

def RWoP (i n : Nat) (r : Nat → Cl) (w : World) (e : Ending) (w' : World) : Prop :=
 (i < n ∧ ∃ A2 c2, e = .returned (.tuple #[.slice A2 (n - 1) c2, .int .i64 0]) ∧ ClM A2 (n - 1) (fun k => r (skip i k)) w' ∧ Below w.heap.size w w') ∨
 (n ≤ i ∧ e = .returned (.tuple #[.slice none 0 0, .int .i64 6]) ∧ Below w.heap.size w w')
theorem lenW_in {i j k : Nat} (h : k < lenW i j) : skip i k < j := by unfold lenW at h; unfold skip; split at h <;> split <;> omega
theorem swithout_bad {A : Option Addr} {n c : Nat} {r : Nat → Cl} {w : World} (z : Int) (hM : ClM A n r w) (hno : ¬ ClOK n r) :
  Calls Tryz.prog 36 #[.slice A n c, .int .i64 z] w (fun e w' => e = .returned (.tuple #[.slice none 0 0, .int .i64 2]) ∧ Below w.heap.size w w') := by
 have Hhno := Lib.hid hno;clear hno;have hM2 := Lib.hid hM;clear hM;have hE := Env.start w
 go_enter Tryz.func36, Tryz.ntmps36
 go_wp2_with fail
 refine (svalid_any A n c r _ (hM2.out.below hE.bel)).mono ?_
 rintro e w1 ⟨v, rfl, hv, hb⟩
 replace hE := hE.step hb
 obtain rfl : v = false := by cases v; rfl; exact absurd (hv.1 rfl) Hhno.out
 clear hv hb;go_wp2_with fail
 refine bodyPost_ret (v := .tuple #[.slice none 0 0, .int .i64 2]) (by simp [results, Tryz.results36, go_sem]) rfl ?_;exact ⟨rfl, hE.bel⟩
theorem rswithout_bad {A : Option Addr} {n c : Nat} {r : Nat → Cl} {w : World} (z : Int) (hM : ClM A n r w) (hno : ¬ ClOK n r) :
  Calls Tryz.prog 62 #[.slice A n c, .int .i64 z] w (fun e w' => e = .returned (.tuple #[.slice none 0 0, .int .i64 2]) ∧ Below w.heap.size w w') := by
 have Hhno := Lib.hid hno;clear hno;have hM2 := Lib.hid hM;clear hM;have hE := Env.start w
 go_enter Tryz.func62, Tryz.ntmps62
 go_wp2_with fail
 refine (rsvalid_v (c := c) (hM2.out.below hE.bel)).mono ?_
 rintro e w1 ⟨v, rfl, hv, hb⟩
 replace hE := hE.step hb
 obtain rfl : v = false := by cases v; rfl; exact absurd (hv.1 rfl) Hhno.out
 clear hv hb;go_wp2_with fail
 refine bodyPost_ret (v := .tuple #[.slice none 0 0, .int .i64 2]) (by simp [results, Tryz.results62, go_sem]) rfl ?_;exact ⟨rfl, hE.bel⟩
theorem rswithout_v {A : Option Addr} {n c : Nat} {r : Nat → Cl} {w : World} (z : Int) (i : Nat) (hM : ClM A n r w) (hok : ClOK n r) (hn : n ≤ 100) (hz : ∀ k, k < n → ((r k).I = z ↔ k = i)) :
  Calls Tryz.prog 62 #[.slice A n c, .int .i64 z] w (RWoP i n r w) := by
 have HhM := Lib.hid hM;clear hM;have Hhok := Lib.hid hok;clear hok;have Hhz := Lib.hid hz;clear hz;have hE := Env.start w
 go_enter Tryz.func62, Tryz.ntmps62
 go_wp2_with fail
 refine (rsvalid_v (c := c) (HhM.out.below hE.bel)).mono ?_
 rintro e w1 ⟨v, rfl, hv, hb⟩
 replace hE := hE.step hb;obtain rfl : v = true := hv.2 Hhok.out;clear hv hb;go_wp2_with fail
 go_loopw [6, 7] (fun mv x wr => ∃ (j : Nat) (v : Value), j ≤ n ∧ v = mv ∧ x = .int .i64 (j : Int) ∧ Env w (fun V => (True ∧ RwV 92 6 w.heap.size v (lenW i j) (clR (fun j => ((fun k => r (skip i k)) j).I) (Kz (fun k => r (skip i k))) (fun j => ((fun k => r (skip i k)) j).w)) V)) wr) (fun _ x _ => n - (intOf x).toNat)
 case atStart => exact ⟨0, .slice none 0 0, Nat.zero_le _, rfl, rfl, hE.rwv (.inl ⟨rfl, rfl⟩)⟩
 case round =>
  clear hE;obtain ⟨j, v, hj, rfl, rfl, hE⟩ := hrel
  by_cases hlt : j < n
  rotate_left
  ·
   obtain rfl : n = j := by omega
   have t1 : decide ((n : Int) < (n : Int)) = false := decide_eq_false (by omega);obtain ⟨A2, c2, rfl, hM2⟩ := clm_shared (r := (fun k => r (skip i k))) (hE.here.2) (fun k hk => (HhM.out.below hE.bel).rds _ (lenW_in hk));replace hE := (Env.again hE.bel).clm hM2;clear hM2
   by_cases hin : i < n
   ·
    have hl : lenW i n = n - 1 := by unfold lenW; rw [if_pos hin]
    have t2 : ((lenW i n : Nat) == n) = false := beq_eq_false_iff_ne.2 (by omega);have t3 : (((lenW i n : Nat) : Int) == (n : Int)) = false := beq_eq_false_iff_ne.2 (by omega);have Hhin := Lib.hid hin;clear hin;have Hhl := Lib.hid hl;clear hl;go_wp2_with fail
    refine bodyPost_ret (v := .tuple #[.slice A2 (lenW i n) c2, .int .i64 0]) (by simp [results, Tryz.results62, go_sem]) rfl ?_;have hl := Hhl.out;rw [hl] at hE ⊢;exact .inl ⟨Hhin.out, _, _, rfl, hE.here.2, hE.bel⟩
   have hl : lenW i n = n := by unfold lenW; rw [if_neg hin]
   have t2 : ((lenW i n : Nat) == n) = true := beq_iff_eq.2 hl;have t3 : (((lenW i n : Nat) : Int) == (n : Int)) = true := beq_iff_eq.2 (by omega);have Hhin := Lib.hid hin;clear hin;have Hhl := Lib.hid hl;clear hl;go_wp2_with fail
   refine bodyPost_ret (v := .tuple #[.slice none 0 0, .int .i64 6]) (by simp [results, Tryz.results62, go_sem]) rfl ?_;exact .inr ⟨by have := Hhin.out; omega, rfl, hE.bel⟩
  have t1 : decide ((j : Int) < (n : Int)) = true := decide_eq_true (by omega)
  have t2 : (j : Int) < (n : Int) := by omega
  obtain ⟨b, o, rfl, hb, hc⟩ := (HhM.out.below hE.bel) (by omega)
  obtain ⟨x, hx⟩ : ∃ x, x = r j := ⟨_, rfl⟩
  obtain ⟨⟨d0, d1, d2, d3, d4, d5⟩, -⟩ := hc j hlt;rw [← hx] at d0 d1 d2 d3 d4 d5;clear hb hc
  have hzj : x.I = z ↔ j = i := by rw [hx]; exact Hhz.out j hlt
  have Hhx := Lib.hid hx;clear hx;have Hhzj := Lib.hid hzj;clear hzj
  by_cases hji : j = i
  ·
   have u1 : (x.I != z) = false := by rw [bne_eq_false_iff_eq]; exact Hhzj.out.2 hji
   subst hji;have hl := Lib.hid (skip_own j);go_wp2_with fail
   go_roundw
   case rel => refine ⟨j + 1, v, by omega, rfl, by go_num, ?_⟩; rw [hl.out]; exact ((Env.again hE.bel).rwv (hE.here.2))
   case measure => simp [intOf]; omega
  have u1 : (x.I != z) = true := by rw [bne_iff_ne]; exact fun h => hji (Hhzj.out.1 h)
  obtain ⟨hs1, hs2⟩ := skip_len hji;have Hhs1 := Lib.hid hs1;clear hs1;have Hhs2 := Lib.hid hs2;clear hs2;have Hhji := Lib.hid hji;clear hji
  go_upto_region 8 with (fail)
  have hbA := belAlloc wr (.cells #[.int .i64 x.I, .bool x.w.s, .slice x.w.A x.w.n x.w.c, .bool x.w.t, .slice x.w.B x.w.m x.w.d, .int .i64 x.K] 92);have hBn := Blk.new wr 92 #[.int .i64 x.I, .bool x.w.s, .slice x.w.A x.w.n x.w.c, .bool x.w.t, .slice x.w.B x.w.m x.w.d, .int .i64 x.K];have hE2 := hE.step hbA;have hlj := lenW_le i j;obtain ⟨v2, wz, hr, hR2, hgw⟩ := push_any rclElem 54 (hE2.here.2) hE2.bel.size ((fun k => r (skip i k)) (lenW i j)).I (Kz (fun k => r (skip i k)) (lenW i j)) ((fun k => r (skip i k)) (lenW i j)).w (show Blk 92 _ (clL (r (skip i (lenW i j))).I (r (skip i (lenW i j))).K (r (skip i (lenW i j))).w).toArray _ from by rw [Hhs1.out, ← Hhx.out]; exact hBn) (by omega);replace hR2 := hR2.congr (fun q _ => clR_step (fun j => ((fun k => r (skip i k)) j).I) (Kz (fun k => r (skip i k))) (fun j => ((fun k => r (skip i k)) j).w) (lenW i j) q);have hE3 := (Env.again (Go.Proofs.YtjgihmmeimfheaaGreat.Below.grownR hE2.bel (hE2.here.2) hgw (Nat.le_refl _) hE2.bel.size)).rwv hR2;have HF := Lib.hid hE3;clear hbA hBn hE2 hlj hR2 hgw hE3;go_wp2_with (first | refine wpList_appP hr rfl rfl rfl rfl ?_)
  have hE3 := HF.out
  go_roundw
  case rel => refine ⟨j + 1, v2, by omega, rfl, by go_num, ?_⟩; rw [Hhs2.out]; exact hE3
  case measure => simp [intOf]; omega
end
section
open Go.RowKit
attribute [local go_sem] Oper.semAt_some

def Al (a : Int) (n : Nat) (r : Nat → Cl) : Prop := (0 ≤ a ∧ a ≤ 1099511627776) ∧ ClOK n r
theorem sExact_bad {A : Option Addr} {n c : Nat} {r : Nat → Cl} {w : World} (a : Int) (hM : ClM A n r w) (hno : ¬ Al a n r) :
  Calls Tryz.prog 14 #[.int .i64 a, .slice A n c] w (fun e w' => e = .returned (.tuple #[.slice none 0 0, .int .i64 2]) ∧ Below w.heap.size w w') := by
 have HhM := Lib.hid hM;clear hM;have Hhno := Lib.hid hno;clear hno;have hE := Env.start w
 go_enter Tryz.func14, Tryz.ntmps14
 go_wp2_with fail
 refine (svalid_any A n c r _ (HhM.out.below hE.bel)).mono ?_
 rintro e w1 ⟨v, rfl, hv, hb⟩
 replace hE := hE.step hb;clear hb
 cases v with
 | false =>
  clear hv;go_wp2_with fail
  refine bodyPost_ret (v := .tuple #[.slice none 0 0, .int .i64 2]) (by simp [results, Tryz.results14, go_sem]) rfl ?_;exact ⟨rfl, hE.bel⟩
 | true =>
  have hok := hv.1 rfl;clear hv;have Hhok := Lib.hid hok;clear hok
  by_cases ha : a < 0
  ·
   have t1 : decide (a < 0) = true := decide_eq_true ha;have Hha := Lib.hid ha;clear ha;go_wp2_with fail
   refine bodyPost_ret (v := .tuple #[.slice none 0 0, .int .i64 2]) (by simp [results, Tryz.results14, go_sem]) rfl ?_;exact ⟨rfl, hE.bel⟩
  have t1 : decide (a < 0) = false := decide_eq_false ha
  have ha2 : 1099511627776 < a := Classical.byContradiction fun h => Hhno.out ⟨⟨by omega, by omega⟩, Hhok.out⟩
  have t2 : decide (1099511627776 < a) = true := decide_eq_true ha2;have Hha := Lib.hid ha;clear ha;have Hha2 := Lib.hid ha2;clear ha2;go_wp2_with fail
  refine bodyPost_ret (v := .tuple #[.slice none 0 0, .int .i64 2]) (by simp [results, Tryz.results14, go_sem]) rfl ?_;exact ⟨rfl, hE.bel⟩
theorem sParts_bad {A : Option Addr} {n c : Nat} {r : Nat → Cl} {w : World} (a : Int) (hM : ClM A n r w) (hno : ¬ Al a n r) :
  Calls Tryz.prog 15 #[.int .i64 a, .slice A n c] w (fun e w' => e = .returned (.tuple #[.slice none 0 0, .int .i64 2]) ∧ Below w.heap.size w w') := by
 have HhM := Lib.hid hM;clear hM;have Hhno := Lib.hid hno;clear hno;have hE := Env.start w;refine (callsIn_wide (n := 5)).1 ?_;have hro : Fence.wide.round = none := rfl;refine callsIn_of_wp_marks Tryz.func15 rfl trivial ?_ hro;simp only [Tryz.ntmps15, List.size_toArray, List.length_cons, List.length_nil, Nat.reduceAdd, Nat.reduceSub, Array.replicate_succ, Array.replicate_zero, List.push_toArray, List.append_toArray, List.nil_append, List.cons_append];refine wpIn_wide.2 ?_;go_wp2_with fail
 refine (svalid_any A n c r _ (HhM.out.below hE.bel)).mono ?_
 rintro e w1 ⟨v, rfl, hv, hb⟩
 replace hE := hE.step hb;clear hb
 cases v with
 | false =>
  clear hv;go_wp2_with fail
  refine ⟨.tuple #[.slice none 0 0, .int .i64 2], by simp [results, Tryz.results15, go_sem], rfl, hE.bel⟩
 | true =>
  have hok := hv.1 rfl;clear hv;have Hhok := Lib.hid hok;clear hok
  by_cases ha : a < 0
  ·
   have t1 : decide (a < 0) = true := decide_eq_true ha;have Hha := Lib.hid ha;clear ha;go_wp2_with fail
   refine ⟨.tuple #[.slice none 0 0, .int .i64 2], by simp [results, Tryz.results15, go_sem], rfl, hE.bel⟩
  have t1 : decide (a < 0) = false := decide_eq_false ha
  have ha2 : 1099511627776 < a := Classical.byContradiction fun h => Hhno.out ⟨⟨by omega, by omega⟩, Hhok.out⟩
  have t2 : decide (1099511627776 < a) = true := decide_eq_true ha2;have Hha := Lib.hid ha;clear ha;have Hha2 := Lib.hid ha2;clear ha2;go_wp2_with fail
  refine ⟨.tuple #[.slice none 0 0, .int .i64 2], by simp [results, Tryz.results15, go_sem], rfl, hE.bel⟩
theorem sLevel_bad {A : Option Addr} {n c : Nat} {r : Nat → Cl} {w : World} (a : Int) (hM : ClM A n r w) (hno : ¬ Al a n r) :
  Calls Tryz.prog 13 #[.int .i64 a, .slice A n c] w (fun e w' => e = .returned (.tuple #[.agg #[.bool false, .slice none 0 0, .bool false, .slice none 0 0], .int .i64 2]) ∧ Below w.heap.size w w') := by
 have HhM := Lib.hid hM;clear hM;have Hhno := Lib.hid hno;clear hno;have hE := Env.start w;have hE := hE.blk 29 #[.bool false, .slice none 0 0, .bool false, .slice none 0 0] (g := w.heap.size) rfl
 obtain ⟨W0, hW0⟩ : ∃ W0, W0 = (w.alloc (.cells #[.bool false, .slice none 0 0, .bool false, .slice none 0 0] 29)) := ⟨_, rfl⟩
 rw [← hW0] at hE;have HW0 := Lib.hid hW0;clear hW0
 go_enter Tryz.func13, Tryz.ntmps13
 go_upto_region 1 with (fail)
 rw [← HW0.out];go_wp2_with fail
 refine (svalid_any A n c r _ (HhM.out.below hE.bel)).mono ?_
 rintro e w1 ⟨v, rfl, hv, hb⟩
 replace hE := hE.step hb;clear hb
 cases v with
 | false =>
  clear hv
  go_upto_region 2 with (fail)
  have hRl : w.heap.size ≤ w.heap.size := by omega
  have hB := (hE.here.2).s4 (.bool false) (.slice none 0 0) (.bool false) (.slice none 0 0);have hBel := bel4 hE.bel hRl (.bool false) (.slice none 0 0) (.bool false) (.slice none 0 0)
  obtain ⟨WW, hWW⟩ : ∃ x, x = ((((w1.setCell ⟨w.heap.size, 0, none⟩ (.bool false)).setCell ⟨w.heap.size, 1, none⟩ (.slice none 0 0)).setCell ⟨w.heap.size, 2, none⟩ (.bool false)).setCell ⟨w.heap.size, 3, none⟩ (.slice none 0 0)) := ⟨_, rfl⟩
  rw [← hWW] at hB hBel;obtain ⟨x0, x1, x2, x3⟩ := (hE.here.2).c4;obtain ⟨fz0, fz1, fz2, fz3⟩ := (hE.here.2).f4;have HWW := Lib.hid hWW;clear hWW;go_wp2_with fail
  clear x0 x1 x2 x3;rw [← HWW.out];obtain ⟨y0, y1, y2, y3⟩ := hB.c4;refine bodyPost_ret (v := .tuple #[.agg #[.bool false, .slice none 0 0, .bool false, .slice none 0 0], .int .i64 2]) (by simp [results, Tryz.results13, go_sem, y0, y1, y2, y3]) rfl ?_;exact ⟨rfl, hBel⟩
 | true =>
  have hok := hv.1 rfl;clear hv;have Hhok := Lib.hid hok;clear hok
  by_cases ha : a < 0
  ·
   have t1 : decide (a < 0) = true := decide_eq_true ha;have Hha := Lib.hid ha;clear ha
   go_upto_region 2 with (fail)
   have hRl : w.heap.size ≤ w.heap.size := by omega
   have hB := (hE.here.2).s4 (.bool false) (.slice none 0 0) (.bool false) (.slice none 0 0);have hBel := bel4 hE.bel hRl (.bool false) (.slice none 0 0) (.bool false) (.slice none 0 0)
   obtain ⟨WW, hWW⟩ : ∃ x, x = ((((w1.setCell ⟨w.heap.size, 0, none⟩ (.bool false)).setCell ⟨w.heap.size, 1, none⟩ (.slice none 0 0)).setCell ⟨w.heap.size, 2, none⟩ (.bool false)).setCell ⟨w.heap.size, 3, none⟩ (.slice none 0 0)) := ⟨_, rfl⟩
   rw [← hWW] at hB hBel;obtain ⟨x0, x1, x2, x3⟩ := (hE.here.2).c4;obtain ⟨fz0, fz1, fz2, fz3⟩ := (hE.here.2).f4;have HWW := Lib.hid hWW;clear hWW;go_wp2_with fail
   clear x0 x1 x2 x3;rw [← HWW.out];obtain ⟨y0, y1, y2, y3⟩ := hB.c4;refine bodyPost_ret (v := .tuple #[.agg #[.bool false, .slice none 0 0, .bool false, .slice none 0 0], .int .i64 2]) (by simp [results, Tryz.results13, go_sem, y0, y1, y2, y3]) rfl ?_;exact ⟨rfl, hBel⟩
  have t1 : decide (a < 0) = false := decide_eq_false ha
  have ha2 : 1099511627776 < a := Classical.byContradiction fun h => Hhno.out ⟨⟨by omega, by omega⟩, Hhok.out⟩
  have t2 : decide (1099511627776 < a) = true := decide_eq_true ha2;have Hha := Lib.hid ha;clear ha;have Hha2 := Lib.hid ha2;clear ha2
  go_upto_region 2 with (fail)
  have hRl : w.heap.size ≤ w.heap.size := by omega
  have hB := (hE.here.2).s4 (.bool false) (.slice none 0 0) (.bool false) (.slice none 0 0);have hBel := bel4 hE.bel hRl (.bool false) (.slice none 0 0) (.bool false) (.slice none 0 0)
  obtain ⟨WW, hWW⟩ : ∃ x, x = ((((w1.setCell ⟨w.heap.size, 0, none⟩ (.bool false)).setCell ⟨w.heap.size, 1, none⟩ (.slice none 0 0)).setCell ⟨w.heap.size, 2, none⟩ (.bool false)).setCell ⟨w.heap.size, 3, none⟩ (.slice none 0 0)) := ⟨_, rfl⟩
  rw [← hWW] at hB hBel;obtain ⟨x0, x1, x2, x3⟩ := (hE.here.2).c4;obtain ⟨fz0, fz1, fz2, fz3⟩ := (hE.here.2).f4;have HWW := Lib.hid hWW;clear hWW;go_wp2_with fail
  clear x0 x1 x2 x3;rw [← HWW.out];obtain ⟨y0, y1, y2, y3⟩ := hB.c4;refine bodyPost_ret (v := .tuple #[.agg #[.bool false, .slice none 0 0, .bool false, .slice none 0 0], .int .i64 2]) (by simp [results, Tryz.results13, go_sem, y0, y1, y2, y3]) rfl ?_;exact ⟨rfl, hBel⟩
theorem rsallowed_v {A : Option Addr} {n c : Nat} {r : Nat → Cl} {w : World} (a : Int) (hM : ClM A n r w) :
  Calls Tryz.prog 99 #[.int .i64 a, .slice A n c] w (BoolIff (Al a n r) w) := by
 have HhM := Lib.hid hM;clear hM;have hE := Env.start w
 go_enter Tryz.func99, Tryz.ntmps99
 by_cases ha : 0 ≤ a
 rotate_left
 ·
  have t1 : decide (0 ≤ a) = false := decide_eq_false ha;have Hha := Lib.hid ha;clear ha;go_wp2_with fail
  go_ret
  exact ⟨false, rfl, no_iff (fun h => by have h1 := h.1.1; have h2 := Hha.out; omega), hE.bel⟩
 have t1 : decide (0 ≤ a) = true := decide_eq_true ha
 by_cases hb : a ≤ 1099511627776
 rotate_left
 ·
  have t2 : decide (a ≤ 1099511627776) = false := decide_eq_false hb;have Hha := Lib.hid ha;clear ha;have Hhb := Lib.hid hb;clear hb;go_wp2_with fail
  go_ret
  exact ⟨false, rfl, no_iff (fun h => by have h1 := h.1.2; have h2 := Hhb.out; omega), hE.bel⟩
 have t2 : decide (a ≤ 1099511627776) = true := decide_eq_true hb;have Hha := Lib.hid ha;clear ha;have Hhb := Lib.hid hb;clear hb;go_wp2_with fail
 refine (rsvalid_v (c := c) (HhM.out.below hE.bel)).mono ?_
 rintro e w1 ⟨v, rfl, hv, hb⟩
 replace hE := hE.step hb;clear hb;have Hhv := Lib.hid hv;clear hv;go_wp2_with fail
 go_ret
 exact ⟨v, rfl, ⟨fun h => ⟨⟨Hha.out, Hhb.out⟩, Hhv.out.1 h⟩, fun h => Hhv.out.2 h.2⟩, hE.bel⟩
theorem rsExact_bad {A : Option Addr} {n c : Nat} {r : Nat → Cl} {w : World} (a : Int) (hM : ClM A n r w) (hno : ¬ Al a n r) :
  Calls Tryz.prog 60 #[.int .i64 a, .slice A n c] w (fun e w' => e = .returned (.tuple #[.slice none 0 0, .int .i64 2]) ∧ Below w.heap.size w w') := by
 have HhM := Lib.hid hM;clear hM;have Hhno := Lib.hid hno;clear hno;have hE := Env.start w
 go_enter Tryz.func60, Tryz.ntmps60
 go_wp2_with fail
 refine (rsallowed_v (c := c) a (HhM.out.below hE.bel)).mono ?_
 rintro e w1 ⟨v, rfl, hv, hb⟩
 replace hE := hE.step hb
 obtain rfl : v = false := by cases v; rfl; exact absurd (hv.1 rfl) Hhno.out
 clear hb hv;go_wp2_with fail
 refine bodyPost_ret (v := .tuple #[.slice none 0 0, .int .i64 2]) (by simp [results, Tryz.results60, go_sem]) rfl ?_;exact ⟨rfl, hE.bel⟩
theorem rsParts_bad {A : Option Addr} {n c : Nat} {r : Nat → Cl} {w : World} (a : Int) (hM : ClM A n r w) (hno : ¬ Al a n r) :
  Calls Tryz.prog 61 #[.int .i64 a, .slice A n c] w (fun e w' => e = .returned (.tuple #[.slice none 0 0, .int .i64 2]) ∧ Below w.heap.size w w') := by
 have HhM := Lib.hid hM;clear hM;have Hhno := Lib.hid hno;clear hno;have hE := Env.start w
 go_enter Tryz.func61, Tryz.ntmps61
 go_wp2_with fail
 refine hE.br (rsExact_bad (c := c) a (HhM.out.below hE.bel) Hhno.out) ?_;clear hE;intro w1 hE;go_wp2_with fail
 refine bodyPost_ret (v := .tuple #[.slice none 0 0, .int .i64 2]) (by simp [results, Tryz.results61, go_sem]) rfl ?_;exact ⟨rfl, hE.bel⟩
theorem rsLevel_bad {A : Option Addr} {n c : Nat} {r : Nat → Cl} {w : World} (a : Int) (hM : ClM A n r w) (hno : ¬ Al a n r) :
  Calls Tryz.prog 59 #[.int .i64 a, .slice A n c] w (fun e w' => e = .returned (.tuple #[.agg #[.bool false, .slice none 0 0, .bool false, .slice none 0 0], .int .i64 2]) ∧ Below w.heap.size w w') := by
 have HhM := Lib.hid hM;clear hM;have Hhno := Lib.hid hno;clear hno;have hE := Env.start w;have hE := hE.blk 29 #[.bool false, .slice none 0 0, .bool false, .slice none 0 0] (g := w.heap.size) rfl
 obtain ⟨W0, hW0⟩ : ∃ W0, W0 = (w.alloc (.cells #[.bool false, .slice none 0 0, .bool false, .slice none 0 0] 29)) := ⟨_, rfl⟩
 rw [← hW0] at hE;have HW0 := Lib.hid hW0;clear hW0
 go_enter Tryz.func59, Tryz.ntmps59
 go_upto_region 1 with (fail)
 rw [← HW0.out];go_wp2_with fail
 refine (rsallowed_v (c := c) a (HhM.out.below hE.bel)).mono ?_
 rintro e w1 ⟨v, rfl, hv, hb⟩
 replace hE := hE.step hb
 obtain rfl : v = false := by cases v; rfl; exact absurd (hv.1 rfl) Hhno.out
 clear hb hv
 go_upto_region 2 with (fail)
 have hRl : w.heap.size ≤ w.heap.size := by omega
 have hB := (hE.here.2).s4 (.bool false) (.slice none 0 0) (.bool false) (.slice none 0 0);have hBel := bel4 hE.bel hRl (.bool false) (.slice none 0 0) (.bool false) (.slice none 0 0)
 obtain ⟨WW, hWW⟩ : ∃ x, x = ((((w1.setCell ⟨w.heap.size, 0, none⟩ (.bool false)).setCell ⟨w.heap.size, 1, none⟩ (.slice none 0 0)).setCell ⟨w.heap.size, 2, none⟩ (.bool false)).setCell ⟨w.heap.size, 3, none⟩ (.slice none 0 0)) := ⟨_, rfl⟩
 rw [← hWW] at hB hBel;obtain ⟨x0, x1, x2, x3⟩ := (hE.here.2).c4;obtain ⟨fz0, fz1, fz2, fz3⟩ := (hE.here.2).f4;have HWW := Lib.hid hWW;clear hWW;go_wp2_with fail
 clear x0 x1 x2 x3;rw [← HWW.out];obtain ⟨y0, y1, y2, y3⟩ := hB.c4;refine bodyPost_ret (v := .tuple #[.agg #[.bool false, .slice none 0 0, .bool false, .slice none 0 0], .int .i64 2]) (by simp [results, Tryz.results59, go_sem, y0, y1, y2, y3]) rfl ?_;exact ⟨rfl, hBel⟩
end
end Go.Proofs.YtjgihmmeimfheaaGreat
