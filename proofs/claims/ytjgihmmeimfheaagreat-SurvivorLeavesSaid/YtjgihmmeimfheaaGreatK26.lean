/-
  Several texts in one: The walks of the reference's one, Lowest and Quick. Lengths of a fraction and of its opposite.
-/
import Derived.Test.YtjgihmmeimfheaaGreatK3
import Derived.Test.YtjgihmmeimfheaaGreatK18
import Derived.Test.YtjgihmmeimfheaaGreatK25
import Derived.Test.YtjgihmmeimfheaaGreatK19
import Derived.Deep.CutRange
namespace Go.Proofs.YtjgihmmeimfheaaGreat
open Go.RowKit

set_option maxRecDepth 100000 in
theorem rone_v {z : Int} {A : Option Addr} {n c : Nat} {w : World} (ha : WV w z false A n) (hn : n ≤ 1000000) :
  Calls Tryz.prog 96 #[.slice A n c] w fun e w' => e = .returned (.bool (decide (z = 1))) ∧ Below w.heap.size w w' := by
 obtain ⟨hs, hl, hr⟩ := ha
 have hz : ¬ z < 0 := of_decide_eq_false hs.symm
 by_cases h1 : n = 1
 ·
  subst h1
  obtain ⟨b, o, rfl, hb, hc⟩ := hr (by omega)
  have c1 := hc 0 (by omega)
  rw [Nat.add_zero] at c1
  have hv : dgt b16 z.natAbs 0 = z.natAbs := by
   have h := vs_dgt_ln b16_two (x := z.natAbs)
   rw [← hl, vs_succ, vs_zero] at h
   simpa using h
  rw [hv] at c1
  have hlt : b < w.heap.size := hb
  clear hl hs hc hr hv
  by_cases h2 : z = 1
  ·
   have t2 : (((z.natAbs : Nat) : Int) == 1) = true := beq_iff_eq.2 (by omega)
   have HE := Lib.hid (decide_eq_true h2)
   clear h2
   go_enter Tryz.func96, Tryz.ntmps96
   go_wp2_with fail
   go_ret
   exact ⟨ret_bool HE.out.symm, Below.refl _ _⟩
  ·
   have t2 : (((z.natAbs : Nat) : Int) == 1) = false := beq_eq_false_iff_ne.2 (by omega)
   have HE := Lib.hid (decide_eq_false h2)
   clear h2
   go_enter Tryz.func96, Tryz.ntmps96
   go_wp2_with fail
   go_ret
   exact ⟨ret_bool HE.out.symm, Below.refl _ _⟩
 ·
  have hz1 : ¬ z = 1 := fun e => h1 (by rw [hl, e]; decide)
  have HE := Lib.hid (decide_eq_false hz1)
  have t1 : ((n : Int) == 1) = false := beq_eq_false_iff_ne.2 (by omega)
  clear hl hz1 hs hr
  go_enter Tryz.func96, Tryz.ntmps96
  go_wp2_with fail
  go_ret
  exact ⟨ret_bool HE.out.symm, Below.refl _ _⟩
/-- Limbs without a sign. -/
theorem WV.nat {w : World} {x : Nat} {A : Option Addr} (h : Num16 w A x) : WV w (x : Int) false A (ln b16 x) := ⟨(decide_eq_false (by omega)).symm, by rw [Int.natAbs_natCast], by rw [Int.natAbs_natCast]; exact h⟩
/-- The call returned the limbs of x. -/
def LR (x : Nat) (w : World) (e : Ending) (w' : World) : Prop := ∃ A n c, e = .returned (.slice A n c) ∧ WV w' (x : Int) false A n ∧ Below w.heap.size w w'
/-- The call returned the limbs of x and of y. -/
def LR2 (x y : Nat) (w : World) (e : Ending) (w' : World) : Prop := ∃ A n c B m d, e = .returned (.tuple #[.slice A n c, .slice B m d]) ∧ WV w' (x : Int) false A n ∧ WV w' (y : Int) false B m ∧ Below w.heap.size w w'
section
variable {a b : Int} {s t : Bool} {A B : Option Addr} {n m c d : Nat} {w : World}
theorem rcommon_v (ha : WV w a s A n) (hb : WV w b t B m) (la : n ≤ 900000) (lb : m ≤ 900000) :
  Calls Tryz.prog 97 #[.slice A n c, .slice B m d] w (LR (Nat.gcd a.natAbs b.natAbs) w) := by
 obtain ⟨-, rfl, hA⟩ := ha
 obtain ⟨-, rfl, hB⟩ := hb
 exact (rcommon_any A B c d a.natAbs b.natAbs w hA hB la lb).mono fun _ _ ⟨A', c', he, h, hb⟩ => ⟨A', _, c', he, WV.nat h, hb⟩
theorem rdivided_v (ha : WV w a s A n) (hb : WV w b t B m) (la : n ≤ 900000) (lb : m ≤ 900000) (hb0 : b ≠ 0) :
  Calls Tryz.prog 108 #[.slice A n c, .slice B m d] w (LR2 (a.natAbs / b.natAbs) (a.natAbs % b.natAbs) w) := by
 obtain ⟨-, rfl, hA⟩ := ha
 obtain ⟨-, rfl, hB⟩ := hb
 exact (rdivided_any A B c d a.natAbs b.natAbs w hA hB (by omega) la lb).mono fun _ _ ⟨A', c', B', d', he, h, h', hb⟩ => ⟨A', _, c', B', _, d', he, WV.nat h, WV.nat h', hb⟩
theorem make_v (r : Bool) (ha : WV w a s A n) : Calls Tryz.prog 93 #[.bool r, .slice A n c] w (WR (toI r a.natAbs) w) := by
 obtain ⟨-, rfl, hA⟩ := ha
 refine (make_any r A (ln b16 a.natAbs) c w).mono fun e w' h => ?_
 have hs := sgn_of (z := toI r a.natAbs) (s := r) (x := a.natAbs) rfl
 obtain ⟨he, hb⟩ := h
 exact ⟨_, A, _, c, he, ⟨hs.2, by rw [hs.1], by rw [hs.1]; exact Num16.below hA hb⟩, hb⟩
end
/-- Lowest terms by absolute values. -/
theorem low_abs (a b : Int) (hb : b ≠ 0) : (Rat.divInt a b).num = toI (decide (a < 0) != decide (b < 0)) (a.natAbs / Nat.gcd a.natAbs b.natAbs) ∧ (((Rat.divInt a b).den : Nat) : Int) = toI false (b.natAbs / Nat.gcd a.natAbs b.natAbs) := by
 have hg : ((Nat.gcd a.natAbs b.natAbs : Nat) : Int) ∣ a := Int.ofNat_dvd_left.2 (Nat.gcd_dvd_left _ _)
 rcases Int.lt_or_lt_of_ne hb with h | h
 ·
  have h1 := low_num (n := -a) (d := -b) (by omega)
  rw [low_neg, Int.natAbs_neg, Int.natAbs_neg] at h1
  refine ⟨?_, ?_⟩
  ·
   rw [h1.1, Int.neg_ediv_of_dvd hg]
   by_cases ha : a < 0
   ·
    rw [decide_eq_true ha, decide_eq_true h]
    obtain ⟨k, rfl⟩ : ∃ k : Nat, a = -(k : Int) := ⟨a.natAbs, by omega⟩
    rw [Int.natAbs_neg, Int.natAbs_natCast] at hg ⊢
    rw [Int.neg_ediv_of_dvd (Int.natCast_dvd_natCast.2 (Nat.gcd_dvd_left _ _)), Int.neg_neg]
    show _ = ((k / Nat.gcd k b.natAbs : Nat) : Int)
    rw [Int.natCast_ediv]
   ·
    rw [decide_eq_false ha, decide_eq_true h]
    obtain ⟨k, rfl⟩ : ∃ k : Nat, a = (k : Int) := ⟨a.natAbs, by omega⟩
    rw [Int.natAbs_natCast]
    show _ = -((k / Nat.gcd k b.natAbs : Nat) : Int)
    rw [Int.natCast_ediv]
  ·
   rw [h1.2]
   obtain ⟨k, rfl⟩ : ∃ k : Nat, b = -(k : Int) := ⟨b.natAbs, by omega⟩
   rw [Int.neg_neg, Int.natAbs_neg, Int.natAbs_natCast]
   show _ = ((k / Nat.gcd a.natAbs k : Nat) : Int)
   rw [Int.natCast_ediv]
 ·
  have h1 := low_num (n := a) (d := b) h
  refine ⟨?_, ?_⟩
  ·
   rw [h1.1, decide_eq_false (show ¬ b < 0 by omega)]
   by_cases ha : a < 0
   ·
    rw [decide_eq_true ha]
    obtain ⟨k, rfl⟩ : ∃ k : Nat, a = -(k : Int) := ⟨a.natAbs, by omega⟩
    rw [Int.natAbs_neg, Int.natAbs_natCast] at hg ⊢
    rw [Int.neg_ediv_of_dvd (Int.natCast_dvd_natCast.2 (Nat.gcd_dvd_left _ _))]
    show _ = -((k / Nat.gcd k b.natAbs : Nat) : Int)
    rw [Int.natCast_ediv]
   ·
    rw [decide_eq_false ha]
    obtain ⟨k, rfl⟩ : ∃ k : Nat, a = (k : Int) := ⟨a.natAbs, by omega⟩
    rw [Int.natAbs_natCast]
    show _ = ((k / Nat.gcd k b.natAbs : Nat) : Int)
    rw [Int.natCast_ediv]
  ·
   rw [h1.2]
   obtain ⟨k, rfl⟩ : ∃ k : Nat, b = (k : Int) := ⟨b.natAbs, by omega⟩
   rw [Int.natAbs_natCast]
   show _ = ((k / Nat.gcd a.natAbs k : Nat) : Int)
   rw [Int.natCast_ediv]
set_option linter.unusedSimpArgs false in
set_option maxRecDepth 100000 in
set_option maxHeartbeats 2000000 in
theorem rlowest_v {a b : Int} {sa sb : Bool} {Aa Ab : Option Addr} {na ca nb cb : Nat} {w : World} (ha : WV w a sa Aa na) (hb : WV w b sb Ab nb) (la : na ≤ 900000) (lb : nb ≤ 900000) (hb0 : b ≠ 0) :
  Calls Tryz.prog 65 #[.agg #[.bool sa, .slice Aa na ca], .agg #[.bool sb, .slice Ab nb cb]] w (FR (Rat.divInt a b) w) := by
 by_cases hg1 : Nat.gcd a.natAbs b.natAbs = 1
 ·
  have hE := ((((Env.start w).wv ha).wv hb).blk 27 #[.bool sa, .slice Aa na ca] (g := w.heap.size) rfl).blk 27 #[.bool sb, .slice Ab nb cb] (g := w.heap.size + 1) (by simp)
  have hE := hE.blk 29 #[.bool false, .slice none 0 0, .bool false, .slice none 0 0] (g := w.heap.size + 1 + 1) (by simp)
  obtain ⟨W0, hW0⟩ : ∃ W0, W0 = (((w.alloc (.cells #[.bool sa, .slice Aa na ca] 27)).alloc (.cells #[.bool sb, .slice Ab nb cb] 27)).alloc (.cells #[.bool false, .slice none 0 0, .bool false, .slice none 0 0] 29)) := ⟨_, rfl⟩
  rw [← hW0] at hE
  have HW0 := Lib.hid hW0
  clear hW0
  go_enter Tryz.func65, Tryz.ntmps65
  go_upto_region 1 with (fail)
  rw [← HW0.out]
  obtain ⟨k1, k2⟩ := (hE.h2).c2
  obtain ⟨k3, k4⟩ := (hE.here.1.2).c2
  go_wp2_with fail
  have hc := rcommon_v (c := ca) (d := cb) hE.h4 hE.h3 la lb
  refine hc.mono ?_
  clear hc
  clear k1 k2 k3 k4
  rintro e w5 ⟨Ag, ng, cg, rfl, hg, hb⟩
  replace hE := hE.step hb
  clear hb
  replace hE := hE.wv hg
  clear hg
  have lg : ng ≤ 900000 := by rw [(hE.here.2).len, Int.natAbs_natCast]; refine Nat.le_trans (ln_mono b16_two (Nat.gcd_le_right _ (show 0 < b.natAbs by omega))) ?_; rw [← (hE.h4).len]; exact lb
  go_wp2_with fail
  have hc := rone_v (c := cg) hE.here.2 (by omega)
  rw [decide_eq_true (show ((Nat.gcd a.natAbs b.natAbs : Nat) : Int) = 1 by omega)] at hc
  refine hE.br hc ?_
  clear hE hc
  intro w20 hE
  obtain ⟨e1, e2⟩ := low_abs a b hb0
  rw [← (hE.h5).sgn, ← (hE.h4).sgn] at e1
  rw [hg1, Nat.div_one] at e1 e2
  have E1 := Lib.hid e1
  have E2 := Lib.hid e2
  have HG := Lib.hid hg1
  clear e1 e2 hg1
  go_upto_region 3 with (fail)
  replace hE := hE.drew
  refine wp_region_held_drew (S := fun w' => w'.cell? ⟨w.heap.size, 0, none⟩ = some (.bool sa) ∧ w'.cell? ⟨w.heap.size, 1, none⟩ = some (.slice Aa na ca) ∧ w'.cell? ⟨w.heap.size + 1, 0, none⟩ = some (.bool sb) ∧ w'.cell? ⟨w.heap.size + 1, 1, none⟩ = some (.slice Ab nb cb)) (by kernel_rfl) (hE.h3.j2 hE.h2.c2) (fun hHeld => ?_)
  refine tk 0 ?_
  try simp only [PL]
  refine tk 1 ?_
  try simp only [PL]
  refine tk 2 ?_
  try simp only [PL]
  refine tk 3 ?_
  try simp only [PL]
  refine tk 4 ?_
  try simp only [PL]
  refine tk 5 ?_
  try simp only [PL]
  refine tk 6 ?_
  try simp only [PL]
  refine tk 8 ?_
  try simp only [PL]
  refine tk 9 ?_
  try simp only [PL]
  refine r1 7 (fun K hK => ?_)
  go_simp
  have hc := make_v (c := ca) (sa != sb) hE.h5
  refine hc.mono ?_
  clear hc
  rintro e w6 ⟨sx, Ax, nx, cx, rfl, hx, hb⟩
  replace hE := hE.step hb
  clear hb
  replace hE := hE.wv hx
  clear hx
  go_wp2_with fail
  refine hK.out _ _ (hE.h4.j2 hE.h3.c2) (fun hHeld => ?_)
  clear hK K
  try simp only [PL]
  refine r1 10 (fun K hK => ?_)
  go_simp
  have hc := make_v (c := cb) false hE.h5
  refine hc.mono ?_
  clear hc
  rintro e w7 ⟨sy, Ay, ny, cy, rfl, hy, hb⟩
  replace hE := hE.step hb
  clear hb
  replace hE := hE.wv hy
  clear hy
  have hfv : FV w7 (Rat.divInt a b) sx Ax nx sy Ay ny := ⟨by rw [E1.out]; exact hE.here.1.2, by rw [E2.out]; exact hE.here.2⟩
  replace hE := hE.fv hfv
  clear hfv
  go_wp2_with fail
  refine hK.out _ _ (hE.h6.j2 hE.h5.c2) (fun hHeld => ?_)
  clear hK K
  try simp only [PL]
  refine tk 11 ?_
  try simp only [PL]
  refine r1 12 (fun K hK => ?_)
  have hRl : w.heap.size ≤ w.heap.size + 1 + 1 := by omega
  obtain ⟨WW, hWW, hB, hV, hBel⟩ := ret_frac hE hE.h4 hRl hE.here.2 cx cy
  obtain ⟨x0, x1, x2, x3⟩ := (hE.h4).c4
  obtain ⟨fz0, fz1, fz2, fz3⟩ := hE.h4.f4
  have HWW := Lib.hid hWW
  clear hWW
  have q8 := (hE.h6).far4 (R := w.heap.size + 1 + 1) (by omega) (.bool sx) (.slice Ax nx cx) (.bool sy) (.slice Ay ny cy)
  rw [← HWW.out] at q8
  have q9 := (hE.h5).far4 (R := w.heap.size + 1 + 1) (by omega) (.bool sx) (.slice Ax nx cx) (.bool sy) (.slice Ay ny cy)
  rw [← HWW.out] at q9
  go_simp
  rw [← HWW.out]
  refine hK.out _ _ (q8.j2 q9.c2) (fun hHeld => ?_)
  clear hK K
  try simp only [PL]
  refine wpAnyH_done (by kernel_rfl) ?_ _
  go_wp2_with fail
  obtain ⟨y0, y1, y2, y3⟩ := hB.c4
  refine bodyPost_ret (v := .agg #[.bool sx, .slice Ax nx cx, .bool sy, .slice Ay ny cy]) (by simp [results, Tryz.results65, go_sem, y0, y1, y2, y3]) rfl ?_
  exact ⟨sx, Ax, nx, cx, sy, Ay, ny, cy, rfl, hV, hBel⟩
 ·
  have hE := ((((Env.start w).wv ha).wv hb).blk 27 #[.bool sa, .slice Aa na ca] (g := w.heap.size) rfl).blk 27 #[.bool sb, .slice Ab nb cb] (g := w.heap.size + 1) (by simp)
  have hE := hE.blk 29 #[.bool false, .slice none 0 0, .bool false, .slice none 0 0] (g := w.heap.size + 1 + 1) (by simp)
  obtain ⟨W0, hW0⟩ : ∃ W0, W0 = (((w.alloc (.cells #[.bool sa, .slice Aa na ca] 27)).alloc (.cells #[.bool sb, .slice Ab nb cb] 27)).alloc (.cells #[.bool false, .slice none 0 0, .bool false, .slice none 0 0] 29)) := ⟨_, rfl⟩
  rw [← hW0] at hE
  have HW0 := Lib.hid hW0
  clear hW0
  go_enter Tryz.func65, Tryz.ntmps65
  go_upto_region 1 with (fail)
  rw [← HW0.out]
  obtain ⟨k1, k2⟩ := (hE.h2).c2
  obtain ⟨k3, k4⟩ := (hE.here.1.2).c2
  go_wp2_with fail
  have hc := rcommon_v (c := ca) (d := cb) hE.h4 hE.h3 la lb
  refine hc.mono ?_
  clear hc
  clear k1 k2 k3 k4
  rintro e w5 ⟨Ag, ng, cg, rfl, hg, hb⟩
  replace hE := hE.step hb
  clear hb
  replace hE := hE.wv hg
  clear hg
  have lg : ng ≤ 900000 := by rw [(hE.here.2).len, Int.natAbs_natCast]; refine Nat.le_trans (ln_mono b16_two (Nat.gcd_le_right _ (show 0 < b.natAbs by omega))) ?_; rw [← (hE.h4).len]; exact lb
  go_wp2_with fail
  have hc := rone_v (c := cg) hE.here.2 (by omega)
  rw [decide_eq_false (show ¬ ((Nat.gcd a.natAbs b.natAbs : Nat) : Int) = 1 by omega)] at hc
  refine hE.br hc ?_
  clear hE hc
  intro w20 hE
  obtain ⟨e1, e2⟩ := low_abs a b hb0
  rw [← (hE.h5).sgn, ← (hE.h4).sgn] at e1
  have E1 := Lib.hid e1
  have E2 := Lib.hid e2
  have HG := Lib.hid hg1
  clear e1 e2 hg1
  have hgn : ((Nat.gcd a.natAbs b.natAbs : Nat) : Int) ≠ 0 := gcd_ne hb0
  obtain ⟨k6, k7⟩ := (hE.h3).c2
  go_wp2_with fail
  have hc := rdivided_v (c := ca) (d := cg) hE.h5 hE.here.2 la lg hgn
  rw [Int.natAbs_natCast] at hc
  refine hc.mono ?_
  clear hc
  clear k6 k7
  rintro e w8 ⟨Ap, np, cp, Ar, nr, cr, rfl, hp, hr, hb⟩
  replace hE := hE.step hb
  clear hb
  replace hE := (hE.wv hp).wv hr
  clear hp hr
  obtain ⟨k9, k10⟩ := (hE.h4).c2
  go_wp2_with fail
  have hc := rdivided_v (c := cb) (d := cg) hE.h6 hE.h2 lb lg hgn
  rw [Int.natAbs_natCast] at hc
  refine hc.mono ?_
  clear hc
  clear k9 k10
  rintro e w11 ⟨Aq, nq, cq, Au, nu, cu, rfl, hq, hu, hb⟩
  replace hE := hE.step hb
  clear hb
  replace hE := (hE.wv hq).wv hu
  clear hq hu
  obtain ⟨k12, k13⟩ := (hE.h7).c2
  obtain ⟨k14, k15⟩ := (hE.h6).c2
  go_wp2_with fail
  have hc := make_v (c := cp) (sa != sb) hE.h3
  rw [Int.natAbs_natCast] at hc
  refine hc.mono ?_
  clear hc
  clear k12 k13 k14 k15
  rintro e w16 ⟨sx, Ax, nx, cx, rfl, hx, hb⟩
  replace hE := hE.step hb
  clear hb
  replace hE := hE.wv hx
  clear hx
  go_wp2_with fail
  have hc := make_v (c := cq) false hE.h2
  rw [Int.natAbs_natCast] at hc
  refine hc.mono ?_
  clear hc
  rintro e w17 ⟨sy, Ay, ny, cy, rfl, hy, hb⟩
  replace hE := hE.step hb
  clear hb
  replace hE := hE.wv hy
  clear hy
  have hfv : FV w17 (Rat.divInt a b) sx Ax nx sy Ay ny := ⟨by rw [E1.out]; exact hE.here.1.2, by rw [E2.out]; exact hE.here.2⟩
  replace hE := hE.fv hfv
  clear hfv
  have hRl : w.heap.size ≤ w.heap.size + 1 + 1 := by omega
  obtain ⟨WW, hWW, hB, hV, hBel⟩ := ret_frac hE hE.h8 hRl hE.here.2 cx cy
  obtain ⟨x0, x1, x2, x3⟩ := (hE.h8).c4
  obtain ⟨fz0, fz1, fz2, fz3⟩ := hE.h8.f4
  have HWW := Lib.hid hWW
  clear hWW
  go_wp2_with fail
  rw [← HWW.out]
  obtain ⟨y0, y1, y2, y3⟩ := hB.c4
  refine bodyPost_ret (v := .agg #[.bool sx, .slice Ax nx cx, .bool sy, .slice Ay ny cy]) (by simp [results, Tryz.results65, go_sem, y0, y1, y2, y3]) rfl ?_
  exact ⟨sx, Ax, nx, cx, sy, Ay, ny, cy, rfl, hV, hBel⟩
theorem rfromInt_v (z : Int) (w : World) (h1 : -9223372036854775808 ≤ z) (h2 : z ≤ 9223372036854775807) : Calls Tryz.prog 56 #[.int .i64 z] w (WR z w) :=
 (refFromInt_any z w h1 h2).mono fun _ _ h => by obtain ⟨s, A, n, c, he, ho, hb⟩ := h.vi; exact ⟨s, A, n, c, he, ho.v, hb⟩
theorem small_len {w : World} {z : Int} {s : Bool} {A : Option Addr} {n : Nat} (h : WV w z s A n) (h1 : -9223372036854775808 ≤ z) (h2 : z ≤ 9223372036854775807) : n ≤ 4 := by
 rw [h.len]; exact ln_int h1 h2
set_option linter.unusedSimpArgs false in
set_option maxRecDepth 100000 in
set_option maxHeartbeats 2000000 in
theorem rquick_v (n d : Int) (w : World) (h1 : -9223372036854775808 ≤ n) (h2 : n ≤ 9223372036854775807) (h3 : -9223372036854775808 ≤ d) (h4 : d ≤ 9223372036854775807) (hd : d ≠ 0) :
  Calls Tryz.prog 29 #[.int .i64 n, .int .i64 d] w (FR (Rat.divInt n d) w) := by
 have hE := Env.start w
 have hE := hE.blk 29 #[.bool false, .slice none 0 0, .bool false, .slice none 0 0] (g := w.heap.size) rfl
 obtain ⟨W0, hW0⟩ : ∃ W0, W0 = (w.alloc (.cells #[.bool false, .slice none 0 0, .bool false, .slice none 0 0] 29)) := ⟨_, rfl⟩
 rw [← hW0] at hE
 have HW0 := Lib.hid hW0
 clear hW0
 go_enter Tryz.func29, Tryz.ntmps29
 go_upto_region 1 with (fail)
 rw [← HW0.out]
 go_wp2_with fail
 have hc := rfromInt_v n W0 h1 h2
 refine hc.mono ?_
 clear hc
 rintro e w1 ⟨sx, Ax, nx, cx, rfl, hx, hb⟩
 replace hE := hE.step hb
 clear hb
 replace hE := hE.wv hx
 clear hx
 go_wp2_with fail
 have hc := rfromInt_v d w1 h3 h4
 refine hc.mono ?_
 clear hc
 rintro e w2 ⟨sy, Ay, ny, cy, rfl, hy, hb⟩
 replace hE := hE.step hb
 clear hb
 replace hE := hE.wv hy
 clear hy
 have lx := small_len hE.here.1.2 h1 h2
 have ly := small_len hE.here.2 h3 h4
 go_wp2_with fail
 refine hE.fr (rlowest_v (ca := cx) (cb := cy) hE.here.1.2 hE.here.2 (Nat.le_trans lx (by decide)) (Nat.le_trans ly (by decide)) hd) ?_
 clear hE
 intro sf Af nf cf tf Bf mf df w3 hE
 have hRl : w.heap.size ≤ w.heap.size := by omega
 obtain ⟨WW, hWW, hB, hV, hBel⟩ := ret_frac hE hE.h3 hRl hE.here.2 cf df
 obtain ⟨x0, x1, x2, x3⟩ := (hE.h3).c4
 obtain ⟨fz0, fz1, fz2, fz3⟩ := hE.h3.f4
 have HWW := Lib.hid hWW
 clear hWW
 go_wp2_with fail
 rw [← HWW.out]
 obtain ⟨y0, y1, y2, y3⟩ := hB.c4
 refine bodyPost_ret (v := .agg #[.bool sf, .slice Af nf cf, .bool tf, .slice Bf mf df]) (by simp [results, Tryz.results29, go_sem, y0, y1, y2, y3]) rfl ?_
 exact ⟨sf, Af, nf, cf, tf, Bf, mf, df, rfl, hV, hBel⟩
end Go.Proofs.YtjgihmmeimfheaaGreat
namespace Go.Proofs.YtjgihmmeimfheaaGreat
open Go.RowKit

theorem fv_lens {w : World} {q : Rat} {s t : Bool} {A B : Option Addr} {n m k : Nat} (_ : FV w q s A n t B m) (hq : fl q ≤ k) : ln b16 q.num.natAbs ≤ k ∧ ln b16 ((q.den : Nat) : Int).natAbs ≤ k := by
 rw [Int.natAbs_natCast]
 exact fl_le.1 hq
theorem FV.neg {w : World} {q : Rat} {s s' t : Bool} {A B : Option Addr} {n m : Nat} (h : FV w q s A n t B m) (hn : WV w (-q.num) s' A n) : FV w (-q) s' A n t B m := ⟨by rw [Rat.neg_num]; exact hn, by rw [Rat.neg_den]; exact h.2⟩
theorem fl_neg (q : Rat) : fl (-q) = fl q := by
 unfold fl
 rw [Rat.neg_num, Rat.neg_den, Int.natAbs_neg]
end Go.Proofs.YtjgihmmeimfheaaGreat
