/-
  Several texts in one: The walks of the reference's one, Lowest and Quick. Lengths of a fraction and of its opposite. The walks of frac.Make, Div, Neg, Floor and Ceil. The walk of life.isRate. Tables of rates in memory; the walk of life.Valid. The walks of life's last and Right. The walks of life's plus, minus, times and other.
-/
import Derived.Test.YtmjlankpihnicaaGreatK1
import Derived.Test.YtmjlankpihnicaaGreatK6
import Derived.Deep.CutRange
namespace Go.Proofs.YtmjlankpihnicaaGreat
open Go.RowKit

set_option maxRecDepth 100000 in
theorem rone_v {z : Int} {A : Option Addr} {n c : Nat} {w : World} (ha : WV w z false A n) (hn : n ≤ 1000000) :
    Calls Tryz.prog 108 #[.slice A n c] w fun e w' => e = .returned (.bool (decide (z = 1))) ∧ Below w.heap.size w w' := by
  obtain ⟨hs, hl, hr⟩ := ha
  have hz : ¬ z < 0 := of_decide_eq_false hs.symm
  by_cases h1 : n = 1
  · subst h1
    obtain ⟨b, o, rfl, hb, hc⟩ := hr (by omega)
    have c1 := hc 0 (by omega)
    rw [Nat.add_zero] at c1
    have hv : dgt b16 z.natAbs 0 = z.natAbs := by
      have h := vs_dgt_ln b16_two (x := z.natAbs)
      rw [← hl, vs_succ, vs_zero] at h
      simpa using h
    rw [hv] at c1
    have hlt : b < w.heap.size := hb
    clear hl hs hc hr hv
    by_cases h2 : z = 1
    · have t2 : (((z.natAbs : Nat) : Int) == 1) = true := beq_iff_eq.2 (by omega)
      have HE := Lib.hid (decide_eq_true h2)
      clear h2
      go_enter Tryz.func108, Tryz.ntmps108
      go_wp2_with fail
      go_ret
      exact ⟨ret_bool HE.out.symm, Below.refl _ _⟩
    · have t2 : (((z.natAbs : Nat) : Int) == 1) = false := beq_eq_false_iff_ne.2 (by omega)
      have HE := Lib.hid (decide_eq_false h2)
      clear h2
      go_enter Tryz.func108, Tryz.ntmps108
      go_wp2_with fail
      go_ret
      exact ⟨ret_bool HE.out.symm, Below.refl _ _⟩
  · have hz1 : ¬ z = 1 := fun e => h1 (by rw [hl, e]; decide)
    have HE := Lib.hid (decide_eq_false hz1)
    have t1 : ((n : Int) == 1) = false := beq_eq_false_iff_ne.2 (by omega)
    clear hl hz1 hs hr
    go_enter Tryz.func108, Tryz.ntmps108
    go_wp2_with fail
    go_ret
    exact ⟨ret_bool HE.out.symm, Below.refl _ _⟩
/-- Limbs without a sign. -/
theorem WV.nat {w : World} {x : Nat} {A : Option Addr} (h : Num16 w A x) : WV w (x : Int) false A (ln b16 x) := ⟨(decide_eq_false (by omega)).symm, by rw [Int.natAbs_natCast], by rw [Int.natAbs_natCast]; exact h⟩
/-- The call returned the limbs of x. -/
def LR (x : Nat) (w : World) (e : Ending) (w' : World) : Prop := ∃ A n c, e = .returned (.slice A n c) ∧ WV w' (x : Int) false A n ∧ Below w.heap.size w w'
/-- The call returned the limbs of x and of y. -/
def LR2 (x y : Nat) (w : World) (e : Ending) (w' : World) : Prop := ∃ A n c B m d, e = .returned (.tuple #[.slice A n c, .slice B m d]) ∧ WV w' (x : Int) false A n ∧ WV w' (y : Int) false B m ∧ Below w.heap.size w w'
section
variable {a b : Int} {s t : Bool} {A B : Option Addr} {n m c d : Nat} {w : World}
theorem rcommon_v (ha : WV w a s A n) (hb : WV w b t B m) (la : n ≤ 900000) (lb : m ≤ 900000) :
    Calls Tryz.prog 107 #[.slice A n c, .slice B m d] w (LR (Nat.gcd a.natAbs b.natAbs) w) := by
  obtain ⟨-, rfl, hA⟩ := ha
  obtain ⟨-, rfl, hB⟩ := hb
  exact (rcommon_any A B c d a.natAbs b.natAbs w hA hB la lb).mono fun _ _ ⟨A', c', he, h, hb⟩ => ⟨A', _, c', he, WV.nat h, hb⟩
theorem rdivided_v (ha : WV w a s A n) (hb : WV w b t B m) (la : n ≤ 900000) (lb : m ≤ 900000) (hb0 : b ≠ 0) :
    Calls Tryz.prog 110 #[.slice A n c, .slice B m d] w (LR2 (a.natAbs / b.natAbs) (a.natAbs % b.natAbs) w) := by
  obtain ⟨-, rfl, hA⟩ := ha
  obtain ⟨-, rfl, hB⟩ := hb
  exact (rdivided_any A B c d a.natAbs b.natAbs w hA hB (by omega) la lb).mono fun _ _ ⟨A', c', B', d', he, h, h', hb⟩ => ⟨A', _, c', B', _, d', he, WV.nat h, WV.nat h', hb⟩
theorem make_v (r : Bool) (ha : WV w a s A n) : Calls Tryz.prog 109 #[.bool r, .slice A n c] w (WR (toI r a.natAbs) w) := by
  obtain ⟨-, rfl, hA⟩ := ha
  refine (make_any r A (ln b16 a.natAbs) c w).mono fun e w' h => ?_
  have hs := sgn_of (z := toI r a.natAbs) (s := r) (x := a.natAbs) rfl
  obtain ⟨he, hb⟩ := h
  exact ⟨_, A, _, c, he, ⟨hs.2, by rw [hs.1], by rw [hs.1]; exact Num16.below hA hb⟩, hb⟩
end
/-- Lowest terms by absolute values. -/
theorem low_abs (a b : Int) (hb : b ≠ 0) : (Rat.divInt a b).num = toI (decide (a < 0) != decide (b < 0)) (a.natAbs / Nat.gcd a.natAbs b.natAbs) ∧ (((Rat.divInt a b).den : Nat) : Int) = toI false (b.natAbs / Nat.gcd a.natAbs b.natAbs) := by
  have hg : ((Nat.gcd a.natAbs b.natAbs : Nat) : Int) ∣ a := Int.ofNat_dvd_left.2 (Nat.gcd_dvd_left _ _)
  rcases Int.lt_or_lt_of_ne hb with h | h
  · have h1 := low_num (n := -a) (d := -b) (by omega)
    rw [low_neg, Int.natAbs_neg, Int.natAbs_neg] at h1
    refine ⟨?_, ?_⟩
    · rw [h1.1, Int.neg_ediv_of_dvd hg]
      by_cases ha : a < 0
      · rw [decide_eq_true ha, decide_eq_true h]
        obtain ⟨k, rfl⟩ : ∃ k : Nat, a = -(k : Int) := ⟨a.natAbs, by omega⟩
        rw [Int.natAbs_neg, Int.natAbs_natCast] at hg ⊢
        rw [Int.neg_ediv_of_dvd (Int.natCast_dvd_natCast.2 (Nat.gcd_dvd_left _ _)), Int.neg_neg]
        show _ = ((k / Nat.gcd k b.natAbs : Nat) : Int)
        rw [Int.natCast_ediv]
      · rw [decide_eq_false ha, decide_eq_true h]
        obtain ⟨k, rfl⟩ : ∃ k : Nat, a = (k : Int) := ⟨a.natAbs, by omega⟩
        rw [Int.natAbs_natCast]
        show _ = -((k / Nat.gcd k b.natAbs : Nat) : Int)
        rw [Int.natCast_ediv]
    · rw [h1.2]
      obtain ⟨k, rfl⟩ : ∃ k : Nat, b = -(k : Int) := ⟨b.natAbs, by omega⟩
      rw [Int.neg_neg, Int.natAbs_neg, Int.natAbs_natCast]
      show _ = ((k / Nat.gcd a.natAbs k : Nat) : Int)
      rw [Int.natCast_ediv]
  · have h1 := low_num (n := a) (d := b) h
    refine ⟨?_, ?_⟩
    · rw [h1.1, decide_eq_false (show ¬ b < 0 by omega)]
      by_cases ha : a < 0
      · rw [decide_eq_true ha]
        obtain ⟨k, rfl⟩ : ∃ k : Nat, a = -(k : Int) := ⟨a.natAbs, by omega⟩
        rw [Int.natAbs_neg, Int.natAbs_natCast] at hg ⊢
        rw [Int.neg_ediv_of_dvd (Int.natCast_dvd_natCast.2 (Nat.gcd_dvd_left _ _))]
        show _ = -((k / Nat.gcd k b.natAbs : Nat) : Int)
        rw [Int.natCast_ediv]
      · rw [decide_eq_false ha]
        obtain ⟨k, rfl⟩ : ∃ k : Nat, a = (k : Int) := ⟨a.natAbs, by omega⟩
        rw [Int.natAbs_natCast]
        show _ = ((k / Nat.gcd k b.natAbs : Nat) : Int)
        rw [Int.natCast_ediv]
    · rw [h1.2]
      obtain ⟨k, rfl⟩ : ∃ k : Nat, b = (k : Int) := ⟨b.natAbs, by omega⟩
      rw [Int.natAbs_natCast]
      show _ = ((k / Nat.gcd a.natAbs k : Nat) : Int)
      rw [Int.natCast_ediv]
set_option linter.unusedSimpArgs false in
set_option maxRecDepth 100000 in
set_option maxHeartbeats 2000000 in
theorem rlowest_v {a b : Int} {sa sb : Bool} {Aa Ab : Option Addr} {na ca nb cb : Nat} {w : World} (ha : WV w a sa Aa na) (hb : WV w b sb Ab nb) (la : na ≤ 900000) (lb : nb ≤ 900000) (hb0 : b ≠ 0) :
    Calls Tryz.prog 67 #[.agg #[.bool sa, .slice Aa na ca], .agg #[.bool sb, .slice Ab nb cb]] w (FR (Rat.divInt a b) w) := by
  by_cases hg1 : Nat.gcd a.natAbs b.natAbs = 1
  · skip
    have hE := ((((Env.start w).wv ha).wv hb).blk 27 #[.bool sa, .slice Aa na ca] (g := w.heap.size) rfl).blk 27 #[.bool sb, .slice Ab nb cb] (g := w.heap.size + 1) (by simp)
    have hE := hE.blk 29 #[.bool false, .slice none 0 0, .bool false, .slice none 0 0] (g := w.heap.size + 1 + 1) (by simp)
    obtain ⟨W0, hW0⟩ : ∃ W0, W0 = (((w.alloc (.cells #[.bool sa, .slice Aa na ca] 27)).alloc (.cells #[.bool sb, .slice Ab nb cb] 27)).alloc (.cells #[.bool false, .slice none 0 0, .bool false, .slice none 0 0] 29)) := ⟨_, rfl⟩
    rw [← hW0] at hE
    have HW0 := Lib.hid hW0
    clear hW0
    go_enter Tryz.func67, Tryz.ntmps67
    go_upto_region 1 with (fail)
    rw [← HW0.out]
    obtain ⟨k1, k2⟩ := (hE.here.1.1.2).c2
    obtain ⟨k3, k4⟩ := (hE.here.1.2).c2
    go_wp2_with fail
    have hc := rcommon_v (c := ca) (d := cb) hE.here.1.1.1.1.2 hE.here.1.1.1.2 la lb
    refine hc.mono ?_
    clear hc
    clear k1 k2 k3 k4
    rintro e w5 ⟨Ag, ng, cg, rfl, hg, hb⟩
    replace hE := hE.step hb
    clear hb
    replace hE := hE.wv hg
    clear hg
    have lg : ng ≤ 900000 := by rw [(hE.here.2).len, Int.natAbs_natCast]; refine Nat.le_trans (ln_mono b16_two (Nat.gcd_le_right _ (show 0 < b.natAbs by omega))) ?_; rw [← (hE.here.1.1.1.1.2).len]; exact lb
    go_wp2_with fail
    have hc := rone_v (c := cg) hE.here.2 (by omega)
    rw [decide_eq_true (show ((Nat.gcd a.natAbs b.natAbs : Nat) : Int) = 1 by omega)] at hc
    refine hc.mono ?_
    clear hc
    rintro e w20 ⟨rfl, hb⟩
    replace hE := hE.step hb
    clear hb
    obtain ⟨e1, e2⟩ := low_abs a b hb0
    rw [← (hE.here.1.1.1.1.1.2).sgn, ← (hE.here.1.1.1.1.2).sgn] at e1
    rw [hg1, Nat.div_one] at e1 e2
    have E1 := Lib.hid e1
    have E2 := Lib.hid e2
    have HG := Lib.hid hg1
    clear e1 e2 hg1
    go_upto_region 3 with (fail)
    replace hE := hE.drew
    refine wp_region_held_drew (S := fun w' => w'.cell? ⟨w.heap.size, 0, none⟩ = some (.bool sa) ∧ w'.cell? ⟨w.heap.size, 1, none⟩ = some (.slice Aa na ca) ∧ w'.cell? ⟨w.heap.size + 1, 0, none⟩ = some (.bool sb) ∧ w'.cell? ⟨w.heap.size + 1, 1, none⟩ = some (.slice Ab nb cb)) (by kernel_rfl) (hE.here.1.1.1.2.j2 hE.here.1.1.2.c2) (fun hHeld => ?_)
    refine tk 0 ?_
    try simp only [PL]
    refine tk 1 ?_
    try simp only [PL]
    refine tk 2 ?_
    try simp only [PL]
    refine tk 3 ?_
    try simp only [PL]
    refine tk 4 ?_
    try simp only [PL]
    refine tk 5 ?_
    try simp only [PL]
    refine tk 6 ?_
    try simp only [PL]
    refine tk 8 ?_
    try simp only [PL]
    refine tk 9 ?_
    try simp only [PL]
    refine r1 7 (fun K hK => ?_)
    go_simp
    have hc := make_v (c := ca) (sa != sb) hE.here.1.1.1.1.1.2
    refine hc.mono ?_
    clear hc
    rintro e w6 ⟨sx, Ax, nx, cx, rfl, hx, hb⟩
    replace hE := hE.step hb
    clear hb
    replace hE := hE.wv hx
    clear hx
    go_wp2_with fail
    refine hK.out _ _ (hE.here.1.1.1.1.2.j2 hE.here.1.1.1.2.c2) (fun hHeld => ?_)
    clear hK K
    try simp only [PL]
    refine r1 10 (fun K hK => ?_)
    go_simp
    have hc := make_v (c := cb) false hE.here.1.1.1.1.1.2
    refine hc.mono ?_
    clear hc
    rintro e w7 ⟨sy, Ay, ny, cy, rfl, hy, hb⟩
    replace hE := hE.step hb
    clear hb
    replace hE := hE.wv hy
    clear hy
    have hfv : FV w7 (Rat.divInt a b) sx Ax nx sy Ay ny := ⟨by rw [E1.out]; exact hE.here.1.2, by rw [E2.out]; exact hE.here.2⟩
    replace hE := hE.fv hfv
    clear hfv
    go_wp2_with fail
    refine hK.out _ _ (hE.here.1.1.1.1.1.1.2.j2 hE.here.1.1.1.1.1.2.c2) (fun hHeld => ?_)
    clear hK K
    try simp only [PL]
    refine tk 11 ?_
    try simp only [PL]
    refine r1 12 (fun K hK => ?_)
    have hRl : w.heap.size ≤ w.heap.size + 1 + 1 := by omega
    obtain ⟨WW, hWW, hB, hV, hBel⟩ := ret_frac hE hE.here.1.1.1.1.2 hRl hE.here.2 cx cy
    obtain ⟨x0, x1, x2, x3⟩ := (hE.here.1.1.1.1.2).c4
    obtain ⟨fz0, fz1, fz2, fz3⟩ := hE.here.1.1.1.1.2.f4
    have HWW := Lib.hid hWW
    clear hWW
    have q8 := (hE.here.1.1.1.1.1.1.2).far4 (R := w.heap.size + 1 + 1) (by omega) (.bool sx) (.slice Ax nx cx) (.bool sy) (.slice Ay ny cy)
    rw [← HWW.out] at q8
    have q9 := (hE.here.1.1.1.1.1.2).far4 (R := w.heap.size + 1 + 1) (by omega) (.bool sx) (.slice Ax nx cx) (.bool sy) (.slice Ay ny cy)
    rw [← HWW.out] at q9
    go_simp
    rw [← HWW.out]
    refine hK.out _ _ (q8.j2 q9.c2) (fun hHeld => ?_)
    clear hK K
    try simp only [PL]
    refine wpAnyH_done (by kernel_rfl) ?_ _
    go_wp2_with fail
    obtain ⟨y0, y1, y2, y3⟩ := hB.c4
    refine bodyPost_ret (v := .agg #[.bool sx, .slice Ax nx cx, .bool sy, .slice Ay ny cy]) (by simp [results, Tryz.results67, go_sem, y0, y1, y2, y3]) rfl ?_
    exact ⟨sx, Ax, nx, cx, sy, Ay, ny, cy, rfl, hV, hBel⟩
  · skip
    have hE := ((((Env.start w).wv ha).wv hb).blk 27 #[.bool sa, .slice Aa na ca] (g := w.heap.size) rfl).blk 27 #[.bool sb, .slice Ab nb cb] (g := w.heap.size + 1) (by simp)
    have hE := hE.blk 29 #[.bool false, .slice none 0 0, .bool false, .slice none 0 0] (g := w.heap.size + 1 + 1) (by simp)
    obtain ⟨W0, hW0⟩ : ∃ W0, W0 = (((w.alloc (.cells #[.bool sa, .slice Aa na ca] 27)).alloc (.cells #[.bool sb, .slice Ab nb cb] 27)).alloc (.cells #[.bool false, .slice none 0 0, .bool false, .slice none 0 0] 29)) := ⟨_, rfl⟩
    rw [← hW0] at hE
    have HW0 := Lib.hid hW0
    clear hW0
    go_enter Tryz.func67, Tryz.ntmps67
    go_upto_region 1 with (fail)
    rw [← HW0.out]
    obtain ⟨k1, k2⟩ := (hE.here.1.1.2).c2
    obtain ⟨k3, k4⟩ := (hE.here.1.2).c2
    go_wp2_with fail
    have hc := rcommon_v (c := ca) (d := cb) hE.here.1.1.1.1.2 hE.here.1.1.1.2 la lb
    refine hc.mono ?_
    clear hc
    clear k1 k2 k3 k4
    rintro e w5 ⟨Ag, ng, cg, rfl, hg, hb⟩
    replace hE := hE.step hb
    clear hb
    replace hE := hE.wv hg
    clear hg
    have lg : ng ≤ 900000 := by rw [(hE.here.2).len, Int.natAbs_natCast]; refine Nat.le_trans (ln_mono b16_two (Nat.gcd_le_right _ (show 0 < b.natAbs by omega))) ?_; rw [← (hE.here.1.1.1.1.2).len]; exact lb
    go_wp2_with fail
    have hc := rone_v (c := cg) hE.here.2 (by omega)
    rw [decide_eq_false (show ¬ ((Nat.gcd a.natAbs b.natAbs : Nat) : Int) = 1 by omega)] at hc
    refine hc.mono ?_
    clear hc
    rintro e w20 ⟨rfl, hb⟩
    replace hE := hE.step hb
    clear hb
    obtain ⟨e1, e2⟩ := low_abs a b hb0
    rw [← (hE.here.1.1.1.1.1.2).sgn, ← (hE.here.1.1.1.1.2).sgn] at e1
    have E1 := Lib.hid e1
    have E2 := Lib.hid e2
    have HG := Lib.hid hg1
    clear e1 e2 hg1
    have hgn : ((Nat.gcd a.natAbs b.natAbs : Nat) : Int) ≠ 0 := gcd_ne hb0
    obtain ⟨k6, k7⟩ := (hE.here.1.1.1.2).c2
    go_wp2_with fail
    have hc := rdivided_v (c := ca) (d := cg) hE.here.1.1.1.1.1.2 hE.here.2 la lg hgn
    rw [Int.natAbs_natCast] at hc
    refine hc.mono ?_
    clear hc
    clear k6 k7
    rintro e w8 ⟨Ap, np, cp, Ar, nr, cr, rfl, hp, hr, hb⟩
    replace hE := hE.step hb
    clear hb
    replace hE := (hE.wv hp).wv hr
    clear hp hr
    obtain ⟨k9, k10⟩ := (hE.here.1.1.1.1.2).c2
    go_wp2_with fail
    have hc := rdivided_v (c := cb) (d := cg) hE.here.1.1.1.1.1.1.2 hE.here.1.1.2 lb lg hgn
    rw [Int.natAbs_natCast] at hc
    refine hc.mono ?_
    clear hc
    clear k9 k10
    rintro e w11 ⟨Aq, nq, cq, Au, nu, cu, rfl, hq, hu, hb⟩
    replace hE := hE.step hb
    clear hb
    replace hE := (hE.wv hq).wv hu
    clear hq hu
    obtain ⟨k12, k13⟩ := (hE.here.1.1.1.1.1.1.1.2).c2
    obtain ⟨k14, k15⟩ := (hE.here.1.1.1.1.1.1.2).c2
    go_wp2_with fail
    have hc := make_v (c := cp) (sa != sb) hE.here.1.1.1.2
    rw [Int.natAbs_natCast] at hc
    refine hc.mono ?_
    clear hc
    clear k12 k13 k14 k15
    rintro e w16 ⟨sx, Ax, nx, cx, rfl, hx, hb⟩
    replace hE := hE.step hb
    clear hb
    replace hE := hE.wv hx
    clear hx
    go_wp2_with fail
    have hc := make_v (c := cq) false hE.here.1.1.2
    rw [Int.natAbs_natCast] at hc
    refine hc.mono ?_
    clear hc
    rintro e w17 ⟨sy, Ay, ny, cy, rfl, hy, hb⟩
    replace hE := hE.step hb
    clear hb
    replace hE := hE.wv hy
    clear hy
    have hfv : FV w17 (Rat.divInt a b) sx Ax nx sy Ay ny := ⟨by rw [E1.out]; exact hE.here.1.2, by rw [E2.out]; exact hE.here.2⟩
    replace hE := hE.fv hfv
    clear hfv
    have hRl : w.heap.size ≤ w.heap.size + 1 + 1 := by omega
    obtain ⟨WW, hWW, hB, hV, hBel⟩ := ret_frac hE hE.here.1.1.1.1.1.1.1.1.2 hRl hE.here.2 cx cy
    obtain ⟨x0, x1, x2, x3⟩ := (hE.here.1.1.1.1.1.1.1.1.2).c4
    obtain ⟨fz0, fz1, fz2, fz3⟩ := hE.here.1.1.1.1.1.1.1.1.2.f4
    have HWW := Lib.hid hWW
    clear hWW
    go_wp2_with fail
    rw [← HWW.out]
    obtain ⟨y0, y1, y2, y3⟩ := hB.c4
    refine bodyPost_ret (v := .agg #[.bool sx, .slice Ax nx cx, .bool sy, .slice Ay ny cy]) (by simp [results, Tryz.results67, go_sem, y0, y1, y2, y3]) rfl ?_
    exact ⟨sx, Ax, nx, cx, sy, Ay, ny, cy, rfl, hV, hBel⟩
theorem rfromInt_v (z : Int) (w : World) (h1 : -9223372036854775808 ≤ z) (h2 : z ≤ 9223372036854775807) : Calls Tryz.prog 68 #[.int .i64 z] w (WR z w) :=
  (refFromInt_any z w h1 h2).mono fun _ _ h => by obtain ⟨s, A, n, c, he, ho, hb⟩ := h.vi; exact ⟨s, A, n, c, he, ho.v, hb⟩
theorem small_len {w : World} {z : Int} {s : Bool} {A : Option Addr} {n : Nat} (h : WV w z s A n) (h1 : -9223372036854775808 ≤ z) (h2 : z ≤ 9223372036854775807) : n ≤ 4 := by
  rw [h.len]; exact ln_int h1 h2
set_option linter.unusedSimpArgs false in
set_option maxRecDepth 100000 in
set_option maxHeartbeats 2000000 in
theorem rquick_v (n d : Int) (w : World) (h1 : -9223372036854775808 ≤ n) (h2 : n ≤ 9223372036854775807) (h3 : -9223372036854775808 ≤ d) (h4 : d ≤ 9223372036854775807) (hd : d ≠ 0) :
    Calls Tryz.prog 31 #[.int .i64 n, .int .i64 d] w (FR (Rat.divInt n d) w) := by
  have hE := Env.start w
  have hE := hE.blk 29 #[.bool false, .slice none 0 0, .bool false, .slice none 0 0] (g := w.heap.size) rfl
  obtain ⟨W0, hW0⟩ : ∃ W0, W0 = (w.alloc (.cells #[.bool false, .slice none 0 0, .bool false, .slice none 0 0] 29)) := ⟨_, rfl⟩
  rw [← hW0] at hE
  have HW0 := Lib.hid hW0
  clear hW0
  go_enter Tryz.func31, Tryz.ntmps31
  go_upto_region 1 with (fail)
  rw [← HW0.out]
  go_wp2_with fail
  have hc := rfromInt_v n W0 h1 h2
  refine hc.mono ?_
  clear hc
  rintro e w1 ⟨sx, Ax, nx, cx, rfl, hx, hb⟩
  replace hE := hE.step hb
  clear hb
  replace hE := hE.wv hx
  clear hx
  go_wp2_with fail
  have hc := rfromInt_v d w1 h3 h4
  refine hc.mono ?_
  clear hc
  rintro e w2 ⟨sy, Ay, ny, cy, rfl, hy, hb⟩
  replace hE := hE.step hb
  clear hb
  replace hE := hE.wv hy
  clear hy
  have lx := small_len hE.here.1.2 h1 h2
  have ly := small_len hE.here.2 h3 h4
  go_wp2_with fail
  have hc := rlowest_v (ca := cx) (cb := cy) hE.here.1.2 hE.here.2 (Nat.le_trans lx (by decide)) (Nat.le_trans ly (by decide)) hd
  refine hc.mono ?_
  clear hc
  rintro e w3 ⟨sf, Af, nf, cf, tf, Bf, mf, df, rfl, hf, hb⟩
  replace hE := hE.step hb
  clear hb
  replace hE := hE.fv hf
  clear hf
  have hRl : w.heap.size ≤ w.heap.size := by omega
  obtain ⟨WW, hWW, hB, hV, hBel⟩ := ret_frac hE hE.here.1.1.1.2 hRl hE.here.2 cf df
  obtain ⟨x0, x1, x2, x3⟩ := (hE.here.1.1.1.2).c4
  obtain ⟨fz0, fz1, fz2, fz3⟩ := hE.here.1.1.1.2.f4
  have HWW := Lib.hid hWW
  clear hWW
  go_wp2_with fail
  rw [← HWW.out]
  obtain ⟨y0, y1, y2, y3⟩ := hB.c4
  refine bodyPost_ret (v := .agg #[.bool sf, .slice Af nf cf, .bool tf, .slice Bf mf df]) (by simp [results, Tryz.results31, go_sem, y0, y1, y2, y3]) rfl ?_
  exact ⟨sf, Af, nf, cf, tf, Bf, mf, df, rfl, hV, hBel⟩
end Go.Proofs.YtmjlankpihnicaaGreat
namespace Go.Proofs.YtmjlankpihnicaaGreat
open Go.RowKit

theorem fv_lens {w : World} {q : Rat} {s t : Bool} {A B : Option Addr} {n m k : Nat} (_ : FV w q s A n t B m) (hq : fl q ≤ k) : ln b16 q.num.natAbs ≤ k ∧ ln b16 ((q.den : Nat) : Int).natAbs ≤ k := by
  rw [Int.natAbs_natCast]
  exact fl_le.1 hq
theorem FV.neg {w : World} {q : Rat} {s s' t : Bool} {A B : Option Addr} {n m : Nat} (h : FV w q s A n t B m) (hn : WV w (-q.num) s' A n) : FV w (-q) s' A n t B m := ⟨by rw [Rat.neg_num]; exact hn, by rw [Rat.neg_den]; exact h.2⟩
end Go.Proofs.YtmjlankpihnicaaGreat
namespace Go.Proofs.YtmjlankpihnicaaGreat
open Go.RowKit

theorem den_nz (a : Rat) : ((a.den : Nat) : Int) ≠ 0 := by have := a.den_pos; omega
set_option linter.unusedSimpArgs false in
set_option maxRecDepth 100000 in
theorem ftzero_v {q : Rat} {s t : Bool} {A B : Option Addr} {n m c d : Nat} {w : World} (ha : FV w q s A n t B m) (r : Bool) (hr : decide (q.num = 0) = r) :
    Calls Tryz.prog 134 #[.agg #[.bool s, .slice A n c, .bool t, .slice B m d]] w fun e w' => e = .returned (.bool r) ∧ Below w.heap.size w w' := by
  by_cases h0 : q.num = 0
  · rw [decide_eq_true h0] at hr
    subst hr
    have hE := ((Env.start w).fv ha).blk 94 #[.bool s, .slice A n c, .bool t, .slice B m d] (g := w.heap.size) rfl
    obtain ⟨W0, hW0⟩ : ∃ W0, W0 = (w.alloc (.cells #[.bool s, .slice A n c, .bool t, .slice B m d] 94)) := ⟨_, rfl⟩
    rw [← hW0] at hE
    have HW0 := Lib.hid hW0
    clear hW0
    go_enter Tryz.func134, Tryz.ntmps134
    go_upto_region 1 with (fail)
    rw [← HW0.out]
    obtain rfl : n = 0 := by rw [ha.1.len, h0]; exact ln_zero
    obtain ⟨k1, k2, k3, k4⟩ := (hE.here.2).c4
    go_wp2_with fail
    go_ret
    exact ⟨rfl, hE.bel⟩
  · rw [decide_eq_false h0] at hr
    subst hr
    have hE := ((Env.start w).fv ha).blk 94 #[.bool s, .slice A n c, .bool t, .slice B m d] (g := w.heap.size) rfl
    obtain ⟨W0, hW0⟩ : ∃ W0, W0 = (w.alloc (.cells #[.bool s, .slice A n c, .bool t, .slice B m d] 94)) := ⟨_, rfl⟩
    rw [← hW0] at hE
    have HW0 := Lib.hid hW0
    clear hW0
    go_enter Tryz.func134, Tryz.ntmps134
    go_upto_region 1 with (fail)
    rw [← HW0.out]
    have hz : 0 < n := by rw [ha.1.len]; exact (ln_pos b16_two).2 (by have : q.num ≠ 0 := h0; omega)
    have t1 : ((n : Int) == 0) = false := beq_eq_false_iff_ne.2 (by omega)
    have t2 : (n == 0) = false := beq_eq_false_iff_ne.2 (by omega)
    obtain ⟨k1, k2, k3, k4⟩ := (hE.here.2).c4
    go_wp2_with fail
    go_ret
    exact ⟨rfl, hE.bel⟩
set_option linter.unusedSimpArgs false in
set_option maxRecDepth 100000 in
set_option maxHeartbeats 4000000 in
theorem fdiv_v {a b : Rat} {sa ta sb tb : Bool} {Aa Ba Ab Bb : Option Addr} {na ca ma da nb cb mb db : Nat} {w : World} (ha : FV w a sa Aa na ta Ba ma) (hb : FV w b sb Ab nb tb Bb mb) (la : fl a ≤ 256) (lb : fl b ≤ 256) (hb0 : b.num ≠ 0) (lr : fl (a / b) ≤ 256) :
    Calls Tryz.prog 93 #[.agg #[.bool sa, .slice Aa na ca, .bool ta, .slice Ba ma da], .agg #[.bool sb, .slice Ab nb cb, .bool tb, .slice Bb mb db]] w (FOK (a / b) w) := by
  have hE := ((((Env.start w).fv ha).fv hb).blk 29 #[.bool sa, .slice Aa na ca, .bool ta, .slice Ba ma da] (g := w.heap.size) rfl).blk 29 #[.bool sb, .slice Ab nb cb, .bool tb, .slice Bb mb db] (g := w.heap.size + 1) (by simp)
  have hE := hE.blk 29 #[.bool false, .slice none 0 0, .bool false, .slice none 0 0] (g := w.heap.size + 1 + 1) (by simp)
  obtain ⟨W0, hW0⟩ : ∃ W0, W0 = (((w.alloc (.cells #[.bool sa, .slice Aa na ca, .bool ta, .slice Ba ma da] 29)).alloc (.cells #[.bool sb, .slice Ab nb cb, .bool tb, .slice Bb mb db] 29)).alloc (.cells #[.bool false, .slice none 0 0, .bool false, .slice none 0 0] 29)) := ⟨_, rfl⟩
  rw [← hW0] at hE
  have HW0 := Lib.hid hW0
  clear hW0
  go_enter Tryz.func93, Tryz.ntmps93
  go_upto_region 1 with (fail)
  rw [← HW0.out]
  obtain ⟨k1, k2, k3, k4⟩ := (hE.here.1.1.2).c4
  obtain ⟨k5, k6, k7, k8⟩ := (hE.here.1.2).c4
  go_wp2_with fail
  have hc := fallValid_v (c := ca) (d := da) (c2 := cb) (d2 := db) hE.here.1.1.1.1.2 hE.here.1.1.1.2 la lb
  refine hc.mono ?_
  clear hc
  clear k1 k2 k3 k4 k5 k6 k7 k8
  rintro e w9 ⟨rfl, hb⟩
  replace hE := hE.step hb
  clear hb
  obtain ⟨k10, k11, k12, k13⟩ := (hE.here.1.2).c4
  go_wp2_with fail
  have hc := ftzero_v (c := cb) (d := db) hE.here.1.1.1.2 false (decide_eq_false hb0)
  refine hc.mono ?_
  clear hc
  clear k10 k11 k12 k13
  rintro e w14 ⟨rfl, hb⟩
  replace hE := hE.step hb
  clear hb
  go_upto_region 5 with (fail)
  obtain ⟨qa1, qa2⟩ := fv_lens (hE.here.1.1.1.1.2) la
  obtain ⟨qb1, qb2⟩ := fv_lens (hE.here.1.1.1.2) lb
  obtain ⟨ha1, ha2⟩ := (hE.here.1.1.1.1.2).ln la
  obtain ⟨hb1, hb2⟩ := (hE.here.1.1.1.2).ln lb
  replace hE := hE.drew
  refine wp_region_held_drew (S := fun w' => w'.cell? ⟨w.heap.size, 0, none⟩ = some (.bool sa) ∧ w'.cell? ⟨w.heap.size, 1, none⟩ = some (.slice Aa na ca) ∧ w'.cell? ⟨w.heap.size, 2, none⟩ = some (.bool ta) ∧ w'.cell? ⟨w.heap.size, 3, none⟩ = some (.slice Ba ma da) ∧ w'.cell? ⟨w.heap.size + 1, 0, none⟩ = some (.bool sb) ∧ w'.cell? ⟨w.heap.size + 1, 1, none⟩ = some (.slice Ab nb cb) ∧ w'.cell? ⟨w.heap.size + 1, 2, none⟩ = some (.bool tb) ∧ w'.cell? ⟨w.heap.size + 1, 3, none⟩ = some (.slice Bb mb db)) (by kernel_rfl) (hE.here.1.1.2.j4 hE.here.1.2.c4) (fun hHeld => ?_)
  refine tk 0 ?_
  try simp only [PL]
  refine tk 1 ?_
  try simp only [PL]
  refine tk 2 ?_
  try simp only [PL]
  refine tk 3 ?_
  try simp only [PL]
  refine tk 5 ?_
  try simp only [PL]
  refine tk 6 ?_
  try simp only [PL]
  refine tk 7 ?_
  try simp only [PL]
  refine tk 8 ?_
  try simp only [PL]
  refine r1 4 (fun K hK => ?_)
  go_simp
  have hc := ftimes_v (ca := ca) (cb := db) (hE.here.1.1.1.1.2).1 (hE.here.1.1.1.2).2 (Nat.le_trans ha1 (by decide)) (Nat.le_trans hb2 (by decide)) (Nat.le_trans (ln_mulZ (m := 256) (n := 256) qa1 qb2) (by decide))
  refine hc.mono ?_
  clear hc
  rintro e w15 ⟨su, Au, nu, cu, rfl, hu, hb⟩
  replace hE := hE.step hb
  clear hb
  replace hE := hE.wv hu
  clear hu
  have lu : nu ≤ 512 := by rw [(hE.here.2).len]; exact (ln_mulZ (m := 256) (n := 256) qa1 qb2)
  go_wp2_with fail
  refine hK.out _ _ (hE.here.1.1.1.2.j4 hE.here.1.1.2.c4) (fun hHeld => ?_)
  clear hK K
  try simp only [PL]
  refine r1 9 (fun K hK => ?_)
  go_simp
  have hc := ftimes_v (ca := da) (cb := cb) (hE.here.1.1.1.1.1.2).2 (hE.here.1.1.1.1.2).1 (Nat.le_trans ha2 (by decide)) (Nat.le_trans hb1 (by decide)) (Nat.le_trans (ln_mulZ (m := 256) (n := 256) qa2 qb1) (by decide))
  refine hc.mono ?_
  clear hc
  rintro e w16 ⟨sv, Av, nv, cv, rfl, hv, hb⟩
  replace hE := hE.step hb
  clear hb
  replace hE := hE.wv hv
  clear hv
  have lv : nv ≤ 512 := by rw [(hE.here.2).len]; exact (ln_mulZ (m := 256) (n := 256) qa2 qb1)
  go_wp2_with fail
  refine hK.out _ _ (hE.here.1.1.1.1.2.j4 hE.here.1.1.1.2.c4) (fun hHeld => ?_)
  clear hK K
  try simp only [PL]
  refine r1 10 (fun K hK => ?_)
  go_simp
  have hc := flowest_v (ca := cu) (cb := cv) hE.here.1.2 hE.here.2 (Nat.le_trans lu (by decide)) (Nat.le_trans lv (by decide)) (Int.mul_ne_zero (den_nz a) hb0)
  rw [div_low a b] at hc
  refine hc.mono ?_
  clear hc
  rintro e w17 ⟨sf, Af, nf, cf, tf, Bf, mf, df, rfl, hf, hb⟩
  replace hE := hE.step hb
  clear hb
  replace hE := hE.fv hf
  clear hf
  go_wp2_with fail
  refine hK.out _ _ (hE.here.1.1.1.1.1.2.j4 hE.here.1.1.1.1.2.c4) (fun hHeld => ?_)
  clear hK K
  try simp only [PL]
  refine r1 11 (fun K hK => ?_)
  go_simp
  have hc := fresult_ok (c := cf) (d := df) hE.here.2 lr
  refine hc.mono ?_
  clear hc
  rintro e w18 ⟨sr, Ar, nr, cr, tr, Br, mr, dr, rfl, hr, hb⟩
  replace hE := hE.step hb
  clear hb
  replace hE := hE.fv hr
  clear hr
  go_wp2_with fail
  refine hK.out _ _ (hE.here.1.1.1.1.1.1.2.j4 hE.here.1.1.1.1.1.2.c4) (fun hHeld => ?_)
  clear hK K
  try simp only [PL]
  refine tk 12 ?_
  try simp only [PL]
  refine tk 13 ?_
  try simp only [PL]
  refine r1 14 (fun K hK => ?_)
  have hRl : w.heap.size ≤ w.heap.size + 1 + 1 := by omega
  obtain ⟨WW, hWW, hB, hV, hBel⟩ := ret_frac hE hE.here.1.1.1.1.2 hRl hE.here.2 cr dr
  obtain ⟨x0, x1, x2, x3⟩ := (hE.here.1.1.1.1.2).c4
  obtain ⟨fz0, fz1, fz2, fz3⟩ := hE.here.1.1.1.1.2.f4
  have HWW := Lib.hid hWW
  clear hWW
  have q19 := (hE.here.1.1.1.1.1.1.2).far4 (R := w.heap.size + 1 + 1) (by omega) (.bool sr) (.slice Ar nr cr) (.bool tr) (.slice Br mr dr)
  rw [← HWW.out] at q19
  have q20 := (hE.here.1.1.1.1.1.2).far4 (R := w.heap.size + 1 + 1) (by omega) (.bool sr) (.slice Ar nr cr) (.bool tr) (.slice Br mr dr)
  rw [← HWW.out] at q20
  go_simp
  rw [← HWW.out]
  refine hK.out _ _ (q19.j4 q20.c4) (fun hHeld => ?_)
  clear hK K
  try simp only [PL]
  refine tk 15 ?_
  try simp only [PL]
  refine wpAnyH_done (by kernel_rfl) ?_ _
  go_wp2_with fail
  obtain ⟨y0, y1, y2, y3⟩ := hB.c4
  refine bodyPost_ret (v := .tuple #[.agg #[.bool sr, .slice Ar nr cr, .bool tr, .slice Br mr dr], .int .i64 0]) (by simp [results, Tryz.results93, go_sem, y0, y1, y2, y3]) rfl ?_
  exact ⟨sr, Ar, nr, cr, tr, Br, mr, dr, rfl, hV, hBel⟩
theorem fvalid_v0 {q : Rat} {s t : Bool} {A B : Option Addr} {n m c d : Nat} {w : World} (h : FV w q s A n t B m) (l : fl q ≤ 256) :
    Calls Tryz.prog 30 #[.agg #[.bool s, .slice A n c, .bool t, .slice B m d]] w fun e w' => e = .returned (.bool true) ∧ Below w.heap.size w w' := by
  obtain ⟨h1, h2⟩ := h.ln l
  exact fvalid_r s t A B n m c d _ _ w h.rd (by omega) (by omega) true (okF_of h l)
end Go.Proofs.YtmjlankpihnicaaGreat
namespace Go.Proofs.YtmjlankpihnicaaGreat
open Go.RowKit

/-- The rational number of a valid fraction's limbs. -/
def qOf (s : Bool) (n : Nat) (f : Nat → Nat) (m : Nat) (g : Nat → Nat) : Rat := Rat.divInt (toI s (vs b16 f n)) (vs b16 g m)
/-- A valid fraction is a rational number. -/
theorem okF_q {w : World} {s t : Bool} {A B : Option Addr} {n m : Nat} {f g : Nat → Nat} (hr : FRd w A n f B m g) (h : okF s n f t m g = true) : FV w (qOf s n f m g) s A n t B m ∧ n ≤ 256 ∧ m ≤ 256 ∧ fl (qOf s n f m g) ≤ 256 := by
  unfold qOf
  unfold okF at h
  simp only [Bool.and_eq_true, Bool.not_eq_true', Bool.or_eq_false_iff, decide_eq_false_iff_not, beq_iff_eq] at h
  obtain ⟨⟨h1, h2⟩, h3, h4, h5, h6, h7⟩ := h
  subst h5
  have w1 := okW_wv hr.1 hr.2.2.1 h3
  have w2 := okW_wv hr.2.1 hr.2.2.2 h4
  have hd : 0 < vs b16 g m := by
    have := w2.len
    rw [toI_abs] at this
    exact (ln_pos b16_two).1 (by omega)
  have hm := mk_low (n := toI s (vs b16 f n)) (d := vs b16 g m) hd (by rw [toI_abs]; exact h7)
  refine ⟨⟨by rw [hm.1]; exact w1, by rw [hm.2]; exact w2⟩, by omega, by omega, ?_⟩
  rw [fl_le, hm.1, hm.2]
  have l1 := w1.len
  have l2 := w2.len
  rw [toI_abs] at l1 l2
  rw [toI_abs]
  omega

/-- What life.isRate says. -/
def rateB (s : Bool) (n : Nat) (f : Nat → Nat) (t : Bool) (m : Nat) (g : Nat → Nat) : Bool :=
  okF s n f t m g && (!s && (decide (n ≤ 1) && (decide (m ≤ 1) && decide (cmpQ (qOf s n f m g) 1 ≤ 0))))
theorem fl_one : fl 1 ≤ 256 := by rw [fl_le]; exact ⟨by decide, by decide⟩
set_option linter.unusedSimpArgs false in
set_option maxRecDepth 100000 in
set_option maxHeartbeats 4000000 in
theorem isRate_r (s t : Bool) (A B : Option Addr) (n m c d : Nat) (f g : Nat → Nat) (w : World) (hr : FRd w A n f B m g) (hn : n ≤ 1000000) (hm : m ≤ 1000000) (r : Bool) (h : rateB s n f t m g = r) :
    Calls Tryz.prog 88 #[.agg #[.bool s, .slice A n c, .bool t, .slice B m d]] w fun e w' => e = .returned (.bool r) ∧ Below w.heap.size w w' := by
  have hres := h.symm
  clear h
  unfold rateB at hres
  obtain ⟨v, hv⟩ : ∃ v, okF s n f t m g = v := ⟨_, rfl⟩
  rw [hv] at hres
  have HV := Lib.hid hv
  clear hv
  cases v with
  | false =>
    rw [Bool.false_and] at hres
    have hE := (Env.start w).blk 29 #[.bool s, .slice A n c, .bool t, .slice B m d] (g := w.heap.size) rfl
    obtain ⟨W0, hW0⟩ : ∃ W0, W0 = w.alloc (.cells #[.bool s, .slice A n c, .bool t, .slice B m d] 29) := ⟨_, rfl⟩
    rw [← hW0] at hE
    have HW0 := Lib.hid hW0
    clear hW0
    have HR := Lib.hid hres
    clear hres
    go_enter Tryz.func88, Tryz.ntmps88
    go_upto_region 1 with (fail)
    rw [← HW0.out]
    replace hE := hE.drew
    refine wp_region_held_drew (S := fun w' => w'.cell? ⟨w.heap.size, 0, none⟩ = some (.bool s) ∧ w'.cell? ⟨w.heap.size, 1, none⟩ = some (.slice A n c) ∧ w'.cell? ⟨w.heap.size, 2, none⟩ = some (.bool t) ∧ w'.cell? ⟨w.heap.size, 3, none⟩ = some (.slice B m d)) (by kernel_rfl) (hE.here.2.c4) (fun hHeld => ?_)
    refine tk 0 ?_
    try simp only [PL]
    refine r1 1 (fun K hK => ?_)
    go_simp
    refine (fvalid_r s t A B n m c d f g _ (hr.below hE.bel) hn hm _ HV.out).mono ?_
    rintro e w1 ⟨rfl, hb⟩
    replace hE := hE.step hb
    clear hb
    go_wp2_with fail
    refine hK.out _ _ (hE.here.2.c4) (fun hHeld => ?_)
    clear hK K
    try simp only [PL]
    refine tk 2 ?_
    try simp only [PL]
    refine tu 3 ?_
    try simp only [PL]
    refine tu 4 ?_
    try simp only [PL]
    refine tu 5 ?_
    try simp only [PL]
    refine tu 6 ?_
    try simp only [PL]
    refine tk 7 ?_
    try simp only [PL]
    refine tk 8 ?_
    try simp only [PL]
    refine tu 9 ?_
    try simp only [PL]
    refine tu 10 ?_
    try simp only [PL]
    refine tu 11 ?_
    try simp only [PL]
    refine tu 12 ?_
    try simp only [PL]
    refine tu 13 ?_
    try simp only [PL]
    refine tk 14 ?_
    try simp only [PL]
    refine tk 15 ?_
    try simp only [PL]
    refine tu 16 ?_
    try simp only [PL]
    refine tu 17 ?_
    try simp only [PL]
    refine tu 18 ?_
    try simp only [PL]
    refine tu 19 ?_
    try simp only [PL]
    refine tu 20 ?_
    try simp only [PL]
    refine tk 21 ?_
    try simp only [PL]
    refine tk 22 ?_
    try simp only [PL]
    refine tu 23 ?_
    try simp only [PL]
    refine tu 24 ?_
    try simp only [PL]
    refine tu 25 ?_
    try simp only [PL]
    refine tu 26 ?_
    try simp only [PL]
    refine tk 27 ?_
    try simp only [PL]
    refine tk 28 ?_
    try simp only [PL]
    refine wpAnyH_done (by kernel_rfl) ?_ _
    go_wp2_with fail
    go_ret
    exact ⟨ret_bool HR.out.symm, hE.bel⟩
  | true =>
   rw [Bool.true_and] at hres
   cases s with
   | true =>
    rw [Bool.not_true, Bool.false_and] at hres
    have hE := (Env.start w).blk 29 #[.bool true, .slice A n c, .bool t, .slice B m d] (g := w.heap.size) rfl
    obtain ⟨W0, hW0⟩ : ∃ W0, W0 = w.alloc (.cells #[.bool true, .slice A n c, .bool t, .slice B m d] 29) := ⟨_, rfl⟩
    rw [← hW0] at hE
    have HW0 := Lib.hid hW0
    clear hW0
    have HR := Lib.hid hres
    clear hres
    go_enter Tryz.func88, Tryz.ntmps88
    go_upto_region 1 with (fail)
    rw [← HW0.out]
    replace hE := hE.drew
    refine wp_region_held_drew (S := fun w' => w'.cell? ⟨w.heap.size, 0, none⟩ = some (.bool true) ∧ w'.cell? ⟨w.heap.size, 1, none⟩ = some (.slice A n c) ∧ w'.cell? ⟨w.heap.size, 2, none⟩ = some (.bool t) ∧ w'.cell? ⟨w.heap.size, 3, none⟩ = some (.slice B m d)) (by kernel_rfl) (hE.here.2.c4) (fun hHeld => ?_)
    refine tk 0 ?_
    try simp only [PL]
    refine r1 1 (fun K hK => ?_)
    go_simp
    refine (fvalid_r true t A B n m c d f g _ (hr.below hE.bel) hn hm _ HV.out).mono ?_
    rintro e w1 ⟨rfl, hb⟩
    replace hE := hE.step hb
    clear hb
    go_wp2_with fail
    refine hK.out _ _ (hE.here.2.c4) (fun hHeld => ?_)
    clear hK K
    try simp only [PL]
    refine tk 2 ?_
    try simp only [PL]
    refine tk 3 ?_
    try simp only [PL]
    refine tk 4 ?_
    try simp only [PL]
    refine tk 5 ?_
    try simp only [PL]
    refine tk 6 ?_
    try simp only [PL]
    refine tk 7 ?_
    try simp only [PL]
    refine tk 8 ?_
    try simp only [PL]
    refine tu 9 ?_
    try simp only [PL]
    refine tu 10 ?_
    try simp only [PL]
    refine tu 11 ?_
    try simp only [PL]
    refine tu 12 ?_
    try simp only [PL]
    refine tu 13 ?_
    try simp only [PL]
    refine tk 14 ?_
    try simp only [PL]
    refine tk 15 ?_
    try simp only [PL]
    refine tu 16 ?_
    try simp only [PL]
    refine tu 17 ?_
    try simp only [PL]
    refine tu 18 ?_
    try simp only [PL]
    refine tu 19 ?_
    try simp only [PL]
    refine tu 20 ?_
    try simp only [PL]
    refine tk 21 ?_
    try simp only [PL]
    refine tk 22 ?_
    try simp only [PL]
    refine tu 23 ?_
    try simp only [PL]
    refine tu 24 ?_
    try simp only [PL]
    refine tu 25 ?_
    try simp only [PL]
    refine tu 26 ?_
    try simp only [PL]
    refine tk 27 ?_
    try simp only [PL]
    refine tk 28 ?_
    try simp only [PL]
    refine wpAnyH_done (by kernel_rfl) ?_ _
    go_wp2_with fail
    go_ret
    exact ⟨ret_bool HR.out.symm, hE.bel⟩
   | false =>
    rw [Bool.not_false, Bool.true_and] at hres
    by_cases h1 : n ≤ 1
    · have t1 : decide ((n : Int) ≤ 1) = true := decide_eq_true (by omega)
      rw [decide_eq_true h1, Bool.true_and] at hres
      by_cases h2 : m ≤ 1
      · have t2 : decide ((m : Int) ≤ 1) = true := decide_eq_true (by omega)
        rw [decide_eq_true h2, Bool.true_and] at hres
        have hE := (Env.start w).blk 29 #[.bool false, .slice A n c, .bool t, .slice B m d] (g := w.heap.size) rfl
        obtain ⟨W0, hW0⟩ : ∃ W0, W0 = w.alloc (.cells #[.bool false, .slice A n c, .bool t, .slice B m d] 29) := ⟨_, rfl⟩
        rw [← hW0] at hE
        have HW0 := Lib.hid hW0
        clear hW0
        obtain ⟨hq, -, -, hfl⟩ := okF_q (hr.below hE.bel) HV.out
        replace hE := hE.fv hq
        obtain ⟨v, hv⟩ : ∃ v, v = cmpQ (qOf false n f m g) 1 := ⟨_, rfl⟩
        have HQ := Lib.hid hv
        rw [← hv] at hres
        clear hv hq
        have HR := Lib.hid hres
        clear hres
        go_enter Tryz.func88, Tryz.ntmps88
        go_upto_region 1 with (fail)
        rw [← HW0.out]
        replace hE := hE.drew
        refine wp_region_held_drew (S := fun w' => w'.cell? ⟨w.heap.size, 0, none⟩ = some (.bool false) ∧ w'.cell? ⟨w.heap.size, 1, none⟩ = some (.slice A n c) ∧ w'.cell? ⟨w.heap.size, 2, none⟩ = some (.bool t) ∧ w'.cell? ⟨w.heap.size, 3, none⟩ = some (.slice B m d)) (by kernel_rfl) (hE.here.1.2.c4) (fun hHeld => ?_)
        refine tk 0 ?_
        try simp only [PL]
        refine r1 1 (fun K hK => ?_)
        go_simp
        refine (fvalid_r false t A B n m c d f g _ (hr.below hE.bel) hn hm _ HV.out).mono ?_
        rintro e w1 ⟨rfl, hb⟩
        replace hE := hE.step hb
        clear hb
        go_wp2_with fail
        refine hK.out _ _ (hE.here.1.2.c4) (fun hHeld => ?_)
        clear hK K
        try simp only [PL]
        refine tk 2 ?_
        try simp only [PL]
        refine tk 3 ?_
        try simp only [PL]
        refine tk 4 ?_
        try simp only [PL]
        refine tk 5 ?_
        try simp only [PL]
        refine tk 6 ?_
        try simp only [PL]
        refine tk 7 ?_
        try simp only [PL]
        refine tk 8 ?_
        try simp only [PL]
        refine tk 9 ?_
        try simp only [PL]
        refine tk 10 ?_
        try simp only [PL]
        refine tk 11 ?_
        try simp only [PL]
        refine tk 12 ?_
        try simp only [PL]
        refine tk 13 ?_
        try simp only [PL]
        refine tk 14 ?_
        try simp only [PL]
        refine tk 15 ?_
        try simp only [PL]
        refine tk 16 ?_
        try simp only [PL]
        refine tk 17 ?_
        try simp only [PL]
        refine tk 18 ?_
        try simp only [PL]
        refine tk 19 ?_
        try simp only [PL]
        refine tk 20 ?_
        try simp only [PL]
        refine tk 21 ?_
        try simp only [PL]
        refine tk 22 ?_
        try simp only [PL]
        refine tk 23 ?_
        try simp only [PL]
        refine r1 24 (fun K hK => ?_)
        go_simp
        refine (ffromInt_v 1 _ (by decide) (by decide)).mono ?_
        rintro e w2 ⟨sp, Ap, np, cp, tp, Bp, mp, dp, rfl, ho, hb⟩
        replace hE := hE.step hb
        clear hb
        replace hE := hE.fv ho
        clear ho
        go_wp2_with fail
        refine hK.out _ _ (hE.here.1.1.2.c4) (fun hHeld => ?_)
        clear hK K
        try simp only [PL]
        refine r1 25 (fun K hK => ?_)
        go_simp
        have hc := fcmp_v (ca := c) (da := d) (cb := cp) (db := dp) hE.here.1.2 hE.here.2 hfl fl_one
        rw [show (((1 : Int) : Rat)) = 1 from rfl, ← HQ.out] at hc
        refine hc.mono ?_
        clear hc
        rintro e w3 ⟨rfl, hb⟩
        replace hE := hE.step hb
        clear hb
        go_wp2_with fail
        refine hK.out _ _ (hE.here.1.1.2.c4) (fun hHeld => ?_)
        clear hK K
        try simp only [PL]
        refine tk 26 ?_
        try simp only [PL]
        refine tk 27 ?_
        try simp only [PL]
        refine tk 28 ?_
        try simp only [PL]
        refine wpAnyH_done (by kernel_rfl) ?_ _
        go_wp2_with fail
        go_ret
        exact ⟨ret_bool HR.out.symm, hE.bel⟩
      · have t2 : decide ((m : Int) ≤ 1) = false := decide_eq_false (by omega)
        rw [decide_eq_false h2, Bool.false_and] at hres
        have hE := (Env.start w).blk 29 #[.bool false, .slice A n c, .bool t, .slice B m d] (g := w.heap.size) rfl
        obtain ⟨W0, hW0⟩ : ∃ W0, W0 = w.alloc (.cells #[.bool false, .slice A n c, .bool t, .slice B m d] 29) := ⟨_, rfl⟩
        rw [← hW0] at hE
        have HW0 := Lib.hid hW0
        clear hW0
        have HR := Lib.hid hres
        clear hres
        go_enter Tryz.func88, Tryz.ntmps88
        go_upto_region 1 with (fail)
        rw [← HW0.out]
        replace hE := hE.drew
        refine wp_region_held_drew (S := fun w' => w'.cell? ⟨w.heap.size, 0, none⟩ = some (.bool false) ∧ w'.cell? ⟨w.heap.size, 1, none⟩ = some (.slice A n c) ∧ w'.cell? ⟨w.heap.size, 2, none⟩ = some (.bool t) ∧ w'.cell? ⟨w.heap.size, 3, none⟩ = some (.slice B m d)) (by kernel_rfl) (hE.here.2.c4) (fun hHeld => ?_)
        refine tk 0 ?_
        try simp only [PL]
        refine r1 1 (fun K hK => ?_)
        go_simp
        refine (fvalid_r false t A B n m c d f g _ (hr.below hE.bel) hn hm _ HV.out).mono ?_
        rintro e w1 ⟨rfl, hb⟩
        replace hE := hE.step hb
        clear hb
        go_wp2_with fail
        refine hK.out _ _ (hE.here.2.c4) (fun hHeld => ?_)
        clear hK K
        try simp only [PL]
        refine tk 2 ?_
        try simp only [PL]
        refine tk 3 ?_
        try simp only [PL]
        refine tk 4 ?_
        try simp only [PL]
        refine tk 5 ?_
        try simp only [PL]
        refine tk 6 ?_
        try simp only [PL]
        refine tk 7 ?_
        try simp only [PL]
        refine tk 8 ?_
        try simp only [PL]
        refine tk 9 ?_
        try simp only [PL]
        refine tk 10 ?_
        try simp only [PL]
        refine tk 11 ?_
        try simp only [PL]
        refine tk 12 ?_
        try simp only [PL]
        refine tk 13 ?_
        try simp only [PL]
        refine tk 14 ?_
        try simp only [PL]
        refine tk 15 ?_
        try simp only [PL]
        refine tk 16 ?_
        try simp only [PL]
        refine tk 17 ?_
        try simp only [PL]
        refine tk 18 ?_
        try simp only [PL]
        refine tk 19 ?_
        try simp only [PL]
        refine tk 20 ?_
        try simp only [PL]
        refine tk 21 ?_
        try simp only [PL]
        refine tk 22 ?_
        try simp only [PL]
        refine tu 23 ?_
        try simp only [PL]
        refine tu 24 ?_
        try simp only [PL]
        refine tu 25 ?_
        try simp only [PL]
        refine tu 26 ?_
        try simp only [PL]
        refine tk 27 ?_
        try simp only [PL]
        refine tk 28 ?_
        try simp only [PL]
        refine wpAnyH_done (by kernel_rfl) ?_ _
        go_wp2_with fail
        go_ret
        exact ⟨ret_bool HR.out.symm, hE.bel⟩
    · have t1 : decide ((n : Int) ≤ 1) = false := decide_eq_false (by omega)
      rw [decide_eq_false h1, Bool.false_and] at hres
      have hE := (Env.start w).blk 29 #[.bool false, .slice A n c, .bool t, .slice B m d] (g := w.heap.size) rfl
      obtain ⟨W0, hW0⟩ : ∃ W0, W0 = w.alloc (.cells #[.bool false, .slice A n c, .bool t, .slice B m d] 29) := ⟨_, rfl⟩
      rw [← hW0] at hE
      have HW0 := Lib.hid hW0
      clear hW0
      have HR := Lib.hid hres
      clear hres
      go_enter Tryz.func88, Tryz.ntmps88
      go_upto_region 1 with (fail)
      rw [← HW0.out]
      replace hE := hE.drew
      refine wp_region_held_drew (S := fun w' => w'.cell? ⟨w.heap.size, 0, none⟩ = some (.bool false) ∧ w'.cell? ⟨w.heap.size, 1, none⟩ = some (.slice A n c) ∧ w'.cell? ⟨w.heap.size, 2, none⟩ = some (.bool t) ∧ w'.cell? ⟨w.heap.size, 3, none⟩ = some (.slice B m d)) (by kernel_rfl) (hE.here.2.c4) (fun hHeld => ?_)
      refine tk 0 ?_
      try simp only [PL]
      refine r1 1 (fun K hK => ?_)
      go_simp
      refine (fvalid_r false t A B n m c d f g _ (hr.below hE.bel) hn hm _ HV.out).mono ?_
      rintro e w1 ⟨rfl, hb⟩
      replace hE := hE.step hb
      clear hb
      go_wp2_with fail
      refine hK.out _ _ (hE.here.2.c4) (fun hHeld => ?_)
      clear hK K
      try simp only [PL]
      refine tk 2 ?_
      try simp only [PL]
      refine tk 3 ?_
      try simp only [PL]
      refine tk 4 ?_
      try simp only [PL]
      refine tk 5 ?_
      try simp only [PL]
      refine tk 6 ?_
      try simp only [PL]
      refine tk 7 ?_
      try simp only [PL]
      refine tk 8 ?_
      try simp only [PL]
      refine tk 9 ?_
      try simp only [PL]
      refine tk 10 ?_
      try simp only [PL]
      refine tk 11 ?_
      try simp only [PL]
      refine tk 12 ?_
      try simp only [PL]
      refine tk 13 ?_
      try simp only [PL]
      refine tk 14 ?_
      try simp only [PL]
      refine tk 15 ?_
      try simp only [PL]
      refine tu 16 ?_
      try simp only [PL]
      refine tu 17 ?_
      try simp only [PL]
      refine tu 18 ?_
      try simp only [PL]
      refine tu 19 ?_
      try simp only [PL]
      refine tu 20 ?_
      try simp only [PL]
      refine tk 21 ?_
      try simp only [PL]
      refine tk 22 ?_
      try simp only [PL]
      refine tu 23 ?_
      try simp only [PL]
      refine tu 24 ?_
      try simp only [PL]
      refine tu 25 ?_
      try simp only [PL]
      refine tu 26 ?_
      try simp only [PL]
      refine tk 27 ?_
      try simp only [PL]
      refine tk 28 ?_
      try simp only [PL]
      refine wpAnyH_done (by kernel_rfl) ?_ _
      go_wp2_with fail
      go_ret
      exact ⟨ret_bool HR.out.symm, hE.bel⟩
end Go.Proofs.YtmjlankpihnicaaGreat
namespace Go.Proofs.YtmjlankpihnicaaGreat
open Go.RowKit

/-- A fraction as it lies in memory: signs, slices of limbs, and the limbs. -/
structure FH where
  s : Bool
  A : Option Addr
  n : Nat
  c : Nat
  f : Nat → Nat
  t : Bool
  B : Option Addr
  m : Nat
  d : Nat
  g : Nat → Nat
/-- A row of fractions as it lies in memory. -/
structure RH where
  A : Option Addr
  n : Nat
  c : Nat
  h : Nat → FH
def FH.q (h : FH) : Rat := qOf h.s h.n h.f h.m h.g
def FH.isRate (h : FH) : Bool := rateB h.s h.n h.f h.t h.m h.g
def FH.cells (h : FH) (w : World) (b o : Nat) : Prop := w.cell? ⟨b, o, none⟩ = some (.bool h.s) ∧ w.cell? ⟨b, o + 1, none⟩ = some (.slice h.A h.n h.c) ∧ w.cell? ⟨b, o + 2, none⟩ = some (.bool h.t) ∧ w.cell? ⟨b, o + 3, none⟩ = some (.slice h.B h.m h.d)
def FH.rd (h : FH) (w : World) : Prop := FRd w h.A h.n h.f h.B h.m h.g
def RowM (w : World) (R : RH) : Prop := 0 < R.n → ∃ b o, R.A = some ⟨b, o, none⟩ ∧ b < w.heap.size ∧ ∀ k, k < R.n → (R.h k).cells w b (o + k * 4) ∧ (R.h k).rd w
/-- A slice of rows as it lies in memory. -/
def TabM (w : World) (A : Option Addr) (n : Nat) (r : Nat → RH) : Prop := 0 < n → ∃ b o, A = some ⟨b, o, none⟩ ∧ b < w.heap.size ∧ ∀ i, i < n → w.cell? ⟨b, o + i, none⟩ = some (.slice (r i).A (r i).n (r i).c) ∧ RowM w (r i)
theorem FH.cells_below {h : FH} {w w' : World} {b o : Nat} (hc : h.cells w b o) (hb : Below w.heap.size w w') (hlt : b < w.heap.size) : h.cells w' b o :=
  ⟨(hb.cell (p := ⟨b, o, none⟩) hlt).trans hc.1, (hb.cell (p := ⟨b, o + 1, none⟩) hlt).trans hc.2.1, (hb.cell (p := ⟨b, o + 2, none⟩) hlt).trans hc.2.2.1, (hb.cell (p := ⟨b, o + 3, none⟩) hlt).trans hc.2.2.2⟩
theorem RowM.below {R : RH} {w w' : World} (h : RowM w R) (hb : Below w.heap.size w w') : RowM w' R := fun h0 => by
  obtain ⟨b, o, e, hlt, hc⟩ := h h0
  exact ⟨b, o, e, Nat.lt_of_lt_of_le hlt hb.size, fun k hk => ⟨FH.cells_below (hc k hk).1 hb hlt, FRd.below (hc k hk).2 hb⟩⟩
theorem TabM.below {A : Option Addr} {n : Nat} {r : Nat → RH} {w w' : World} (h : TabM w A n r) (hb : Below w.heap.size w w') : TabM w' A n r := fun h0 => by
  obtain ⟨b, o, e, hlt, hc⟩ := h h0
  exact ⟨b, o, e, Nat.lt_of_lt_of_le hlt hb.size, fun i hi => ⟨(hb.cell (p := ⟨b, o + i, none⟩) hlt).trans (hc i hi).1, (hc i hi).2.below hb⟩⟩
theorem TabM.stable (A : Option Addr) (n : Nat) (r : Nat → RH) : Stable (fun W => TabM W A n r) := fun _ _ hb h => h.below hb
/-- Lengths that are no obstacle. -/
def TabB (n : Nat) (r : Nat → RH) : Prop := n ≤ 1000000 ∧ ∀ i, i < n → (r i).n ≤ 1000000 ∧ ∀ k, k < (r i).n → ((r i).h k).n ≤ 1000000 ∧ ((r i).h k).m ≤ 1000000
/-- What life.Valid says of a row. -/
def RowOK (S : Nat) (R : RH) : Prop := R.n = S + 1 ∧ ∀ k, k < R.n → (R.h k).isRate = true
/-- What life.Valid says of a table. -/
def TOK (F S : Int) (n : Nat) (r : Nat → RH) : Prop :=
  ((0 ≤ F ∧ F ≤ 150) ∧ (0 ≤ S ∧ S ≤ 5)) ∧ (1 ≤ n ∧ n ≤ 111) ∧ (∀ i, i < n → RowOK S.toNat (r i)) ∧ ((r (n - 1)).h S.toNat).q = 1
theorem isRate_ok {h : FH} (hr : h.isRate = true) : okF h.s h.n h.f h.t h.m h.g = true := by
  unfold FH.isRate rateB at hr
  exact (Bool.and_eq_true_iff.1 hr).1
/-- The call said whether P holds. -/
def BoolIff (P : Prop) (w : World) (e : Ending) (w' : World) : Prop := ∃ v, e = .returned (.bool v) ∧ (v = true ↔ P) ∧ Below w.heap.size w w'
/-- A cell that stays. -/
def At (b o : Nat) (v : Value) (V : World) : Prop := b < V.heap.size ∧ V.cell? ⟨b, o, none⟩ = some v
theorem At.stable (b o : Nat) (v : Value) : Stable (At b o v) := fun _ _ hb h => ⟨Nat.lt_of_lt_of_le h.1 hb.size, (hb.cell (p := ⟨b, o, none⟩) h.1).trans h.2⟩
theorem Env.at_ {w W : World} {P : World → Prop} {b o : Nat} {v : Value} (h : Env w P W) (hb : b < W.heap.size) (hc : W.cell? ⟨b, o, none⟩ = some v) : Env w (fun V => P V ∧ At b o v V) W := h.and (At.stable b o v) ⟨hb, hc⟩
theorem no_iff {P : Prop} (h : ¬ P) : (false = true ↔ P) := ⟨fun e => (Bool.false_ne_true e).elim, fun p => absurd p h⟩
theorem yes_iff {P : Prop} (h : P) : (true = true ↔ P) := ⟨fun _ => h, fun _ => rfl⟩
theorem TabM.row {A : Option Addr} {n i : Nat} {r : Nat → RH} {w : World} (h : TabM w A n r) (hi : i < n) : RowM w (r i) := by
  obtain ⟨b, o, _, _, hc⟩ := h (by omega)
  exact (hc i hi).2
theorem FH.fv {h : FH} {w : World} (hr : h.isRate = true) (hd : h.rd w) : FV w h.q h.s h.A h.n h.t h.B h.m ∧ fl h.q ≤ 256 := by
  have := okF_q hd (isRate_ok hr)
  exact ⟨this.1, this.2.2.2⟩
set_option linter.unusedSimpArgs false in
set_option maxRecDepth 100000 in
set_option maxHeartbeats 4000000 in
theorem lvalid_any (F S : Int) (A : Option Addr) (n c : Nat) (r : Nat → RH) (w : World) (hT : TabM w A n r) (hB : TabB n r) :
    Calls Tryz.prog 47 #[.agg #[.int .i64 F, .int .i64 S, .slice A n c]] w (BoolIff (TOK F S n r) w) := by
  have hE := ((Env.start w).and (TabM.stable A n r) hT).blk 24 #[.int .i64 F, .int .i64 S, .slice A n c] (g := w.heap.size) rfl
  obtain ⟨W0, hW0⟩ : ∃ W0, W0 = w.alloc (.cells #[.int .i64 F, .int .i64 S, .slice A n c] 24) := ⟨_, rfl⟩
  rw [← hW0] at hE
  have HW0 := Lib.hid hW0
  clear hW0
  go_enter Tryz.func47, Tryz.ntmps47
  go_upto_region 1 with (fail)
  rw [← HW0.out]
  obtain ⟨k1, k2, k3⟩ := hE.here.2.c3
  by_cases hF : (0 ≤ F ∧ F ≤ 150) ∧ (0 ≤ S ∧ S ≤ 5)
  · obtain ⟨⟨f1, f2⟩, f3, f4⟩ := hF
    have t1 : decide (F < 0) = false := decide_eq_false (by omega)
    have t2 : decide (150 < F) = false := decide_eq_false (by omega)
    have t3 : decide (S < 0) = false := decide_eq_false (by omega)
    have t4 : decide (5 < S) = false := decide_eq_false (by omega)
    go_upto_region 3 with (fail)
    by_cases hn : 1 ≤ n ∧ n ≤ 111
    · obtain ⟨n1, n2⟩ := hn
      have t5 : decide ((n : Int) < 1) = false := decide_eq_false (by omega)
      have t6 : decide ((111 : Int) < (n : Int)) = false := decide_eq_false (by omega)
      clear t1 t2 t3 t4
      go_wp2_with fail
      clear t5 t6
      clear k1 k2 k3
      obtain ⟨b, o, rfl, hblt, -⟩ := hE.here.1.2 (by omega)
      go_loopw [38] (fun x wr => ∃ i : Nat, i ≤ n ∧ x = .int .i64 (i : Int) ∧ Hid (∀ j, j < i → RowOK S.toNat (r j)) ∧ Env w (fun V => (True ∧ TabM V (some ⟨b, o, none⟩) n r) ∧ Blk 24 w.heap.size #[.int .i64 F, .int .i64 S, .slice (some ⟨b, o, none⟩) n c] V) wr) (fun x _ => n - (intOf x).toNat)
      case atStart => exact ⟨0, Nat.zero_le _, rfl, Lib.hid (fun j hj => absurd hj (by omega)), hE⟩
      case round =>
        clear hE
        obtain ⟨i, hi, rfl, HI, hE⟩ := hrel
        by_cases hlt : i < n
        · obtain ⟨b', o', e', -, hc⟩ := hE.here.1.2 (by omega)
          injection e' with e'
          injection e' with e1 e2 e3
          subst e1 e2
          obtain ⟨c0, -⟩ := hc i hlt
          have hbl := hB.2 i hlt
          obtain ⟨R, hR⟩ : ∃ R, R = r i := ⟨_, rfl⟩
          rw [← hR] at c0 hbl
          obtain ⟨Ai, ni, ci, hh⟩ := R
          dsimp only at c0 hbl
          have HR := Lib.hid hR
          clear hR hc e3
          have t1 : decide ((i : Int) < (n : Int)) = true := decide_eq_true (by omega)
          have t2 : (i : Int) < (n : Int) := by omega
          have o1 : IntKind.i64.wrap (S + 1) = S + 1 := by rw [IntKind.wrap_i64]; omega
          obtain ⟨k1, k2, k3⟩ := hE.here.2.c3
          by_cases hl : ni = S.toNat + 1
          · have t7 : ((ni : Int) != S + 1) = false := by rw [bne_eq_false_iff_eq]; omega
            have HL := Lib.hid hl
            clear hl
            go_wp2_with fail
            clear k1 k2 k3 c0 t1 t2 t7 o1
            go_loopw [50] (fun x wr => ∃ k : Nat, k ≤ ni ∧ x = .int .i64 (k : Int) ∧ Hid (∀ j, j < k → (hh j).isRate = true) ∧ Env w (fun V => (True ∧ TabM V (some ⟨b, o, none⟩) n r) ∧ Blk 24 w.heap.size #[.int .i64 F, .int .i64 S, .slice (some ⟨b, o, none⟩) n c] V) wr) (fun x _ => ni - (intOf x).toNat)
            case atStart => exact ⟨0, Nat.zero_le _, rfl, Lib.hid (fun j hj => absurd hj (by omega)), hE⟩
            case round =>
              clear hE
              obtain ⟨k, hk, rfl, HK, hE⟩ := hrel
              by_cases hkt : k < ni
              · have hrow := hE.here.1.2.row hlt
                rw [← HR.out] at hrow
                obtain ⟨b2, o2, e2, hb2, hc2⟩ := hrow (show 0 < ni by omega)
                dsimp only at e2
                subst e2
                obtain ⟨hcl, hrd⟩ := hc2 k hkt
                obtain ⟨hb3, hb4⟩ := hbl.2 k hkt
                dsimp only at hcl hrd
                obtain ⟨H, hH⟩ : ∃ H, H = hh k := ⟨_, rfl⟩
                rw [← hH] at hcl hrd hb3 hb4
                have HH := Lib.hid hH
                clear hH hc2
                obtain ⟨hs, hA, hn, hc, hf, ht, hD, hm, hd, hg⟩ := H
                obtain ⟨d0, d1, d2, d3⟩ := hcl
                unfold FH.rd at hrd
                dsimp only at d0 d1 d2 d3 hrd hb3 hb4
                obtain ⟨v, hv⟩ : ∃ v, rateB hs hn hf ht hm hg = v := ⟨_, rfl⟩
                have HV := Lib.hid hv
                clear hv
                have t1 : decide ((k : Int) < (ni : Int)) = true := decide_eq_true (by omega)
                have t2 : (k : Int) < (ni : Int) := by omega
                go_wp2_with fail
                refine (isRate_r hs ht hA hD hn hm hc hd hf hg _ (FRd.below hrd (belAlloc wr _)) hb3 hb4 v HV.out).mono ?_
                rintro e w3 ⟨rfl, hb⟩
                have hE3 := (hE.alloc _).step hb
                clear hE hb d0 d1 d2 d3 hrd t1 t2
                cases v with
                | true =>
                  go_wp2_with fail
                  go_roundw
                  case rel =>
                    refine ⟨k + 1, by omega, by go_num, Lib.hid (fun j hj => ?_), hE3⟩
                    rcases Nat.lt_or_ge j k with h | h
                    · exact HK.out j h
                    · obtain rfl : j = k := by omega
                      rw [← HH.out]
                      exact HV.out
                  case measure => simp [intOf]; omega
                | false =>
                  have hno : ¬ TOK F S n r := fun h => by
                    have h1 := (h.2.2.1 i hlt).2
                    rw [← HR.out] at h1
                    have h2 := h1 k hkt
                    dsimp only at h2
                    rw [← HH.out] at h2
                    exact absurd (h2.symm.trans HV.out) (by decide)
                  have HN := Lib.hid hno
                  clear hno
                  go_wp2_with fail
                  go_ret
                  exact ⟨false, rfl, no_iff HN.out, hE3.bel⟩
              · obtain rfl : k = ni := by omega
                go_wp2_with fail
                go_roundw
                case rel =>
                  refine ⟨i + 1, by omega, by go_num, Lib.hid (fun j hj => ?_), hE⟩
                  rcases Nat.lt_or_ge j i with h | h
                  · exact HI.out j h
                  · obtain rfl : j = i := by omega
                    rw [← HR.out]
                    exact ⟨HL.out, HK.out⟩
                case measure => simp [intOf]; omega
          · have t7 : ((ni : Int) != S + 1) = true := by rw [bne_iff_ne]; omega
            have hno : ¬ TOK F S n r := fun h => by
              have h1 := (h.2.2.1 i hlt).1
              rw [← HR.out] at h1
              exact hl h1
            have HN := Lib.hid hno
            clear hno hl
            go_wp2_with fail
            go_ret
            exact ⟨false, rfl, no_iff HN.out, hE.bel⟩
        · obtain rfl : i = n := by omega
          have hrow := hE.here.1.2.row (show i - 1 < i by omega)
          obtain ⟨b', o', e', hblt2, hc⟩ := hE.here.1.2 (by omega)
          injection e' with e'
          injection e' with e1 e2 e3
          subst e1 e2
          obtain ⟨c0, -⟩ := hc (i - 1) (by omega)
          obtain ⟨hl1, hl2⟩ := HI.out (i - 1) (by omega)
          obtain ⟨b2, o2, e2, hb2, hc2⟩ := hrow (by omega)
          obtain ⟨hcl, hrd⟩ := hc2 S.toNat (by omega)
          obtain ⟨hfv, hfl⟩ := FH.fv (hl2 S.toNat (by omega)) hrd
          rw [e2] at c0
          have hbl := (hB.2 (i - 1) (by omega)).2 S.toNat (by omega)
          have hTI : TOK F S i r ↔ ((r (i - 1)).h S.toNat).q = 1 := ⟨fun h => h.2.2.2, fun h => ⟨⟨⟨f1, f2⟩, f3, f4⟩, ⟨n1, n2⟩, HI.out, h⟩⟩
          have HTI := Lib.hid hTI
          obtain ⟨H, hH⟩ : ∃ H, H = (r (i - 1)).h S.toNat := ⟨_, rfl⟩
          rw [← hH] at hcl hfv hfl hbl HTI
          obtain ⟨nl, hnl⟩ : ∃ x, x = (r (i - 1)).n := ⟨_, rfl⟩
          rw [← hnl] at c0 hl1
          obtain ⟨cl, hcl2⟩ : ∃ x, x = (r (i - 1)).c := ⟨_, rfl⟩
          rw [← hcl2] at c0
          have hblw : b < wr.heap.size := hblt2
          clear hH hnl hcl2 hTI hc2 hc e3 e2 hrow hl2 HI hrd
          obtain ⟨Q, hQ⟩ : ∃ Q, Q = H.q := ⟨_, rfl⟩
          rw [← hQ] at hfv hfl HTI
          clear hQ
          obtain ⟨hs, hA, hn, hc, hf, ht, hD, hm, hd, hg⟩ := H
          obtain ⟨d0, d1, d2, d3⟩ := hcl
          dsimp only at d0 d1 d2 d3 hbl hfv
          obtain ⟨k1, k2, k3⟩ := hE.here.2.c3
          have hE := hE.fv hfv
          have hb3 : b2 < wr.heap.size := hb2
          have e1 : ((i : Int) - 1).toNat = i - 1 := by omega
          have i1 : (0 : Int) ≤ (i : Int) - 1 := by omega
          have i2 : (i : Int) - 1 < (i : Int) := by omega
          have o1 : IntKind.i64.wrap ((i : Int) - 1) = (i : Int) - 1 := by rw [IntKind.wrap_i64]; omega
          have i3 : S < (nl : Int) := by omega
          have i4 : (1 : Int) ≤ (i : Int) := by omega
          have i5 : 1 ≤ i := by omega
          have t1 : decide ((i : Int) < (i : Int)) = false := decide_eq_false (by omega)
          obtain ⟨v, hv⟩ : ∃ v, v = decide (Q = 1) := ⟨_, rfl⟩
          have HV := Lib.hid hv
          clear hv hl1 hfv
          replace hE := ((((((hE.at_ hblw c0).at_ hb3 d0).at_ hb3 d1).at_ hb3 d2).at_ hb3 d3).at_ hE.here.1.2.lt k2).at_ hE.here.1.2.lt k3
          clear c0 d0 d1 d2 d3 k1 k2 k3
          go_upto_region 17 with (fail)
          replace hE := hE.drew
          go_region_held3 (fun w' => w'.cell? ⟨b, o + (i - 1), none⟩ = some (.slice (some ⟨b2, o2, none⟩) nl cl) ∧ w'.cell? ⟨b2, o2 + S.toNat * 4, none⟩ = some (.bool hs) ∧ w'.cell? ⟨b2, o2 + S.toNat * 4 + 1, none⟩ = some (.slice hA hn hc) ∧ w'.cell? ⟨b2, o2 + S.toNat * 4 + 2, none⟩ = some (.bool ht) ∧ w'.cell? ⟨b2, o2 + S.toNat * 4 + 3, none⟩ = some (.slice hD hm hd) ∧ w'.cell? ⟨w.heap.size, 1, none⟩ = some (.int .i64 S) ∧ w'.cell? ⟨w.heap.size, 2, none⟩ = some (.slice (some ⟨b, o, none⟩) i c))
            (first | exact ⟨hE.here.1.1.1.1.1.1.2.2, hE.here.1.1.1.1.1.2.2, hE.here.1.1.1.1.2.2, hE.here.1.1.1.2.2, hE.here.1.1.2.2, hE.here.1.2.2, hE.here.2.2⟩ | exact ⟨hE.here.1.1.1.1.1.1.1.2.2, hE.here.1.1.1.1.1.1.2.2, hE.here.1.1.1.1.1.2.2, hE.here.1.1.1.1.2.2, hE.here.1.1.1.2.2, hE.here.1.1.2.2, hE.here.1.2.2⟩)
            (first
              | (go_at_call 19; refine (ffromInt_v 1 _ (by decide) (by decide)).mono ?_; rintro e w3 ⟨sp, Ap, np, cp, tp, Bp, mp, dp, rfl, hp, hb⟩; have hpl := hp.ln fl_one; replace hE := (hE.step hb).fv hp; clear hb hp)
              | (go_at_call 89; have hq := fsame_v (ca := hc) (da := hd) (cb := cp) (db := dp) hE.here.1.1.1.1.1.1.1.1.2 hE.here.2 hbl.1 hbl.2 (by omega) (by omega); rw [show (((1 : Int) : Rat)) = 1 from rfl, ← HV.out] at hq; refine hq.mono ?_; clear hq; rintro e w4 ⟨rfl, hb⟩; replace hE := hE.step hb; clear hb))
          go_wp2_with fail
          go_ret
          exact ⟨v, rfl, by rw [HV.out, decide_eq_true_iff]; exact HTI.out.symm, hE.bel⟩
    · have hno : ¬ TOK F S n r := fun h => hn h.2.1
      have HN := Lib.hid hno
      clear hno t1 t2 t3 t4
      by_cases hn1 : (n : Int) < 1
      · have t5 : decide ((n : Int) < 1) = true := decide_eq_true hn1
        clear hn1 hn
        go_wp2_with fail
        go_ret
        exact ⟨false, rfl, no_iff HN.out, hE.bel⟩
      · have t5 : decide ((n : Int) < 1) = false := decide_eq_false hn1
        have t6 : decide ((111 : Int) < (n : Int)) = true := decide_eq_true (by omega)
        clear hn
        go_wp2_with fail
        go_ret
        exact ⟨false, rfl, no_iff HN.out, hE.bel⟩
  · have hno : ¬ TOK F S n r := fun h => hF h.1
    have HN := Lib.hid hno
    clear hno
    by_cases e1 : F < 0
    · have t1 := decide_eq_true e1
      clear e1 hF
      go_wp2_with fail
      go_ret
      exact ⟨false, rfl, no_iff HN.out, hE.bel⟩
    · have t1 := decide_eq_false e1
      by_cases e2 : 150 < F
      · have t2 := decide_eq_true e2
        clear e1 e2 hF
        go_wp2_with fail
        go_ret
        exact ⟨false, rfl, no_iff HN.out, hE.bel⟩
      · have t2 := decide_eq_false e2
        by_cases e3 : S < 0
        · have t3 := decide_eq_true e3
          clear e1 e2 e3 hF
          go_wp2_with fail
          go_ret
          exact ⟨false, rfl, no_iff HN.out, hE.bel⟩
        · have t3 := decide_eq_false e3
          have t4 : decide (5 < S) = true := decide_eq_true (by omega)
          clear e1 e2 e3 hF
          go_wp2_with fail
          go_ret
          exact ⟨false, rfl, no_iff HN.out, hE.bel⟩
end Go.Proofs.YtmjlankpihnicaaGreat
namespace Go.Proofs.YtmjlankpihnicaaGreat
open Go.RowKit

theorem Env.tab {w W : World} {P : World → Prop} {A : Option Addr} {n : Nat} {r : Nat → RH} (h : Env w P W) (hT : TabM W A n r) : Env w (fun V => P V ∧ TabM V A n r) W := h.and (TabM.stable A n r) hT
theorem lvalid_t {F S : Int} {A : Option Addr} {n c : Nat} {r : Nat → RH} {w : World} (hT : TabM w A n r) (hB : TabB n r) (h : TOK F S n r) :
    Calls Tryz.prog 47 #[.agg #[.int .i64 F, .int .i64 S, .slice A n c]] w fun e w' => e = .returned (.bool true) ∧ Below w.heap.size w w' :=
  (lvalid_any F S A n c r w hT hB).mono fun _ _ ⟨v, he, hv, hb⟩ => by obtain rfl : v = true := hv.2 h; exact ⟨he, hb⟩
theorem lvalid_f {F S : Int} {A : Option Addr} {n c : Nat} {r : Nat → RH} {w : World} (hT : TabM w A n r) (hB : TabB n r) (h : ¬ TOK F S n r) :
    Calls Tryz.prog 47 #[.agg #[.int .i64 F, .int .i64 S, .slice A n c]] w fun e w' => e = .returned (.bool false) ∧ Below w.heap.size w w' :=
  (lvalid_any F S A n c r w hT hB).mono fun _ _ ⟨v, he, hv, hb⟩ => by
    cases v with
    | true => exact absurd (hv.1 rfl) h
    | false => exact ⟨he, hb⟩
set_option maxRecDepth 100000 in
theorem llast_v (F S : Int) (A : Option Addr) (n c : Nat) (w : World) (h1 : 0 ≤ F) (h2 : F ≤ 1000000) (h3 : n ≤ 1000000) :
    Calls Tryz.prog 59 #[.agg #[.int .i64 F, .int .i64 S, .slice A n c]] w fun e w' => e = .returned (.int .i64 (F + (n : Int) - 1)) ∧ Below w.heap.size w w' := by
  have hbl : Below w.heap.size w (w.alloc (.cells #[.int .i64 F, .int .i64 S, .slice A n c] 24)) := (Below.refl _ _).alloc (Nat.le_refl _) _
  go_enter Tryz.func59, Tryz.ntmps59
  go_wp2_with fail
  go_ret
  exact ⟨rfl, hbl⟩
/-- What life.Right says. -/
def RightP (F S : Int) (n : Nat) (r : Nat → RH) (E Y : Int) : Prop := TOK F S n r ∧ F ≤ E ∧ E ≤ F + (n : Int) - 1 ∧ 0 ≤ Y ∧ Y ≤ 300
set_option linter.unusedSimpArgs false in
set_option maxRecDepth 100000 in
set_option maxHeartbeats 4000000 in
theorem lright_any (F S E Y : Int) (A : Option Addr) (n c : Nat) (r : Nat → RH) (w : World) (hT : TabM w A n r) (hB : TabB n r) :
    Calls Tryz.prog 24 #[.agg #[.int .i64 F, .int .i64 S, .slice A n c], .agg #[.int .i64 E, .int .i64 Y]] w (BoolIff (RightP F S n r E Y) w) := by
  by_cases hok : TOK F S n r
  · obtain ⟨f1, f2, f3⟩ : 0 ≤ F ∧ F ≤ 150 ∧ n ≤ 111 := ⟨hok.1.1.1, hok.1.1.2, hok.2.1.2⟩
    by_cases h1 : F ≤ E
    · have t1 : decide (F ≤ E) = true := decide_eq_true h1
      by_cases h2 : E ≤ F + (n : Int) - 1
      · have t2 : decide (E ≤ F + (n : Int) - 1) = true := decide_eq_true h2
        by_cases h3 : 0 ≤ Y
        · have t3 : decide (0 ≤ Y) = true := decide_eq_true h3
          by_cases h4 : Y ≤ 300
          · have t4 : decide (Y ≤ 300) = true := decide_eq_true h4
            have HN : Hid (RightP F S n r E Y) := ⟨hok, h1, h2, h3, h4⟩
            have hE := (((Env.start w).tab hT).blk 24 #[.int .i64 F, .int .i64 S, .slice A n c] (g := w.heap.size) rfl).blk 33 #[.int .i64 E, .int .i64 Y] (g := w.heap.size + 1) (by simp)
            obtain ⟨W0, hW0⟩ : ∃ W0, W0 = ((w.alloc (.cells #[.int .i64 F, .int .i64 S, .slice A n c] 24)).alloc (.cells #[.int .i64 E, .int .i64 Y] 33)) := ⟨_, rfl⟩
            rw [← hW0] at hE
            have HW0 := Lib.hid hW0
            clear hW0
            go_enter Tryz.func24, Tryz.ntmps24
            go_upto_region 1 with (fail)
            rw [← HW0.out]
            replace hE := hE.drew
            refine wp_region_held_drew (S := fun w' => w'.cell? ⟨w.heap.size, 0, none⟩ = some (.int .i64 F) ∧ w'.cell? ⟨w.heap.size, 1, none⟩ = some (.int .i64 S) ∧ w'.cell? ⟨w.heap.size, 2, none⟩ = some (.slice A n c) ∧ w'.cell? ⟨w.heap.size + 1, 0, none⟩ = some (.int .i64 E) ∧ w'.cell? ⟨w.heap.size + 1, 1, none⟩ = some (.int .i64 Y)) (by kernel_rfl) (hE.here.1.2.j3 hE.here.2.c2) (fun hHeld => ?_)
            refine tk 0 ?_
            try simp only [PL]
            refine r1 1 (fun K hK => ?_)
            go_simp
            refine (lvalid_t (c := c) hE.here.1.1.2 hB hok).mono ?_
            rintro e w1 ⟨rfl, hb⟩
            replace hE := hE.step hb
            clear hb
            go_wp2_with fail
            refine hK.out _ _ (hE.here.1.2.j3 hE.here.2.c2) (fun hHeld => ?_)
            clear hK K
            try simp only [PL]
            refine tk 2 ?_
            try simp only [PL]
            refine tk 3 ?_
            try simp only [PL]
            refine tk 4 ?_
            try simp only [PL]
            refine tk 5 ?_
            try simp only [PL]
            refine tk 6 ?_
            try simp only [PL]
            refine tk 7 ?_
            try simp only [PL]
            refine tk 8 ?_
            try simp only [PL]
            refine tk 9 ?_
            try simp only [PL]
            refine tk 10 ?_
            try simp only [PL]
            refine tk 11 ?_
            try simp only [PL]
            refine tk 12 ?_
            try simp only [PL]
            refine r1 13 (fun K hK => ?_)
            go_simp
            refine (llast_v F S A n c _ f1 (by omega) (by omega)).mono ?_
            rintro e w2 ⟨rfl, hb⟩
            replace hE := hE.step hb
            clear hb
            go_wp2_with fail
            refine hK.out _ _ (hE.here.1.2.j3 hE.here.2.c2) (fun hHeld => ?_)
            clear hK K
            try simp only [PL]
            refine tk 14 ?_
            try simp only [PL]
            refine tk 15 ?_
            try simp only [PL]
            refine tk 16 ?_
            try simp only [PL]
            refine tk 17 ?_
            try simp only [PL]
            refine tk 18 ?_
            try simp only [PL]
            refine tk 19 ?_
            try simp only [PL]
            refine tk 20 ?_
            try simp only [PL]
            refine tk 21 ?_
            try simp only [PL]
            refine tk 22 ?_
            try simp only [PL]
            refine tk 23 ?_
            try simp only [PL]
            refine tk 24 ?_
            try simp only [PL]
            refine tk 25 ?_
            try simp only [PL]
            refine tk 26 ?_
            try simp only [PL]
            refine wpAnyH_done (by kernel_rfl) ?_ _
            go_wp2_with fail
            go_ret
            exact ⟨true, rfl, yes_iff HN.out, hE.bel⟩
          · have t4 : decide (Y ≤ 300) = false := decide_eq_false h4
            have HN : Hid (¬ RightP F S n r E Y) := fun h => h4 h.2.2.2.2
            have hE := (((Env.start w).tab hT).blk 24 #[.int .i64 F, .int .i64 S, .slice A n c] (g := w.heap.size) rfl).blk 33 #[.int .i64 E, .int .i64 Y] (g := w.heap.size + 1) (by simp)
            obtain ⟨W0, hW0⟩ : ∃ W0, W0 = ((w.alloc (.cells #[.int .i64 F, .int .i64 S, .slice A n c] 24)).alloc (.cells #[.int .i64 E, .int .i64 Y] 33)) := ⟨_, rfl⟩
            rw [← hW0] at hE
            have HW0 := Lib.hid hW0
            clear hW0
            go_enter Tryz.func24, Tryz.ntmps24
            go_upto_region 1 with (fail)
            rw [← HW0.out]
            replace hE := hE.drew
            refine wp_region_held_drew (S := fun w' => w'.cell? ⟨w.heap.size, 0, none⟩ = some (.int .i64 F) ∧ w'.cell? ⟨w.heap.size, 1, none⟩ = some (.int .i64 S) ∧ w'.cell? ⟨w.heap.size, 2, none⟩ = some (.slice A n c) ∧ w'.cell? ⟨w.heap.size + 1, 0, none⟩ = some (.int .i64 E) ∧ w'.cell? ⟨w.heap.size + 1, 1, none⟩ = some (.int .i64 Y)) (by kernel_rfl) (hE.here.1.2.j3 hE.here.2.c2) (fun hHeld => ?_)
            refine tk 0 ?_
            try simp only [PL]
            refine r1 1 (fun K hK => ?_)
            go_simp
            refine (lvalid_t (c := c) hE.here.1.1.2 hB hok).mono ?_
            rintro e w1 ⟨rfl, hb⟩
            replace hE := hE.step hb
            clear hb
            go_wp2_with fail
            refine hK.out _ _ (hE.here.1.2.j3 hE.here.2.c2) (fun hHeld => ?_)
            clear hK K
            try simp only [PL]
            refine tk 2 ?_
            try simp only [PL]
            refine tk 3 ?_
            try simp only [PL]
            refine tk 4 ?_
            try simp only [PL]
            refine tk 5 ?_
            try simp only [PL]
            refine tk 6 ?_
            try simp only [PL]
            refine tk 7 ?_
            try simp only [PL]
            refine tk 8 ?_
            try simp only [PL]
            refine tk 9 ?_
            try simp only [PL]
            refine tk 10 ?_
            try simp only [PL]
            refine tk 11 ?_
            try simp only [PL]
            refine tk 12 ?_
            try simp only [PL]
            refine r1 13 (fun K hK => ?_)
            go_simp
            refine (llast_v F S A n c _ f1 (by omega) (by omega)).mono ?_
            rintro e w2 ⟨rfl, hb⟩
            replace hE := hE.step hb
            clear hb
            go_wp2_with fail
            refine hK.out _ _ (hE.here.1.2.j3 hE.here.2.c2) (fun hHeld => ?_)
            clear hK K
            try simp only [PL]
            refine tk 14 ?_
            try simp only [PL]
            refine tk 15 ?_
            try simp only [PL]
            refine tk 16 ?_
            try simp only [PL]
            refine tk 17 ?_
            try simp only [PL]
            refine tk 18 ?_
            try simp only [PL]
            refine tk 19 ?_
            try simp only [PL]
            refine tk 20 ?_
            try simp only [PL]
            refine tk 21 ?_
            try simp only [PL]
            refine tk 22 ?_
            try simp only [PL]
            refine tk 23 ?_
            try simp only [PL]
            refine tk 24 ?_
            try simp only [PL]
            refine tk 25 ?_
            try simp only [PL]
            refine tk 26 ?_
            try simp only [PL]
            refine wpAnyH_done (by kernel_rfl) ?_ _
            go_wp2_with fail
            go_ret
            exact ⟨false, rfl, no_iff HN.out, hE.bel⟩
        · have t3 : decide (0 ≤ Y) = false := decide_eq_false h3
          have HN : Hid (¬ RightP F S n r E Y) := fun h => h3 h.2.2.2.1
          have hE := (((Env.start w).tab hT).blk 24 #[.int .i64 F, .int .i64 S, .slice A n c] (g := w.heap.size) rfl).blk 33 #[.int .i64 E, .int .i64 Y] (g := w.heap.size + 1) (by simp)
          obtain ⟨W0, hW0⟩ : ∃ W0, W0 = ((w.alloc (.cells #[.int .i64 F, .int .i64 S, .slice A n c] 24)).alloc (.cells #[.int .i64 E, .int .i64 Y] 33)) := ⟨_, rfl⟩
          rw [← hW0] at hE
          have HW0 := Lib.hid hW0
          clear hW0
          go_enter Tryz.func24, Tryz.ntmps24
          go_upto_region 1 with (fail)
          rw [← HW0.out]
          replace hE := hE.drew
          refine wp_region_held_drew (S := fun w' => w'.cell? ⟨w.heap.size, 0, none⟩ = some (.int .i64 F) ∧ w'.cell? ⟨w.heap.size, 1, none⟩ = some (.int .i64 S) ∧ w'.cell? ⟨w.heap.size, 2, none⟩ = some (.slice A n c) ∧ w'.cell? ⟨w.heap.size + 1, 0, none⟩ = some (.int .i64 E) ∧ w'.cell? ⟨w.heap.size + 1, 1, none⟩ = some (.int .i64 Y)) (by kernel_rfl) (hE.here.1.2.j3 hE.here.2.c2) (fun hHeld => ?_)
          refine tk 0 ?_
          try simp only [PL]
          refine r1 1 (fun K hK => ?_)
          go_simp
          refine (lvalid_t (c := c) hE.here.1.1.2 hB hok).mono ?_
          rintro e w1 ⟨rfl, hb⟩
          replace hE := hE.step hb
          clear hb
          go_wp2_with fail
          refine hK.out _ _ (hE.here.1.2.j3 hE.here.2.c2) (fun hHeld => ?_)
          clear hK K
          try simp only [PL]
          refine tk 2 ?_
          try simp only [PL]
          refine tk 3 ?_
          try simp only [PL]
          refine tk 4 ?_
          try simp only [PL]
          refine tk 5 ?_
          try simp only [PL]
          refine tk 6 ?_
          try simp only [PL]
          refine tk 7 ?_
          try simp only [PL]
          refine tk 8 ?_
          try simp only [PL]
          refine tk 9 ?_
          try simp only [PL]
          refine tk 10 ?_
          try simp only [PL]
          refine tk 11 ?_
          try simp only [PL]
          refine tk 12 ?_
          try simp only [PL]
          refine r1 13 (fun K hK => ?_)
          go_simp
          refine (llast_v F S A n c _ f1 (by omega) (by omega)).mono ?_
          rintro e w2 ⟨rfl, hb⟩
          replace hE := hE.step hb
          clear hb
          go_wp2_with fail
          refine hK.out _ _ (hE.here.1.2.j3 hE.here.2.c2) (fun hHeld => ?_)
          clear hK K
          try simp only [PL]
          refine tk 14 ?_
          try simp only [PL]
          refine tk 15 ?_
          try simp only [PL]
          refine tk 16 ?_
          try simp only [PL]
          refine tk 17 ?_
          try simp only [PL]
          refine tk 18 ?_
          try simp only [PL]
          refine tk 19 ?_
          try simp only [PL]
          refine tk 20 ?_
          try simp only [PL]
          refine tk 21 ?_
          try simp only [PL]
          refine tu 22 ?_
          try simp only [PL]
          refine tu 23 ?_
          try simp only [PL]
          refine tu 24 ?_
          try simp only [PL]
          refine tk 25 ?_
          try simp only [PL]
          refine tk 26 ?_
          try simp only [PL]
          refine wpAnyH_done (by kernel_rfl) ?_ _
          go_wp2_with fail
          go_ret
          exact ⟨false, rfl, no_iff HN.out, hE.bel⟩
      · have t2 : decide (E ≤ F + (n : Int) - 1) = false := decide_eq_false h2
        have HN : Hid (¬ RightP F S n r E Y) := fun h => h2 h.2.2.1
        have hE := (((Env.start w).tab hT).blk 24 #[.int .i64 F, .int .i64 S, .slice A n c] (g := w.heap.size) rfl).blk 33 #[.int .i64 E, .int .i64 Y] (g := w.heap.size + 1) (by simp)
        obtain ⟨W0, hW0⟩ : ∃ W0, W0 = ((w.alloc (.cells #[.int .i64 F, .int .i64 S, .slice A n c] 24)).alloc (.cells #[.int .i64 E, .int .i64 Y] 33)) := ⟨_, rfl⟩
        rw [← hW0] at hE
        have HW0 := Lib.hid hW0
        clear hW0
        go_enter Tryz.func24, Tryz.ntmps24
        go_upto_region 1 with (fail)
        rw [← HW0.out]
        replace hE := hE.drew
        refine wp_region_held_drew (S := fun w' => w'.cell? ⟨w.heap.size, 0, none⟩ = some (.int .i64 F) ∧ w'.cell? ⟨w.heap.size, 1, none⟩ = some (.int .i64 S) ∧ w'.cell? ⟨w.heap.size, 2, none⟩ = some (.slice A n c) ∧ w'.cell? ⟨w.heap.size + 1, 0, none⟩ = some (.int .i64 E) ∧ w'.cell? ⟨w.heap.size + 1, 1, none⟩ = some (.int .i64 Y)) (by kernel_rfl) (hE.here.1.2.j3 hE.here.2.c2) (fun hHeld => ?_)
        refine tk 0 ?_
        try simp only [PL]
        refine r1 1 (fun K hK => ?_)
        go_simp
        refine (lvalid_t (c := c) hE.here.1.1.2 hB hok).mono ?_
        rintro e w1 ⟨rfl, hb⟩
        replace hE := hE.step hb
        clear hb
        go_wp2_with fail
        refine hK.out _ _ (hE.here.1.2.j3 hE.here.2.c2) (fun hHeld => ?_)
        clear hK K
        try simp only [PL]
        refine tk 2 ?_
        try simp only [PL]
        refine tk 3 ?_
        try simp only [PL]
        refine tk 4 ?_
        try simp only [PL]
        refine tk 5 ?_
        try simp only [PL]
        refine tk 6 ?_
        try simp only [PL]
        refine tk 7 ?_
        try simp only [PL]
        refine tk 8 ?_
        try simp only [PL]
        refine tk 9 ?_
        try simp only [PL]
        refine tk 10 ?_
        try simp only [PL]
        refine tk 11 ?_
        try simp only [PL]
        refine tk 12 ?_
        try simp only [PL]
        refine r1 13 (fun K hK => ?_)
        go_simp
        refine (llast_v F S A n c _ f1 (by omega) (by omega)).mono ?_
        rintro e w2 ⟨rfl, hb⟩
        replace hE := hE.step hb
        clear hb
        go_wp2_with fail
        refine hK.out _ _ (hE.here.1.2.j3 hE.here.2.c2) (fun hHeld => ?_)
        clear hK K
        try simp only [PL]
        refine tk 14 ?_
        try simp only [PL]
        refine tk 15 ?_
        try simp only [PL]
        refine tk 16 ?_
        try simp only [PL]
        refine tu 17 ?_
        try simp only [PL]
        refine tu 18 ?_
        try simp only [PL]
        refine tu 19 ?_
        try simp only [PL]
        refine tk 20 ?_
        try simp only [PL]
        refine tk 21 ?_
        try simp only [PL]
        refine tu 22 ?_
        try simp only [PL]
        refine tu 23 ?_
        try simp only [PL]
        refine tu 24 ?_
        try simp only [PL]
        refine tk 25 ?_
        try simp only [PL]
        refine tk 26 ?_
        try simp only [PL]
        refine wpAnyH_done (by kernel_rfl) ?_ _
        go_wp2_with fail
        go_ret
        exact ⟨false, rfl, no_iff HN.out, hE.bel⟩
    · have t1 : decide (F ≤ E) = false := decide_eq_false h1
      have HN : Hid (¬ RightP F S n r E Y) := fun h => h1 h.2.1
      have hE := (((Env.start w).tab hT).blk 24 #[.int .i64 F, .int .i64 S, .slice A n c] (g := w.heap.size) rfl).blk 33 #[.int .i64 E, .int .i64 Y] (g := w.heap.size + 1) (by simp)
      obtain ⟨W0, hW0⟩ : ∃ W0, W0 = ((w.alloc (.cells #[.int .i64 F, .int .i64 S, .slice A n c] 24)).alloc (.cells #[.int .i64 E, .int .i64 Y] 33)) := ⟨_, rfl⟩
      rw [← hW0] at hE
      have HW0 := Lib.hid hW0
      clear hW0
      go_enter Tryz.func24, Tryz.ntmps24
      go_upto_region 1 with (fail)
      rw [← HW0.out]
      replace hE := hE.drew
      refine wp_region_held_drew (S := fun w' => w'.cell? ⟨w.heap.size, 0, none⟩ = some (.int .i64 F) ∧ w'.cell? ⟨w.heap.size, 1, none⟩ = some (.int .i64 S) ∧ w'.cell? ⟨w.heap.size, 2, none⟩ = some (.slice A n c) ∧ w'.cell? ⟨w.heap.size + 1, 0, none⟩ = some (.int .i64 E) ∧ w'.cell? ⟨w.heap.size + 1, 1, none⟩ = some (.int .i64 Y)) (by kernel_rfl) (hE.here.1.2.j3 hE.here.2.c2) (fun hHeld => ?_)
      refine tk 0 ?_
      try simp only [PL]
      refine r1 1 (fun K hK => ?_)
      go_simp
      refine (lvalid_t (c := c) hE.here.1.1.2 hB hok).mono ?_
      rintro e w1 ⟨rfl, hb⟩
      replace hE := hE.step hb
      clear hb
      go_wp2_with fail
      refine hK.out _ _ (hE.here.1.2.j3 hE.here.2.c2) (fun hHeld => ?_)
      clear hK K
      try simp only [PL]
      refine tk 2 ?_
      try simp only [PL]
      refine tk 3 ?_
      try simp only [PL]
      refine tk 4 ?_
      try simp only [PL]
      refine tk 5 ?_
      try simp only [PL]
      refine tk 6 ?_
      try simp only [PL]
      refine tk 7 ?_
      try simp only [PL]
      refine tk 8 ?_
      try simp only [PL]
      refine tk 9 ?_
      try simp only [PL]
      refine tu 10 ?_
      try simp only [PL]
      refine tu 11 ?_
      try simp only [PL]
      refine tu 12 ?_
      try simp only [PL]
      refine tu 13 ?_
      try simp only [PL]
      refine tu 14 ?_
      try simp only [PL]
      refine tk 15 ?_
      try simp only [PL]
      refine tk 16 ?_
      try simp only [PL]
      refine tu 17 ?_
      try simp only [PL]
      refine tu 18 ?_
      try simp only [PL]
      refine tu 19 ?_
      try simp only [PL]
      refine tk 20 ?_
      try simp only [PL]
      refine tk 21 ?_
      try simp only [PL]
      refine tu 22 ?_
      try simp only [PL]
      refine tu 23 ?_
      try simp only [PL]
      refine tu 24 ?_
      try simp only [PL]
      refine tk 25 ?_
      try simp only [PL]
      refine tk 26 ?_
      try simp only [PL]
      refine wpAnyH_done (by kernel_rfl) ?_ _
      go_wp2_with fail
      go_ret
      exact ⟨false, rfl, no_iff HN.out, hE.bel⟩
  · have HN : Hid (¬ RightP F S n r E Y) := fun h => hok h.1
    have hE := (((Env.start w).tab hT).blk 24 #[.int .i64 F, .int .i64 S, .slice A n c] (g := w.heap.size) rfl).blk 33 #[.int .i64 E, .int .i64 Y] (g := w.heap.size + 1) (by simp)
    obtain ⟨W0, hW0⟩ : ∃ W0, W0 = ((w.alloc (.cells #[.int .i64 F, .int .i64 S, .slice A n c] 24)).alloc (.cells #[.int .i64 E, .int .i64 Y] 33)) := ⟨_, rfl⟩
    rw [← hW0] at hE
    have HW0 := Lib.hid hW0
    clear hW0
    go_enter Tryz.func24, Tryz.ntmps24
    go_upto_region 1 with (fail)
    rw [← HW0.out]
    replace hE := hE.drew
    refine wp_region_held_drew (S := fun w' => w'.cell? ⟨w.heap.size, 0, none⟩ = some (.int .i64 F) ∧ w'.cell? ⟨w.heap.size, 1, none⟩ = some (.int .i64 S) ∧ w'.cell? ⟨w.heap.size, 2, none⟩ = some (.slice A n c) ∧ w'.cell? ⟨w.heap.size + 1, 0, none⟩ = some (.int .i64 E) ∧ w'.cell? ⟨w.heap.size + 1, 1, none⟩ = some (.int .i64 Y)) (by kernel_rfl) (hE.here.1.2.j3 hE.here.2.c2) (fun hHeld => ?_)
    refine tk 0 ?_
    try simp only [PL]
    refine r1 1 (fun K hK => ?_)
    go_simp
    refine (lvalid_f (c := c) hE.here.1.1.2 hB hok).mono ?_
    rintro e w1 ⟨rfl, hb⟩
    replace hE := hE.step hb
    clear hb
    go_wp2_with fail
    refine hK.out _ _ (hE.here.1.2.j3 hE.here.2.c2) (fun hHeld => ?_)
    clear hK K
    try simp only [PL]
    refine tk 2 ?_
    try simp only [PL]
    refine tu 3 ?_
    try simp only [PL]
    refine tu 4 ?_
    try simp only [PL]
    refine tu 5 ?_
    try simp only [PL]
    refine tu 6 ?_
    try simp only [PL]
    refine tu 7 ?_
    try simp only [PL]
    refine tk 8 ?_
    try simp only [PL]
    refine tk 9 ?_
    try simp only [PL]
    refine tu 10 ?_
    try simp only [PL]
    refine tu 11 ?_
    try simp only [PL]
    refine tu 12 ?_
    try simp only [PL]
    refine tu 13 ?_
    try simp only [PL]
    refine tu 14 ?_
    try simp only [PL]
    refine tk 15 ?_
    try simp only [PL]
    refine tk 16 ?_
    try simp only [PL]
    refine tu 17 ?_
    try simp only [PL]
    refine tu 18 ?_
    try simp only [PL]
    refine tu 19 ?_
    try simp only [PL]
    refine tk 20 ?_
    try simp only [PL]
    refine tk 21 ?_
    try simp only [PL]
    refine tu 22 ?_
    try simp only [PL]
    refine tu 23 ?_
    try simp only [PL]
    refine tu 24 ?_
    try simp only [PL]
    refine tk 25 ?_
    try simp only [PL]
    refine tk 26 ?_
    try simp only [PL]
    refine wpAnyH_done (by kernel_rfl) ?_ _
    go_wp2_with fail
    go_ret
    exact ⟨false, rfl, no_iff HN.out, hE.bel⟩
end Go.Proofs.YtmjlankpihnicaaGreat
namespace Go.Proofs.YtmjlankpihnicaaGreat
open Go.RowKit

set_option linter.unusedSimpArgs false in
set_option maxRecDepth 100000 in
set_option maxHeartbeats 2000000 in
theorem lplus_v {a b : Rat} {sa ta sb tb : Bool} {Aa Ba Ab Bb : Option Addr} {na ca ma da nb cb mb db : Nat} {w : World} (ha : FV w a sa Aa na ta Ba ma) (hb : FV w b sb Ab nb tb Bb mb) (la : fl a ≤ 256) (lb : fl b ≤ 256) (lr : fl (a + b) ≤ 256) :
    Calls Tryz.prog 72 #[.agg #[.bool sa, .slice Aa na ca, .bool ta, .slice Ba ma da], .agg #[.bool sb, .slice Ab nb cb, .bool tb, .slice Bb mb db]] w (FR (a + b) w) := by
  have hE := ((((Env.start w).fv ha).fv hb).blk 29 #[.bool sa, .slice Aa na ca, .bool ta, .slice Ba ma da] (g := w.heap.size) rfl).blk 29 #[.bool sb, .slice Ab nb cb, .bool tb, .slice Bb mb db] (g := w.heap.size + 1) (by simp)
  have hE := hE.blk 29 #[.bool false, .slice none 0 0, .bool false, .slice none 0 0] (g := w.heap.size + 1 + 1) (by simp)
  obtain ⟨W0, hW0⟩ : ∃ W0, W0 = (((w.alloc (.cells #[.bool sa, .slice Aa na ca, .bool ta, .slice Ba ma da] 29)).alloc (.cells #[.bool sb, .slice Ab nb cb, .bool tb, .slice Bb mb db] 29)).alloc (.cells #[.bool false, .slice none 0 0, .bool false, .slice none 0 0] 29)) := ⟨_, rfl⟩
  rw [← hW0] at hE
  have HW0 := Lib.hid hW0
  clear hW0
  go_enter Tryz.func72, Tryz.ntmps72
  go_upto_region 1 with (fail)
  rw [← HW0.out]
  obtain ⟨k1, k2, k3, k4⟩ := (hE.here.1.1.2).c4
  obtain ⟨k5, k6, k7, k8⟩ := (hE.here.1.2).c4
  go_wp2_with fail
  have hc := fadd_v (ca := ca) (da := da) (cb := cb) (db := db) hE.here.1.1.1.1.2 hE.here.1.1.1.2 la lb lr
  refine hc.mono ?_
  clear hc
  clear k1 k2 k3 k4 k5 k6 k7 k8
  rintro e w9 ⟨sr, Ar, nr, cr, tr, Br, mr, dr, rfl, hr, hb⟩
  replace hE := hE.step hb
  clear hb
  replace hE := hE.fv hr
  clear hr
  go_upto_region 2 with (fail)
  obtain ⟨g10, hg10⟩ : ∃ g10, g10 = w9.heap.size := ⟨_, rfl⟩
  have hl10_2 : w.heap.size < g10 := by rw [hg10]; exact (hE.here.1.1.1.2).lt
  have hl10_3 : w.heap.size + 1 < g10 := by rw [hg10]; exact (hE.here.1.1.2).lt
  have hl10_4 : w.heap.size + 1 + 1 < g10 := by rw [hg10]; exact (hE.here.1.2).lt
  replace hE := hE.blk 29 #[.bool sr, .slice Ar nr cr, .bool tr, .slice Br mr dr] (g := g10) hg10.symm
  generalize w9.alloc (.cells #[.bool sr, .slice Ar nr cr, .bool tr, .slice Br mr dr] 29) = W10 at hE ⊢
  rw [← hg10]
  clear hg10
  obtain ⟨k11, k12, k13, k14⟩ := (hE.here.2).c4
  have hRl : w.heap.size ≤ w.heap.size + 1 + 1 := by omega
  obtain ⟨WW, hWW, hB, hV, hBel⟩ := ret_frac hE hE.here.1.1.2 hRl hE.here.1.2 cr dr
  obtain ⟨x0, x1, x2, x3⟩ := (hE.here.1.1.2).c4
  obtain ⟨fz0, fz1, fz2, fz3⟩ := hE.here.1.1.2.f4
  have HWW := Lib.hid hWW
  clear hWW
  go_wp2_with fail
  clear k11 k12 k13 k14
  rw [← HWW.out]
  obtain ⟨y0, y1, y2, y3⟩ := hB.c4
  refine bodyPost_ret (v := .agg #[.bool sr, .slice Ar nr cr, .bool tr, .slice Br mr dr]) (by simp [results, Tryz.results72, go_sem, y0, y1, y2, y3]) rfl ?_
  exact ⟨sr, Ar, nr, cr, tr, Br, mr, dr, rfl, hV, hBel⟩
set_option linter.unusedSimpArgs false in
set_option maxRecDepth 100000 in
set_option maxHeartbeats 2000000 in
theorem lminus_v {a b : Rat} {sa ta sb tb : Bool} {Aa Ba Ab Bb : Option Addr} {na ca ma da nb cb mb db : Nat} {w : World} (ha : FV w a sa Aa na ta Ba ma) (hb : FV w b sb Ab nb tb Bb mb) (la : fl a ≤ 256) (lb : fl b ≤ 256) (lr : fl (a - b) ≤ 256) :
    Calls Tryz.prog 113 #[.agg #[.bool sa, .slice Aa na ca, .bool ta, .slice Ba ma da], .agg #[.bool sb, .slice Ab nb cb, .bool tb, .slice Bb mb db]] w (FR (a - b) w) := by
  have hE := ((((Env.start w).fv ha).fv hb).blk 29 #[.bool sa, .slice Aa na ca, .bool ta, .slice Ba ma da] (g := w.heap.size) rfl).blk 29 #[.bool sb, .slice Ab nb cb, .bool tb, .slice Bb mb db] (g := w.heap.size + 1) (by simp)
  have hE := hE.blk 29 #[.bool false, .slice none 0 0, .bool false, .slice none 0 0] (g := w.heap.size + 1 + 1) (by simp)
  obtain ⟨W0, hW0⟩ : ∃ W0, W0 = (((w.alloc (.cells #[.bool sa, .slice Aa na ca, .bool ta, .slice Ba ma da] 29)).alloc (.cells #[.bool sb, .slice Ab nb cb, .bool tb, .slice Bb mb db] 29)).alloc (.cells #[.bool false, .slice none 0 0, .bool false, .slice none 0 0] 29)) := ⟨_, rfl⟩
  rw [← hW0] at hE
  have HW0 := Lib.hid hW0
  clear hW0
  go_enter Tryz.func113, Tryz.ntmps113
  go_upto_region 1 with (fail)
  rw [← HW0.out]
  obtain ⟨k1, k2, k3, k4⟩ := (hE.here.1.1.2).c4
  obtain ⟨k5, k6, k7, k8⟩ := (hE.here.1.2).c4
  go_wp2_with fail
  have hc := fsub_v (ca := ca) (da := da) (cb := cb) (db := db) hE.here.1.1.1.1.2 hE.here.1.1.1.2 la lb lr
  refine hc.mono ?_
  clear hc
  clear k1 k2 k3 k4 k5 k6 k7 k8
  rintro e w9 ⟨sr, Ar, nr, cr, tr, Br, mr, dr, rfl, hr, hb⟩
  replace hE := hE.step hb
  clear hb
  replace hE := hE.fv hr
  clear hr
  go_upto_region 2 with (fail)
  obtain ⟨g10, hg10⟩ : ∃ g10, g10 = w9.heap.size := ⟨_, rfl⟩
  have hl10_2 : w.heap.size < g10 := by rw [hg10]; exact (hE.here.1.1.1.2).lt
  have hl10_3 : w.heap.size + 1 < g10 := by rw [hg10]; exact (hE.here.1.1.2).lt
  have hl10_4 : w.heap.size + 1 + 1 < g10 := by rw [hg10]; exact (hE.here.1.2).lt
  replace hE := hE.blk 29 #[.bool sr, .slice Ar nr cr, .bool tr, .slice Br mr dr] (g := g10) hg10.symm
  generalize w9.alloc (.cells #[.bool sr, .slice Ar nr cr, .bool tr, .slice Br mr dr] 29) = W10 at hE ⊢
  rw [← hg10]
  clear hg10
  obtain ⟨k11, k12, k13, k14⟩ := (hE.here.2).c4
  have hRl : w.heap.size ≤ w.heap.size + 1 + 1 := by omega
  obtain ⟨WW, hWW, hB, hV, hBel⟩ := ret_frac hE hE.here.1.1.2 hRl hE.here.1.2 cr dr
  obtain ⟨x0, x1, x2, x3⟩ := (hE.here.1.1.2).c4
  obtain ⟨fz0, fz1, fz2, fz3⟩ := hE.here.1.1.2.f4
  have HWW := Lib.hid hWW
  clear hWW
  go_wp2_with fail
  clear k11 k12 k13 k14
  rw [← HWW.out]
  obtain ⟨y0, y1, y2, y3⟩ := hB.c4
  refine bodyPost_ret (v := .agg #[.bool sr, .slice Ar nr cr, .bool tr, .slice Br mr dr]) (by simp [results, Tryz.results113, go_sem, y0, y1, y2, y3]) rfl ?_
  exact ⟨sr, Ar, nr, cr, tr, Br, mr, dr, rfl, hV, hBel⟩
set_option linter.unusedSimpArgs false in
set_option maxRecDepth 100000 in
set_option maxHeartbeats 2000000 in
theorem ltimes_v {a b : Rat} {sa ta sb tb : Bool} {Aa Ba Ab Bb : Option Addr} {na ca ma da nb cb mb db : Nat} {w : World} (ha : FV w a sa Aa na ta Ba ma) (hb : FV w b sb Ab nb tb Bb mb) (la : fl a ≤ 256) (lb : fl b ≤ 256) (lr : fl (a * b) ≤ 256) :
    Calls Tryz.prog 70 #[.agg #[.bool sa, .slice Aa na ca, .bool ta, .slice Ba ma da], .agg #[.bool sb, .slice Ab nb cb, .bool tb, .slice Bb mb db]] w (FR (a * b) w) := by
  have hE := ((((Env.start w).fv ha).fv hb).blk 29 #[.bool sa, .slice Aa na ca, .bool ta, .slice Ba ma da] (g := w.heap.size) rfl).blk 29 #[.bool sb, .slice Ab nb cb, .bool tb, .slice Bb mb db] (g := w.heap.size + 1) (by simp)
  have hE := hE.blk 29 #[.bool false, .slice none 0 0, .bool false, .slice none 0 0] (g := w.heap.size + 1 + 1) (by simp)
  obtain ⟨W0, hW0⟩ : ∃ W0, W0 = (((w.alloc (.cells #[.bool sa, .slice Aa na ca, .bool ta, .slice Ba ma da] 29)).alloc (.cells #[.bool sb, .slice Ab nb cb, .bool tb, .slice Bb mb db] 29)).alloc (.cells #[.bool false, .slice none 0 0, .bool false, .slice none 0 0] 29)) := ⟨_, rfl⟩
  rw [← hW0] at hE
  have HW0 := Lib.hid hW0
  clear hW0
  go_enter Tryz.func70, Tryz.ntmps70
  go_upto_region 1 with (fail)
  rw [← HW0.out]
  obtain ⟨k1, k2, k3, k4⟩ := (hE.here.1.1.2).c4
  obtain ⟨k5, k6, k7, k8⟩ := (hE.here.1.2).c4
  go_wp2_with fail
  have hc := fmul_v (ca := ca) (da := da) (cb := cb) (db := db) hE.here.1.1.1.1.2 hE.here.1.1.1.2 la lb lr
  refine hc.mono ?_
  clear hc
  clear k1 k2 k3 k4 k5 k6 k7 k8
  rintro e w9 ⟨sr, Ar, nr, cr, tr, Br, mr, dr, rfl, hr, hb⟩
  replace hE := hE.step hb
  clear hb
  replace hE := hE.fv hr
  clear hr
  go_upto_region 2 with (fail)
  obtain ⟨g10, hg10⟩ : ∃ g10, g10 = w9.heap.size := ⟨_, rfl⟩
  have hl10_2 : w.heap.size < g10 := by rw [hg10]; exact (hE.here.1.1.1.2).lt
  have hl10_3 : w.heap.size + 1 < g10 := by rw [hg10]; exact (hE.here.1.1.2).lt
  have hl10_4 : w.heap.size + 1 + 1 < g10 := by rw [hg10]; exact (hE.here.1.2).lt
  replace hE := hE.blk 29 #[.bool sr, .slice Ar nr cr, .bool tr, .slice Br mr dr] (g := g10) hg10.symm
  generalize w9.alloc (.cells #[.bool sr, .slice Ar nr cr, .bool tr, .slice Br mr dr] 29) = W10 at hE ⊢
  rw [← hg10]
  clear hg10
  obtain ⟨k11, k12, k13, k14⟩ := (hE.here.2).c4
  have hRl : w.heap.size ≤ w.heap.size + 1 + 1 := by omega
  obtain ⟨WW, hWW, hB, hV, hBel⟩ := ret_frac hE hE.here.1.1.2 hRl hE.here.1.2 cr dr
  obtain ⟨x0, x1, x2, x3⟩ := (hE.here.1.1.2).c4
  obtain ⟨fz0, fz1, fz2, fz3⟩ := hE.here.1.1.2.f4
  have HWW := Lib.hid hWW
  clear hWW
  go_wp2_with fail
  clear k11 k12 k13 k14
  rw [← HWW.out]
  obtain ⟨y0, y1, y2, y3⟩ := hB.c4
  refine bodyPost_ret (v := .agg #[.bool sr, .slice Ar nr cr, .bool tr, .slice Br mr dr]) (by simp [results, Tryz.results70, go_sem, y0, y1, y2, y3]) rfl ?_
  exact ⟨sr, Ar, nr, cr, tr, Br, mr, dr, rfl, hV, hBel⟩
set_option linter.unusedSimpArgs false in
set_option maxRecDepth 100000 in
set_option maxHeartbeats 2000000 in
theorem lother_v {a : Rat} {sa ta : Bool} {Aa Ba : Option Addr} {na ca ma da : Nat} {w : World} (ha : FV w a sa Aa na ta Ba ma) (la : fl a ≤ 256) (lr : fl (1 - a) ≤ 256) :
    Calls Tryz.prog 71 #[.agg #[.bool sa, .slice Aa na ca, .bool ta, .slice Ba ma da]] w (FR (1 - a) w) := by
  have hE := ((Env.start w).fv ha).blk 29 #[.bool sa, .slice Aa na ca, .bool ta, .slice Ba ma da] (g := w.heap.size) rfl
  have hE := hE.blk 29 #[.bool false, .slice none 0 0, .bool false, .slice none 0 0] (g := w.heap.size + 1) (by simp)
  obtain ⟨W0, hW0⟩ : ∃ W0, W0 = ((w.alloc (.cells #[.bool sa, .slice Aa na ca, .bool ta, .slice Ba ma da] 29)).alloc (.cells #[.bool false, .slice none 0 0, .bool false, .slice none 0 0] 29)) := ⟨_, rfl⟩
  rw [← hW0] at hE
  have HW0 := Lib.hid hW0
  clear hW0
  go_enter Tryz.func71, Tryz.ntmps71
  go_upto_region 1 with (fail)
  rw [← HW0.out]
  replace hE := hE.drew
  refine wp_region_held_drew (S := fun w' => w'.cell? ⟨w.heap.size, 0, none⟩ = some (.bool sa) ∧ w'.cell? ⟨w.heap.size, 1, none⟩ = some (.slice Aa na ca) ∧ w'.cell? ⟨w.heap.size, 2, none⟩ = some (.bool ta) ∧ w'.cell? ⟨w.heap.size, 3, none⟩ = some (.slice Ba ma da)) (by kernel_rfl) (hE.here.1.2.c4) (fun hHeld => ?_)
  refine tk 1 ?_
  try simp only [PL]
  refine r1 0 (fun K hK => ?_)
  go_simp
  have hc := ffromInt_v 1 W0.drew (by decide) (by decide)
  refine hc.mono ?_
  clear hc
  rintro e w1 ⟨sp, Ap, np, cp, tp, Bp, mp, dp, rfl, hp, hb⟩
  replace hE := hE.step hb
  clear hb
  replace hE := hE.fv hp
  clear hp
  go_wp2_with fail
  refine hK.out _ _ (hE.here.1.1.2.c4) (fun hHeld => ?_)
  clear hK K
  try simp only [PL]
  refine r1 2 (fun K hK => ?_)
  go_simp
  have hc := lminus_v (ca := cp) (da := dp) (cb := ca) (db := da) hE.here.2 hE.here.1.1.1.2 fl_one la lr
  rw [show (((1 : Int) : Rat)) = 1 from rfl] at hc
  refine hc.mono ?_
  clear hc
  rintro e w2 ⟨sr, Ar, nr, cr, tr, Br, mr, dr, rfl, hr, hb⟩
  replace hE := hE.step hb
  clear hb
  replace hE := hE.fv hr
  clear hr
  go_wp2_with fail
  refine hK.out _ _ (hE.here.1.1.1.2.c4) (fun hHeld => ?_)
  clear hK K
  try simp only [PL]
  refine r1 3 (fun K hK => ?_)
  have hRl : w.heap.size ≤ w.heap.size + 1 := by omega
  obtain ⟨WW, hWW, hB, hV, hBel⟩ := ret_frac hE hE.here.1.1.2 hRl hE.here.2 cr dr
  obtain ⟨x0, x1, x2, x3⟩ := (hE.here.1.1.2).c4
  obtain ⟨fz0, fz1, fz2, fz3⟩ := hE.here.1.1.2.f4
  have HWW := Lib.hid hWW
  clear hWW
  have q3 := (hE.here.1.1.1.2).far4 (R := w.heap.size + 1) (by omega) (.bool sr) (.slice Ar nr cr) (.bool tr) (.slice Br mr dr)
  rw [← HWW.out] at q3
  go_simp
  rw [← HWW.out]
  refine hK.out _ _ (q3.c4) (fun hHeld => ?_)
  clear hK K
  try simp only [PL]
  refine wpAnyH_done (by kernel_rfl) ?_ _
  go_wp2_with fail
  obtain ⟨y0, y1, y2, y3⟩ := hB.c4
  refine bodyPost_ret (v := .agg #[.bool sr, .slice Ar nr cr, .bool tr, .slice Br mr dr]) (by simp [results, Tryz.results71, go_sem, y0, y1, y2, y3]) rfl ?_
  exact ⟨sr, Ar, nr, cr, tr, Br, mr, dr, rfl, hV, hBel⟩
end Go.Proofs.YtmjlankpihnicaaGreat
