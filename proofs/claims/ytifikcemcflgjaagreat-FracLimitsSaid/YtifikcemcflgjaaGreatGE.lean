/-
  The walks of frac.Pow and Make where they return errors.
-/
import Derived.Test.YtifikcemcflgjaaGreatK8
import Derived.Test.YtifikcemcflgjaaGreatK10
namespace Go.Proofs.YtifikcemcflgjaaGreat
open Go.RowKit

/-- The call returned some number and a truth value. -/
def WA (w : World) (e : Ending) (w' : World) : Prop := ∃ s A n c v, e = .returned (.tuple #[.agg #[.bool s, .slice A n c], .bool v]) ∧ Below w.heap.size w w'
theorem fpower_any {a : Int} {sa : Bool} {Aa : Option Addr} {na ca : Nat} {w : World} (ha : WV w a sa Aa na) (n : Nat) (hn : n ≤ 18446744073709551615) (la : na ≤ 256) :
    Calls Tryz.prog 75 #[.agg #[.bool sa, .slice Aa na ca], .int .u64 (n : Int)] w (WA w) := by
  by_cases h : 256 < ln b16 (a ^ n).natAbs
  · refine (fpower_long (ca := ca) ha n hn h la).mono ?_
    rintro e w' ⟨rfl, hb⟩
    exact ⟨_, _, _, _, _, rfl, hb⟩
  · refine (fpower_v (ca := ca) ha n hn (by omega) la).mono ?_
    rintro e w' ⟨s, A, k, c, rfl, -, hb⟩
    exact ⟨_, _, _, _, _, rfl, hb⟩
theorem fl_long {q : Rat} {n : Nat} (h : 256 < fl (q ^ n)) : 256 < ln b16 (q.num ^ n).natAbs ∨ 256 < ln b16 (((q.den : Nat) : Int) ^ n).natAbs := by
  unfold fl at h
  rw [Rat.num_pow, Rat.den_pow] at h
  rw [← Int.natCast_pow, Int.natAbs_natCast]
  omega
set_option linter.unusedSimpArgs false in
set_option maxRecDepth 100000 in
set_option maxHeartbeats 4000000 in
theorem fpow_lpos {a : Rat} {sa ta : Bool} {Aa Ba : Option Addr} {na ca ma da : Nat} {w : World} (ha : FV w a sa Aa na ta Ba ma) (la : fl a ≤ 256) (n : Nat) (hn : n ≤ 9223372036854775807) (hl : 256 < fl (a ^ n)) :
    Calls Tryz.prog 20 #[.agg #[.bool sa, .slice Aa na ca, .bool ta, .slice Ba ma da], .int .i64 (n : Int)] w (FErr 3 w) := by
  have t1 : decide ((n : Int) < 0) = false := decide_eq_false (by omega)
  have t2 : ¬ (n : Int) < 0 := by omega
  have o1 : IntKind.u64.wrap (n : Int) = (n : Int) := by rw [IntKind.wrap_u64]; omega
  have hn64 : n ≤ 18446744073709551615 := by omega
  have hE := ((Env.start w).fv ha).blk 26 #[.bool sa, .slice Aa na ca, .bool ta, .slice Ba ma da] (g := w.heap.size) rfl
  have hE := hE.blk 26 #[.bool false, .slice none 0 0, .bool false, .slice none 0 0] (g := w.heap.size + 1) (by simp)
  obtain ⟨W0, hW0⟩ : ∃ W0, W0 = ((w.alloc (.cells #[.bool sa, .slice Aa na ca, .bool ta, .slice Ba ma da] 26)).alloc (.cells #[.bool false, .slice none 0 0, .bool false, .slice none 0 0] 26)) := ⟨_, rfl⟩
  rw [← hW0] at hE
  have HW0 := Lib.hid hW0
  clear hW0
  go_enter Tryz.func20, Tryz.ntmps20
  go_upto_region 1 with (fail)
  rw [← HW0.out]
  obtain ⟨k1, k2, k3, k4⟩ := (hE.here.1.2).c4
  go_wp2_with fail
  have hc := fvalid_v0 (c := ca) (d := da) hE.here.1.1.2 la
  refine hc.mono ?_
  clear hc
  clear k1 k2 k3 k4
  rintro e w5 ⟨rfl, hb⟩
  replace hE := hE.step hb
  clear hb
  obtain ⟨hk1, hk2⟩ := (hE.here.1.1.2).ln la
  rcases fl_long hl with hp | hp
  · skip
    obtain ⟨k6, k7, k8, k9⟩ := (hE.here.1.2).c4
    go_wp2_with fail
    have hc := fpower_long (ca := ca) (hE.here.1.1.2).1 n hn64 hp hk1
    refine hc.mono ?_
    clear hc
    clear k6 k7 k8 k9
    rintro e w10 ⟨rfl, hb⟩
    replace hE := hE.step hb
    clear hb
    go_upto_region 10 with (fail)
    obtain ⟨g11, hg11⟩ : ∃ g11, g11 = w10.heap.size := ⟨_, rfl⟩
    have hl11_1 : w.heap.size < g11 := by rw [hg11]; exact (hE.here.1.2).lt
    have hl11_2 : w.heap.size + 1 < g11 := by rw [hg11]; exact (hE.here.2).lt
    replace hE := hE.blk 24 #[.bool false, .slice none 0 0] (g := g11) hg11.symm
    generalize w10.alloc (.cells #[.bool false, .slice none 0 0] 24) = W11 at hE ⊢
    rw [← hg11]
    clear hg11
    obtain ⟨k12, k13, k14, k15⟩ := (hE.here.1.1.2).c4
    go_wp2_with fail
    have hc := fpower_any (ca := da) (hE.here.1.1.1.2).2 n hn64 hk2
    refine hc.mono ?_
    clear hc
    clear k12 k13 k14 k15
    rintro e w16 ⟨sy, Ay, ny, cy, vy, rfl, hb⟩
    replace hE := hE.step hb
    clear hb
    go_upto_region 11 with (fail)
    obtain ⟨g17, hg17⟩ : ∃ g17, g17 = w16.heap.size := ⟨_, rfl⟩
    have hl17_1 : w.heap.size < g17 := by rw [hg17]; exact (hE.here.1.1.2).lt
    have hl17_2 : w.heap.size + 1 < g17 := by rw [hg17]; exact (hE.here.1.2).lt
    have hl17_3 : g11 < g17 := by rw [hg17]; exact (hE.here.2).lt
    replace hE := hE.blk 24 #[.bool sy, .slice Ay ny cy] (g := g17) hg17.symm
    generalize w16.alloc (.cells #[.bool sy, .slice Ay ny cy] 24) = W17 at hE ⊢
    rw [← hg17]
    clear hg17
    have hRl : w.heap.size ≤ w.heap.size + 1 := by omega
    have hB := (hE.here.1.1.2).s4 (.bool false) (.slice none 0 0) (.bool false) (.slice none 0 0)
    have hBel := bel4 hE.bel hRl (.bool false) (.slice none 0 0) (.bool false) (.slice none 0 0)
    obtain ⟨WW, hWW⟩ : ∃ x, x = ((((W17.setCell ⟨w.heap.size + 1, 0, none⟩ (.bool false)).setCell ⟨w.heap.size + 1, 1, none⟩ (.slice none 0 0)).setCell ⟨w.heap.size + 1, 2, none⟩ (.bool false)).setCell ⟨w.heap.size + 1, 3, none⟩ (.slice none 0 0)) := ⟨_, rfl⟩
    rw [← hWW] at hB hBel
    obtain ⟨x0, x1, x2, x3⟩ := (hE.here.1.1.2).c4
    obtain ⟨fz0, fz1, fz2, fz3⟩ := (hE.here.1.1.2).f4
    have HWW := Lib.hid hWW
    clear hWW
    go_wp2_with fail
    clear x0 x1 x2 x3
    rw [← HWW.out]
    obtain ⟨y0, y1, y2, y3⟩ := hB.c4
    refine bodyPost_ret (v := .tuple #[.agg #[.bool false, .slice none 0 0, .bool false, .slice none 0 0], .int .i64 3]) (by simp [results, Tryz.results20, go_sem, y0, y1, y2, y3]) rfl ?_
    exact ⟨rfl, hBel⟩
  · skip
    obtain ⟨k18, k19, k20, k21⟩ := (hE.here.1.2).c4
    go_wp2_with fail
    have hc := fpower_any (ca := ca) (hE.here.1.1.2).1 n hn64 hk1
    refine hc.mono ?_
    clear hc
    clear k18 k19 k20 k21
    rintro e w22 ⟨sx, Ax, nx, cx, vx, rfl, hb⟩
    replace hE := hE.step hb
    clear hb
    go_upto_region 10 with (fail)
    obtain ⟨g23, hg23⟩ : ∃ g23, g23 = w22.heap.size := ⟨_, rfl⟩
    have hl23_1 : w.heap.size < g23 := by rw [hg23]; exact (hE.here.1.2).lt
    have hl23_2 : w.heap.size + 1 < g23 := by rw [hg23]; exact (hE.here.2).lt
    replace hE := hE.blk 24 #[.bool sx, .slice Ax nx cx] (g := g23) hg23.symm
    generalize w22.alloc (.cells #[.bool sx, .slice Ax nx cx] 24) = W23 at hE ⊢
    rw [← hg23]
    clear hg23
    obtain ⟨k24, k25, k26, k27⟩ := (hE.here.1.1.2).c4
    go_wp2_with fail
    have hc := fpower_long (ca := da) (hE.here.1.1.1.2).2 n hn64 hp hk2
    refine hc.mono ?_
    clear hc
    clear k24 k25 k26 k27
    rintro e w28 ⟨rfl, hb⟩
    replace hE := hE.step hb
    clear hb
    go_upto_region 11 with (fail)
    obtain ⟨g29, hg29⟩ : ∃ g29, g29 = w28.heap.size := ⟨_, rfl⟩
    have hl29_1 : w.heap.size < g29 := by rw [hg29]; exact (hE.here.1.1.2).lt
    have hl29_2 : w.heap.size + 1 < g29 := by rw [hg29]; exact (hE.here.1.2).lt
    have hl29_3 : g23 < g29 := by rw [hg29]; exact (hE.here.2).lt
    replace hE := hE.blk 24 #[.bool false, .slice none 0 0] (g := g29) hg29.symm
    generalize w28.alloc (.cells #[.bool false, .slice none 0 0] 24) = W29 at hE ⊢
    rw [← hg29]
    clear hg29
    cases vx
    · skip
      have hRl : w.heap.size ≤ w.heap.size + 1 := by omega
      have hB := (hE.here.1.1.2).s4 (.bool false) (.slice none 0 0) (.bool false) (.slice none 0 0)
      have hBel := bel4 hE.bel hRl (.bool false) (.slice none 0 0) (.bool false) (.slice none 0 0)
      obtain ⟨WW, hWW⟩ : ∃ x, x = ((((W29.setCell ⟨w.heap.size + 1, 0, none⟩ (.bool false)).setCell ⟨w.heap.size + 1, 1, none⟩ (.slice none 0 0)).setCell ⟨w.heap.size + 1, 2, none⟩ (.bool false)).setCell ⟨w.heap.size + 1, 3, none⟩ (.slice none 0 0)) := ⟨_, rfl⟩
      rw [← hWW] at hB hBel
      obtain ⟨x0, x1, x2, x3⟩ := (hE.here.1.1.2).c4
      obtain ⟨fz0, fz1, fz2, fz3⟩ := (hE.here.1.1.2).f4
      have HWW := Lib.hid hWW
      clear hWW
      go_wp2_with fail
      clear x0 x1 x2 x3
      rw [← HWW.out]
      obtain ⟨y0, y1, y2, y3⟩ := hB.c4
      refine bodyPost_ret (v := .tuple #[.agg #[.bool false, .slice none 0 0, .bool false, .slice none 0 0], .int .i64 3]) (by simp [results, Tryz.results20, go_sem, y0, y1, y2, y3]) rfl ?_
      exact ⟨rfl, hBel⟩
    · skip
      have hRl : w.heap.size ≤ w.heap.size + 1 := by omega
      have hB := (hE.here.1.1.2).s4 (.bool false) (.slice none 0 0) (.bool false) (.slice none 0 0)
      have hBel := bel4 hE.bel hRl (.bool false) (.slice none 0 0) (.bool false) (.slice none 0 0)
      obtain ⟨WW, hWW⟩ : ∃ x, x = ((((W29.setCell ⟨w.heap.size + 1, 0, none⟩ (.bool false)).setCell ⟨w.heap.size + 1, 1, none⟩ (.slice none 0 0)).setCell ⟨w.heap.size + 1, 2, none⟩ (.bool false)).setCell ⟨w.heap.size + 1, 3, none⟩ (.slice none 0 0)) := ⟨_, rfl⟩
      rw [← hWW] at hB hBel
      obtain ⟨x0, x1, x2, x3⟩ := (hE.here.1.1.2).c4
      obtain ⟨fz0, fz1, fz2, fz3⟩ := (hE.here.1.1.2).f4
      have HWW := Lib.hid hWW
      clear hWW
      go_wp2_with fail
      clear x0 x1 x2 x3
      rw [← HWW.out]
      obtain ⟨y0, y1, y2, y3⟩ := hB.c4
      refine bodyPost_ret (v := .tuple #[.agg #[.bool false, .slice none 0 0, .bool false, .slice none 0 0], .int .i64 3]) (by simp [results, Tryz.results20, go_sem, y0, y1, y2, y3]) rfl ?_
      exact ⟨rfl, hBel⟩
set_option linter.unusedSimpArgs false in
set_option maxRecDepth 100000 in
set_option maxHeartbeats 4000000 in
theorem fpow_lneg {a : Rat} {sa ta : Bool} {Aa Ba : Option Addr} {na ca ma da : Nat} {w : World} (ha : FV w a sa Aa na ta Ba ma) (la : fl a ≤ 256) (ha0 : a.num ≠ 0) (li : fl a⁻¹ ≤ 256) (n : Nat) (h1n : 1 ≤ n) (hn : n ≤ 9223372036854775808) (hl : 256 < fl (a⁻¹ ^ n)) :
    Calls Tryz.prog 20 #[.agg #[.bool sa, .slice Aa na ca, .bool ta, .slice Ba ma da], .int .i64 (-(n : Int))] w (FErr 3 w) := by
  have t1 : decide (-(n : Int) < 0) = true := decide_eq_true (by omega)
  have t2 : -(n : Int) < 0 := by omega
  have o1 : IntKind.u64.wrap (-(n : Int)) = 18446744073709551616 - (n : Int) := by rw [IntKind.wrap_u64]; omega
  have o2 : IntKind.u64.wrap (-(18446744073709551616 - (n : Int))) = (n : Int) := by rw [IntKind.wrap_u64]; omega
  have o3 : IntKind.u64.wrap ((n : Int) - 18446744073709551616) = (n : Int) := by rw [IntKind.wrap_u64]; omega
  have hfd : ∀ (s t : Bool) (A B : Option Addr) (p q p2 q2 : Nat) (W : World), (Instr.field 65 (.agg #[.bool s, .slice A p q, .bool t, .slice B p2 q2]) 0).run Tryz.prog W = .ok (.agg #[.bool s, .slice A p q, .bool t, .slice B p2 q2]) W := fun _ _ _ _ _ _ _ _ _ => by kernel_rfl
  have hn64 : n ≤ 18446744073709551615 := by omega
  have hE := ((Env.start w).fv ha).blk 26 #[.bool sa, .slice Aa na ca, .bool ta, .slice Ba ma da] (g := w.heap.size) rfl
  have hE := hE.blk 26 #[.bool false, .slice none 0 0, .bool false, .slice none 0 0] (g := w.heap.size + 1) (by simp)
  obtain ⟨W0, hW0⟩ : ∃ W0, W0 = ((w.alloc (.cells #[.bool sa, .slice Aa na ca, .bool ta, .slice Ba ma da] 26)).alloc (.cells #[.bool false, .slice none 0 0, .bool false, .slice none 0 0] 26)) := ⟨_, rfl⟩
  rw [← hW0] at hE
  have HW0 := Lib.hid hW0
  clear hW0
  go_enter Tryz.func20, Tryz.ntmps20
  go_upto_region 1 with (fail)
  rw [← HW0.out]
  obtain ⟨k1, k2, k3, k4⟩ := (hE.here.1.2).c4
  go_wp2_with fail
  have hc := fvalid_v0 (c := ca) (d := da) hE.here.1.1.2 la
  refine hc.mono ?_
  clear hc
  clear k1 k2 k3 k4
  rintro e w5 ⟨rfl, hb⟩
  replace hE := hE.step hb
  clear hb
  obtain ⟨ka1, ka2⟩ := ha.ln la
  obtain ⟨k6, k7, k8, k9⟩ := (hE.here.1.2).c4
  go_wp2_with fail
  have hc := ftzero_v (c := ca) (d := da) hE.here.1.1.2 false (decide_eq_false ha0)
  refine hc.mono ?_
  clear hc
  clear k6 k7 k8 k9
  rintro e w10 ⟨rfl, hb⟩
  replace hE := hE.step hb
  clear hb
  obtain ⟨k11, k12, k13, k14⟩ := (hE.here.1.2).c4
  go_wp2_with fail
  have hc := flowest_v (ca := da) (cb := ca) (hE.here.1.1.2).2 (hE.here.1.1.2).1 (Nat.le_trans ka2 (by decide)) (Nat.le_trans ka1 (by decide)) ha0
  rw [inv_low] at hc
  refine hc.mono ?_
  clear hc
  clear k11 k12 k13 k14
  rintro e w9 ⟨sf, Af, nf, cf, tf, Bf, mf, df, rfl, hf, hb⟩
  replace hE := hE.step hb
  clear hb
  replace hE := hE.fv hf
  clear hf
  have hgl15 : w.heap.size ≤ w.heap.size := by omega
  obtain ⟨x15_0, x15_1, x15_2, x15_3⟩ := (hE.here.1.1.2).c4
  obtain ⟨f15_0, f15_1, f15_2, f15_3⟩ := hE.here.1.1.2.f4
  replace hE := (((((Env.again (bel4 hE.bel hgl15 (.bool sf) (.slice Af nf cf) (.bool tf) (.slice Bf mf df))).fv ((hE.here.1.1.1.2).sep4 hE.here.1.1.2 rfl (.bool sf) (.slice Af nf cf) (.bool tf) (.slice Bf mf df) rfl rfl rfl)).blkI ((hE.here.1.1.2).s4 (.bool sf) (.slice Af nf cf) (.bool tf) (.slice Bf mf df))).blkI ((hE.here.1.2).far4 (R := w.heap.size) (by omega) (.bool sf) (.slice Af nf cf) (.bool tf) (.slice Bf mf df))).fv ((hE.here.2).sep4 hE.here.1.1.2 rfl (.bool sf) (.slice Af nf cf) (.bool tf) (.slice Bf mf df) rfl rfl rfl))
  go_upto_region 9 with (fail)
  clear x15_0 x15_1 x15_2 x15_3 f15_0 f15_1 f15_2 f15_3 hgl15
  generalize ((((w9.setCell ⟨w.heap.size, 0, none⟩ (.bool sf)).setCell ⟨w.heap.size, 1, none⟩ (.slice Af nf cf)).setCell ⟨w.heap.size, 2, none⟩ (.bool tf)).setCell ⟨w.heap.size, 3, none⟩ (.slice Bf mf df)) = W15 at hE ⊢
  obtain ⟨hk1, hk2⟩ := (hE.here.2).ln li
  rcases fl_long hl with hp | hp
  · skip
    obtain ⟨k16, k17, k18, k19⟩ := (hE.here.1.1.2).c4
    go_wp2_with fail
    have hc := fpower_long (ca := cf) (hE.here.2).1 n hn64 hp hk1
    refine hc.mono ?_
    clear hc
    clear k16 k17 k18 k19
    rintro e w20 ⟨rfl, hb⟩
    replace hE := hE.step hb
    clear hb
    go_upto_region 10 with (fail)
    obtain ⟨g21, hg21⟩ : ∃ g21, g21 = w20.heap.size := ⟨_, rfl⟩
    have hl21_1 : w.heap.size < g21 := by rw [hg21]; exact (hE.here.1.1.2).lt
    have hl21_2 : w.heap.size + 1 < g21 := by rw [hg21]; exact (hE.here.1.2).lt
    replace hE := hE.blk 24 #[.bool false, .slice none 0 0] (g := g21) hg21.symm
    generalize w20.alloc (.cells #[.bool false, .slice none 0 0] 24) = W21 at hE ⊢
    rw [← hg21]
    clear hg21
    obtain ⟨k22, k23, k24, k25⟩ := (hE.here.1.1.1.2).c4
    go_wp2_with fail
    have hc := fpower_any (ca := df) (hE.here.1.2).2 n hn64 hk2
    refine hc.mono ?_
    clear hc
    clear k22 k23 k24 k25
    rintro e w26 ⟨sy, Ay, ny, cy, vy, rfl, hb⟩
    replace hE := hE.step hb
    clear hb
    go_upto_region 11 with (fail)
    obtain ⟨g27, hg27⟩ : ∃ g27, g27 = w26.heap.size := ⟨_, rfl⟩
    have hl27_1 : w.heap.size < g27 := by rw [hg27]; exact (hE.here.1.1.1.2).lt
    have hl27_2 : w.heap.size + 1 < g27 := by rw [hg27]; exact (hE.here.1.1.2).lt
    have hl27_4 : g21 < g27 := by rw [hg27]; exact (hE.here.2).lt
    replace hE := hE.blk 24 #[.bool sy, .slice Ay ny cy] (g := g27) hg27.symm
    generalize w26.alloc (.cells #[.bool sy, .slice Ay ny cy] 24) = W27 at hE ⊢
    rw [← hg27]
    clear hg27
    have hRl : w.heap.size ≤ w.heap.size + 1 := by omega
    have hB := (hE.here.1.1.1.2).s4 (.bool false) (.slice none 0 0) (.bool false) (.slice none 0 0)
    have hBel := bel4 hE.bel hRl (.bool false) (.slice none 0 0) (.bool false) (.slice none 0 0)
    obtain ⟨WW, hWW⟩ : ∃ x, x = ((((W27.setCell ⟨w.heap.size + 1, 0, none⟩ (.bool false)).setCell ⟨w.heap.size + 1, 1, none⟩ (.slice none 0 0)).setCell ⟨w.heap.size + 1, 2, none⟩ (.bool false)).setCell ⟨w.heap.size + 1, 3, none⟩ (.slice none 0 0)) := ⟨_, rfl⟩
    rw [← hWW] at hB hBel
    obtain ⟨x0, x1, x2, x3⟩ := (hE.here.1.1.1.2).c4
    obtain ⟨fz0, fz1, fz2, fz3⟩ := (hE.here.1.1.1.2).f4
    have HWW := Lib.hid hWW
    clear hWW
    go_wp2_with fail
    clear x0 x1 x2 x3
    rw [← HWW.out]
    obtain ⟨y0, y1, y2, y3⟩ := hB.c4
    refine bodyPost_ret (v := .tuple #[.agg #[.bool false, .slice none 0 0, .bool false, .slice none 0 0], .int .i64 3]) (by simp [results, Tryz.results20, go_sem, y0, y1, y2, y3]) rfl ?_
    exact ⟨rfl, hBel⟩
  · skip
    obtain ⟨k28, k29, k30, k31⟩ := (hE.here.1.1.2).c4
    go_wp2_with fail
    have hc := fpower_any (ca := cf) (hE.here.2).1 n hn64 hk1
    refine hc.mono ?_
    clear hc
    clear k28 k29 k30 k31
    rintro e w32 ⟨sx, Ax, nx, cx, vx, rfl, hb⟩
    replace hE := hE.step hb
    clear hb
    go_upto_region 10 with (fail)
    obtain ⟨g33, hg33⟩ : ∃ g33, g33 = w32.heap.size := ⟨_, rfl⟩
    have hl33_1 : w.heap.size < g33 := by rw [hg33]; exact (hE.here.1.1.2).lt
    have hl33_2 : w.heap.size + 1 < g33 := by rw [hg33]; exact (hE.here.1.2).lt
    replace hE := hE.blk 24 #[.bool sx, .slice Ax nx cx] (g := g33) hg33.symm
    generalize w32.alloc (.cells #[.bool sx, .slice Ax nx cx] 24) = W33 at hE ⊢
    rw [← hg33]
    clear hg33
    obtain ⟨k34, k35, k36, k37⟩ := (hE.here.1.1.1.2).c4
    go_wp2_with fail
    have hc := fpower_long (ca := df) (hE.here.1.2).2 n hn64 hp hk2
    refine hc.mono ?_
    clear hc
    clear k34 k35 k36 k37
    rintro e w38 ⟨rfl, hb⟩
    replace hE := hE.step hb
    clear hb
    go_upto_region 11 with (fail)
    obtain ⟨g39, hg39⟩ : ∃ g39, g39 = w38.heap.size := ⟨_, rfl⟩
    have hl39_1 : w.heap.size < g39 := by rw [hg39]; exact (hE.here.1.1.1.2).lt
    have hl39_2 : w.heap.size + 1 < g39 := by rw [hg39]; exact (hE.here.1.1.2).lt
    have hl39_4 : g33 < g39 := by rw [hg39]; exact (hE.here.2).lt
    replace hE := hE.blk 24 #[.bool false, .slice none 0 0] (g := g39) hg39.symm
    generalize w38.alloc (.cells #[.bool false, .slice none 0 0] 24) = W39 at hE ⊢
    rw [← hg39]
    clear hg39
    cases vx
    · skip
      have hRl : w.heap.size ≤ w.heap.size + 1 := by omega
      have hB := (hE.here.1.1.1.2).s4 (.bool false) (.slice none 0 0) (.bool false) (.slice none 0 0)
      have hBel := bel4 hE.bel hRl (.bool false) (.slice none 0 0) (.bool false) (.slice none 0 0)
      obtain ⟨WW, hWW⟩ : ∃ x, x = ((((W39.setCell ⟨w.heap.size + 1, 0, none⟩ (.bool false)).setCell ⟨w.heap.size + 1, 1, none⟩ (.slice none 0 0)).setCell ⟨w.heap.size + 1, 2, none⟩ (.bool false)).setCell ⟨w.heap.size + 1, 3, none⟩ (.slice none 0 0)) := ⟨_, rfl⟩
      rw [← hWW] at hB hBel
      obtain ⟨x0, x1, x2, x3⟩ := (hE.here.1.1.1.2).c4
      obtain ⟨fz0, fz1, fz2, fz3⟩ := (hE.here.1.1.1.2).f4
      have HWW := Lib.hid hWW
      clear hWW
      go_wp2_with fail
      clear x0 x1 x2 x3
      rw [← HWW.out]
      obtain ⟨y0, y1, y2, y3⟩ := hB.c4
      refine bodyPost_ret (v := .tuple #[.agg #[.bool false, .slice none 0 0, .bool false, .slice none 0 0], .int .i64 3]) (by simp [results, Tryz.results20, go_sem, y0, y1, y2, y3]) rfl ?_
      exact ⟨rfl, hBel⟩
    · skip
      have hRl : w.heap.size ≤ w.heap.size + 1 := by omega
      have hB := (hE.here.1.1.1.2).s4 (.bool false) (.slice none 0 0) (.bool false) (.slice none 0 0)
      have hBel := bel4 hE.bel hRl (.bool false) (.slice none 0 0) (.bool false) (.slice none 0 0)
      obtain ⟨WW, hWW⟩ : ∃ x, x = ((((W39.setCell ⟨w.heap.size + 1, 0, none⟩ (.bool false)).setCell ⟨w.heap.size + 1, 1, none⟩ (.slice none 0 0)).setCell ⟨w.heap.size + 1, 2, none⟩ (.bool false)).setCell ⟨w.heap.size + 1, 3, none⟩ (.slice none 0 0)) := ⟨_, rfl⟩
      rw [← hWW] at hB hBel
      obtain ⟨x0, x1, x2, x3⟩ := (hE.here.1.1.1.2).c4
      obtain ⟨fz0, fz1, fz2, fz3⟩ := (hE.here.1.1.1.2).f4
      have HWW := Lib.hid hWW
      clear hWW
      go_wp2_with fail
      clear x0 x1 x2 x3
      rw [← HWW.out]
      obtain ⟨y0, y1, y2, y3⟩ := hB.c4
      refine bodyPost_ret (v := .tuple #[.agg #[.bool false, .slice none 0 0, .bool false, .slice none 0 0], .int .i64 3]) (by simp [results, Tryz.results20, go_sem, y0, y1, y2, y3]) rfl ?_
      exact ⟨rfl, hBel⟩
set_option linter.unusedSimpArgs false in
set_option maxRecDepth 100000 in
set_option maxHeartbeats 4000000 in
theorem fpow_err0 {a : Rat} {sa ta : Bool} {Aa Ba : Option Addr} {na ca ma da : Nat} {w : World} (ha : FV w a sa Aa na ta Ba ma) (la : fl a ≤ 256) (ha0 : a.num = 0) (z : Int) (hz : z < 0) :
    Calls Tryz.prog 20 #[.agg #[.bool sa, .slice Aa na ca, .bool ta, .slice Ba ma da], .int .i64 z] w (FErr 20 w) := by
  have t1 : decide (z < 0) = true := decide_eq_true hz
  have hE := ((Env.start w).fv ha).blk 26 #[.bool sa, .slice Aa na ca, .bool ta, .slice Ba ma da] (g := w.heap.size) rfl
  have hE := hE.blk 26 #[.bool false, .slice none 0 0, .bool false, .slice none 0 0] (g := w.heap.size + 1) (by simp)
  obtain ⟨W0, hW0⟩ : ∃ W0, W0 = ((w.alloc (.cells #[.bool sa, .slice Aa na ca, .bool ta, .slice Ba ma da] 26)).alloc (.cells #[.bool false, .slice none 0 0, .bool false, .slice none 0 0] 26)) := ⟨_, rfl⟩
  rw [← hW0] at hE
  have HW0 := Lib.hid hW0
  clear hW0
  go_enter Tryz.func20, Tryz.ntmps20
  go_upto_region 1 with (fail)
  rw [← HW0.out]
  obtain ⟨k1, k2, k3, k4⟩ := (hE.here.1.2).c4
  go_wp2_with fail
  have hc := fvalid_v0 (c := ca) (d := da) hE.here.1.1.2 la
  refine hc.mono ?_
  clear hc
  clear k1 k2 k3 k4
  rintro e w5 ⟨rfl, hb⟩
  replace hE := hE.step hb
  clear hb
  obtain ⟨k6, k7, k8, k9⟩ := (hE.here.1.2).c4
  go_wp2_with fail
  have hc := ftzero_v (c := ca) (d := da) hE.here.1.1.2 true (decide_eq_true ha0)
  refine hc.mono ?_
  clear hc
  clear k6 k7 k8 k9
  rintro e w10 ⟨rfl, hb⟩
  replace hE := hE.step hb
  clear hb
  go_upto_region 6 with (fail)
  have hRl : w.heap.size ≤ w.heap.size + 1 := by omega
  have hB := (hE.here.2).s4 (.bool false) (.slice none 0 0) (.bool false) (.slice none 0 0)
  have hBel := bel4 hE.bel hRl (.bool false) (.slice none 0 0) (.bool false) (.slice none 0 0)
  obtain ⟨WW, hWW⟩ : ∃ x, x = ((((w10.setCell ⟨w.heap.size + 1, 0, none⟩ (.bool false)).setCell ⟨w.heap.size + 1, 1, none⟩ (.slice none 0 0)).setCell ⟨w.heap.size + 1, 2, none⟩ (.bool false)).setCell ⟨w.heap.size + 1, 3, none⟩ (.slice none 0 0)) := ⟨_, rfl⟩
  rw [← hWW] at hB hBel
  obtain ⟨x0, x1, x2, x3⟩ := (hE.here.2).c4
  obtain ⟨fz0, fz1, fz2, fz3⟩ := (hE.here.2).f4
  have HWW := Lib.hid hWW
  clear hWW
  go_wp2_with fail
  clear x0 x1 x2 x3
  rw [← HWW.out]
  obtain ⟨y0, y1, y2, y3⟩ := hB.c4
  refine bodyPost_ret (v := .tuple #[.agg #[.bool false, .slice none 0 0, .bool false, .slice none 0 0], .int .i64 20]) (by simp [results, Tryz.results20, go_sem, y0, y1, y2, y3]) rfl ?_
  exact ⟨rfl, hBel⟩
set_option linter.unusedSimpArgs false in
set_option maxRecDepth 100000 in
set_option maxHeartbeats 4000000 in
theorem fmake_zero {x : Int} {sx sy : Bool} {Ax Ay : Option Addr} {nx cx cy : Nat} {w : World} (hx : WV w x sx Ax nx) (hy : WV w 0 sy Ay 0) (la : nx ≤ 1024) :
    Calls Tryz.prog 43 #[.agg #[.bool sx, .slice Ax nx cx], .agg #[.bool sy, .slice Ay 0 cy]] w (FErr 20 w) := by
  have hE := ((((Env.start w).wv hx).wv hy).blk 24 #[.bool sx, .slice Ax nx cx] (g := w.heap.size) rfl).blk 24 #[.bool sy, .slice Ay 0 cy] (g := w.heap.size + 1) (by simp)
  have hE := hE.blk 26 #[.bool false, .slice none 0 0, .bool false, .slice none 0 0] (g := w.heap.size + 1 + 1) (by simp)
  obtain ⟨W0, hW0⟩ : ∃ W0, W0 = (((w.alloc (.cells #[.bool sx, .slice Ax nx cx] 24)).alloc (.cells #[.bool sy, .slice Ay 0 cy] 24)).alloc (.cells #[.bool false, .slice none 0 0, .bool false, .slice none 0 0] 26)) := ⟨_, rfl⟩
  rw [← hW0] at hE
  have HW0 := Lib.hid hW0
  clear hW0
  go_enter Tryz.func43, Tryz.ntmps43
  go_upto_region 1 with (fail)
  rw [← HW0.out]
  obtain ⟨k1, k2⟩ := (hE.here.1.1.2).c2
  obtain ⟨k3, k4⟩ := (hE.here.1.2).c2
  go_wp2_with fail
  have hc := whole_valid_v (c := cx) hE.here.1.1.1.1.2 la
  refine hc.mono ?_
  clear hc
  clear k1 k2 k3 k4
  rintro e w5 ⟨rfl, hb⟩
  replace hE := hE.step hb
  clear hb
  obtain ⟨k6, k7⟩ := (hE.here.1.1.2).c2
  obtain ⟨k8, k9⟩ := (hE.here.1.2).c2
  go_wp2_with fail
  have hc := whole_valid_v (c := cy) hE.here.1.1.1.2 (by decide)
  refine hc.mono ?_
  clear hc
  clear k6 k7 k8 k9
  rintro e w10 ⟨rfl, hb⟩
  replace hE := hE.step hb
  clear hb
  obtain ⟨k11, k12⟩ := (hE.here.1.2).c2
  go_upto_region 4 with (fail)
  clear k11 k12
  have hRl : w.heap.size ≤ w.heap.size + 1 + 1 := by omega
  have hB := (hE.here.2).s4 (.bool false) (.slice none 0 0) (.bool false) (.slice none 0 0)
  have hBel := bel4 hE.bel hRl (.bool false) (.slice none 0 0) (.bool false) (.slice none 0 0)
  obtain ⟨WW, hWW⟩ : ∃ x, x = ((((w10.setCell ⟨w.heap.size + 1 + 1, 0, none⟩ (.bool false)).setCell ⟨w.heap.size + 1 + 1, 1, none⟩ (.slice none 0 0)).setCell ⟨w.heap.size + 1 + 1, 2, none⟩ (.bool false)).setCell ⟨w.heap.size + 1 + 1, 3, none⟩ (.slice none 0 0)) := ⟨_, rfl⟩
  rw [← hWW] at hB hBel
  obtain ⟨x0, x1, x2, x3⟩ := (hE.here.2).c4
  obtain ⟨fz0, fz1, fz2, fz3⟩ := (hE.here.2).f4
  have HWW := Lib.hid hWW
  clear hWW
  go_wp2_with fail
  clear x0 x1 x2 x3
  rw [← HWW.out]
  obtain ⟨y0, y1, y2, y3⟩ := hB.c4
  refine bodyPost_ret (v := .tuple #[.agg #[.bool false, .slice none 0 0, .bool false, .slice none 0 0], .int .i64 20]) (by simp [results, Tryz.results43, go_sem, y0, y1, y2, y3]) rfl ?_
  exact ⟨rfl, hBel⟩
end Go.Proofs.YtifikcemcflgjaaGreat
