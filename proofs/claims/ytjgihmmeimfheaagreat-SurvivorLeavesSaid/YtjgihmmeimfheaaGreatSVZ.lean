/-
  The reference's FromInt and Zero; fractions as they lie in memory.
-/
import Derived.Test.YtjgihmmeimfheaaGreatK18
import Derived.Test.YtjgihmmeimfheaaGreatSVL
import Derived.Test.YtjgihmmeimfheaaGreatK26
namespace Go.Proofs.YtjgihmmeimfheaaGreat
open Go.RowKit

/-- A fraction in memory, by its value. -/
def FHof (q : Rat) (s : Bool) (A : Option Addr) (n c : Nat) (t : Bool) (B : Option Addr) (m d : Nat) : FH := ⟨s, A, n, c, dgt b16 q.num.natAbs, t, B, m, d, dgt b16 q.den⟩
section
variable {w : World} {q : Rat} {s t : Bool} {A B : Option Addr} {n m c d : Nat}
theorem qOf_fv {w : World} {q : Rat} {s t : Bool} {A B : Option Addr} {n m : Nat} (h : FV w q s A n t B m) : qOf s n (dgt b16 q.num.natAbs) m (dgt b16 q.den) = q := by
 unfold qOf
 have e1 : vs b16 (dgt b16 q.num.natAbs) n = q.num.natAbs := by rw [h.1.len]; exact vs_dgt_ln b16_two _
 have e2 : vs b16 (dgt b16 q.den) m = q.den := by have := h.2.len; rw [Int.natAbs_natCast] at this; rw [this]; exact vs_dgt_ln b16_two _
 rw [e1, e2, h.1.sgn, toI_int]
 exact Rat.num_divInt_den q
theorem FHof.q_eq (h : FV w q s A n t B m) : (FHof q s A n c t B m d).q = q := qOf_fv h
theorem FHof.rd_of (h : FV w q s A n t B m) : (FHof q s A n c t B m d).rd w := h.rd
end
set_option linter.unusedSimpArgs false in
set_option maxRecDepth 100000 in
set_option maxHeartbeats 2000000 in
theorem rffromInt_v (z : Int) (w : World) (h1 : -9223372036854775808 ≤ z) (h2 : z ≤ 9223372036854775807) :
  Calls Tryz.prog 23 #[.int .i64 z] w (FR (z : Rat) w) := by
 have hE := Env.start w
 have hE := hE.blk 29 #[.bool false, .slice none 0 0, .bool false, .slice none 0 0] (g := w.heap.size) rfl
 obtain ⟨W0, hW0⟩ : ∃ W0, W0 = (w.alloc (.cells #[.bool false, .slice none 0 0, .bool false, .slice none 0 0] 29)) := ⟨_, rfl⟩
 rw [← hW0] at hE
 have HW0 := Lib.hid hW0
 clear hW0
 go_enter Tryz.func23, Tryz.ntmps23
 go_upto_region 1 with (fail)
 rw [← HW0.out]
 go_wp2_with fail
 have hc := rfromInt_v z W0 h1 h2
 refine hc.mono ?_
 clear hc
 rintro e w1 ⟨sn, An, nn, cn, rfl, hn, hb⟩
 replace hE := hE.step hb
 clear hb
 replace hE := hE.wv hn
 clear hn
 go_wp2_with fail
 have hc := rfromInt_v 1 w1 (by decide) (by decide)
 refine hc.mono ?_
 clear hc
 rintro e w2 ⟨sd, Ad, nd, cd, rfl, hd, hb⟩
 replace hE := hE.step hb
 clear hb
 replace hE := hE.wv hd
 clear hd
 have hfv : FV w2 (z : Rat) sn An nn sd Ad nd := ⟨hE.here.1.2, hE.here.2⟩
 replace hE := hE.fv hfv
 clear hfv
 have hRl : w.heap.size ≤ w.heap.size := by omega
 obtain ⟨WW, hWW, hB, hV, hBel⟩ := ret_frac hE hE.h3 hRl hE.here.2 cn cd
 obtain ⟨x0, x1, x2, x3⟩ := (hE.h3).c4
 obtain ⟨fz0, fz1, fz2, fz3⟩ := hE.h3.f4
 have HWW := Lib.hid hWW
 clear hWW
 go_wp2_with fail
 rw [← HWW.out]
 obtain ⟨y0, y1, y2, y3⟩ := hB.c4
 refine bodyPost_ret (v := .agg #[.bool sn, .slice An nn cn, .bool sd, .slice Ad nd cd]) (by simp [results, Tryz.results23, go_sem, y0, y1, y2, y3]) rfl ?_
 exact ⟨sn, An, nn, cn, sd, Ad, nd, cd, rfl, hV, hBel⟩
set_option linter.unusedSimpArgs false in
set_option maxRecDepth 100000 in
set_option maxHeartbeats 2000000 in
theorem rfzero_v {a : Rat} {sa ta : Bool} {Aa Ba : Option Addr} {na ca ma da : Nat} {w : World} (ha : FV w a sa Aa na ta Ba ma) :
  Calls Tryz.prog 38 #[.agg #[.bool sa, .slice Aa na ca, .bool ta, .slice Ba ma da]] w (fun e w' => e = .returned (.bool (decide (a.num = 0))) ∧ Below w.heap.size w w') := by
 have hE := ((Env.start w).fv ha).blk 29 #[.bool sa, .slice Aa na ca, .bool ta, .slice Ba ma da] (g := w.heap.size) rfl
 obtain ⟨W0, hW0⟩ : ∃ W0, W0 = (w.alloc (.cells #[.bool sa, .slice Aa na ca, .bool ta, .slice Ba ma da] 29)) := ⟨_, rfl⟩
 rw [← hW0] at hE
 have HW0 := Lib.hid hW0
 clear hW0
 go_enter Tryz.func38, Tryz.ntmps38
 go_upto_region 1 with (fail)
 rw [← HW0.out]
 by_cases h0 : a.num = 0
 ·
  obtain rfl : na = 0 := by rw [ha.1.len, h0]; exact ln_zero
  obtain ⟨k1, k2, k3, k4⟩ := (hE.here.2).c4
  go_wp2_with fail
  go_ret
  exact ⟨by rw [decide_eq_true h0]; rfl, hE.bel⟩
 ·
  have hz : 0 < na := by rw [ha.1.len]; exact (ln_pos b16_two).2 (by omega)
  have t1 : ((na : Int) == 0) = false := beq_eq_false_iff_ne.2 (by omega)
  have t2 : (na == 0) = false := beq_eq_false_iff_ne.2 (by omega)
  clear hz
  obtain ⟨k5, k6, k7, k8⟩ := (hE.here.2).c4
  have H0 := Lib.hid h0
  clear h0
  go_wp2_with fail
  go_ret
  exact ⟨by rw [decide_eq_false H0.out]; rfl, hE.bel⟩
end Go.Proofs.YtjgihmmeimfheaaGreat
