/-
  Several texts in one: The walk of the reference's Minus.
-/
import Derived.Test.YtjgihmmeimfheaaGreatK12
namespace Go.Proofs.YtjgihmmeimfheaaGreat
open Go.RowKit

/-- The borrow from digit k of a difference. -/
def bw (x y k : Nat) : Nat := if x % b16 ^ k < y % b16 ^ k then 1 else 0
theorem bw_zero (x y : Nat) : bw x y 0 = 0 := by simp [bw, Nat.mod_one]
theorem bw_le (x y k : Nat) : bw x y k ≤ 1 := by unfold bw; split <;> omega
theorem bw_div {x y k : Nat} (h : y ≤ x) : (x - y) / b16 ^ k + y / b16 ^ k + bw x y k = x / b16 ^ k := by
 have hp : 0 < b16 ^ k := Nat.pow_pos (by decide)
 have e1 := Nat.div_add_mod x (b16 ^ k)
 have e2 := Nat.div_add_mod y (b16 ^ k)
 have l1 := Nat.mod_lt x hp
 have l2 := Nat.mod_lt y hp
 unfold bw
 generalize b16 ^ k = P at *
 generalize x % P = a at *
 generalize y % P = a' at *
 generalize x / P = X at *
 generalize y / P = Y at *
 by_cases hb : a < a'
 ·
  rw [if_pos hb]
  have hXY : Y + 1 ≤ X := by
   rcases Nat.lt_or_ge Y X with h1 | h1
   · exact h1
   · have := Nat.mul_le_mul_left P h1; omega
  obtain ⟨Z, rfl⟩ := Nat.le.dest hXY
  have e3 : P * (Y + 1 + Z) = P * Y + P + P * Z := by rw [Nat.mul_add, Nat.mul_add, Nat.mul_one]
  have e4 : x - y = (P + a - a') + P * Z := by omega
  rw [e4, Nat.add_mul_div_left _ _ hp, Nat.div_eq_of_lt (by omega)]
  omega
 ·
  rw [if_neg hb]
  have hXY : Y ≤ X := by
   rcases Nat.lt_or_ge X Y with h1 | h1
   ·
    have := Nat.mul_le_mul_left P (show X + 1 ≤ Y from h1)
    rw [Nat.mul_add, Nat.mul_one] at this
    omega
   · exact h1
  obtain ⟨Z, rfl⟩ := Nat.le.dest hXY
  have e3 : P * (Y + Z) = P * Y + P * Z := Nat.mul_add ..
  have e4 : x - y = (a - a') + P * Z := by omega
  rw [e4, Nat.add_mul_div_left _ _ hp, Nat.div_eq_of_lt (by omega)]
  omega
theorem bw_step {x y : Nat} (h : y ≤ x) (k : Nat) : bw x y (k + 1) = 1 - (65536 + dgt b16 x k - bw x y k - dgt b16 y k) / 65536 ∧ dgt b16 (x - y) k = (65536 + dgt b16 x k - bw x y k - dgt b16 y k) % 65536 := by
 have hd := bw_div (k := k) h
 have hd1 := bw_div (k := k + 1) h
 have hb := bw_le x y k
 have hb1 := bw_le x y (k + 1)
 rw [Nat.pow_succ, ← Nat.div_div_eq_div_mul, ← Nat.div_div_eq_div_mul, ← Nat.div_div_eq_div_mul] at hd1
 unfold dgt
 generalize (x - y) / b16 ^ k = Z at *
 generalize x / b16 ^ k = X at *
 generalize y / b16 ^ k = Y at *
 generalize bw x y k = b at *
 generalize bw x y (k + 1) = b' at *
 have hd2 : Z / 65536 + Y / 65536 + b' = X / 65536 := hd1
 clear hd1
 show b' = 1 - (65536 + X % 65536 - b - Y % 65536) / 65536 ∧ Z % 65536 = (65536 + X % 65536 - b - Y % 65536) % 65536
 have h1 := Nat.mod_lt X (show 0 < 65536 by decide)
 have h2 := Nat.mod_lt Y (show 0 < 65536 by decide)
 have h3 := Nat.mod_lt Z (show 0 < 65536 by decide)
 have f1 := Nat.div_add_mod X 65536
 have f2 := Nat.div_add_mod Y 65536
 have f3 := Nat.div_add_mod Z 65536
 generalize X % 65536 = dx at *
 generalize Y % 65536 = dy at *
 generalize Z % 65536 = dz at *
 generalize X / 65536 = X1 at *
 generalize Y / 65536 = Y1 at *
 generalize Z / 65536 = Z1 at *
 rcases Nat.lt_or_ge dx (dy + b) with hlt | hge
 ·
  have hq : (65536 + dx - b - dy) / 65536 = 0 := Nat.div_eq_of_lt (by omega)
  rw [hq, Nat.mod_eq_of_lt (show 65536 + dx - b - dy < 65536 by omega)]
  omega
 ·
  have hq : (65536 + dx - b - dy) / 65536 = 1 := by omega
  rw [hq, show 65536 + dx - b - dy = 65536 + (dx - b - dy) by omega, Nat.add_mod_left, Nat.mod_eq_of_lt (show dx - b - dy < 65536 by omega)]
  omega

set_option linter.unusedSimpArgs false in
set_option maxRecDepth 100000 in
set_option maxHeartbeats 2000000 in
theorem rminus_any (A B : Option Addr) (c d x y : Nat) (w : World) (hA : Num16 w A x) (hB : Num16 w B y) (la : ln b16 x ≤ 1000000) (hxy : y ≤ x) :
  Calls Tryz.prog 134 #[.slice A (ln b16 x) c, .slice B (ln b16 y) d] w fun e w' => ∃ A' c', e = .returned (.slice A' (ln b16 (x - y)) c') ∧ Num16 w' A' (x - y) ∧ (∀ p, A' = some p → w.heap.size ≤ p.block) ∧ Below w.heap.size w w' := by
 have HA := Lib.hid hA
 have HB := Lib.hid hB
 have hlx := lt_pow_ln b16_two x
 have hlb : ln b16 y ≤ ln b16 x := ln_mono b16_two hxy
 have HL := Lib.hid hlx
 have HXY := Lib.hid hxy
 clear hA hB hlx hxy
 obtain ⟨N, hN⟩ : ∃ N, N = ln b16 x := ⟨_, rfl⟩
 have hNl : N ≤ 1000000 := by omega
 have HN := Lib.hid hN
 rw [← hN] at hlb ⊢
 clear hN la
 obtain ⟨i0, hi, hz0, hz1, hz2⟩ := info_parts info_u16
 go_enter Tryz.func134, Tryz.ntmps134
 go_wp2_with fail
 go_loopw [5, 6, 7] (fun v u i wr => ∃ k, i = .int .i64 ((k : Nat) : Int) ∧ u = .int .i64 ((bw x y k : Nat) : Int) ∧ k ≤ N ∧ Hid (lenV v = k) ∧ wr.ownsRow w.heap.size 59 1 v k (nums .u16 k (dgt b16 (x - y))) ∧ Below w.heap.size w wr) (fun v _ _ _ => N - lenV v)
 case atStart => exact ⟨0, rfl, by rw [bw_zero]; rfl, Nat.zero_le _, Lib.hid rfl, World.ownsRow_nil .., Below.refl _ _⟩
 case round =>
  obtain ⟨k, rfl, rfl, hk, hlv, hown, hbl⟩ := hrel
  have hbw := bw_le x y k
  by_cases hk9 : k < N
  ·
   have hcs := bw_step HXY.out k
   have HC := Lib.hid hcs
   obtain ⟨q, hq⟩ : ∃ q, q = bw x y k := ⟨_, rfl⟩
   rw [← hq] at hbw ⊢
   have HQ := Lib.hid hq
   have hdx := dgt16_lt x k
   have hdy := dgt16_lt y k
   clear hcs hq
   have t0 : decide ((k : Int) < (N : Int)) = true := decide_eq_true (by omega)
   obtain ⟨p, o, rfl, hp, hca⟩ := (Num16.below HA.out hbl) (by rw [← HN.out]; omega)
   have c1 := hca k (by rw [← HN.out]; omega)
   have t2 : (k : Int) < (N : Int) := by omega
   have o1 : IntKind.i64.wrap ((dgt b16 x k : Nat) : Int) = ((dgt b16 x k : Nat) : Int) := by rw [IntKind.wrap_i64]; omega
   have o2 : IntKind.i64.wrap (65536 + ((dgt b16 x k : Nat) : Int)) = 65536 + ((dgt b16 x k : Nat) : Int) := by rw [IntKind.wrap_i64]; omega
   have o4 : IntKind.i64.wrap (65536 + ((dgt b16 x k : Nat) : Int) - (q : Int)) = ((65536 + dgt b16 x k - q : Nat) : Int) := by rw [IntKind.wrap_i64]; omega
   clear hca
   go_upto_if 26 with (fail)
   have hM : 65536 + dgt b16 x k - q ≤ 131071 ∧ 65535 ≤ 65536 + dgt b16 x k - q := by omega
   obtain ⟨M, hMe⟩ : ∃ M, M = 65536 + dgt b16 x k - q := ⟨_, rfl⟩
   rw [← hMe] at o4 hM ⊢
   have HM := Lib.hid hMe
   clear hMe o2 c1 o1
   go_cut [8] from 26 to 33 (fun v wx => v = .int .i64 ((M - dgt b16 y k : Nat) : Int) ∧ wx = wr)
   case first =>
    rcases Nat.lt_or_ge k (ln b16 y) with h1 | h1
    ·
     obtain ⟨p2, o2, rfl, hp2, hca⟩ := (Num16.below HB.out hbl) (by omega)
     have c1 := hca k h1
     have t1 : decide (k < ln b16 y) = true := decide_eq_true h1
     have t3 : (k : Int) < ((ln b16 y : Nat) : Int) := by omega
     have o1 : IntKind.i64.wrap ((dgt b16 y k : Nat) : Int) = ((dgt b16 y k : Nat) : Int) := by rw [IntKind.wrap_i64]; omega
     have o5 : IntKind.i64.wrap ((M : Int) - ((dgt b16 y k : Nat) : Int)) = ((M - dgt b16 y k : Nat) : Int) := by rw [IntKind.wrap_i64]; omega
     clear hca
     go_wp2_with fail
     go_meet
     exact ⟨by first | rfl | (congr 1; omega), rfl⟩
    ·
     have t1 : decide (k < ln b16 y) = false := decide_eq_false (by omega)
     have HZ := Lib.hid (dgt_over h1)
     go_wp2_with fail
     go_meet
     exact ⟨by rw [HZ.out]; rfl, rfl⟩
   case rest =>
   obtain ⟨rfl, rfl⟩ := hcut
   obtain ⟨T, hT⟩ : ∃ T, T = M - dgt b16 y k := ⟨_, rfl⟩
   rw [← hT]
   have hTl : T ≤ 131071 := by omega
   have e1 : bw x y (k + 1) = 1 - T / 65536 := by rw [HC.out.1, ← HQ.out, ← HM.out, ← hT]
   have e2 : dgt b16 (x - y) k = T % 65536 := by rw [HC.out.2, ← HQ.out, ← HM.out, ← hT]
   have hT2 : T / 65536 ≤ 1 := by omega
   clear hT hdx hdy o4 hM
   have t5 : (T : Int).tmod 65536 = ((dgt b16 (x - y) k : Nat) : Int) := by rw [Int.tmod_eq_emod_of_nonneg (by omega), e2]; omega
   have t6 : (T : Int).tdiv 65536 = ((T / 65536 : Nat) : Int) := by rw [Int.tdiv_eq_ediv_of_nonneg (by omega)]; omega
   have t7 : IntKind.i64.wrap (1 - ((T / 65536 : Nat) : Int)) = ((bw x y (k + 1) : Nat) : Int) := by rw [IntKind.wrap_i64, e1]; omega
   have t8 : IntKind.i64.wrap ((T / 65536 : Nat) : Int) = ((T / 65536 : Nat) : Int) := by rw [IntKind.wrap_i64]; omega
   have t9 : (1 : Int) - (T : Int) / 65536 = ((bw x y (k + 1) : Nat) : Int) := by rw [e1]; omega
   have hdl := dgt16_lt (x - y) k
   clear e1 e2
   have o3 : IntKind.u16.wrap ((dgt b16 (x - y) k : Nat) : Int) = ((dgt b16 (x - y) k : Nat) : Int) := by rw [IntKind.wrap_u16]; omega
   have hsz := hbl.size
   go_wp2_with (at_builtin; refine wpList_append_own _ rfl _ _ 25 rfl w.heap.size 59 i0 (.int .u16 0) 1 2 Tryz.underlying25 hi hz0 hz1 hz2 rfl (by decide) _ _ _ rfl (hown.alloc _) ⟨wc.heap.size, 0, none⟩ 1 1 [.int .u16 ((dgt b16 (x - y) k : Nat) : Int)] rfl rfl (cell_one_new _ _ _) (by simp [Value.oneCell']) (by unfold maxLen; omega) (by omega) (by simp; omega) ?_; intro v' w5 hown5 hgrow _; obtain ⟨g', cap', rfl⟩ := ownsRow_succ hown5)
   go_roundw
   case rel =>
    rw [nums_succ] at hown5
    exact ⟨k + 1, rfl, by first | rfl | (congr 1; first | exact t7 | exact t9), by omega, Lib.hid rfl, hown5, (hbl.alloc hsz (.cells #[.int .u16 ((dgt b16 (x - y) k : Nat) : Int)] 59)).grown hgrow (by simp; omega) (fun g hg => (hown.lt g hg).1)⟩
   case measure =>
    show N - (k + 1) < N - lenV u5
    rw [hlv.out]
    omega
  ·
   obtain rfl : k = N := by omega
   obtain ⟨A', c', rfl, hcc, hrow⟩ := RowO.of_own hown
   have hvs : vs b16 (dgt b16 (x - y)) k = x - y := vs_dgt_lt (Nat.lt_of_le_of_lt (Nat.sub_le x y) (by rw [HN.out]; exact HL.out))
   have hc := rtrim_any wr.heap.size A' k c' (dgt b16 (x - y)) wr hrow.rd (fun i _ => dgt16_lt _ i) hcc (by omega)
   rw [hvs] at hc
   have HC := Lib.hid hc
   clear hc hvs
   go_wp2_with fail
   refine HC.out.mono ?_
   rintro e w5 ⟨rfl, rfl⟩
   go_wp2_with fail
   go_ret
   refine ⟨A', c', rfl, ?_, fun p hp => by subst hp; exact (hown.lt _ rfl).1, hbl⟩
   have hln : ln b16 (x - y) ≤ k := by
    have := ln_mono b16_two (Nat.sub_le x y)
    rw [← HN.out] at this
    exact this
   exact fun hn => by
    obtain ⟨b, o, e, h1, h2⟩ := hrow.rd (by omega)
    exact ⟨b, o, e, h1, fun i hi => h2 i (by omega)⟩
end Go.Proofs.YtjgihmmeimfheaaGreat
