/-
  The rounded fraction, in plain words: on which side it lies, and how far away.
-/
import Derived.Test.YtifikcemcflgjaaGreatK9
import Derived.Test.YtifikcemcflgjaaGreatK10
namespace Go.Proofs.YtifikcemcflgjaaGreat
open Go.RowKit

theorem near_int {m : Nat} {n k r B e z : Int} {od : Bool} (h1 : 1 ≤ m) (h6 : m ≤ 6) (hr0 : 0 ≤ r) (hrB : r < B) (hn : r ≠ 0 → n ≠ 0) (hod : od = (k.natAbs % 2 == 1))
    (hc : (r = 0 ∧ e = 0 ∧ z = k) ∨ (r ≠ 0 ∧ upB m (decide (n < 0)) od (cmpZ (r + r) B) = true ∧ e = B - r ∧ z = k + 1) ∨ (r ≠ 0 ∧ upB m (decide (n < 0)) od (cmpZ (r + r) B) = false ∧ e = -r ∧ z = k)) :
    (-B < e ∧ e < B) ∧ (5 ≤ m → 2 * e ≤ B ∧ -B ≤ 2 * e) ∧ (m = 1 → (0 < e → n < 0) ∧ (e < 0 → 0 ≤ n)) ∧ (m = 2 → (0 < e → 0 ≤ n) ∧ (e < 0 → n < 0)) ∧ (m = 3 → e ≤ 0) ∧ (m = 4 → 0 ≤ e) ∧
    (m = 5 → (2 * e < B ∧ -B < 2 * e) ∨ (0 < e ∧ 0 < n) ∨ (e < 0 ∧ n < 0)) ∧ (m = 6 → (2 * e < B ∧ -B < 2 * e) ∨ z % 2 = 0) := by
  have hk : od = true ↔ k % 2 = 1 := by
    rw [hod, beq_iff_eq]; omega
  clear hod
  unfold upB cmpZ at hc
  rcases (show m = 1 ∨ m = 2 ∨ m = 3 ∨ m = 4 ∨ m = 5 ∨ m = 6 by omega) with rfl | rfl | rfl | rfl | rfl | rfl <;> clear h1 h6 <;>
    (rcases hc with ⟨hx, rfl, rfl⟩ | ⟨hx, hu, rfl, rfl⟩ | ⟨hx, hu, rfl, rfl⟩) <;> (try have hn := hn hx) <;> (try (simp at hu)) <;> (try (split at hu)) <;> (try (split at hu)) <;> (try (simp at hu)) <;> cases od <;> simp at hk <;> (try (simp at hu)) <;> omega
def eQ (m : Nat) (a b : Rat) : Int := roundZ m a b * botQ a b - topQ a b
theorem bot_pos {a b : Rat} (hb : 0 < b.num) : 0 < botQ a b := Int.mul_pos (den_posZ a) hb
theorem near_div {a b : Rat} (hb : 0 < b.num) : topQ a b = kQ a b * botQ a b + rQ a b ∧ 0 ≤ rQ a b ∧ rQ a b < botQ a b := by
  have h := bot_pos (a := a) hb
  refine ⟨?_, Int.fmod_nonneg_of_pos _ h, Int.fmod_lt_of_pos _ h⟩
  have h3 := Int.fmod_add_mul_fdiv (topQ a b) (botQ a b)
  unfold kQ rQ
  rw [Int.mul_comm]
  omega
theorem near_e {m : Nat} {a b : Rat} (hb : 0 < b.num) :
    (rQ a b = 0 ∧ eQ m a b = 0 ∧ roundZ m a b = kQ a b) ∨ (rQ a b ≠ 0 ∧ upQ m a b = true ∧ eQ m a b = botQ a b - rQ a b ∧ roundZ m a b = kQ a b + 1) ∨ (rQ a b ≠ 0 ∧ upQ m a b = false ∧ eQ m a b = -rQ a b ∧ roundZ m a b = kQ a b) := by
  obtain ⟨h1, -, -⟩ := near_div (a := a) hb
  unfold eQ roundZ
  by_cases hr : rQ a b = 0
  · left; rw [if_pos hr]; refine ⟨hr, ?_, rfl⟩; omega
  · right
    rw [if_neg hr]
    cases hu : upQ m a b with
    | true => left; rw [if_pos rfl]; refine ⟨hr, rfl, ?_, rfl⟩; rw [Int.add_mul, Int.one_mul]; omega
    | false => right; rw [if_neg (by decide)]; refine ⟨hr, rfl, ?_, rfl⟩; omega
theorem near_facts {m : Nat} {a b : Rat} (hb : 0 < b.num) (h1 : 1 ≤ m) (h6 : m ≤ 6) :
    (-botQ a b < eQ m a b ∧ eQ m a b < botQ a b) ∧ (5 ≤ m → 2 * eQ m a b ≤ botQ a b ∧ -botQ a b ≤ 2 * eQ m a b) ∧ (m = 1 → (0 < eQ m a b → a.num < 0) ∧ (eQ m a b < 0 → 0 ≤ a.num)) ∧ (m = 2 → (0 < eQ m a b → 0 ≤ a.num) ∧ (eQ m a b < 0 → a.num < 0)) ∧ (m = 3 → eQ m a b ≤ 0) ∧ (m = 4 → 0 ≤ eQ m a b) ∧
    (m = 5 → (2 * eQ m a b < botQ a b ∧ -botQ a b < 2 * eQ m a b) ∨ (0 < eQ m a b ∧ 0 < a.num) ∨ (eQ m a b < 0 ∧ a.num < 0)) ∧ (m = 6 → (2 * eQ m a b < botQ a b ∧ -botQ a b < 2 * eQ m a b) ∨ roundZ m a b % 2 = 0) := by
  obtain ⟨h3, h4, h5⟩ := near_div (a := a) hb
  refine near_int h1 h6 h4 h5 ?_ rfl (near_e hb)
  intro hr hn
  have ht : topQ a b = 0 := by unfold topQ; rw [hn, Int.zero_mul]
  apply hr
  unfold rQ
  rw [ht, Int.zero_fmod]
theorem q_den (q : Rat) : q * (((q.den : Nat) : Int) : Rat) = ((q.num : Int) : Rat) := by
  obtain ⟨z, hz⟩ := Dv.iff.1 (Nat.dvd_refl q.den)
  have hq : (0 : Rat) < (((q.den : Nat) : Int) : Rat) := by exact_mod_cast den_posZ q
  have h1 := Rat.num_divInt_den q
  rw [Rat.divInt_eq_div] at h1
  conv => lhs; rw [← h1]
  grind
/-- The rounded fraction less the fraction. -/
def dQ (m : Nat) (a b : Rat) : Rat := ((roundZ m a b : Int) : Rat) * b - a
theorem near_d {m : Nat} {a b : Rat} : dQ m a b * ((botQ a b : Int) : Rat) = ((eQ m a b : Int) : Rat) * b := by
  have h1 := q_den a
  have h2 := q_den b
  unfold dQ eQ botQ topQ
  simp only [Rat.intCast_mul, Rat.intCast_sub]
  generalize ((roundZ m a b : Int) : Rat) = z
  generalize (((a.den : Nat) : Int) : Rat) = ad at *
  generalize (((b.den : Nat) : Int) : Rat) = bd at *
  rw [← h1, ← h2]
  grind
theorem near_cmp {x y b : Rat} {e f B : Int} (hx : x * ((B : Int) : Rat) = ((e : Int) : Rat) * b) (hy : y * ((B : Int) : Rat) = ((f : Int) : Rat) * b) (hB : 0 < B) (hb : 0 < b) : cmpQ x y = cmpZ e f := by
  have hB' : (0 : Rat) < ((B : Int) : Rat) := by exact_mod_cast hB
  have lt : ∀ {x y : Rat} {e f : Int}, x * ((B : Int) : Rat) = ((e : Int) : Rat) * b → y * ((B : Int) : Rat) = ((f : Int) : Rat) * b → (x < y ↔ e < f) := by
    intro x y e f hx hy
    rw [← Rat.mul_lt_mul_right hB', hx, hy, Rat.mul_lt_mul_right hb]
    exact Rat.intCast_lt_intCast
  have h1 := lt hx hy
  have h2 := lt hy hx
  rw [cmpQ_val]; unfold cmpZ
  grind
theorem q_pos {b : Rat} : 0 < b ↔ 0 < b.num := by
  rw [Rat.lt_iff]; simp
theorem q_neg {b : Rat} : b < 0 ↔ b.num < 0 := by
  rw [Rat.lt_iff]; simp
theorem cmpQ_sgn (a : Rat) : cmpQ a ((0 : Int) : Rat) = cmpZ a.num 0 := by
  unfold cmpQ
  rw [(int_num 0).1, (int_num 0).2]; simp
/-- What the difference is held against. -/
theorem near_cmps {m : Nat} {a b : Rat} (hb : 0 < b.num) :
    cmpQ (dQ m a b) ((0 : Int) : Rat) = cmpZ (eQ m a b) 0 ∧ cmpQ (dQ m a b) b = cmpZ (eQ m a b) (botQ a b) ∧ cmpQ (((0 : Int) : Rat) - dQ m a b) b = cmpZ (-eQ m a b) (botQ a b) ∧
    cmpQ (dQ m a b + dQ m a b) b = cmpZ (2 * eQ m a b) (botQ a b) ∧ cmpQ ((((0 : Int) : Rat) - dQ m a b) + (((0 : Int) : Rat) - dQ m a b)) b = cmpZ (-(2 * eQ m a b)) (botQ a b) := by
  have hB := bot_pos (a := a) hb
  have hb' := q_pos.2 hb
  have hd := near_d (m := m) (a := a) (b := b)
  have h0 : ((0 : Int) : Rat) = 0 := rfl
  have hbb : b * ((botQ a b : Int) : Rat) = ((botQ a b : Int) : Rat) * b := Rat.mul_comm _ _
  refine ⟨near_cmp hd ?_ hB hb', near_cmp hd hbb hB hb', near_cmp ?_ hbb hB hb', near_cmp ?_ hbb hB hb', near_cmp ?_ hbb hB hb'⟩
  · rw [h0]; grind
  · rw [Rat.intCast_neg, h0]; grind
  · rw [Rat.intCast_mul]; show _ = 2 * _ * _; grind
  · rw [Rat.intCast_neg, Rat.intCast_mul, h0]; show _ = -(2 * _) * _; grind
theorem round_q {m : Nat} {a b : Rat} : Rat.divInt (roundZ m a b * b.num) (b.den : Int) = ((roundZ m a b : Int) : Rat) * b := by
  have h := mul_low ((roundZ m a b : Int) : Rat) b
  rw [(int_num _).1, (int_num _).2] at h
  rw [← h]
  congr 1
  omega
theorem fl_intz {z : Int} {k : Nat} (h : ln b16 z.natAbs ≤ k) (hk : 1 ≤ k) : fl ((z : Int) : Rat) ≤ k := by
  rw [fl_le, (int_num z).1, (int_num z).2]
  exact ⟨h, Nat.le_trans (by decide) hk⟩
theorem round_ln {m : Nat} {a b : Rat} {i j : Nat} (ha : fl a ≤ i) (hb : fl b ≤ j) (hij : 1 ≤ i + j) : ln b16 (roundZ m a b).natAbs ≤ i + j + 2 := by
  obtain ⟨a1, a2⟩ := fl_z ha
  obtain ⟨b1, b2⟩ := fl_z hb
  have hk : ln b16 (kQ a b).natAbs ≤ i + j + 1 := fdiv_len2 (ln_mulZ a1 b2) hij
  have hk1 : ln b16 (kQ a b + 1).natAbs ≤ i + j + 1 + 1 := ln_addZ (m := i + j + 1) hk (Nat.le_trans (by decide) (show 1 ≤ i + j + 1 by omega))
  unfold roundZ
  split
  · omega
  · split <;> omega
theorem round_fl {m : Nat} {a b : Rat} {i j : Nat} (ha : fl a ≤ i) (hb : fl b ≤ j) (hij : 1 ≤ i + j) : fl (((roundZ m a b : Int) : Rat) * b) ≤ i + j + 2 + j :=
  fl_times (fl_intz (round_ln ha hb hij) (by omega)) hb
theorem twice_fl {d : Rat} {i : Nat} (h : fl d ≤ i) : fl (d + d) ≤ 1 + i := by
  have e : d + d = ((2 : Int) : Rat) * d := by show d + d = 2 * d; grind
  rw [e]
  exact fl_times (by rw [fl_le]; exact ⟨by decide, by decide⟩) h
theorem zsub_fl {d : Rat} {i : Nat} (h : fl d ≤ i) : fl (((0 : Int) : Rat) - d) ≤ i := by
  have e : ((0 : Int) : Rat) - d = -d := by show 0 - d = -d; grind
  rw [e, fl_neg]; exact h
/-- On which side the rounded fraction lies. -/
theorem near_side {m : Nat} {a b : Rat} (hb : 0 < b.num) (h1 : 1 ≤ m) (h6 : m ≤ 6) :
    (m = 1 → cmpQ (dQ m a b) ((0 : Int) : Rat) * cmpQ a ((0 : Int) : Rat) ≤ 0) ∧ (m = 2 → 0 ≤ cmpQ (dQ m a b) ((0 : Int) : Rat) * cmpQ a ((0 : Int) : Rat)) ∧ (m = 3 → cmpQ (dQ m a b) ((0 : Int) : Rat) ≤ 0) ∧ (m = 4 → 0 ≤ cmpQ (dQ m a b) ((0 : Int) : Rat)) := by
  obtain ⟨-, -, f1, f2, f3, f4, -, -⟩ := near_facts (a := a) hb h1 h6
  obtain ⟨c1, -⟩ := near_cmps (m := m) (a := a) hb
  rw [c1, cmpQ_sgn]
  generalize eQ m a b = e at *
  generalize a.num = n at *
  unfold cmpZ
  refine ⟨fun h => ?_, fun h => ?_, fun h => ?_, fun h => ?_⟩
  · have := f1 h; split <;> split <;> (try split) <;> (try split) <;> omega
  · have := f2 h; split <;> split <;> (try split) <;> (try split) <;> omega
  · have := f3 h; split <;> (try split) <;> omega
  · have := f4 h; split <;> (try split) <;> omega
theorem near_neg {m : Nat} {a b : Rat} (hb : 0 < b.num) (h1 : 1 ≤ m) (h6 : m ≤ 6) (he : eQ m a b < 0) :
    cmpQ (dQ m a b) ((0 : Int) : Rat) = -1 ∧ cmpQ (((0 : Int) : Rat) - dQ m a b) b = -1 ∧ (5 ≤ m → cmpQ ((((0 : Int) : Rat) - dQ m a b) + (((0 : Int) : Rat) - dQ m a b)) b ≤ 0) ∧
    (m = 5 → cmpQ ((((0 : Int) : Rat) - dQ m a b) + (((0 : Int) : Rat) - dQ m a b)) b < 0 ∨ cmpQ (dQ m a b) ((0 : Int) : Rat) = cmpQ a ((0 : Int) : Rat)) ∧
    (m = 6 → cmpQ ((((0 : Int) : Rat) - dQ m a b) + (((0 : Int) : Rat) - dQ m a b)) b < 0 ∨ roundZ m a b % 2 = 0) := by
  obtain ⟨f0, g0, -, -, -, -, f5, f6⟩ := near_facts (a := a) hb h1 h6
  obtain ⟨c1, -, c3, -, c5⟩ := near_cmps (m := m) (a := a) hb
  rw [c1, c3, c5, cmpQ_sgn]
  generalize eQ m a b = e at *
  generalize botQ a b = B at *
  generalize a.num = n at *
  unfold cmpZ
  refine ⟨?_, ?_, fun h => ?_, fun h => ?_, fun h => ?_⟩
  · rw [if_pos he]
  · rw [if_pos (by omega)]
  · have := g0 h; split <;> (try split) <;> omega
  · have := f5 h; split <;> (try split) <;> (try split) <;> (try split) <;> omega
  · have := f6 h; split <;> (try split) <;> omega
theorem near_pos {m : Nat} {a b : Rat} (hb : 0 < b.num) (h1 : 1 ≤ m) (h6 : m ≤ 6) (he : ¬ eQ m a b < 0) :
    ¬ cmpQ (dQ m a b) ((0 : Int) : Rat) < 0 ∧ cmpQ (dQ m a b) b = -1 ∧ (5 ≤ m → cmpQ (dQ m a b + dQ m a b) b ≤ 0) ∧
    (m = 5 → cmpQ (dQ m a b + dQ m a b) b < 0 ∨ cmpQ (dQ m a b) ((0 : Int) : Rat) = cmpQ a ((0 : Int) : Rat)) ∧
    (m = 6 → cmpQ (dQ m a b + dQ m a b) b < 0 ∨ roundZ m a b % 2 = 0) := by
  obtain ⟨f0, g0, -, -, -, -, f5, f6⟩ := near_facts (a := a) hb h1 h6
  obtain ⟨c1, c2, -, c4, -⟩ := near_cmps (m := m) (a := a) hb
  rw [c1, c2, c4, cmpQ_sgn]
  generalize eQ m a b = e at *
  generalize botQ a b = B at *
  generalize a.num = n at *
  unfold cmpZ
  refine ⟨?_, ?_, fun h => ?_, fun h => ?_, fun h => ?_⟩
  · split <;> (try split) <;> omega
  · rw [if_pos (by omega)]
  · have := g0 h; split <;> (try split) <;> omega
  · have := f5 h; split <;> (try split) <;> (try split) <;> (try split) <;> omega
  · have := f6 h; split <;> (try split) <;> omega
theorem cmpQ_one {b : Rat} (h : cmpQ b ((0 : Int) : Rat) = 1) : 0 < b.num := by
  rw [cmpQ_sgn] at h
  unfold cmpZ at h
  split at h
  · omega
  · split at h
    · assumption
    · omega
end Go.Proofs.YtifikcemcflgjaaGreat
