/-
  Commutation numbers: the plain laws of shifts, parts, rising annuities and of the interest.
-/
import Derived.Test.YtmjlankpihnicaaGreatComM
import Derived.Test.YtmjlankpihnicaaGreatK9
namespace Go.Proofs.YtmjlankpihnicaaGreat

theorem fr_move (F S : Int) (n : Nat) (r : Nat → RH) (E Y : Int) (m : Nat) : fr F S n r E (Y + (m : Int)) = fun i => fr F S n r E Y (m + i) := by
  funext i
  exact rt_later F S n r E Y m i
theorem dd_congr {v : Rat} {f g : Nat → Rat} : ∀ {n : Nat}, (∀ i, i < n → f i = g i) → dd v f n = dd v g n
  | 0, _ => rfl
  | n + 1, h => by
    simp only [dd]
    rw [dd_congr (n := n) fun i hi => h i (by omega), h n (by omega)]
theorem dd_shift (v : Rat) (f : Nat → Rat) (m : Nat) : ∀ k, dd v f (m + k) = dd v f m * dd v (fun i => f (m + i)) k
  | 0 => by simp only [dd, Nat.add_zero]; grind
  | k + 1 => by
    rw [← Nat.add_assoc]
    simp only [dd]
    rw [dd_shift v f m k]
    grind
theorem cc_shift (v : Rat) (f : Nat → Rat) (m k : Nat) : cc v f (m + k) = dd v f m * cc v (fun i => f (m + i)) k := by
  unfold cc
  rw [dd_shift]
  grind
/-- The number of columns of a later life. -/
theorem Cnt.shift {v : Rat} {f : Nat → Rat} {N K m : Nat} (h : Cnt v f N) (hm : m < N) (k : Cnt v (fun i => f (m + i)) K) : N = m + K := by
  refine Cnt.uniq h ⟨?_, fun j hj => ?_⟩
  · rw [dd_shift, k.1]; grind
  · rcases Nat.lt_or_ge j m with g | g
    · exact h.2 j (by omega)
    · obtain ⟨i, rfl⟩ : ∃ i, j = m + i := ⟨j - m, by omega⟩
      rw [dd_shift]
      have h1 := h.2 m hm
      have h2 := k.2 i (by omega)
      intro e
      rcases Rat.mul_eq_zero.1 e with e | e
      · exact h1 e
      · exact h2 e
section
variable {v : Rat} {f : Nat → Rat} {N K m : Nat} (e : N = m + K)
include e
theorem nn_shift : ∀ k, k ≤ K → sf (dd v f) N (m + k) = dd v f m * sf (dd v (fun i => f (m + i))) K k := by
  subst e
  exact sf_shift fun j _ => dd_shift v f m j
theorem mm_shift : ∀ k, k ≤ K → sf (cc v f) N (m + k) = dd v f m * sf (cc v (fun i => f (m + i))) K k := by
  subst e
  exact sf_shift fun j _ => cc_shift v f m j
theorem ss_shift : ∀ k, k ≤ K → sf (sf (dd v f) N) N (m + k) = dd v f m * sf (sf (dd v (fun i => f (m + i))) K) K k := by
  subst e
  exact sf_shift fun j hj => nn_shift rfl j (by omega)
theorem rr_shift : ∀ k, k ≤ K → sf (sf (cc v f) N) N (m + k) = dd v f m * sf (sf (cc v (fun i => f (m + i))) K) K k := by
  subst e
  exact sf_shift fun j hj => mm_shift rfl j (by omega)
end
theorem ps_split (g : Nat → Rat) {a m b : Int} (h1 : a ≤ m) (h2 : m ≤ b) : ∀ k, ps g a m k + ps g m b k = ps g a b k
  | 0 => by simp only [ps]; grind
  | k + 1 => by
    have ih := ps_split g h1 h2 k
    simp only [ps]
    by_cases c1 : a ≤ (k : Int) ∧ (k : Int) < m
    · rw [if_pos c1, if_neg (show ¬ (m ≤ (k : Int) ∧ (k : Int) < b) by omega), if_pos (show a ≤ (k : Int) ∧ (k : Int) < b by omega)]
      grind
    · rw [if_neg c1]
      by_cases c2 : m ≤ (k : Int) ∧ (k : Int) < b
      · rw [if_pos c2, if_pos (show a ≤ (k : Int) ∧ (k : Int) < b by omega)]
        grind
      · rw [if_neg c2, if_neg (show ¬ (a ≤ (k : Int) ∧ (k : Int) < b) by omega)]
        exact ih
theorem ps_none (g : Nat → Rat) {a b : Int} (h : b ≤ a) : ∀ k, ps g a b k = 0
  | 0 => rfl
  | k + 1 => by
    simp only [ps]
    rw [if_neg (show ¬ (a ≤ (k : Int) ∧ (k : Int) < b) by omega)]
    exact ps_none g h k
theorem ps_one (g : Nat → Rat) (a : Nat) : ∀ k, ps g (a : Int) ((a : Int) + 1) k = if a < k then g a else 0
  | 0 => rfl
  | k + 1 => by
    simp only [ps]
    rw [ps_one g a k]
    by_cases c : k = a
    · subst c
      rw [if_pos (show (k : Int) ≤ (k : Int) ∧ (k : Int) < (k : Int) + 1 by omega), if_neg (show ¬ k < k by omega), if_pos (show k < k + 1 by omega)]
      grind
    · rw [if_neg (show ¬ ((a : Int) ≤ (k : Int) ∧ (k : Int) < (a : Int) + 1) by omega)]
      by_cases c2 : a < k
      · rw [if_pos c2, if_pos (show a < k + 1 by omega)]
      · rw [if_neg c2, if_neg (show ¬ a < k + 1 by omega)]
/-- What a rising annuity from a on pays in the year k. -/
def rs (g : Nat → Rat) (a : Int) (k : Nat) : Rat := (((k : Int) - a + 1 : Int) : Rat) * g k
theorem ps_rise (g : Nat → Rat) {a m : Int} (b : Int) : ∀ k, ps (rs g a) m b k = ps (rs g m) m b k + ((m - a : Int) : Rat) * ps g m b k
  | 0 => by simp only [ps]; grind
  | k + 1 => by
    have ih := ps_rise g (a := a) (m := m) b k
    simp only [ps]
    by_cases c : m ≤ (k : Int) ∧ (k : Int) < b
    · rw [if_pos c, if_pos c, if_pos c, ih]
      unfold rs
      have e : (((k : Int) - a + 1 : Int) : Rat) = (((k : Int) - m + 1 : Int) : Rat) + ((m - a : Int) : Rat) := by
        rw [← Rat.intCast_add]
        congr 1
        omega
      rw [e]
      grind
    · rw [if_neg c, if_neg c, if_neg c]
      exact ih
theorem ps_parts (g : Nat → Rat) {a m b : Int} (h1 : a ≤ m) (h2 : m ≤ b) (k : Nat) : ps (rs g a) a m k + ps (rs g m) m b k + ((m - a : Int) : Rat) * ps g m b k = ps (rs g a) a b k := by
  have h3 := ps_split (rs g a) h1 h2 k
  rw [ps_rise g (a := a) (m := m) b k] at h3
  rw [← h3]
  grind
theorem pow_pos {v : Rat} (h : 0 < v) : ∀ k : Nat, 0 < v ^ k
  | 0 => by rw [Rat.pow_zero]; decide
  | k + 1 => by rw [Rat.pow_succ]; exact Rat.mul_pos (pow_pos h k) h
/-- The number of columns does not depend on the interest. -/
theorem Cnt.pr {v : Rat} {f : Nat → Rat} {N : Nat} (hv : 0 < v) : Cnt v f N ↔ (Go.Proofs.YtmjlankpihnicaaGreat.pr f N = 0 ∧ ∀ k, k < N → Go.Proofs.YtmjlankpihnicaaGreat.pr f k ≠ 0) := by
  have hz : ∀ k, dd v f k = 0 ↔ Go.Proofs.YtmjlankpihnicaaGreat.pr f k = 0 := fun k => by
    rw [dd_pr]
    have := pow_pos hv k
    constructor
    · intro e
      rcases Rat.mul_eq_zero.1 e with e | e
      · rw [e] at this
        exact absurd this (by decide)
      · exact e
    · intro e
      rw [e]
      grind
  unfold Cnt
  constructor
  · exact fun ⟨a, b⟩ => ⟨(hz N).1 a, fun k hk e => b k hk ((hz k).2 e)⟩
  · exact fun ⟨a, b⟩ => ⟨(hz N).2 a, fun k hk e => b k hk ((hz k).1 e)⟩
theorem Cnt.rate {v w : Rat} {f : Nat → Rat} {N : Nat} (hv : 0 < v) (hw : 0 < w) (h : Cnt v f N) : Cnt w f N := (Cnt.pr hw).2 ((Cnt.pr hv).1 h)
/-- The least number of years after which D is 0. -/
theorem cnt_ex {v : Rat} {f : Nat → Rat} {M : Nat} (h : dd v f M = 0) : ∃ N, N ≤ M ∧ Cnt v f N := by
  induction M using Nat.strongRecOn with
  | _ M ih =>
    by_cases c : ∃ k, k < M ∧ dd v f k = 0
    · obtain ⟨k, hk, e⟩ := c
      obtain ⟨N, hN, hc⟩ := ih k hk e
      exact ⟨N, by omega, hc⟩
    · exact ⟨M, Nat.le_refl _, h, fun k hk e => c ⟨k, hk, e⟩⟩
/-- The number of columns of a life: at most one more than the rows. -/
theorem life_cnt {F S E Y : Int} {n : Nat} {r : Nat → RH} (v : Rat) (hR : RightP F S n r E Y) : ∃ N, N ≤ n + 1 ∧ Cnt v (fr F S n r E Y) N := by
  obtain ⟨M, _, h1, _, h2⟩ := last_year hR
  have hM : M ≤ n := by
    rcases Nat.eq_zero_or_pos M with e | e
    · omega
    · have := h1 (M - 1) (by omega)
      obtain ⟨_, r1, r2, r3, r4⟩ := hR
      omega
  have h0 : dd v (fr F S n r E Y) (M + 1) = 0 := by
    rw [dd_more]
    have : fr F S n r E Y M = 1 := h2
    rw [this]
    grind
  obtain ⟨N, hN, hc⟩ := cnt_ex h0
  exact ⟨N, by omega, hc⟩
theorem Cnt.pos {v : Rat} {f : Nat → Rat} {N : Nat} (h : Cnt v f N) : 0 < N := by
  rcases Nat.eq_zero_or_pos N with e | e
  · subst e
    have := h.1
    simp only [dd] at this
    exact absurd this (by decide)
  · exact e
end Go.Proofs.YtmjlankpihnicaaGreat
