/-
  Commutation numbers: plain laws, bounds and lengths.
-/
import Derived.Test.YtmjlankpihnicaaGreatK8
namespace Go.Proofs.YtmjlankpihnicaaGreat

/-- D of the columns. -/
def dd (v : Rat) (f : Nat → Rat) : Nat → Rat
  | 0 => 1
  | k + 1 => v * dd v f k - v * dd v f k * f k
/-- C of the columns. -/
def cc (v : Rat) (f : Nat → Rat) (k : Nat) : Rat := v * dd v f k * f k
/-- The sum of m terms from k on. -/
def tl (g : Nat → Rat) : Nat → Nat → Rat
  | 0, _ => 0
  | m + 1, k => tl g m (k + 1) + g k
/-- The sum of the terms from k on, before N. -/
def sf (g : Nat → Rat) (N k : Nat) : Rat := tl g (N - k) k
theorem sf_end (g : Nat → Rat) {N k : Nat} (h : N ≤ k) : sf g N k = 0 := by
  unfold sf
  rw [Nat.sub_eq_zero_of_le h]
  rfl
theorem sf_step (g : Nat → Rat) {N k : Nat} (h : k < N) : sf g N k = sf g N (k + 1) + g k := by
  unfold sf
  obtain ⟨m, hm⟩ : ∃ m, N - k = m + 1 := ⟨N - k - 1, by omega⟩
  rw [hm, show N - (k + 1) = m by omega]
  rfl
theorem sf_ind {P : Nat → Prop} {N : Nat} (hN : P N) (hs : ∀ k, k < N → P (k + 1) → P k) : ∀ k, k ≤ N → P k := by
  have : ∀ m k, k + m = N → P k := fun m => by
    induction m with
    | zero => intro k hk; obtain rfl : k = N := by omega
              exact hN
    | succ m ih => intro k hk; exact hs k (by omega) (ih (k + 1) (by omega))
  exact fun k hk => this (N - k) k (by omega)
theorem sf_congr {g h : Nat → Rat} {N : Nat} (e : ∀ j, j < N → g j = h j) : ∀ k, k ≤ N → sf g N k = sf h N k :=
  sf_ind (by rw [sf_end _ (Nat.le_refl _), sf_end _ (Nat.le_refl _)]) fun k hk ih => by rw [sf_step g hk, sf_step h hk, ih, e k hk]
theorem sf_shift {g h : Nat → Rat} {c : Rat} {m N : Nat} (e : ∀ j, j < N → g (m + j) = c * h j) : ∀ k, k ≤ N → sf g (m + N) (m + k) = c * sf h N k :=
  sf_ind (by rw [sf_end _ (Nat.le_refl _), sf_end _ (Nat.le_refl _)]; grind) fun k hk ih => by
    rw [sf_step g (show m + k < m + N by omega), sf_step h hk, Nat.add_assoc, ih, e k hk]
    grind
theorem sf_bound {g : Nat → Rat} {N : Nat} {B : Rat} (h : ∀ j, j < N → 0 ≤ g j ∧ g j ≤ B) (_ : 0 ≤ B) : ∀ k, k ≤ N → 0 ≤ sf g N k ∧ sf g N k ≤ (((N - k : Nat) : Rat)) * B :=
  sf_ind (by rw [sf_end _ (Nat.le_refl _), Nat.sub_self]; exact ⟨by grind, by simp⟩) fun k hk ih => by
    obtain ⟨a, b⟩ := h k hk
    rw [sf_step g hk]
    obtain ⟨m, hm⟩ : ∃ m, N - k = m + 1 := ⟨N - k - 1, by omega⟩
    rw [show N - (k + 1) = m by omega] at ih
    rw [hm]
    have e : ((m + 1 : Nat) : Rat) = (m : Rat) + 1 := by push_cast; rfl
    rw [e]
    exact ⟨by grind, by grind⟩
theorem sf_dv {g : Nat → Rat} {N E : Nat} (h : ∀ j, j < N → Dv (g j) E) : ∀ k, k ≤ N → Dv (sf g N k) E :=
  sf_ind (by rw [sf_end _ (Nat.le_refl _)]; exact ⟨0, by simp⟩) fun k hk ih => by rw [sf_step g hk]; exact ih.add (h k hk)
/-- A discount factor: from 0 to 1, a denominator of two limbs. -/
def Dis (v : Rat) : Prop := 0 < v ∧ v ≤ 1 ∧ v.den ≤ b16 ^ 2
def dE (v : Rat) (f : Nat → Rat) : Nat → Nat
  | 0 => 1
  | k + 1 => v.den * dE v f k * (f k).den
theorem dd_more (v : Rat) (f : Nat → Rat) (k : Nat) : dd v f (k + 1) = v * dd v f k * (1 - f k) := by simp only [dd]; grind
theorem dd_dv (v : Rat) (f : Nat → Rat) : ∀ k, Dv (dd v f k) (dE v f k)
  | 0 => ⟨1, by simp [dd, dE]⟩
  | k + 1 => by rw [dd_more]; exact ((Dv.self v).mul (dd_dv v f k)).mul (((Dv.int 1).more (Nat.one_dvd _)).sub (Dv.self (f k)))
theorem cc_dv (v : Rat) (f : Nat → Rat) (k : Nat) : Dv (cc v f k) (dE v f (k + 1)) := ((Dv.self v).mul (dd_dv v f k)).mul (Dv.self (f k))
theorem dE_dvd (v : Rat) (f : Nat → Rat) {j : Nat} : ∀ {k : Nat}, j ≤ k → dE v f j ∣ dE v f k
  | 0, h => by obtain rfl : j = 0 := by omega
               exact Nat.dvd_refl _
  | k + 1, h => by
    by_cases e : j = k + 1
    · subst e; exact Nat.dvd_refl _
    · exact Nat.dvd_trans (dE_dvd v f (show j ≤ k by omega)) (Nat.dvd_trans (Nat.dvd_mul_left _ _) (Nat.dvd_mul_right _ _))
theorem dE_pos (v : Rat) (f : Nat → Rat) : ∀ k, 0 < dE v f k
  | 0 => by simp [dE]
  | k + 1 => Nat.mul_pos (Nat.mul_pos v.den_pos (dE_pos v f k)) (f k).den_pos
theorem dE_le {v : Rat} {f : Nat → Rat} {n : Nat} (hv : Dis v) (h : Rts f n) : ∀ k, k ≤ n → dE v f k ≤ b16 ^ (3 * k)
  | 0, _ => by simp [dE]
  | k + 1, hk => by
    have h1 := dE_le hv h k (by omega)
    have h2 := Nat.le_of_lt (h k (by omega)).2.2
    have e : b16 ^ (3 * (k + 1)) = b16 ^ 2 * b16 ^ (3 * k) * b16 := by
      rw [← Nat.pow_add, ← Nat.pow_succ]
      congr 1
      omega
    rw [e]
    exact Nat.mul_le_mul (Nat.mul_le_mul hv.2.2 h1) h2
theorem dd_01 {v : Rat} {f : Nat → Rat} {n : Nat} (hv : Dis v) (h : Rts f n) : ∀ k, k ≤ n → 0 ≤ dd v f k ∧ dd v f k ≤ 1
  | 0, _ => by simp only [dd]; exact ⟨by decide, by decide⟩
  | k + 1, hk => by
    obtain ⟨h1, h2⟩ := dd_01 hv h k (by omega)
    obtain ⟨h3, h4, _⟩ := h k (by omega)
    obtain ⟨v1, v2, _⟩ := hv
    rw [dd_more]
    have a0 : 0 ≤ 1 - f k := by grind
    have v0 : 0 ≤ v := by grind
    have b0 := Rat.mul_nonneg v0 h1
    have c0 := Rat.mul_nonneg b0 a0
    have d0 := Rat.mul_nonneg b0 h3
    have e0 := Rat.mul_nonneg (show 0 ≤ 1 - v by grind) h1
    exact ⟨c0, by grind⟩
theorem cc_01 {v : Rat} {f : Nat → Rat} {n k : Nat} (hv : Dis v) (h : Rts f n) (hk : k < n) : 0 ≤ cc v f k ∧ cc v f k ≤ 1 := by
  obtain ⟨h1, h2⟩ := dd_01 hv h k (by omega)
  obtain ⟨h5, h6⟩ := dd_01 hv h (k + 1) (by omega)
  obtain ⟨h3, h4, _⟩ := h k hk
  obtain ⟨v1, v2, _⟩ := hv
  have v0 : 0 ≤ v := by grind
  have b0 := Rat.mul_nonneg v0 h1
  have d0 := Rat.mul_nonneg b0 h3
  have e0 := Rat.mul_nonneg (show 0 ≤ 1 - v by grind) h1
  simp only [dd] at h5
  unfold cc
  exact ⟨d0, by grind⟩
/-- A number of bounded size and denominator. -/
def Ql (M j : Nat) (q : Rat) : Prop := -(M : Rat) ≤ q ∧ q ≤ (M : Rat) ∧ ∃ D, 0 < D ∧ Dv q D ∧ D ≤ b16 ^ j
theorem Ql.fl {M j : Nat} {q : Rat} (h : Ql M j q) (h0 : 0 < M) (hM : M < b16) : fl q ≤ j + 1 := by
  obtain ⟨h1, h2, D, hD, hd, hk⟩ := h
  refine fl_bound hD hd h1 h2 h0 ((ln_le b16_two).2 ?_)
  rw [Nat.pow_succ, Nat.mul_comm]
  have hp : 0 < b16 ^ j := Nat.pow_pos (by decide)
  exact Nat.lt_of_le_of_lt (Nat.mul_le_mul_right _ hk) (Nat.mul_lt_mul_of_pos_left hM hp)
theorem Ql.l {M j : Nat} {q : Rat} (h : Ql M j q) (h0 : 0 < M) (hM : M < b16) (hj : j ≤ 255) : Go.Proofs.YtmjlankpihnicaaGreat.fl q ≤ 256 := Nat.le_trans (h.fl h0 hM) (by omega)
theorem abs_mul {a b : Rat} {M K : Rat} (a1 : -M ≤ a) (a2 : a ≤ M) (b1 : -K ≤ b) (b2 : b ≤ K) : -(M * K) ≤ a * b ∧ a * b ≤ M * K := by
  have h1 := Rat.mul_nonneg (show 0 ≤ M - a by grind) (show 0 ≤ K - b by grind)
  have h2 := Rat.mul_nonneg (show 0 ≤ M - a by grind) (show 0 ≤ K + b by grind)
  have h3 := Rat.mul_nonneg (show 0 ≤ M + a by grind) (show 0 ≤ K - b by grind)
  have h4 := Rat.mul_nonneg (show 0 ≤ M + a by grind) (show 0 ≤ K + b by grind)
  exact ⟨by grind, by grind⟩
theorem Ql.mul {M K i j : Nat} {p q : Rat} (h : Ql M i p) (k : Ql K j q) : Ql (M * K) (i + j) (p * q) := by
  obtain ⟨h1, h2, D, hD, hd, hk⟩ := h
  obtain ⟨k1, k2, E, kE, kd, kk⟩ := k
  obtain ⟨r1, r2⟩ := abs_mul h1 h2 k1 k2
  have e : ((M * K : Nat) : Rat) = (M : Rat) * (K : Rat) := Rat.natCast_mul _ _
  unfold Ql
  rw [e]
  refine ⟨r1, r2, D * E, Nat.mul_pos hD kE, hd.mul kd, ?_⟩
  rw [Nat.pow_add]
  exact Nat.mul_le_mul hk kk
theorem Ql.sub {M K i j : Nat} {p q : Rat} (h : Ql M i p) (k : Ql K j q) : Ql (M + K) (i + j) (p - q) := by
  obtain ⟨h1, h2, D, hD, hd, hk⟩ := h
  obtain ⟨k1, k2, E, kE, kd, kk⟩ := k
  have e : ((M + K : Nat) : Rat) = (M : Rat) + (K : Rat) := Rat.natCast_add _ _
  unfold Ql
  rw [e]
  refine ⟨by grind, by grind, D * E, Nat.mul_pos hD kE, (hd.more (Nat.dvd_mul_right _ _)).sub (kd.more (Nat.dvd_mul_left _ _)), ?_⟩
  rw [Nat.pow_add]
  exact Nat.mul_le_mul hk kk
theorem Ql.neg {M i : Nat} {p : Rat} (h : Ql M i p) : Ql M i (-p) := by
  obtain ⟨h1, h2, D, hD, hd, hk⟩ := h
  exact ⟨by grind, by grind, D, hD, hd.neg, hk⟩
theorem Ql.add {M K i j : Nat} {p q : Rat} (h : Ql M i p) (k : Ql K j q) : Ql (M + K) (i + j) (p + q) := by
  have := h.sub k.neg
  rwa [show p - -q = p + q by grind] at this
theorem Ql.more {M K i j : Nat} {p : Rat} (h : Ql M i p) (hM : M ≤ K) (hj : i ≤ j) : Ql K j p := by
  obtain ⟨h1, h2, D, hD, hd, hk⟩ := h
  have e : (M : Rat) ≤ (K : Rat) := by exact_mod_cast hM
  exact ⟨by grind, by grind, D, hD, hd, Nat.le_trans hk (Nat.pow_le_pow_right (by decide) hj)⟩
theorem Ql.int (z : Int) {M : Nat} (h : z.natAbs ≤ M) : Ql M 0 (z : Rat) := by
  have e : ((M : Int) : Rat) = (M : Rat) := rfl
  refine ⟨?_, ?_, 1, by decide, Dv.int z, by simp⟩
  · rw [← e, ← Rat.intCast_neg]
    exact Rat.intCast_le_intCast.2 (by omega)
  · rw [← e]
    exact Rat.intCast_le_intCast.2 (by omega)
theorem Ql.of {q : Rat} {E M j : Nat} (h0 : 0 ≤ q) (h1 : q ≤ (M : Rat)) (hE : 0 < E) (hd : Dv q E) (hj : E ≤ b16 ^ j) : Ql M j q := by
  have e : (0 : Rat) ≤ (M : Rat) := Rat.natCast_nonneg
  exact ⟨by grind, h1, E, hE, hd, hj⟩
theorem Dis.ql {v : Rat} (h : Dis v) : Ql 1 2 v := by
  obtain ⟨h1, h2, h3⟩ := h
  exact Ql.of (by grind) (by simpa using h2) v.den_pos (Dv.self v) h3
theorem Dis.no {v : Rat} (h : Dis v) : Ql 1 2 (1 - v) := by
  obtain ⟨h1, h2, h3⟩ := h
  exact Ql.of (by grind) (by simp; grind) v.den_pos (((Dv.int 1).more (Nat.one_dvd _)).sub (Dv.self v)) h3
section
variable {v : Rat} {f : Nat → Rat} {N : Nat} (hv : Dis v) (hf : Rts f N)
include hv hf
theorem dd_ql {k : Nat} (hk : k ≤ N) : Ql 1 (3 * N) (dd v f k) :=
  Ql.of (dd_01 hv hf k hk).1 (by simpa using (dd_01 hv hf k hk).2) (dE_pos v f N) ((dd_dv v f k).more (dE_dvd v f hk)) (dE_le hv hf N (Nat.le_refl _))
theorem cc_ql {k : Nat} (hk : k < N) : Ql 1 (3 * N) (cc v f k) :=
  Ql.of (cc_01 hv hf hk).1 (by simpa using (cc_01 hv hf hk).2) (dE_pos v f N) ((cc_dv v f k).more (dE_dvd v f hk)) (dE_le hv hf N (Nat.le_refl _))
theorem sf_ql {g : Nat → Rat} {M : Nat} (h : ∀ j, j < N → 0 ≤ g j ∧ g j ≤ (M : Rat) ∧ Dv (g j) (dE v f N)) {k : Nat} (hk : k ≤ N) : Ql (N * M) (3 * N) (sf g N k) := by
  obtain ⟨h1, h2⟩ := sf_bound (fun j hj => ⟨(h j hj).1, (h j hj).2.1⟩) Rat.natCast_nonneg k hk
  refine Ql.of h1 (Rat.le_trans h2 ?_) (dE_pos v f N) (sf_dv (fun j hj => (h j hj).2.2) k hk) (dE_le hv hf N (Nat.le_refl _))
  rw [← Rat.natCast_mul]
  exact_mod_cast Nat.mul_le_mul_right _ (Nat.sub_le _ _)
theorem dd_ok : ∀ j, j < N → 0 ≤ dd v f j ∧ dd v f j ≤ ((1 : Nat) : Rat) ∧ Dv (dd v f j) (dE v f N) := fun j hj =>
  ⟨(dd_01 hv hf j (by omega)).1, by simpa using (dd_01 hv hf j (by omega)).2, (dd_dv v f j).more (dE_dvd v f (by omega))⟩
theorem cc_ok : ∀ j, j < N → 0 ≤ cc v f j ∧ cc v f j ≤ ((1 : Nat) : Rat) ∧ Dv (cc v f j) (dE v f N) := fun j hj =>
  ⟨(cc_01 hv hf hj).1, by simpa using (cc_01 hv hf hj).2, (cc_dv v f j).more (dE_dvd v f (by omega))⟩
omit hv hf in
theorem sf_ok {g : Nat → Rat} {M : Nat} (h : ∀ j, j < N → 0 ≤ g j ∧ g j ≤ (M : Rat) ∧ Dv (g j) (dE v f N)) : ∀ j, j < N → 0 ≤ sf g N j ∧ sf g N j ≤ ((N * M : Nat) : Rat) ∧ Dv (sf g N j) (dE v f N) := fun j hj => by
  obtain ⟨h1, h2⟩ := sf_bound (fun j hj => ⟨(h j hj).1, (h j hj).2.1⟩) Rat.natCast_nonneg j (by omega)
  refine ⟨h1, Rat.le_trans h2 ?_, sf_dv (fun j hj => (h j hj).2.2) j (by omega)⟩
  rw [← Rat.natCast_mul]
  exact_mod_cast Nat.mul_le_mul_right _ (Nat.sub_le _ _)
theorem nn_ql {k : Nat} (hk : k ≤ N) : Ql (N * 1) (3 * N) (sf (dd v f) N k) := sf_ql hv hf (dd_ok hv hf) hk
theorem mm_ql {k : Nat} (hk : k ≤ N) : Ql (N * 1) (3 * N) (sf (cc v f) N k) := sf_ql hv hf (cc_ok hv hf) hk
theorem ss_ql {k : Nat} (hk : k ≤ N) : Ql (N * (N * 1)) (3 * N) (sf (sf (dd v f) N) N k) := sf_ql hv hf (sf_ok (dd_ok hv hf)) hk
theorem rr_ql {k : Nat} (hk : k ≤ N) : Ql (N * (N * 1)) (3 * N) (sf (sf (cc v f) N) N k) := sf_ql hv hf (sf_ok (cc_ok hv hf)) hk
end
/-- N columns: D is 0 at N, and not before. -/
def Cnt (v : Rat) (f : Nat → Rat) (N : Nat) : Prop := dd v f N = 0 ∧ ∀ k, k < N → dd v f k ≠ 0
theorem Cnt.uniq {v : Rat} {f : Nat → Rat} {N K : Nat} (h : Cnt v f N) (k : Cnt v f K) : N = K := by
  rcases Nat.lt_trichotomy N K with g | g | g
  · exact absurd h.1 (k.2 N g)
  · exact g
  · exact absurd k.1 (h.2 K g)
theorem link_M {v : Rat} {f : Nat → Rat} {N : Nat} (h0 : dd v f N = 0) : ∀ k, k ≤ N → sf (cc v f) N k = dd v f k - (1 - v) * sf (dd v f) N k :=
  sf_ind (by rw [sf_end _ (Nat.le_refl _), sf_end _ (Nat.le_refl _), h0]; grind) fun k hk ih => by
    rw [sf_step _ hk, sf_step (dd v f) hk, ih]
    simp only [dd, cc]
    grind
theorem link_R {v : Rat} {f : Nat → Rat} {N : Nat} (h0 : dd v f N = 0) : ∀ k, k ≤ N → sf (sf (cc v f) N) N k = sf (dd v f) N k - (1 - v) * sf (sf (dd v f) N) N k :=
  sf_ind (by rw [sf_end _ (Nat.le_refl _), sf_end _ (Nat.le_refl _), sf_end _ (Nat.le_refl _)]; grind) fun k hk ih => by
    rw [sf_step _ hk, sf_step (sf (dd v f) N) hk, ih, link_M h0 k (by omega), sf_step (dd v f) hk]
    grind
theorem link_C (v : Rat) (f : Nat → Rat) (k : Nat) : cc v f k = v * dd v f k - dd v f (k + 1) := by simp only [dd, cc]; grind
/-- What is summed of the years from a on, before b. -/
def ps (g : Nat → Rat) (a b : Int) : Nat → Rat
  | 0 => 0
  | k + 1 => if a ≤ (k : Int) ∧ (k : Int) < b then ps g a b k + g k else ps g a b k
theorem dd_pr (v : Rat) (f : Nat → Rat) : ∀ k, dd v f k = v ^ k * pr f k
  | 0 => by simp [dd, pr]
  | k + 1 => by rw [dd_more, dd_pr v f k, Rat.pow_succ]; simp only [pr]; grind
/-- A rate of interest: not negative, parts of one limb. -/
def Rti (i : Rat) : Prop := 0 ≤ i ∧ i.num.natAbs < b16 ∧ i.den < b16
theorem Rti.le {i : Rat} (h : Rti i) : i ≤ ((65535 : Nat) : Rat) := by
  obtain ⟨h0, h1, h2⟩ := h
  rw [Rat.le_iff, Rat.num_natCast, Rat.den_natCast]
  have h3 : 0 < i.den := i.den_pos
  have h4 : i.num ≤ 65535 := by
    have : b16 = 65536 := rfl
    omega
  have h5 : ((65535 : Nat) : Int) * (i.den : Int) ≥ 65535 * 1 := Int.mul_le_mul_of_nonneg_left (by omega) (by decide)
  simp only [Int.natCast_one, Int.mul_one]
  omega
theorem Rti.one {i : Rat} (h : Rti i) : fl (1 + i) ≤ 2 := by
  have h1 := h.le
  obtain ⟨h0, _, h2⟩ := h
  have e : ((65536 : Nat) : Rat) = ((65535 : Nat) : Rat) + 1 := by norm_cast
  refine fl_bound (M := 65536) i.den_pos (((Dv.int 1).more (Nat.one_dvd _)).add (Dv.self i)) (by rw [e]; grind) (by rw [e]; grind) (by decide) ((ln_le b16_two).2 ?_)
  show 65536 * i.den < b16 ^ 2
  rw [Nat.pow_two]
  exact Nat.mul_lt_mul_of_pos_left h2 (by decide)
theorem Rti.fl {i : Rat} (h : Rti i) : Go.Proofs.YtmjlankpihnicaaGreat.fl i ≤ 1 := fl_le.2 ⟨(ln_le b16_two).2 (by rw [Nat.pow_one]; exact h.2.1), (ln_le b16_two).2 (by rw [Nat.pow_one]; exact h.2.2)⟩
theorem Rti.v {i : Rat} (h : Rti i) : 1 / (1 + i) * (1 + i) = 1 := Rat.div_mul_cancel (by have := h.1; grind)
theorem Rti.dis {i : Rat} (h : Rti i) : Dis (1 / (1 + i)) := by
  have hv := h.v
  obtain ⟨h0, h1, h2⟩ := h
  generalize 1 / (1 + i) = v at *
  have hp : 0 < v := by
    refine Rat.not_le.1 fun g => ?_
    have := Rat.mul_nonneg (show 0 ≤ -v by grind) (show 0 ≤ 1 + i by grind)
    grind
  have hle : v ≤ 1 := by
    have := Rat.mul_nonneg (show 0 ≤ v by grind) h0
    grind
  refine ⟨hp, hle, ?_⟩
  have hi : i * (i.den : Rat) = (i.num : Rat) := by
    have hq : (i.den : Rat) ≠ 0 := by
      intro h
      exact i.den_nz (by exact_mod_cast h)
    have h1 := Rat.num_divInt_den i
    rw [Rat.divInt_eq_div] at h1
    have h2 : (((i.den : Nat) : Int) : Rat) = ((i.den : Nat) : Rat) := rfl
    rw [h2] at h1
    conv => lhs; lhs; rw [← h1]
    grind
  have hn : (0 : Int) ≤ i.num := Rat.num_nonneg.2 h0
  have hD : Dv v (i.den + i.num.natAbs) := ⟨(i.den : Int), by
    have e1 : ((i.den + i.num.natAbs : Nat) : Rat) = (i.den : Rat) + (i.num : Rat) := by
      rw [Rat.natCast_add]
      congr 1
      rw [← Rat.intCast_natCast, Int.natAbs_of_nonneg hn]
    have e2 : ((i.den : Int) : Rat) = (i.den : Rat) := rfl
    rw [e1, e2, ← hi]
    have : v * ((i.den : Rat) + i * (i.den : Rat)) = v * (1 + i) * (i.den : Rat) := by grind
    rw [this, hv]
    grind⟩
  have h5 := Nat.le_of_dvd (by have := i.den_pos; omega) (Dv.iff.2 hD)
  have : b16 ^ 2 = 4294967296 := rfl
  have : b16 = 65536 := rfl
  omega
end Go.Proofs.YtmjlankpihnicaaGreat
