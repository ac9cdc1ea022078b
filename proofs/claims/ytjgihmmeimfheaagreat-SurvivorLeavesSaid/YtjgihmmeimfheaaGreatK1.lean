/-
  Several texts in one: Plain arithmetic of digits: the j-th digit of a number, the number of digits, the sum of digits that are given by a function. Fractions: plain laws on lowest terms, lengths and denominators.
-/

namespace Go.Proofs.YtjgihmmeimfheaaGreat

/-- The j-th digit of x in base B. -/
def dgt (B x j : Nat) : Nat := x / B ^ j % B
/-- The number whose digits are f 0, .., f (m - 1). -/
def vs (B : Nat) (f : Nat → Nat) : Nat → Nat
 | 0 => 0
 | m + 1 => vs B f m + B ^ m * f m
def lnF (B : Nat) : Nat → Nat → Nat
 | 0, _ => 0
 | f + 1, x => if x = 0 then 0 else lnF B f (x / B) + 1
/-- How many digits x has, without leading zeros. -/
def ln (B x : Nat) : Nat := lnF B (x.log2 + 1) x

theorem vs_zero (B : Nat) (f : Nat → Nat) : vs B f 0 = 0 := rfl
theorem vs_succ (B : Nat) (f : Nat → Nat) (m : Nat) : vs B f (m + 1) = vs B f m + B ^ m * f m := rfl
theorem vs_congr {B : Nat} {f g : Nat → Nat} {m : Nat} (h : ∀ j, j < m → f j = g j) : vs B f m = vs B g m := by
 induction m with
 | zero => rfl
 | succ m ih => rw [vs_succ, vs_succ, ih fun j hj => h j (by omega), h m (by omega)]
theorem vs_zeros {B : Nat} {f : Nat → Nat} {m : Nat} (h : ∀ j, j < m → f j = 0) : vs B f m = 0 := by
 induction m with
 | zero => rfl
 | succ m ih => rw [vs_succ, ih fun j hj => h j (by omega), h m (by omega)]; simp
theorem vs_lt {B : Nat} {f : Nat → Nat} {m : Nat} (h : ∀ j, j < m → f j < B) : vs B f m < B ^ m := by
 induction m with
 | zero => simp [vs]
 | succ m ih =>
  have h1 := ih fun j hj => h j (by omega)
  have h2 := h m (by omega)
  have h3 : B ^ m * f m ≤ B ^ m * (B - 1) := Nat.mul_le_mul_left _ (by omega)
  have h4 : B ^ m * (B - 1) = B ^ m * B - B ^ m := Nat.mul_sub_one ..
  have h5 : B ^ m ≤ B ^ m * B := Nat.le_mul_of_pos_right _ (by omega)
  rw [vs_succ, Nat.pow_succ]
  omega
/-- Low digits and the rest. -/
theorem vs_add (B : Nat) (f : Nat → Nat) (m n : Nat) : vs B f (m + n) = vs B f m + B ^ m * vs B (fun j => f (m + j)) n := by
 induction n with
 | zero => simp [vs]
 | succ n ih => rw [← Nat.add_assoc, vs_succ, ih, vs_succ, Nat.mul_add, Nat.pow_add, ← Nat.mul_assoc, Nat.add_assoc]
theorem vs_first (B : Nat) (f : Nat → Nat) (n : Nat) : vs B f (n + 1) = f 0 + B * vs B (fun j => f (j + 1)) n := by
 have h := vs_add B f 1 n
 rw [Nat.add_comm 1 n] at h
 rw [h]
 simp [vs, Nat.add_comm]
theorem vs_mono {B : Nat} {f : Nat → Nat} {m n : Nat} (h : m ≤ n) : vs B f m ≤ vs B f n := by
 obtain ⟨k, rfl⟩ := Nat.le.dest h
 rw [vs_add]; omega
theorem pow_split (B m j : Nat) (h : j ≤ m) : B ^ m = B ^ j * B ^ (m - j) := by rw [← Nat.pow_add]; congr 1; omega
theorem dgt_lt {B : Nat} (hB : 0 < B) (x j : Nat) : dgt B x j < B := Nat.mod_lt _ hB
theorem dgt_zero (B j : Nat) : dgt B 0 j = 0 := by simp [dgt]
theorem dgt_of_lt {B x j : Nat} (h : x < B ^ j) : dgt B x j = 0 := by rw [dgt, Nat.div_eq_of_lt h]; simp
theorem vs_dgt (B x m : Nat) : vs B (dgt B x) m = x % B ^ m := by
 induction m with
 | zero => simp [vs, Nat.mod_one]
 | succ m ih => rw [vs_succ, ih, dgt, Nat.pow_succ, Nat.mod_mul]
theorem vs_dgt_lt {B x m : Nat} (h : x < B ^ m) : vs B (dgt B x) m = x := by rw [vs_dgt, Nat.mod_eq_of_lt h]
theorem div_vs {B : Nat} {f : Nat → Nat} {m j : Nat} (h : ∀ i, i < j → f i < B) (hj : j ≤ m) : vs B f m / B ^ j = vs B (fun i => f (j + i)) (m - j) := by
 obtain ⟨k, rfl⟩ := Nat.le.dest hj
 have h1 := vs_lt h
 rw [vs_add, Nat.add_mul_div_left _ _ (by omega), Nat.div_eq_of_lt h1, Nat.zero_add, Nat.add_sub_cancel_left]
theorem dgt_vs {B : Nat} {f : Nat → Nat} {m j : Nat} (h : ∀ i, i < m → f i < B) (hj : j < m) : dgt B (vs B f m) j = f j := by
 rw [dgt, div_vs (fun i hi => h i (by omega)) (by omega), show m - j = (m - j - 1) + 1 by omega, vs_first, Nat.add_mul_mod_self_left]
 exact Nat.mod_eq_of_lt (h j hj)
theorem lnF_spec {B : Nat} (hB : 2 ≤ B) : ∀ f x, x < 2 ^ f → ∀ k, lnF B f x ≤ k ↔ x < B ^ k := by
 intro f
 induction f with
 | zero =>
  intro x hx k
  have : x = 0 := by simpa using hx
  subst this
  have := Nat.pow_pos (n := k) (show 0 < B by omega)
  simp [lnF]; omega
 | succ f ih =>
  intro x hx k
  rw [lnF]
  by_cases h0 : x = 0
  ·
   subst h0
   have := Nat.pow_pos (n := k) (show 0 < B by omega)
   simp; omega
  ·
   rw [if_neg h0]
   have hlt : x / B < 2 ^ f := by
    rw [Nat.div_lt_iff_lt_mul (by omega)]
    have := Nat.mul_le_mul_left (2 ^ f) hB
    rw [Nat.pow_succ] at hx
    omega
   cases k with
   | zero => simp; omega
   | succ k =>
    have h1 := ih _ hlt k
    rw [Nat.div_lt_iff_lt_mul (by omega), ← Nat.pow_succ] at h1
    rw [← h1]
    omega
theorem ln_le {B : Nat} (hB : 2 ≤ B) {x k : Nat} : ln B x ≤ k ↔ x < B ^ k := lnF_spec hB _ _ Nat.lt_log2_self k
theorem ln_lt {B : Nat} (hB : 2 ≤ B) {x k : Nat} : k < ln B x ↔ B ^ k ≤ x := by have := ln_le hB (x := x) (k := k); omega
theorem lt_pow_ln {B : Nat} (hB : 2 ≤ B) (x : Nat) : x < B ^ ln B x := (ln_le hB).1 (Nat.le_refl _)
theorem ln_zero {B : Nat} : ln B 0 = 0 := by simp [ln, lnF]
theorem ln_eq_zero {B : Nat} (hB : 2 ≤ B) {x : Nat} : ln B x = 0 ↔ x = 0 := by
 have := ln_le hB (x := x) (k := 0); simp at this; omega
theorem ln_pos {B : Nat} (hB : 2 ≤ B) {x : Nat} : 0 < ln B x ↔ 0 < x := by have := ln_eq_zero hB (x := x); omega
theorem ln_mono {B : Nat} (hB : 2 ≤ B) {x y : Nat} (h : x ≤ y) : ln B x ≤ ln B y := (ln_le hB).2 (Nat.lt_of_le_of_lt h (lt_pow_ln hB y))
theorem ln_eq {B : Nat} (hB : 2 ≤ B) {x m : Nat} (h1 : x < B ^ m) (h2 : m = 0 ∨ B ^ (m - 1) ≤ x) : ln B x = m := by
 have h3 := (ln_le hB).2 h1
 rcases h2 with rfl | h2
 · omega
 ·
  have h4 := (ln_lt hB).2 h2
  omega
theorem vs_dgt_ln {B : Nat} (hB : 2 ≤ B) (x : Nat) : vs B (dgt B x) (ln B x) = x := vs_dgt_lt (lt_pow_ln hB x)
theorem pow_le_of_ln {B : Nat} (hB : 2 ≤ B) {x : Nat} (hx : 0 < x) : B ^ (ln B x - 1) ≤ x := (ln_lt hB).1 (by have := (ln_pos hB).2 hx; omega)
/-- The highest digit is not 0. -/
theorem dgt_top {B : Nat} (hB : 2 ≤ B) {x : Nat} (hx : 0 < x) : dgt B x (ln B x - 1) ≠ 0 := by
 have h1 := lt_pow_ln hB x
 have h2 := pow_le_of_ln hB hx
 have h3 := (ln_pos hB).2 hx
 have h4 : x / B ^ (ln B x - 1) < B := by
  rw [Nat.div_lt_iff_lt_mul (Nat.pow_pos (by omega)), ← Nat.pow_succ']
  rw [show (ln B x - 1).succ = ln B x by omega]; exact h1
 have h5 : 0 < x / B ^ (ln B x - 1) := Nat.div_pos h2 (Nat.pow_pos (by omega))
 rw [dgt, Nat.mod_eq_of_lt h4]
 omega
/-- Digits without a leading zero are THE digits of their number. -/
theorem ln_vs {B : Nat} (hB : 2 ≤ B) {f : Nat → Nat} {m : Nat} (h : ∀ j, j < m → f j < B) (hn : m = 0 ∨ f (m - 1) ≠ 0) : ln B (vs B f m) = m := by
 refine ln_eq hB (vs_lt h) ?_
 rcases hn with h0 | h0
 · exact .inl h0
 ·
  rcases Nat.eq_zero_or_pos m with hm | hm
  · exact .inl hm
  ·
   refine .inr ?_
   have h1 := vs_succ B f (m - 1)
   rw [show m - 1 + 1 = m by omega] at h1
   have h2 : B ^ (m - 1) * 1 ≤ B ^ (m - 1) * f (m - 1) := Nat.mul_le_mul_left _ (by omega)
   omega
theorem ln_small {B : Nat} (hB : 2 ≤ B) {x : Nat} (h0 : 0 < x) (h : x < B) : ln B x = 1 := ln_eq hB (by simpa using h) (.inr (by simp; omega))
theorem dgt_one {B x : Nat} (h : x < B) : dgt B x 0 = x := by simp [dgt, Nat.mod_eq_of_lt h]
theorem dgt_succ (B x j : Nat) : dgt B x (j + 1) = dgt B (x / B) j := by
 rw [dgt, dgt, Nat.div_div_eq_div_mul, Nat.pow_succ, Nat.mul_comm]
theorem ln_step {B : Nat} (hB : 2 ≤ B) {x : Nat} (hx : 0 < x) : ln B x = ln B (x / B) + 1 := by
 have h := lt_pow_ln hB (x / B)
 refine ln_eq hB ?_ (.inr ?_)
 · rw [Nat.pow_succ]; rwa [Nat.div_lt_iff_lt_mul (by omega)] at h
 ·
  rw [Nat.add_sub_cancel]
  rcases Nat.eq_zero_or_pos (x / B) with h0 | h0
  · rw [h0, ln_zero]; simp; omega
  ·
   have h1 := pow_le_of_ln hB h0
   rw [Nat.le_div_iff_mul_le (by omega), ← Nat.pow_succ] at h1
   rwa [show (ln B (x / B) - 1).succ = ln B (x / B) by have := (ln_pos hB).2 h0; omega] at h1
/-- Two digits of base B are one digit of base B * B. -/
theorem dgt_two (B x j : Nat) : dgt (B * B) x j = dgt B x (2 * j) + B * dgt B x (2 * j + 1) := by
 have e1 : (B * B) ^ j = B ^ (2 * j) := by rw [Nat.pow_mul, Nat.pow_two]
 rw [dgt, dgt, dgt, e1, Nat.mod_mul, Nat.pow_succ, Nat.div_div_eq_div_mul]
theorem ln_two {B : Nat} (hB : 2 ≤ B) (x : Nat) : ln (B * B) x = (ln B x + 1) / 2 := by
 have hBB : 2 ≤ B * B := Nat.le_trans hB (Nat.le_mul_of_pos_right _ (by omega))
 have e1 : ∀ j, (B * B) ^ j = B ^ (2 * j) := fun j => by rw [Nat.pow_mul, Nat.pow_two]
 rcases Nat.eq_zero_or_pos x with rfl | hx
 · simp [ln_zero]
 ·
  have h1 := pow_le_of_ln hB hx
  have h0 := (ln_pos hB).2 hx
  refine ln_eq hBB ?_ (.inr ?_)
  · rw [e1]; exact Nat.lt_of_lt_of_le (lt_pow_ln hB x) (Nat.pow_le_pow_right (by omega) (by omega))
  · rw [e1]; exact Nat.le_trans (Nat.pow_le_pow_right (by omega) (by omega)) h1
/-- A sum of digits step by step, the carry kept. -/
theorem carry_step {B m V c t : Nat} {f : Nat → Nat} (h : vs B f m + B ^ m * c = V) (hd : f m = (t + c) % B) : vs B f (m + 1) + B ^ (m + 1) * ((t + c) / B) = V + B ^ m * t := by
 have h1 : B ^ m * ((t + c) % B) + B ^ m * (B * ((t + c) / B)) = B ^ m * (t + c) := by rw [← Nat.mul_add, Nat.mod_add_div]
 rw [vs_succ, hd, Nat.pow_succ, Nat.mul_assoc]
 rw [Nat.mul_add] at h1
 omega

/-- The sign of a comparison. -/
def cmpI (a b : Nat) : Int := if a < b then -1 else if b < a then 1 else 0
theorem cmpI_lt {a b : Nat} (h : a < b) : cmpI a b = -1 := by unfold cmpI; rw [if_pos h]
theorem cmpI_gt {a b : Nat} (h : b < a) : cmpI a b = 1 := by unfold cmpI; rw [if_neg (by omega), if_pos h]
theorem cmpI_eq {a b : Nat} (h : a = b) : cmpI a b = 0 := by unfold cmpI; rw [if_neg (by omega), if_neg (by omega)]
/-- The highest digit in which two numbers differ decides. -/
theorem lt_of_dgt {B a b k n : Nat} (hB : 2 ≤ B) (ha : a < B ^ n) (hb : b < B ^ n) (hk : k < n) (he : ∀ j, k < j → j < n → dgt B a j = dgt B b j) (h : dgt B a k < dgt B b k) : a < b := by
 have e1 := vs_add B (dgt B a) (k + 1) (n - (k + 1))
 have e2 := vs_add B (dgt B b) (k + 1) (n - (k + 1))
 rw [show k + 1 + (n - (k + 1)) = n by omega] at e1 e2
 rw [vs_dgt_lt ha, vs_succ] at e1
 rw [vs_dgt_lt hb, vs_succ] at e2
 have e3 : vs B (fun j => dgt B a (k + 1 + j)) (n - (k + 1)) = vs B (fun j => dgt B b (k + 1 + j)) (n - (k + 1)) := vs_congr fun j hj => he _ (by omega) (by omega)
 rw [e3] at e1
 have h1 : vs B (dgt B a) k < B ^ k := vs_lt fun j _ => dgt_lt (by omega) a j
 have h2 : B ^ k * (dgt B a k + 1) ≤ B ^ k * dgt B b k := Nat.mul_le_mul_left _ h
 rw [Nat.mul_add] at h2
 generalize B ^ k * dgt B a k = p at *
 generalize B ^ k * dgt B b k = q at *
 omega
theorem eq_of_dgt {B a b n : Nat} (ha : a < B ^ n) (hb : b < B ^ n) (he : ∀ j, j < n → dgt B a j = dgt B b j) : a = b := by
 rw [← vs_dgt_lt ha, ← vs_dgt_lt hb]
 exact vs_congr he

def b16 : Nat := 65536
def b32 : Nat := 4294967296
theorem b16_two : 2 ≤ b16 := by decide
theorem b32_two : 2 ≤ b32 := by decide
theorem b32_b16 : b32 = b16 * b16 := rfl
theorem dgt32_lt (x j : Nat) : dgt b32 x j < 4294967296 := dgt_lt (by decide) x j
theorem dgt16_lt (x j : Nat) : dgt b16 x j < 65536 := dgt_lt (by decide) x j
theorem dgt32_two (x j : Nat) : dgt b32 x j = dgt b16 x (2 * j) + 65536 * dgt b16 x (2 * j + 1) := dgt_two b16 x j
theorem ln32_two (x : Nat) : ln b32 x = (ln b16 x + 1) / 2 := ln_two b16_two x

end Go.Proofs.YtjgihmmeimfheaaGreat
/-! Plain arithmetic behind times, timesShort, divideShort, shifted. -/
namespace Go.Proofs.YtjgihmmeimfheaaGreat

/-- One digit changed. -/
theorem vs_set {B : Nat} {f g : Nat → Nat} {i m : Nat} (hi : i < m) (hg : ∀ j, j < m → j ≠ i → g j = f j) : vs B g m + B ^ i * f i = vs B f m + B ^ i * g i := by
 induction m with
 | zero => omega
 | succ m ih =>
  rw [vs_succ, vs_succ]
  by_cases e : i = m
  ·
   subst e
   rw [vs_congr (g := f) fun j hj => hg j (by omega) (by omega)]
   omega
  ·
   have h1 := ih (by omega) fun j hj => hg j (by omega)
   rw [hg m (by omega) (by omega)]
   omega
theorem mul_digit {x y : Nat} (hx : x < 4294967296) (hy : y < 4294967296) : x * y ≤ 18446744065119617025 := Nat.mul_le_mul (show x ≤ 4294967295 by omega) (show y ≤ 4294967295 by omega)

/-- What is added at the first digit alone. -/
def ex (p k : Nat) : Nat := if k = 0 then p else 0
def tcry (f : Nat → Nat) (m p : Nat) : Nat → Nat
 | 0 => 0
 | k + 1 => (f k * m + ex p k + tcry f m p k) / 4294967296
def tdg (f : Nat → Nat) (m p k : Nat) : Nat := (f k * m + ex p k + tcry f m p k) % 4294967296
theorem ex_lt {p k : Nat} (hp : p < 4294967296) : ex p k < 4294967296 := by unfold ex; split <;> omega
theorem tdg_lt (f : Nat → Nat) (m p k : Nat) : tdg f m p k < 4294967296 := Nat.mod_lt _ (by decide)
theorem tcry_lt {f : Nat → Nat} {m p : Nat} (hf : ∀ i, f i < 4294967296) (hm : m < 4294967296) (hp : p < 4294967296) (k : Nat) : tcry f m p k < 4294967296 := by
 induction k with
 | zero => simp [tcry]
 | succ k ih =>
  have h1 := mul_digit (hf k) hm
  have h2 := ex_lt (k := k) hp
  rw [tcry]
  generalize f k * m = z at *
  omega
theorem tdg_sum (f : Nat → Nat) (m p n : Nat) : vs b32 (tdg f m p) n + b32 ^ n * tcry f m p n = vs b32 (fun j => f j * m + ex p j) n := by
 induction n with
 | zero => simp [vs, tcry]
 | succ n ih =>
  have h := carry_step (t := f n * m + ex p n) ih (show tdg f m p n = (f n * m + ex p n + tcry f m p n) % b32 by rfl)
  rw [vs_succ b32 (fun j => f j * m + ex p j)]
  exact h
theorem vs_mul_ex (B : Nat) (f : Nat → Nat) (m p n : Nat) : vs B (fun j => f j * m + ex p j) (n + 1) = vs B f (n + 1) * m + p := by
 induction n with
 | zero => simp [vs, ex]
 | succ n ih =>
  rw [vs_succ, ih, vs_succ B f (n + 1), show ex p (n + 1) = 0 by simp [ex], Nat.add_mul, Nat.mul_assoc]
  simp only [Nat.add_zero]
  omega
theorem tdg_total {x m p : Nat} (hm : m < 4294967296) (hp : p < 4294967296) : vs b32 (tdg (dgt b32 x) m p) (ln b32 x + 1) = x * m + p := by
 have h1 := tdg_sum (dgt b32 x) m p (ln b32 x + 1)
 have h4 : tcry (dgt b32 x) m p (ln b32 x + 1) = 0 := by
  rw [tcry, dgt_of_lt (lt_pow_ln b32_two x), Nat.zero_mul, Nat.zero_add]
  rcases Nat.eq_zero_or_pos (ln b32 x) with e | e
  · rw [e, tcry]; simp only [ex, if_true]; omega
  ·
   have hc := tcry_lt (fun i => dgt32_lt x i) hm hp (ln b32 x)
   rw [show ex p (ln b32 x) = 0 by unfold ex; rw [if_neg (by omega)]]
   omega
 rw [h4, Nat.mul_zero, Nat.add_zero, vs_mul_ex, vs_dgt_lt ((ln_le b32_two).1 (Nat.le_succ _))] at h1
 exact h1

/-- The inner step of times. -/
theorem mul_step {f g : Nat → Nat} {m i k x y c V : Nat} (hi : i + k < m) (hg : ∀ j, j < m → j ≠ i + k → g j = f j) (hu : g (i + k) = (x * y + f (i + k) + c) % b32) {s : Nat}
  (h : vs b32 f m + b32 ^ (i + k) * c = V + b32 ^ i * (x * s)) : vs b32 g m + b32 ^ (i + k + 1) * ((x * y + f (i + k) + c) / b32) = V + b32 ^ i * (x * (s + b32 ^ k * y)) := by
 have h1 := vs_set (B := b32) hi hg
 have h2 : b32 ^ (i + k) * ((x * y + f (i + k) + c) % b32) + b32 ^ (i + k) * (b32 * ((x * y + f (i + k) + c) / b32)) = b32 ^ (i + k) * (x * y + f (i + k) + c) := by rw [← Nat.mul_add, Nat.mod_add_div]
 have h3 : b32 ^ i * (x * (s + b32 ^ k * y)) = b32 ^ i * (x * s) + b32 ^ (i + k) * (x * y) := by
  rw [Nat.mul_add, Nat.mul_add, Nat.pow_add, Nat.mul_assoc (b32 ^ i) (b32 ^ k), Nat.mul_left_comm x (b32 ^ k) y]
 rw [hu] at h1
 rw [h3, Nat.pow_succ, Nat.mul_assoc]
 rw [Nat.mul_add, Nat.mul_add] at h2
 generalize b32 ^ (i + k) * (b32 * ((x * y + f (i + k) + c) / b32)) = z1 at *
 generalize b32 ^ (i + k) * ((x * y + f (i + k) + c) % b32) = z2 at *
 generalize b32 ^ (i + k) * (x * y) = z3 at *
 generalize b32 ^ (i + k) * f (i + k) = z4 at *
 generalize b32 ^ (i + k) * c = z5 at *
 generalize b32 ^ i * (x * s) = z6 at *
 omega

/-- The step of a division by one digit. -/
theorem short_step {B x d k : Nat} (hd : 0 < d) : (B * (x / B ^ (k + 1) % d) + dgt B x k) / d % B = dgt B (x / d) k ∧ (B * (x / B ^ (k + 1) % d) + dgt B x k) % d = x / B ^ k % d := by
 have e1 : x / B ^ k = B * (x / B ^ (k + 1)) + dgt B x k := by
  rw [dgt, Nat.pow_succ, ← Nat.div_div_eq_div_mul]
  exact (Nat.div_add_mod _ _).symm
 have e2 : x / d / B ^ k = x / B ^ k / d := by rw [Nat.div_div_eq_div_mul, Nat.div_div_eq_div_mul, Nat.mul_comm]
 have e3 : B * (x / B ^ (k + 1)) + dgt B x k = d * (B * (x / B ^ (k + 1) / d)) + (B * (x / B ^ (k + 1) % d) + dgt B x k) := by
  have h := Nat.div_add_mod (x / B ^ (k + 1)) d
  have h2 : B * (d * (x / B ^ (k + 1) / d) + x / B ^ (k + 1) % d) = B * (x / B ^ (k + 1)) := by rw [h]
  rw [Nat.mul_add, Nat.mul_left_comm] at h2
  omega
 constructor
 · rw [show dgt B (x / d) k = x / B ^ k / d % B by rw [dgt, e2], e1, e3, Nat.mul_add_div hd, Nat.mul_add_mod]
 · rw [e1, e3, Nat.mul_add_mod]

/-- The high part that a shift brings into digit k. -/
def shi (x n k : Nat) : Nat := x % b32 ^ k * 2 ^ n / b32 ^ k
theorem shi_lt (x n k : Nat) : shi x n k < 2 ^ n := by
 have h := Nat.mod_lt x (Nat.pow_pos (n := k) (show 0 < b32 by decide))
 unfold shi
 rw [Nat.div_lt_iff_lt_mul (Nat.pow_pos (by decide)), Nat.mul_comm (2 ^ n)]
 exact Nat.mul_lt_mul_of_pos_right h (Nat.pow_pos (by decide))
theorem shi_zero (x n : Nat) : shi x n 0 = 0 := by simp [shi, Nat.mod_one]
theorem pow_n_dvd {n : Nat} (hn : n < 32) : b32 = 2 ^ n * 2 ^ (32 - n) := by rw [← Nat.pow_add, show n + (32 - n) = 32 by omega]; rfl
theorem low_mult {y n : Nat} (hn : n < 32) : y * 2 ^ n % b32 = 2 ^ n * (y % 2 ^ (32 - n)) := by rw [pow_n_dvd hn, Nat.mul_comm y, Nat.mul_mod_mul_left]
theorem shift_digit {x n k : Nat} (hn : n < 32) : dgt b32 (x * 2 ^ n) k = shi x n k + dgt b32 x k * 2 ^ n % b32 := by
 have hp : 0 < b32 ^ k := Nat.pow_pos (by decide)
 have e1 : x * 2 ^ n = b32 ^ k * (x / b32 ^ k * 2 ^ n) + x % b32 ^ k * 2 ^ n := by
  have h := Nat.div_add_mod x (b32 ^ k)
  have h2 : (b32 ^ k * (x / b32 ^ k) + x % b32 ^ k) * 2 ^ n = x * 2 ^ n := by rw [h]
  rw [Nat.add_mul, Nat.mul_assoc] at h2
  exact h2.symm
 have e2 : x * 2 ^ n / b32 ^ k = x / b32 ^ k * 2 ^ n + shi x n k := by rw [e1, Nat.mul_add_div hp]; rfl
 have e3 : x / b32 ^ k * 2 ^ n % b32 = dgt b32 x k * 2 ^ n % b32 := by rw [dgt, Nat.mod_mul_mod]
 have h1 := shi_lt x n k
 have h3 : 2 ^ n * (dgt b32 x k % 2 ^ (32 - n)) + 2 ^ n ≤ b32 := by
  have := Nat.mod_lt (dgt b32 x k) (Nat.pow_pos (n := 32 - n) (show 0 < 2 by decide))
  have h4 : 2 ^ n * (dgt b32 x k % 2 ^ (32 - n) + 1) ≤ 2 ^ n * 2 ^ (32 - n) := Nat.mul_le_mul_left _ this
  rw [← pow_n_dvd hn, Nat.mul_add, Nat.mul_one] at h4
  exact h4
 rw [dgt, e2, Nat.add_mod, e3, low_mult hn]
 rw [Nat.mod_eq_of_lt (show shi x n k < b32 by omega), Nat.add_comm]
 exact Nat.mod_eq_of_lt (by omega)
theorem shi_succ {x n k : Nat} (hn : n < 32) : shi x n (k + 1) = dgt b32 x k * 2 ^ n / b32 := by
 have hp : 0 < b32 ^ k := Nat.pow_pos (by decide)
 have hq : 0 < 2 ^ n := Nat.pow_pos (by decide)
 have e : x % b32 ^ (k + 1) = b32 ^ k * dgt b32 x k + x % b32 ^ k := by rw [Nat.pow_succ, Nat.mod_mul, dgt, Nat.add_comm]
 have e1 : shi x n (k + 1) = (dgt b32 x k * 2 ^ n + shi x n k) / b32 := by
  unfold shi
  rw [e, Nat.add_mul, Nat.mul_assoc, Nat.pow_succ, ← Nat.div_div_eq_div_mul, Nat.mul_add_div hp]
 have h1 := shi_lt x n k
 rw [e1, pow_n_dvd hn, ← Nat.div_div_eq_div_mul, ← Nat.div_div_eq_div_mul, Nat.mul_div_cancel _ hq, Nat.mul_comm, Nat.mul_add_div hq, Nat.div_eq_of_lt h1, Nat.add_zero]
end Go.Proofs.YtjgihmmeimfheaaGreat
namespace Go.Proofs.YtjgihmmeimfheaaGreat

/-- Lowest terms. -/
theorem low_num {n d : Int} (hd : 0 < d) : (Rat.divInt n d).num = n / ((Nat.gcd n.natAbs d.natAbs : Nat) : Int) ∧ ((Rat.divInt n d).den : Int) = d / ((Nat.gcd n.natAbs d.natAbs : Nat) : Int) := by
 rw [Rat.num_divInt, Rat.den_divInt, if_neg (by omega), Int.sign_eq_one_of_pos hd, Int.one_mul]
 have e : Int.gcd d n = Nat.gcd n.natAbs d.natAbs := by rw [Int.gcd_comm]; rfl
 rw [e]
 refine ⟨rfl, ?_⟩
 rw [Int.natCast_ediv]
 congr 1
 omega
theorem low_neg (n d : Int) : Rat.divInt (-n) (-d) = Rat.divInt n d := Rat.neg_divInt_neg n d
theorem add_low (a b : Rat) : Rat.divInt (a.num * (b.den : Int) + b.num * (a.den : Int)) ((a.den : Int) * (b.den : Int)) = a + b := by
 rw [Rat.add_def', ← Int.natCast_mul, Rat.divInt_ofNat]
theorem sub_low (a b : Rat) : Rat.divInt (a.num * (b.den : Int) + -(b.num * (a.den : Int))) ((a.den : Int) * (b.den : Int)) = a - b := by
 rw [Rat.sub_def', ← Int.natCast_mul, Rat.divInt_ofNat, Int.sub_eq_add_neg]
theorem mul_low (a b : Rat) : Rat.divInt (a.num * b.num) ((a.den : Int) * (b.den : Int)) = a * b := by
 rw [Rat.mul_def', ← Int.natCast_mul, Rat.divInt_ofNat]
theorem div_low (a b : Rat) : Rat.divInt (a.num * (b.den : Int)) ((a.den : Int) * b.num) = a / b := by
 rw [Rat.div_def, Rat.inv_def, ← Rat.divInt_mul_divInt, Rat.num_divInt_den]
/-- Comparison by cross products. -/
theorem cmp_lt (a b : Rat) : a.num * (b.den : Int) < b.num * (a.den : Int) ↔ a < b := (Rat.lt_iff a b).symm
theorem cmp_eq (a b : Rat) : a.num * (b.den : Int) = b.num * (a.den : Int) ↔ a = b := Rat.eq_iff_mul_eq_mul.symm
theorem mk_low {n : Int} {d : Nat} (hd : 0 < d) (hg : Nat.gcd n.natAbs d = 1) : (Rat.divInt n d).num = n ∧ (Rat.divInt n d).den = d := by
 have h : Rat.divInt n d = ⟨n, d, by omega, hg⟩ := (Rat.mk_eq_divInt).symm
 rw [h]
 exact ⟨rfl, rfl⟩
theorem den_pos (q : Rat) : 0 < q.den := Nat.pos_of_ne_zero q.den_nz
theorem int_low (z : Int) : Rat.divInt z 1 = (z : Rat) := by
 have h := mk_low (n := z) (d := 1) (by decide) (Nat.gcd_one_right _)
 exact Rat.ext h.1 h.2
/-- The denominator of q divides D. -/
def Dv (q : Rat) (D : Nat) : Prop := ∃ z : Int, q * (D : Rat) = (z : Rat)
theorem Dv.iff {q : Rat} {D : Nat} : q.den ∣ D ↔ Dv q D := by
 have e : q * (q.den : Rat) = (q.num : Rat) := by
  have hq : (q.den : Rat) ≠ 0 := by
   have := q.den_nz
   intro h
   exact this (by exact_mod_cast h)
  have h1 := Rat.num_divInt_den q
  rw [Rat.divInt_eq_div] at h1
  have h2 : (((q.den : Nat) : Int) : Rat) = ((q.den : Nat) : Rat) := rfl
  rw [h2] at h1
  conv => lhs; rw [← h1]
  grind
 constructor
 ·
  rintro ⟨k, hk⟩
  refine ⟨q.num * k, ?_⟩
  rw [hk, Rat.natCast_mul, Rat.intCast_mul, ← e]
  have : ((k : Int) : Rat) = (k : Rat) := rfl
  rw [this]
  grind
 ·
  rintro ⟨z, hz⟩
  have h1 : (q.num : Rat) * (D : Rat) = (z : Rat) * (q.den : Rat) := by
   rw [← e, ← hz]; grind
  have h2 : q.num * (D : Int) = z * (q.den : Int) := by
   have h3 : (((q.num * (D : Int) : Int)) : Rat) = ((z * (q.den : Int) : Int) : Rat) := by
    rw [Rat.intCast_mul, Rat.intCast_mul]; exact h1
   exact Rat.intCast_inj.1 h3
  have h4 : q.den ∣ q.num.natAbs * D := by
   have h5 := congrArg Int.natAbs h2
   rw [Int.natAbs_mul, Int.natAbs_mul, Int.natAbs_natCast, Int.natAbs_natCast] at h5
   exact ⟨z.natAbs, by rw [h5, Nat.mul_comm]⟩
  exact (Nat.Coprime.dvd_of_dvd_mul_left (Nat.Coprime.symm q.reduced) h4)
theorem Dv.self (q : Rat) : Dv q q.den := Dv.iff.1 (Nat.dvd_refl _)
theorem Dv.int (z : Int) : Dv (z : Rat) 1 := ⟨z, by grind⟩
theorem Dv.add {a b : Rat} {D : Nat} (ha : Dv a D) (hb : Dv b D) : Dv (a + b) D := by
 obtain ⟨x, hx⟩ := ha
 obtain ⟨y, hy⟩ := hb
 exact ⟨x + y, by rw [Rat.intCast_add, ← hx, ← hy]; grind⟩
theorem Dv.neg {a : Rat} {D : Nat} (ha : Dv a D) : Dv (-a) D := by
 obtain ⟨x, hx⟩ := ha
 exact ⟨-x, by rw [Rat.intCast_neg, ← hx]; grind⟩
theorem Dv.sub {a b : Rat} {D : Nat} (ha : Dv a D) (hb : Dv b D) : Dv (a - b) D := by
 rw [Rat.sub_eq_add_neg]; exact ha.add hb.neg
theorem Dv.mul {a b : Rat} {D E : Nat} (ha : Dv a D) (hb : Dv b E) : Dv (a * b) (D * E) := by
 obtain ⟨x, hx⟩ := ha
 obtain ⟨y, hy⟩ := hb
 exact ⟨x * y, by rw [Rat.intCast_mul, Rat.natCast_mul, ← hx, ← hy]; grind⟩
theorem Dv.more {a : Rat} {D E : Nat} (ha : Dv a D) (h : D ∣ E) : Dv a E := Dv.iff.1 (Nat.dvd_trans (Dv.iff.2 ha) h)
/-- The greater length of the two parts. -/
def fl (q : Rat) : Nat := max (ln b16 q.num.natAbs) (ln b16 q.den)
theorem fl_le {q : Rat} {k : Nat} : fl q ≤ k ↔ ln b16 q.num.natAbs ≤ k ∧ ln b16 q.den ≤ k := by unfold fl; omega
/-- A bound of the length by a bound of the absolute value and a common denominator. -/
theorem fl_bound {q : Rat} {D M k : Nat} (hD : 0 < D) (hd : Dv q D) (h1 : -(M : Rat) ≤ q) (h2 : q ≤ (M : Rat)) (hM : 0 < M) (hk : ln b16 (M * D) ≤ k) : fl q ≤ k := by
 have hdv := Nat.le_of_dvd hD (Dv.iff.2 hd)
 have e1 : q.num.natAbs ≤ M * q.den := by
  have h3 := (Rat.le_iff q (M : Rat)).1 h2
  have h4 := (Rat.le_iff (-(M : Rat)) q).1 h1
  rw [Rat.neg_num, Rat.neg_den] at h4
  rw [Rat.num_natCast, Rat.den_natCast] at h3 h4
  simp only [Int.natCast_one, Int.mul_one] at h3 h4
  rw [Int.neg_mul] at h4
  have h5 : ((M * q.den : Nat) : Int) = (M : Int) * (q.den : Int) := Int.natCast_mul _ _
  omega
 have e2 : M * q.den ≤ M * D := Nat.mul_le_mul_left _ hdv
 have e3 : q.den ≤ M * D := Nat.le_trans hdv (Nat.le_mul_of_pos_left _ hM)
 exact fl_le.2 ⟨Nat.le_trans (ln_mono b16_two (Nat.le_trans e1 e2)) hk, Nat.le_trans (ln_mono b16_two e3) hk⟩
end Go.Proofs.YtjgihmmeimfheaaGreat
