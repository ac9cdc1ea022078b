/-
  Plain arithmetic behind divide.
-/
import Derived.Test.YtafglggjncnkkaaDoorMath1
import Derived.Lib.ItoaNum
namespace Go.Proofs.YtafglggjncnkkaaDoor

/-- Leading zero bits of a word. -/
def lz (x : Nat) : Nat := 32 - Lib.bitLen x
theorem lz_spec {x : Nat} (h0 : 0 < x) (h : x < 4294967296) : lz x < 32 ∧ 2147483648 ≤ x * 2 ^ lz x ∧ x * 2 ^ lz x < 4294967296 ∧ (32 - (Lib.bitLen x : Int)) = (lz x : Int) := by
  have hb := Lib.bitLenAux_bounds 64 x (by omega) (by omega)
  have h32 := Lib.bitLen_le x 32 (by decide) h
  unfold lz
  unfold Lib.bitLen at h32 ⊢
  generalize Lib.bitLenAux 64 x = L at *
  obtain ⟨h1, h2, h3⟩ := hb
  have e1 : 2 ^ (L - 1) * 2 ^ (32 - L) = 2147483648 := by rw [← Nat.pow_add, show L - 1 + (32 - L) = 31 by omega]
  have e2 : 2 ^ L * 2 ^ (32 - L) = 4294967296 := by rw [← Nat.pow_add, show L + (32 - L) = 32 by omega]
  have h4 := Nat.mul_le_mul_right (2 ^ (32 - L)) h2
  have h5 := Nat.mul_lt_mul_of_pos_right h3 (Nat.pow_pos (n := 32 - L) (show 0 < 2 by decide))
  rw [e1] at h4
  rw [e2] at h5
  exact ⟨by omega, h4, h5, by omega⟩
/-- The divisor, shifted so that its highest bit is 1. -/
theorem norm_div {b n s : Nat} (hn : n = ln b32 b) (hb : 0 < b) (hs : s = lz (dgt b32 b (n - 1))) : s < 32 ∧ b * 2 ^ s < b32 ^ n ∧ 2147483648 ≤ dgt b32 (b * 2 ^ s) (n - 1) ∧ 2147483648 * b32 ^ (n - 1) ≤ b * 2 ^ s := by
  subst hn
  have hn0 := (ln_pos b32_two).2 hb
  have htop := dgt_top b32_two hb
  obtain ⟨h1, h2, h3, _⟩ := lz_spec (x := dgt b32 b (ln b32 b - 1)) (by omega) (dgt32_lt ..)
  rw [← hs] at h1 h2 h3
  have hlt := lt_pow_ln b32_two b
  have hp : 0 < b32 ^ (ln b32 b - 1) := Nat.pow_pos (by decide)
  have hsplit : b = b32 ^ (ln b32 b - 1) * dgt b32 b (ln b32 b - 1) + b % b32 ^ (ln b32 b - 1) := by
    have h4 := Nat.div_add_mod b (b32 ^ (ln b32 b - 1))
    have h5 : b / b32 ^ (ln b32 b - 1) < b32 := by
      rw [Nat.div_lt_iff_lt_mul hp, ← Nat.pow_succ', show (ln b32 b - 1).succ = ln b32 b by omega]
      exact hlt
    rw [dgt, Nat.mod_eq_of_lt h5]
    exact h4.symm
  have hm := Nat.mod_lt b hp
  have e1 : b32 ^ ln b32 b = b32 ^ (ln b32 b - 1) * b32 := by rw [← Nat.pow_succ, show (ln b32 b - 1).succ = ln b32 b by omega]
  have hV : b * 2 ^ s = b32 ^ (ln b32 b - 1) * (dgt b32 b (ln b32 b - 1) * 2 ^ s) + b % b32 ^ (ln b32 b - 1) * 2 ^ s := by
    conv => lhs; rw [hsplit]
    rw [Nat.add_mul, Nat.mul_assoc]
  have hm2 : b % b32 ^ (ln b32 b - 1) * 2 ^ s < b32 ^ (ln b32 b - 1) * 2 ^ s := Nat.mul_lt_mul_of_pos_right hm (Nat.pow_pos (by decide))
  have hlow : dgt b32 b (ln b32 b - 1) * 2 ^ s + 2 ^ s ≤ 4294967296 := by
    have e2 := pow_n_dvd h1
    have e3 : dgt b32 b (ln b32 b - 1) < 2 ^ (32 - s) := by
      have : dgt b32 b (ln b32 b - 1) * 2 ^ s < 2 ^ (32 - s) * 2 ^ s := by rw [Nat.mul_comm (2 ^ (32 - s)), ← e2]; exact h3
      exact Nat.lt_of_mul_lt_mul_right this
    have e4 : (dgt b32 b (ln b32 b - 1) + 1) * 2 ^ s ≤ 2 ^ (32 - s) * 2 ^ s := Nat.mul_le_mul_right _ e3
    rw [Nat.mul_comm (2 ^ (32 - s)), ← e2, Nat.add_mul, Nat.one_mul] at e4
    exact e4
  have hlt2 : b * 2 ^ s < b32 ^ ln b32 b := by
    have h6 : b32 ^ (ln b32 b - 1) * (dgt b32 b (ln b32 b - 1) * 2 ^ s + 2 ^ s) ≤ b32 ^ (ln b32 b - 1) * b32 := Nat.mul_le_mul_left _ hlow
    rw [Nat.mul_add] at h6
    omega
  have hge : 2147483648 * b32 ^ (ln b32 b - 1) ≤ b * 2 ^ s := by
    have h7 : b32 ^ (ln b32 b - 1) * 2147483648 ≤ b32 ^ (ln b32 b - 1) * (dgt b32 b (ln b32 b - 1) * 2 ^ s) := Nat.mul_le_mul_left _ h2
    rw [Nat.mul_comm 2147483648]
    omega
  refine ⟨h1, hlt2, ?_, hge⟩
  have h8 : b * 2 ^ s / b32 ^ (ln b32 b - 1) < b32 := by rw [Nat.div_lt_iff_lt_mul hp, Nat.mul_comm b32, ← e1]; exact hlt2
  rw [dgt, Nat.mod_eq_of_lt h8, Nat.le_div_iff_mul_le hp]
  exact hge
/-- At the start the window's value is below the divisor. -/
theorem win_start {A2 V la n a s : Nat} (ha : a < b32 ^ la) (hA : A2 = a * 2 ^ s) (hs : s < 32) (hn : 0 < n) (hna : n ≤ la) (hV : 2147483648 * b32 ^ (n - 1) ≤ V) : A2 / b32 ^ (la - n + 1) < V := by
  have h1 : 2 ^ s ≤ 2147483648 := Nat.pow_le_pow_right (by decide) (show s ≤ 31 by omega)
  have h2 : A2 < b32 ^ la * 2 ^ s := by rw [hA]; exact Nat.mul_lt_mul_of_pos_right ha (Nat.pow_pos (by decide))
  have h3 : b32 ^ la * 2 ^ s ≤ b32 ^ la * 2147483648 := Nat.mul_le_mul_left _ h1
  rw [Nat.div_lt_iff_lt_mul (Nat.pow_pos (by decide))]
  have h4 : 2147483648 * b32 ^ (n - 1) * b32 ^ (la - n + 1) ≤ V * b32 ^ (la - n + 1) := Nat.mul_le_mul_right _ hV
  have h5 : 2147483648 * b32 ^ (n - 1) * b32 ^ (la - n + 1) = b32 ^ la * 2147483648 := by
    rw [Nat.mul_assoc, ← Nat.pow_add, show n - 1 + (la - n + 1) = la by omega, Nat.mul_comm]
  omega
theorem quo_len {a b la n : Nat} (ha : a < b32 ^ la) (hb : b32 ^ (n - 1) ≤ b) (hn : 0 < n) (hna : n ≤ la) : a / b < b32 ^ (la - n + 1) := by
  have hp : 0 < b32 ^ (n - 1) := Nat.pow_pos (by decide)
  rw [Nat.div_lt_iff_lt_mul (by omega)]
  have h1 : b32 ^ (la - n + 1) * b32 ^ (n - 1) ≤ b32 ^ (la - n + 1) * b := Nat.mul_le_mul_left _ hb
  rw [← Nat.pow_add, show la - n + 1 + (n - 1) = la by omega] at h1
  omega
/-- A digit of a number that is shifted to the right. -/
theorem unshift_digit {R s i : Nat} (hs : s < 32) : (dgt b32 R (i + 1) * 4294967296 + dgt b32 R i) / 2 ^ s % 4294967296 = dgt b32 (R / 2 ^ s) i := by
  have hq : 0 < 2 ^ s := Nat.pow_pos (by decide)
  have hp : 0 < b32 ^ i := Nat.pow_pos (by decide)
  have e1 : R / 2 ^ s / b32 ^ i = R / b32 ^ i / 2 ^ s := by rw [Nat.div_div_eq_div_mul, Nat.div_div_eq_div_mul, Nat.mul_comm]
  have e2 : R / b32 ^ i = b32 * (R / b32 ^ (i + 1)) + dgt b32 R i := by
    rw [dgt, Nat.pow_succ, ← Nat.div_div_eq_div_mul]
    exact (Nat.div_add_mod _ _).symm
  have e3 : R / b32 ^ (i + 1) = b32 * (R / b32 ^ (i + 2)) + dgt b32 R (i + 1) := by
    rw [dgt, Nat.pow_succ b32 (i + 1), ← Nat.div_div_eq_div_mul]
    exact (Nat.div_add_mod _ _).symm
  have e4 : R / b32 ^ i = 2 ^ s * (2 ^ (32 - s) * (b32 * (R / b32 ^ (i + 2)))) + (dgt b32 R (i + 1) * 4294967296 + dgt b32 R i) := by
    rw [e2, e3, Nat.mul_add, ← Nat.mul_assoc (2 ^ s), ← pow_n_dvd hs]
    have : b32 * dgt b32 R (i + 1) = dgt b32 R (i + 1) * 4294967296 := Nat.mul_comm ..
    omega
  rw [show dgt b32 (R / 2 ^ s) i = R / b32 ^ i / 2 ^ s % b32 by rw [dgt, e1], e4, Nat.mul_add_div hq, Nat.mul_left_comm (2 ^ (32 - s)) b32, Nat.mul_add_mod]
  rfl
end Go.Proofs.YtafglggjncnkkaaDoor
/-! Plain arithmetic behind simulate (the condition of Collins). -/
namespace Go.Proofs.YtafglggjncnkkaaDoor

/-- What the steps do to a and b: two numbers with the same greatest common divisor. -/
structure StepsOK (a b : Nat) (ev : Bool) (u0 u1 v0 v1 : Nat) : Prop where
  u0lt : u0 < 4294967296
  u1lt : u1 < 4294967296
  v0lt : v0 < 4294967296
  v1lt : v1 < 4294967296
  det : if ev then u0 * v1 = u1 * v0 + 1 else u1 * v0 = u0 * v1 + 1
  le0 : if ev then v0 * b ≤ u0 * a else u0 * a ≤ v0 * b
  le1 : if ev then u1 * a ≤ v1 * b else v1 * b ≤ u1 * a
  lt : if ev then v1 * b - u1 * a < u0 * a - v0 * b else u1 * a - v1 * b < v0 * b - u0 * a
  u1pos : 1 ≤ u1

/-- The state of the loop of simulate, about the leading bits al = a / K, be = b / K. -/
structure Sim (a b al be : Nat) (ev : Bool) (u0 u1 u2 v0 v1 v2 x1 x2 : Nat) : Prop where
  le : x2 ≤ x1
  sum : v2 * x1 + v1 * x2 = al
  e1 : if ev then x1 + u1 * al = v1 * be else x1 + v1 * be = u1 * al
  e2 : if ev then x2 + v2 * be = u2 * al else x2 + u2 * al = v2 * be
  det : if ev then u2 * v1 = u1 * v2 + 1 else u1 * v2 = u2 * v1 + 1
  c2 : u2 ≤ v2
  c12 : u1 + u2 ≤ v1 + v2
  v2pos : 1 ≤ v2
  pos : 1 ≤ u1 + u2
  nxt : v1 = 0 ∨ 1 ≤ u2
  u1lt : u1 < 4294967296
  v1lt : v1 < 4294967296
  u0lt : u0 < 4294967296
  v0lt : v0 < 4294967296
  out : v0 = 0 ∨ StepsOK a b ev u0 u1 v0 v1

theorem sim_start {a b al be : Nat} (hle : be ≤ al) : Sim a b al be false 0 1 0 0 0 1 al be :=
  ⟨hle, by omega, by simp, by simp, by simp, by omega, by omega, by omega, by omega, .inl rfl, by omega, by omega, by omega, by omega, .inl rfl⟩

/-- u * a - v * b, where x = u * al - v * be: between K * x - v * K and K * x + u * K. -/
theorem gap {K a b al be al' be' u v x : Nat} (ha : a = K * al + al') (hb : b = K * be + be') (hx : x + v * be = u * al) :
    K * x + v * b ≤ u * a + v * be' ∧ u * a + v * be' = K * x + v * b + u * al' := by
  subst ha hb
  have e : K * (x + v * be) = K * (u * al) := by rw [hx]
  rw [Nat.mul_add] at e
  have e1 : u * (K * al + al') = K * (u * al) + u * al' := by rw [Nat.mul_add, Nat.mul_left_comm]
  have e2 : v * (K * be + be') = K * (v * be) + v * be' := by rw [Nat.mul_add, Nat.mul_left_comm]
  omega

/-- One round of the loop. -/
theorem sim_step {K a b al be al' be' : Nat} (ha : a = K * al + al') (hb : b = K * be + be') (ha' : al' < K) (hb' : be' < K) (hal : al < 18446744073709551616)
    {ev : Bool} {u0 u1 u2 v0 v1 v2 x1 x2 : Nat} (h : Sim a b al be ev u0 u1 u2 v0 v1 v2 x1 x2) (t1 : v2 ≤ x2) (t2 : v1 + v2 ≤ x1 - x2) :
    Sim a b al be (!ev) u1 u2 (u1 + x1 / x2 * u2) v1 v2 (v1 + x1 / x2 * v2) x2 (x1 % x2) := by
  obtain ⟨hle, hsum, he1, he2, hdet, hc2, hc12, hv2, hpos, hnxt, hu1, hv1, hu0, hv0, hout⟩ := h
  have hx2 : 0 < x2 := by omega
  have hq : 1 ≤ x1 / x2 := (Nat.le_div_iff_mul_le hx2).2 (by omega)
  have hdm := Nat.div_add_mod x1 x2
  have hmod := Nat.mod_lt x1 hx2
  have hv2lt : v2 < 4294967296 := by
    rcases Nat.lt_or_ge v2 4294967296 with g | g
    · exact g
    · have h1 : 4294967296 * 4294967296 ≤ v2 * x1 := Nat.mul_le_mul g (by omega)
      omega
  generalize x1 / x2 = q at *
  generalize x1 % x2 = r at *
  have m1 : (v1 + q * v2) * x2 = v1 * x2 + v2 * (x2 * q) := by rw [Nat.add_mul, Nat.mul_comm q, Nat.mul_assoc, Nat.mul_comm q]
  have m2 : v2 * x1 = v2 * (x2 * q) + v2 * r := by rw [← Nat.mul_add, hdm]
  have hq2 : u2 ≤ q * u2 := Nat.le_mul_of_pos_left _ hq
  have hqv : v2 ≤ q * v2 := Nat.le_mul_of_pos_left _ hq
  have hc : q * u2 + v2 ≤ q * v2 + u2 := by
    obtain ⟨p, rfl⟩ : ∃ p, q = p + 1 := ⟨q - 1, by omega⟩
    have := Nat.mul_le_mul_left p hc2
    rw [Nat.succ_mul, Nat.succ_mul]; omega
  refine ⟨by omega, by omega, ?_, ?_, ?_, by omega, by omega, by omega, by omega, .inr (by omega), by omega, hv2lt, hu1, hv1, ?_⟩
  · cases ev
    · simpa using he2
    · simpa using he2
  · have k1 : (u1 + q * u2) * al = u1 * al + q * (u2 * al) := by rw [Nat.add_mul, Nat.mul_assoc]
    have k2 : (v1 + q * v2) * be = v1 * be + q * (v2 * be) := by rw [Nat.add_mul, Nat.mul_assoc]
    have k3 : x2 * q = q * x2 := Nat.mul_comm _ _
    cases ev
    · simp only [Bool.false_eq_true, if_false] at he1 he2
      simp only [Bool.not_false, if_true]
      rw [k1, k2, ← he2, Nat.mul_add]; omega
    · simp only [if_true] at he1 he2
      simp only [Bool.not_true, Bool.false_eq_true, if_false]
      rw [k1, k2, ← he2, Nat.mul_add]; omega
  · have k1 : (u1 + q * u2) * v2 = u1 * v2 + q * (u2 * v2) := by rw [Nat.add_mul, Nat.mul_assoc]
    have k2 : u2 * (v1 + q * v2) = u2 * v1 + q * (u2 * v2) := by rw [Nat.mul_add, Nat.mul_left_comm]
    cases ev
    · simp only [Bool.false_eq_true, if_false] at hdet
      simp only [Bool.not_false, if_true]
      omega
    · simp only [if_true] at hdet
      simp only [Bool.not_true, Bool.false_eq_true, if_false]
      omega
  · rcases Nat.eq_zero_or_pos v1 with h0 | h0
    · exact .inl h0
    · refine .inr ⟨hu1, by omega, hv1, hv2lt, ?_, ?_, ?_, ?_, by omega⟩
      · cases ev
        · simpa using hdet
        · simpa using hdet
      all_goals
        have y1 : K * x1 = K * x2 + K * (x1 - x2) := by rw [← Nat.mul_add]; congr 1; omega
        have y2 : K * v2 ≤ K * x2 := Nat.mul_le_mul_left _ t1
        have y3 : K * (v1 + v2) ≤ K * (x1 - x2) := Nat.mul_le_mul_left _ t2
        have y4 : K * (u1 + u2) ≤ K * (v1 + v2) := Nat.mul_le_mul_left _ hc12
        have y5 : K * u2 ≤ K * v2 := Nat.mul_le_mul_left _ hc2
        rw [Nat.mul_add] at y3
        rw [Nat.mul_add, Nat.mul_add] at y4
        have z1 : v1 * be' ≤ K * v1 := by rw [Nat.mul_comm K]; exact Nat.mul_le_mul_left _ (Nat.le_of_lt hb')
        have z2 : v2 * be' < K * v2 := by rw [Nat.mul_comm K]; exact Nat.mul_lt_mul_of_pos_left hb' hv2
        have z3 : u1 * al' ≤ K * u1 := by rw [Nat.mul_comm K]; exact Nat.mul_le_mul_left _ (Nat.le_of_lt ha')
        have z4 : u2 * al' ≤ K * u2 := by rw [Nat.mul_comm K]; exact Nat.mul_le_mul_left _ (Nat.le_of_lt ha')
        have z5 : u1 * al' + u2 * al' < K * (u1 + u2) := by rw [← Nat.add_mul, Nat.mul_comm K]; exact Nat.mul_lt_mul_of_pos_left ha' hpos
        rw [Nat.mul_add] at z5
        cases ev
        · simp only [Bool.false_eq_true, if_false] at he1 he2
          have g1 := gap ha hb he1
          have g2 := gap hb ha he2
          simp only [Bool.not_false, if_true]
          omega
        · simp only [if_true] at he1 he2
          have g1 := gap hb ha he1
          have g2 := gap ha hb he2
          simp only [Bool.not_true, Bool.false_eq_true, if_false]
          omega

/-- No overflow in the loop. -/
theorem sim_fits {a b al be : Nat} {ev : Bool} {u0 u1 u2 v0 v1 v2 x1 x2 : Nat} (h : Sim a b al be ev u0 u1 u2 v0 v1 v2 x1 x2) (hal : al < 18446744073709551616) (h2 : 1 ≤ x2) :
    v1 + v2 < 18446744073709551616 ∧ v1 + x1 / x2 * v2 < 18446744073709551616 ∧ u1 + x1 / x2 * u2 < 18446744073709551616 := by
  obtain ⟨hle, hsum, he1, he2, hdet, hc2, hc12, hv2, hpos, hnxt, hu1, hv1, hu0, hv0, hout⟩ := h
  have hq : 1 ≤ x1 / x2 := (Nat.le_div_iff_mul_le h2).2 (by omega)
  have hdm := Nat.div_add_mod x1 x2
  generalize x1 / x2 = q at *
  generalize x1 % x2 = r at *
  have m1 : (v1 + q * v2) * x2 = v1 * x2 + v2 * (x2 * q) := by rw [Nat.add_mul, Nat.mul_comm q, Nat.mul_assoc, Nat.mul_comm q]
  have m2 : v2 * x1 = v2 * (x2 * q) + v2 * r := by rw [← Nat.mul_add, hdm]
  have m3 : v1 + q * v2 ≤ (v1 + q * v2) * x2 := Nat.le_mul_of_pos_right _ h2
  have hqv : v2 ≤ q * v2 := Nat.le_mul_of_pos_left _ hq
  have hc : q * u2 + v2 ≤ q * v2 + u2 := by
    obtain ⟨p, rfl⟩ : ∃ p, q = p + 1 := ⟨q - 1, by omega⟩
    have := Nat.mul_le_mul_left p hc2
    rw [Nat.succ_mul, Nat.succ_mul]; omega
  omega

/-- What the steps leave is smaller, and has the same greatest common divisor. -/
theorem steps_even {a b u0 u1 v0 v1 : Nat} (h : StepsOK a b true u0 u1 v0 v1) : Nat.gcd (u0 * a - v0 * b) (v1 * b - u1 * a) = Nat.gcd a b ∧ v1 * b - u1 * a < b ∧ v1 * b - u1 * a < u0 * a - v0 * b ∧ u0 * a - v0 * b ≤ b := by
  obtain ⟨_, _, _, _, hd, h1, h2, h3, h4⟩ := h
  simp only [if_true] at hd h1 h2 h3
  obtain ⟨A, hA⟩ : ∃ A, A = u0 * a - v0 * b := ⟨_, rfl⟩
  obtain ⟨B, hB⟩ : ∃ B, B = v1 * b - u1 * a := ⟨_, rfl⟩
  have eA : u0 * a = A + v0 * b := by omega
  have eB : v1 * b = B + u1 * a := by omega
  have d1 : v1 * (u0 * a) = v1 * A + v1 * (v0 * b) := by rw [eA, Nat.mul_add]
  have d2 : v0 * (v1 * b) = v0 * B + v0 * (u1 * a) := by rw [eB, Nat.mul_add]
  have d3 : v1 * (u0 * a) = (u1 * v0 + 1) * a := by rw [← hd, ← Nat.mul_assoc, Nat.mul_comm v1]
  have d4 : v0 * (u1 * a) = u1 * v0 * a := by rw [← Nat.mul_assoc, Nat.mul_comm v0]
  have d5 : v1 * (v0 * b) = v0 * (v1 * b) := Nat.mul_left_comm ..
  rw [Nat.add_mul, Nat.one_mul] at d3
  have ea : a = v1 * A + v0 * B := by omega
  have f1 : u1 * (u0 * a) = u1 * A + u1 * (v0 * b) := by rw [eA, Nat.mul_add]
  have f2 : u0 * (v1 * b) = u0 * B + u0 * (u1 * a) := by rw [eB, Nat.mul_add]
  have f3 : u0 * (v1 * b) = (u1 * v0 + 1) * b := by rw [← hd, ← Nat.mul_assoc]
  have f4 : u1 * (v0 * b) = u1 * v0 * b := by rw [← Nat.mul_assoc]
  have f5 : u0 * (u1 * a) = u1 * (u0 * a) := Nat.mul_left_comm ..
  rw [Nat.add_mul, Nat.one_mul] at f3
  have eb : b = u1 * A + u0 * B := by omega
  have hA1 : A ≤ u1 * A := Nat.le_mul_of_pos_left _ h4
  rw [← hA, ← hB]
  refine ⟨Nat.dvd_antisymm (Nat.dvd_gcd ?_ ?_) (Nat.dvd_gcd ?_ ?_), by omega, by omega, by omega⟩
  · rw [ea]; exact Nat.dvd_add (Nat.dvd_mul_left_of_dvd (Nat.gcd_dvd_left _ _) _) (Nat.dvd_mul_left_of_dvd (Nat.gcd_dvd_right _ _) _)
  · rw [eb]; exact Nat.dvd_add (Nat.dvd_mul_left_of_dvd (Nat.gcd_dvd_left _ _) _) (Nat.dvd_mul_left_of_dvd (Nat.gcd_dvd_right _ _) _)
  · rw [hA]; exact Nat.dvd_sub (Nat.dvd_mul_left_of_dvd (Nat.gcd_dvd_left _ _) _) (Nat.dvd_mul_left_of_dvd (Nat.gcd_dvd_right _ _) _)
  · rw [hB]; exact Nat.dvd_sub (Nat.dvd_mul_left_of_dvd (Nat.gcd_dvd_right _ _) _) (Nat.dvd_mul_left_of_dvd (Nat.gcd_dvd_left _ _) _)
theorem steps_odd {a b u0 u1 v0 v1 : Nat} (h : StepsOK a b false u0 u1 v0 v1) : Nat.gcd (v0 * b - u0 * a) (u1 * a - v1 * b) = Nat.gcd a b ∧ u1 * a - v1 * b < b ∧ u1 * a - v1 * b < v0 * b - u0 * a ∧ v0 * b - u0 * a ≤ b := by
  obtain ⟨_, _, _, _, hd, h1, h2, h3, h4⟩ := h
  simp only [Bool.false_eq_true, if_false] at hd h1 h2 h3
  obtain ⟨A, hA⟩ : ∃ A, A = v0 * b - u0 * a := ⟨_, rfl⟩
  obtain ⟨B, hB⟩ : ∃ B, B = u1 * a - v1 * b := ⟨_, rfl⟩
  have eA : v0 * b = A + u0 * a := by omega
  have eB : u1 * a = B + v1 * b := by omega
  have d1 : v1 * (v0 * b) = v1 * A + v1 * (u0 * a) := by rw [eA, Nat.mul_add]
  have d2 : v0 * (u1 * a) = v0 * B + v0 * (v1 * b) := by rw [eB, Nat.mul_add]
  have d3 : v0 * (u1 * a) = (u0 * v1 + 1) * a := by rw [← hd, ← Nat.mul_assoc, Nat.mul_comm v0]
  have d4 : v1 * (u0 * a) = u0 * v1 * a := by rw [← Nat.mul_assoc, Nat.mul_comm v1]
  have d5 : v1 * (v0 * b) = v0 * (v1 * b) := Nat.mul_left_comm ..
  rw [Nat.add_mul, Nat.one_mul] at d3
  have ea : a = v1 * A + v0 * B := by omega
  have f1 : u1 * (v0 * b) = u1 * A + u1 * (u0 * a) := by rw [eA, Nat.mul_add]
  have f2 : u0 * (u1 * a) = u0 * B + u0 * (v1 * b) := by rw [eB, Nat.mul_add]
  have f3 : u1 * (v0 * b) = (u0 * v1 + 1) * b := by rw [← hd, ← Nat.mul_assoc]
  have f4 : u0 * (v1 * b) = u0 * v1 * b := by rw [← Nat.mul_assoc]
  have f5 : u0 * (u1 * a) = u1 * (u0 * a) := Nat.mul_left_comm ..
  rw [Nat.add_mul, Nat.one_mul] at f3
  have eb : b = u1 * A + u0 * B := by omega
  have hA1 : A ≤ u1 * A := Nat.le_mul_of_pos_left _ h4
  rw [← hA, ← hB]
  refine ⟨Nat.dvd_antisymm (Nat.dvd_gcd ?_ ?_) (Nat.dvd_gcd ?_ ?_), by omega, by omega, by omega⟩
  · rw [ea]; exact Nat.dvd_add (Nat.dvd_mul_left_of_dvd (Nat.gcd_dvd_left _ _) _) (Nat.dvd_mul_left_of_dvd (Nat.gcd_dvd_right _ _) _)
  · rw [eb]; exact Nat.dvd_add (Nat.dvd_mul_left_of_dvd (Nat.gcd_dvd_left _ _) _) (Nat.dvd_mul_left_of_dvd (Nat.gcd_dvd_right _ _) _)
  · rw [hA]; exact Nat.dvd_sub (Nat.dvd_mul_left_of_dvd (Nat.gcd_dvd_right _ _) _) (Nat.dvd_mul_left_of_dvd (Nat.gcd_dvd_left _ _) _)
  · rw [hB]; exact Nat.dvd_sub (Nat.dvd_mul_left_of_dvd (Nat.gcd_dvd_left _ _) _) (Nat.dvd_mul_left_of_dvd (Nat.gcd_dvd_right _ _) _)
end Go.Proofs.YtafglggjncnkkaaDoor
