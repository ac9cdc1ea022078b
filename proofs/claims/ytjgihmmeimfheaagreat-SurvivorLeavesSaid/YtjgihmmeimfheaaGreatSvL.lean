/-
  The lengths of the fractions that survivor reckons with.
-/
import Derived.Test.YtjgihmmeimfheaaGreatSvV
namespace Go.Proofs.YtjgihmmeimfheaaGreat

def DW (w : Nat → Rat) : Nat → Nat
 | 0 => 1
 | k + 1 => DW w k * (w k).den
theorem DW_pos (w : Nat → Rat) : ∀ n, 0 < DW w n
 | 0 => Nat.one_pos
 | n + 1 => Nat.mul_pos (DW_pos w n) (w n).den_pos
theorem DW_dv (w : Nat → Rat) : ∀ (n k : Nat), k < n → Dv (w k) (DW w n)
 | n + 1, k, h => by
  by_cases e : k = n
  · subst e; exact (Dv.self _).more (Nat.dvd_mul_left _ _)
  · exact (DW_dv w n k (by omega)).more (Nat.dvd_mul_right _ _)
theorem den_lt {q : Rat} {k : Nat} (h : fl q ≤ k) : q.den < b16 ^ k := (ln_le b16_two).1 (fl_le.1 h).2
theorem num_lt {q : Rat} {k : Nat} (h : fl q ≤ k) : q.num.natAbs < b16 ^ k := (ln_le b16_two).1 (fl_le.1 h).1
theorem DW_le {w : Nat → Rat} : ∀ {n : Nat}, (∀ k, k < n → fl (w k) ≤ 4) → DW w n ≤ b16 ^ (4 * n)
 | 0, _ => by simp [DW]
 | n + 1, h => by
  have h1 := DW_le (n := n) (fun k hk => h k (by omega))
  have h2 := Nat.le_of_lt (den_lt (h n (by omega)))
  have h3 := Nat.mul_le_mul h1 h2
  rw [← Nat.pow_add] at h3
  exact h3
theorem q_le {q : Rat} {k : Nat} (h0 : 0 ≤ q) (h : fl q ≤ k) : q ≤ ((b16 ^ k : Nat) : Rat) := by
 have h1 := num_lt h
 have h2 : 0 ≤ q.num := Rat.num_nonneg.2 h0
 rw [Rat.le_iff, Rat.num_natCast, Rat.den_natCast]
 have h3 : (q.num : Int) ≤ ((b16 ^ k : Nat) : Int) := by omega
 have h4 := Int.mul_le_mul_of_nonneg_left (show (1 : Int) ≤ (q.den : Int) by have := q.den_pos; omega) (show (0 : Int) ≤ ((b16 ^ k : Nat) : Int) by omega)
 rw [Int.mul_one] at h4
 rw [Int.natCast_one, Int.mul_one]
 exact Int.le_trans h3 h4
theorem fl_int3 {z : Int} (h1 : -281474976710655 ≤ z) (h2 : z ≤ 281474976710655) : fl ((z : Int) : Rat) ≤ 3 := by
 rw [fl_le, Rat.num_intCast, Rat.den_intCast]
 exact ⟨(ln_le b16_two).2 (show z.natAbs < 281474976710656 by omega), (ln_le b16_two).2 (by decide)⟩
section
variable {w : Nat → Rat} {K : Nat → Int} {n : Nat}
theorem SW_dv {l : List Nat} (hl : ∀ k, k ∈ l → k < n) : Dv (SW (prs w K l)) (DW w n) := by
 induction l with
 | nil => exact (Dv.int 0).more (Nat.one_dvd _)
 | cons x r ih => exact (DW_dv w n x (hl x (List.mem_cons_self ..))).add (ih (fun k hk => hl k (List.mem_cons_of_mem _ hk)))
theorem SW_b {l : List Nat} {M : Rat} (h : ∀ k, k ∈ l → 0 ≤ w k ∧ w k ≤ M) : 0 ≤ SW (prs w K l) ∧ SW (prs w K l) ≤ (l.length : Rat) * M := by
 induction l with
 | nil => exact ⟨Rat.le_refl, by show (0 : Rat) ≤ ((0 : Nat) : Rat) * M; grind⟩
 | cons x r ih =>
  have h1 := ih (fun k hk => h k (List.mem_cons_of_mem _ hk))
  have h2 := h x (List.mem_cons_self ..)
  have e : (((x :: r).length : Nat) : Rat) = (r.length : Rat) + 1 := by rw [List.length_cons]; norm_cast
  rw [e]
  show 0 ≤ w x + SW (prs w K r) ∧ w x + SW (prs w K r) ≤ _
  grind
theorem fl_sw {l : List Nat} (hn : n ≤ 10) (hw : ∀ k, k < n → 0 ≤ w k ∧ fl (w k) ≤ 4) (hl : ∀ k, k ∈ l → k < n) (hll : l.length ≤ 10) : fl (SW (prs w K l)) ≤ 45 := by
 obtain ⟨h1, h2⟩ := SW_b (K := K) (l := l) (M := ((b16 ^ 4 : Nat) : Rat)) (fun k hk => ⟨(hw k (hl k hk)).1, q_le (hw k (hl k hk)).1 (hw k (hl k hk)).2⟩)
 have hD := DW_le (n := n) (fun k hk => (hw k hk).2)
 have hp : (0 : Rat) ≤ ((b16 ^ 4 : Nat) : Rat) := Rat.natCast_nonneg
 have h3 : ((l.length : Nat) : Rat) ≤ ((10 : Nat) : Rat) := by exact_mod_cast hll
 have h4 := Rat.mul_le_mul_of_nonneg_right h3 hp
 have e : (((10 * b16 ^ 4 : Nat)) : Rat) = ((10 : Nat) : Rat) * ((b16 ^ 4 : Nat) : Rat) := Rat.natCast_mul _ _
 have hz : (0 : Rat) ≤ ((10 * b16 ^ 4 : Nat) : Rat) := Rat.natCast_nonneg
 refine fl_bound (D := DW w n) (M := 10 * b16 ^ 4) (DW_pos w n) (SW_dv hl) (by grind) (by rw [e]; grind) (by decide) ?_
 refine (ln_le b16_two).2 (Nat.lt_of_le_of_lt (Nat.mul_le_mul_left _ (Nat.le_trans hD (Nat.pow_le_pow_right (by decide) (show 4 * n ≤ 40 by omega)))) ?_)
 decide
theorem part_dv (t x : Rat) (D E : Nat) (ht : Dv t D) (hx : Dv x E) (z : Int) : Dv (part t (x, ((z : Int) : Rat))) (D * E) := by
 unfold part mn
 split
 · exact ht.mul hx
 · exact (Dv.int z).more (Nat.one_dvd _)
theorem part_b {t x : Rat} {z : Int} (ht : 0 ≤ t) (hx : 0 ≤ x) (hz : 0 ≤ z) : 0 ≤ part t (x, ((z : Int) : Rat)) ∧ part t (x, ((z : Int) : Rat)) ≤ ((z : Int) : Rat) := by
 have h1 := Rat.mul_nonneg ht hx
 have h2 := int_nonneg hz
 refine ⟨?_, mn_r _ _⟩
 unfold part mn
 split
 · exact h1
 · exact h2
theorem su_dv {g : Nat → Rat} {D : Nat} : ∀ {i : Nat}, (∀ k, k < i → Dv (g k) D) → Dv (su g i) D
 | 0, _ => (Dv.int 0).more (Nat.one_dvd _)
 | i + 1, h => (su_dv (i := i) (fun k hk => h k (by omega))).add (h i (by omega))
theorem su_b {g : Nat → Rat} {M : Rat} : ∀ {i : Nat}, (∀ k, k < i → 0 ≤ g k ∧ g k ≤ M) → 0 ≤ su g i ∧ su g i ≤ (i : Rat) * M
 | 0, _ => ⟨Rat.le_refl, by show (0 : Rat) ≤ ((0 : Nat) : Rat) * M; grind⟩
 | i + 1, h => by
  obtain ⟨h1, h2⟩ := su_b (i := i) (fun k hk => h k (by omega))
  obtain ⟨h3, h4⟩ := h i (by omega)
  have e : ((i + 1 : Nat) : Rat) = (i : Rat) + 1 := by norm_cast
  rw [e]
  show 0 ≤ su g i + g i ∧ su g i + g i ≤ _
  grind
/-- The sum of exact parts at a level. -/
theorem fl_sumat {t : Rat} (h0 : 0 ≤ t) (ht : fl t ≤ 50) (hn : n ≤ 10) (hw : ∀ k, k < n → 0 ≤ w k ∧ fl (w k) ≤ 4) (hK : ∀ k, k < n → 0 ≤ K k ∧ K k ≤ 1099511627776) {i : Nat} (hi : i ≤ n) : fl (su (fun k => part t (w k, ((K k : Int) : Rat))) i) ≤ 94 := by
 have hD := DW_le (n := n) (fun k hk => (hw k hk).2)
 have hpos : 0 < t.den * DW w n := Nat.mul_pos t.den_pos (DW_pos w n)
 obtain ⟨h1, h2⟩ := su_b (g := fun k => part t (w k, ((K k : Int) : Rat))) (i := i) (M := ((1099511627776 : Nat) : Rat)) (fun k hk => by
  have hb := part_b h0 (hw k (by omega)).1 (hK k (by omega)).1
  have h3 : ((K k : Int) : Rat) ≤ ((1099511627776 : Int) : Rat) := Rat.intCast_le_intCast.2 (hK k (by omega)).2
  have e : ((1099511627776 : Int) : Rat) = ((1099511627776 : Nat) : Rat) := rfl
  rw [e] at h3
  exact ⟨hb.1, by grind⟩)
 have hp : (0 : Rat) ≤ ((1099511627776 : Nat) : Rat) := Rat.natCast_nonneg
 have h3 : ((i : Nat) : Rat) ≤ ((10 : Nat) : Rat) := by exact_mod_cast (show i ≤ 10 by omega)
 have h4 := Rat.mul_le_mul_of_nonneg_right h3 hp
 have e : (((10 * 1099511627776 : Nat)) : Rat) = ((10 : Nat) : Rat) * ((1099511627776 : Nat) : Rat) := Rat.natCast_mul _ _
 have hz : (0 : Rat) ≤ ((10 * 1099511627776 : Nat) : Rat) := Rat.natCast_nonneg
 refine fl_bound (D := t.den * DW w n) (M := 10 * 1099511627776) hpos (su_dv fun k hk => part_dv _ _ _ _ (Dv.self t) (DW_dv w n k (by omega)) _) (by grind) (by rw [e]; grind) (by decide) ?_
 refine (ln_le b16_two).2 (Nat.lt_of_le_of_lt (Nat.mul_le_mul_left _ (Nat.mul_le_mul (Nat.le_of_lt (den_lt ht)) (Nat.le_trans hD (Nat.pow_le_pow_right (by decide) (show 4 * n ≤ 40 by omega))))) ?_)
 rw [← Nat.pow_add]
 decide
end
end Go.Proofs.YtjgihmmeimfheaaGreat
