/-
  Floors and ceilings of fractions, in plain words.
-/
import Derived.Test.YtifikcemcflgjaaGreatK10
import Derived.Test.YtifikcemcflgjaaGreatGI
namespace Go.Proofs.YtifikcemcflgjaaGreat
open Go.RowKit

def floorQ (a : Rat) : Int := a.num.fdiv (a.den : Int)
theorem floorQ_mul (a : Rat) : floorQ a * (a.den : Int) ≤ a.num ∧ a.num < (floorQ a + 1) * (a.den : Int) ∧ (a.num.fmod (a.den : Int) = 0 ↔ floorQ a * (a.den : Int) = a.num) := by
  have hp := den_posZ a
  have h1 := Int.fmod_nonneg_of_pos a.num hp
  have h2 := Int.fmod_lt_of_pos a.num hp
  have h3 := Int.fmod_add_mul_fdiv a.num (a.den : Int)
  unfold floorQ
  have h4 : a.num.fdiv (a.den : Int) * (a.den : Int) = (a.den : Int) * a.num.fdiv (a.den : Int) := Int.mul_comm _ _
  have h5 : (a.num.fdiv (a.den : Int) + 1) * (a.den : Int) = a.num.fdiv (a.den : Int) * (a.den : Int) + (a.den : Int) := by rw [Int.add_mul, Int.one_mul]
  omega
theorem int_num (z : Int) : ((z : Int) : Rat).num = z ∧ ((z : Int) : Rat).den = 1 := ⟨Rat.num_intCast z, Rat.den_intCast z⟩
theorem z_le {z : Int} {a : Rat} : ((z : Int) : Rat) ≤ a ↔ z * (a.den : Int) ≤ a.num := by
  rw [Rat.le_iff, (int_num z).1, (int_num z).2]; simp
theorem lt_z {z : Int} {a : Rat} : a < ((z : Int) : Rat) ↔ a.num < z * (a.den : Int) := by
  rw [Rat.lt_iff, (int_num z).1, (int_num z).2]; simp
theorem z_eq {z : Int} {a : Rat} : ((z : Int) : Rat) = a ↔ z * (a.den : Int) = a.num := by
  rw [Rat.eq_iff_mul_eq_mul, (int_num z).1, (int_num z).2]; simp
theorem floorQ_le (a : Rat) : ((floorQ a : Int) : Rat) ≤ a := z_le.2 (floorQ_mul a).1
theorem floorQ_lt (a : Rat) : a < ((floorQ a + 1 : Int) : Rat) := lt_z.2 (floorQ_mul a).2.1
theorem floorQ_int {a : Rat} : (a.den : Int) = 1 ↔ ((floorQ a : Int) : Rat) = a := by
  constructor
  · intro h
    rw [z_eq]
    have := floorQ_mul a
    rw [h] at this ⊢
    omega
  · intro h
    have := (int_num (floorQ a)).2
    rw [h] at this
    omega
theorem ceilQ_val (a : Rat) : ceilQ a = if (a.den : Int) = 1 then floorQ a else floorQ a + 1 := by
  unfold ceilQ
  have h := (floorQ_mul a).2.2
  rw [← z_eq, ← floorQ_int] at h
  by_cases h1 : (a.den : Int) = 1
  · rw [if_pos (h.2 h1), if_pos h1]; rfl
  · rw [if_neg (fun x => h1 (h.1 x)), if_neg h1]; rfl
theorem floorQ_uniq {a : Rat} {z : Int} (h1 : ((z : Int) : Rat) ≤ a) (h2 : a < ((z + 1 : Int) : Rat)) : floorQ a = z := by
  have h3 := floorQ_le a
  have h4 := floorQ_lt a
  have h5 : ((z : Int) : Rat) < ((floorQ a + 1 : Int) : Rat) := by grind
  have h6 : ((floorQ a : Int) : Rat) < ((z + 1 : Int) : Rat) := by grind
  rw [Rat.intCast_lt_intCast] at h5 h6
  omega
theorem ceil_floor (a : Rat) : ceilQ a + floorQ (-a) = 0 := by
  rw [ceilQ_val]
  have h1 := floorQ_le a
  have h2 := floorQ_lt a
  have h3 := floorQ_int (a := a)
  by_cases h : (a.den : Int) = 1
  · rw [if_pos h]
    have e := h3.1 h
    rw [floorQ_uniq (a := -a) (z := -floorQ a)]
    · omega
    · rw [Rat.intCast_neg, e]; grind
    · rw [Rat.intCast_add, Rat.intCast_neg, e]; grind
  · rw [if_neg h]
    have hne : ¬ ((floorQ a : Int) : Rat) = a := fun x => h (h3.2 x)
    rw [floorQ_uniq (a := -a) (z := -(floorQ a + 1))]
    · omega
    · rw [Rat.intCast_neg]; grind
    · rw [show (-(floorQ a + 1) + 1 : Int) = -floorQ a by omega, Rat.intCast_neg]; grind
end Go.Proofs.YtifikcemcflgjaaGreat
