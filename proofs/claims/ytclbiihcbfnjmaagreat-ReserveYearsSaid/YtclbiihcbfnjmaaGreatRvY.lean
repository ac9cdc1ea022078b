/-
  Lengths of what a year does to a reserve.
-/
import Derived.Test.YtclbiihcbfnjmaaGreatK18
namespace Go.Proofs.YtclbiihcbfnjmaaGreat

theorem Pm.sz {B q : Nat} {L : Nat → Rat} (h : Pm B q L) (k : Nat) : Sz q B (L k) := ⟨(h k).2.2, (h k).1, (h k).2.1⟩
theorem year_len {v i : Rat} {f L K a : Nat → Rat} {N B A q : Nat} (hv : Dis v) (hf : Rts f N) (hL : Pm B q L) (hK : Pm A 1 K) (ha : Pm A 1 a) (hN : Cnt v f N) (hi : v * (1 + i) = 1) (h16 : N ≤ 16) (hq0 : 0 < q) (hq : q ≤ b16 ^ 4) (hB : B ≤ b16 ^ 5) (hA : A ≤ b16 ^ 5) {t : Nat} (ht : t < N) :
  fl (va v f N L K t - a t) ≤ 256 ∧ fl (va v f N L K t - L t) ≤ 256 ∧ fl (f t) ≤ 256 ∧ fl (f t * K t) ≤ 256 ∧ fl (1 - f t) ≤ 256 ∧ fl ((1 - f t) * va v f N L K (t + 1)) ≤ 256 ∧ fl (f t * K t + (1 - f t) * va v f N L K (t + 1)) ≤ 256 := by
 have V := va_sz hv hf hL hK hN hi (Nat.le_refl N)
 have hN0 : 0 < N := by omega
 obtain ⟨D, hD⟩ : ∃ D, D = q * (v.den ^ N * sp f N 0) := ⟨_, rfl⟩
 rw [← hD] at V
 have hD0 : 0 < D := by rw [hD]; exact Nat.mul_pos hq0 (Nat.mul_pos (Nat.pow_pos v.den_pos) (sp_pos f N 0))
 have hqD : q ∣ D := by rw [hD]; exact Nat.dvd_mul_right _ _
 have hDl : D ≤ b16 ^ 52 := by
  have h1 : v.den ^ N ≤ b16 ^ (2 * N) := by
   rw [Nat.pow_mul]
   exact Nat.pow_le_pow_left hv.2.2 N
  have h2 := sp_le hf 0 (Nat.zero_le N)
  rw [Nat.sub_zero] at h2
  have h3 : D ≤ b16 ^ (4 + (2 * N + N)) := by
   rw [hD, Nat.pow_add, Nat.pow_add]
   exact Nat.mul_le_mul hq (Nat.mul_le_mul h1 h2)
  exact Nat.le_trans h3 (Nat.pow_le_pow_right (by decide) (by omega))
 have hM : N * (B + A) ≤ b16 ^ 6 := by
  have h1 : N * (B + A) ≤ 16 * (b16 ^ 5 + b16 ^ 5) := Nat.mul_le_mul h16 (Nat.add_le_add hB hA)
  exact Nat.le_trans h1 (by decide)
 obtain ⟨f1, f2, f3⟩ := hf t ht
 have sV : ∀ k, Sz D (b16 ^ 6) (va v f N L K k) := fun k => (V k).more (Nat.dvd_refl _) hM
 have sa : Sz D (b16 ^ 5) (a t) := (ha.sz t).more (Nat.one_dvd _) hA
 have sL : Sz D (b16 ^ 5) (L t) := (hL.sz t).more hqD hB
 have sK : Sz 1 (b16 ^ 5) (K t) := (hK.sz t).more (Nat.dvd_refl _) hA
 have sf : Sz (f t).den 1 (f t) := ⟨Dv.self _, by simp; grind, by simpa using f2⟩
 have sg : Sz (f t).den 1 (1 - f t) := ⟨((Dv.int 1).more (Nat.one_dvd _)).sub (Dv.self _), by simp; grind, by simp; grind⟩
 have fd : 0 < (f t).den := (f t).den_pos
 have hfD : (f t).den * D ≤ b16 ^ 53 := by
  have := Nat.mul_le_mul (Nat.le_of_lt f3) hDl
  have e : b16 ^ 53 = b16 * b16 ^ 52 := by rw [show 53 = 52 + 1 from rfl, Nat.pow_succ, Nat.mul_comm]
  rw [e]; exact this
 have s1 := (sV t).sub sa
 have s2 := (sV t).sub sL
 have s3 := sf.mul sK
 have s4 := sg.mul (sV (t + 1))
 have s5 := (s3.more (E := (f t).den * D) (K := 1 * b16 ^ 5) (by rw [Nat.mul_one]; exact Nat.dvd_mul_right _ _) (Nat.le_refl _)).add s4
 have h53 : (f t).den ≤ b16 ^ 53 := Nat.le_trans (Nat.le_of_lt f3) (by decide)
 refine ⟨Nat.le_trans (s1.fl hD0 (by decide) (show _ ≤ b16 ^ 7 by decide) hDl) (by decide), Nat.le_trans (s2.fl hD0 (by decide) (show _ ≤ b16 ^ 7 by decide) hDl) (by decide), Nat.le_trans (sf.fl (k := 1) fd (by decide) (by decide) h53) (by decide), Nat.le_trans (s3.fl (k := 6) (by rw [Nat.mul_one]; exact fd) (by decide) (by decide) (by rw [Nat.mul_one]; exact h53)) (by decide), Nat.le_trans (sg.fl (k := 1) fd (by decide) (by decide) h53) (by decide), Nat.le_trans (s4.fl (k := 7) (Nat.mul_pos fd hD0) (by decide) (by decide) hfD) (by decide), Nat.le_trans (s5.fl (k := 7) (Nat.mul_pos fd hD0) (by decide) (by decide) hfD) (by decide)⟩
end Go.Proofs.YtclbiihcbfnjmaaGreat
