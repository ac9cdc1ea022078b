/-
  What the laws of layer 23 ask of the parts, in plain words.
-/
import Derived.Test.YtjgihmmeimfheaaGreatSvX
namespace Go.Proofs.YtjgihmmeimfheaaGreat
section
variable {t : Rat} {w : Nat → Rat} {K : Nat → Int} {n : Nat} {T : Int} {p : Nat → Int}
theorem parts_bound (h : Lv (prs w K (List.range n)) ((T : Int) : Rat) t) (hq : PartsQ t w K n T p) (hw : ∀ k, k < n → 0 ≤ w k ∧ 0 ≤ K k) {k : Nat} (hk : k < n) :
  (0 ≤ p k ∧ p k ≤ K k) ∧ (((p k : Int) : Rat) - xq t w K k < 1 ∧ xq t w K k - ((p k : Int) : Rat) < 1) ∧ (w k = 0 → p k = 0) := by
 obtain ⟨f1, f2⟩ := floor_b (t := t) (w := w) (K := K) (k := k) h.1 (hw k hk).1 (hw k hk).2
 obtain ⟨x1, x2⟩ := xq_b (t := t) (w := w) (K := K) (k := k) h.1 (hw k hk).1 (hw k hk).2
 obtain ⟨l1, l2⟩ := lq_b t w K k
 have hz : w k = 0 → xq t w K k = 0 := fun e => by
  unfold xq
  rw [e]
  exact part_zero (hw k hk).2
 have f0 : floorQ 0 = 0 := by decide +kernel
 rcases parts_one h hq hk with e | ⟨e, hl⟩
 ·
  rw [e]
  unfold lq at l1 l2
  refine ⟨⟨f1, f2⟩, ⟨by grind, by grind⟩, fun e0 => ?_⟩
  rw [hz e0]; exact f0
 ·
  rw [e]
  unfold lq at l1 l2 hl
  have h3 : ((floorQ (xq t w K k) : Int) : Rat) < ((K k : Int) : Rat) := by grind
  rw [Rat.intCast_lt_intCast] at h3
  have h4 : ((floorQ (xq t w K k) + 1 : Int) : Rat) = ((floorQ (xq t w K k) : Int) : Rat) + 1 := by rw [Rat.intCast_add]; rfl
  rw [h4]
  refine ⟨⟨by omega, by omega⟩, ⟨by grind, by grind⟩, fun e0 => ?_⟩
  rw [hz e0] at hl
  rw [f0] at hl
  exact absurd hl (by decide +kernel)
end
theorem totZ_mono {a b : Int} {w : Nat → Rat} {K : Nat → Int} {n : Nat} (h : a ≤ b) : totZ a w K n ≤ totZ b w K n := by
 unfold totZ
 omega
theorem suZ_sub (p q : Nat → Int) : ∀ n, suZ (fun k => q k - p k) n = suZ q n - suZ p n
 | 0 => by simp [suZ]
 | n + 1 => by
  unfold suZ
  rw [suZ_sub p q n]
  omega
theorem xq_mono {t u : Rat} {w : Nat → Rat} {K : Nat → Int} {k : Nat} (h : t ≤ u) (hw : 0 ≤ w k) : xq t w K k ≤ xq u w K k := mn_mono (Rat.mul_le_mul_of_nonneg_right h hw)
theorem Lv.le {l : List (Rat × Rat)} {a b : Int} {t u : Rat} (h : Lv l ((a : Int) : Rat) t) (k : Lv l ((b : Int) : Rat) u) (hab : a ≤ b) : t ≤ u := h.mono k (Rat.intCast_le_intCast.2 hab)
end Go.Proofs.YtjgihmmeimfheaaGreat
