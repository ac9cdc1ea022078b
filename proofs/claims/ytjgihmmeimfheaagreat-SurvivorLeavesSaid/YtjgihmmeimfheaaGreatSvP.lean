/-
  The plain laws of survivor's parts: whole units.
-/
import Derived.Test.YtjgihmmeimfheaaGreatSvL
import Derived.Test.YtjgihmmeimfheaaGreatK27
namespace Go.Proofs.YtjgihmmeimfheaaGreat

theorem round_floor (a : Rat) : roundZ 3 a 1 = floorQ a := by
 have h1 : topQ a 1 = a.num := by show a.num * (((1 : Rat).den : Nat) : Int) = _; rw [Rat.den_ofNat]; simp
 have h2 : botQ a 1 = (a.den : Int) := by show (a.den : Int) * (1 : Rat).num = _; rw [Rat.num_ofNat]; simp
 have hk : kQ a 1 = floorQ a := by unfold kQ floorQ; rw [h1, h2]
 unfold roundZ
 split
 · exact hk
 ·
  have hu : upQ 3 a 1 = false := by unfold upQ upB; rfl
  rw [hu, hk]
  rfl
section
variable (t : Rat) (w : Nat → Rat) (K : Nat → Int)
/-- The exact part of number k. -/
def xq (k : Nat) : Rat := part t (w k, ((K k : Int) : Rat))
/-- What it loses by rounding down. -/
def lq (k : Nat) : Rat := xq t w K k - ((floorQ (xq t w K k) : Int) : Rat)
def suZ (g : Nat → Int) : Nat → Int
 | 0 => 0
 | k + 1 => suZ g k + g k
theorem suZ_su (g : Nat → Int) : ∀ n, ((suZ g n : Int) : Rat) = su (fun k => ((g k : Int) : Rat)) n
 | 0 => rfl
 | n + 1 => by
  unfold suZ su
  rw [Rat.intCast_add, suZ_su g n]
/-- What is left when all parts are rounded down. -/
def leftZ (T : Int) (n : Nat) : Int := T - suZ (fun k => floorQ (xq t w K k)) n
/-- The parts: the first of the sorted claims s get one unit more. -/
def pz (s : List Nat) (L : Nat) (k : Nat) : Int := floorQ (xq t w K k) + if k ∈ s.take L then 1 else 0
end
theorem lq_b (t : Rat) (w : Nat → Rat) (K : Nat → Int) (k : Nat) : 0 ≤ lq t w K k ∧ lq t w K k < 1 := by
 have h1 := floorQ_le (xq t w K k)
 have h2 := floorQ_lt (xq t w K k)
 rw [Rat.intCast_add] at h2
 have h3 : ((1 : Int) : Rat) = 1 := rfl
 rw [h3] at h2
 unfold lq
 grind
section
variable {t : Rat} {w : Nat → Rat} {K : Nat → Int} {n : Nat} {T : Int}
theorem left_lost (h : Lv (prs w K (List.range n)) ((T : Int) : Rat) t) : su (lq t w K) n = ((leftZ t w K T n : Int) : Rat) := by
 have h1 := h.2.1
 rw [FF_su] at h1
 have h2 : su (xq t w K) n = su (fun k => lq t w K k + ((floorQ (xq t w K k) : Int) : Rat)) n := su_congr fun i _ => by unfold lq; grind
 rw [su_add, ← suZ_su] at h2
 have h3 : su (xq t w K) n = ((T : Int) : Rat) := h1
 unfold leftZ
 rw [Rat.intCast_sub]
 grind
theorem left_nn (h : Lv (prs w K (List.range n)) ((T : Int) : Rat) t) : 0 ≤ leftZ t w K T n := by
 have h1 := left_lost h
 have h2 := (su_b (g := lq t w K) (i := n) (M := 1) (fun k _ => ⟨(lq_b t w K k).1, Rat.le_of_lt (lq_b t w K k).2⟩)).1
 rw [h1] at h2
 exact_mod_cast h2
/-- What Parts returns, in plain words. -/
structure PartsQ (t : Rat) (w : Nat → Rat) (K : Nat → Int) (n : Nat) (T : Int) (p : Nat → Int) : Prop where
 ex : ∃ s : List Nat, s.Perm (List.range n) ∧ s.Pairwise (Ord (lq t w K)) ∧ ∀ k, k < n → p k = pz t w K s (leftZ t w K T n).toNat k
variable {p : Nat → Int} (h : Lv (prs w K (List.range n)) ((T : Int) : Rat) t) (hq : PartsQ t w K n T p)
include h hq
theorem parts_sum : suZ p n = T := by
 obtain ⟨s, h1, h2, h3⟩ := hq
 have h0 := left_nn h
 have hl : su (lq t w K) n = (((leftZ t w K T n).toNat : Nat) : Rat) := by
  rw [left_lost h]
  have e : (leftZ t w K T n) = (((leftZ t w K T n).toNat : Nat) : Int) := (Int.toNat_of_nonneg h0).symm
  conv => lhs; rw [e]
  rfl
 have h5 := units_sum h1 (fun i _ => lq_b t w K i) hl (fun k => ((floorQ (xq t w K k) : Int) : Rat))
 have h6 : su (fun k => ((p k : Int) : Rat)) n = su (fun i => ((floorQ (xq t w K i) : Int) : Rat) + if i ∈ s.take (leftZ t w K T n).toNat then 1 else 0) n := su_congr fun i hi => by
  rw [h3 i hi]
  unfold pz
  rw [Rat.intCast_add]
  split <;> rfl
 rw [← h6, ← suZ_su, ← suZ_su] at h5
 have e : (((leftZ t w K T n).toNat : Nat) : Rat) = ((leftZ t w K T n : Int) : Rat) := by
  conv => rhs; rw [← Int.toNat_of_nonneg h0]
  rfl
 rw [e, ← Rat.intCast_add, Rat.intCast_inj] at h5
 rw [h5]
 unfold leftZ
 omega
/-- Who got a unit lost something; each part is next to the exact one. -/
theorem parts_one {k : Nat} (hk : k < n) : (p k = floorQ (xq t w K k) ∨ (p k = floorQ (xq t w K k) + 1 ∧ 0 < lq t w K k)) := by
 obtain ⟨s, h1, h2, h3⟩ := hq
 have h0 := left_nn h
 have hl : su (lq t w K) n = (((leftZ t w K T n).toNat : Nat) : Rat) := by
  rw [left_lost h]
  have e : (leftZ t w K T n) = (((leftZ t w K T n).toNat : Nat) : Int) := (Int.toNat_of_nonneg h0).symm
  conv => lhs; rw [e]
  rfl
 rw [h3 k hk]
 unfold pz
 split
 ·
  rename_i hm
  exact .inr ⟨rfl, units_pos h1 h2 (fun i _ => lq_b t w K i) hl hm⟩
 · left; omega
omit h in
theorem parts_fair {i k : Nat} (hi : i < n) (hk : k < n) (gi : floorQ (xq t w K i) < p i) (gk : ¬ floorQ (xq t w K k) < p k) : Ord (lq t w K) i k := by
 obtain ⟨s, h1, h2, h3⟩ := hq
 rw [h3 i hi] at gi
 rw [h3 k hk] at gk
 unfold pz at gi gk
 have mi : i ∈ s.take (leftZ t w K T n).toNat := Classical.byContradiction fun c => by rw [if_neg c] at gi; omega
 have mk : k ∉ s.take (leftZ t w K T n).toNat := fun c => by rw [if_pos c] at gk; omega
 exact units_fair (n := n) h1 h2 mi hk mk
end
theorem xq_b {t : Rat} {w : Nat → Rat} {K : Nat → Int} {k : Nat} (ht : 0 ≤ t) (hw : 0 ≤ w k) (hK : 0 ≤ K k) : 0 ≤ xq t w K k ∧ xq t w K k ≤ ((K k : Int) : Rat) := part_b ht hw hK
theorem floor_b {t : Rat} {w : Nat → Rat} {K : Nat → Int} {k : Nat} (ht : 0 ≤ t) (hw : 0 ≤ w k) (hK : 0 ≤ K k) : 0 ≤ floorQ (xq t w K k) ∧ floorQ (xq t w K k) ≤ K k := by
 obtain ⟨h1, h2⟩ := xq_b ht hw hK
 have h3 := floorQ_le (xq t w K k)
 have h4 := floorQ_lt (xq t w K k)
 have h5 : ((floorQ (xq t w K k) : Int) : Rat) ≤ ((K k : Int) : Rat) := by grind
 have h6 : ((0 : Int) : Rat) < ((floorQ (xq t w K k) + 1 : Int) : Rat) := by
  have : ((0 : Int) : Rat) = 0 := rfl
  grind
 rw [Rat.intCast_le_intCast] at h5
 rw [Rat.intCast_lt_intCast] at h6
 omega
theorem part_zero {t : Rat} {z : Int} (hz : 0 ≤ z) : part t (0, ((z : Int) : Rat)) = 0 := by
 have := int_nonneg hz
 unfold part mn
 split <;> grind
end Go.Proofs.YtjgihmmeimfheaaGreat
