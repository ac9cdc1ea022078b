/-
  Scaled weights: the same parts and a level in proportion.
-/
import Derived.Test.YtjgihmmeimfheaaGreatSvW
namespace Go.Proofs.YtjgihmmeimfheaaGreat

theorem suZ_congr {f g : Nat → Int} : ∀ {n : Nat}, (∀ k, k < n → f k = g k) → suZ f n = suZ g n
 | 0, _ => rfl
 | n + 1, h => by
  unfold suZ
  rw [suZ_congr (n := n) (fun k hk => h k (by omega)), h n (Nat.lt_succ_self n)]
theorem parts_same {t u : Rat} {w w2 : Nat → Rat} {K K2 : Nat → Int} {n : Nat} {T : Int} {p p2 : Nat → Int} (hp : PartsQ t w K n T p) (hq : PartsQ u w2 K2 n T p2) (hx : ∀ k, k < n → xq t w K k = xq u w2 K2 k) {k : Nat} (hk : k < n) : p k = p2 k := by
 obtain ⟨s, h1, h2, h3⟩ := hp
 obtain ⟨s', g1, g2, g3⟩ := hq
 have hl : ∀ j, j < n → lq t w K j = lq u w2 K2 j := fun j hj => by unfold lq; rw [hx j hj]
 have hL : leftZ t w K T n = leftZ u w2 K2 T n := by unfold leftZ; rw [suZ_congr (fun j hj => by rw [hx j hj])]
 have hs : s = s' := by
  refine (h1.trans g1.symm).eq_of_pairwise (le := Ord (lq t w K)) (fun a b _ _ ha hb => ?_) h2 (g2.imp_of_mem fun {a b} ha hb hab => ?_)
  ·
   unfold Ord at ha hb
   rcases ha with ha | ⟨ha, ha2⟩
   ·
    rcases hb with hb | ⟨hb, hb2⟩
    · grind
    · grind
   ·
    rcases hb with hb | ⟨hb, hb2⟩
    · grind
    · omega
  ·
   have ka := List.mem_range.1 (g1.mem_iff.1 ha)
   have kb := List.mem_range.1 (g1.mem_iff.1 hb)
   unfold Ord at hab ⊢
   rw [hl a ka, hl b kb]
   exact hab
 rw [h3 k hk, g3 k hk]
 unfold pz
 rw [hx k hk, hL, hs]
section
variable {u t b : Rat} {w w2 : Nat → Rat} {K K2 : Nat → Int} {n : Nat}
theorem xq_scale {k : Nat} (hw : w2 k = w k * b) (hK : K2 k = K k) : xq (u * b) w K k = xq u w2 K2 k := by
 unfold xq part
 rw [hw, hK]
 show mn (u * b * w k) _ = mn (u * (w k * b)) _
 rw [show u * b * w k = u * (w k * b) by grind]
theorem lv_scale {T : Int} (hb : 0 < b) (hw : ∀ k, k < n → w2 k = w k * b) (hK : ∀ k, k < n → K2 k = K k) (h : Lv (prs w2 K2 (List.range n)) ((T : Int) : Rat) u) (k : Lv (prs w K (List.range n)) ((T : Int) : Rat) t) : u * b = t := by
 have e : prs w2 K2 (List.range n) = (prs w K (List.range n)).map (fun x => (x.1 * b, x.2)) := by
  unfold prs
  rw [List.map_map]
  refine List.map_congr_left fun k hk => ?_
  have := List.mem_range.1 hk
  show (w2 k, _) = (w k * b, _)
  rw [hw k this, hK k this]
 rw [e] at h
 exact Lv.scale hb h k
theorem cap_scale (hb : b ≠ 0) : ∀ {n : Nat}, (∀ k, k < n → w2 k = w k * b) → (∀ k, k < n → K2 k = K k) → capS w2 K2 n = capS w K n
 | 0, _, _ => rfl
 | n + 1, hw, hK => by
  unfold capS
  rw [cap_scale hb (n := n) (fun k hk => hw k (by omega)) (fun k hk => hK k (by omega)), hw n (Nat.lt_succ_self n), hK n (Nat.lt_succ_self n)]
  congr 1
  by_cases h : w n = 0
  · rw [if_pos h, if_pos (by rw [h]; grind)]
  · rw [if_neg h, if_neg (by rw [Rat.mul_eq_zero]; grind)]
theorem tot_scale {a : Int} (hb : b ≠ 0) (hw : ∀ k, k < n → w2 k = w k * b) (hK : ∀ k, k < n → K2 k = K k) : totZ a w2 K2 n = totZ a w K n := by
 unfold totZ
 rw [cap_scale hb hw hK]
end
end Go.Proofs.YtjgihmmeimfheaaGreat
