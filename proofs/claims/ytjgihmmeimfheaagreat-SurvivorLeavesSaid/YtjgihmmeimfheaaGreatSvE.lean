/-
  When a claim leaves, no other claim gets less.
-/
import Derived.Test.YtjgihmmeimfheaaGreatSVD
import Derived.Test.YtjgihmmeimfheaaGreatSvW
namespace Go.Proofs.YtjgihmmeimfheaaGreat

theorem su_le {f g : Nat → Rat} : ∀ {n : Nat}, (∀ k, k < n → f k ≤ g k) → su f n ≤ su g n
 | 0, _ => Rat.le_refl
 | n + 1, h => by
  unfold su
  have h1 := su_le (n := n) (fun k hk => h k (by omega))
  have h2 := h n (Nat.lt_succ_self n)
  grind
theorem su_eq {f g : Nat → Rat} : ∀ {n : Nat}, (∀ k, k < n → f k ≤ g k) → su f n = su g n → ∀ k, k < n → f k = g k
 | 0, _, _, k, hk => absurd hk (Nat.not_lt_zero k)
 | n + 1, h, e, k, hk => by
  unfold su at e
  have h1 := su_le (n := n) (fun k hk => h k (by omega))
  have h2 := h n (Nat.lt_succ_self n)
  by_cases hkn : k = n
  · subst hkn; grind
  · exact su_eq (n := n) (fun k hk => h k (by omega)) (by grind) k (by omega)
theorem capS_su (w : Nat → Rat) (K : Nat → Int) : ∀ n, ((capS w K n : Int) : Rat) = su (fun k => if w k = 0 then 0 else ((K k : Int) : Rat)) n
 | 0 => rfl
 | n + 1 => by
  unfold capS su
  rw [Rat.intCast_add, capS_su w K n]
  congr 1
  split
  · rfl
  · rfl
theorem part_cap {t w : Rat} {K : Int} (hK : 0 ≤ K) : part t (w, ((K : Int) : Rat)) ≤ if w = 0 then 0 else ((K : Int) : Rat) := by
 split
 · rename_i h; rw [h, part_zero hK]; exact Rat.le_refl
 · exact mn_r _ _
theorem range_skip {n i : Nat} (hi : i < n) : (List.range n).Perm (i :: (List.range (n - 1)).map (skip i)) := by
 refine (List.perm_ext_iff_of_nodup List.nodup_range ?_).2 fun x => ?_
 ·
  refine List.nodup_cons.2 ⟨fun h => ?_, ?_⟩
  ·
   obtain ⟨k, -, e⟩ := List.mem_map.1 h
   unfold skip at e
   split at e <;> omega
  ·
   unfold List.Nodup
   rw [List.pairwise_map]
   refine List.nodup_range.imp fun {a b} hab e => hab ?_
   unfold skip at e
   split at e <;> split at e <;> omega
 ·
  rw [List.mem_range, List.mem_cons, List.mem_map]
  constructor
  ·
   intro hx
   by_cases h1 : x = i
   · exact .inl h1
   ·
    by_cases h2 : x < i
    · exact .inr ⟨x, List.mem_range.2 (by omega), by unfold skip; rw [if_pos h2]⟩
    · exact .inr ⟨x - 1, List.mem_range.2 (by omega), by unfold skip; rw [if_neg (by omega)]; omega⟩
  ·
   rintro (rfl | ⟨k, hk, rfl⟩)
   · exact hi
   · exact skip_lt hi (List.mem_range.1 hk)
theorem leave_le {a : Int} {t u : Rat} {w w2 : Nat → Rat} {K K2 : Nat → Int} {n i : Nat} (hi : i < n) (hwK : ∀ k, k < n → 0 ≤ w k ∧ 0 ≤ K k) (hw : ∀ k, k < n - 1 → w2 k = w (skip i k)) (hK : ∀ k, k < n - 1 → K2 k = K (skip i k))
  (h : Lv (prs w K (List.range n)) ((totZ a w K n : Int) : Rat) t) (k : Lv (prs w2 K2 (List.range (n - 1))) ((totZ a w2 K2 (n - 1) : Int) : Rat) u) {j : Nat} (hj : j < n - 1) : xq t w K (skip i j) ≤ xq u w2 K2 j := by
 have hK0 : ∀ k, k < n - 1 → 0 ≤ K2 k := fun k hk => by rw [hK k hk]; exact (hwK _ (skip_lt hi hk)).2
 by_cases hc : capS w2 K2 (n - 1) ≤ a
 ·
  have hT : totZ a w2 K2 (n - 1) = capS w2 K2 (n - 1) := by unfold totZ; omega
  have h1 := k.2.1
  rw [FF_su, hT, capS_su] at h1
  have h2 := su_eq (fun k hk => part_cap (t := u) (w := w2 k) (hK0 k hk)) h1 j hj
  show part t (w (skip i j), ((K (skip i j) : Int) : Rat)) ≤ part u (w2 j, ((K2 j : Int) : Rat))
  rw [h2, hw j hj, hK j hj]
  exact part_cap (hwK _ (skip_lt hi hj)).2
 ·
  have hT : totZ a w K n ≤ totZ a w2 K2 (n - 1) := by unfold totZ; omega
  have e : prs w2 K2 (List.range (n - 1)) = ((List.range (n - 1)).map (skip i)).map (fun k => (w k, ((K k : Int) : Rat))) := by
   unfold prs
   rw [List.map_map]
   refine List.map_congr_left fun q hq => ?_
   have := List.mem_range.1 hq
   show (w2 q, _) = (w (skip i q), _)
   rw [hw q this, hK q this]
  have hp : (prs w K (List.range n)).Perm ((w i, ((K i : Int) : Rat)) :: prs w2 K2 (List.range (n - 1))) := by
   rw [e]
   exact (range_skip hi).map _
  have hl : Ok2 (prs w K (List.range n)) := fun x hx => by
   unfold prs at hx
   obtain ⟨q, hq, rfl⟩ := List.mem_map.1 hx
   have := hwK q (List.mem_range.1 hq)
   exact ⟨this.1, Rat.intCast_nonneg.2 this.2⟩
  have hx : (w2 j, ((K2 j : Int) : Rat)) ∈ prs w2 K2 (List.range (n - 1)) := List.mem_map.2 ⟨j, List.mem_range.2 hj, rfl⟩
  have h3 := Lv.leave hp hl h k (.inr (Rat.intCast_le_intCast.2 hT)) hx
  show part t (w (skip i j), ((K (skip i j) : Int) : Rat)) ≤ part u (w2 j, ((K2 j : Int) : Rat))
  rw [← hw j hj, ← hK j hj]
  exact h3
end Go.Proofs.YtjgihmmeimfheaaGreat
