/-
  The plain laws between the walks of survivor and the laws of dividing: the claims with a weight, sorted; lengths.
-/
import Derived.Test.YtjgihmmeimfheaaGreatSvS
namespace Go.Proofs.YtjgihmmeimfheaaGreat

/-- The claims as pairs of a weight and a Cap. -/
def prs (w : Nat → Rat) (K : Nat → Int) (l : List Nat) : List (Rat × Rat) := l.map (fun k => (w k, ((K k : Int) : Rat)))
/-- The claims with a weight. -/
def idx (w : Nat → Rat) (n : Nat) : List Nat := (List.range n).filter (fun k => decide (w k ≠ 0))
theorem idx_succ (w : Nat → Rat) (n : Nat) : idx w (n + 1) = idx w n ++ (if w n = 0 then [] else [n]) := by
 unfold idx
 rw [List.range_succ, List.filter_append]
 congr 1
 by_cases h : w n = 0
 · rw [if_pos h]; simp [h]
 · rw [if_neg h]; simp [h]
theorem idx_mem {w : Nat → Rat} {n k : Nat} : k ∈ idx w n ↔ k < n ∧ w k ≠ 0 := by
 unfold idx
 rw [List.mem_filter, List.mem_range]
 simp
theorem idx_len (w : Nat → Rat) (n : Nat) : (idx w n).length ≤ n := by
 have := List.length_filter_le (fun k => decide (w k ≠ 0)) (List.range n)
 rwa [List.length_range] at this
theorem idx_pre (w : Nat → Rat) : ∀ {n k : Nat}, k < n → w k ≠ 0 → (idx w k).length < (idx w n).length ∧ (idx w n).getD (idx w k).length 0 = k
 | n + 1, k, hk, hw => by
  rw [idx_succ]
  by_cases e : k = n
  ·
   subst e
   rw [if_neg hw]
   exact ⟨by simp, by simp⟩
  ·
   obtain ⟨h1, h2⟩ := idx_pre w (n := n) (k := k) (by omega) hw
   refine ⟨by rw [List.length_append]; omega, ?_⟩
   rw [List.getD_eq_getElem?_getD, List.getElem?_append_left h1, ← List.getD_eq_getElem?_getD]
   exact h2
/-- Number j of the sorted claims with a weight. -/
def srt (w : Nat → Rat) (n : Nat) (p : Nat → Nat) (j : Nat) : Nat := (idx w n).getD (p j) 0
def srts (w : Nat → Rat) (n : Nat) (p : Nat → Nat) : List Nat := (List.range (idx w n).length).map (srt w n p)
theorem range_getD (l : List Nat) : (List.range l.length).map (fun i => l.getD i 0) = l := by
 apply List.ext_getElem
 · simp
 ·
  intro i h1 h2
  simp [List.getElem?_eq_getElem h2]
theorem srts_perm {w : Nat → Rat} {n : Nat} {p : Nat → Nat} (h : Bij (idx w n).length p) : (srts w n p).Perm (idx w n) := by
 have e : srts w n p = ((List.range (idx w n).length).map p).map (fun i => (idx w n).getD i 0) := by
  unfold srts srt
  rw [List.map_map]
  rfl
 rw [e]
 have h2 := h.list.map (fun i => (idx w n).getD i 0)
 rwa [range_getD] at h2
theorem srts_len (w : Nat → Rat) (n : Nat) (p : Nat → Nat) : (srts w n p).length = (idx w n).length := by simp [srts]
theorem srt_mem {w : Nat → Rat} {n : Nat} {p : Nat → Nat} (h : Bij (idx w n).length p) {j : Nat} (hj : j < (idx w n).length) : srt w n p j < n ∧ w (srt w n p j) ≠ 0 := by
 have h1 := h.1 j hj
 unfold srt
 rw [List.getD_eq_getElem?_getD, List.getElem?_eq_getElem h1, Option.getD_some]
 exact idx_mem.1 (List.getElem_mem h1)
/-- By what the claims are sorted: the level at which the Cap is reached. -/
def key (w : Nat → Rat) (K : Nat → Int) (n : Nat) (i : Nat) : Rat := ((K ((idx w n).getD i 0) : Int) : Rat) / w ((idx w n).getD i 0)
theorem key_lt {a b x y : Rat} (hx : 0 < x) (hy : 0 < y) : (a * y < b * x ↔ a / x < b / y) := by
 have e1 : a / x * x = a := Rat.div_mul_cancel (by grind)
 have e2 : b / y * y = b := Rat.div_mul_cancel (by grind)
 generalize a / x = u at *
 generalize b / y = v at *
 subst e1 e2
 have hxy := Rat.mul_pos hx hy
 constructor
 ·
  intro h
  refine Rat.not_le.1 fun g => ?_
  have := Rat.mul_le_mul_of_nonneg_right g (Rat.le_of_lt hxy)
  grind
 ·
  intro h
  have := Rat.mul_pos (show 0 < v - u by grind) hxy
  grind
theorem prs_mem {w : Nat → Rat} {K : Nat → Int} {l : List Nat} {x : Rat × Rat} (h : x ∈ prs w K l) : ∃ k, k ∈ l ∧ x = (w k, ((K k : Int) : Rat)) := by
 obtain ⟨k, hk, e⟩ := List.mem_map.1 h
 exact ⟨k, hk, e.symm⟩
theorem int_nonneg {z : Int} (h : 0 ≤ z) : (0 : Rat) ≤ ((z : Int) : Rat) := by exact_mod_cast h
/-- The level that the program finds is the level of all claims. -/
theorem lev_srts {w : Nat → Rat} {K : Nat → Int} {n : Nat} {p : Nat → Nat} {T : Rat} (hw : ∀ k, k < n → 0 ≤ w k ∧ 0 ≤ K k) (hp : Srd (idx w n).length (key w K n) (idx w n).length p) (h0 : 0 ≤ T) (h1 : T ≤ SC (prs w K (idx w n))) :
  Lv (prs w K (List.range n)) T (lev T (SW (prs w K (srts w n p))) (prs w K (srts w n p))) := by
 have hperm : (prs w K (srts w n p)).Perm (prs w K (idx w n)) := (srts_perm hp.1).map _
 refine lev_Lv (fun x hx => ?_) ?_ ?_ h0 (by rw [SC_perm hperm]; exact h1)
 ·
  obtain ⟨k, hk, rfl⟩ := prs_mem hx
  have := hw k (List.mem_range.1 hk)
  exact ⟨this.1, int_nonneg this.2⟩
 ·
  have e : (prs w K (List.range n)).filter (fun x => decide (x.1 ≠ 0)) = prs w K (idx w n) := by
   unfold prs idx
   rw [List.filter_map]
   rfl
  rw [e]; exact hperm
 ·
  unfold Srt prs srts
  rw [List.pairwise_map, List.pairwise_map]
  refine List.pairwise_lt_range.imp_of_mem fun {a b} ha hb hab => ?_
  have hb' := List.mem_range.1 hb
  have hl := hp.2.2.2 a b hab hb' hb'
  obtain ⟨ma, na⟩ := srt_mem hp.1 (List.mem_range.1 ha)
  obtain ⟨mb, nb⟩ := srt_mem hp.1 hb'
  have pa : 0 < w (srt w n p a) := by have := (hw _ ma).1; grind
  have pb : 0 < w (srt w n p b) := by have := (hw _ mb).1; grind
  show ((K (srt w n p a) : Int) : Rat) * w (srt w n p b) ≤ ((K (srt w n p b) : Int) : Rat) * w (srt w n p a)
  refine Rat.not_lt.1 fun g => ?_
  have g2 := (key_lt pb pa).1 g
  have e1 : key w K n (p a) = ((K (srt w n p a) : Int) : Rat) / w (srt w n p a) := rfl
  have e2 : key w K n (p b) = ((K (srt w n p b) : Int) : Rat) / w (srt w n p b) := rfl
  unfold Lex at hl
  rw [e1, e2] at hl
  grind
theorem prs_cons {w : Nat → Rat} {K : Nat → Int} {l : List Nat} {i : Nat} (hi : i < l.length) : prs w K (l.drop i) = (w (l.getD i 0), ((K (l.getD i 0) : Int) : Rat)) :: prs w K (l.drop (i + 1)) := by
 rw [List.drop_eq_getElem_cons hi, List.getD_eq_getElem?_getD, List.getElem?_eq_getElem hi]
 rfl
theorem lev_cons {w : Nat → Rat} {K : Nat → Int} {l : List Nat} {i : Nat} (hi : i < l.length) (L W : Rat) : lev L W (prs w K (l.drop i)) = if L / W * w (l.getD i 0) ≤ ((K (l.getD i 0) : Int) : Rat) then L / W else lev (L - ((K (l.getD i 0) : Int) : Rat)) (W - w (l.getD i 0)) (prs w K (l.drop (i + 1))) := by
 rw [prs_cons hi]
 rfl
theorem SW_app : ∀ (l m : List (Rat × Rat)), SW (l ++ m) = SW l + SW m
 | [], m => by show SW m = 0 + SW m; grind
 | x :: r, m => by
  show x.1 + SW (r ++ m) = x.1 + SW r + SW m
  rw [SW_app r m]; grind
theorem SW_take {w : Nat → Rat} {K : Nat → Int} {l : List Nat} {i : Nat} (hi : i < l.length) : SW (prs w K (l.take i)) + w (l.getD i 0) = SW (prs w K (l.take (i + 1))) := by
 rw [List.take_succ_eq_append_getElem hi, List.getD_eq_getElem?_getD, List.getElem?_eq_getElem hi]
 unfold prs
 rw [List.map_append, SW_app]
 show _ = _ + (w l[i] + 0)
 show _ + w l[i] = _
 grind
theorem SW_drop {w : Nat → Rat} {K : Nat → Int} {l : List Nat} {i : Nat} (hi : i < l.length) : SW (prs w K (l.drop i)) - w (l.getD i 0) = SW (prs w K (l.drop (i + 1))) := by
 rw [prs_cons hi]
 show w _ + _ - w _ = _
 grind
theorem SW_drop_pos {w : Nat → Rat} {K : Nat → Int} {l : List Nat} (hl : ∀ k, k ∈ l → 0 < w k) {i : Nat} (hi : i < l.length) : 0 < SW (prs w K (l.drop i)) := by
 have h : ∀ (m : List Nat), (∀ k, k ∈ m → 0 < w k) → 0 ≤ SW (prs w K m) := fun m => by
  induction m with
  | nil => intro _; exact Rat.le_refl
  | cons x r ih =>
   intro h
   have h1 := ih (fun k hk => h k (List.mem_cons_of_mem _ hk))
   have h2 := h x (List.mem_cons_self ..)
   show 0 ≤ w x + SW (prs w K r)
   grind
 rw [prs_cons hi]
 have h1 := h (l.drop (i + 1)) (fun k hk => hl k (List.mem_of_mem_drop hk))
 have h2 : 0 < w (l.getD i 0) := by
  rw [List.getD_eq_getElem?_getD, List.getElem?_eq_getElem hi]
  exact hl _ (List.getElem_mem hi)
 show 0 < w _ + SW _
 grind
/-- The sum of the Caps of the claims with a weight. -/
def capS (w : Nat → Rat) (K : Nat → Int) : Nat → Int
 | 0 => 0
 | k + 1 => capS w K k + if w k = 0 then 0 else K k
theorem SC_app : ∀ (l m : List (Rat × Rat)), SC (l ++ m) = SC l + SC m
 | [], m => by show SC m = 0 + SC m; grind
 | x :: r, m => by
  show x.2 + SC (r ++ m) = x.2 + SC r + SC m
  rw [SC_app r m]; grind
theorem capS_SC (w : Nat → Rat) (K : Nat → Int) : ∀ n, ((capS w K n : Int) : Rat) = SC (prs w K (idx w n))
 | 0 => rfl
 | n + 1 => by
  rw [idx_succ]
  unfold prs
  rw [List.map_append, SC_app]
  have ih := capS_SC w K n
  unfold prs at ih
  rw [← ih]
  by_cases h : w n = 0
  ·
   rw [if_pos h]
   show (((capS w K n + if w n = 0 then 0 else K n : Int)) : Rat) = _ + 0
   rw [if_pos h, Rat.intCast_add]
   grind
  ·
   rw [if_neg h]
   show (((capS w K n + if w n = 0 then 0 else K n : Int)) : Rat) = _ + (((K n : Int) : Rat) + 0)
   rw [if_neg h, Rat.intCast_add]
   grind
theorem capS_b {w : Nat → Rat} {K : Nat → Int} {M : Int} : ∀ {n : Nat}, (∀ k, k < n → 0 ≤ K k ∧ K k ≤ M) → 0 ≤ M → 0 ≤ capS w K n ∧ capS w K n ≤ (n : Int) * M
 | 0, _, _ => by unfold capS; simp
 | n + 1, h, hM => by
  obtain ⟨h1, h2⟩ := capS_b (n := n) (w := w) (fun k hk => h k (by omega)) hM
  obtain ⟨h3, h4⟩ := h n (by omega)
  have e : ((n + 1 : Nat) : Int) * M = (n : Int) * M + M := by rw [Int.natCast_add, Int.natCast_one, Int.add_mul, Int.one_mul]
  rw [e]
  unfold capS
  split <;> omega
/-- What is divided. -/
def totZ (a : Int) (w : Nat → Rat) (K : Nat → Int) (n : Nat) : Int := min a (capS w K n)
theorem totZ_b {a : Int} {w : Nat → Rat} {K : Nat → Int} {n : Nat} (ha : 0 ≤ a) (hK : ∀ k, k < n → 0 ≤ K k) : 0 ≤ totZ a w K n ∧ totZ a w K n ≤ a ∧ ((totZ a w K n : Int) : Rat) ≤ SC (prs w K (idx w n)) := by
 have h : ∀ n, (∀ k, k < n → 0 ≤ K k) → 0 ≤ capS w K n := fun n => by
  induction n with
  | zero => intro _; exact Int.le_refl 0
  | succ n ih =>
   intro h
   have h1 := ih (fun k hk => h k (by omega))
   have h2 := h n (by omega)
   unfold capS
   split <;> omega
 have h1 := h n hK
 unfold totZ
 refine ⟨by omega, by omega, ?_⟩
 rw [← capS_SC]
 have : min a (capS w K n) ≤ capS w K n := by omega
 exact_mod_cast this
/-- The sum of the exact parts by their numbers. -/
theorem FF_su (t : Rat) (w : Nat → Rat) (K : Nat → Int) : ∀ n, FF t (prs w K (List.range n)) = su (fun k => part t (w k, ((K k : Int) : Rat))) n
 | 0 => rfl
 | n + 1 => by
  unfold prs
  rw [List.range_succ, List.map_append, FF_app]
  have ih := FF_su t w K n
  unfold prs at ih
  rw [ih]
  show _ + (part t (w n, ((K n : Int) : Rat)) + 0) = su _ n + _
  grind
end Go.Proofs.YtjgihmmeimfheaaGreat
