/-
  Several texts in one: The plain laws of dividing an amount between claims: the level and the exact parts. The plain laws of giving whole units to claims.
-/
import Derived.Test.YtjgihmmeimfheaaGreatK1
namespace Go.Proofs.YtjgihmmeimfheaaGreat

def mn (a b : Rat) : Rat := if a ≤ b then a else b
theorem mn_l (a b : Rat) : mn a b ≤ a := by unfold mn; split <;> grind
theorem mn_r (a b : Rat) : mn a b ≤ b := by unfold mn; split <;> grind
theorem mn_mono {a b c : Rat} (h : a ≤ b) : mn a c ≤ mn b c := by unfold mn; split <;> split <;> grind
/-- What all claims get at a level. -/
def FF (t : Rat) : List (Rat × Rat) → Rat
 | [] => 0
 | x :: r => mn (t * x.1) x.2 + FF t r
def SW : List (Rat × Rat) → Rat
 | [] => 0
 | x :: r => x.1 + SW r
def SC : List (Rat × Rat) → Rat
 | [] => 0
 | x :: r => x.2 + SC r
/-- The level as the program finds it. -/
def lev : Rat → Rat → List (Rat × Rat) → Rat
 | _, _, [] => 0
 | L, W, x :: r => if L / W * x.1 ≤ x.2 then L / W else lev (L - x.2) (W - x.1) r
def Ok2 (l : List (Rat × Rat)) : Prop := ∀ x, x ∈ l → 0 ≤ x.1 ∧ 0 ≤ x.2
def Pos2 (l : List (Rat × Rat)) : Prop := ∀ x, x ∈ l → 0 < x.1 ∧ 0 ≤ x.2
def Srt (l : List (Rat × Rat)) : Prop := l.Pairwise (fun a b => a.2 * b.1 ≤ b.2 * a.1)
theorem Pos2.tail {x : Rat × Rat} {r : List (Rat × Rat)} (h : Pos2 (x :: r)) : Pos2 r := fun y hy => h y (List.mem_cons_of_mem _ hy)
theorem Ok2.tail {x : Rat × Rat} {r : List (Rat × Rat)} (h : Ok2 (x :: r)) : Ok2 r := fun y hy => h y (List.mem_cons_of_mem _ hy)
theorem SW_pos : ∀ {l : List (Rat × Rat)}, Pos2 l → 0 ≤ SW l ∧ (l ≠ [] → 0 < SW l)
 | [], _ => ⟨Rat.le_refl, fun h => absurd rfl h⟩
 | x :: r, h => by
  have h1 := (SW_pos h.tail).1
  have h2 := (h x (List.mem_cons_self ..)).1
  exact ⟨by unfold SW; grind, fun _ => by unfold SW; grind⟩
theorem SC_pos : ∀ {l : List (Rat × Rat)}, Ok2 l → 0 ≤ SC l
 | [], _ => Rat.le_refl
 | x :: r, h => by
  have h1 := SC_pos h.tail
  have h2 := (h x (List.mem_cons_self ..)).2
  unfold SC; grind
theorem FF_le_w (t : Rat) : ∀ (l : List (Rat × Rat)), FF t l ≤ t * SW l
 | [] => by unfold FF SW; grind
 | x :: r => by
  have := FF_le_w t r
  have := mn_l (t * x.1) x.2
  unfold FF SW; grind
theorem FF_le_c (t : Rat) : ∀ (l : List (Rat × Rat)), FF t l ≤ SC l
 | [] => Rat.le_refl
 | x :: r => by
  have := FF_le_c t r
  have := mn_r (t * x.1) x.2
  unfold FF SC; grind
theorem FF_all (t : Rat) : ∀ {l : List (Rat × Rat)}, (∀ x, x ∈ l → t * x.1 ≤ x.2) → FF t l = t * SW l
 | [], _ => by unfold FF SW; grind
 | x :: r, h => by
  have h1 := FF_all t (l := r) (fun y hy => h y (List.mem_cons_of_mem _ hy))
  have h2 := h x (List.mem_cons_self ..)
  unfold FF SW mn
  rw [if_pos h2, h1]; grind
theorem FF_mono {s t : Rat} (h : s ≤ t) : ∀ {l : List (Rat × Rat)}, Ok2 l → FF s l ≤ FF t l
 | [], _ => Rat.le_refl
 | x :: r, hl => by
  have h1 := FF_mono h hl.tail
  have h2 := (hl x (List.mem_cons_self ..)).1
  have h3 : s * x.1 ≤ t * x.1 := Rat.mul_le_mul_of_nonneg_right h h2
  have := mn_mono (c := x.2) h3
  unfold FF; grind
theorem lev_ok : ∀ (l : List (Rat × Rat)) (L : Rat), Pos2 l → Srt l → 0 ≤ L → L ≤ SC l → l ≠ [] →
  L / SW l ≤ lev L (SW l) l ∧ 0 ≤ lev L (SW l) l ∧ FF (lev L (SW l) l) l = L ∧ ∀ s, s < lev L (SW l) l → FF s l < L
 | [], _, _, _, _, _, h => absurd rfl h
 | x :: r, L, hp, hs, h0, hc, _ => by
  have hW : 0 < SW (x :: r) := (SW_pos hp).2 (by simp)
  have hx := hp x (List.mem_cons_self ..)
  obtain ⟨t, ht⟩ : ∃ t, t = L / SW (x :: r) := ⟨_, rfl⟩
  have hL : t * SW (x :: r) = L := by rw [ht]; exact Rat.div_mul_cancel (by grind)
  have ht0 : 0 ≤ t := by
   refine Rat.not_lt.1 fun g => ?_
   have := Rat.mul_pos (show 0 < -t by grind) hW
   grind
  unfold lev
  rw [← ht]
  by_cases hg : t * x.1 ≤ x.2
  ·
   rw [if_pos hg]
   have hall : ∀ y, y ∈ x :: r → t * y.1 ≤ y.2 := fun y hy => by
    rcases List.mem_cons.1 hy with rfl | hr
    · exact hg
    ·
     have h1 := (List.pairwise_cons.1 hs).1 y hr
     have hy1 := (hp y hy).1
     have h2 := Rat.mul_le_mul_of_nonneg_right hg (Rat.le_of_lt hy1)
     have h3 : t * y.1 * x.1 ≤ y.2 * x.1 := by grind
     refine Rat.not_lt.1 fun g => ?_
     have := Rat.mul_pos (show 0 < t * y.1 - y.2 by grind) hx.1
     grind
   refine ⟨Rat.le_refl, ht0, by rw [FF_all t hall, hL], fun s hst => ?_⟩
   have h1 := FF_le_w s (x :: r)
   have h2 := Rat.mul_pos (show 0 < t - s by grind) hW
   grind
  ·
   rw [if_neg hg]
   have hgt : x.2 < t * x.1 := by grind
   have hre : r ≠ [] := fun e => by
    subst e
    have e1 : SW [x] = x.1 := by unfold SW SW; grind
    have e2 : SC [x] = x.2 := by unfold SC SC; grind
    rw [e1] at hL; rw [e2] at hc
    grind
   have hW' : 0 < SW r := (SW_pos hp.tail).2 hre
   have eW : SW (x :: r) - x.1 = SW r := by show x.1 + SW r - x.1 = SW r; grind
   have eC : SC (x :: r) = x.2 + SC r := rfl
   have eL : t * x.1 + t * SW r = L := by rw [← hL]; show t * x.1 + t * SW r = t * (x.1 + SW r); grind
   have hL0 : 0 ≤ L - x.2 := by
    have := Rat.mul_nonneg ht0 (Rat.le_of_lt hW')
    grind
   obtain ⟨i1, i2, i3, i4⟩ := lev_ok r (L - x.2) hp.tail (List.pairwise_cons.1 hs).2 hL0 (by grind) hre
   rw [eW]
   obtain ⟨u, hu⟩ : ∃ u, u = (L - x.2) / SW r := ⟨_, rfl⟩
   have hU : u * SW r = L - x.2 := by rw [hu]; exact Rat.div_mul_cancel (by grind)
   rw [← hu] at i1
   have htu : t < u := by
    refine Rat.not_le.1 fun g => ?_
    have := Rat.mul_le_mul_of_nonneg_right g (Rat.le_of_lt hW')
    grind
   generalize lev (L - x.2) (SW r) r = T at *
   have htT : t ≤ T := by grind
   refine ⟨htT, i2, ?_, fun s hsT => ?_⟩
   ·
    have h1 : ¬ T * x.1 ≤ x.2 := fun g => by
     have := Rat.mul_le_mul_of_nonneg_right htT (Rat.le_of_lt hx.1)
     grind
    unfold FF mn
    rw [if_neg h1, i3]; grind
   ·
    have h1 := i4 s hsT
    have h2 := mn_r (s * x.1) x.2
    unfold FF; grind
/-- The level of an amount: the least one at which the claims get it all. -/
def Lv (l : List (Rat × Rat)) (T t : Rat) : Prop := 0 ≤ t ∧ FF t l = T ∧ ∀ s, s < t → 0 ≤ s → FF s l < T
theorem Lv.uniq {l : List (Rat × Rat)} {T t u : Rat} (h : Lv l T t) (k : Lv l T u) : t = u := by
 by_cases g : t < u
 · have := k.2.2 t g h.1; have := h.2.1; grind
 by_cases g2 : u < t
 · have := h.2.2 u g2 k.1; have := k.2.1; grind
 grind
theorem Lv.mono {l : List (Rat × Rat)} {T U t u : Rat} (h : Lv l T t) (k : Lv l U u) (hTU : T ≤ U) : t ≤ u := Rat.not_lt.1 fun g => by
 have := h.2.2 u g k.1
 have := k.2.1
 grind
theorem FF_perm {t : Rat} {l m : List (Rat × Rat)} (h : l.Perm m) : FF t l = FF t m := by
 induction h with
 | nil => rfl
 | cons x _ ih => unfold FF; rw [ih]
 | swap x y r => unfold FF FF; grind
 | trans _ _ a b => exact a.trans b
theorem FF_filter (t : Rat) : ∀ {l : List (Rat × Rat)}, Ok2 l → FF t (l.filter (fun x => decide (x.1 ≠ 0))) = FF t l
 | [], _ => rfl
 | x :: r, h => by
  rw [List.filter_cons]
  by_cases hx : x.1 = 0
  ·
   rw [if_neg (by simp [hx]), FF_filter t h.tail]
   have h2 := (h x (List.mem_cons_self ..)).2
   have e : mn (t * x.1) x.2 = 0 := by unfold mn; rw [if_pos (by rw [hx]; grind), hx]; grind
   show FF t r = mn (t * x.1) x.2 + FF t r
   rw [e]; grind
  ·
   rw [if_pos (by simp [hx])]
   unfold FF
   rw [FF_filter t h.tail]
theorem SC_perm {l m : List (Rat × Rat)} (h : l.Perm m) : SC l = SC m := by
 induction h with
 | nil => rfl
 | cons x _ ih => unfold SC; rw [ih]
 | swap x y r => unfold SC SC; grind
 | trans _ _ a b => exact a.trans b
theorem SW_perm {l m : List (Rat × Rat)} (h : l.Perm m) : SW l = SW m := by
 induction h with
 | nil => rfl
 | cons x _ ih => unfold SW; rw [ih]
 | swap x y r => unfold SW SW; grind
 | trans _ _ a b => exact a.trans b
/-- The claims with a weight, as sorted by the program, give the level of all claims. -/
theorem lev_Lv {l m : List (Rat × Rat)} {T : Rat} (hl : Ok2 l) (hm : m.Perm (l.filter (fun x => decide (x.1 ≠ 0)))) (hs : Srt m) (h0 : 0 ≤ T) (h1 : T ≤ SC m) : Lv l T (lev T (SW m) m) := by
 have hp : Pos2 m := fun x hx => by
  have h2 := List.mem_filter.1 (hm.mem_iff.1 hx)
  have h3 := hl x h2.1
  have h4 : x.1 ≠ 0 := by simpa using h2.2
  exact ⟨by grind, h3.2⟩
 have hF : ∀ t, FF t l = FF t m := fun t => by rw [FF_perm hm, FF_filter t hl]
 by_cases e : m = []
 ·
  subst e
  have hT : T = 0 := by have : SC ([] : List (Rat × Rat)) = 0 := rfl; grind
  refine ⟨Rat.le_refl, by rw [hF, hT]; rfl, fun s h2 h3 => ?_⟩
  have : lev T (SW []) [] = 0 := rfl
  grind
 ·
  obtain ⟨-, k2, k3, k4⟩ := lev_ok m T hp hs h0 h1 e
  exact ⟨k2, by rw [hF, k3], fun s h2 _ => by rw [hF]; exact k4 s h2⟩
/-- The exact part of a claim at a level. -/
def part (t : Rat) (x : Rat × Rat) : Rat := mn (t * x.1) x.2
theorem Lv.more {l : List (Rat × Rat)} {T U t u : Rat} (h : Lv l T t) (k : Lv l U u) (hTU : T ≤ U) {x : Rat × Rat} (hx : 0 ≤ x.1) : part t x ≤ part u x := mn_mono (Rat.mul_le_mul_of_nonneg_right (h.mono k hTU) hx)
theorem FF_app (t : Rat) : ∀ (l m : List (Rat × Rat)), FF t (l ++ m) = FF t l + FF t m
 | [], m => by show FF t m = 0 + FF t m; grind
 | x :: r, m => by
  show mn (t * x.1) x.2 + FF t (r ++ m) = mn (t * x.1) x.2 + FF t r + FF t m
  rw [FF_app t r m]; grind
theorem FF_full {t : Rat} : ∀ {l : List (Rat × Rat)}, FF t l = SC l → ∀ x, x ∈ l → part t x = x.2
 | [], _, x, hx => absurd hx (by simp)
 | y :: r, h, x, hx => by
  have h1 := FF_le_c t r
  have h2 := mn_r (t * y.1) y.2
  have h3 : mn (t * y.1) y.2 + FF t r = y.2 + SC r := h
  rcases List.mem_cons.1 hx with rfl | hr
  · show mn _ _ = _; grind
  · exact FF_full (l := r) (by grind) x hr
/-- If a claim ends, no other claim's part shrinks. T: what is divided; C: the sum of the Caps that remain. -/
theorem Lv.leave {l m : List (Rat × Rat)} {z : Rat × Rat} {T U t u : Rat} (hp : l.Perm (z :: m)) (hl : Ok2 l) (h : Lv l T t) (k : Lv m U u) (hU : U = SC m ∨ T ≤ U) {x : Rat × Rat} (hx : x ∈ m) : part t x ≤ part u x := by
 have hxl := hl x (hp.mem_iff.2 (List.mem_cons_of_mem _ hx))
 rcases hU with hU | hU
 ·
  rw [FF_full (t := u) (by rw [k.2.1, hU]) x hx]
  exact mn_r _ _
 ·
  refine mn_mono (Rat.mul_le_mul_of_nonneg_right (Rat.not_lt.1 fun g => ?_) hxl.1)
  have h1 := h.2.2 u g k.1
  rw [FF_perm hp] at h1
  have h2 := k.2.1
  have hz := hl z (hp.mem_iff.2 (List.mem_cons_self ..))
  have h3 : 0 ≤ mn (u * z.1) z.2 := by
   have := Rat.mul_nonneg k.1 hz.1
   unfold mn; split <;> grind
  unfold FF at h1
  grind
theorem FF_scale (b t : Rat) : ∀ (l : List (Rat × Rat)), FF t (l.map (fun x => (x.1 * b, x.2))) = FF (t * b) l
 | [] => rfl
 | x :: r => by
  rw [List.map_cons]
  show mn (t * (x.1 * b)) x.2 + _ = mn (t * b * x.1) x.2 + _
  rw [FF_scale b t r, show t * (x.1 * b) = t * b * x.1 by grind]
/-- If all weights are multiplied, the level is divided. -/
theorem Lv.scale {l : List (Rat × Rat)} {b T u t : Rat} (hb : 0 < b) (h : Lv (l.map (fun x => (x.1 * b, x.2))) T u) (k : Lv l T t) : u * b = t := by
 refine Lv.uniq ⟨Rat.mul_nonneg h.1 (Rat.le_of_lt hb), by rw [← FF_scale]; exact h.2.1, fun s h2 h3 => ?_⟩ k
 have hbb : s / b * b = s := Rat.div_mul_cancel (by grind)
 have h4 : 0 ≤ s / b := by
  refine Rat.not_lt.1 fun g => ?_
  have := Rat.mul_pos (show 0 < -(s / b) by grind) hb
  grind
 have h5 : s / b < u := by
  refine Rat.not_le.1 fun g => ?_
  have := Rat.mul_le_mul_of_nonneg_right g (Rat.le_of_lt hb)
  grind
 have := h.2.2 (s / b) h5 h4
 rw [FF_scale, hbb] at this
 exact this
end Go.Proofs.YtjgihmmeimfheaaGreat
namespace Go.Proofs.YtjgihmmeimfheaaGreat

/-- The sum of the first numbers of a row. -/
def su (g : Nat → Rat) : Nat → Rat
 | 0 => 0
 | k + 1 => su g k + g k
def sl (g : Nat → Rat) : List Nat → Rat
 | [] => 0
 | i :: r => g i + sl g r
theorem sl_perm {g : Nat → Rat} {l m : List Nat} (h : l.Perm m) : sl g l = sl g m := by
 induction h with
 | nil => rfl
 | cons x _ ih => unfold sl; rw [ih]
 | swap x y r => unfold sl sl; grind
 | trans _ _ a b => exact a.trans b
theorem sl_app (g : Nat → Rat) : ∀ (l m : List Nat), sl g (l ++ m) = sl g l + sl g m
 | [], m => by show sl g m = 0 + sl g m; grind
 | x :: r, m => by
  show g x + sl g (r ++ m) = g x + sl g r + sl g m
  rw [sl_app g r m]; grind
theorem sl_range (g : Nat → Rat) : ∀ n, sl g (List.range n) = su g n
 | 0 => rfl
 | n + 1 => by
  rw [List.range_succ, sl_app, sl_range g n]
  show su g n + (g n + 0) = su g n + g n
  grind
theorem su_congr {g h : Nat → Rat} : ∀ {n : Nat}, (∀ i, i < n → g i = h i) → su g n = su h n
 | 0, _ => rfl
 | n + 1, e => by unfold su; rw [su_congr (n := n) (fun i hi => e i (by omega)), e n (Nat.lt_succ_self n)]
theorem su_add (g h : Nat → Rat) : ∀ n, su (fun i => g i + h i) n = su g n + su h n
 | 0 => by show (0 : Rat) = 0 + 0; grind
 | n + 1 => by unfold su; rw [su_add g h n]; grind
theorem sl_le {g : Nat → Rat} : ∀ {l : List Nat}, (∀ i, i ∈ l → g i ≤ 1) → sl g l ≤ (l.length : Rat)
 | [], _ => Rat.le_refl
 | x :: r, h => by
  have h1 := sl_le (l := r) (fun i hi => h i (List.mem_cons_of_mem _ hi))
  have h2 := h x (List.mem_cons_self ..)
  show g x + sl g r ≤ ((r.length + 1 : Nat) : Rat)
  have e : ((r.length + 1 : Nat) : Rat) = (r.length : Rat) + 1 := by norm_cast
  rw [e]; grind
theorem sl_zero {g : Nat → Rat} : ∀ {l : List Nat}, (∀ i, i ∈ l → g i ≤ 0) → sl g l ≤ 0
 | [], _ => Rat.le_refl
 | x :: r, h => by
  have h1 := sl_zero (l := r) (fun i hi => h i (List.mem_cons_of_mem _ hi))
  have h2 := h x (List.mem_cons_self ..)
  show g x + sl g r ≤ 0
  grind
/-- How the claims are sorted: who lost more is first, who comes first is first. -/
def Ord (lost : Nat → Rat) (a b : Nat) : Prop := lost b < lost a ∨ (lost a = lost b ∧ a < b)
section
variable {n L : Nat} {lost : Nat → Rat} {s : List Nat} (hp : s.Perm (List.range n)) (hs : s.Pairwise (Ord lost)) (h01 : ∀ i, i < n → 0 ≤ lost i ∧ lost i < 1) (hL : su lost n = (L : Rat))
include hp h01 hL
theorem units_le : L ≤ n := by
 have h1 : sl lost s ≤ (s.length : Rat) := sl_le fun i hi => Rat.le_of_lt (h01 i (List.mem_range.1 (hp.mem_iff.1 hi))).2
 rw [sl_perm hp, sl_range, hL, hp.length_eq, List.length_range] at h1
 exact_mod_cast h1
include hs
theorem units_pos {i : Nat} (hi : i ∈ s.take L) : 0 < lost i := by
 refine Rat.not_le.1 fun g => ?_
 obtain ⟨a, b, hab⟩ := List.append_of_mem hi
 have hal : a.length < L := by
  have := congrArg List.length hab
  rw [List.length_take, List.length_append, List.length_cons] at this
  omega
 have e : s = a ++ (i :: (b ++ s.drop L)) := by
  have h := (List.take_append_drop L s).symm
  rw [hab, List.append_assoc, List.cons_append] at h
  exact h
 rw [e] at hs
 have h2 := (List.pairwise_cons.1 (List.pairwise_append.1 hs).2.1).1
 have h3 : sl lost (i :: (b ++ s.drop L)) ≤ 0 := sl_zero fun k hk => by
  rcases List.mem_cons.1 hk with rfl | hr
  · exact g
  ·
   have := h2 k hr
   unfold Ord at this
   rcases this with h | h <;> grind
 have h4 : sl lost a ≤ (a.length : Rat) := sl_le fun k hk => Rat.le_of_lt (h01 k (List.mem_range.1 (hp.mem_iff.1 (by rw [e]; exact List.mem_append_left _ hk)))).2
 have h5 := sl_perm (g := lost) hp
 rw [sl_range, hL, e, sl_app] at h5
 have h6 : (L : Rat) ≤ (a.length : Rat) := by grind
 have h7 : L ≤ a.length := by exact_mod_cast h6
 omega
omit h01 hL in
theorem units_fair {i k : Nat} (hi : i ∈ s.take L) (hk : k < n) (hn : k ∉ s.take L) : Ord lost i k := by
 have hks : k ∈ s := hp.mem_iff.2 (List.mem_range.2 hk)
 rw [← List.take_append_drop L s] at hs hks
 exact (List.pairwise_append.1 hs).2.2 i hi k ((List.mem_append.1 hks).resolve_left hn)
omit h01 hL hs in
theorem units_nodup : s.Nodup := hp.nodup_iff.2 List.nodup_range
omit hs in
theorem units_sum (low : Nat → Rat) : su (fun i => low i + if i ∈ s.take L then 1 else 0) n = su low n + (L : Rat) := by
 rw [su_add]
 have hLn := units_le hp h01 hL
 have hnd := units_nodup (n := n) hp
 have h1 : ∀ (l : List Nat), (∀ i, i ∈ l → i ∈ s.take L) → sl (fun i => if i ∈ s.take L then (1 : Rat) else 0) l = (l.length : Rat) := fun l => by
  induction l with
  | nil => intro _; rfl
  | cons x r ih =>
   intro h
   show (if x ∈ s.take L then (1 : Rat) else 0) + _ = ((r.length + 1 : Nat) : Rat)
   rw [if_pos (h x (List.mem_cons_self ..)), ih (fun i hi => h i (List.mem_cons_of_mem _ hi))]
   norm_cast
   exact Nat.add_comm _ _
 have h2 : ∀ (l : List Nat), (∀ i, i ∈ l → i ∉ s.take L) → sl (fun i => if i ∈ s.take L then (1 : Rat) else 0) l = 0 := fun l => by
  induction l with
  | nil => intro _; rfl
  | cons x r ih =>
   intro h
   show (if x ∈ s.take L then (1 : Rat) else 0) + _ = 0
   rw [if_neg (h x (List.mem_cons_self ..)), ih (fun i hi => h i (List.mem_cons_of_mem _ hi))]
   grind
 have h3 : su (fun i => if i ∈ s.take L then (1 : Rat) else 0) n = (L : Rat) := by
  rw [← sl_range, ← sl_perm hp]
  have e := List.take_append_drop L s
  have h4 := sl_app (fun i => if i ∈ s.take L then (1 : Rat) else 0) (s.take L) (s.drop L)
  rw [e] at h4
  rw [h4, h1 _ (fun i hi => hi), h2 _ (fun i hi hi2 => ?_), List.length_take, hp.length_eq, List.length_range, Nat.min_eq_left hLn]
  · grind
  ·
   rw [← e] at hnd
   exact (List.nodup_append.1 hnd).2.2 i hi2 i hi rfl
 rw [h3]
end
end Go.Proofs.YtjgihmmeimfheaaGreat
