/-
  The plain laws of sorting by insertion.
-/
import Derived.Test.YtjgihmmeimfheaaGreatK5
namespace Go.Proofs.YtjgihmmeimfheaaGreat

/-- Who has the smaller key is first; of equal ones who came first. -/
def Lex (κ : Nat → Rat) (a b : Nat) : Prop := κ a < κ b ∨ (κ a = κ b ∧ a < b)
def Bij (n : Nat) (p : Nat → Nat) : Prop := (∀ k, k < n → p k < n) ∧ (∀ a b, a < n → b < n → p a = p b → a = b) ∧ ∀ y, y < n → ∃ k, k < n ∧ p k = y
/-- Two neighbours are exchanged. -/
def swp (p : Nat → Nat) (j : Nat) : Nat → Nat := fun k => if k = j then p (j - 1) else if k = j - 1 then p j else p k
/-- The first i are sorted. -/
def Srd (n : Nat) (κ : Nat → Rat) (i : Nat) (p : Nat → Nat) : Prop := Bij n p ∧ (∀ k, i ≤ k → k < n → p k = k) ∧ (∀ k, k < i → k < n → p k < i) ∧ ∀ a b, a < b → b < i → b < n → Lex κ (p a) (p b)
/-- Number i is on its way down, at j. -/
def Ins (n : Nat) (κ : Nat → Rat) (i j : Nat) (p : Nat → Nat) : Prop :=
 Bij n p ∧ p j = i ∧ (∀ k, i < k → k < n → p k = k) ∧ (∀ k, k ≤ i → k ≠ j → p k < i) ∧ (∀ a b, a < b → b ≤ i → a ≠ j → b ≠ j → Lex κ (p a) (p b)) ∧ ∀ b, j < b → b ≤ i → κ i < κ (p b)
theorem Bij.id (n : Nat) : Bij n (fun k => k) := ⟨fun _ h => h, fun _ _ _ _ h => h, fun y h => ⟨y, h, rfl⟩⟩
theorem swp_j (p : Nat → Nat) (j : Nat) : swp p j j = p (j - 1) := if_pos rfl
theorem swp_j1 (p : Nat → Nat) {j : Nat} (h : 0 < j) : swp p j (j - 1) = p j := by unfold swp; rw [if_neg (by omega), if_pos rfl]
theorem swp_o (p : Nat → Nat) {j k : Nat} (h : k ≠ j) (h1 : k ≠ j - 1) : swp p j k = p k := by unfold swp; rw [if_neg h, if_neg h1]
/-- Where the exchanged row has its number k. -/
def tau (j k : Nat) : Nat := if k = j then j - 1 else if k = j - 1 then j else k
theorem swp_tau (p : Nat → Nat) (j k : Nat) : swp p j k = p (tau j k) := by
 unfold swp tau
 split
 · rfl
 · split <;> rfl
theorem tau_tau {j : Nat} (h : 0 < j) (k : Nat) : tau j (tau j k) = k := by
 unfold tau
 by_cases h1 : k = j
 · rw [if_pos h1, if_neg (by omega), if_pos rfl]; exact h1.symm
 ·
  rw [if_neg h1]
  by_cases h2 : k = j - 1
  · rw [if_pos h2, if_pos rfl]; exact h2.symm
  · rw [if_neg h2, if_neg h1, if_neg h2]
theorem tau_lt {j k n : Nat} (hj : j < n) (hk : k < n) : tau j k < n := by
 unfold tau
 split
 · omega
 · split <;> omega
theorem Bij.swap {n j : Nat} {p : Nat → Nat} (h : Bij n p) (h0 : 0 < j) (hj : j < n) : Bij n (swp p j) := by
 obtain ⟨h1, h2, h3⟩ := h
 refine ⟨fun k hk => by rw [swp_tau]; exact h1 _ (tau_lt hj hk), fun a b ha hb e => ?_, fun y hy => ?_⟩
 ·
  rw [swp_tau, swp_tau] at e
  have := h2 _ _ (tau_lt hj ha) (tau_lt hj hb) e
  rw [← tau_tau h0 a, this, tau_tau h0]
 ·
  obtain ⟨k, hk, e⟩ := h3 y hy
  exact ⟨tau j k, tau_lt hj hk, by rw [swp_tau, tau_tau h0]; exact e⟩
theorem Srd.start (n : Nat) (κ : Nat → Rat) : Srd n κ 1 (fun k => k) := ⟨Bij.id n, fun _ _ _ => rfl, fun _ h _ => h, fun a b h1 h2 _ => absurd h1 (by omega)⟩
theorem Srd.ins {n i : Nat} {κ : Nat → Rat} {p : Nat → Nat} (h : Srd n κ i p) (hi : i < n) : Ins n κ i i p := by
 obtain ⟨h1, h2, h3, h4⟩ := h
 exact ⟨h1, h2 i (Nat.le_refl _) hi, fun k hk hn => h2 k (by omega) hn, fun k hk hne => h3 k (by omega) (by omega), fun a b hab hb _ hne => h4 a b hab (by omega) (by omega), fun b hb hb2 => absurd hb (by omega)⟩
theorem Ins.swap {n i j : Nat} {κ : Nat → Rat} {p : Nat → Nat} (h : Ins n κ i j p) (h0 : 0 < j) (hj : j ≤ i) (hi : i < n) (hk : κ (p j) < κ (p (j - 1))) : Ins n κ i (j - 1) (swp p j) := by
 obtain ⟨h1, h2, h3, h4, h5, h6⟩ := h
 refine ⟨h1.swap h0 (by omega), by rw [swp_j1 p h0, h2], fun k hk hn => by rw [swp_o p (by omega) (by omega)]; exact h3 k hk hn, fun k hk hne => ?_, fun a b hab hb ha hb2 => ?_, fun b hb hb2 => ?_⟩
 ·
  by_cases c : k = j
  · subst c; rw [swp_j]; exact h4 _ (by omega) (by omega)
  · rw [swp_o p c hne]; exact h4 k hk c
 ·
  by_cases c : b = j
  ·
   subst c
   rw [swp_j, swp_o p (by omega) ha]
   exact h5 a (b - 1) (by omega) (by omega) (by omega) (by omega)
  ·
   rw [swp_o p c hb2]
   by_cases c2 : a = j
   ·
    subst c2
    rw [swp_j]
    exact h5 (a - 1) b (by omega) hb (by omega) (by omega)
   ·
    rw [swp_o p c2 ha]
    exact h5 a b hab hb c2 c
 ·
  by_cases c : b = j
  ·
   subst c
   rw [swp_j, ← h2]; exact hk
  ·
   rw [swp_o p c (by omega)]
   exact h6 b (by omega) hb2
theorem Ins.done {n i j : Nat} {κ : Nat → Rat} {p : Nat → Nat} (h : Ins n κ i j p) (hj : j ≤ i) (hk : j = 0 ∨ ¬ κ (p j) < κ (p (j - 1))) : Srd n κ (i + 1) p := by
 obtain ⟨h1, h2, h3, h4, h5, h6⟩ := h
 have hlt : ∀ k, k ≤ i → p k ≤ i := fun k hk => by
  by_cases c : k = j
  · subst c; omega
  · exact Nat.le_of_lt (h4 k hk c)
 refine ⟨h1, fun k hk hn => h3 k (by omega) hn, fun k hk _ => by have := hlt k (by omega); omega, fun a b hab hb hn => ?_⟩
 by_cases c : b = j
 ·
  subst c
  rw [h2]
  have h7 : p a < i := h4 a (by omega) (by omega)
  have h8 : ¬ κ i < κ (p (b - 1)) := by
   rcases hk with hk | hk
   · omega
   · rw [h2] at hk; exact hk
  by_cases c2 : a = b - 1
  ·
   subst c2
   unfold Lex
   grind
  ·
   have h9 := h5 a (b - 1) (by omega) (by omega) (by omega) (by omega)
   unfold Lex at h9 ⊢
   grind
 ·
  by_cases c2 : a = j
  ·
   subst c2
   rw [h2]
   exact .inl (h6 b hab (by omega))
  · exact h5 a b hab (by omega) c2 c
theorem Bij.list {n : Nat} {p : Nat → Nat} (h : Bij n p) : ((List.range n).map p).Perm (List.range n) := by
 obtain ⟨h1, h2, h3⟩ := h
 refine (List.perm_ext_iff_of_nodup ?_ List.nodup_range).2 fun y => ?_
 ·
  unfold List.Nodup
  rw [List.pairwise_map]
  refine (List.nodup_range (n := n)).imp_of_mem fun {a b} ha hb hne e => hne (h2 a b (List.mem_range.1 ha) (List.mem_range.1 hb) e)
 ·
  rw [List.mem_map, List.mem_range]
  constructor
  ·
   rintro ⟨k, hk, rfl⟩
   exact h1 k (List.mem_range.1 hk)
  ·
   intro hy
   obtain ⟨k, hk, e⟩ := h3 y hy
   exact ⟨k, List.mem_range.2 hk, e⟩
theorem Srd.list {n i : Nat} {κ : Nat → Rat} {p : Nat → Nat} (h : Srd n κ i p) (hi : n ≤ i) : ((List.range n).map p).Perm (List.range n) ∧ ((List.range n).map p).Pairwise (Lex κ) := by
 refine ⟨h.1.list, ?_⟩
 rw [List.pairwise_map]
 refine List.pairwise_lt_range.imp_of_mem fun {a b} ha hb hab => ?_
 have := List.mem_range.1 hb
 exact h.2.2.2 a b hab (by omega) this
theorem Srd.full {n i : Nat} {κ : Nat → Rat} {p : Nat → Nat} (h : Srd n κ i p) (hi : n ≤ i) : Srd n κ n p := ⟨h.1, fun k hk hn => absurd hn (by omega), fun k _ hn => h.1.1 k hn, fun a b hab _ hn => h.2.2.2 a b hab (by omega) hn⟩
theorem Srd.ext {n i : Nat} {κ κ' : Nat → Rat} {p : Nat → Nat} (h : Srd n κ i p) (e : ∀ k, k < n → κ k = κ' k) : Srd n κ' i p := by
 obtain ⟨h1, h2, h3, h4⟩ := h
 refine ⟨h1, h2, h3, fun a b hab hb hn => ?_⟩
 have := h4 a b hab hb hn
 unfold Lex at this ⊢
 rwa [e _ (h1.1 a (by omega)), e _ (h1.1 b hn)] at this
end Go.Proofs.YtjgihmmeimfheaaGreat
