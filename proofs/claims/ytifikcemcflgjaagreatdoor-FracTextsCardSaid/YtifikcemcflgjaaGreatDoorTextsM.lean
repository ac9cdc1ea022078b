/-
  Texts and the numbers that they stand for: plain laws.
-/
import Derived.Test.YtifikcemcflgjaaGreatDoorK10
import Derived.Test.YtifikcemcflgjaaGreatDoorK4
namespace Go.Proofs.YtifikcemcflgjaaGreatDoor
open Go.RowKit

theorem pow_up {B m t j n k : Nat} (h : B ^ m ≤ t ^ j) (ht : 0 < t) (hk : j * n ≤ k) : B ^ (m * n) ≤ t ^ k := by
  rw [Nat.pow_mul]
  refine Nat.le_trans (Nat.pow_le_pow_left h n) ?_
  rw [← Nat.pow_mul]
  exact Nat.pow_le_pow_right ht hk
theorem pow_a (k : Nat) (hk : 100 * 5 ≤ k) : b16 ^ 100 ≤ 10 ^ k := pow_up (B := b16) (m := 20) (t := 10) (j := 100) (n := 5) (by decide) (by decide) hk
theorem pow_dn {t j B m n k : Nat} (h : t ^ j ≤ B ^ m) (ht : 0 < t) (hk : k ≤ j * n) : t ^ k ≤ B ^ (m * n) := by
  rw [Nat.pow_mul B]
  refine Nat.le_trans (Nat.pow_le_pow_right ht hk) ?_
  rw [Nat.pow_mul]
  exact Nat.pow_le_pow_left h n
theorem pow_b (k : Nat) (hk : k ≤ 4 * 100) : 10 ^ k ≤ b16 ^ 100 := pow_dn (t := 10) (j := 4) (B := b16) (m := 1) (n := 100) (by decide) (by decide) hk
theorem dg_cons (u : Nat) : ∃ c r, Lib.decDigits u = c :: r ∧ 48 ≤ c.toNat ∧ c.toNat ≤ 57 := by
  have hl := Lib.nDigits_pos u
  rw [← Lib.decDigits_length] at hl
  cases h : Lib.decDigits u with
  | nil => rw [h] at hl; simp at hl
  | cons c r => exact ⟨c, r, rfl, dec_dg u c (by rw [h]; simp)⟩
theorem itoa_num (z : Int) : Lib.itoa z = (if decide (z < 0) then [45] else []) ++ Lib.decDigits z.natAbs := (numeral_itoa z).symm
theorem neg_dg {c : UInt8} (h : 48 ≤ c.toNat) : (c == 45) = false := beq_eq_false_iff_ne.2 fun e => by subst e; exact absurd h (by decide)
theorem itoa_shape (z : Int) (m : List UInt8) : negT (Lib.itoa z ++ m) = decide (z < 0) ∧ bodyT (Lib.itoa z ++ m) = Lib.decDigits z.natAbs ++ m := by
  obtain ⟨c, r, hc, h1, h2⟩ := dg_cons z.natAbs
  rw [itoa_num, hc]
  cases decide (z < 0)
  · have hn : negT ((if false = true then [45] else []) ++ c :: r ++ m) = false := by
      show negT (c :: (r ++ m)) = false
      rw [neg_cons, neg_dg h1]
    refine ⟨hn, ?_⟩
    unfold bodyT
    rw [hn]
    rfl
  · have hn : negT ((if true = true then [45] else []) ++ c :: r ++ m) = true := rfl
    refine ⟨hn, ?_⟩
    unfold bodyT
    rw [hn]
    rfl
theorem allDg_of {d : List UInt8} (h : ∀ c ∈ d, 48 ≤ c.toNat ∧ c.toNat ≤ 57) (k : Nat) : allDg d k := fun _ _ c hc => h c (List.mem_of_getElem? hc)
theorem head_zero {u : Nat} {r : List UInt8} (h : Lib.decDigits u = 48 :: r) : u = 0 ∧ r = [] := by
  have h0 : u = 0 := by
    rcases Nat.eq_zero_or_pos u with h1 | h1
    · exact h1
    · exact absurd (by rw [h]; rfl) (dec_head_pos h1)
  subst h0
  rw [Lib.decDigits_one (by decide)] at h
  exact ⟨rfl, (List.cons.inj h).2.symm⟩
theorem numOK_itoa (z : Int) : numOK (Lib.itoa z) := by
  have hs := itoa_shape z []
  rw [List.append_nil, List.append_nil] at hs
  unfold numOK
  rw [hs.1, hs.2]
  refine ⟨?_, allDg_of (dec_dg _) _⟩
  obtain ⟨c, r, hc, h1, h2⟩ := dg_cons z.natAbs
  rw [hc, badHead_cons]
  by_cases hz : c = 48
  · subst hz
    obtain ⟨h3, rfl⟩ := head_zero hc
    rw [decide_eq_false (show ¬ z < 0 by omega)]
    rfl
  · rw [beq_eq_false_iff_ne.2 hz, Bool.false_and]
theorem numOK_more {z : Int} (hz : z ≠ 0) {c' : UInt8} (h : 48 ≤ c'.toNat ∧ c'.toNat ≤ 57) : numOK (Lib.itoa z ++ [c']) := by
  have hs := itoa_shape z [c']
  unfold numOK
  rw [hs.1, hs.2]
  refine ⟨?_, allDg_of (fun x hx => ?_) _⟩
  · obtain ⟨c, r, hc, h1, h2⟩ := dg_cons z.natAbs
    rw [hc, List.cons_append, badHead_cons]
    have hne : c ≠ 48 := fun e => by subst e; have := (head_zero hc).1; omega
    rw [beq_eq_false_iff_ne.2 hne, Bool.false_and]
  · rcases List.mem_append.1 hx with h3 | h3
    · exact dec_dg _ x h3
    · rw [List.mem_singleton.1 h3]; exact h
theorem pv_cons_ge {c : UInt8} {r : List UInt8} (h : 49 ≤ c.toNat) : 10 ^ r.length ≤ pv (c :: r) := by
  have h1 := pv_append [c] r
  rw [show [c] ++ r = c :: r from rfl] at h1
  rw [h1]
  have h2 : pv [c] = c.toNat - 48 := by simp [pv]
  rw [h2]
  have h3 : 1 * 10 ^ r.length ≤ (c.toNat - 48) * 10 ^ r.length := Nat.mul_le_mul_right _ (by omega)
  omega
theorem dec_len {u k : Nat} (h : u < 10 ^ k) (hk : 0 < k) : (Lib.decDigits u).length ≤ k := by
  obtain ⟨c, r, hc, h1, h2⟩ := dg_cons u
  rw [hc]
  by_cases hz : c = 48
  · subst hz
    obtain ⟨_, rfl⟩ := head_zero hc
    exact hk
  · have h3 : c.toNat ≠ 48 := fun e => hz (UInt8.toNat.inj e)
    have h4 := pv_cons_ge (c := c) (r := r) (by omega)
    rw [← hc, pv_dec] at h4
    have h5 : 10 ^ r.length < 10 ^ k := Nat.lt_of_le_of_lt h4 h
    have h6 := (Nat.pow_lt_pow_iff_right (by decide : 1 < 10)).1 h5
    rw [List.length_cons]
    omega
theorem text_len {z : Int} (h : ln b16 z.natAbs ≤ 100) : (Lib.decDigits z.natAbs).length ≤ 500 := by
  obtain ⟨k, hk⟩ : ∃ k, k = 500 := ⟨_, rfl⟩
  have h1 := dec_len (k := k) (Nat.lt_of_lt_of_le ((ln_le b16_two).1 h) (pow_a k (by omega))) (by omega)
  omega
/-- A text that is parsed is the text of its value. -/
theorem itoa_back {l : List UInt8} (h : numOK l) : Lib.itoa (toI (negT l) (pv (bodyT l))) = l := by
  obtain ⟨h1, h2⟩ := h
  have hl : l = (if negT l then [45] else []) ++ bodyT l := by
    unfold bodyT
    cases hn : negT l
    · rfl
    · cases l with
      | nil => cases hn
      | cons c r =>
        rw [neg_cons] at hn
        rw [LawfulBEq.eq_of_beq hn]
        rfl
  generalize negT l = g at *
  generalize bodyT l = d at *
  cases d with
  | nil => cases g <;> cases h1
  | cons c r =>
    rw [badHead_cons] at h1
    by_cases hc : c = 48
    · subst hc
      have h3 : (g || decide (0 < r.length)) = false := h1
      rw [Bool.or_eq_false_iff] at h3
      obtain ⟨rfl, h4⟩ := h3
      have h5 : r = [] := List.eq_nil_of_length_eq_zero (by have := of_decide_eq_false h4; omega)
      subst h5
      rw [hl, show toI false (pv [48]) = 0 from rfl, itoa_num, show (0 : Int).natAbs = 0 from rfl, Lib.decDigits_one (by decide)]
      rfl
    · have h3 := dec_pv (c :: r) (fun x hx => by
        obtain ⟨i, hi, rfl⟩ := List.mem_iff_getElem.1 hx
        exact h2 i hi _ (List.getElem?_eq_getElem _)) (by simpa using hc) (by simp)
      rw [itoa_num, toI_neg, toI_abs, h3.1, decide_eq_true h3.2, Bool.and_true]
      exact hl.symm
theorem pv_len {l : List UInt8} (h : numOK l) {k : Nat} (hk : l.length ≤ k) : pv (bodyT l) < 10 ^ k := by
  have h1 := pv_lt (bodyT l) (fun x hx => by
    obtain ⟨i, hi, rfl⟩ := List.mem_iff_getElem.1 hx
    exact (h.2 i hi _ (List.getElem?_eq_getElem _)).2)
  have h2 : (bodyT l).length ≤ l.length := by
    unfold bodyT
    split
    · rw [List.length_drop]; omega
    · exact Nat.le_refl _
  exact Nat.lt_of_lt_of_le h1 (Nat.pow_le_pow_right (by decide) (by omega))
theorem ln_text {l : List UInt8} (h : numOK l) (hk : l.length ≤ 400) : ln b16 (toI (negT l) (pv (bodyT l))).natAbs ≤ 100 := by
  rw [toI_abs]
  exact (ln_le b16_two).2 (Nat.lt_of_lt_of_le (pv_len h (Nat.le_refl _)) (pow_b _ hk))
/-- The value of a text with one digit more. -/
theorem val_more (z : Int) (c' : UInt8) : toI (negT (Lib.itoa z ++ [c'])) (pv (bodyT (Lib.itoa z ++ [c']))) = z * 10 + (if z < 0 then -((c'.toNat - 48 : Nat) : Int) else ((c'.toNat - 48 : Nat) : Int)) := by
  have hs := itoa_shape z [c']
  rw [hs.1, hs.2, pv_snoc, pv_dec]
  unfold toI
  by_cases h : z < 0
  · rw [decide_eq_true h, if_pos rfl, if_pos h]; omega
  · rw [decide_eq_false h, if_neg (by decide), if_neg h]; omega
theorem val_itoa (z : Int) : toI (negT (Lib.itoa z)) (pv (bodyT (Lib.itoa z))) = z := by
  have hs := itoa_shape z []
  rw [List.append_nil, List.append_nil] at hs
  rw [hs.1, hs.2, pv_dec, toI_int]
theorem len_body_itoa {z : Int} (h : ln b16 z.natAbs ≤ 100) (m : List UInt8) (hm : m.length ≤ 1) : (bodyT (Lib.itoa z ++ m)).length ≤ 501 ∧ (Lib.itoa z ++ m).length ≤ 502 ∧ 0 < (Lib.itoa z).length := by
  have h1 := text_len h
  have h2 := itoa_shape z m
  obtain ⟨c, r, hc, -, -⟩ := dg_cons z.natAbs
  refine ⟨by rw [h2.2, List.length_append]; omega, ?_, ?_⟩
  · rw [itoa_num, List.length_append, List.length_append]
    split <;> simp <;> omega
  · rw [itoa_num, hc, List.length_append, List.length_cons]; omega
/-- The first sign of a number's text. -/
theorem itoa_first (z : Int) : ∃ c r, Lib.itoa z = c :: r ∧ (c == 45) = decide (z < 0) := by
  have hs := itoa_shape z []
  rw [List.append_nil] at hs
  cases h : Lib.itoa z with
  | nil =>
    obtain ⟨c, r, hc, -, -⟩ := dg_cons z.natAbs
    rw [itoa_num, hc] at h
    simp at h
  | cons c r => exact ⟨c, r, rfl, by rw [← hs.1, h, neg_cons]⟩
end Go.Proofs.YtifikcemcflgjaaGreatDoor
