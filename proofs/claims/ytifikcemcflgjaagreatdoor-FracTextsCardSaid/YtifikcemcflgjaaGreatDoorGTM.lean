/-
  The text of a fraction, in plain Lean: cut at the slash, and read back.
-/
import Derived.Test.YtifikcemcflgjaaGreatDoorK5
import Derived.Test.YtifikcemcflgjaaGreatDoorTextsM
import Derived.Lib.IndexMore
import Derived.Lib.IndexLaws
namespace Go.Proofs.YtifikcemcflgjaaGreatDoor
open Go.RowKit

/-- The text of a fraction. -/
def ftext (q : Rat) : List UInt8 := if q.den = 1 then Lib.itoa q.num else Lib.itoa q.num ++ 47 :: Lib.itoa (q.den : Int)

theorem occ47 {l : List UInt8} {j : Nat} (h : (47 : UInt8) ∉ l) (r : List UInt8) (hj : j < l.length) : Lib.occAt (l ++ r) [47] j = false := by
  rw [Bool.eq_false_iff]
  intro ho
  have h1 := Lib.occAt_head rfl ho
  rw [List.getElem?_append_left hj] at h1
  exact h (List.mem_of_getElem? h1)
theorem cut_no {l : List UInt8} (h : (47 : UInt8) ∉ l) : Lib.cut l [47] = (l, [], false) := by
  have h1 : Lib.index l [47] = -1 := Lib.index_past (by decide) (i := l.length) (fun j hj => by
    have := occ47 h [] hj
    rwa [List.append_nil] at this) (by simp)
  unfold Lib.cut
  rw [h1, if_neg (by omega)]
theorem cut_at {l r : List UInt8} (h : (47 : UInt8) ∉ l) : Lib.cut (l ++ 47 :: r) [47] = (l, r, true) := by
  have h1 : Lib.index (l ++ 47 :: r) [47] = (l.length : Nat) := Lib.index_first (i := l.length) (by simp) (by simp [Lib.occAt]) (fun j hj => occ47 h _ hj)
  unfold Lib.cut
  rw [h1, if_pos (by omega)]
  simp
theorem itoa_47 (z : Int) : (47 : UInt8) ∉ Lib.itoa z := by
  intro hm
  rw [itoa_num] at hm
  have hd := (numOK_itoa z).2
  have hb : bodyT (Lib.itoa z) = Lib.decDigits z.natAbs := by
    have := (itoa_shape z []).2
    simpa using this
  rw [hb] at hd
  rcases List.mem_append.1 hm with h | h
  · split at h
    · exact absurd (List.mem_singleton.1 h) (by decide)
    · cases h
  · obtain ⟨i, hi, he⟩ := List.getElem_of_mem h
    have := hd i hi 47 (by rw [List.getElem?_eq_getElem hi, he])
    exact absurd this.1 (by decide)
theorem ftext_cut (q : Rat) : Lib.cut (ftext q) [47] = (Lib.itoa q.num, if q.den = 1 then [] else Lib.itoa (q.den : Int), !decide (q.den = 1)) := by
  unfold ftext
  by_cases h : q.den = 1
  · rw [if_pos h, if_pos h, cut_no (itoa_47 _), decide_eq_true h]; rfl
  · rw [if_neg h, if_neg h, cut_at (itoa_47 _), decide_eq_false h]; rfl
theorem cut_back {l a b : List UInt8} (h : Lib.cut l [47] = (a, b, true)) : l = a ++ 47 :: b := by
  unfold Lib.cut at h
  split at h
  · rcases Lib.index_spec l [47] with ⟨h1, _⟩ | ⟨i, h1, h2, h3, _⟩
    · omega
    · rw [h1] at h
      have h4 := Lib.occAt_head rfl h3
      injection h with e1 e2
      injection e2 with e2 _
      rw [show ((i : Int)).toNat = i by omega] at e1 e2
      obtain ⟨hlt, h5⟩ := List.getElem?_eq_some_iff.1 h4
      rw [← e1, ← e2]
      have := List.take_append_drop i l
      rw [List.drop_eq_getElem_cons hlt, h5] at this
      simpa using this.symm
  · injection h with _ e2
    injection e2 with _ e3
    cases e3
theorem cut_none {l a b : List UInt8} (h : Lib.cut l [47] = (a, b, false)) : a = l := by
  unfold Lib.cut at h
  split at h
  · injection h with _ e2
    injection e2 with _ e3
    cases e3
  · injection h with e1 _
    exact e1.symm
theorem itoa_inj {y z : Int} (h : Lib.itoa y = Lib.itoa z) : y = z := by rw [← val_itoa y, ← val_itoa z, h]
theorem ftext_inj {p q : Rat} (h : ftext p = ftext q) : p = q := by
  have h1 := ftext_cut p
  rw [h, ftext_cut q] at h1
  injection h1 with e1 e2
  injection e2 with e2 e3
  have e1 := itoa_inj e1
  refine Rat.ext e1.symm ?_
  by_cases hp : p.den = 1
  · rw [decide_eq_true hp] at e3
    have : q.den = 1 := of_decide_eq_true (by simpa using e3)
    omega
  · rw [decide_eq_false hp] at e3
    have hq : q.den ≠ 1 := of_decide_eq_false (by simpa using e3)
    rw [if_neg hp, if_neg hq] at e2
    have := itoa_inj e2
    omega
theorem tx_first {l a b : List UInt8} {s : Bool} {q : Rat} (hc : Lib.cut l [47] = (a, b, s)) (h : ftext q = l) : a = Lib.itoa q.num ∧ b = (if q.den = 1 then [] else Lib.itoa (q.den : Int)) ∧ s = !decide (q.den = 1) := by
  rw [← h, ftext_cut] at hc
  injection hc with e1 e2
  injection e2 with e2 e3
  exact ⟨e1.symm, e2.symm, e3.symm⟩
theorem no_first {l a b : List UInt8} {s : Bool} (hc : Lib.cut l [47] = (a, b, s)) (h : ¬ numOK a) (q : Rat) : ftext q ≠ l := fun e => h (by rw [(tx_first hc e).1]; exact numOK_itoa _)
theorem tx_second {l a b : List UInt8} {q : Rat} (hc : Lib.cut l [47] = (a, b, true)) (h : ftext q = l) : q.den ≠ 1 ∧ b = Lib.itoa (q.den : Int) := by
  obtain ⟨_, h2, h3⟩ := tx_first hc h
  have : q.den ≠ 1 := fun e => by rw [decide_eq_true e] at h3; cases h3
  rw [if_neg this] at h2
  exact ⟨this, h2⟩
theorem no_second {l a b : List UInt8} (hc : Lib.cut l [47] = (a, b, true)) (h : ¬ numOK b) (q : Rat) : ftext q ≠ l := fun e => h (by rw [(tx_second hc e).2]; exact numOK_itoa _)
theorem no_minus {l a b : List UInt8} (hc : Lib.cut l [47] = (a, b, true)) (h : b.head? = some 45) (q : Rat) : ftext q ≠ l := fun e => by
  obtain ⟨_, h2⟩ := tx_second hc e
  obtain ⟨c, r, h3, h4⟩ := itoa_first (q.den : Int)
  rw [h2, h3, List.head?_cons] at h
  injection h with h
  rw [h] at h4
  have := of_decide_eq_true h4.symm
  omega
theorem numOK_49 : numOK [49] := by
  refine ⟨by decide, fun i hi d hd => ?_⟩
  match i, hi with
  | 0, _ =>
    have : (49 : UInt8) = d := by simpa [bodyT, negT] using hd
    subst this
    exact ⟨by decide, by decide⟩
  | i + 1, hi => simp [bodyT, negT] at hi
theorem numOK_48 : numOK [48] := by
  refine ⟨by decide, fun i hi d hd => ?_⟩
  match i, hi with
  | 0, _ =>
    have : (48 : UInt8) = d := by simpa [bodyT, negT] using hd
    subst this
    exact ⟨by decide, by decide⟩
  | i + 1, hi => simp [bodyT, negT] at hi
theorem itoa_zero : Lib.itoa 0 = [48] := itoa_back numOK_48
theorem itoa_one : Lib.itoa 1 = [49] := itoa_back numOK_49
theorem no_zero {l a b : List UInt8} (hc : Lib.cut l [47] = (a, b, true)) (h : b = [48]) (q : Rat) : ftext q ≠ l := fun e => by
  obtain ⟨_, h2⟩ := tx_second hc e
  rw [h, ← itoa_zero] at h2
  have := itoa_inj h2
  have := q.den_pos
  omega
theorem no_one {l a b : List UInt8} (hc : Lib.cut l [47] = (a, b, true)) (h : b = [49]) (q : Rat) : ftext q ≠ l := fun e => by
  obtain ⟨h1, h2⟩ := tx_second hc e
  rw [h, ← itoa_one] at h2
  have := itoa_inj h2
  omega
/-- The number that a text stands for. -/
abbrev valT (l : List UInt8) : Int := toI (negT l) (pv (bodyT l))
theorem no_gcd {l a b : List UInt8} (hc : Lib.cut l [47] = (a, b, true)) (h : Nat.gcd (valT a).natAbs (valT b).natAbs ≠ 1) (q : Rat) : ftext q ≠ l := fun e => by
  have h1 := (tx_first hc e).1
  have h2 := (tx_second hc e).2
  rw [h1, h2] at h
  unfold valT at h
  rw [val_itoa, val_itoa] at h
  exact h q.reduced
theorem val_pos {b : List UInt8} (hb : numOK b) (h1 : b.head? ≠ some 45) (h2 : b ≠ [48]) : 0 < valT b := by
  have hn : negT b = false := by unfold negT; rw [beq_eq_false_iff_ne]; exact h1
  have h3 := itoa_back hb
  have h4 : 0 ≤ valT b := by unfold valT; rw [hn]; exact Int.natCast_nonneg _
  have h5 : valT b ≠ 0 := fun e => h2 (by rw [← h3]; show Lib.itoa (valT b) = [48]; rw [e]; exact itoa_zero)
  omega
theorem yes_slash {l a b : List UInt8} {q : Rat} (hc : Lib.cut l [47] = (a, b, true)) (ha : numOK a) (hb : numOK b) (h1 : b ≠ [49]) (hn : q.num = valT a) (hd : (q.den : Int) = valT b) : ftext q = l := by
  have hq : q.den ≠ 1 := fun e => h1 (by rw [← itoa_back hb]; show Lib.itoa (valT b) = [49]; rw [← hd, e]; exact itoa_one)
  unfold ftext
  rw [if_neg hq, hn, hd, cut_back hc]
  unfold valT
  rw [itoa_back ha, itoa_back hb]
theorem yes_whole {l a b : List UInt8} {q : Rat} (hc : Lib.cut l [47] = (a, b, false)) (ha : numOK a) (hn : q.num = valT a) (hd : q.den = 1) : ftext q = l := by
  unfold ftext
  rw [if_pos hd, hn, ← cut_none hc]
  exact itoa_back ha
end Go.Proofs.YtifikcemcflgjaaGreatDoor
