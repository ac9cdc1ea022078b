/-
  Several texts in one: Moves of a walk through a drawn region, in short words. Plain arithmetic of digits: the j-th digit of a number, the number of digits, the sum of digits that are given by a function. Small words on memory: a slice that reads as numbers given by a function; a block of numbers that is known whole; bounds of draws. The walks of whole.Valid and whole.allValid. slices.Clone of words. The walk of whole.FromInt. The walk of whole.trim. The walk of whole.unpack. The walk of whole.compare. The closure of whole.collector. The walk of whole.plus. Bits: 'or' of numbers whose bits lie apart is their sum. The walks of math/bits' Sub32, Add32, Div32. The walk of whole.minus.
-/
import Derived.Test.YtmjlankpihnicaaGreatProg
import Derived.Deep.RegionHeld
import Derived.OrdersIn
import Derived.WalkKit
import Derived.WalkSpells
import Derived.Deep.AppendLies
import Derived.Deep.Draws
import Derived.Lib.Hide
import Derived.Laws.MakeOwn
import Derived.Laws.Entries
import Derived.Laws.Rows
import Derived.OneCell
import Derived.Deep.CutBlock
import Derived.Deep.DeepCutAuto
import Derived.BigQuiet
import Derived.Deep.QuietTactic
import Derived.Laws.BitsAllLaws
namespace Go.Proofs.YtmjlankpihnicaaGreat

section
variable {P : Program} {ops : Array Oper} {Q : Exit → Act → World → Prop} {md : Region.Mode} {S : World → Prop} {oi : Oper} {v : Value} {fuel : Nat} {listed : Array Bool} {a : Act} {w : World}
/-- An operation that yields its value in every world that holds the facts is taken first. -/
theorem tk (i : Nat) (h : wpAnyH P md ops Q S fuel (listed.setIfInBounds i true) (a.put oi.dst v) w) (hi : ops[i]? = some oi := by exact rfl)
    (hs : Region.noSelect ops = true := by kernel_rfl) (hf : Region.free md ops listed i = true := by kernel_rfl) (hr : (Region.ready md ops listed).contains i = true := by kernel_rfl)
    (hQ : ∀ c a w, Q (.panic c) (a.put oi.dst v) w → Q (.panic c) a w := by exact fun _ _ _ h => h)
    (hw : Region.wanted oi (yielded ops a.tmps) = true := by rfl)
    (hy : ∀ w, S w → (execOp a.eval oi).run P w = .ok (.value v) w := by intro w hSw; (try dsimp only at hSw); first | (go_simp; done) | (go_simp; with_reducible rfl))
    (hS : S w := by assumption) : wpAnyH P md ops Q S (fuel + 1) listed a w := wpAnyH_take hi hs hf hr hQ (Or.inl ⟨hw, hy⟩) hS h
/-- An operation whose guard is not met is passed. -/
theorem tu (i : Nat) (h : wpAnyH P md ops Q S fuel (listed.setIfInBounds i true) (a.put oi.dst undef) w) (hi : ops[i]? = some oi := by exact rfl)
    (hs : Region.noSelect ops = true := by kernel_rfl) (hf : Region.free md ops listed i = true := by kernel_rfl) (hr : (Region.ready md ops listed).contains i = true := by kernel_rfl)
    (hQ : ∀ c a w, Q (.panic c) (a.put oi.dst undef) w → Q (.panic c) a w := by exact fun _ _ _ h => h)
    (hw : Region.wanted oi (yielded ops a.tmps) = false := by rfl)
    (hS : S w := by assumption) : wpAnyH P md ops Q S (fuel + 1) listed a w := wpAnyH_take hi hs hf hr hQ (Or.inr ⟨hw, rfl⟩) hS h
/-- One operation comes up. -/
theorem r1 (i : Nat) (h : ∀ K' : Act → World → Prop, Shut (∀ a w, S w → (S w → wpAnyH P md ops Q S fuel (listed.setIfInBounds i true) a w) → K' a w) → if Region.wanted oi (yielded ops a.tmps) = true then Oper.wp P oi a w K' Q else K' (a.put oi.dst undef) w)
    (hr : Region.ready md ops listed = [i] := by kernel_rfl) (hi : ops[i]? = some oi := by exact rfl) : wpAnyH P md ops Q S (fuel + 1) listed a w :=
  wpAnyH_ready hr (by simp) (AllReadyH.cons hi h AllReadyH.nil)
end
/-- What is in a slot behind a move. -/
theorem PL : (∀ (a : Act) (d : Tmp) (v : Value), a.put (some d) v = { a with tmps := a.tmps.setIfInBounds d v }) ∧ (∀ (a : Act) (v : Value), a.put none v = a) ∧
    (∀ (l : List Value) (i : Nat) (v : Value), l.toArray.setIfInBounds i v = (l.set i v).toArray) ∧ (∀ (l : List Bool) (i : Nat) (v : Bool), l.toArray.setIfInBounds i v = (l.set i v).toArray) ∧
    (∀ (x : Value) (l : List Value) (v : Value), (x :: l).set 0 v = v :: l) ∧ (∀ (x : Value) (l : List Value) (i : Nat) (v : Value), (x :: l).set (i + 1) v = x :: l.set i v) ∧
    (∀ (x : Bool) (l : List Bool) (v : Bool), (x :: l).set 0 v = v :: l) ∧ (∀ (x : Bool) (l : List Bool) (i : Nat) (v : Bool), (x :: l).set (i + 1) v = x :: l.set i v) ∧
    (∀ (l : List Oper) (i : Nat) (h : i < l.toArray.size), l.toArray[i] = l[i]'(by simpa using h)) ∧ (∀ (x : Oper) (l : List Oper) (i : Nat) (h : i + 1 < (x :: l).length), (x :: l)[i + 1] = l[i]'(by simpa using h)) ∧
    (∀ (x : Oper) (l : List Oper) (h : 0 < (x :: l).length), (x :: l)[0] = x) :=
  ⟨fun _ _ _ => rfl, fun _ _ => rfl, fun _ _ _ => List.setIfInBounds_toArray .., fun _ _ _ => List.setIfInBounds_toArray .., fun _ _ _ => rfl, fun _ _ _ _ => rfl, fun _ _ _ => rfl, fun _ _ _ _ => rfl, fun _ _ _ => rfl, fun _ _ _ _ => rfl, fun _ _ _ => rfl⟩
end Go.Proofs.YtmjlankpihnicaaGreat
namespace Go.Proofs.YtmjlankpihnicaaGreat

/-- The j-th digit of x in base B. -/
def dgt (B x j : Nat) : Nat := x / B ^ j % B
/-- The number whose digits are f 0, .., f (m - 1). -/
def vs (B : Nat) (f : Nat → Nat) : Nat → Nat
  | 0 => 0
  | m + 1 => vs B f m + B ^ m * f m
def lnF (B : Nat) : Nat → Nat → Nat
  | 0, _ => 0
  | f + 1, x => if x = 0 then 0 else lnF B f (x / B) + 1
/-- How many digits x has, without leading zeros. -/
def ln (B x : Nat) : Nat := lnF B (x.log2 + 1) x

theorem vs_zero (B : Nat) (f : Nat → Nat) : vs B f 0 = 0 := rfl
theorem vs_succ (B : Nat) (f : Nat → Nat) (m : Nat) : vs B f (m + 1) = vs B f m + B ^ m * f m := rfl
theorem vs_congr {B : Nat} {f g : Nat → Nat} {m : Nat} (h : ∀ j, j < m → f j = g j) : vs B f m = vs B g m := by
  induction m with
  | zero => rfl
  | succ m ih => rw [vs_succ, vs_succ, ih fun j hj => h j (by omega), h m (by omega)]
theorem vs_zeros {B : Nat} {f : Nat → Nat} {m : Nat} (h : ∀ j, j < m → f j = 0) : vs B f m = 0 := by
  induction m with
  | zero => rfl
  | succ m ih => rw [vs_succ, ih fun j hj => h j (by omega), h m (by omega)]; simp
theorem vs_lt {B : Nat} {f : Nat → Nat} {m : Nat} (h : ∀ j, j < m → f j < B) : vs B f m < B ^ m := by
  induction m with
  | zero => simp [vs]
  | succ m ih =>
    have h1 := ih fun j hj => h j (by omega)
    have h2 := h m (by omega)
    have h3 : B ^ m * f m ≤ B ^ m * (B - 1) := Nat.mul_le_mul_left _ (by omega)
    have h4 : B ^ m * (B - 1) = B ^ m * B - B ^ m := Nat.mul_sub_one ..
    have h5 : B ^ m ≤ B ^ m * B := Nat.le_mul_of_pos_right _ (by omega)
    rw [vs_succ, Nat.pow_succ]
    omega
/-- Low digits and the rest. -/
theorem vs_add (B : Nat) (f : Nat → Nat) (m n : Nat) : vs B f (m + n) = vs B f m + B ^ m * vs B (fun j => f (m + j)) n := by
  induction n with
  | zero => simp [vs]
  | succ n ih => rw [← Nat.add_assoc, vs_succ, ih, vs_succ, Nat.mul_add, Nat.pow_add, ← Nat.mul_assoc, Nat.add_assoc]
theorem vs_first (B : Nat) (f : Nat → Nat) (n : Nat) : vs B f (n + 1) = f 0 + B * vs B (fun j => f (j + 1)) n := by
  have h := vs_add B f 1 n
  rw [Nat.add_comm 1 n] at h
  rw [h]
  simp [vs, Nat.add_comm]
theorem dgt_lt {B : Nat} (hB : 0 < B) (x j : Nat) : dgt B x j < B := Nat.mod_lt _ hB
theorem dgt_of_lt {B x j : Nat} (h : x < B ^ j) : dgt B x j = 0 := by rw [dgt, Nat.div_eq_of_lt h]; simp
theorem vs_dgt (B x m : Nat) : vs B (dgt B x) m = x % B ^ m := by
  induction m with
  | zero => simp [vs, Nat.mod_one]
  | succ m ih => rw [vs_succ, ih, dgt, Nat.pow_succ, Nat.mod_mul]
theorem vs_dgt_lt {B x m : Nat} (h : x < B ^ m) : vs B (dgt B x) m = x := by rw [vs_dgt, Nat.mod_eq_of_lt h]
theorem div_vs {B : Nat} {f : Nat → Nat} {m j : Nat} (h : ∀ i, i < j → f i < B) (hj : j ≤ m) : vs B f m / B ^ j = vs B (fun i => f (j + i)) (m - j) := by
  obtain ⟨k, rfl⟩ := Nat.le.dest hj
  have h1 := vs_lt h
  rw [vs_add, Nat.add_mul_div_left _ _ (by omega), Nat.div_eq_of_lt h1, Nat.zero_add, Nat.add_sub_cancel_left]
theorem dgt_vs {B : Nat} {f : Nat → Nat} {m j : Nat} (h : ∀ i, i < m → f i < B) (hj : j < m) : dgt B (vs B f m) j = f j := by
  rw [dgt, div_vs (fun i hi => h i (by omega)) (by omega), show m - j = (m - j - 1) + 1 by omega, vs_first, Nat.add_mul_mod_self_left]
  exact Nat.mod_eq_of_lt (h j hj)
theorem lnF_spec {B : Nat} (hB : 2 ≤ B) : ∀ f x, x < 2 ^ f → ∀ k, lnF B f x ≤ k ↔ x < B ^ k := by
  intro f
  induction f with
  | zero =>
    intro x hx k
    have : x = 0 := by simpa using hx
    subst this
    have := Nat.pow_pos (n := k) (show 0 < B by omega)
    simp [lnF]; omega
  | succ f ih =>
    intro x hx k
    rw [lnF]
    by_cases h0 : x = 0
    · subst h0
      have := Nat.pow_pos (n := k) (show 0 < B by omega)
      simp; omega
    · rw [if_neg h0]
      have hlt : x / B < 2 ^ f := by
        rw [Nat.div_lt_iff_lt_mul (by omega)]
        have := Nat.mul_le_mul_left (2 ^ f) hB
        rw [Nat.pow_succ] at hx
        omega
      cases k with
      | zero => simp; omega
      | succ k =>
        have h1 := ih _ hlt k
        rw [Nat.div_lt_iff_lt_mul (by omega), ← Nat.pow_succ] at h1
        rw [← h1]
        omega
theorem ln_le {B : Nat} (hB : 2 ≤ B) {x k : Nat} : ln B x ≤ k ↔ x < B ^ k := lnF_spec hB _ _ Nat.lt_log2_self k
theorem ln_lt {B : Nat} (hB : 2 ≤ B) {x k : Nat} : k < ln B x ↔ B ^ k ≤ x := by have := ln_le hB (x := x) (k := k); omega
theorem lt_pow_ln {B : Nat} (hB : 2 ≤ B) (x : Nat) : x < B ^ ln B x := (ln_le hB).1 (Nat.le_refl _)
theorem ln_zero {B : Nat} : ln B 0 = 0 := by simp [ln, lnF]
theorem ln_eq_zero {B : Nat} (hB : 2 ≤ B) {x : Nat} : ln B x = 0 ↔ x = 0 := by
  have := ln_le hB (x := x) (k := 0); simp at this; omega
theorem ln_pos {B : Nat} (hB : 2 ≤ B) {x : Nat} : 0 < ln B x ↔ 0 < x := by have := ln_eq_zero hB (x := x); omega
theorem ln_mono {B : Nat} (hB : 2 ≤ B) {x y : Nat} (h : x ≤ y) : ln B x ≤ ln B y := (ln_le hB).2 (Nat.lt_of_le_of_lt h (lt_pow_ln hB y))
theorem ln_eq {B : Nat} (hB : 2 ≤ B) {x m : Nat} (h1 : x < B ^ m) (h2 : m = 0 ∨ B ^ (m - 1) ≤ x) : ln B x = m := by
  have h3 := (ln_le hB).2 h1
  rcases h2 with rfl | h2
  · omega
  · have h4 := (ln_lt hB).2 h2
    omega
theorem vs_dgt_ln {B : Nat} (hB : 2 ≤ B) (x : Nat) : vs B (dgt B x) (ln B x) = x := vs_dgt_lt (lt_pow_ln hB x)
theorem pow_le_of_ln {B : Nat} (hB : 2 ≤ B) {x : Nat} (hx : 0 < x) : B ^ (ln B x - 1) ≤ x := (ln_lt hB).1 (by have := (ln_pos hB).2 hx; omega)
/-- The highest digit is not 0. -/
theorem dgt_top {B : Nat} (hB : 2 ≤ B) {x : Nat} (hx : 0 < x) : dgt B x (ln B x - 1) ≠ 0 := by
  have h1 := lt_pow_ln hB x
  have h2 := pow_le_of_ln hB hx
  have h3 := (ln_pos hB).2 hx
  have h4 : x / B ^ (ln B x - 1) < B := by
    rw [Nat.div_lt_iff_lt_mul (Nat.pow_pos (by omega)), ← Nat.pow_succ']
    rw [show (ln B x - 1).succ = ln B x by omega]; exact h1
  have h5 : 0 < x / B ^ (ln B x - 1) := Nat.div_pos h2 (Nat.pow_pos (by omega))
  rw [dgt, Nat.mod_eq_of_lt h4]
  omega
/-- Digits without a leading zero are THE digits of their number. -/
theorem ln_vs {B : Nat} (hB : 2 ≤ B) {f : Nat → Nat} {m : Nat} (h : ∀ j, j < m → f j < B) (hn : m = 0 ∨ f (m - 1) ≠ 0) : ln B (vs B f m) = m := by
  refine ln_eq hB (vs_lt h) ?_
  rcases hn with h0 | h0
  · exact .inl h0
  · rcases Nat.eq_zero_or_pos m with hm | hm
    · exact .inl hm
    · refine .inr ?_
      have h1 := vs_succ B f (m - 1)
      rw [show m - 1 + 1 = m by omega] at h1
      have h2 : B ^ (m - 1) * 1 ≤ B ^ (m - 1) * f (m - 1) := Nat.mul_le_mul_left _ (by omega)
      omega
theorem ln_small {B : Nat} (hB : 2 ≤ B) {x : Nat} (h0 : 0 < x) (h : x < B) : ln B x = 1 := ln_eq hB (by simpa using h) (.inr (by simp; omega))
theorem dgt_one {B x : Nat} (h : x < B) : dgt B x 0 = x := by simp [dgt, Nat.mod_eq_of_lt h]
/-- Two digits of base B are one digit of base B * B. -/
theorem dgt_two (B x j : Nat) : dgt (B * B) x j = dgt B x (2 * j) + B * dgt B x (2 * j + 1) := by
  have e1 : (B * B) ^ j = B ^ (2 * j) := by rw [Nat.pow_mul, Nat.pow_two]
  rw [dgt, dgt, dgt, e1, Nat.mod_mul, Nat.pow_succ, Nat.div_div_eq_div_mul]
theorem ln_two {B : Nat} (hB : 2 ≤ B) (x : Nat) : ln (B * B) x = (ln B x + 1) / 2 := by
  have hBB : 2 ≤ B * B := Nat.le_trans hB (Nat.le_mul_of_pos_right _ (by omega))
  have e1 : ∀ j, (B * B) ^ j = B ^ (2 * j) := fun j => by rw [Nat.pow_mul, Nat.pow_two]
  rcases Nat.eq_zero_or_pos x with rfl | hx
  · simp [ln_zero]
  · have h1 := pow_le_of_ln hB hx
    have h0 := (ln_pos hB).2 hx
    refine ln_eq hBB ?_ (.inr ?_)
    · rw [e1]; exact Nat.lt_of_lt_of_le (lt_pow_ln hB x) (Nat.pow_le_pow_right (by omega) (by omega))
    · rw [e1]; exact Nat.le_trans (Nat.pow_le_pow_right (by omega) (by omega)) h1
/-- A sum of digits step by step, the carry kept. -/
theorem carry_step {B m V c t : Nat} {f : Nat → Nat} (h : vs B f m + B ^ m * c = V) (hd : f m = (t + c) % B) : vs B f (m + 1) + B ^ (m + 1) * ((t + c) / B) = V + B ^ m * t := by
  have h1 : B ^ m * ((t + c) % B) + B ^ m * (B * ((t + c) / B)) = B ^ m * (t + c) := by rw [← Nat.mul_add, Nat.mod_add_div]
  rw [vs_succ, hd, Nat.pow_succ, Nat.mul_assoc]
  rw [Nat.mul_add] at h1
  omega

/-- The sign of a comparison. -/
def cmpI (a b : Nat) : Int := if a < b then -1 else if b < a then 1 else 0
theorem cmpI_lt {a b : Nat} (h : a < b) : cmpI a b = -1 := by unfold cmpI; rw [if_pos h]
theorem cmpI_gt {a b : Nat} (h : b < a) : cmpI a b = 1 := by unfold cmpI; rw [if_neg (by omega), if_pos h]
theorem cmpI_eq {a b : Nat} (h : a = b) : cmpI a b = 0 := by unfold cmpI; rw [if_neg (by omega), if_neg (by omega)]
/-- The highest digit in which two numbers differ decides. -/
theorem lt_of_dgt {B a b k n : Nat} (hB : 2 ≤ B) (ha : a < B ^ n) (hb : b < B ^ n) (hk : k < n) (he : ∀ j, k < j → j < n → dgt B a j = dgt B b j) (h : dgt B a k < dgt B b k) : a < b := by
  have e1 := vs_add B (dgt B a) (k + 1) (n - (k + 1))
  have e2 := vs_add B (dgt B b) (k + 1) (n - (k + 1))
  rw [show k + 1 + (n - (k + 1)) = n by omega] at e1 e2
  rw [vs_dgt_lt ha, vs_succ] at e1
  rw [vs_dgt_lt hb, vs_succ] at e2
  have e3 : vs B (fun j => dgt B a (k + 1 + j)) (n - (k + 1)) = vs B (fun j => dgt B b (k + 1 + j)) (n - (k + 1)) := vs_congr fun j hj => he _ (by omega) (by omega)
  rw [e3] at e1
  have h1 : vs B (dgt B a) k < B ^ k := vs_lt fun j _ => dgt_lt (by omega) a j
  have h2 : B ^ k * (dgt B a k + 1) ≤ B ^ k * dgt B b k := Nat.mul_le_mul_left _ h
  rw [Nat.mul_add] at h2
  generalize B ^ k * dgt B a k = p at *
  generalize B ^ k * dgt B b k = q at *
  omega
theorem eq_of_dgt {B a b n : Nat} (ha : a < B ^ n) (hb : b < B ^ n) (he : ∀ j, j < n → dgt B a j = dgt B b j) : a = b := by
  rw [← vs_dgt_lt ha, ← vs_dgt_lt hb]
  exact vs_congr he

def b16 : Nat := 65536
def b32 : Nat := 4294967296
theorem b16_two : 2 ≤ b16 := by decide
theorem b32_two : 2 ≤ b32 := by decide
theorem dgt32_lt (x j : Nat) : dgt b32 x j < 4294967296 := dgt_lt (by decide) x j
theorem dgt16_lt (x j : Nat) : dgt b16 x j < 65536 := dgt_lt (by decide) x j
theorem dgt32_two (x j : Nat) : dgt b32 x j = dgt b16 x (2 * j) + 65536 * dgt b16 x (2 * j + 1) := dgt_two b16 x j
theorem ln32_two (x : Nat) : ln b32 x = (ln b16 x + 1) / 2 := ln_two b16_two x

end Go.Proofs.YtmjlankpihnicaaGreat
/-! Plain arithmetic behind times, timesShort, divideShort, shifted. -/
namespace Go.Proofs.YtmjlankpihnicaaGreat

/-- One digit changed. -/
theorem vs_set {B : Nat} {f g : Nat → Nat} {i m : Nat} (hi : i < m) (hg : ∀ j, j < m → j ≠ i → g j = f j) : vs B g m + B ^ i * f i = vs B f m + B ^ i * g i := by
  induction m with
  | zero => omega
  | succ m ih =>
    rw [vs_succ, vs_succ]
    by_cases e : i = m
    · subst e
      rw [vs_congr (g := f) fun j hj => hg j (by omega) (by omega)]
      omega
    · have h1 := ih (by omega) fun j hj => hg j (by omega)
      rw [hg m (by omega) (by omega)]
      omega
theorem mul_digit {x y : Nat} (hx : x < 4294967296) (hy : y < 4294967296) : x * y ≤ 18446744065119617025 := Nat.mul_le_mul (show x ≤ 4294967295 by omega) (show y ≤ 4294967295 by omega)

/-- What is added at the first digit alone. -/
def ex (p k : Nat) : Nat := if k = 0 then p else 0
/-- The inner step of times. -/
theorem mul_step {f g : Nat → Nat} {m i k x y c V : Nat} (hi : i + k < m) (hg : ∀ j, j < m → j ≠ i + k → g j = f j) (hu : g (i + k) = (x * y + f (i + k) + c) % b32) {s : Nat}
    (h : vs b32 f m + b32 ^ (i + k) * c = V + b32 ^ i * (x * s)) : vs b32 g m + b32 ^ (i + k + 1) * ((x * y + f (i + k) + c) / b32) = V + b32 ^ i * (x * (s + b32 ^ k * y)) := by
  have h1 := vs_set (B := b32) hi hg
  have h2 : b32 ^ (i + k) * ((x * y + f (i + k) + c) % b32) + b32 ^ (i + k) * (b32 * ((x * y + f (i + k) + c) / b32)) = b32 ^ (i + k) * (x * y + f (i + k) + c) := by rw [← Nat.mul_add, Nat.mod_add_div]
  have h3 : b32 ^ i * (x * (s + b32 ^ k * y)) = b32 ^ i * (x * s) + b32 ^ (i + k) * (x * y) := by
    rw [Nat.mul_add, Nat.mul_add, Nat.pow_add, Nat.mul_assoc (b32 ^ i) (b32 ^ k), Nat.mul_left_comm x (b32 ^ k) y]
  rw [hu] at h1
  rw [h3, Nat.pow_succ, Nat.mul_assoc]
  rw [Nat.mul_add, Nat.mul_add] at h2
  generalize b32 ^ (i + k) * (b32 * ((x * y + f (i + k) + c) / b32)) = z1 at *
  generalize b32 ^ (i + k) * ((x * y + f (i + k) + c) % b32) = z2 at *
  generalize b32 ^ (i + k) * (x * y) = z3 at *
  generalize b32 ^ (i + k) * f (i + k) = z4 at *
  generalize b32 ^ (i + k) * c = z5 at *
  generalize b32 ^ i * (x * s) = z6 at *
  omega

/-- The step of a division by one digit. -/
theorem short_step {B x d k : Nat} (hd : 0 < d) : (B * (x / B ^ (k + 1) % d) + dgt B x k) / d % B = dgt B (x / d) k ∧ (B * (x / B ^ (k + 1) % d) + dgt B x k) % d = x / B ^ k % d := by
  have e1 : x / B ^ k = B * (x / B ^ (k + 1)) + dgt B x k := by
    rw [dgt, Nat.pow_succ, ← Nat.div_div_eq_div_mul]
    exact (Nat.div_add_mod _ _).symm
  have e2 : x / d / B ^ k = x / B ^ k / d := by rw [Nat.div_div_eq_div_mul, Nat.div_div_eq_div_mul, Nat.mul_comm]
  have e3 : B * (x / B ^ (k + 1)) + dgt B x k = d * (B * (x / B ^ (k + 1) / d)) + (B * (x / B ^ (k + 1) % d) + dgt B x k) := by
    have h := Nat.div_add_mod (x / B ^ (k + 1)) d
    have h2 : B * (d * (x / B ^ (k + 1) / d) + x / B ^ (k + 1) % d) = B * (x / B ^ (k + 1)) := by rw [h]
    rw [Nat.mul_add, Nat.mul_left_comm] at h2
    omega
  constructor
  · rw [show dgt B (x / d) k = x / B ^ k / d % B by rw [dgt, e2], e1, e3, Nat.mul_add_div hd, Nat.mul_add_mod]
  · rw [e1, e3, Nat.mul_add_mod]

/-- The high part that a shift brings into digit k. -/
def shi (x n k : Nat) : Nat := x % b32 ^ k * 2 ^ n / b32 ^ k
theorem shi_lt (x n k : Nat) : shi x n k < 2 ^ n := by
  have h := Nat.mod_lt x (Nat.pow_pos (n := k) (show 0 < b32 by decide))
  unfold shi
  rw [Nat.div_lt_iff_lt_mul (Nat.pow_pos (by decide)), Nat.mul_comm (2 ^ n)]
  exact Nat.mul_lt_mul_of_pos_right h (Nat.pow_pos (by decide))
theorem shi_zero (x n : Nat) : shi x n 0 = 0 := by simp [shi, Nat.mod_one]
theorem pow_n_dvd {n : Nat} (hn : n < 32) : b32 = 2 ^ n * 2 ^ (32 - n) := by rw [← Nat.pow_add, show n + (32 - n) = 32 by omega]; rfl
theorem low_mult {y n : Nat} (hn : n < 32) : y * 2 ^ n % b32 = 2 ^ n * (y % 2 ^ (32 - n)) := by rw [pow_n_dvd hn, Nat.mul_comm y, Nat.mul_mod_mul_left]
theorem shift_digit {x n k : Nat} (hn : n < 32) : dgt b32 (x * 2 ^ n) k = shi x n k + dgt b32 x k * 2 ^ n % b32 := by
  have hp : 0 < b32 ^ k := Nat.pow_pos (by decide)
  have e1 : x * 2 ^ n = b32 ^ k * (x / b32 ^ k * 2 ^ n) + x % b32 ^ k * 2 ^ n := by
    have h := Nat.div_add_mod x (b32 ^ k)
    have h2 : (b32 ^ k * (x / b32 ^ k) + x % b32 ^ k) * 2 ^ n = x * 2 ^ n := by rw [h]
    rw [Nat.add_mul, Nat.mul_assoc] at h2
    exact h2.symm
  have e2 : x * 2 ^ n / b32 ^ k = x / b32 ^ k * 2 ^ n + shi x n k := by rw [e1, Nat.mul_add_div hp]; rfl
  have e3 : x / b32 ^ k * 2 ^ n % b32 = dgt b32 x k * 2 ^ n % b32 := by rw [dgt, Nat.mod_mul_mod]
  have h1 := shi_lt x n k
  have h3 : 2 ^ n * (dgt b32 x k % 2 ^ (32 - n)) + 2 ^ n ≤ b32 := by
    have := Nat.mod_lt (dgt b32 x k) (Nat.pow_pos (n := 32 - n) (show 0 < 2 by decide))
    have h4 : 2 ^ n * (dgt b32 x k % 2 ^ (32 - n) + 1) ≤ 2 ^ n * 2 ^ (32 - n) := Nat.mul_le_mul_left _ this
    rw [← pow_n_dvd hn, Nat.mul_add, Nat.mul_one] at h4
    exact h4
  rw [dgt, e2, Nat.add_mod, e3, low_mult hn]
  rw [Nat.mod_eq_of_lt (show shi x n k < b32 by omega), Nat.add_comm]
  exact Nat.mod_eq_of_lt (by omega)
theorem shi_succ {x n k : Nat} (hn : n < 32) : shi x n (k + 1) = dgt b32 x k * 2 ^ n / b32 := by
  have hp : 0 < b32 ^ k := Nat.pow_pos (by decide)
  have hq : 0 < 2 ^ n := Nat.pow_pos (by decide)
  have e : x % b32 ^ (k + 1) = b32 ^ k * dgt b32 x k + x % b32 ^ k := by rw [Nat.pow_succ, Nat.mod_mul, dgt, Nat.add_comm]
  have e1 : shi x n (k + 1) = (dgt b32 x k * 2 ^ n + shi x n k) / b32 := by
    unfold shi
    rw [e, Nat.add_mul, Nat.mul_assoc, Nat.pow_succ, ← Nat.div_div_eq_div_mul, Nat.mul_add_div hp]
  have h1 := shi_lt x n k
  rw [e1, pow_n_dvd hn, ← Nat.div_div_eq_div_mul, ← Nat.div_div_eq_div_mul, Nat.mul_div_cancel _ hq, Nat.mul_comm, Nat.mul_add_div hq, Nat.div_eq_of_lt h1, Nat.add_zero]
end Go.Proofs.YtmjlankpihnicaaGreat
namespace Go.Proofs.YtmjlankpihnicaaGreat
open Go.RowKit

/-- The slice value '.slice A n c' reads as the numbers f 0, .., f (n - 1) of kind k, in a block below B. -/
def Rd (B : Nat) (k : IntKind) (w : World) (A : Option Addr) (n : Nat) (f : Nat → Nat) : Prop :=
  0 < n → ∃ b o, A = some ⟨b, o, none⟩ ∧ b < B ∧ ∀ i, i < n → w.cell? ⟨b, o + i, none⟩ = some (.int k (f i : Int))

section
variable {w w' : World} {B B' : Nat} {k : IntKind} {A : Option Addr} {n : Nat} {f f' : Nat → Nat}
theorem Rd.nil : Rd B k w A 0 f := fun h => absurd h (by omega)
theorem Rd.keep (h : Rd B k w A n f) (hk : ∀ p : Addr, p.block < B → w'.cell? p = w.cell? p) : Rd B k w' A n f := fun hn => by
  obtain ⟨b, o, e, hb, hc⟩ := h hn
  exact ⟨b, o, e, hb, fun i hi => (hk _ hb).trans (hc i hi)⟩
theorem Rd.more (h : Rd B k w A n f) (hB : B ≤ B') : Rd B' k w A n f := fun hn => by
  obtain ⟨b, o, e, hb, hc⟩ := h hn
  exact ⟨b, o, e, by omega, hc⟩
theorem Rd.below (h : Rd B k w A n f) (hb : Below B w w') : Rd B k w' A n f := h.keep fun _ hp => hb.cell hp
theorem Rd.shorter (h : Rd B k w A n f) {j : Nat} (hj : j ≤ n) : Rd B k w A j f := fun hn => by
  obtain ⟨b, o, e, hb, hc⟩ := h (by omega)
  exact ⟨b, o, e, hb, fun i hi => hc i (by omega)⟩
theorem Rd.congr (h : Rd B k w A n f) (hf : ∀ i, i < n → f i = f' i) : Rd B k w A n f' := fun hn => by
  obtain ⟨b, o, e, hb, hc⟩ := h hn
  exact ⟨b, o, e, hb, fun i hi => by rw [← hf i hi]; exact hc i hi⟩
theorem Rd.drew (h : Rd B k w A n f) : Rd B k w.drew A n f := h
theorem Rd.drewN (h : Rd B k w A n f) (m : Nat) : Rd B k (w.drewN m) A n f := h
theorem Rd.alloc (h : Rd B k w A n f) (hB : B ≤ w.heap.size) (o : Obj) : Rd B k (w.alloc o) A n f := h.keep fun p hp => World.cell?_alloc_lt w o p (by omega)
theorem Rd.setCell (h : Rd B k w A n f) {p : Addr} (hB : B ≤ p.block) (u : Value) : Rd B k (w.setCell p u) A n f :=
  h.keep fun q hq => World.cell?_setCell_other w p q u (fun e => by subst e; omega)
theorem Rd.grown (h : Rd B k w A n f) {row : Option Nat} (hg : w.grownBy w' row) (hB : B ≤ w.heap.size) (hr : ∀ g, row = some g → B ≤ g) : Rd B k w' A n f :=
  h.keep fun p hp => World.cell?_of_block (hg.block p.block (by omega) (fun e => by have := hr _ e.symm; omega))
end

/-- The cells of m numbers. -/
def nums (k : IntKind) (m : Nat) (f : Nat → Nat) : List Value := (List.range m).map fun j => Value.int k (f j : Int)
theorem nums_length (k : IntKind) (m : Nat) (f : Nat → Nat) : (nums k m f).length = m := by simp [nums]
theorem nums_get {k : IntKind} {m : Nat} {f : Nat → Nat} {i : Nat} (hi : i < m) : (nums k m f)[i]? = some (.int k (f i : Int)) := by simp [nums, hi]
theorem nums_congr {k : IntKind} {m : Nat} {f g : Nat → Nat} (h : ∀ j, j < m → f j = g j) : nums k m f = nums k m g := by
  unfold nums
  refine List.map_congr_left fun j hj => ?_
  rw [h j (List.mem_range.1 hj)]
/-- Block g has c cells (element type t), none frozen; the first m are the numbers f 0, .., f (m - 1) of kind k. -/
def Row (w : World) (g t : Nat) (k : IntKind) (c m : Nat) (f : Nat → Nat) : Prop := ∃ cur : Array Value, w.heap[g]? = some (.cells cur t (0, 0)) ∧ cur.size = c ∧ ∀ i, i < m → cur[i]? = some (.int k (f i : Int))

section
variable {w w' : World} {g t c m B : Nat} {k : IntKind} {f f' : Nat → Nat}
theorem heap_lt {w : World} {g : Nat} {o : Obj} (h : w.heap[g]? = some o) : g < w.heap.size := by
  rcases Nat.lt_or_ge g w.heap.size with hlt | hge
  · exact hlt
  · rw [Array.getElem?_eq_none hge] at h; cases h
theorem Row.lt (h : Row w g t k c m f) : g < w.heap.size := by obtain ⟨cur, h, _⟩ := h; exact heap_lt h
theorem Row.cell (h : Row w g t k c m f) {i : Nat} (hi : i < m) : w.cell? ⟨g, i, none⟩ = some (.int k (f i : Int)) := by
  obtain ⟨cur, h, _, hc⟩ := h
  rw [cell_of_row w g i _ t (0, 0) h]
  exact hc i hi
theorem Row.frozen (h : Row w g t k c m f) (i : Nat) : w.frozen? ⟨g, i, none⟩ = false := by
  obtain ⟨cur, h, _⟩ := h
  simp [World.frozen?, h]
theorem Row.congr (h : Row w g t k c m f) (hf : ∀ j, j < m → f j = f' j) : Row w g t k c m f' := by
  obtain ⟨cur, h, hs, hc⟩ := h
  exact ⟨cur, h, hs, fun i hi => by rw [← hf i hi]; exact hc i hi⟩
theorem Row.shorter (h : Row w g t k c m f) {n : Nat} (hn : n ≤ m) : Row w g t k c n f := by
  obtain ⟨cur, h, hs, hc⟩ := h
  exact ⟨cur, h, hs, fun i hi => hc i (by omega)⟩
theorem Row.drew (h : Row w g t k c m f) : Row w.drew g t k c m f := h
theorem Row.drewN (h : Row w g t k c m f) (n : Nat) : Row (w.drewN n) g t k c m f := h
theorem Row.alloc (h : Row w g t k c m f) (o : Obj) : Row (w.alloc o) g t k c m f := by
  have hlt := h.lt
  obtain ⟨cur, h, r⟩ := h
  exact ⟨cur, (Below.heap_alloc w o g hlt).trans h, r⟩
theorem Row.set (h : Row w g t k c m f) {i u : Nat} (hi : f' i = u) (hf : ∀ j, j < m → j ≠ i → f' j = f j) : Row (w.setCell ⟨g, i, none⟩ (.int k (u : Int))) g t k c m f' := by
  obtain ⟨cur, h, hs, hc⟩ := h
  refine ⟨cur.setIfInBounds i (.int k (u : Int)), by simp [World.setCell, Array.getElem?_modify, h], by simpa using hs, fun j hj => ?_⟩
  have hsz : j < cur.size := (Array.getElem?_eq_some_iff.1 (hc j hj)).1
  rw [Array.getElem?_setIfInBounds]
  by_cases e : i = j
  · subst e
    rw [if_pos rfl, if_pos hsz, hi]
  · rw [if_neg e, hf j hj (Ne.symm e)]
    exact hc j hj
theorem Row.setI (h : Row w g t k c m f) {i : Nat} {x : Int} (hx : x = (f' i : Int)) (hf : ∀ j, j < m → j ≠ i → f' j = f j) : Row (w.setCell ⟨g, i, none⟩ (.int k x)) g t k c m f' := by
  subst hx
  exact h.set rfl hf
theorem Row.push (h : Row w g t k c m f) (hm : m < c) {u : Nat} (hu : f m = u) : Row (w.setCell ⟨g, m, none⟩ (.int k (u : Int))) g t k c (m + 1) f := by
  obtain ⟨cur, h, hs, hc⟩ := h
  refine ⟨cur.setIfInBounds m (.int k (u : Int)), by simp [World.setCell, Array.getElem?_modify, h], by simpa using hs, fun j hj => ?_⟩
  rw [Array.getElem?_setIfInBounds]
  by_cases e : m = j
  · subst e
    rw [if_pos rfl, if_pos (by omega), hu]
  · rw [if_neg e]
    exact hc j (by omega)
theorem Row.far (h : Row w g t k c m f) {p : Addr} (hp : g ≠ p.block) (u : Value) : Row (w.setCell p u) g t k c m f := by
  obtain ⟨cur, h, r⟩ := h
  exact ⟨cur, (Below.heap_setCell w p u g hp).trans h, r⟩
theorem Row.below (h : Row w g t k c m f) (hb : Below B w w') (hg : g < B) : Row w' g t k c m f := by
  obtain ⟨cur, h, r⟩ := h
  exact ⟨cur, (hb.block g hg).trans h, r⟩
theorem Row.grown (h : Row w g t k c m f) {row : Option Nat} (hb : w.grownBy w' row) (hg : some g ≠ row) : Row w' g t k c m f := by
  have hlt := h.lt
  obtain ⟨cur, h, r⟩ := h
  exact ⟨cur, (hb.block g hlt hg).trans h, r⟩
theorem Row.rd (h : Row w g t k c m f) {n : Nat} (hn : n ≤ m) (hB : g < B) : Rd B k w (some ⟨g, 0, none⟩) n f := fun _ =>
  ⟨g, 0, rfl, hB, fun i hi => by rw [Nat.zero_add]; exact h.cell (by omega)⟩
theorem Row.made {w : World} {t m : Nat} {k : IntKind} : Row (w.alloc (.cells (madeCells #[.int k 0] m) t)) w.heap.size t k m m (fun _ => 0) := by
  refine ⟨_, heap_alloc_new _ _, ?_, fun i hi => ?_⟩
  · have := congrArg List.length (toList_madeCells_one (.int k 0) m)
    simpa using this
  · rw [← Array.getElem?_toList, toList_madeCells_one, List.getElem?_replicate, if_pos hi]
    rfl
theorem nums_of {cur : Array Value} (h : ∀ i, i < m → cur[i]? = some (.int k (f i : Int))) : cur.toList.take m = nums k m f := by
  refine List.ext_getElem? fun j => ?_
  rw [List.getElem?_take]
  by_cases hj : j < m
  · rw [if_pos hj, nums_get hj, Array.getElem?_toList]
    exact h j hj
  · rw [if_neg hj, List.getElem?_eq_none (by rw [nums_length]; omega)]
theorem of_nums {cur : Array Value} (h : cur.toList.take m = nums k m f) : ∀ i, i < m → cur[i]? = some (.int k (f i : Int)) := fun i hi => by
  have h1 := congrArg (·[i]?) h
  simp only [List.getElem?_take, if_pos hi, Array.getElem?_toList, nums_get hi] at h1
  exact h1
theorem Row.own {base n : Nat} (h : Row w g t k c m f) (hb : base ≤ g) (hn : n ≤ m) (hc : n ≤ c) (hm : c ≤ maxLen) : w.ownsRow base t 1 (.slice (some ⟨g, 0, none⟩) n c) n (nums k n f) := by
  obtain ⟨cur, h, hs, hcell⟩ := h
  exact ⟨by rw [nums_length]; omega, .inr ⟨g, c, cur, rfl, hb, h, hc, hm, by omega, by rw [Nat.mul_one]; exact nums_of fun i hi => hcell i (by omega)⟩⟩
theorem Row.of_own {base n : Nat} {v : Value} (h : w.ownsRow base t 1 v n (nums k n f)) : v = .slice none 0 0 ∧ n = 0 ∨ ∃ g c, v = .slice (some ⟨g, 0, none⟩) n c ∧ base ≤ g ∧ n ≤ c ∧ c ≤ maxLen ∧ Row w g t k c n f := by
  rcases h.2 with h0 | ⟨g, cap, cur, hv, hg, hh, hn, hm, hs, ht⟩
  · exact .inl h0
  · exact .inr ⟨g, cap, hv, hg, hn, hm, cur, hh, by omega, of_nums (by rwa [Nat.mul_one] at ht)⟩
end

/-- As Row, of a slice that may be nil or empty: where it has elements it begins at the head of a row, from block 'base' on. -/
def RowO (base : Nat) (w : World) (A : Option Addr) (t : Nat) (k : IntKind) (c m : Nat) (f : Nat → Nat) : Prop := 0 < m → ∃ g, A = some ⟨g, 0, none⟩ ∧ base ≤ g ∧ Row w g t k c m f
theorem RowO.of_own {base n : Nat} {w : World} {t : Nat} {k : IntKind} {f : Nat → Nat} {v : Value} (h : w.ownsRow base t 1 v n (nums k n f)) : ∃ A c, v = .slice A n c ∧ n ≤ c ∧ RowO base w A t k c n f := by
  rcases Row.of_own h with ⟨rfl, h0⟩ | ⟨g, c, rfl, hg, hnc, _, hr⟩
  · exact ⟨none, 0, by rw [h0], by omega, fun hn => absurd hn (by omega)⟩
  · exact ⟨_, _, rfl, hnc, fun _ => ⟨g, rfl, hg, hr⟩⟩
theorem RowO.rd {base n : Nat} {w : World} {A : Option Addr} {t c : Nat} {k : IntKind} {f : Nat → Nat} (h : RowO base w A t k c n f) : Rd w.heap.size k w A n f := fun hn => by
  obtain ⟨g, rfl, _, hr⟩ := h hn
  exact hr.rd (Nat.le_refl _) hr.lt hn
theorem RowO.congr {base n : Nat} {w : World} {A : Option Addr} {t c : Nat} {k : IntKind} {f f' : Nat → Nat} (h : RowO base w A t k c n f) (hf : ∀ j, j < n → f j = f' j) : RowO base w A t k c n f' := fun hn => by
  obtain ⟨g, e, hg, hr⟩ := h hn
  exact ⟨g, e, hg, hr.congr hf⟩

/-- 'make([]T, n, c)' with n, c that are variables: an equation for every world. -/
theorem run_make_rowN {P : Program} (t e : TypeId) (i : TypeInfo) (z : Value) (ht : P.underlying t = some (.slice e)) (hi : P.info? e = some i) (hz : i.zero = some z)
    (kl kc : IntKind) (n c : Nat) (hnc : n ≤ c) (hbytes : i.bytes * c ≤ 281474976710656) (h63 : c ≤ 9223372036854775807) (w : World) :
    (Instr.makeSlice t (.int kl (n : Int)) (.int kc (c : Int))).run P w = .ok (.slice (some ⟨w.heap.size, 0, none⟩) n c) (w.alloc (.cells (madeCells z.cells (c * i.size)) e)) := by
  have hb : (i.bytes : Int) * (c : Int) ≤ 281474976710656 := by
    have h : ((i.bytes * c : Nat) : Int) ≤ 281474976710656 := by omega
    rwa [Int.natCast_mul] at h
  have hr := run_make (P := P) w t e i z ht hi hz kl kc n c (by omega) (by omega) hb (by omega)
  simp only [Int.toNat_natCast] at hr
  exact hr

theorem belowN {B : Nat} {a w : World} (h : Below B a w) (n : Nat) : Below B a (w.drewN n) := ⟨h.os, h.tape, h.output, h.size, h.block⟩
theorem int_toNat {k : IntKind} {u : Int} (h : 0 ≤ u) : Value.int k u = .int k (u.toNat : Int) := by rw [Int.toNat_of_nonneg h]
theorem ret_int {k : IntKind} {a b : Int} (h : a = b) : Ending.returned (.int k a) = .returned (.int k b) := by rw [h]
theorem ret_slice {A : Option Addr} {m m' c : Nat} (h : m = m') : Ending.returned (.slice A m c) = .returned (.slice A m' c) := by rw [h]
theorem ret_ints {k k' : IntKind} {a b a' b' : Int} (h : a = b) (h' : a' = b') : Ending.returned (.tuple #[.int k a, .int k' a']) = .returned (.tuple #[.int k b, .int k' b']) := by rw [h, h']
end Go.Proofs.YtmjlankpihnicaaGreat
/-! Closed facts on the types that the functions use. -/
namespace Go.Proofs.YtmjlankpihnicaaGreat
open Go.RowKit

theorem info_u32 : (Tryz.prog.info? 152).map (fun i => (i.zero, i.size, i.bytes)) = some (some (.int .u32 0), 1, 4) := by kernel_rfl
theorem info_u16 : (Tryz.prog.info? 116).map (fun i => (i.zero, i.size, i.bytes)) = some (some (.int .u16 0), 1, 2) := by kernel_rfl
/-- 'make([]uint32, n, c)'. -/
theorem mk32 (n c : Nat) (hnc : n ≤ c) (hc : c ≤ 1000000000000) (w : World) :
    (Instr.makeSlice 136 (.int .i64 (n : Int)) (.int .i64 (c : Int))).run Tryz.prog w = .ok (.slice (some ⟨w.heap.size, 0, none⟩) n c) (w.alloc (.cells (madeCells #[.int .u32 0] c) 152)) := by
  obtain ⟨i, hi, hz, hs, hb⟩ := info_parts info_u32
  have h := run_make_rowN (P := Tryz.prog) 136 152 i _ Tryz.underlying136 hi hz .i64 .i64 n c hnc (by rw [hb]; omega) (by omega) w
  rw [hs, Nat.mul_one] at h
  exact h
/-- 'make([]uint16, n, c)'. -/
theorem mk16 (n c : Nat) (hnc : n ≤ c) (hc : c ≤ 1000000000000) (w : World) :
    (Instr.makeSlice 25 (.int .i64 (n : Int)) (.int .i64 (c : Int))).run Tryz.prog w = .ok (.slice (some ⟨w.heap.size, 0, none⟩) n c) (w.alloc (.cells (madeCells #[.int .u16 0] c) 116)) := by
  obtain ⟨i, hi, hz, hs, hb⟩ := info_parts info_u16
  have h := run_make_rowN (P := Tryz.prog) 25 116 i _ Tryz.underlying25 hi hz .i64 .i64 n c hnc (by rw [hb]; omega) (by omega) w
  rw [hs, Nat.mul_one] at h
  exact h
end Go.Proofs.YtmjlankpihnicaaGreat
/-! Numbers in memory: the words (base 2^32), the limbs (base 2^16); the posts of the functions that return them. -/
namespace Go.Proofs.YtmjlankpihnicaaGreat
open Go.RowKit

/-- '.slice A (ln b32 x) c' holds the words of x. -/
def Num32 (w : World) (A : Option Addr) (x : Nat) : Prop := Rd w.heap.size .u32 w A (ln b32 x) (dgt b32 x)
/-- '.slice A (ln b16 x) c' holds the limbs of x. -/
def Num16 (w : World) (A : Option Addr) (x : Nat) : Prop := Rd w.heap.size .u16 w A (ln b16 x) (dgt b16 x)
/-- The call returned a slice of the words of x; what was there is as it was. -/
def W32 (w : World) (x : Nat) (e : Ending) (w' : World) : Prop :=
  ∃ A c, e = .returned (.slice A (ln b32 x) c) ∧ ln b32 x ≤ c ∧ Num32 w' A x ∧ Below w.heap.size w w'
/-- The limbs f 0, .., f (n - 1) in a row of the call's own, from block 'base' on. -/
def Own16 (base : Nat) (w : World) (A : Option Addr) (n c : Nat) (f : Nat → Nat) : Prop := w.ownsRow base 116 1 (.slice A n c) n (nums .u16 n f)
/-- The call returned a whole number, in memory of its own. -/
def WW (w : World) (z : Bool) (x : Nat) (e : Ending) (w' : World) : Prop :=
  ∃ A c, e = .returned (.agg #[.bool z, .slice A (ln b16 x) c]) ∧ Own16 w.heap.size w' A (ln b16 x) c (dgt b16 x) ∧ Below w.heap.size w w'

theorem Num32.below {w w' : World} {A : Option Addr} {x : Nat} (h : Num32 w A x) (hb : Below w.heap.size w w') : Num32 w' A x := (Rd.below h hb).more hb.size
theorem Num16.below {w w' : World} {A : Option Addr} {x : Nat} (h : Num16 w A x) (hb : Below w.heap.size w w') : Num16 w' A x := (Rd.below h hb).more hb.size
theorem Num32.zero (w : World) (A : Option Addr) : Num32 w A 0 := by unfold Num32; rw [ln_zero]; exact Rd.nil
theorem Num16.zero (w : World) (A : Option Addr) : Num16 w A 0 := by unfold Num16; rw [ln_zero]; exact Rd.nil
theorem Num32.of_rd {w : World} {A : Option Addr} {n : Nat} {f : Nat → Nat} (h : Rd w.heap.size .u32 w A n f) (hf : ∀ i, i < n → f i < 4294967296) : Num32 w A (vs b32 f n) := by
  have hl : ln b32 (vs b32 f n) ≤ n := (ln_le b32_two).2 (vs_lt hf)
  exact (h.shorter hl).congr fun i hi => (dgt_vs hf (by omega)).symm

theorem Own16.of_row {base : Nat} {w : World} {g c m n : Nat} {f : Nat → Nat} (h : Row w g 116 .u16 c m f) (hb : base ≤ g) (hn : n ≤ m) (hnc : n ≤ c) (hc : c ≤ 1000000000) : Own16 base w (some ⟨g, 0, none⟩) n c f :=
  h.own hb hn hnc (by unfold maxLen; omega)
theorem Own16.congr {base : Nat} {w : World} {A : Option Addr} {n c : Nat} {f g : Nat → Nat} (h : Own16 base w A n c f) (hf : ∀ i, i < n → f i = g i) : Own16 base w A n c g := by
  unfold Own16 at h ⊢
  rw [← nums_congr hf]
  exact h
theorem Own16.nil (base : Nat) (w : World) (f : Nat → Nat) : Own16 base w none 0 0 f := World.ownsRow_nil ..
theorem Own16.rd {base : Nat} {w : World} {A : Option Addr} {n c : Nat} {f : Nat → Nat} (h : Own16 base w A n c f) : Rd w.heap.size .u16 w A n f := fun hn => by
  obtain ⟨g, cap, hv, _, hlt⟩ := h.form hn
  have hA : A = some ⟨g, 0, none⟩ := by injection hv
  subst hA
  refine ⟨g, 0, rfl, hlt, fun i hi => ?_⟩
  have h1 := h.cells (g := g) rfl i _ (nums_get hi)
  rw [Nat.zero_add]
  by_cases h0 : i = 0
  · subst h0; simpa [Addr.add] using h1
  · simpa [Addr.add, h0] using h1
theorem Own16.num {base : Nat} {w : World} {A : Option Addr} {c x : Nat} (h : Own16 base w A (ln b16 x) c (dgt b16 x)) : Num16 w A x := Own16.rd h
theorem Own16.lower {base base' : Nat} {w : World} {A : Option Addr} {n c : Nat} {f : Nat → Nat} (h : Own16 base w A n c f) (hb : base' ≤ base) : Own16 base' w A n c f := by
  obtain ⟨h1, h2⟩ := h
  refine ⟨h1, ?_⟩
  rcases h2 with h2 | ⟨g, cap, cur, hv, hg, r⟩
  · exact .inl h2
  · exact .inr ⟨g, cap, cur, hv, by omega, r⟩
theorem Own16.below {base B : Nat} {w w' : World} {A : Option Addr} {n c : Nat} {f : Nat → Nat} (h : Own16 base w A n c f) (hb : Below B w w') (hB : w.heap.size ≤ B) : Own16 base w' A n c f := by
  obtain ⟨h1, h2⟩ := h
  refine ⟨h1, ?_⟩
  rcases h2 with h2 | ⟨g, cap, cur, hv, hg, hh, r⟩
  · exact .inl h2
  · have hlt : g < w.heap.size := by
      rcases Nat.lt_or_ge g w.heap.size with hlt | hge
      · exact hlt
      · rw [Array.getElem?_eq_none hge] at hh; cases hh
    exact .inr ⟨g, cap, cur, hv, hg, (hb.block g (by omega)).trans hh, r⟩
theorem Own16.le {base : Nat} {w : World} {A : Option Addr} {n c : Nat} {f : Nat → Nat} (h : Own16 base w A n c f) : n ≤ c := by
  rcases h.2 with ⟨hv, hn⟩ | ⟨g, cap, cur, hv, _, _, hn, _⟩
  · omega
  · injection hv with _ _ e
    omega
/-- A clone: n numbers in a row of the call's own (nil for nil). -/
def ClonePost (t : TypeId) (k : IntKind) (A : Option Addr) (n : Nat) (f : Nat → Nat) (w : World) (e : Ending) (w' : World) : Prop :=
  ∃ v, e = .returned v ∧ w'.ownsRow w.heap.size t 1 v n (nums k n f) ∧ Below w.heap.size w w' ∧ (A = none → v = .slice none 0 0)

end Go.Proofs.YtmjlankpihnicaaGreat
namespace Go.Proofs.YtmjlankpihnicaaGreat
open Go.RowKit

theorem ret_bool {a b : Bool} (h : a = b) : Ending.returned (.bool a) = .returned (.bool b) := by rw [h]
/-- Is a number of n limbs valid? -/
def okW (s : Bool) (n : Nat) (f : Nat → Nat) : Bool := if n = 0 then !s else decide (n ≤ 1024) && (f (n - 1) != 0)
def okAll (ok : Nat → Bool) : Nat → Bool
  | 0 => true
  | k + 1 => okAll ok k && ok k
theorem okAll_false {ok : Nat → Bool} {k n : Nat} (h : k < n) (hk : ok k = false) : okAll ok n = false := by
  induction n with
  | zero => omega
  | succ n ih =>
    simp only [okAll]
    by_cases e : k = n
    · subst e; rw [hk, Bool.and_false]
    · rw [ih (by omega), Bool.false_and]
/-- The sign and the limbs of a number. -/
theorem okW_num {z : Int} (h : ln b16 z.natAbs ≤ 1024) : okW (decide (z < 0)) (ln b16 z.natAbs) (dgt b16 z.natAbs) = true := by
  unfold okW
  by_cases h0 : ln b16 z.natAbs = 0
  · have := (ln_eq_zero b16_two).1 h0
    rw [if_pos h0]
    simp; omega
  · have hp : 0 < z.natAbs := (ln_pos b16_two).1 (by omega)
    have ht := dgt_top b16_two hp
    rw [if_neg h0]
    simp [h, ht]

set_option maxRecDepth 100000 in
theorem valid_any (s : Bool) (A : Option Addr) (n c : Nat) (f : Nat → Nat) (w : World) (h : Rd w.heap.size .u16 w A n f) (hf : ∀ i, i < n → f i < 65536) (hn : n ≤ 1000000) :
    Calls Tryz.prog 103 #[.agg #[.bool s, .slice A n c]] w fun e w' => e = .returned (.bool (okW s n f)) ∧ Below w.heap.size w w' := by
  go_enter Tryz.func103, Tryz.ntmps103
  by_cases h0 : n = 0
  · subst h0
    go_wp2_with fail
    go_ret
    exact ⟨by simp [okW], (Below.refl _ _).alloc (Nat.le_refl _) _⟩
  · obtain ⟨b, o, rfl, hb, hc⟩ := h (by omega)
    have c1 := hc (n - 1) (by omega)
    have f1 := hf (n - 1) (by omega)
    have hi1 : 0 ≤ (n : Int) - 1 := by omega
    have hi2 : (n : Int) - 1 < (n : Int) := by omega
    have hi3 : ((n : Int) - 1).toNat = n - 1 := by omega
    have t0 : ((n : Int) == 0) = false := by simp; omega
    have ho : okW s n f = (decide (n ≤ 1024) && (f (n - 1) != 0)) := by unfold okW; rw [if_neg h0]
    have HO := Lib.hid ho
    clear hc hf ho
    by_cases h1 : n ≤ 1024
    · have t1 : (n : Int) ≤ 1024 := by omega
      go_wp2_with fail
      go_ret
      refine ⟨?_, (Below.refl _ _).alloc (Nat.le_refl _) _⟩
      rw [HO.out]
      show Ending.returned (.bool (((f (n - 1) : Nat) : Int) != 0)) = _
      have e : (((f (n - 1) : Nat) : Int) != 0) = (f (n - 1) != 0) := by
        by_cases e : f (n - 1) = 0
        · rw [e]; rfl
        · rw [bne_iff_ne.2 e, bne_iff_ne.2 (by omega)]
      rw [e, decide_eq_true h1, Bool.true_and]
    · have t1 : decide ((n : Int) ≤ 1024) = false := decide_eq_false (by omega)
      go_wp2_with fail
      go_ret
      refine ⟨?_, (Below.refl _ _).alloc (Nat.le_refl _) _⟩
      rw [HO.out]
      simp [h1]

/-- n numbers in a row of memory (as a variadic call lays them). -/
def Nums (w : World) (p : Addr) (n : Nat) (s : Nat → Bool) (A : Nat → Option Addr) (m c : Nat → Nat) (f : Nat → Nat → Nat) : Prop :=
  ∀ i, i < n → w.cell? ⟨p.block, p.off + i * 2, none⟩ = some (.bool (s i)) ∧ w.cell? ⟨p.block, p.off + i * 2 + 1, none⟩ = some (.slice (A i) (m i) (c i)) ∧ Rd w.heap.size .u16 w (A i) (m i) (f i) ∧ (∀ j, j < m i → f i j < 65536) ∧ m i ≤ 1000000
theorem Nums.below {w w' : World} {p : Addr} {n : Nat} {s : Nat → Bool} {A : Nat → Option Addr} {m c : Nat → Nat} {f : Nat → Nat → Nat} (h : Nums w p n s A m c f) (hp : p.block < w.heap.size) (hb : Below w.heap.size w w') : Nums w' p n s A m c f := fun i hi =>
  have ⟨h1, h2, h3, h4⟩ := h i hi
  ⟨(hb.cell (p := ⟨p.block, p.off + i * 2, none⟩) hp).trans h1, (hb.cell (p := ⟨p.block, p.off + i * 2 + 1, none⟩) hp).trans h2, (h3.below hb).more hb.size, h4⟩

set_option maxRecDepth 100000 in
set_option maxHeartbeats 1000000 in
theorem allValid_any (b o n : Nat) (s : Nat → Bool) (A : Nat → Option Addr) (m c : Nat → Nat) (f : Nat → Nat → Nat) (w : World) (h : Nums w ⟨b, o, none⟩ n s A m c f) (hb : b < w.heap.size) (hn : n ≤ 1000) :
    Calls Tryz.prog 116 #[.slice (some ⟨b, o, none⟩) n n] w fun e w' => e = .returned (.bool (okAll (fun i => okW (s i) (m i) (f i)) n)) ∧ Below w.heap.size w w' := by
  go_enter Tryz.func116, Tryz.ntmps116
  go_wp2_with fail
  go_loopw [7] (fun i wr => ∃ k : Nat, k ≤ n ∧ i = .int .i64 (k : Int) ∧ okAll (fun i => okW (s i) (m i) (f i)) k = true ∧ Below w.heap.size w wr) (fun i _ => n - (intOf i).toNat)
  case atStart => exact ⟨0, Nat.zero_le _, rfl, rfl, Below.refl _ _⟩
  case round =>
    obtain ⟨k, hk, rfl, hok, hbel⟩ := hrel
    by_cases hlt : k < n
    · obtain ⟨c1, c2, hrd, hf, hm⟩ := h k hlt
      have d1 := (hbel.cell (p := ⟨b, o + k * 2, none⟩) hb).trans c1
      have d2 := (hbel.cell (p := ⟨b, o + k * 2 + 1, none⟩) hb).trans c2
      have hv := fun w' (hw' : Below w.heap.size w w') => valid_any (s k) (A k) (m k) (c k) (f k) w' ((hrd.below hw').more hw'.size) hf hm
      have HV := Lib.hid hv
      have HOK := Lib.hid hok
      clear hv c1 c2 hok h hf
      go_wp2_with fail
      refine (HV.out _ (hbel.alloc hbel.size _)).mono ?_
      rintro e w2 ⟨rfl, hb2⟩
      have hbel2 := (hbel.alloc hbel.size (.cells #[.bool (s k), .slice (A k) (m k) (c k)] 27)).trans (hb2.mono (by simp; have := hbel.size; omega))
      cases hok : okW (s k) (m k) (f k)
      · go_wp2_with fail
        go_ret
        exact ⟨ret_bool (okAll_false hlt hok).symm, hbel2⟩
      · go_wp2_with fail
        go_roundw
        case rel => exact ⟨k + 1, by omega, by go_num, by simp only [okAll]; rw [HOK.out, hok]; rfl, hbel2⟩
        case measure => simp [intOf]; omega
    · obtain rfl : k = n := by omega
      clear h
      go_wp2_with fail
      go_ret
      exact ⟨ret_bool hok.symm, hbel⟩
end Go.Proofs.YtmjlankpihnicaaGreat
namespace Go.Proofs.YtmjlankpihnicaaGreat
open Go.RowKit

theorem clone32_nil (c : Nat) (f : Nat → Nat) (w : World) : Calls Tryz.prog 169 #[.slice none 0 c] w (ClonePost 152 .u32 none 0 f w) := by
  have qT : ∀ (w : World) (a : Option Addr) (n c n' c' : Nat), (binOp .eql 136 (.slice a n c) (.slice none n' c')).run Tryz.prog w = .ok (.bool a.isNone) w := fun w a n c n' c' => Lib.run_eql_slice_nil w _ _ a n c n' c' Tryz.underlying136
  go_enter Tryz.func169, Tryz.ntmps169
  go_wp2
  go_ret
  exact ⟨_, rfl, World.ownsRow_nil .., Below.refl _ _, fun _ => rfl⟩

set_option maxRecDepth 100000 in
set_option maxHeartbeats 400000 in
theorem clone32_some (a : Addr) (n c : Nat) (f : Nat → Nat) (w : World) (h : Rd w.heap.size .u32 w (some a) n f) (hn : n ≤ 100000000) : Calls Tryz.prog 169 #[.slice (some a) n c] w (ClonePost 152 .u32 (some a) n f w) := by
  have qT : ∀ (w : World) (a : Option Addr) (n c n' c' : Nat), (binOp .eql 136 (.slice a n c) (.slice none n' c')).run Tryz.prog w = .ok (.bool a.isNone) w := fun w a n c n' c' => Lib.run_eql_slice_nil w _ _ a n c n' c' Tryz.underlying136
  obtain ⟨i0, hi, hz0, hz1, hz2⟩ := info_parts info_u32
  go_enter Tryz.func169, Tryz.ntmps169
  have hcell : ∀ (j : Nat) (u : Value), (nums .u32 n f)[j]? = some u → (w.alloc (.cells #[] 152)).cell? (a.add j) = some u := by
    intro j u hu
    have hj : j < n := by
      rcases Nat.lt_or_ge j n with hj | hj
      · exact hj
      · rw [List.getElem?_eq_none (by rw [nums_length]; exact hj)] at hu; cases hu
    obtain ⟨b, o, e, hb, hc⟩ := (h.alloc (Nat.le_refl _) (.cells #[] 152)) (by omega)
    have e' : a = ⟨b, o, none⟩ := by injection e
    subst e'
    rw [nums_get hj] at hu
    have h1 := hc j hj
    unfold Addr.add
    split
    · rename_i h0; subst h0; rw [← hu]; exact h1
    · rw [← hu]; exact h1
  have HC := Lib.hid hcell
  clear hcell
  have HL : (nums .u32 n f).length = n * 1 := by rw [nums_length]; omega
  have H1 : ∀ u ∈ nums .u32 n f, u.oneCell' = true := by simp [nums, Value.oneCell']
  have HM : 0 + n ≤ maxLen := by unfold maxLen; omega
  have HB : (0 + n) * 4 ≤ 140737488355328 := by omega
  have HS : w.heap.size ≤ (w.alloc (.cells #[] 152)).heap.size := by simp
  go_wp2_with (at_builtin; refine wpList_append_own _ rfl _ _ 136 rfl w.heap.size 152 i0 (.int .u32 0) 1 4 Tryz.underlying136 hi hz0 hz1 hz2 rfl (by decide) _ _ _ rfl (World.ownsRow_made w #[] 0 (Nat.le_refl _) (by decide) rfl) a n c (nums .u32 n f) rfl HL HC.out H1 HM HB HS ?_; intro v' w1 hown hgrow hnil)
  go_ret
  refine ⟨_, rfl, ?_, ?_, fun e => by cases e⟩
  · rw [Nat.zero_add, List.nil_append] at hown
    exact hown
  · exact ((Below.refl _ _).alloc (Nat.le_refl _) _).grown hgrow (by simp) (fun k e => by cases e; exact Nat.le_refl _)
theorem clone32_any (A : Option Addr) (n c : Nat) (f : Nat → Nat) (w : World) (h : Rd w.heap.size .u32 w A n f) (hn : n ≤ 100000000) : Calls Tryz.prog 169 #[.slice A n c] w (ClonePost 152 .u32 A n f w) := by
  cases A with
  | some a => exact clone32_some a n c f w h hn
  | none =>
    rcases Nat.eq_zero_or_pos n with rfl | h0
    · exact clone32_nil c f w
    · obtain ⟨b, o, e, _⟩ := h h0
      cases e
end Go.Proofs.YtmjlankpihnicaaGreat
/-! slices.Clone of limbs. -/
namespace Go.Proofs.YtmjlankpihnicaaGreat
open Go.RowKit

theorem clone16_nil (c : Nat) (f : Nat → Nat) (w : World) : Calls Tryz.prog 94 #[.slice none 0 c] w (ClonePost 116 .u16 none 0 f w) := by
  have qT : ∀ (w : World) (a : Option Addr) (n c n' c' : Nat), (binOp .eql 25 (.slice a n c) (.slice none n' c')).run Tryz.prog w = .ok (.bool a.isNone) w := fun w a n c n' c' => Lib.run_eql_slice_nil w _ _ a n c n' c' Tryz.underlying25
  go_enter Tryz.func94, Tryz.ntmps94
  go_wp2
  go_ret
  exact ⟨_, rfl, World.ownsRow_nil .., Below.refl _ _, fun _ => rfl⟩

set_option maxRecDepth 100000 in
set_option maxHeartbeats 400000 in
theorem clone16_some (a : Addr) (n c : Nat) (f : Nat → Nat) (w : World) (h : Rd w.heap.size .u16 w (some a) n f) (hn : n ≤ 100000000) : Calls Tryz.prog 94 #[.slice (some a) n c] w (ClonePost 116 .u16 (some a) n f w) := by
  have qT : ∀ (w : World) (a : Option Addr) (n c n' c' : Nat), (binOp .eql 25 (.slice a n c) (.slice none n' c')).run Tryz.prog w = .ok (.bool a.isNone) w := fun w a n c n' c' => Lib.run_eql_slice_nil w _ _ a n c n' c' Tryz.underlying25
  obtain ⟨i0, hi, hz0, hz1, hz2⟩ := info_parts info_u16
  go_enter Tryz.func94, Tryz.ntmps94
  have hcell : ∀ (j : Nat) (u : Value), (nums .u16 n f)[j]? = some u → (w.alloc (.cells #[] 116)).cell? (a.add j) = some u := by
    intro j u hu
    have hj : j < n := by
      rcases Nat.lt_or_ge j n with hj | hj
      · exact hj
      · rw [List.getElem?_eq_none (by rw [nums_length]; exact hj)] at hu; cases hu
    obtain ⟨b, o, e, hb, hc⟩ := (h.alloc (Nat.le_refl _) (.cells #[] 116)) (by omega)
    have e' : a = ⟨b, o, none⟩ := by injection e
    subst e'
    rw [nums_get hj] at hu
    have h1 := hc j hj
    unfold Addr.add
    split
    · rename_i h0; subst h0; rw [← hu]; exact h1
    · rw [← hu]; exact h1
  have HC := Lib.hid hcell
  clear hcell
  have HL : (nums .u16 n f).length = n * 1 := by rw [nums_length]; omega
  have H1 : ∀ u ∈ nums .u16 n f, u.oneCell' = true := by simp [nums, Value.oneCell']
  have HM : 0 + n ≤ maxLen := by unfold maxLen; omega
  have HB : (0 + n) * 2 ≤ 140737488355328 := by omega
  have HS : w.heap.size ≤ (w.alloc (.cells #[] 116)).heap.size := by simp
  go_wp2_with (at_builtin; refine wpList_append_own _ rfl _ _ 25 rfl w.heap.size 116 i0 (.int .u16 0) 1 2 Tryz.underlying25 hi hz0 hz1 hz2 rfl (by decide) _ _ _ rfl (World.ownsRow_made w #[] 0 (Nat.le_refl _) (by decide) rfl) a n c (nums .u16 n f) rfl HL HC.out H1 HM HB HS ?_; intro v' w1 hown hgrow hnil)
  go_ret
  refine ⟨_, rfl, ?_, ?_, fun e => by cases e⟩
  · rw [Nat.zero_add, List.nil_append] at hown
    exact hown
  · exact ((Below.refl _ _).alloc (Nat.le_refl _) _).grown hgrow (by simp) (fun k e => by cases e; exact Nat.le_refl _)
theorem clone16_any (A : Option Addr) (n c : Nat) (f : Nat → Nat) (w : World) (h : Rd w.heap.size .u16 w A n f) (hn : n ≤ 100000000) : Calls Tryz.prog 94 #[.slice A n c] w (ClonePost 116 .u16 A n f w) := by
  cases A with
  | some a => exact clone16_some a n c f w h hn
  | none =>
    rcases Nat.eq_zero_or_pos n with rfl | h0
    · exact clone16_nil c f w
    · obtain ⟨b, o, e, _⟩ := h h0
      cases e
end Go.Proofs.YtmjlankpihnicaaGreat
namespace Go.Proofs.YtmjlankpihnicaaGreat
open Go.RowKit

/-- The call returned the whole number z, in memory of its own. -/
def WI (w : World) (z : Int) (e : Ending) (w' : World) : Prop :=
  ∃ A c, e = .returned (.agg #[.bool (decide (z < 0)), .slice A (ln b16 z.natAbs) c]) ∧ Own16 w.heap.size w' A (ln b16 z.natAbs) c (dgt b16 z.natAbs) ∧ Below w.heap.size w w'

/-- A variable that holds a whole number. -/
def WholeAt (w : World) (g : Nat) (s : Bool) (v : Value) : Prop := w.heap[g]? = some (.cells #[.bool s, v] 27 (0, 0))
theorem WholeAt.cells {w : World} {g : Nat} {s : Bool} {v : Value} (h : WholeAt w g s v) : w.cell? ⟨g, 0, none⟩ = some (.bool s) ∧ w.cell? ⟨g, 1, none⟩ = some v := by
  refine ⟨?_, ?_⟩ <;> exact (cell_of_row w g _ _ _ (0, 0) h).trans rfl
theorem WholeAt.frozen {w : World} {g : Nat} {s : Bool} {v : Value} (h : WholeAt w g s v) (i : Nat) : w.frozen? ⟨g, i, none⟩ = false := by
  simp [World.frozen?, show w.heap[g]? = _ from h]
theorem WholeAt.lt {w : World} {g : Nat} {s : Bool} {v : Value} (h : WholeAt w g s v) : g < w.heap.size := heap_lt h
theorem WholeAt.below {w w' : World} {B g : Nat} {s : Bool} {v : Value} (h : WholeAt w g s v) (hb : Below B w w') (hg : g < B) : WholeAt w' g s v := (hb.block g hg).trans h
theorem WholeAt.new (w : World) (s : Bool) (v : Value) : WholeAt (w.alloc (.cells #[.bool s, v] 27)) w.heap.size s v := heap_alloc_new _ _
theorem WholeAt.set {w : World} {g : Nat} {s : Bool} {v : Value} (h : WholeAt w g s v) (s' : Bool) (v' : Value) : WholeAt ((w.setCell ⟨g, 0, none⟩ (.bool s')).setCell ⟨g, 1, none⟩ v') g s' v' := by
  unfold WholeAt at h ⊢
  simp [World.setCell, Array.getElem?_modify, h]
theorem own_slice {base n : Nat} {w : World} {v : Value} {f : Nat → Nat} (h : w.ownsRow base 116 1 v n (nums .u16 n f)) : ∃ A c, v = .slice A n c ∧ Own16 base w A n c f := by
  rcases Row.of_own h with ⟨rfl, h0⟩ | ⟨g, c, rfl, _⟩
  · subst h0; exact ⟨none, 0, rfl, h⟩
  · exact ⟨_, _, rfl, h⟩

theorem ln_low {B : Nat} (hB : 2 ≤ B) (x k : Nat) : ln B (x % B ^ (k + 1)) = if dgt B x k = 0 then ln B (x % B ^ k) else k + 1 := by
  have hpk : 0 < B ^ k := Nat.pow_pos (by omega)
  have e : x % B ^ (k + 1) = x % B ^ k + B ^ k * dgt B x k := by
    rw [← vs_dgt, ← vs_dgt]; rfl
  have hm := Nat.mod_lt x hpk
  by_cases h0 : dgt B x k = 0
  · rw [if_pos h0, e, h0, Nat.mul_zero, Nat.add_zero]
  · rw [if_neg h0]
    refine ln_eq hB (Nat.mod_lt _ (Nat.pow_pos (by omega))) (.inr ?_)
    rw [e, Nat.add_sub_cancel]
    have : B ^ k * 1 ≤ B ^ k * dgt B x k := Nat.mul_le_mul_left _ (by omega)
    rw [Nat.mul_one] at this
    exact Nat.le_trans this (Nat.le_add_left _ _)
theorem ln_low_le {B : Nat} (hB : 2 ≤ B) (x k : Nat) : ln B (x % B ^ k) ≤ k := (ln_le hB).2 (Nat.mod_lt _ (Nat.pow_pos (by omega)))
theorem shift_dgt (x k : Nat) : ((x : Int) / 2 ^ (16 * k)) % 65536 = ((dgt b16 x k : Nat) : Int) := by
  have h : (2 : Nat) ^ (16 * k) = b16 ^ k := by rw [Nat.pow_mul]; rfl
  have e : ((x : Int) / 2 ^ (16 * k)) = ((x / 2 ^ (16 * k) : Nat) : Int) := by rw [Int.natCast_ediv, Int.natCast_pow]; rfl
  rw [e, h]; rfl

set_option maxRecDepth 100000 in
set_option maxHeartbeats 2000000 in
theorem fromInt_any (z : Int) (w : World) (h1 : -9223372036854775808 ≤ z) (h2 : z ≤ 9223372036854775807) : Calls Tryz.prog 54 #[.int .i64 z] w (WI w z) := by
  obtain ⟨x, hx⟩ : ∃ x, x = z.natAbs := ⟨_, rfl⟩
  have hx64 : x < 18446744073709551616 := by omega
  go_enter Tryz.func54, Tryz.ntmps54
  go_upto_if 10 with (fail)
  go_cut [3] (fun v wx => v = .int .u64 (x : Int) ∧ wx = w.alloc (.cells #[.bool false, .slice none 0 0] 27))
  case first =>
    by_cases hneg : z < 0
    · go_wp2_with fail
      go_meet
      refine ⟨?_, rfl⟩
      congr 1
      rw [IntKind.wrap_u64, IntKind.wrap_u64]; omega
    · go_wp2_with fail
      go_meet
      refine ⟨?_, rfl⟩
      congr 1
      rw [IntKind.wrap_u64]; omega
  case rest =>
    obtain ⟨rfl, rfl⟩ := hcut
    have HX := Lib.hid hx
    clear hx
    go_wp2_with fail
    go_loopw [5, 13] (fun cnt i wr => ∃ k : Nat, k ≤ 4 ∧ i = .int .i64 (k : Int) ∧ cnt = .int .i64 (ln b16 (x % b16 ^ k) : Nat) ∧ Row wr (w.heap.size + 1) 117 .u16 4 4 (fun j => if j < k then dgt b16 x j else 0) ∧
      wr.heap[w.heap.size]? = some (.cells #[.bool false, .slice none 0 0] 27 (0, 0)) ∧ Below w.heap.size w wr) (fun _ i _ => 4 - (intOf i).toNat)
    case atStart =>
      refine ⟨0, by omega, rfl, by simp [Nat.mod_one, ln_zero], ?_, ?_, ?_⟩
      · refine ⟨_, by have := heap_alloc_new (w.alloc (.cells #[.bool false, .slice none 0 0] 27)) (.cells #[.int .u16 0, .int .u16 0, .int .u16 0, .int .u16 0] 117); rwa [World.size_alloc] at this, rfl, fun i hi => ?_⟩
        match i, hi with
        | 0, _ => rfl
        | 1, _ => rfl
        | 2, _ => rfl
        | 3, _ => rfl
      · exact (Below.heap_alloc _ _ _ (by simp)).trans (heap_alloc_new _ _)
      · exact ((Below.refl _ w).alloc (Nat.le_refl _) _).alloc (by simp) _
    case round =>
      obtain ⟨k, hk, rfl, rfl, hrow, hres, hbel⟩ := hrel
      have hl := ln_low_le b16_two x k
      have hlt0 := hrow.lt
      by_cases hlt : k < 4
      · have c1 := hrow.cell (i := k) hlt
        have c2 := hrow.frozen k
        have hd := dgt16_lt x k
        have hsd := shift_dgt x k
        have hstep := ln_low b16_two x k
        have hw : IntKind.u16.wrap ((x : Int) / 2 ^ (16 * k)) = ((dgt b16 x k : Nat) : Int) := by rw [← hsd]; exact IntKind.wrap_u16 _
        have HST := Lib.hid hstep
        clear hsd hstep
        have hset : Row (wr.setCell ⟨w.heap.size + 1, k, none⟩ (.int .u16 (dgt b16 x k : Nat))) (w.heap.size + 1) 117 .u16 4 4 (fun j => if j < k + 1 then dgt b16 x j else 0) :=
          hrow.set (by simp) fun j _ hj => by simp only [show j < k + 1 ↔ j < k by omega]
        have hres2 := (Below.heap_setCell wr ⟨w.heap.size + 1, k, none⟩ (.int .u16 (dgt b16 x k : Nat)) w.heap.size (by simp)).trans hres
        have hbel2 := hbel.setCell (p := ⟨w.heap.size + 1, k, none⟩) (by simp) (.int .u16 (dgt b16 x k : Nat))
        have HRES := Lib.hid hres2
        clear hres2 hres
        by_cases hz : dgt b16 x k = 0
        · have tz : (((dgt b16 x k : Nat) : Int) != 0) = false := by rw [hz]; rfl
          have HZ := Lib.hid hz
          clear hz
          go_wp2_with fail
          go_roundw
          case rel => exact ⟨k + 1, by omega, by go_num, by rw [HST.out, if_pos HZ.out], hset, HRES.out, hbel2⟩
          case measure => simp [intOf]; omega
        · have tz : (((dgt b16 x k : Nat) : Int) != 0) = true := bne_iff_ne.2 (by omega)
          have HZ := Lib.hid hz
          clear hz
          go_wp2_with fail
          go_roundw
          case rel => exact ⟨k + 1, by omega, by go_num, by rw [HST.out, if_neg HZ.out]; go_num, hset, HRES.out, hbel2⟩
          case measure => simp [intOf]; omega
      · obtain rfl : k = 4 := by omega
        have e4 : x % b16 ^ 4 = x := Nat.mod_eq_of_lt hx64
        rw [e4] at hl ⊢
        have hl4 : ((ln b16 x : Nat) : Int) ≤ 4 := by omega
        have hl0 : 0 ≤ ((ln b16 x : Nat) : Int) := by omega
        have har : (Tryz.prog).arrayLen 117 = 4 := by kernel_rfl
        have hl5 : ((ln b16 x : Nat) : Int) ≤ ((Tryz.prog).arrayLen 117 : Int) := by rw [har]; omega
        clear e4
        go_wp2_with fail
        have hrd : Rd wr.heap.size .u16 wr (some ⟨w.heap.size + 1, 0, none⟩) (ln b16 x) (dgt b16 x) := (hrow.rd (n := ln b16 x) (by omega) hlt0).congr fun i hi => if_pos (show i < 4 by omega)
        refine (clone16_any _ (ln b16 x) 4 (dgt b16 x) wr hrd (by omega)).mono ?_
        rintro e w3 ⟨v, rfl, hown, hb3, -⟩
        obtain ⟨A, c, rfl, hown⟩ := own_slice hown
        have hW : WholeAt w3 w.heap.size false (.slice none 0 0) := WholeAt.below hres hb3 (by omega)
        obtain ⟨r0, r1⟩ := hW.cells
        have g0 := hW.frozen 0
        have g1 := hW.frozen 1
        have hbl3 := hbel.trans (hb3.mono hbel.size)
        have hW2 := hW.set (decide (z < 0)) (.slice A (ln b16 x) c)
        have hbl4 := (hbl3.setCell (p := ⟨w.heap.size, 0, none⟩) (Nat.le_refl _) (.bool (decide (z < 0)))).setCell (p := ⟨w.heap.size, 1, none⟩) (Nat.le_refl _) (.slice A (ln b16 x) c)
        have hR0 : w.heap.size < wr.heap.size := by omega
        have hown4 : Own16 w.heap.size ((w3.setCell ⟨w.heap.size, 0, none⟩ (.bool (decide (z < 0)))).setCell ⟨w.heap.size, 1, none⟩ (.slice A (ln b16 x) c)) A (ln b16 x) c (dgt b16 x) :=
          Own16.lower (base := wr.heap.size) (ownsRow_setCell_below (ownsRow_setCell_below hown (a := ⟨w.heap.size, 0, none⟩) hR0 _) (a := ⟨w.heap.size, 1, none⟩) hR0 _) (Nat.le_of_lt hR0)
        have HOWN := Lib.hid hown4
        have HW2 := Lib.hid hW2
        clear hown hown4 hW2
        go_wp2_with fail
        have hW2 := HW2.out
        have hown4 := HOWN.out
        clear hW r0 r1 HW2 HOWN
        generalize ((w3.setCell ⟨w.heap.size, 0, none⟩ (.bool (decide (z < 0)))).setCell ⟨w.heap.size, 1, none⟩ (.slice A (ln b16 x) c)) = WW at *
        obtain ⟨k0, k1⟩ := hW2.cells
        refine bodyPost_ret (v := .agg #[.bool (decide (z < 0)), .slice A (ln b16 x) c]) (by simp [results, Tryz.results54, go_sem, k0, k1]) rfl ?_
        rw [HX.out] at hown4 ⊢
        exact ⟨A, c, rfl, hown4, hbl4⟩
end Go.Proofs.YtmjlankpihnicaaGreat
namespace Go.Proofs.YtmjlankpihnicaaGreat
open Go.RowKit

theorem trim_round {f : Nat → Nat} {k V : Nat} (hk0 : 0 < k) (hv : vs b32 f k = V) (hx : ((f (k - 1) : Nat) : Int) = 0) : vs b32 f (k - 1) = V := by
  have h1 := vs_succ b32 f (k - 1)
  rw [show k - 1 + 1 = k by omega, hv, show f (k - 1) = 0 by omega] at h1
  omega

set_option maxHeartbeats 400000 in
theorem trim_walk (B : Nat) (A : Option Addr) (n c : Nat) (f : Nat → Nat) (w : World) (h : Rd B .u32 w A n f) (hf : ∀ i, i < n → f i < 4294967296) (hc : n ≤ c) (_hn : n ≤ 100000000) :
    Calls Tryz.prog 158 #[.slice A n c] w fun e w' => e = .returned (.slice A (ln b32 (vs b32 f n)) c) ∧ w = w' := by
  have HF := Lib.hid hf
  clear hf
  go_enter Tryz.func158, Tryz.ntmps158
  go_wp2
  go_loop [0] (fun v => ∃ k : Nat, k ≤ n ∧ v = .slice A k c ∧ vs b32 f k = vs b32 f n) (fun v => match v with | .slice _ k _ => k | _ => 0)
  case atStart => exact ⟨n, Nat.le_refl _, rfl, rfl⟩
  case round =>
    obtain ⟨k, hk, rfl, hv⟩ := hrel
    have HV := Lib.hid hv
    clear hv
    rcases Nat.eq_zero_or_pos k with rfl | hk0
    · go_wp2
      go_ret
      exact ⟨ret_slice (by rw [← HV.out, vs_zero, ln_zero]), rfl⟩
    · obtain ⟨b, o, rfl, hb, hcell⟩ := h (by omega)
      have hx := hcell (k - 1) (by omega)
      go_wp2
      · have h0 : (((f (k - 1) : Nat) : Int) == 0) = true := by assumption
        go_round
        case rel => exact ⟨k - 1, by omega, rfl, trim_round hk0 HV.out (by simpa using h0)⟩
        case measure => simp; omega
      · have h0 : (((f (k - 1) : Nat) : Int) == 0) = false := by assumption
        go_ret
        have hne : f (k - 1) ≠ 0 := by
          intro e
          rw [e] at h0
          simp at h0
        exact ⟨ret_slice (by rw [← HV.out, ln_vs b32_two (fun j hj => HF.out j (by omega)) (.inr hne)]), rfl⟩
/-- trim: the words of the number without leading zeros, in the same place. -/
theorem trim_any (A : Option Addr) (n c : Nat) (f : Nat → Nat) (w : World) (h : Rd w.heap.size .u32 w A n f) (hf : ∀ i, i < n → f i < 4294967296) (hc : n ≤ c) (hn : n ≤ 100000000) :
    Calls Tryz.prog 158 #[.slice A n c] w fun e w' => e = .returned (.slice A (ln b32 (vs b32 f n)) c) ∧ w = w' ∧ Num32 w A (vs b32 f n) ∧ ln b32 (vs b32 f n) ≤ c :=
  (trim_walk _ A n c f w h hf hc hn).mono fun _ _ ⟨he, hw⟩ => ⟨he, hw, Num32.of_rd h hf, Nat.le_trans ((ln_le b32_two).2 (vs_lt hf)) hc⟩
theorem trim_num (A : Option Addr) (c x : Nat) (w : World) (h : Num32 w A x) (hc : ln b32 x ≤ c) (hn : ln b32 x ≤ 100000000) :
    Calls Tryz.prog 158 #[.slice A (ln b32 x) c] w fun e w' => e = .returned (.slice A (ln b32 x) c) ∧ w = w' :=
  (trim_walk _ A _ c _ w h (fun i _ => dgt32_lt x i) hc hn).mono fun _ _ ⟨he, hw⟩ => ⟨by rw [he, vs_dgt_ln b32_two], hw⟩
theorem trim_one (H x c : Nat) (w : World) (h : w.cell? ⟨H, 0, none⟩ = some (.int .u32 (x : Int))) (hH : H < w.heap.size) (hx : x < 4294967296) (hc : 1 ≤ c) :
    Calls Tryz.prog 158 #[.slice (some ⟨H, 0, none⟩) 1 c] w fun e w' => e = .returned (.slice (some ⟨H, 0, none⟩) (ln b32 x) c) ∧ w = w' ∧ Num32 w (some ⟨H, 0, none⟩) x ∧ ln b32 x ≤ c := by
  have h1 := trim_any (some ⟨H, 0, none⟩) 1 c (fun _ => x) w (fun _ => ⟨H, 0, rfl, hH, fun i hi => by
    obtain rfl : i = 0 := by omega
    exact h⟩) (fun _ _ => hx) hc (by omega)
  rw [show vs b32 (fun _ => x) 1 = x by simp [vs]] at h1
  exact h1
end Go.Proofs.YtmjlankpihnicaaGreat
namespace Go.Proofs.YtmjlankpihnicaaGreat
open Go.RowKit

/-- The limbs after k words. -/
def ust (x k j : Nat) : Nat := if j < 2 * k then dgt b16 x j else 0

set_option maxHeartbeats 400000 in
theorem unpack_zero (z : Bool) (A : Option Addr) (c : Nat) (w : World) : Calls Tryz.prog 155 #[.bool z, .slice A 0 c] w (WW w false 0) := by
  have ht : ∀ w : World, Calls Tryz.prog 158 #[.slice A 0 c] w fun e w' => e = .returned (.slice A 0 c) ∧ w = w' := fun w => by
    have ht := trim_num A c 0 w (Num32.zero w A) (by rw [ln_zero]; omega) (by rw [ln_zero]; omega)
    rw [ln_zero] at ht
    exact ht
  have HT := Lib.hid ht
  clear ht
  go_enter Tryz.func155, Tryz.ntmps155
  go_wp2_with fail
  refine (HT.out _).mono ?_
  rintro e w1 ⟨rfl, rfl⟩
  go_wp2
  refine bodyPost_ret (v := .agg #[.bool false, .slice none 0 0]) (by simp [results, Tryz.results155, go_sem]) rfl ?_
  refine ⟨none, 0, by rw [ln_zero], ?_, ?_⟩
  · rw [ln_zero]; exact Own16.nil ..
  · repeat (first | exact Below.refl _ _ | refine Below.setCell ?_ (Nat.le_refl _) _ | refine Below.alloc ?_ (Nat.le_refl _) _)
set_option maxHeartbeats 1000000 in
theorem unpack_pos (z : Bool) (A : Option Addr) (c x : Nat) (w : World) (h : Num32 w A x) (hc : ln b32 x ≤ c) (hn : ln b32 x ≤ 1000000) (hx : 0 < x) :
    Calls Tryz.prog 155 #[.bool z, .slice A (ln b32 x) c] w (WW w z x) := by
  have hpos := (ln_pos b32_two).2 hx
  have hl2 := ln32_two x
  have hpos16 := (ln_pos b16_two).2 hx
  have HL2 := Lib.hid hl2
  have hle1 : ln b16 x ≤ 2 * ln b32 x := by omega
  have hle2 : 2 * ln b32 x ≤ ln b16 x + 1 := by omega
  clear hl2
  obtain ⟨b, o, rfl, hb, hca⟩ := h hpos
  have ht : ∀ w' : World, Below w.heap.size w w' → Calls Tryz.prog 158 #[.slice (some ⟨b, o, none⟩) (ln b32 x) c] w' fun e w1 => e = .returned (.slice (some ⟨b, o, none⟩) (ln b32 x) c) ∧ w' = w1 :=
    fun w' hb' => trim_num _ c x w' (Num32.below h hb') hc (by omega)
  have HT := Lib.hid ht
  clear ht
  have hmk := mk16 (2 * ln b32 x) (2 * ln b32 x) (Nat.le_refl _) (by omega)
  rw [show ((2 * ln b32 x : Nat) : Int) = 2 * (ln b32 x : Int) by omega] at hmk
  have k1 : (((ln b32 x : Nat) : Int) == 0) = false := by simp; omega
  go_enter Tryz.func155, Tryz.ntmps155
  go_wp2_with fail
  refine (HT.out _ ((Below.refl _ _).alloc (Nat.le_refl _) _)).mono ?_
  rintro e w1 ⟨rfl, rfl⟩
  go_wp2_with fail
  clear hmk
  go_loopw [20] (fun i wr => ∃ k : Nat, k ≤ ln b32 x ∧ i = .int .i64 k ∧ Row wr (w.heap.size + 1) 116 .u16 (2 * ln b32 x) (2 * ln b32 x) (ust x k) ∧ wr.heap[w.heap.size]? = some (.cells #[.bool false, .slice none 0 0] 27 (0, 0)) ∧ Below w.heap.size w wr) (fun i _ => ln b32 x - (intOf i).toNat)
  case atStart =>
    refine ⟨0, Nat.zero_le _, rfl, ?_, ?_, ((Below.refl _ _).alloc (Nat.le_refl _) _).alloc (by simp) _⟩
    · have hr := Row.made (w := w.alloc (.cells #[.bool false, .slice none 0 0] 27)) (t := 116) (m := 2 * ln b32 x) (k := .u16)
      rw [World.size_alloc] at hr
      exact hr.congr fun j _ => by simp [ust]
    · exact (Below.heap_alloc _ _ _ (by simp)).trans (heap_alloc_new _ _)
  case round =>
    obtain ⟨k, hk, rfl, hrow, hres, hbel⟩ := hrel
    by_cases hlt : k < ln b32 x
    · have c0 := (hbel.cell (p := ⟨b, o + k, none⟩) hb).trans (hca k hlt)
      have c1 := hrow.cell (i := 2 * k) (by omega)
      have c2 := hrow.frozen (2 * k)
      have c3 := hrow.cell (i := 2 * k + 1) (by omega)
      have c4 := hrow.frozen (2 * k + 1)
      have hxk := dgt32_lt x k
      have e1 : IntKind.u16.wrap ((dgt b32 x k : Nat) : Int) = ((dgt b16 x (2 * k) : Nat) : Int) := by
        rw [IntKind.wrap_u16]
        have h1 := dgt32_two x k
        have h2 := dgt16_lt x (2 * k)
        omega
      have e2 : ((dgt b32 x k : Nat) : Int) / 65536 = ((dgt b16 x (2 * k + 1) : Nat) : Int) := by
        have h1 := dgt32_two x k
        have h2 := dgt16_lt x (2 * k)
        omega
      have E1 := Lib.hid e1
      have E2 := Lib.hid e2
      clear e1 e2
      go_wp2_with fail
      go_roundw
      case rel =>
        rw [E1.out, E2.out]
        refine ⟨k + 1, by omega, by go_num, ?_, (Below.heap_setCell _ _ _ _ (by simp)).trans ((Below.heap_setCell _ _ _ _ (by simp)).trans hres), (hbel.setCell (by simp) _).setCell (by simp) _⟩
        exact (hrow.set (f' := fun j => if j = 2 * k then dgt b16 x (2 * k) else ust x k j) (by simp) fun j _ hj => by simp [hj]).set (by simp [ust]; omega) fun j _ hj => by
          simp only [ust]
          by_cases e : j = 2 * k
          · subst e; simp
          · simp only [e, if_false, show j < 2 * (k + 1) ↔ j < 2 * k by omega]
      case measure => simp [intOf]; omega
    · obtain rfl : k = ln b32 x := by omega
      have hrow2 := hrow.congr (f' := dgt b16 x) fun j hj => by simp only [ust, if_pos hj]
      have c0 := hrow2.cell (i := 2 * ln b32 x - 1) (by omega)
      have r0 : wr.cell? ⟨w.heap.size, 0, none⟩ = some (.bool false) := by rw [cell_of_row _ _ _ _ _ (0, 0) hres]; rfl
      have r1 : wr.cell? ⟨w.heap.size, 1, none⟩ = some (.slice none 0 0) := by rw [cell_of_row _ _ _ _ _ (0, 0) hres]; rfl
      have r2 : ∀ i, wr.frozen? ⟨w.heap.size, i, none⟩ = false := fun i => by simp [World.frozen?, hres]
      have r3 := r2 0
      have r4 := r2 1
      clear r2
      by_cases htop : ln b16 x = 2 * ln b32 x
      · have hne := dgt_top b16_two hx
        rw [htop] at hne
        have t1 : (((dgt b16 x (2 * ln b32 x - 1) : Nat) : Int) == 0) = false := by simp; exact hne
        have HTOP := Lib.hid htop
        clear htop hne
        go_wp2_with fail
        refine bodyPost_ret (v := .agg #[.bool z, .slice (some ⟨w.heap.size + 1, 0, none⟩) (2 * ln b32 x) (2 * ln b32 x)]) (by simp [results, Tryz.results155, go_sem, r0, r1]) rfl ?_
        refine ⟨_, _, by rw [HTOP.out], ?_, (hbel.setCell (Nat.le_refl _) _).setCell (Nat.le_refl _) _⟩
        exact Own16.of_row ((hrow2.far (p := ⟨w.heap.size, 0, none⟩) (by simp) _).far (p := ⟨w.heap.size, 1, none⟩) (by simp) _) (by omega) hle1 hle1 (by omega)
      · have htop2 : ln b16 x = 2 * ln b32 x - 1 := by omega
        have hz : dgt b16 x (2 * ln b32 x - 1) = 0 := dgt_of_lt ((ln_le b16_two).1 (by omega))
        have t1 : (((dgt b16 x (2 * ln b32 x - 1) : Nat) : Int) == 0) = true := by simp; exact hz
        have HTOP := Lib.hid htop2
        clear htop htop2 hz
        go_wp2_with fail
        refine bodyPost_ret (v := .agg #[.bool z, .slice (some ⟨w.heap.size + 1, 0, none⟩) (2 * ln b32 x - 1) (2 * ln b32 x)]) (by simp [results, Tryz.results155, go_sem, r0, r1]) rfl ?_
        refine ⟨_, _, by rw [HTOP.out], ?_, (hbel.setCell (Nat.le_refl _) _).setCell (Nat.le_refl _) _⟩
        exact Own16.of_row ((hrow2.far (p := ⟨w.heap.size, 0, none⟩) (by simp) _).far (p := ⟨w.heap.size, 1, none⟩) (by simp) _) (by omega) hle1 hle1 (by omega)
theorem unpack_any (z : Bool) (A : Option Addr) (c x : Nat) (w : World) (h : Num32 w A x) (hc : ln b32 x ≤ c) (hn : ln b32 x ≤ 1000000) :
    Calls Tryz.prog 155 #[.bool z, .slice A (ln b32 x) c] w (WW w (z && decide (0 < x)) x) := by
  rcases Nat.eq_zero_or_pos x with rfl | hx
  · rw [ln_zero, show (z && decide (0 < 0)) = false by cases z <;> rfl]
    exact unpack_zero z A c w
  · rw [show (z && decide (0 < x)) = z by rw [decide_eq_true hx]; cases z <;> rfl]
    exact unpack_pos z A c x w h hc hn hx
end Go.Proofs.YtmjlankpihnicaaGreat
namespace Go.Proofs.YtmjlankpihnicaaGreat
open Go.RowKit

def CmpPost (a b : Nat) (w : World) (e : Ending) (w' : World) : Prop := e = .returned (.int .i64 (cmpI a b)) ∧ ∃ n, w' = w.drewN n

set_option maxHeartbeats 400000 in
theorem compare_len (A B : Option Addr) (n m c d : Nat) (w : World) (h : n ≠ m) :
    Calls Tryz.prog 117 #[.slice A n c, .slice B m d] w fun e w' => e = .returned (.int .i64 (cmpI n m)) ∧ w = w' := by
  rcases Nat.lt_or_gt_of_ne h with h1 | h1
  · have k1 : ((n : Int) != m) = true := by simp; omega
    have k2 : (n : Int) < m := by omega
    have k3 := Lib.hid (cmpI_lt h1)
    go_enter Tryz.func117, Tryz.ntmps117
    go_wp2
    go_ret
    exact ⟨ret_int k3.out.symm, rfl⟩
  · have k1 : ((n : Int) != m) = true := by simp; omega
    have k2 : ¬ (n : Int) < m := by omega
    have k3 := Lib.hid (cmpI_gt h1)
    go_enter Tryz.func117, Tryz.ntmps117
    go_wp2
    go_ret
    exact ⟨ret_int k3.out.symm, rfl⟩

set_option maxHeartbeats 400000 in
theorem compare_same (A B : Option Addr) (n c d a b : Nat) (w : World) (ha : Rd w.heap.size .u32 w A n (dgt b32 a)) (hb : Rd w.heap.size .u32 w B n (dgt b32 b)) (hn : n ≤ 100000000) (la : a < b32 ^ n) (lb : b < b32 ^ n) :
    Calls Tryz.prog 117 #[.slice A n c, .slice B n d] w (CmpPost a b w) := by
  have LA := Lib.hid la
  have LB := Lib.hid lb
  clear la lb
  have hcell : ∀ j, j < n → ∃ p q p' q', A = some ⟨p, q, none⟩ ∧ B = some ⟨p', q', none⟩ ∧ (w.cell? ⟨p, q + j, none⟩ = some (.int .u32 (dgt b32 a j : Int))) ∧ (w.cell? ⟨p', q' + j, none⟩ = some (.int .u32 (dgt b32 b j : Int))) := fun j hj => by
    obtain ⟨p, q, e, _, h1⟩ := ha (by omega)
    obtain ⟨p', q', e', _, h2⟩ := hb (by omega)
    exact ⟨p, q, p', q', e, e', h1 j hj, h2 j hj⟩
  have HC := Lib.hid hcell
  clear ha hb hcell
  go_enter Tryz.func117, Tryz.ntmps117
  go_wp2
  go_loopw [5] (fun i wr => ∃ k : Nat, k ≤ n ∧ i = .int .i64 ((k : Int) - 1) ∧ (∀ j, k ≤ j → j < n → dgt b32 a j = dgt b32 b j) ∧ ∃ m, wr = w.drewN m) (fun i _ => (intOf i + 1).toNat)
  case atStart => exact ⟨n, Nat.le_refl _, rfl, fun j h1 h2 => absurd h2 (by omega), 0, rfl⟩
  case round =>
    obtain ⟨k, hk, rfl, he, m, rfl⟩ := hrel
    have HE := Lib.hid he
    clear he
    rcases Nat.eq_zero_or_pos k with rfl | hk0
    · go_wp2
      go_ret
      exact ⟨ret_int (cmpI_eq (eq_of_dgt LA.out LB.out fun j hj => HE.out j (by omega) hj)).symm, m, rfl⟩
    · obtain ⟨p, q, p', q', rfl, rfl, h1, h2⟩ := HC.out (k - 1) (by omega)
      have ek : ((k : Int) - 1).toNat = k - 1 := by omega
      rcases Nat.lt_trichotomy (dgt b32 a (k - 1)) (dgt b32 b (k - 1)) with hlt | heq | hgt
      · have t1 : (((dgt b32 a (k - 1) : Nat) : Int) != ((dgt b32 b (k - 1) : Nat) : Int)) = true := by simp; omega
        have t2 : ((dgt b32 a (k - 1) : Nat) : Int) < ((dgt b32 b (k - 1) : Nat) : Int) := by omega
        have t3 := Lib.hid (cmpI_lt (lt_of_dgt b32_two LA.out LB.out (by omega) (fun j h1 h2 => HE.out j (by omega) h2) hlt))
        go_wp2
        go_quiet (fail)
        go_wp2
        go_quiet (fail)
        go_wp2
        go_ret
        exact ⟨ret_int t3.out.symm, _, by rw [World.drewN_drewN, World.drewN_drewN]⟩
      · have t1 : (((dgt b32 a (k - 1) : Nat) : Int) != ((dgt b32 b (k - 1) : Nat) : Int)) = false := by simp; omega
        go_wp2
        go_quiet (fail)
        go_wp2
        go_roundw
        case rel =>
          refine ⟨k - 1, by omega, by go_num, fun j h1 h2 => ?_, _, rfl⟩
          by_cases e : j = k - 1
          · rw [e]; exact heq
          · exact HE.out j (by omega) h2
        case measure => simp [intOf]; omega
      · have t1 : (((dgt b32 a (k - 1) : Nat) : Int) != ((dgt b32 b (k - 1) : Nat) : Int)) = true := by simp; omega
        have t2 : ¬ ((dgt b32 a (k - 1) : Nat) : Int) < ((dgt b32 b (k - 1) : Nat) : Int) := by omega
        have t3 := Lib.hid (cmpI_gt (lt_of_dgt b32_two LB.out LA.out (by omega) (fun j h1 h2 => (HE.out j (by omega) h2).symm) hgt))
        go_wp2
        go_quiet (fail)
        go_wp2
        go_quiet (fail)
        go_wp2
        go_ret
        exact ⟨ret_int t3.out.symm, _, by rw [World.drewN_drewN, World.drewN_drewN]⟩
theorem compare_any (A B : Option Addr) (c d a b : Nat) (w : World) (ha : Num32 w A a) (hb : Num32 w B b) (la : ln b32 a ≤ 100000000) :
    Calls Tryz.prog 117 #[.slice A (ln b32 a) c, .slice B (ln b32 b) d] w (CmpPost a b w) := by
  by_cases h : ln b32 a = ln b32 b
  · unfold Num32 at ha hb
    have h1 := lt_pow_ln b32_two a
    have h2 := lt_pow_ln b32_two b
    rw [← h] at hb h2 ⊢
    exact compare_same A B _ c d a b w ha hb la h1 h2
  · refine (compare_len A B _ _ c d w h).mono fun e w' ⟨he, hw⟩ => ⟨?_, 0, hw.symm⟩
    rw [he]
    rcases Nat.lt_or_gt_of_ne h with h1 | h1
    · have : a < b := Nat.lt_of_not_le fun hle => by have := ln_mono b32_two hle; omega
      rw [cmpI_lt h1, cmpI_lt this]
    · have : b < a := Nat.lt_of_not_le fun hle => by have := ln_mono b32_two hle; omega
      rw [cmpI_gt h1, cmpI_gt this]
end Go.Proofs.YtmjlankpihnicaaGreat
namespace Go.Proofs.YtmjlankpihnicaaGreat
open Go.RowKit

/-- What a collector works on: the carry, the box of the pointer, the slice variable, and the row of words; the words are f 0, .., f (n - 1). -/
structure Coll (B0 Bc Bb Bv g c : Nat) (f : Nat → Nat) (w : World) (n carry : Nat) : Prop where
  carryC : w.heap[Bc]? = some (.cells #[.int .u64 (carry : Int)] 115 (0, 0))
  box : w.heap[Bb]? = some (.cells #[.pointer (some ⟨Bv, 0, none⟩)] 177 (0, 0))
  var : w.heap[Bv]? = some (.cells #[.slice (some ⟨g, 0, none⟩) n c] 136 (0, 0))
  row : Row w g 152 .u32 c n f
  lows : B0 ≤ Bc ∧ B0 ≤ Bb ∧ B0 ≤ Bv ∧ B0 ≤ g ∧ Bc ≠ Bb ∧ Bc ≠ Bv ∧ Bc ≠ g ∧ Bb ≠ Bv ∧ Bb ≠ g ∧ Bv ≠ g

theorem coll_step {B0 Bc Bb Bv g c : Nat} {f : Nat → Nat} {w : World} {n carry : Nat} (h : Coll B0 Bc Bb Bv g c f w n carry) (hn : n < c) {x v : Int} {carry' : Nat} {o : Obj} (hx : x = (f n : Int)) (hv : v = (carry' : Int)) :
    Coll B0 Bc Bb Bv g c f ((((w.setCell ⟨g, n, none⟩ (.int .u32 x)).setCell ⟨Bv, 0, none⟩ (.slice (some ⟨g, 0, none⟩) (n + 1) c)).setCell ⟨Bc, 0, none⟩ (.int .u64 v)).alloc o).drew (n + 1) carry' := by
  subst hx hv
  obtain ⟨h1, h2, h3, h4, l1, l2, l3, l4, d1, d2, d3, d4, d5, d6⟩ := h
  have e1 := one_setCell (u := .int .u64 (carry' : Int)) ((Below.heap_setCell (w.setCell ⟨g, n, none⟩ (.int .u32 (f n : Int))) ⟨Bv, 0, none⟩ (.slice (some ⟨g, 0, none⟩) (n + 1) c) Bc d2).trans ((Below.heap_setCell w ⟨g, n, none⟩ (.int .u32 (f n : Int)) Bc d3).trans h1))
  have e3 := one_setCell (u := .slice (some ⟨g, 0, none⟩) (n + 1) c) ((Below.heap_setCell w ⟨g, n, none⟩ (.int .u32 (f n : Int)) Bv d6).trans h3)
  have f3 := (Below.heap_setCell _ ⟨Bc, 0, none⟩ (.int .u64 (carry' : Int)) Bv (Ne.symm d2)).trans e3
  have f2 := (Below.heap_setCell _ ⟨Bc, 0, none⟩ (.int .u64 (carry' : Int)) Bb (Ne.symm d1)).trans ((Below.heap_setCell (w.setCell ⟨g, n, none⟩ (.int .u32 (f n : Int))) ⟨Bv, 0, none⟩ (.slice (some ⟨g, 0, none⟩) (n + 1) c) Bb d4).trans ((Below.heap_setCell w ⟨g, n, none⟩ (.int .u32 (f n : Int)) Bb d5).trans h2))
  have f4 := ((h4.push hn rfl).far (p := ⟨Bv, 0, none⟩) (Ne.symm d6) (.slice (some ⟨g, 0, none⟩) (n + 1) c)).far (p := ⟨Bc, 0, none⟩) (Ne.symm d3) (.int .u64 (carry' : Int))
  exact ⟨(Below.heap_alloc _ _ _ (lt_of_block e1)).trans e1, (Below.heap_alloc _ _ _ (lt_of_block f2)).trans f2, (Below.heap_alloc _ _ _ (lt_of_block f3)).trans f3, (f4.alloc _).drew, l1, l2, l3, l4, d1, d2, d3, d4, d5, d6⟩
set_option maxHeartbeats 400000 in
theorem collect_any (B0 Bc Bb Bv g c : Nat) (f : Nat → Nat) (n carry sum : Nat) (w : World) (h : Coll B0 Bc Bb Bv g c f w n carry) (hn : n < c) (hs : sum + carry < 18446744073709551616)
    (hf : f n = (sum + carry) % 4294967296) :
    Calls Tryz.prog 181 #[.int .u64 (sum : Int), .pointer (some ⟨Bc, 0, none⟩), .pointer (some ⟨Bb, 0, none⟩)] w fun e w' => e = .returned (.tuple #[]) ∧ Coll B0 Bc Bb Bv g c f w' (n + 1) ((sum + carry) / 4294967296) ∧ Below B0 w w' := by
  obtain ⟨h1, h2, h3, ⟨cur, hrow, hsz, hcur⟩, l1, l2, l3, l4, d1, d2, d3, d4, d5, d6⟩ := h
  have c1 := cell_of_one h1
  have c2 := cell_of_one h2
  have c3 := cell_of_one h3
  have k1 := free_of_one h1
  have k3 := free_of_one h3
  have c4 : w.cell? ⟨g, n, none⟩ = some cur[n] := by
    rw [cell_of_row w g n _ _ (0, 0) hrow]
    exact Array.getElem?_eq_getElem (by omega)
  have k4 : w.frozen? ⟨g, n, none⟩ = false := by simp [World.frozen?, hrow]
  have b1 := lt_of_block h1
  have b2 := lt_of_block h2
  have b3 := lt_of_block h3
  have b4 := heap_lt hrow
  have hn1 : n + 1 ≤ c := by omega
  have HF := Lib.hid hf
  have HR := Lib.hid hcur
  clear hf hcur
  go_enter Tryz.func181, Tryz.ntmps181
  go_wp2
  go_region
  go_wp2
  go_end0
  refine ⟨rfl, coll_step ⟨h1, h2, h3, ⟨cur, hrow, hsz, HR.out⟩, l1, l2, l3, l4, d1, d2, d3, d4, d5, d6⟩ hn (by rw [HF.out]; omega) (by omega), ?_⟩
  exact ((((Below.refl _ _).setCell (p := ⟨g, n, none⟩) l4 _).setCell (p := ⟨Bv, 0, none⟩) l3 _).setCell (p := ⟨Bc, 0, none⟩) l1 _).alloc (by simp [World.setCell]; omega) _ |>.drew
theorem collect_int (B0 Bc Bb Bv g c : Nat) (f : Nat → Nat) (n carry sum : Nat) (s : Int) (w : World) (h : Coll B0 Bc Bb Bv g c f w n carry) (hn : n < c) (hs : sum + carry < 18446744073709551616)
    (hf : f n = (sum + carry) % 4294967296) (e : s = (sum : Int)) :
    Calls Tryz.prog 181 #[.int .u64 s, .pointer (some ⟨Bc, 0, none⟩), .pointer (some ⟨Bb, 0, none⟩)] w fun e w' => e = .returned (.tuple #[]) ∧ Coll B0 Bc Bb Bv g c f w' (n + 1) ((sum + carry) / 4294967296) ∧ Below B0 w w' := by
  subst e
  exact collect_any B0 Bc Bb Bv g c f n carry sum w h hn hs hf
theorem collector_any (p : Addr) (w : World) : Calls Tryz.prog 174 #[.pointer (some p)] w fun e w' =>
    e = .returned (.func (.func 181) #[] #[.pointer (some ⟨w.heap.size + 1, 0, none⟩), .pointer (some ⟨w.heap.size, 0, none⟩)]) ∧ (w.alloc (.cells #[.pointer (some p)] 177)).alloc (.cells #[.int .u64 0] 115) = w' := by
  go_enter Tryz.func174, Tryz.ntmps174
  go_wp2
  go_ret
  exact ⟨rfl, rfl⟩
/-- The world in which plus and timesShort begin to collect. -/
theorem coll_start (w : World) (c : Nat) (f : Nat → Nat) :
    Coll w.heap.size (w.heap.size + 1 + 1 + 1) (w.heap.size + 1 + 1) (w.heap.size + 1) w.heap.size c f
      ((((w.alloc (.cells (madeCells #[.int .u32 0] c) 152)).alloc (.cells #[.slice (some ⟨w.heap.size, 0, none⟩) 0 c] 136)).alloc (.cells #[.pointer (some ⟨w.heap.size + 1, 0, none⟩)] 177)).alloc (.cells #[.int .u64 0] 115)) 0 0 := by
  refine ⟨?_, ?_, ?_, ((((Row.made.shorter (Nat.zero_le _)).congr fun j hj => absurd hj (by omega)).alloc _).alloc _).alloc _, by omega, by omega, by omega, by omega, by omega, by omega, by omega, by omega, by omega, by omega⟩
  · have := heap_alloc_new (((w.alloc (.cells (madeCells #[.int .u32 0] c) 152)).alloc (.cells #[.slice (some ⟨w.heap.size, 0, none⟩) 0 c] 136)).alloc (.cells #[.pointer (some ⟨w.heap.size + 1, 0, none⟩)] 177)) (.cells #[.int .u64 0] 115)
    simpa using this
  · have := heap_alloc_new ((w.alloc (.cells (madeCells #[.int .u32 0] c) 152)).alloc (.cells #[.slice (some ⟨w.heap.size, 0, none⟩) 0 c] 136)) (.cells #[.pointer (some ⟨w.heap.size + 1, 0, none⟩)] 177)
    refine (Below.heap_alloc _ _ _ (by simp)).trans ?_
    simpa using this
  · have := heap_alloc_new (w.alloc (.cells (madeCells #[.int .u32 0] c) 152)) (.cells #[.slice (some ⟨w.heap.size, 0, none⟩) 0 c] 136)
    refine (Below.heap_alloc _ _ _ (by simp)).trans ((Below.heap_alloc _ _ _ (by simp)).trans ?_)
    simpa using this
theorem coll_below (w : World) (o1 o2 : Obj) (o3 o4 : Obj) : Below w.heap.size w ((((w.alloc o1).alloc o2).alloc o3).alloc o4) :=
  ((((Below.refl _ w).alloc (Nat.le_refl _) _).alloc (by simp) _).alloc (by simp; omega) _).alloc (by simp; omega) _
end Go.Proofs.YtmjlankpihnicaaGreat
namespace Go.Proofs.YtmjlankpihnicaaGreat
open Go.RowKit

/-- The carry into digit k, and digit k, of a sum. -/
def cry (f g : Nat → Nat) : Nat → Nat
  | 0 => 0
  | k + 1 => (f k + g k + cry f g k) / 4294967296
def sdg (f g : Nat → Nat) (k : Nat) : Nat := (f k + g k + cry f g k) % 4294967296
theorem cry_le {f g : Nat → Nat} (hf : ∀ i, f i < 4294967296) (hg : ∀ i, g i < 4294967296) (k : Nat) : cry f g k ≤ 1 := by
  induction k with
  | zero => exact Nat.zero_le _
  | succ k ih =>
    have := hf k
    have := hg k
    rw [cry]; omega
theorem sdg_lt (f g : Nat → Nat) (k : Nat) : sdg f g k < 4294967296 := Nat.mod_lt _ (by decide)
theorem sdg_sum (f g : Nat → Nat) (n : Nat) : vs b32 (sdg f g) n + b32 ^ n * cry f g n = vs b32 f n + vs b32 g n := by
  induction n with
  | zero => simp [vs, cry]
  | succ n ih =>
    have h := carry_step (t := f n + g n) ih (show sdg f g n = (f n + g n + cry f g n) % b32 by rfl)
    rw [Nat.mul_add] at h
    rw [vs_succ b32 f, vs_succ b32 g]
    have e : cry f g (n + 1) = (f n + g n + cry f g n) / b32 := rfl
    rw [e]
    omega
theorem sdg_total {a b : Nat} (h : ln b32 b ≤ ln b32 a) : vs b32 (sdg (dgt b32 a) (dgt b32 b)) (ln b32 a + 1) = a + b := by
  have h1 := sdg_sum (dgt b32 a) (dgt b32 b) (ln b32 a + 1)
  have h2 : a < b32 ^ (ln b32 a + 1) := (ln_le b32_two).1 (by omega)
  have h3 : b < b32 ^ (ln b32 a + 1) := (ln_le b32_two).1 (by omega)
  have h4 : cry (dgt b32 a) (dgt b32 b) (ln b32 a + 1) = 0 := by
    have hc := cry_le (fun i => dgt32_lt a i) (fun i => dgt32_lt b i) (ln b32 a)
    rw [cry, dgt_of_lt (lt_pow_ln b32_two a), dgt_of_lt ((ln_le b32_two).1 h)]
    omega
  rw [h4, vs_dgt_lt h2, vs_dgt_lt h3, Nat.mul_zero, Nat.add_zero] at h1
  exact h1

set_option maxHeartbeats 400000 in
theorem plus_walk (A B : Option Addr) (c d a b : Nat) (w : World) (ha : Num32 w A a) (hb : Num32 w B b) (hba : ln b32 b ≤ ln b32 a) (hn : ln b32 a ≤ 1000000) :
    Calls Tryz.prog 163 #[.slice A (ln b32 a) c, .slice B (ln b32 b) d] w (W32 w (a + b)) := by
  have HN := Lib.hid (@sdg_total a b hba)
  have hmk := mk32 0 (ln b32 a + 1) (by omega) (by omega)
  rw [show ((ln b32 a + 1 : Nat) : Int) = (ln b32 a : Int) + 1 by omega, show ((0 : Nat) : Int) = 0 by rfl] at hmk
  have k0 : ¬ (ln b32 a : Int) < (ln b32 b : Int) := by omega
  go_enter Tryz.func163, Tryz.ntmps163
  go_wp2_with fail
  refine (collector_any _ _).mono ?_
  rintro e w1 ⟨rfl, rfl⟩
  go_wp2_with fail
  clear hmk
  go_loopw [24] (fun i wr => ∃ k : Nat, k ≤ ln b32 a ∧ i = .int .i64 k ∧ Coll w.heap.size (w.heap.size + 1 + 1 + 1) (w.heap.size + 1 + 1) (w.heap.size + 1) w.heap.size (ln b32 a + 1) (sdg (dgt b32 a) (dgt b32 b)) wr k (cry (dgt b32 a) (dgt b32 b) k) ∧ Below w.heap.size w wr) (fun i _ => ln b32 a - (intOf i).toNat)
  case atStart => exact ⟨0, Nat.zero_le _, rfl, coll_start _ _ _, coll_below _ _ _ _ _⟩
  case round =>
    obtain ⟨k, hk, rfl, hcoll, hbel⟩ := hrel
    have hcr := cry_le (fun i => dgt32_lt a i) (fun i => dgt32_lt b i) k
    by_cases hlt : k < ln b32 a
    · have hx := dgt32_lt a k
      have hy := dgt32_lt b k
      obtain ⟨p, q, rfl, hp, hca⟩ := ha (by omega)
      have c0 := (hbel.cell (p := ⟨p, q + k, none⟩) hp).trans (hca k hlt)
      by_cases hkb : k < ln b32 b
      · obtain ⟨p', q', rfl, hp', hcb⟩ := hb (by omega)
        have c1 := (hbel.cell (p := ⟨p', q' + k, none⟩) hp').trans (hcb k hkb)
        have hcol := collect_int _ _ _ _ _ _ _ _ _ (dgt b32 a k + dgt b32 b k) ((dgt b32 a k : Int) + dgt b32 b k) _ hcoll (by omega) (by omega) rfl (by omega)
        have HC := Lib.hid hcol
        clear hcol
        go_wp2_with fail
        refine HC.out.mono ?_
        rintro e w2 ⟨rfl, hcoll2, hbel2⟩
        go_wp2
        go_roundw
        case rel => exact ⟨k + 1, by omega, by go_num, hcoll2, hbel.trans hbel2⟩
        case measure => simp [intOf]; omega
      · have h0 : dgt b32 b k = 0 := dgt_of_lt ((ln_le b32_two).1 (by omega))
        have hcol := collect_int _ _ _ _ _ _ _ _ _ (dgt b32 a k + dgt b32 b k) (dgt b32 a k : Int) _ hcoll (by omega) (by omega) rfl (by omega)
        have HC := Lib.hid hcol
        clear hcol h0
        go_wp2_with fail
        refine HC.out.mono ?_
        rintro e w2 ⟨rfl, hcoll2, hbel2⟩
        go_wp2
        go_roundw
        case rel => exact ⟨k + 1, by omega, by go_num, hcoll2, hbel.trans hbel2⟩
        case measure => simp [intOf]; omega
    · obtain rfl : k = ln b32 a := by omega
      have h0 : dgt b32 a (ln b32 a) = 0 := dgt_of_lt (lt_pow_ln b32_two a)
      have h1 : dgt b32 b (ln b32 a) = 0 := dgt_of_lt ((ln_le b32_two).1 hba)
      have hcol := collect_int _ _ _ _ _ _ _ _ _ 0 0 _ hcoll (by omega) (by omega) (by rw [sdg, h0, h1]) (by omega)
      have HC := Lib.hid hcol
      clear hcol h0 h1
      go_wp2_with fail
      refine HC.out.mono ?_
      rintro e w2 ⟨rfl, hcoll2, hbel2⟩
      have c3 := cell_of_one hcoll2.var
      have ht := trim_any (some ⟨w.heap.size, 0, none⟩) _ (ln b32 a + 1) _ w2 (hcoll2.row.rd (Nat.le_refl _) hcoll2.row.lt) (fun i _ => sdg_lt ..) (Nat.le_refl _) (by omega)
      rw [HN.out] at ht
      have HT := Lib.hid ht
      clear ht
      go_wp2_with fail
      refine HT.out.mono ?_
      rintro e w3 ⟨rfl, rfl, hnum, hlc⟩
      go_wp2
      go_ret
      exact ⟨_, _, rfl, hlc, hnum, hbel.trans hbel2⟩
set_option maxHeartbeats 400000 in
theorem plus_swap (A B : Option Addr) (c d a b : Nat) (w : World) (ha : Num32 w A a) (hb : Num32 w B b) (hba : ln b32 a < ln b32 b) (hn : ln b32 b ≤ 1000000) :
    Calls Tryz.prog 163 #[.slice A (ln b32 a) c, .slice B (ln b32 b) d] w (W32 w (b + a)) := by
  have HN := Lib.hid (@sdg_total b a (by omega))
  have hmk := mk32 0 (ln b32 b + 1) (by omega) (by omega)
  rw [show ((ln b32 b + 1 : Nat) : Int) = (ln b32 b : Int) + 1 by omega, show ((0 : Nat) : Int) = 0 by rfl] at hmk
  have k0 : (ln b32 a : Int) < (ln b32 b : Int) := by omega
  go_enter Tryz.func163, Tryz.ntmps163
  go_wp2_with fail
  refine (collector_any _ _).mono ?_
  rintro e w1 ⟨rfl, rfl⟩
  go_wp2_with fail
  clear hmk
  go_loopw [24] (fun i wr => ∃ k : Nat, k ≤ ln b32 b ∧ i = .int .i64 k ∧ Coll w.heap.size (w.heap.size + 1 + 1 + 1) (w.heap.size + 1 + 1) (w.heap.size + 1) w.heap.size (ln b32 b + 1) (sdg (dgt b32 b) (dgt b32 a)) wr k (cry (dgt b32 b) (dgt b32 a) k) ∧ Below w.heap.size w wr) (fun i _ => ln b32 b - (intOf i).toNat)
  case atStart => exact ⟨0, Nat.zero_le _, rfl, coll_start _ _ _, coll_below _ _ _ _ _⟩
  case round =>
    obtain ⟨k, hk, rfl, hcoll, hbel⟩ := hrel
    have hcr := cry_le (fun i => dgt32_lt b i) (fun i => dgt32_lt a i) k
    by_cases hlt : k < ln b32 b
    · have hx := dgt32_lt b k
      have hy := dgt32_lt a k
      obtain ⟨p, q, rfl, hp, hca⟩ := hb (by omega)
      have c0 := (hbel.cell (p := ⟨p, q + k, none⟩) hp).trans (hca k hlt)
      by_cases hkb : k < ln b32 a
      · obtain ⟨p', q', rfl, hp', hcb⟩ := ha (by omega)
        have c1 := (hbel.cell (p := ⟨p', q' + k, none⟩) hp').trans (hcb k hkb)
        have hcol := collect_int _ _ _ _ _ _ _ _ _ (dgt b32 b k + dgt b32 a k) ((dgt b32 b k : Int) + dgt b32 a k) _ hcoll (by omega) (by omega) rfl (by omega)
        have HC := Lib.hid hcol
        clear hcol
        go_wp2_with fail
        refine HC.out.mono ?_
        rintro e w2 ⟨rfl, hcoll2, hbel2⟩
        go_wp2
        go_roundw
        case rel => exact ⟨k + 1, by omega, by go_num, hcoll2, hbel.trans hbel2⟩
        case measure => simp [intOf]; omega
      · have h0 : dgt b32 a k = 0 := dgt_of_lt ((ln_le b32_two).1 (by omega))
        have hcol := collect_int _ _ _ _ _ _ _ _ _ (dgt b32 b k + dgt b32 a k) (dgt b32 b k : Int) _ hcoll (by omega) (by omega) rfl (by omega)
        have HC := Lib.hid hcol
        clear hcol h0
        go_wp2_with fail
        refine HC.out.mono ?_
        rintro e w2 ⟨rfl, hcoll2, hbel2⟩
        go_wp2
        go_roundw
        case rel => exact ⟨k + 1, by omega, by go_num, hcoll2, hbel.trans hbel2⟩
        case measure => simp [intOf]; omega
    · obtain rfl : k = ln b32 b := by omega
      have h0 : dgt b32 b (ln b32 b) = 0 := dgt_of_lt (lt_pow_ln b32_two b)
      have h1 : dgt b32 a (ln b32 b) = 0 := dgt_of_lt ((ln_le b32_two).1 (by omega))
      have hcol := collect_int _ _ _ _ _ _ _ _ _ 0 0 _ hcoll (by omega) (by omega) (by rw [sdg, h0, h1]) (by omega)
      have HC := Lib.hid hcol
      clear hcol h0 h1
      go_wp2_with fail
      refine HC.out.mono ?_
      rintro e w2 ⟨rfl, hcoll2, hbel2⟩
      have c3 := cell_of_one hcoll2.var
      have ht := trim_any (some ⟨w.heap.size, 0, none⟩) _ (ln b32 b + 1) _ w2 (hcoll2.row.rd (Nat.le_refl _) hcoll2.row.lt) (fun i _ => sdg_lt ..) (Nat.le_refl _) (by omega)
      rw [HN.out] at ht
      have HT := Lib.hid ht
      clear ht
      go_wp2_with fail
      refine HT.out.mono ?_
      rintro e w3 ⟨rfl, rfl, hnum, hlc⟩
      go_wp2
      go_ret
      exact ⟨_, _, rfl, hlc, hnum, hbel.trans hbel2⟩
theorem plus_any (A B : Option Addr) (c d a b : Nat) (w : World) (ha : Num32 w A a) (hb : Num32 w B b) (hn : ln b32 a ≤ 1000000) (hm : ln b32 b ≤ 1000000) :
    Calls Tryz.prog 163 #[.slice A (ln b32 a) c, .slice B (ln b32 b) d] w (W32 w (a + b)) := by
  by_cases h : ln b32 b ≤ ln b32 a
  · exact plus_walk A B c d a b w ha hb h hn
  · rw [Nat.add_comm a b]
    exact plus_swap A B c d a b w ha hb (by omega) hm
end Go.Proofs.YtmjlankpihnicaaGreat
namespace Go.Proofs.YtmjlankpihnicaaGreat
open Go

theorem nat_or_add {i a b : Nat} (hb : b < 2 ^ i) : 2 ^ i * a ||| b = 2 ^ i * a + b := (Nat.two_pow_add_eq_or_of_lt hb a).symm
theorem nat_or_add' {i a b : Nat} (hb : b < 2 ^ i) : b ||| 2 ^ i * a = b + 2 ^ i * a := by rw [Nat.or_comm, nat_or_add hb, Nat.add_comm]
theorem u32_or_add {a b : Nat} (ha : a < 65536) (hb : b < 65536) : bits .or .u32 (a : Int) ((65536 * b : Nat) : Int) = ((a + 65536 * b : Nat) : Int) := by
  rw [u32_or_nat a (65536 * b) (by omega) (by omega), show 65536 * b = 2 ^ 16 * b by rfl, nat_or_add' (by omega)]
theorem u32_or_zero {b : Nat} (hb : b < 4294967296) : bits .or .u32 0 (b : Int) = (b : Int) := by
  have := u32_or_nat 0 b (by omega) hb
  rw [Nat.zero_or] at this
  exact this
/-- Difference and borrow of 32 bits. -/
def subD (x y b : Nat) : Nat := (x + 4294967296 - y - b) % 4294967296
def subB (x y b : Nat) : Nat := if x < y + b then 1 else 0
theorem subB_le (x y b : Nat) : subB x y b ≤ 1 := by unfold subB; split <;> omega
theorem sub_eq {x y b : Nat} (hx : x < 4294967296) (hy : y < 4294967296) (hb : b ≤ 1) : x + 4294967296 * subB x y b = subD x y b + y + b := by
  unfold subD subB; split <;> omega
theorem subD_lt (x y b : Nat) : subD x y b < 4294967296 := Nat.mod_lt _ (by decide)
theorem bit_cases {p : Nat} (h : p ≤ 1) : p = 0 ∨ p = 1 := by omega
theorem sub_borrow {x y b : Nat} (hx : x < 4294967296) (hy : y < 4294967296) (hb : b ≤ 1) :
    (((4294967295 ^^^ x) &&& y) ||| ((4294967295 ^^^ (x ^^^ y)) &&& subD x y b)) / 2147483648 = subB x y b := by
  have e : ∀ n : Nat, n / 2147483648 = n >>> 31 := fun n => by rw [Nat.shiftRight_eq_div_pow]
  have hd := subD_lt x y b
  have h := sub_eq hx hy hb
  have hB := subB_le x y b
  have hxx : x >>> 31 = x / 2147483648 := (e x).symm
  have hyy : y >>> 31 = y / 2147483648 := (e y).symm
  have hdd : subD x y b >>> 31 = subD x y b / 2147483648 := (e _).symm
  rw [e, Nat.shiftRight_or_distrib, Nat.shiftRight_and_distrib, Nat.shiftRight_and_distrib, Nat.shiftRight_xor_distrib, Nat.shiftRight_xor_distrib, Nat.shiftRight_xor_distrib, hxx, hyy, hdd, show (4294967295 : Nat) >>> 31 = 1 by rfl]
  generalize hdN : subD x y b = d at *
  generalize hsN : subB x y b = s at *
  have hx1 : x / 2147483648 ≤ 1 := by omega
  have hy1 : y / 2147483648 ≤ 1 := by omega
  have hd1 : d / 2147483648 ≤ 1 := by omega
  rcases bit_cases hx1 with h1 | h1 <;> rcases bit_cases hy1 with h2 | h2 <;> rcases bit_cases hd1 with h3 | h3 <;> rw [h1, h2, h3] <;> simp <;> omega
theorem u32_max : IntKind.u32.max = ((4294967295 : Nat) : Int) := rfl
theorem sub_borrow_walk {x y b : Nat} (hx : x < 4294967296) (hy : y < 4294967296) (hb : b ≤ 1) :
    bits .or .u32 (bits .and .u32 (bits .xor .u32 IntKind.u32.max x) y) (bits .and .u32 (bits .xor .u32 IntKind.u32.max (bits .xor .u32 x y)) (((x : Int) - y - b) % 4294967296)) / 2147483648 = ((subB x y b : Nat) : Int) := by
  have ed : ((x : Int) - y - b) % 4294967296 = ((subD x y b : Nat) : Int) := by unfold subD; omega
  have hd := subD_lt x y b
  have hxy : x ^^^ y < 4294967296 := Nat.xor_lt_two_pow (n := 32) hx hy
  have h1 : 4294967295 ^^^ x < 4294967296 := Nat.xor_lt_two_pow (n := 32) (by decide) hx
  have h2 : 4294967295 ^^^ (x ^^^ y) < 4294967296 := Nat.xor_lt_two_pow (n := 32) (by decide) hxy
  rw [ed, u32_max, u32_xor_nat _ _ (by decide) hx, u32_xor_nat _ _ hx hy, u32_xor_nat _ _ (by decide) hxy, u32_and_nat _ _ h1 hy, u32_and_nat _ _ h2 hd,
    u32_or_nat _ _ (Nat.lt_of_le_of_lt Nat.and_le_right hy) (Nat.lt_of_le_of_lt Nat.and_le_right hd), ← sub_borrow hx hy hb]
  omega
theorem u64_or_add {a b : Nat} (ha : a < 4294967296) (hb : b < 4294967296) : bits .or .u64 ((4294967296 * a : Nat) : Int) (b : Int) = ((4294967296 * a + b : Nat) : Int) := by
  rw [u64_or_nat _ _ (by omega) (by omega), show 4294967296 * a = 2 ^ 32 * a by rfl, nat_or_add (by omega)]
end Go.Proofs.YtmjlankpihnicaaGreat
namespace Go.Proofs.YtmjlankpihnicaaGreat
open Go.RowKit

set_option maxHeartbeats 400000 in
theorem sub32_any (x y b : Nat) (w : World) (hx : x < 4294967296) (hy : y < 4294967296) (hb : b ≤ 1) :
    Calls Tryz.prog 175 #[.int .u32 (x : Int), .int .u32 (y : Int), .int .u32 (b : Int)] w fun e w' => e = .returned (.tuple #[.int .u32 (subD x y b : Nat), .int .u32 (subB x y b : Nat)]) ∧ w = w' := by
  have hs : IntKind.u32.signed = false := rfl
  go_enter Tryz.func175, Tryz.ntmps175
  go_wp2
  go_ret2
  exact ⟨ret_ints (by unfold subD; omega) (sub_borrow_walk hx hy hb), rfl⟩
set_option maxHeartbeats 400000 in
theorem add32_any (x y b : Nat) (w : World) (hx : x < 4294967296) (hy : y < 4294967296) (hb : b ≤ 1) :
    Calls Tryz.prog 180 #[.int .u32 (x : Int), .int .u32 (y : Int), .int .u32 (b : Int)] w fun e w' => e = .returned (.tuple #[.int .u32 ((x + y + b) % 4294967296 : Nat), .int .u32 ((x + y + b) / 4294967296 : Nat)]) ∧ w = w' := by
  go_enter Tryz.func180, Tryz.ntmps180
  go_wp2
  go_ret2
  exact ⟨ret_ints (by omega) (by omega), rfl⟩
theorem div32_lt {h l d : Nat} (hh : h < d) (hl : l < 4294967296) : (4294967296 * h + l) / d < 4294967296 := by
  rw [Nat.div_lt_iff_lt_mul (by omega)]
  have : 4294967296 * (h + 1) ≤ 4294967296 * d := Nat.mul_le_mul_left _ hh
  omega
set_option maxHeartbeats 400000 in
theorem div32_any (h l d : Nat) (w : World) (hh : h < d) (hl : l < 4294967296) (hd : d < 4294967296) :
    Calls Tryz.prog 178 #[.int .u32 (h : Int), .int .u32 (l : Int), .int .u32 (d : Int)] w fun e w' => e = .returned (.tuple #[.int .u32 ((4294967296 * h + l) / d : Nat), .int .u32 ((4294967296 * h + l) % d : Nat)]) ∧ ∃ n, w' = w.drewN n := by
  have hd0 : (0 : Int) < d := by omega
  have h1 : ((d : Int) != 0) = true := by simp; omega
  have h2 : ¬ (d : Int) ≤ h := by omega
  have h3 := u64_or_add (a := h) (b := l) (by omega) hl
  rw [show ((4294967296 * h : Nat) : Int) = (h : Int) * 4294967296 by omega] at h3
  go_enter Tryz.func178, Tryz.ntmps178
  go_wp2
  go_quiet (fail)
  go_wp2
  go_ret2
  have hq := div32_lt hh hl
  have hr := Nat.mod_lt (4294967296 * h + l) (show 0 < d by omega)
  have e1 : (4294967296 * (h : Int) + l) / d = ((4294967296 * h + l) / d : Nat) := by rw [show 4294967296 * (h : Int) + l = ((4294967296 * h + l : Nat) : Int) by omega, ← Int.natCast_ediv]
  have e2 : (4294967296 * (h : Int) + l) % d = ((4294967296 * h + l) % d : Nat) := by rw [show 4294967296 * (h : Int) + l = ((4294967296 * h + l : Nat) : Int) by omega, ← Int.natCast_emod]
  exact ⟨ret_ints (by rw [e1]; exact Int.emod_eq_of_lt (Int.natCast_nonneg _) (by omega)) (by rw [e2]; exact Int.emod_eq_of_lt (Int.natCast_nonneg _) (by omega)), nq, rfl⟩
theorem sub32_zero (x b : Nat) (w : World) (hx : x < 4294967296) (hb : b ≤ 1) :
    Calls Tryz.prog 175 #[.int .u32 (x : Int), .int .u32 0, .int .u32 (b : Int)] w fun e w' => e = .returned (.tuple #[.int .u32 (subD x 0 b : Nat), .int .u32 (subB x 0 b : Nat)]) ∧ w = w' :=
  sub32_any x 0 b w hx (by decide) hb
theorem sub32_int {x y b : Int} {X Y Z : Nat} (ex : x = (X : Int)) (ey : y = (Y : Int)) (eb : b = (Z : Int)) (hx : X < 4294967296) (hy : Y < 4294967296) (hb : Z ≤ 1) (w : World) :
    Calls Tryz.prog 175 #[.int .u32 x, .int .u32 y, .int .u32 b] w fun e w' => e = .returned (.tuple #[.int .u32 (subD X Y Z : Nat), .int .u32 (subB X Y Z : Nat)]) ∧ w = w' := by
  subst ex ey eb
  exact sub32_any X Y Z w hx hy hb
end Go.Proofs.YtmjlankpihnicaaGreat
namespace Go.Proofs.YtmjlankpihnicaaGreat
open Go.RowKit

/-- The borrow before digit k, and digit k, of a difference. -/
def brw (f g : Nat → Nat) : Nat → Nat
  | 0 => 0
  | k + 1 => subB (f k) (g k) (brw f g k)
def dif (f g : Nat → Nat) (k : Nat) : Nat := subD (f k) (g k) (brw f g k)
theorem brw_le (f g : Nat → Nat) (k : Nat) : brw f g k ≤ 1 := by
  cases k with
  | zero => exact Nat.zero_le _
  | succ k => exact subB_le ..
theorem dif_sum {f g : Nat → Nat} (hf : ∀ i, f i < 4294967296) (hg : ∀ i, g i < 4294967296) (n : Nat) : vs b32 f n + b32 ^ n * brw f g n = vs b32 (dif f g) n + vs b32 g n := by
  induction n with
  | zero => simp [vs, brw]
  | succ n ih =>
    have h := sub_eq (hf n) (hg n) (brw_le f g n)
    have h2 : b32 ^ n * (f n + 4294967296 * subB (f n) (g n) (brw f g n)) = b32 ^ n * (subD (f n) (g n) (brw f g n) + g n + brw f g n) := by rw [h]
    rw [vs_succ, vs_succ, vs_succ, brw, dif, Nat.pow_succ, Nat.mul_assoc]
    simp only [Nat.mul_add] at h2
    rw [show b32 * subB (f n) (g n) (brw f g n) = 4294967296 * subB (f n) (g n) (brw f g n) by rfl]
    omega
theorem dif_lt (f g : Nat → Nat) (k : Nat) : dif f g k < 4294967296 := subD_lt ..
theorem dif_total {a b : Nat} (h : b ≤ a) : vs b32 (dif (dgt b32 a) (dgt b32 b)) (ln b32 a) = a - b := by
  have h1 := dif_sum (fun i => dgt32_lt a i) (fun i => dgt32_lt b i) (ln b32 a)
  have h2 := lt_pow_ln b32_two a
  rw [vs_dgt_lt h2, vs_dgt_lt (Nat.lt_of_le_of_lt h h2)] at h1
  have h3 : vs b32 (dif (dgt b32 a) (dgt b32 b)) (ln b32 a) < b32 ^ ln b32 a := vs_lt fun j _ => dif_lt ..
  rcases bit_cases (brw_le (dgt b32 a) (dgt b32 b) (ln b32 a)) with e | e
  · rw [e] at h1; omega
  · rw [e] at h1; omega

/-- What the words are after k rounds. -/
def mst (a b k j : Nat) : Nat := if j < k then dif (dgt b32 a) (dgt b32 b) j else dgt b32 a j

set_option maxHeartbeats 400000 in
theorem minus_any (A B : Option Addr) (c d a b : Nat) (w : World) (ha : Num32 w A a) (hb : Num32 w B b) (hba : b ≤ a) (hn : ln b32 a ≤ 1000000) :
    Calls Tryz.prog 164 #[.slice A (ln b32 a) c, .slice B (ln b32 b) d] w (W32 w (a - b)) := by
  have hlen := ln_mono b32_two hba
  have HN := Lib.hid (@dif_total a b hba)
  go_enter Tryz.func164, Tryz.ntmps164
  go_wp2_with fail
  refine (clone32_any _ _ _ (dgt b32 a) _ ha (by omega)).mono ?_
  rintro e w1 ⟨v, rfl, hown, hbel, -⟩
  obtain ⟨A1, c1, rfl, hnc, hrow⟩ := RowO.of_own hown
  clear hown
  go_wp2_with fail
  go_loopw [6, 13] (fun br i wr => ∃ k : Nat, k ≤ ln b32 a ∧ i = .int .i64 k ∧ br = .int .u32 (brw (dgt b32 a) (dgt b32 b) k : Nat) ∧ RowO w.heap.size wr A1 152 .u32 c1 (ln b32 a) (mst a b k) ∧ Below w.heap.size w wr) (fun _ i _ => ln b32 a - (intOf i).toNat)
  case atStart => exact ⟨0, Nat.zero_le _, rfl, rfl, hrow.congr fun j _ => by simp [mst], hbel⟩
  case round =>
    obtain ⟨k, hk, rfl, rfl, hrow, hbel⟩ := hrel
    have hbr := brw_le (dgt b32 a) (dgt b32 b) k
    by_cases hlt : k < ln b32 a
    · have hx := dgt32_lt a k
      have hy := dgt32_lt b k
      obtain ⟨g, rfl, hg, hr⟩ := hrow (by omega)
      have c0 := hr.cell hlt
      have c2 := hr.frozen k
      rw [show mst a b k k = dgt b32 a k by simp [mst]] at c0
      have hset : ∀ u, u = dif (dgt b32 a) (dgt b32 b) k → Row (wr.setCell ⟨g, k, none⟩ (.int .u32 (u : Int))) g 152 .u32 c1 (ln b32 a) (mst a b (k + 1)) := fun u hu =>
        hr.set (by simp [mst, hu]) fun j _ hj => by simp only [mst, show j < k + 1 ↔ j < k by omega]
      have HSET := Lib.hid hset
      clear hset
      by_cases hkb : k < ln b32 b
      · obtain ⟨p', q', rfl, hp', hcb⟩ := hb (by omega)
        have c1 := (hbel.cell (p := ⟨p', q' + k, none⟩) hp').trans (hcb k hkb)
        go_wp2_with (go_at_call 175; refine (sub32_any _ _ _ _ hx hy hbr).mono ?_; rintro e w' ⟨rfl, rfl⟩)
        go_roundw
        case rel => exact ⟨k + 1, by omega, by go_num, rfl, fun _ => ⟨g, rfl, hg, HSET.out _ rfl⟩, hbel.setCell (by exact hg) _⟩
        case measure => simp [intOf]; omega
      · have h0 : dgt b32 b k = 0 := dgt_of_lt ((ln_le b32_two).1 (by omega))
        have H0 := Lib.hid h0
        clear h0
        go_wp2_with (go_at_call 175; refine (sub32_zero _ _ _ hx hbr).mono ?_; rintro e w' ⟨rfl, rfl⟩)
        go_roundw
        case rel => exact ⟨k + 1, by omega, by go_num, by rw [brw, H0.out], fun _ => ⟨g, rfl, hg, HSET.out _ (by rw [dif, H0.out])⟩, hbel.setCell (by exact hg) _⟩
        case measure => simp [intOf]; omega
    · obtain rfl : k = ln b32 a := by omega
      have hrd := hrow.rd.congr (f' := dif (dgt b32 a) (dgt b32 b)) fun j hj => by simp only [mst, if_pos hj]
      have ht := trim_any A1 _ c1 _ wr hrd (fun i _ => dif_lt ..) hnc (by omega)
      rw [HN.out] at ht
      go_wp2_with fail
      refine ht.mono ?_
      rintro e w2 ⟨rfl, rfl, hnum, hlc⟩
      go_wp2
      go_ret
      exact ⟨A1, c1, rfl, hlc, hnum, hbel⟩
end Go.Proofs.YtmjlankpihnicaaGreat
