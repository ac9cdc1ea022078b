/-
  Several texts in one: The walk of the reference's Times. The walks of the reference's Half and short: an absolute value is halved, or divided by one limb. Plain laws of division bit by bit, and of lengths of doubled numbers.
-/
import Derived.Test.YtjgihmmeimfheaaGreatK12
import Derived.Test.YtjgihmmeimfheaaGreatK4
namespace Go.Proofs.YtjgihmmeimfheaaGreat
open Go.RowKit

theorem mul_digit16 {a b : Nat} (ha : a < 65536) (hb : b < 65536) : a * b ≤ 4294836225 := Nat.mul_le_mul (show a ≤ 65535 by omega) (show b ≤ 65535 by omega)
theorem mul_step16 {f g : Nat → Nat} {m i k x y c V : Nat} (hi : i + k < m) (hg : ∀ j, j < m → j ≠ i + k → g j = f j) (hu : g (i + k) = (x * y + f (i + k) + c) % b16) {s : Nat}
  (h : vs b16 f m + b16 ^ (i + k) * c = V + b16 ^ i * (x * s)) : vs b16 g m + b16 ^ (i + k + 1) * ((x * y + f (i + k) + c) / b16) = V + b16 ^ i * (x * (s + b16 ^ k * y)) := by
 have h1 := vs_set (B := b16) hi hg
 have h2 : b16 ^ (i + k) * ((x * y + f (i + k) + c) % b16) + b16 ^ (i + k) * (b16 * ((x * y + f (i + k) + c) / b16)) = b16 ^ (i + k) * (x * y + f (i + k) + c) := by rw [← Nat.mul_add, Nat.mod_add_div]
 have h3 : b16 ^ i * (x * (s + b16 ^ k * y)) = b16 ^ i * (x * s) + b16 ^ (i + k) * (x * y) := by
  rw [Nat.mul_add, Nat.mul_add, Nat.pow_add, Nat.mul_assoc (b16 ^ i) (b16 ^ k), Nat.mul_left_comm x (b16 ^ k) y]
 rw [hu] at h1
 rw [h3, Nat.pow_succ, Nat.mul_assoc]
 rw [Nat.mul_add, Nat.mul_add] at h2
 generalize b16 ^ (i + k) * (b16 * ((x * y + f (i + k) + c) / b16)) = z1 at *
 generalize b16 ^ (i + k) * ((x * y + f (i + k) + c) % b16) = z2 at *
 generalize b16 ^ (i + k) * (x * y) = z3 at *
 generalize b16 ^ (i + k) * f (i + k) = z4 at *
 generalize b16 ^ (i + k) * c = z5 at *
 generalize b16 ^ i * (x * s) = z6 at *
 omega


theorem Num16.of_rd {w : World} {A : Option Addr} {n : Nat} {f : Nat → Nat} (h : Rd w.heap.size .u16 w A n f) (hf : ∀ i, i < n → f i < 65536) : Num16 w A (vs b16 f n) := by
 have hl : ln b16 (vs b16 f n) ≤ n := (ln_le b16_two).2 (vs_lt hf)
 exact (h.shorter hl).congr fun i hi => (dgt_vs hf (by omega)).symm

/-- After the first i digits of a: the words are those of their product with b. -/
def MulSt16 (H a b m i : Nat) (wr : World) : Prop := ∃ f : Nat → Nat, Row wr H 59 .u16 m m f ∧ (∀ j, f j < 65536) ∧ vs b16 f m = vs b16 (dgt b16 a) i * b ∧ ∀ j, i + ln b16 b ≤ j → f j = 0
/-- Within digit i: k digits of b done, the carry c. -/
def MulIn16 (H a b m i k c : Nat) (wr : World) : Prop := ∃ f : Nat → Nat, Row wr H 59 .u16 m m f ∧ (∀ j, f j < 65536) ∧ vs b16 f m + b16 ^ (i + k) * c = vs b16 (dgt b16 a) i * b + b16 ^ i * (dgt b16 a i * vs b16 (dgt b16 b) k) ∧ c < 65536 ∧ ∀ j, i + ln b16 b ≤ j → f j = 0

theorem MulSt16.inner {H a b m i : Nat} {wr : World} (h : MulSt16 H a b m i wr) : MulIn16 H a b m i 0 0 wr := by
 obtain ⟨f, h1, h2, h3, h4⟩ := h
 exact ⟨f, h1, h2, by simpa [vs] using h3, by decide, h4⟩
theorem MulIn16.step {H a b m i k c : Nat} {wr : World} {f : Nat → Nat} (h1 : Row wr H 59 .u16 m m f) (h2 : ∀ j, f j < 65536)
  (h3 : vs b16 f m + b16 ^ (i + k) * c = vs b16 (dgt b16 a) i * b + b16 ^ i * (dgt b16 a i * vs b16 (dgt b16 b) k)) (h4 : c < 65536) (h5 : ∀ j, i + ln b16 b ≤ j → f j = 0)
  (hk : k < ln b16 b) (hm : i + ln b16 b < m) {u v : Int} (hu : u = ((dgt b16 a i : Nat) : Int) * (dgt b16 b k : Nat) + (f (i + k) : Nat) + (c : Nat)) (hv : v = u % 65536) :
  MulIn16 H a b m i (k + 1) ((u / 65536).toNat) (wr.setCell ⟨H, i + k, none⟩ (.int .u16 v)) := by
 have e : u = ((dgt b16 a i * dgt b16 b k + f (i + k) + c : Nat) : Int) := by rw [hu, Int.natCast_add, Int.natCast_add, Int.natCast_mul]
 have hp := mul_digit16 (dgt16_lt a i) (dgt16_lt b k)
 have hf := h2 (i + k)
 have ev : v = (((dgt b16 a i * dgt b16 b k + f (i + k) + c) % b16 : Nat) : Int) := by rw [hv, e]; rfl
 have et : (u / 65536).toNat = (dgt b16 a i * dgt b16 b k + f (i + k) + c) / b16 := by rw [e]; rfl
 rw [ev, et]
 refine ⟨fun j => if j = i + k then (dgt b16 a i * dgt b16 b k + f (i + k) + c) % b16 else f j, h1.set (by simp) fun j _ hj => by simp [hj], fun j => ?_, ?_, ?_, fun j hj => ?_⟩
 ·
  by_cases hj : j = i + k
  · simp only [hj, if_true]; exact Nat.mod_lt _ (by decide)
  · simp only [hj, if_false]; exact h2 j
 ·
  rw [vs_succ b16 (dgt b16 b) k]
  exact mul_step16 (by omega) (fun j _ hj => by simp [hj]) (by simp) h3
 ·
  rw [Nat.div_lt_iff_lt_mul (by decide)]
  show _ < 65536 * 65536
  omega
 · simp only [show ¬ j = i + k by omega, if_false]; exact h5 j hj
theorem MulIn16.done {H a b m i c : Nat} {wr : World} (h : MulIn16 H a b m i (ln b16 b) c wr) (hm : i + ln b16 b < m) : MulSt16 H a b m (i + 1) (wr.setCell ⟨H, i + ln b16 b, none⟩ (.int .u16 (c : Int))) := by
 obtain ⟨f, h1, h2, h3, h4, h5⟩ := h
 refine ⟨fun j => if j = i + ln b16 b then c else f j, h1.set (by simp) fun j _ hj => by simp [hj], fun j => ?_, ?_, fun j hj => ?_⟩
 ·
  by_cases hj : j = i + ln b16 b
  · simp only [hj, if_true]; exact h4
  · simp only [hj, if_false]; exact h2 j
 ·
  have hs := vs_set (B := b16) (f := f) (g := fun j => if j = i + ln b16 b then c else f j) hm fun j _ hj => by simp [hj]
  rw [vs_dgt_ln b16_two] at h3
  rw [h5 _ (Nat.le_refl _)] at hs
  simp only [if_true] at hs
  rw [vs_succ, Nat.add_mul, Nat.mul_assoc, ← h3]
  omega
 · simp only [show ¬ j = i + ln b16 b by omega, if_false]; exact h5 j (by omega)

set_option linter.unusedSimpArgs false in
set_option maxRecDepth 100000 in
set_option maxHeartbeats 2000000 in
theorem rtimes_any (A B : Option Addr) (c d a b : Nat) (w : World) (ha : Num16 w A a) (hb : Num16 w B b) (hn : ln b16 a ≤ 1000000) (hm : ln b16 b ≤ 1000000) :
  Calls Tryz.prog 157 #[.slice A (ln b16 a) c, .slice B (ln b16 b) d] w (fun e w' => ∃ A' c', e = .returned (.slice A' (ln b16 (a * b)) c') ∧ Num16 w' A' (a * b) ∧ (∀ p, A' = some p → w.heap.size ≤ p.block) ∧ Below w.heap.size w w') := by
 have hmk := mk16 (ln b16 a + ln b16 b) (ln b16 a + ln b16 b) (Nat.le_refl _) (by omega)
 rw [show ((ln b16 a + ln b16 b : Nat) : Int) = (ln b16 a : Int) + ln b16 b by omega] at hmk
 go_enter Tryz.func157, Tryz.ntmps157
 have hws : IntKind.i64.wrap (((ln b16 a : Nat) : Int) + ((ln b16 b : Nat) : Int)) = ((ln b16 a : Nat) : Int) + ((ln b16 b : Nat) : Int) := by rw [IntKind.wrap_i64]; omega
 go_wp2_with fail
 clear hmk hws
 go_loopw [6] (fun i wr => ∃ k : Nat, k ≤ ln b16 a ∧ i = .int .i64 k ∧ MulSt16 w.heap.size a b (ln b16 a + ln b16 b) k wr ∧ Below w.heap.size w wr) (fun i _ => ln b16 a - (intOf i).toNat)
 case atStart => exact ⟨0, Nat.zero_le _, rfl, ⟨fun _ => 0, Row.made, fun _ => by show (0 : Nat) < 65536; decide, by rw [vs_zeros fun _ _ => rfl]; simp [vs], fun _ _ => rfl⟩, (Below.refl _ _).alloc (Nat.le_refl _) _⟩
 case round =>
  obtain ⟨i, hi, rfl, hst, hbel⟩ := hrel
  by_cases hlt : i < ln b16 a
  ·
   obtain ⟨p, q, rfl, hp, hca⟩ := ha (by omega)
   have c0 := (hbel.cell (p := ⟨p, q + i, none⟩) hp).trans (hca i hlt)
   have hxi := dgt16_lt a i
   obtain ⟨wo, rfl⟩ : ∃ wo : World, wo = wr := ⟨_, rfl⟩
   go_wp2_with fail
   go_loopw [7, 8] (fun cy j wr => ∃ k y : Nat, k ≤ ln b16 b ∧ j = .int .i64 (k : Int) ∧ cy = .int .i64 (y : Int) ∧ MulIn16 w.heap.size a b (ln b16 a + ln b16 b) i k y wr ∧ Below w.heap.size w wr) (fun _ j _ => ln b16 b - (intOf j).toNat)
   case atStart => exact ⟨0, 0, Nat.zero_le _, rfl, rfl, hst.inner, hbel⟩
   case round =>
    obtain ⟨k, y, hk, rfl, rfl, hin, hbel2⟩ := hrel
    have c0' := (hbel2.cell (p := ⟨p, q + i, none⟩) hp).trans (hca i hlt)
    by_cases hkt : k < ln b16 b
    ·
     obtain ⟨p', q', rfl, hp', hcb⟩ := hb (by omega)
     have c1 := (hbel2.cell (p := ⟨p', q' + k, none⟩) hp').trans (hcb k hkt)
     obtain ⟨f, h1, h2, h3, h4, h5⟩ := hin
     have c2 := h1.cell (i := i + k) (by omega)
     have c3 := h1.frozen (i + k)
     have hyk := dgt16_lt b k
     have hf := h2 (i + k)
     obtain ⟨P, hP⟩ : ∃ P, P = dgt b16 a i * dgt b16 b k := ⟨_, rfl⟩
     have hPl : P ≤ 4294836225 := by rw [hP]; exact mul_digit16 hxi hyk
     have hPI : ((dgt b16 a i : Nat) : Int) * ((dgt b16 b k : Nat) : Int) = (P : Int) := by rw [hP, Int.natCast_mul]
     obtain ⟨F, hF⟩ : ∃ F, f (i + k) = F := ⟨_, rfl⟩
     rw [hF] at hf c2
     obtain ⟨U, hU⟩ : ∃ U, U = y + P + F := ⟨_, rfl⟩
     have hUl : U ≤ 4294967295 := by omega
     have t0 : decide ((k : Int) < ((ln b16 b : Nat) : Int)) = true := decide_eq_true (by omega)
     have t1 : (k : Int) < ((ln b16 b : Nat) : Int) := by omega
     have t2 : (i : Int) < ((ln b16 a : Nat) : Int) := by omega
     have t3 : (i : Int) + (k : Int) < ((ln b16 a : Nat) : Int) + ((ln b16 b : Nat) : Int) := by omega
     have o1 : IntKind.i64.wrap ((dgt b16 a i : Nat) : Int) = ((dgt b16 a i : Nat) : Int) := by rw [IntKind.wrap_i64]; omega
     have o2 : IntKind.i64.wrap ((dgt b16 b k : Nat) : Int) = ((dgt b16 b k : Nat) : Int) := by rw [IntKind.wrap_i64]; omega
     have o3 : IntKind.i64.wrap (P : Int) = (P : Int) := by rw [IntKind.wrap_i64]; omega
     have o4 : IntKind.i64.wrap ((y : Int) + (P : Int)) = (y : Int) + (P : Int) := by rw [IntKind.wrap_i64]; omega
     have o5 : IntKind.i64.wrap (F : Int) = (F : Int) := by rw [IntKind.wrap_i64]; omega
     have o6 : IntKind.i64.wrap ((y : Int) + (P : Int) + (F : Int)) = (U : Int) := by rw [IntKind.wrap_i64]; omega
     have o7 : IntKind.i64.wrap ((i : Int) + (k : Int)) = (i : Int) + (k : Int) := by rw [IntKind.wrap_i64]; omega
     have H2 := Lib.hid h2
     have H3 := Lib.hid h3
     have H5 := Lib.hid h5
     have HU := Lib.hid hU
     have HP := Lib.hid hP
     have HF := Lib.hid hF
     clear h2 h3 h5 hP hF hU
     go_wp2_with fail
     go_quiet (fail)
     go_wp2_with fail
     go_roundw
     case rel =>
      have hs := MulIn16.step (H := w.heap.size) (a := a) (b := b) (m := ln b16 a + ln b16 b) (i := i) (k := k) (c := y) (wr := wr.drewN nq) (f := f) h1 H2.out H3.out h4 H5.out hkt (by omega) (u := (U : Int)) (v := (U : Int) % 65536) (by rw [HF.out, ← Int.natCast_mul, ← HP.out, HU.out]; omega) rfl
      rw [show ((U : Int) / 65536).toNat = U / 65536 by omega] at hs
      exact ⟨k + 1, U / 65536, by omega, by go_num, by congr 1, hs, (belowN hbel2 _).setCell (Nat.le_refl _) _⟩
     case measure => simp [intOf]; omega
    ·
     obtain rfl : k = ln b16 b := by omega
     obtain ⟨f, h1, h2, h3, h4, h5⟩ := hin
     have c2 := h1.cell (i := i + ln b16 b) (by omega)
     have c3 := h1.frozen (i + ln b16 b)
     have hdone := MulIn16.done (H := w.heap.size) (a := a) (b := b) (m := ln b16 a + ln b16 b) (i := i) (c := y) (wr := wr) ⟨f, h1, h2, h3, h4, h5⟩ (by omega)
     have HD := Lib.hid hdone
     have t2 : (i : Int) < ((ln b16 a : Nat) : Int) := by omega
     have t3 : (i : Int) + ((ln b16 b : Nat) : Int) < ((ln b16 a : Nat) : Int) + ((ln b16 b : Nat) : Int) := by omega
     have o1 : IntKind.u16.wrap (y : Int) = (y : Int) := by rw [IntKind.wrap_u16]; omega
     have o7 : IntKind.i64.wrap ((i : Int) + ((ln b16 b : Nat) : Int)) = (i : Int) + ((ln b16 b : Nat) : Int) := by rw [IntKind.wrap_i64]; omega
     clear h2 h3 h5 hdone
     go_wp2_with fail
     go_roundw
     case rel => exact ⟨i + 1, by omega, by go_num, HD.out, hbel2.setCell (Nat.le_refl _) _⟩
     case measure => simp [intOf]; omega
  ·
   obtain rfl : i = ln b16 a := by omega
   obtain ⟨f, h1, h2, h3, h4⟩ := hst
   have ht := rtrim_any wr.heap.size (some ⟨w.heap.size, 0, none⟩) _ (ln b16 a + ln b16 b) _ wr (h1.rd (Nat.le_refl _) h1.lt) (fun i _ => h2 i) (Nat.le_refl _) (by omega)
   have hnum := Num16.of_rd (h1.rd (Nat.le_refl _) h1.lt) (fun i _ => h2 i)
   rw [h3, vs_dgt_ln b16_two] at ht hnum
   have HT := Lib.hid ht
   have HNUM := Lib.hid hnum
   clear ht h2 h3 h4 hnum
   go_wp2_with fail
   refine HT.out.mono ?_
   rintro e w3 ⟨rfl, rfl⟩
   go_wp2_with fail
   go_ret
   exact ⟨_, _, rfl, HNUM.out, fun p hp => by injection hp with hp; rw [← hp]; exact Nat.le_refl _, hbel⟩
end Go.Proofs.YtjgihmmeimfheaaGreat
namespace Go.Proofs.YtjgihmmeimfheaaGreat
open Go.RowKit

/-- The limbs of the quotient from digit k on. -/
def qst16 (x d k j : Nat) : Nat := if k ≤ j then dgt b16 (x / d) j else 0
theorem qst16_lt (x d k j : Nat) : qst16 x d k j < 65536 := by unfold qst16; split; exact dgt16_lt ..; decide
theorem qst16_total {n : Nat} (x d : Nat) (h : x < b16 ^ n) : vs b16 (qst16 x d 0) n = x / d := by
 rw [vs_congr (g := dgt b16 (x / d)) fun j _ => by simp [qst16]]
 exact vs_dgt_lt (Nat.lt_of_le_of_lt (Nat.div_le_self ..) h)
theorem half_step (x k : Nat) : x / b16 ^ (k + 1) % 131072 % 2 * 65536 + dgt b16 x k = x / b16 ^ k % 131072 ∧ x / b16 ^ k % 131072 / 2 = dgt b16 (x / 2) k := by
 have e1 : x / b16 ^ k = 65536 * (x / b16 ^ (k + 1)) + dgt b16 x k := by
  rw [dgt, Nat.pow_succ, ← Nat.div_div_eq_div_mul]
  exact (Nat.div_add_mod _ _).symm
 have e2 : dgt b16 (x / 2) k = x / b16 ^ k / 2 % 65536 := by
  rw [dgt, Nat.div_div_eq_div_mul, Nat.div_div_eq_div_mul, Nat.mul_comm]
  rfl
 have h1 := dgt16_lt x k
 rw [e2]
 generalize x / b16 ^ k = a at *
 generalize x / b16 ^ (k + 1) = b at *
 generalize dgt b16 x k = c at *
 omega

set_option linter.unusedSimpArgs false in
set_option maxRecDepth 100000 in
set_option maxHeartbeats 2000000 in
theorem rhalf_any (A : Option Addr) (c x : Nat) (w : World) (hx : Num16 w A x) (hn : ln b16 x ≤ 2000000) :
  Calls Tryz.prog 141 #[.slice A (ln b16 x) c] w fun e w' => ∃ A' c', e = .returned (.slice A' (ln b16 (x / 2)) c') ∧ Num16 w' A' (x / 2) ∧ (∀ p, A' = some p → w.heap.size ≤ p.block) ∧ Below w.heap.size w w' := by
 have hmk := mk16 (ln b16 x) (ln b16 x) (Nat.le_refl _) (by omega)
 have HN := Lib.hid (qst16_total x 2 (lt_pow_ln b16_two x))
 have HL := Lib.hid (lt_pow_ln b16_two x)
 go_enter Tryz.func141, Tryz.ntmps141
 go_wp2_with fail
 clear hmk
 go_loopw [4, 5] (fun r i wr => ∃ k : Nat, k ≤ ln b16 x ∧ i = .int .i64 ((k : Int) - 1) ∧ r = .int .i64 ((x / b16 ^ k % 131072 : Nat) : Int) ∧ Row wr w.heap.size 59 .u16 (ln b16 x) (ln b16 x) (qst16 x 2 k) ∧ Below w.heap.size w wr) (fun _ i _ => (intOf i + 1).toNat)
 case atStart => exact ⟨ln b16 x, Nat.le_refl _, rfl, by rw [Nat.div_eq_of_lt HL.out]; rfl, Row.made.congr fun j hj => by simp only [qst16]; rw [if_neg (by omega)], (Below.refl _ _).alloc (Nat.le_refl _) _⟩
 case round =>
  obtain ⟨k, hk, rfl, rfl, hrow, hbel⟩ := hrel
  rcases Nat.eq_zero_or_pos k with rfl | hk0
  ·
   have ht := rtrim_any wr.heap.size (some ⟨w.heap.size, 0, none⟩) (ln b16 x) (ln b16 x) _ wr (hrow.rd (Nat.le_refl _) hrow.lt) (fun i _ => qst16_lt ..) (Nat.le_refl _) (by omega)
   have hnum := Num16.of_rd (hrow.rd (Nat.le_refl _) hrow.lt) (fun i _ => qst16_lt ..)
   rw [HN.out] at ht hnum
   have HT := Lib.hid ht
   have HNUM := Lib.hid hnum
   clear ht hnum
   go_wp2_with fail
   refine HT.out.mono ?_
   rintro e w3 ⟨rfl, rfl⟩
   go_wp2_with fail
   go_ret
   exact ⟨_, _, rfl, HNUM.out, fun p hp => by injection hp with hp; rw [← hp]; exact Nat.le_refl _, hbel⟩
  ·
   obtain ⟨j, rfl⟩ : ∃ j, k = j + 1 := ⟨k - 1, by omega⟩
   have ej : (((j + 1 : Nat) : Int) - 1) = (j : Int) := by omega
   rw [ej]
   obtain ⟨b, o, rfl, hb, hca⟩ := hx (by omega)
   have c0 := (hbel.cell (p := ⟨b, o + j, none⟩) hb).trans (hca j (by omega))
   have c1 := hrow.cell (i := j) (by omega)
   have c2 := hrow.frozen j
   have hl := dgt16_lt x j
   have hq := dgt16_lt (x / 2) j
   obtain ⟨s1, s2⟩ := half_step x j
   obtain ⟨N, hN⟩ : ∃ N, N = x / b16 ^ (j + 1) % 131072 := ⟨_, rfl⟩
   obtain ⟨M, hM⟩ : ∃ M, M = x / b16 ^ j % 131072 := ⟨_, rfl⟩
   rw [← hN, ← hM] at s1
   rw [← hM] at s2
   rw [← hN]
   obtain ⟨P, hP⟩ : ∃ P, P = N % 2 := ⟨_, rfl⟩
   have hPl : P ≤ 1 := by omega
   have hNl : N < 131072 := by omega
   have r1 : (N : Int).tmod 2 = (P : Int) := by rw [Int.tmod_eq_emod_of_nonneg (by omega)]; omega
   have o1 : IntKind.i64.wrap ((P : Int) * 65536) = (P : Int) * 65536 := by rw [IntKind.wrap_i64]; omega
   have o2 : IntKind.i64.wrap ((dgt b16 x j : Nat) : Int) = ((dgt b16 x j : Nat) : Int) := by rw [IntKind.wrap_i64]; omega
   have o3 : IntKind.i64.wrap ((P : Int) * 65536 + ((dgt b16 x j : Nat) : Int)) = (M : Int) := by rw [IntKind.wrap_i64]; omega
   have r2 : (M : Int).tdiv 2 = ((dgt b16 (x / 2) j : Nat) : Int) := by rw [Int.tdiv_eq_ediv_of_nonneg (by omega)]; omega
   have o4 : IntKind.u16.wrap ((dgt b16 (x / 2) j : Nat) : Int) = ((dgt b16 (x / 2) j : Nat) : Int) := by rw [IntKind.wrap_u16]; omega
   have i1 : (j : Int) < ((ln b16 x : Nat) : Int) := by omega
   have HM := Lib.hid hM
   clear s1 s2 hN hM hP hca
   go_wp2_with fail
   go_roundw
   case rel => exact ⟨j, by omega, by go_num, by rw [HM.out], hrow.set (by simp [qst16]) fun q _ hq => by simp only [qst16, show j ≤ q ↔ j + 1 ≤ q by omega], hbel.setCell (Nat.le_refl _) _⟩
   case measure => simp [intOf]
end Go.Proofs.YtjgihmmeimfheaaGreat
/-! The walk of the reference's short. -/
namespace Go.Proofs.YtjgihmmeimfheaaGreat
open Go.RowKit

theorem short_num {x d : Nat} (hd : 0 < d) (hd1 : d ≤ 65535) : vs b16 (fun _ => x % d) 1 = x % d ∧ ∀ j, j < 1 → x % d < 65536 := by
 have h1 := Nat.mod_lt x hd
 refine ⟨?_, fun _ _ => by omega⟩
 rw [vs_succ, vs_zero]
 simp
/-- A quotient and a remainder, in memory. -/
def RDiv (x y : Nat) (w : World) (e : Ending) (w' : World) : Prop :=
 ∃ A c B d, e = .returned (.tuple #[.slice A (ln b16 (x / y)) c, .slice B (ln b16 (x % y)) d]) ∧ Num16 w' A (x / y) ∧ Num16 w' B (x % y) ∧ (∀ p, A = some p → w.heap.size ≤ p.block) ∧ (∀ p, B = some p → w.heap.size ≤ p.block) ∧ Below w.heap.size w w'
set_option linter.unusedSimpArgs false in
set_option maxRecDepth 100000 in
set_option maxHeartbeats 2000000 in
theorem rshort_any (A : Option Addr) (c x d : Nat) (w : World) (hx : Num16 w A x) (hd : 0 < d) (hd1 : d ≤ 65535) (hn : ln b16 x ≤ 2000000) :
  Calls Tryz.prog 139 #[.slice A (ln b16 x) c, .int .i64 (d : Int)] w (RDiv x d w) := by
 have hmk := mk16 (ln b16 x) (ln b16 x) (Nat.le_refl _) (by omega)
 have HN := Lib.hid (qst16_total x d (lt_pow_ln b16_two x))
 have HL := Lib.hid (lt_pow_ln b16_two x)
 have hn0 : ((d : Int) == 0) = false := beq_eq_false_iff_ne.2 (by omega)
 have hn1 : ¬ (d : Int) = 0 := by omega
 go_enter Tryz.func139, Tryz.ntmps139
 go_wp2_with fail
 clear hmk
 go_loopw [7, 8] (fun r i wr => ∃ k : Nat, k ≤ ln b16 x ∧ i = .int .i64 ((k : Int) - 1) ∧ r = .int .i64 ((x / b16 ^ k % d : Nat) : Int) ∧ Row wr w.heap.size 59 .u16 (ln b16 x) (ln b16 x) (qst16 x d k) ∧ Below w.heap.size w wr) (fun _ i _ => (intOf i + 1).toNat)
 case atStart => exact ⟨ln b16 x, Nat.le_refl _, rfl, by rw [Nat.div_eq_of_lt HL.out]; simp, Row.made.congr fun j hj => by simp only [qst16]; rw [if_neg (by omega)], (Below.refl _ _).alloc (Nat.le_refl _) _⟩
 case round =>
  obtain ⟨k, hk, rfl, rfl, hrow, hbel⟩ := hrel
  rcases Nat.eq_zero_or_pos k with rfl | hk0
  ·
   have ht := rtrim_any wr.heap.size (some ⟨w.heap.size, 0, none⟩) (ln b16 x) (ln b16 x) _ wr (hrow.rd (Nat.le_refl _) hrow.lt) (fun i _ => qst16_lt ..) (Nat.le_refl _) (by omega)
   have hnum := Num16.of_rd (hrow.rd (Nat.le_refl _) hrow.lt) (fun i _ => qst16_lt ..)
   rw [HN.out] at ht hnum
   have HT := Lib.hid ht
   have HNUM := Lib.hid hnum
   have hs1 := short_num (x := x) hd hd1
   obtain ⟨R, hR⟩ : ∃ R, R = x % d := ⟨_, rfl⟩
   rw [← hR] at hs1
   have hR1 : R < 65536 := by rw [hR]; have := Nat.mod_lt x hd; omega
   rw [Nat.pow_zero, Nat.div_one, ← hR]
   have o1 : IntKind.u16.wrap (R : Int) = (R : Int) := by rw [IntKind.wrap_u16]; omega
   have HS := Lib.hid hs1
   have HR := Lib.hid hR
   clear ht hnum hs1 hR
   have hcell := heap_alloc_new wr (.cells #[.int .u16 (R : Int)] 59)
   have hrd2 : Rd (wr.heap.size + 1) .u16 (wr.alloc (.cells #[.int .u16 (R : Int)] 59)) (some ⟨wr.heap.size, 0, none⟩) 1 (fun _ => R) := fun _ => ⟨_, 0, rfl, Nat.lt_succ_self _, fun i hi => by
    obtain rfl : i = 0 := by omega
    exact (cell_of_row _ _ 0 _ _ (0, 0) hcell).trans rfl⟩
   have ht2 := rtrim_any (wr.heap.size + 1) (some ⟨wr.heap.size, 0, none⟩) 1 1 (fun _ => R) _ hrd2 (fun _ _ => hR1) (Nat.le_refl _) (by omega)
   have hnum2 := Num16.of_rd (w := wr.alloc (.cells #[.int .u16 (R : Int)] 59)) (by rw [World.size_alloc]; exact hrd2) (fun _ _ => hR1)
   rw [HS.out.1] at ht2 hnum2
   have HT2 := Lib.hid ht2
   have HN2 := Lib.hid hnum2
   clear hcell hrd2 ht2 hnum2
   go_wp2_with fail
   refine HT.out.mono ?_
   rintro e w3 ⟨rfl, rfl⟩
   go_wp2_with fail
   refine HT2.out.mono ?_
   rintro e w3 ⟨rfl, rfl⟩
   go_wp2_with fail
   go_ret2
   have hba := (Below.refl wr.heap.size wr).alloc (Nat.le_refl _) (.cells #[.int .u16 (R : Int)] 59)
   rw [HR.out] at HN2 hba ⊢
   exact ⟨_, _, _, _, rfl, Num16.below HNUM.out hba, HN2.out, fun p hp => by injection hp with hp; rw [← hp]; exact Nat.le_refl _, fun p hp => by injection hp with hp; rw [← hp]; exact hbel.size, hbel.trans (hba.mono hbel.size)⟩
  ·
   obtain ⟨j, rfl⟩ : ∃ j, k = j + 1 := ⟨k - 1, by omega⟩
   have ej : (((j + 1 : Nat) : Int) - 1) = (j : Int) := by omega
   rw [ej]
   obtain ⟨b, o, rfl, hb, hca⟩ := hx (by omega)
   have c0 := (hbel.cell (p := ⟨b, o + j, none⟩) hb).trans (hca j (by omega))
   have c1 := hrow.cell (i := j) (by omega)
   have c2 := hrow.frozen j
   have hl := dgt16_lt x j
   have hq := dgt16_lt (x / d) j
   obtain ⟨s1, s2⟩ := short_step (B := b16) (x := x) (k := j) hd
   have hNl := Nat.mod_lt (x / b16 ^ (j + 1)) hd
   obtain ⟨N, hN⟩ : ∃ N, N = x / b16 ^ (j + 1) % d := ⟨_, rfl⟩
   rw [← hN] at s1 s2 hNl
   rw [← hN]
   obtain ⟨M, hM⟩ : ∃ M, M = b16 * N + dgt b16 x j := ⟨_, rfl⟩
   rw [← hM] at s1 s2
   have hMv : M = N * 65536 + dgt b16 x j := by rw [hM, Nat.mul_comm]; rfl
   have hMd : M / d < 65536 := by rw [Nat.div_lt_iff_lt_mul hd]; (have : (N + 1) * 65536 ≤ d * 65536 := Nat.mul_le_mul_right _ hNl); omega
   rw [Nat.mod_eq_of_lt (show M / d < b16 from hMd)] at s1
   have o1 : IntKind.i64.wrap ((N : Int) * 65536) = (N : Int) * 65536 := by rw [IntKind.wrap_i64]; omega
   have o2 : IntKind.i64.wrap ((dgt b16 x j : Nat) : Int) = ((dgt b16 x j : Nat) : Int) := by rw [IntKind.wrap_i64]; omega
   have o3 : IntKind.i64.wrap ((N : Int) * 65536 + ((dgt b16 x j : Nat) : Int)) = (M : Int) := by rw [IntKind.wrap_i64]; omega
   have r1 : (M : Int).tdiv (d : Int) = ((dgt b16 (x / d) j : Nat) : Int) := by rw [Int.tdiv_eq_ediv_of_nonneg (by omega), ← s1]; exact (Int.natCast_ediv M d).symm
   have r2 : (M : Int).tmod (d : Int) = ((x / b16 ^ j % d : Nat) : Int) := by rw [Int.tmod_eq_emod_of_nonneg (by omega), ← s2]; exact (Int.natCast_emod M d).symm
   have o4 : IntKind.u16.wrap ((dgt b16 (x / d) j : Nat) : Int) = ((dgt b16 (x / d) j : Nat) : Int) := by rw [IntKind.wrap_u16]; omega
   have i1 : (j : Int) < ((ln b16 x : Nat) : Int) := by omega
   clear s1 s2 hN hM hMv hMd hca HN HL
   go_wp2_with fail
   go_roundw
   case rel => exact ⟨j, by omega, by go_num, rfl, hrow.set (by simp [qst16]) fun q _ hq => by simp only [qst16, show j ≤ q ↔ j + 1 ≤ q by omega], hbel.setCell (Nat.le_refl _) _⟩
   case measure => simp [intOf]
end Go.Proofs.YtjgihmmeimfheaaGreat
namespace Go.Proofs.YtjgihmmeimfheaaGreat
open Go.RowKit

theorem dv_step {x e : Nat} (he : 0 < e) : (x / e = 2 * (x / (e * 2)) + (if x % (e * 2) < e then 0 else 1)) ∧ x % e = (if x % (e * 2) < e then x % (e * 2) else x % (e * 2) - e) := by
 have h1 : x / (e * 2) = x / e / 2 := (Nat.div_div_eq_div_mul x e 2).symm
 have h2 : x % (e * 2) = x % e + e * (x / e % 2) := Nat.mod_mul
 have h3 := Nat.mod_lt x he
 rw [h1, h2]
 generalize x / e = q at *
 generalize x % e = r at *
 rcases (show q % 2 = 0 ∨ q % 2 = 1 by omega) with h | h
 · rw [h, Nat.mul_zero, Nat.add_zero, if_pos h3, if_pos h3]; omega
 · rw [h, Nat.mul_one, if_neg (by omega), if_neg (by omega)]; omega
theorem two_pow_double (y k : Nat) : y * 2 ^ k + y * 2 ^ k = y * 2 ^ (k + 1) := by rw [Nat.pow_succ, ← Nat.mul_assoc]; omega
theorem two_pow_half (y k : Nat) : y * 2 ^ (k + 1) / 2 = y * 2 ^ k := by rw [← two_pow_double]; omega
theorem lt_two_pow (k : Nat) : k < 2 ^ k := Nat.lt_two_pow_self
theorem le_of_doubles {x y k : Nat} (hy : 0 < y) (h : ∀ i, i < k → y * 2 ^ i ≤ x) : k ≤ 16 * ln b16 x := by
 rcases Nat.eq_zero_or_pos k with h0 | h0
 · omega
 ·
  have h1 := h (k - 1) (by omega)
  have h2 : 2 ^ (k - 1) ≤ x := Nat.le_trans (Nat.le_mul_of_pos_left _ hy) h1
  have h3 : x < 2 ^ (16 * ln b16 x) := by
   have := lt_pow_ln b16_two x
   rwa [show b16 = 2 ^ 16 from rfl, ← Nat.pow_mul] at this
  have h4 := (Nat.pow_lt_pow_iff_right (by decide : 1 < 2)).1 (Nat.lt_of_le_of_lt h2 h3)
  omega
theorem le_val_of_double {x y k : Nat} (hy : 0 < y) (h : y * 2 ^ k ≤ x) : k < x := by
 have h1 := lt_two_pow k
 have h2 : 2 ^ k ≤ y * 2 ^ k := Nat.le_mul_of_pos_left _ hy
 omega
/-- All doubles before the n-th are at most x. -/
def Dbl (x y n : Nat) : Prop := ∀ i, i < n → y * 2 ^ i ≤ x
theorem Dbl.succ {x y n : Nat} (h : Dbl x y n) (h1 : ¬ x < y * 2 ^ n) : Dbl x y (n + 1) := fun i hi => by
 rcases Nat.lt_or_ge i n with h2 | h2
 · exact h i h2
 ·
  obtain rfl : i = n := by omega
  omega
theorem Dbl.ln {x y n i : Nat} (h : Dbl x y n) (hi : i < n) : ln b16 (y * 2 ^ i) ≤ ln b16 x := ln_mono b16_two (h i hi)
theorem Dbl.ln2 {x y n i B : Nat} (h : Dbl x y n) (hi : i ≤ n) (hx : Go.Proofs.YtjgihmmeimfheaaGreat.ln b16 x ≤ B) (hy : Go.Proofs.YtjgihmmeimfheaaGreat.ln b16 y ≤ B) : Go.Proofs.YtjgihmmeimfheaaGreat.ln b16 (y * 2 ^ i) ≤ B + 1 := by
 rcases Nat.eq_zero_or_pos i with h0 | h0
 ·
  subst h0
  rw [Nat.pow_zero, Nat.mul_one]; omega
 ·
  have h1 := h.ln (i := i - 1) (by omega)
  have h2 := ln_add (B := b16) b16_two (m := B) (x := y * 2 ^ (i - 1)) (y := y * 2 ^ (i - 1)) (by omega) (by omega)
  rw [two_pow_double, show i - 1 + 1 = i by omega] at h2
  exact h2
/-- The quotient and the remainder by y * 2 ^ m. -/
theorem dv_start {x y n : Nat} (h : x < y * 2 ^ n) : x / (y * 2 ^ n) = 0 ∧ x % (y * 2 ^ n) = x := ⟨Nat.div_eq_of_lt h, Nat.mod_eq_of_lt h⟩
end Go.Proofs.YtjgihmmeimfheaaGreat
