/-
  CommuteInterest: the plain laws, and what is called, by the value of the interest.
-/
import Derived.Test.YtmjlankpihnicaaGreatKX
import Derived.Test.YtmjlankpihnicaaGreatC11
namespace Go.Proofs.YtmjlankpihnicaaGreat
open Go.RowKit

section
variable {v : Rat} {f : Nat → Rat} {N : Nat} (hv : Dis v) (hf : Rts f N) (h21 : N ≤ 21)
include hv hf h21
theorem pqqI {g : Nat → Rat} {M : Nat} (a b : Int) (h : ∀ j, j < N → a ≤ (j : Int) → 0 ≤ g j ∧ g j ≤ (M : Rat) ∧ Dv (g j) (dE v f N)) : Ql (21 * M) (3 * N) (ps g a b N) := by
 obtain ⟨h1, h2, h3⟩ := ps_bound2 a b h N (Nat.le_refl _)
 refine Ql.of h1 (Rat.le_trans h2 ?_) (dE_pos v f N) h3 (dE_le hv hf N (Nat.le_refl _))
 exact_mod_cast Nat.mul_le_mul_right M h21
theorem pdI (a b : Int) : Ql (21 * 1) (3 * N) (ps (dd v f) a b N) := pqqI hv hf h21 a b (fun _ hj h => ddA hv hf hj a h)
theorem pcI (a b : Int) : Ql (21 * 1) (3 * N) (ps (cc v f) a b N) := pqqI hv hf h21 a b (fun _ hj h => ccA hv hf hj a h)
end
theorem cmpQ_ge {a b : Rat} (h : b ≤ a) : 0 ≤ cmpQ a b := by
 have h1 : ¬ (a.num * (b.den : Int) < b.num * (a.den : Int)) := fun g => by
  have := (cmp_lt a b).1 g
  grind
 unfold cmpQ cmpZ
 rw [if_neg h1]
 split <;> decide
theorem Rti.zero : Rti ((0 : Int) : Rat) := ⟨by decide +kernel, by decide +kernel, by decide +kernel⟩
theorem dis_mono {i k : Rat} (hi : Rti i) (hk : i ≤ k) (hk2 : Rti k) : 1 / (1 + k) ≤ 1 / (1 + i) := by
 have e1 := hi.v
 have e2 := hk2.v
 have p1 := hi.dis.1
 have p2 := hk2.dis.1
 generalize 1 / (1 + i) = v at *
 generalize 1 / (1 + k) = u at *
 have h3 : 0 ≤ (v * u) * (k - i) := Rat.mul_nonneg (Rat.mul_nonneg (Rat.le_of_lt p1) (Rat.le_of_lt p2)) (by grind)
 have h4 : v * u * (k - i) = v * (u * (1 + k)) - u * (v * (1 + i)) := by grind
 rw [e1, e2] at h4
 grind
theorem more_q (M : Nat) (y z : Int) (hy : 0 ≤ y) (hy2 : y ≤ (M : Int)) (hz : 0 < z) : 0 ≤ Rat.divInt y z ∧ Rat.divInt y z ≤ (M : Rat) ∧ Dv (Rat.divInt y z) z.toNat := by
 obtain ⟨z, rfl⟩ : ∃ k : Nat, z = (k : Int) := ⟨z.toNat, by omega⟩
 have hz1 : 0 < z := by omega
 have hzr : (0 : Rat) < (z : Rat) := by exact_mod_cast hz1
 have e : Rat.divInt y z * (z : Rat) = (y : Rat) := by
  rw [Rat.divInt_eq_div]
  have h0 : ((z : Int) : Rat) = (z : Rat) := by norm_cast
  rw [h0]
  exact Rat.div_mul_cancel (by grind)
 have hyr : (0 : Rat) ≤ (y : Rat) := by exact_mod_cast hy
 have hyr2 : (y : Rat) ≤ (M : Rat) := by exact_mod_cast hy2
 have h1z : ((1 : Nat) : Rat) ≤ (z : Rat) := by exact_mod_cast hz1
 have h1z : (1 : Rat) ≤ (z : Rat) := by simpa using h1z
 have h0 : 0 ≤ Rat.divInt y z := by
  refine Rat.not_lt.1 fun g => ?_
  have := Rat.mul_pos (show 0 < -Rat.divInt y z by grind) hzr
  grind
 refine ⟨h0, ?_, y, by rw [Int.toNat_natCast]; exact e⟩
 have := Rat.mul_nonneg h0 (show 0 ≤ (z : Rat) - 1 by grind)
 grind
theorem more_fl {i : Rat} (hi : Rti i) (y z : Int) (hy : 0 ≤ y) (hy2 : y ≤ 255) (hz : 0 < z) (hz2 : z ≤ 255) : fl (Rat.divInt y z) ≤ 256 ∧ fl (i + Rat.divInt y z) ≤ 256 ∧ i ≤ i + Rat.divInt y z := by
 obtain ⟨q0, q1, qd⟩ := more_q 255 y z hy hy2 hz
 have i1 := hi.le
 have i2 := hi.2.2
 have hz0 : 0 < z.toNat := by omega
 generalize Rat.divInt y z = q at *
 have e : ((65790 : Nat) : Rat) = ((65535 : Nat) : Rat) + ((255 : Nat) : Rat) := Rat.natCast_add 65535 255
 have e0 : (0 : Rat) ≤ ((255 : Nat) : Rat) := (fun M : Nat => (by exact_mod_cast Nat.zero_le M : (0 : Rat) ≤ (M : Rat))) 255
 refine ⟨fl_bound (M := 255) hz0 qd (by grind) q1 (by decide) (Nat.le_trans ((ln_le b16_two (k := 1)).2 ?_) (by decide)), fl_bound (M := 65790) (Nat.mul_pos i.den_pos hz0) (((Dv.self i).more (Nat.dvd_mul_right _ _)).add (qd.more (Nat.dvd_mul_left _ _))) (by rw [e]; have := hi.1; grind) (by rw [e]; grind) (by decide) (Nat.le_trans ((ln_le b16_two (k := 3)).2 ?_) (by decide)), by grind⟩
 ·
  have : z.toNat ≤ 255 := by omega
  exact Nat.lt_of_le_of_lt (Nat.mul_le_mul_left 255 this) (by decide)
 ·
  have h2 : z.toNat ≤ 255 := by omega
  have h3 : i.den ≤ 65535 := by have : b16 = 65536 := rfl; omega
  exact Nat.lt_of_le_of_lt (Nat.mul_le_mul_left 65790 (Nat.mul_le_mul h3 h2)) (by decide)
theorem pr_end {f : Nat → Rat} {N : Nat} (h : pr f N = 0) : ∀ k, N ≤ k → pr f k = 0 := fun k hk => by
 obtain ⟨d, rfl⟩ : ∃ d, k = N + d := ⟨k - N, by omega⟩
 clear hk
 induction d with
 | zero => exact h
 | succ d ih =>
  show pr f (N + d) * (1 - f (N + d)) = 0
  rw [ih]; grind
theorem no_interest {f : Nat → Rat} {N : Nat} {i : Rat} (hi : Rti i) (h : Cnt (1 / (1 + i)) f N) (h21 : N ≤ 21) (hf : Rts f N) : ps (dd 1 f) 0 1000 N = 1 + smr f 111 ∧ ps (cc 1 f) 0 1000 N = 1 ∧ fl (smr f 111) ≤ 256 ∧ fl (1 + smr f 111) ≤ 256 := by
 have h1 : Cnt 1 f N := h.rate hi.dis.1 (by decide +kernel)
 have h0 := ((Cnt.pr (by decide +kernel)).1 h1).1
 have e : ps (dd 1 f) 0 1000 N = 1 + smr f 111 := (dd_expect f h1 (by omega) (pr_end h0)).resolve_right (by omega)
 have hd : Dis (1 : Rat) := ⟨by decide +kernel, by decide +kernel, by decide +kernel⟩
 have hq := pdI hd hf h21 0 1000
 rw [e] at hq
 refine ⟨e, cc_one f h1 (by omega), ?_, hq.l (by decide) (by decide) (by omega)⟩
 have h2 := (hq.sub (Ql.int 1 (M := 1) (by decide))).l (by decide) (by decide) (by omega)
 rw [show 1 + smr f 111 - ((1 : Int) : Rat) = smr f 111 by grind] at h2
 exact h2
theorem annI {F S E Y : Int} {A : Option Addr} {n c : Nat} {r : Nat → RH} {i : Rat} {si ti : Bool} {Ai Bi : Option Addr} {ni ci mi di : Nat} {w : World} (hT : TabM w A n r) (hB : TabB n r) (hok : TOK F S n r) (hq : FV w i si Ai ni ti Bi mi) (hi : Rti i) (hR : RightP F S n r E Y) (N : Nat) (hN : Cnt (1 / (1 + i)) (fr F S n r E Y) N) (h80 : N ≤ 80) (a b : Nat) (ha : a ≤ 9223372036854775807) (hb : b ≤ 9223372036854775807) :
  Calls Tryz.prog 26 #[.agg #[.int .i64 F, .int .i64 S, .slice A n c, .bool si, .slice Ai ni ci, .bool ti, .slice Bi mi di], .agg #[.int .i64 E, .int .i64 Y], .int .i64 (a : Int), .int .i64 (b : Int)] w (FOK (ps (dd (1 / (1 + i)) (fr F S n r E Y)) (a : Int) (b : Int) N) w) := by
 obtain ⟨hn, hm⟩ := hq.ln hi.fl
 have h := cAnn_v (c := c) (ci := ci) (di := di) hT hB hq.rd (by omega) (by omega) ⟨hok, intB_of hq hi⟩ hR N (by rw [qOf_fv hq]; exact hN) h80 a b ha hb
 rw [qOf_fv hq] at h
 exact h
theorem assI {F S E Y : Int} {A : Option Addr} {n c : Nat} {r : Nat → RH} {i : Rat} {si ti : Bool} {Ai Bi : Option Addr} {ni ci mi di : Nat} {w : World} (hT : TabM w A n r) (hB : TabB n r) (hok : TOK F S n r) (hq : FV w i si Ai ni ti Bi mi) (hi : Rti i) (hR : RightP F S n r E Y) (N : Nat) (hN : Cnt (1 / (1 + i)) (fr F S n r E Y) N) (h80 : N ≤ 80) (a b : Nat) (ha : a ≤ 9223372036854775807) (hb : b ≤ 9223372036854775807) :
  Calls Tryz.prog 27 #[.agg #[.int .i64 F, .int .i64 S, .slice A n c, .bool si, .slice Ai ni ci, .bool ti, .slice Bi mi di], .agg #[.int .i64 E, .int .i64 Y], .int .i64 (a : Int), .int .i64 (b : Int)] w (FOK (ps (cc (1 / (1 + i)) (fr F S n r E Y)) (a : Int) (b : Int) N) w) := by
 obtain ⟨hn, hm⟩ := hq.ln hi.fl
 have h := cAss_v (c := c) (ci := ci) (di := di) hT hB hq.rd (by omega) (by omega) ⟨hok, intB_of hq hi⟩ hR N (by rw [qOf_fv hq]; exact hN) h80 a b ha hb
 rw [qOf_fv hq] at h
 exact h
theorem validI {F S : Int} {A : Option Addr} {n c : Nat} {r : Nat → RH} {i : Rat} {si ti : Bool} {Ai Bi : Option Addr} {ni ci mi di : Nat} {w : World} (hT : TabM w A n r) (hB : TabB n r) (l : fl i ≤ 256) (hq : FV w i si Ai ni ti Bi mi) :
  Calls Tryz.prog 15 #[.agg #[.int .i64 F, .int .i64 S, .slice A n c, .bool si, .slice Ai ni ci, .bool ti, .slice Bi mi di]] w fun e w' => ∃ v, e = .returned (.bool v) ∧ (v = true → Rti i) ∧ Below w.heap.size w w' := by
 obtain ⟨hn, hm⟩ := hq.ln l
 refine (cvalid_any F S A n c r si ti Ai Bi ni mi ci di _ _ w hT hB hq.rd (by omega) (by omega)).mono fun e w' ⟨v, he, hv, hb⟩ => ⟨v, he, fun h => ?_, hb⟩
 have h2 := (intB_rti hq.rd (hv.1 h).2).2
 rw [qOf_fv hq] at h2
 exact h2
end Go.Proofs.YtmjlankpihnicaaGreat
