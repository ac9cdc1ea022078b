/-
  The walk of WholeInts.
-/
import Derived.Test.YtafglggjncnkkaaDoorEnvN
import Derived.Test.YtafglggjncnkkaaDoorLarge
namespace Go.Proofs.YtafglggjncnkkaaDoor
open Go.RowKit

def lessZ (m n : Int) : Int := if m < n then -1 else 0
theorem lessZ_t {m n : Int} (h : m < n) : lessZ m n = -1 := if_pos h
theorem lessZ_f {m n : Int} (h : ¬ m < n) : lessZ m n = 0 := if_neg h
theorem cmpZ_t {m n : Int} (h : n < m) : cmpZ m n = 1 := by unfold cmpZ; rw [if_neg (by omega), if_pos h]
theorem cmpZ_f {m n : Int} (h : ¬ n < m) : cmpZ m n = lessZ m n := by unfold cmpZ lessZ; split <;> simp <;> omega
/-- Is a remainder to be adjusted? -/
def adj (r b : Int) : Bool := decide (r ≠ 0) && (decide (r < 0) != decide (b < 0))
theorem int_mul_lt {a b : Int} (h1 : -2147483648 < a) (h2 : a < 2147483648) (h3 : -2147483648 < b) (h4 : b < 2147483648) : -4611686018427387904 < a * b ∧ a * b < 4611686018427387904 := by
  have h : (a * b).natAbs < 4611686018427387904 := by
    rw [Int.natAbs_mul]
    exact Nat.mul_lt_mul'' (show a.natAbs < 2147483648 by omega) (show b.natAbs < 2147483648 by omega)
  omega
theorem tmod_adj {a b : Int} (hb : b ≠ 0) : (adj (a.tmod b) b = true → a.fmod b = a.tmod b + b) ∧ (adj (a.tmod b) b = false → a.fmod b = a.tmod b) := by
  have h := Int.tmod_add_mul_tdiv a b
  have hlt : (a.tmod b).natAbs < b.natAbs := by rw [Int.natAbs_tmod]; exact Nat.mod_lt _ (by omega)
  generalize a.tmod b = r at *
  generalize a.tdiv b = t at *
  rw [Int.mul_comm] at h
  unfold adj
  constructor
  · intro hc
    have h0 : r ≠ 0 := fun e => by rw [e] at hc; simp at hc
    have h2 : a = (t - 1) * b + (r + b) := by rw [Int.sub_mul, Int.one_mul]; omega
    by_cases h3 : r < 0 <;> by_cases h4 : b < 0 <;> simp [h0, h3, h4] at hc
    · exact (fd_unique h2 (.inl ⟨by omega, by omega⟩)).2.symm
    · exact (fd_unique h2 (.inr ⟨by omega, by omega⟩)).2.symm
  · intro hc
    have h2 : a = t * b + r := by omega
    by_cases h0 : r = 0
    · refine (fd_unique h2 ?_).2.symm
      omega
    · by_cases h3 : r < 0 <;> by_cases h4 : b < 0 <;> simp [h0, h3, h4] at hc
      · exact (fd_unique h2 (.inr ⟨by omega, by omega⟩)).2.symm
      · exact (fd_unique h2 (.inl ⟨by omega, by omega⟩)).2.symm
theorem tmod_small (m : Int) {c : Int} (hc : 0 < c) : -c < m.tmod c ∧ m.tmod c < c := by
  have h : (m.tmod c).natAbs < c.natAbs := by rw [Int.natAbs_tmod]; exact Nat.mod_lt _ (by omega)
  omega
theorem fd_facts (a : Int) {b : Int} (hb : b ≠ 0) (h1 : -2147483648 < a) (h2 : a < 2147483648) (h3 : -2147483648 < b) (h4 : b < 2147483648) :
    ∃ q f : Int, a.fdiv b = q ∧ a.fmod b = f ∧ (-2147483648 < f ∧ f < 2147483648) ∧ (-4294967296 < a - f ∧ a - f < 4294967296) ∧ (a - f).tdiv b = q ∧ (-4294967296 < q ∧ q < 4294967296) := by
  obtain ⟨e, hr⟩ := fd_spec a hb
  generalize a.fdiv b = q at *
  generalize a.fmod b = f at *
  have e2 : a - f = q * b := by omega
  have hq : q.natAbs ≤ (a - f).natAbs := by rw [e2, Int.natAbs_mul]; exact Nat.le_mul_of_pos_right _ (by omega)
  refine ⟨q, f, rfl, rfl, by omega, by omega, ?_, by omega⟩
  rw [e2]
  exact Int.mul_tdiv_cancel _ hb
theorem cmp_c {a b : Int} {s t : Bool} {A B : Option Addr} {n m c d : Nat} {w : World} (ha : WV w a s A n) (hb : WV w b t B m) (la : n ≤ 1024) (lb : m ≤ 1024) :
    Calls Tryd.prog 33 #[.agg #[.bool s, .slice A n c], .agg #[.bool t, .slice B m d]] w fun e w' => e = .returned (.int .i64 (cmpZ a b)) ∧ Below w.heap.size w w' := cmp_v ha hb la lb
theorem divMod_q {a b q r : Int} {s t : Bool} {A B : Option Addr} {n m c d : Nat} {w : World} (ha : WV w a s A n) (hb : WV w b t B m) (la : n ≤ 1024) (lb : m ≤ 1024) (hb0 : b ≠ 0) (hq : a.fdiv b = q) (hr : a.fmod b = r) :
    Calls Tryd.prog 32 #[.agg #[.bool s, .slice A n c], .agg #[.bool t, .slice B m d]] w (VR2 q r w) := by
  subst hq hr
  exact divMod_v ha hb la lb hb0
theorem len4 {w : World} {z : Int} {s : Bool} {A : Option Addr} {n : Nat} (h : WV w z s A n) (h1 : -9223372036854775808 ≤ z) (h2 : z ≤ 9223372036854775807) : n ≤ 1024 :=
  Nat.le_trans (le_len h (ln_int h1 h2)) (by decide)
theorem ln4 {z : Int} (h1 : -9223372036854775808 ≤ z) (h2 : z ≤ 9223372036854775807) : ln b16 z.natAbs ≤ 1024 := Nat.le_trans (ln_int h1 h2) (by decide)
set_option linter.unusedSimpArgs false in
set_option maxRecDepth 100000 in
set_option maxHeartbeats 16000000 in
theorem ints_walk (m n : Int) (w : World) (htab : Tab w) (m1 : -9223372036854775808 ≤ m) (m2 : m ≤ 9223372036854775807) (l1 : -9223372036854775808 ≤ n) (l2 : n ≤ 9223372036854775807) :
    Calls Tryd.prog 10 #[.int .i64 m, .int .i64 n] w fun e w' => e = .returned (.bool true) ∧ Below w.heap.size w w' := by
  have hE : Env w (fun _ => True) w := ⟨Below.refl _ _, fun _ _ _ h => h, trivial⟩
  go_enter Tryd.func10, Tryd.ntmps10
  go_wp2_with fail
  refine (awake_any _ htab).mono ?_
  rintro e w1 ⟨rfl, hb⟩
  replace hE := hE.step hb
  clear hb htab
  go_wp2_with fail
  refine (num_v (m) _ m1 m2).mono ?_
  rintro e w101 ⟨s1, A1, n1, c1, rfl, ho, hb⟩
  replace hE := hE.step hb
  have hv1 := ho.v
  clear ho hb
  go_wp2_with fail
  refine (int_fit (c := c1) hv1 (len4 hv1 m1 m2) m1 m2).mono ?_
  rintro e w102 ⟨rfl, hb⟩
  replace hE := hE.step hb
  replace hv1 := hv1.below hb
  clear hb
  clear hv1
  go_upto_if 24 with (fail)
  go_cut [7] from 24 to 24 (fun v wx => v = .int .i64 (lessZ m n) ∧ wx = w102)
  case first =>
    by_cases h : m < n
    · have t := lessZ_t h
      go_wp2_with fail
      go_meet
      exact ⟨by rw [t], rfl⟩
    · have t := lessZ_f h
      have t1 : decide (m < n) = false := decide_eq_false h
      go_wp2_with fail
      go_meet
      exact ⟨by rw [t], rfl⟩
  case rest =>
  obtain ⟨rfl, rfl⟩ := hcut
  go_upto_if 27 with (fail)
  go_cut [7] from 27 to 27 (fun v wx => v = .int .i64 (cmpZ m n) ∧ wx = wc)
  case first =>
    by_cases h : n < m
    · have t := cmpZ_t h
      go_wp2_with fail
      go_meet
      exact ⟨by rw [t], rfl⟩
    · have t := cmpZ_f h
      have t1 : decide (n < m) = false := decide_eq_false h
      go_wp2_with fail
      go_meet
      exact ⟨by rw [t], rfl⟩
  case rest =>
  obtain ⟨rfl, rfl⟩ := hcut
  go_wp2_with fail
  refine (num_v (m) _ m1 m2).mono ?_
  rintro e w103 ⟨s3, A3, n3, c3, rfl, ho, hb⟩
  replace hE := hE.step hb
  have hv3 := ho.v
  clear ho hb
  go_wp2_with fail
  refine (valid_v (c := c3) hv3 (len4 hv3 m1 m2)).mono ?_
  rintro e w104 ⟨rfl, hb⟩
  replace hE := hE.step hb
  replace hv3 := hv3.below hb
  clear hb
  clear hv3
  go_wp2_with fail
  refine (num_v (m) _ m1 m2).mono ?_
  rintro e w105 ⟨s5, A5, n5, c5, rfl, ho, hb⟩
  replace hE := hE.step hb
  have hv5 := ho.v
  clear ho hb
  go_wp2_with fail
  refine (num_v (n) _ l1 l2).mono ?_
  rintro e w106 ⟨s6, A6, n6, c6, rfl, ho, hb⟩
  replace hE := hE.step hb
  replace hv5 := hv5.below hb
  have hv6 := ho.v
  clear ho hb
  go_wp2_with fail
  refine (cmp_c (c := c5) (d := c6) hv5 hv6 (len4 hv5 m1 m2) (len4 hv6 l1 l2)).mono ?_
  rintro e w107 ⟨rfl, hb⟩
  replace hE := hE.step hb
  replace hv5 := hv5.below hb
  replace hv6 := hv6.below hb
  clear hb
  clear hv5
  clear hv6
  go_upto_region 11 with (fail)
  go_cut [8, 9] from 50 to 53 (fun x y wx => ∃ a b : Int, x = .int .i64 a ∧ y = .int .i64 b ∧ ((-2147483648 < a ∧ a < 2147483648) ∧ (-2147483648 < b ∧ b < 2147483648)) ∧ wx = w107)
  case first =>
    have ha := tmod_small m (c := 2147483648) (by decide)
    have hb := tmod_small n (c := 2147483648) (by decide)
    have hwa : IntKind.i64.wrap (m.tmod 2147483648) = m.tmod 2147483648 := by rw [IntKind.wrap_i64]; omega
    have hwb : IntKind.i64.wrap (n.tmod 2147483648) = n.tmod 2147483648 := by rw [IntKind.wrap_i64]; omega
    go_wp2_with fail
    go_meet
    exact ⟨_, _, rfl, rfl, ⟨ha, hb⟩, rfl⟩
  case rest =>
  obtain ⟨a, b, rfl, rfl, ⟨⟨a1, a2⟩, ⟨b1, b2⟩⟩, rfl⟩ := hcut
  clear m1 m2 l1 l2
  obtain ⟨ab1, ab2⟩ := int_mul_lt a1 a2 b1 b2
  have p1 : IntKind.i64.wrap (a + b) = a + b := by rw [IntKind.wrap_i64]; omega
  have p2 : IntKind.i64.wrap (a * b) = a * b := by rw [IntKind.wrap_i64]; omega
  have p3 : IntKind.i64.wrap (a - b) = a - b := by rw [IntKind.wrap_i64]; omega
  go_wp2_with fail
  refine (num_v (a) _ (by omega) (by omega)).mono ?_
  rintro e w108 ⟨s8, A8, n8, c8, rfl, ho, hb⟩
  replace hE := hE.step hb
  have hv8 := ho.v
  clear ho hb
  go_wp2_with fail
  refine (num_v (b) _ (by omega) (by omega)).mono ?_
  rintro e w109 ⟨s9, A9, n9, c9, rfl, ho, hb⟩
  replace hE := hE.step hb
  replace hv8 := hv8.below hb
  have hv9 := ho.v
  clear ho hb
  go_wp2_with fail
  refine (law_sum (c := c8) (d := c9) hv8 hv9 (len4 hv8 (by omega) (by omega)) (len4 hv9 (by omega) (by omega)) (ln4 (by omega) (by omega))).mono ?_
  rintro e w110 ⟨s10, A10, n10, c10, rfl, ho, hb⟩
  replace hE := hE.step hb
  replace hv8 := hv8.below hb
  replace hv9 := hv9.below hb
  have hv10 := ho.v
  clear ho hb
  clear hv8
  clear hv9
  go_wp2_with fail
  refine (num_v (a + b) _ (by omega) (by omega)).mono ?_
  rintro e w111 ⟨s11, A11, n11, c11, rfl, ho, hb⟩
  replace hE := hE.step hb
  replace hv10 := hv10.below hb
  have hv11 := ho.v
  clear ho hb
  go_wp2_with fail
  refine (law_equal_t (c := c10) (d := c11) hv10 hv11 (len4 hv10 (by omega) (by omega)) (len4 hv11 (by omega) (by omega)) rfl).mono ?_
  rintro e w112 ⟨rfl, hb⟩
  replace hE := hE.step hb
  replace hv10 := hv10.below hb
  replace hv11 := hv11.below hb
  clear hb
  clear hv10
  clear hv11
  go_wp2_with fail
  refine (num_v (a) _ (by omega) (by omega)).mono ?_
  rintro e w113 ⟨s13, A13, n13, c13, rfl, ho, hb⟩
  replace hE := hE.step hb
  have hv13 := ho.v
  clear ho hb
  go_wp2_with fail
  refine (num_v (b) _ (by omega) (by omega)).mono ?_
  rintro e w114 ⟨s14, A14, n14, c14, rfl, ho, hb⟩
  replace hE := hE.step hb
  replace hv13 := hv13.below hb
  have hv14 := ho.v
  clear ho hb
  go_wp2_with fail
  refine (law_product (c := c13) (d := c14) hv13 hv14 (len4 hv13 (by omega) (by omega)) (len4 hv14 (by omega) (by omega)) (ln4 (by omega) (by omega))).mono ?_
  rintro e w115 ⟨s15, A15, n15, c15, rfl, ho, hb⟩
  replace hE := hE.step hb
  replace hv13 := hv13.below hb
  replace hv14 := hv14.below hb
  have hv15 := ho.v
  clear ho hb
  clear hv13
  clear hv14
  go_wp2_with fail
  refine (num_v (a * b) _ (by omega) (by omega)).mono ?_
  rintro e w116 ⟨s16, A16, n16, c16, rfl, ho, hb⟩
  replace hE := hE.step hb
  replace hv15 := hv15.below hb
  have hv16 := ho.v
  clear ho hb
  go_wp2_with fail
  refine (law_equal_t (c := c15) (d := c16) hv15 hv16 (len4 hv15 (by omega) (by omega)) (len4 hv16 (by omega) (by omega)) rfl).mono ?_
  rintro e w117 ⟨rfl, hb⟩
  replace hE := hE.step hb
  replace hv15 := hv15.below hb
  replace hv16 := hv16.below hb
  clear hb
  clear hv15
  clear hv16
  go_wp2_with fail
  refine (num_v (a) _ (by omega) (by omega)).mono ?_
  rintro e w118 ⟨s18, A18, n18, c18, rfl, ho, hb⟩
  replace hE := hE.step hb
  have hv18 := ho.v
  clear ho hb
  go_wp2_with fail
  refine (num_v (b) _ (by omega) (by omega)).mono ?_
  rintro e w119 ⟨s19, A19, n19, c19, rfl, ho, hb⟩
  replace hE := hE.step hb
  replace hv18 := hv18.below hb
  have hv19 := ho.v
  clear ho hb
  go_wp2_with fail
  refine (law_less (c := c18) (d := c19) hv18 hv19 (len4 hv18 (by omega) (by omega)) (len4 hv19 (by omega) (by omega)) (ln4 (by omega) (by omega))).mono ?_
  rintro e w120 ⟨s20, A20, n20, c20, rfl, ho, hb⟩
  replace hE := hE.step hb
  replace hv18 := hv18.below hb
  replace hv19 := hv19.below hb
  have hv20 := ho.v
  clear ho hb
  clear hv18
  clear hv19
  go_wp2_with fail
  refine (num_v (a - b) _ (by omega) (by omega)).mono ?_
  rintro e w121 ⟨s21, A21, n21, c21, rfl, ho, hb⟩
  replace hE := hE.step hb
  replace hv20 := hv20.below hb
  have hv21 := ho.v
  clear ho hb
  go_wp2_with fail
  refine (law_equal_t (c := c20) (d := c21) hv20 hv21 (len4 hv20 (by omega) (by omega)) (len4 hv21 (by omega) (by omega)) rfl).mono ?_
  rintro e w122 ⟨rfl, hb⟩
  replace hE := hE.step hb
  replace hv20 := hv20.below hb
  replace hv21 := hv21.below hb
  clear hb
  clear hv20
  clear hv21
  clear p1 p2 p3 ab1 ab2
  by_cases hb0 : b = 0
  · subst hb0
    go_wp2_with fail
    go_ret
    exact ⟨rfl, hE.bel⟩
  · have t0 : (b == 0) = false := beq_eq_false_iff_ne.2 hb0
    obtain ⟨ad1, ad2⟩ := tmod_adj (a := a) hb0
    obtain ⟨q, f, hq, hf, ⟨f1, f2⟩, ⟨d1, d2⟩, hqq, ⟨q1, q2⟩⟩ := fd_facts a hb0 a1 a2 b1 b2
    have hr1 : (a.tmod b).natAbs < b.natAbs := by rw [Int.natAbs_tmod]; exact Nat.mod_lt _ (by omega)
    rw [hf] at ad1 ad2
    obtain ⟨r, hr⟩ : ∃ r, r = a.tmod b := ⟨_, rfl⟩
    rw [← hr] at ad1 ad2 hr1
    go_upto_region 16 with (fail)
    go_cut [10] from 93 to 95 (fun v wx => v = .int .i64 r ∧ wx = w122)
    case first =>
      go_wp2_with fail
      go_meet
      exact ⟨by rw [hr], rfl⟩
    case rest =>
    obtain ⟨rfl, rfl⟩ := hcut
    clear hr
    go_upto_region 17 with (fail)
    go_cut [104] from 96 to 104 (fun v wx => v = .bool (adj r b) ∧ wx = wc)
    case first =>
      by_cases h0 : r = 0
      · subst h0
        go_wp2_with fail
        go_meet
        exact ⟨by simp [adj], rfl⟩
      · have t1 : (r != 0) = true := bne_iff_ne.2 h0
        go_wp2_with fail
        go_meet
        exact ⟨by simp [adj, h0]; cases decide (r < 0) <;> cases decide (b < 0) <;> rfl, rfl⟩
    case rest =>
    obtain ⟨rfl, rfl⟩ := hcut
    go_upto_if 104 with (fail)
    go_cut [10] from 104 to 107 (fun v wx => v = .int .i64 f ∧ wx = wc)
    case first =>
      cases h : adj r b
      · have e1 := ad2 h
        go_wp2_with fail
        go_meet
        exact ⟨by rw [e1], rfl⟩
      · have e1 := ad1 h
        have hw : IntKind.i64.wrap (r + b) = r + b := by rw [IntKind.wrap_i64]; omega
        go_wp2_with fail
        go_meet
        exact ⟨by rw [e1], rfl⟩
    case rest =>
    obtain ⟨rfl, rfl⟩ := hcut
    clear ad1 ad2 hr1
    go_wp2_with fail
    refine (num_v (a) _ (by omega) (by omega)).mono ?_
    rintro e w123 ⟨s23, A23, n23, c23, rfl, ho, hb⟩
    replace hE := hE.step hb
    have hv23 := ho.v
    clear ho hb
    go_wp2_with fail
    refine (num_v (b) _ (by omega) (by omega)).mono ?_
    rintro e w124 ⟨s24, A24, n24, c24, rfl, ho, hb⟩
    replace hE := hE.step hb
    replace hv23 := hv23.below hb
    have hv24 := ho.v
    clear ho hb
    go_wp2_with fail
    refine (divMod_q (c := c23) (d := c24) hv23 hv24 (len4 hv23 (by omega) (by omega)) (len4 hv24 (by omega) (by omega)) hb0 hq hf).mono ?_
    clear hv23
    clear hv24
    rintro e w3 ⟨sq, Aq, nq, cq, sr, Ar, nr, cr, rfl, hoq, hor, hb3⟩
    replace hE := hE.step hb3
    have hvq := hoq.v
    have hvr := hor.v
    clear hoq hor hb3 hq hf
    go_upto_region 20 with (fail)
    replace hE := (hE.fresh hvq cq).fresh (hvr.below (belAlloc _ _)) cr
    clear hvq hvr
    simp only [World.size_alloc] at hE
    obtain ⟨z3, hz3⟩ : ∃ z3, z3 = w3.heap.size := ⟨_, rfl⟩
    generalize (w3.alloc (.cells #[.bool sq, .slice Aq nq cq] 24)).alloc (.cells #[.bool sr, .slice Ar nr cr] 24) = W5 at hE ⊢
    rw [← hz3] at *
    clear hz3
    have p3 : IntKind.i64.wrap (a - f) = a - f := by rw [IntKind.wrap_i64]; omega
    have p4 : IntKind.i64.wrap q = q := by rw [IntKind.wrap_i64]; omega
    have lq : ln b16 q.natAbs ≤ 4 := ln_int (by omega) (by omega)
    have lf : ln b16 f.natAbs ≤ 4 := ln_int (by omega) (by omega)
    have hB := hE
    clear hE
    replace hB := hB.drew
    have tok0 : True := trivial
    go_region_held3 (fun w' => w'.cell? ⟨z3, 0, none⟩ = some (.bool sq) ∧ w'.cell? ⟨z3, 1, none⟩ = some (.slice Aq nq cq) ∧ w'.cell? ⟨z3 + 1, 0, none⟩ = some (.bool sr) ∧ w'.cell? ⟨z3 + 1, 1, none⟩ = some (.slice Ar nr cr))
      (exact ⟨hB.here.1.2.1.cells.1, hB.here.1.2.1.cells.2, hB.here.2.1.cells.1, hB.here.2.1.cells.2⟩)
      (first
        | (have _t := tok0; go_at_call 20; refine (num_v (f) _ (by omega) (by omega)).mono ?_; rintro e w101 ⟨sv1, Av1, nv1, cv1, rfl, ho1, hb1⟩; replace hB := hB.step hb1; have hv1 := ho1.v; clear tok0 hb1 ho1; have tok1 : True := trivial)
        | (have _t := tok1; go_at_call 18; have hc := law_equal_t (c := cr) (d := cv1) hB.here.2.2 hv1 (le_len hB.here.2.2 (Nat.le_trans lf (by decide))) (le_len hv1 (Nat.le_trans lf (by decide))) (rfl); refine hc.mono ?_; clear hc; rintro e w103 ⟨rfl, hb3⟩; replace hB := hB.step hb3; clear tok1 hb3 hv1; have tok2 : True := trivial)
        | (have _t := tok2; go_at_call 20; refine (num_v (q) _ (by omega) (by omega)).mono ?_; rintro e w102 ⟨sv2, Av2, nv2, cv2, rfl, ho2, hb2⟩; replace hB := hB.step hb2; have hv2 := ho2.v; clear tok2 hb2 ho2; have tok3 : True := trivial)
        | (have _t := tok3; go_at_call 18; have hc := law_equal_t (c := cq) (d := cv2) hB.here.1.2.2 hv2 (le_len hB.here.1.2.2 (Nat.le_trans lq (by decide))) (le_len hv2 (Nat.le_trans lq (by decide))) (rfl); refine hc.mono ?_; clear hc; rintro e w104 ⟨rfl, hb4⟩; replace hB := hB.step hb4; clear tok3 hb4 hv2; have tok4 : True := trivial))
    clear tok4
    go_wp2_with fail
    go_ret
    exact ⟨rfl, hB.bel⟩
end Go.Proofs.YtafglggjncnkkaaDoor
