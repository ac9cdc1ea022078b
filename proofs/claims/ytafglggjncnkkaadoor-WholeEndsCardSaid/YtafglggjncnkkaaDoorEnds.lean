/-
  The walk of WholeEnds.
-/
import Derived.Test.YtafglggjncnkkaaDoorEnvN
import Derived.Test.YtafglggjncnkkaaDoorLarge
namespace Go.Proofs.YtafglggjncnkkaaDoor
open Go.RowKit

theorem ln_over {x k : Nat} (h : b16 ^ k ≤ x) : k < ln b16 x := by
  rcases Nat.lt_or_ge k (ln b16 x) with h1 | h1
  · exact h1
  · have := (ln_le b16_two).1 h1; omega
theorem top_facts (n : Nat) (hn : 0 < n) : ∃ T : Int, ((bigN n : Nat) : Int) = T ∧ 0 < T ∧ ln b16 T.natAbs = n ∧ n < ln b16 (T + 1).natAbs ∧ n < ln b16 (T * 2).natAbs ∧ n < ln b16 (-T - 1).natAbs := by
  have h1 := bigN_eq n
  have h2 : 0 < bigN n := (ln_pos b16_two).1 (by rw [bigN_ln]; exact hn)
  generalize hB : b16 ^ n = B at h1
  have h3 := bigN_ln n
  generalize bigN n = t at *
  refine ⟨(t : Int), rfl, by omega, by rw [Int.natAbs_natCast]; exact h3, ln_over ?_, ln_over ?_, ln_over ?_⟩ <;> rw [hB] <;> omega
theorem sq_facts (n : Nat) (hn : 0 < n) : ∃ U : Int, ((bigN n : Nat) : Int) = U ∧ ln b16 U.natAbs = n ∧ 0 ≤ U * U ∧ ln b16 (U * U).natAbs = n + n ∧ dgt b16 (U * U).natAbs 0 = 1 ∧ dgt b16 (U * U).natAbs n = 65534 := by
  have h1 := bigN_eq n
  have h3 := bigN_ln n
  obtain ⟨D, hD⟩ : ∃ D, D = b16 ^ (n - 1) := ⟨_, rfl⟩
  have hDp : 0 < D := by rw [hD]; exact Nat.pow_pos (by decide)
  have hC : b16 ^ n = 65536 * D := by
    rw [hD, show n = (n - 1) + 1 by omega, Nat.pow_succ, Nat.mul_comm]
    rfl
  obtain ⟨t, ht⟩ : ∃ t, t = bigN n := ⟨_, rfl⟩
  rw [← ht] at h1 h3 ⊢
  obtain ⟨e, he⟩ : ∃ e, t = e + 1 := ⟨t - 1, by omega⟩
  have hs : t * t = e * (65536 * D) + 1 := by
    have h4 : t + 1 = 65536 * D := by rw [h1, hC]
    rw [← h4, he]
    simp only [Nat.mul_add, Nat.add_mul, Nat.mul_one, Nat.one_mul]
    omega
  have ha : ((t : Int) * (t : Int)).natAbs = t * t := by rw [Int.natAbs_mul, Int.natAbs_natCast]
  refine ⟨(t : Int), rfl, by rw [Int.natAbs_natCast]; exact h3, Int.mul_nonneg (by omega) (by omega), ?_, ?_, ?_⟩
  · rw [ha]
    refine ln_eq b16_two ?_ (.inr ?_)
    · rw [Nat.pow_add, hC]
      have h5 : t < 65536 * D := by omega
      exact Nat.mul_lt_mul'' h5 h5
    · rw [show n + n - 1 = (n - 1) + n by omega, Nat.pow_add, hC, ← hD, hs]
      have h6 : D * (65536 * D) ≤ e * (65536 * D) := Nat.mul_le_mul_right _ (by omega)
      omega
  · rw [ha, hs]
    unfold dgt
    rw [Nat.pow_zero, Nat.div_one, Nat.mul_left_comm, show b16 = 65536 from rfl, Nat.mul_add_mod]
  · rw [ha, hs]
    unfold dgt
    rw [hC, Nat.mul_comm e, Nat.mul_add_div (by omega), Nat.div_eq_of_lt (show 1 < 65536 * D by omega), Nat.add_zero, show b16 = 65536 from rfl]
    omega
theorem WV.negT {w : World} {z : Int} {s : Bool} {A : Option Addr} {n : Nat} (h : WV w z s A n) (hz : 0 < z) : WV w (-z) true A n :=
  ⟨(decide_eq_true (by omega)).symm, by rw [Int.natAbs_neg]; exact h.2.1, by rw [Int.natAbs_neg]; exact h.2.2⟩
theorem newAt {n : Nat} {w W : World} (_ : Below n w W) : New W (W.alloc (.cells #[.bool false, .slice none 0 0] 24)) W.heap.size := New.start W
theorem num_at {n : Nat} {w0 W : World} (z : Int) (_ : Below n w0 W) (h1 : -9223372036854775808 ≤ z) (h2 : z ≤ 9223372036854775807) : Calls Tryd.prog 20 #[.int .i64 z] W (VI z W) := num_v z W h1 h2
theorem belSelf {w W : World} {P : World → Prop} (_ : Env w P W) : Below W.heap.size W W := Below.refl _ W
theorem bx2 {g : Nat} {z : Int} {s : Bool} {A : Option Addr} {n c : Nat} {W : World} (h : Bx g z s A n c W) : W.cell? ⟨g, 0, none⟩ = some (.bool s) ∧ W.cell? ⟨g, 1, none⟩ = some (.slice A n c) := ⟨h.1.cells.1, h.1.cells.2⟩
theorem field1 (s : Bool) (v : Value) (W : World) : (Instr.field 24 (.agg #[.bool s, v]) 1).run Tryd.prog W = .ok v W := by
  first | kernel_rfl | rfl | (simp [go_sem]; done)
theorem okW_wide {s : Bool} {n : Nat} {f : Nat → Nat} (h : 1024 < n) : okW s n f = false := by
  unfold okW
  rw [if_neg (by omega), decide_eq_false (by omega), Bool.false_and]
theorem large_wide (k : Nat) (y : Int) (hy : y = (k : Int)) (h1 : 1024 < k) (h2 : k ≤ 2000) (w : World) :
    Calls Tryd.prog 34 #[.int .i64 y] w (fun e w' => ∃ s A n c, e = .returned (.agg #[.bool s, .slice A n c]) ∧ 1024 < n ∧ n ≤ 2000 ∧ (∃ f, Rd w'.heap.size .u16 w' A n f ∧ ∀ j, f j < 65536) ∧ Below w.heap.size w w') := by
  subst hy
  refine (large_any k h2 w).mono ?_
  rintro e w' ⟨s, A, n, c, he, ho, hb⟩
  have hn := ho.len
  rw [Int.natAbs_natCast, bigN_ln] at hn
  have hr := ho.v.2.2
  unfold Num16 at hr
  rw [Int.natAbs_natCast, bigN_ln, ← hn] at hr
  exact ⟨s, A, n, c, he, by omega, by omega, ⟨_, hr, fun j => dgt16_lt _ j⟩, hb⟩
set_option linter.unusedSimpArgs false in
set_option maxRecDepth 100000 in
set_option maxHeartbeats 16000000 in
theorem ends_walk (w : World) (htab : Tab w) : Calls Tryd.prog 8 #[] w fun e w' => e = .returned (.bool true) ∧ Below w.heap.size w w' := by
  have hE : Env w (fun _ => True) w := ⟨Below.refl _ _, fun _ _ _ h => h, trivial⟩
  obtain ⟨T, hT, t1, t2, t3, t4, t5⟩ := top_facts 1024 (by decide)
  obtain ⟨U, hU, g2, g3, g4, g5, g6⟩ := sq_facts 512 (by decide)
  have hL : ∀ W, Calls Tryd.prog 34 #[.int .i64 1024] W (VI T W) := fun W => by rw [← hT]; exact large_any 1024 (by decide) W
  have hM : ∀ W, Calls Tryd.prog 34 #[.int .i64 512] W (VI U W) := fun W => by rw [← hU]; exact large_any 512 (by decide) W
  have hV := fun W => large_wide 1025 1025 rfl (by decide) (by decide) W
  have HL := Lib.hid hL
  have HM := Lib.hid hM
  have HV := Lib.hid hV
  clear hL hM hV hT hU
  have hF := field1
  go_enter Tryd.func8, Tryd.ntmps8
  go_wp2_with fail
  refine (HL.out _).mono ?_
  rintro e w1 ⟨s1, A1, n1, c1, rfl, ho1, hb1⟩
  replace hE := hE.step hb1
  have hv1 := ho1.v
  clear ho1 hb1
  go_upto_region 2 with (fail)
  replace hE := hE.fresh hv1 c1
  clear hv1
  obtain ⟨z1, hz1⟩ : ∃ z1, z1 = w1.heap.size := ⟨_, rfl⟩
  generalize w1.alloc (.cells #[.bool s1, .slice A1 n1 c1] 24) = W1 at hE ⊢
  rw [← hz1] at *
  clear hz1
  go_cut [4] from 21 to 26 (fun t wx => t = .int .i64 3 ∧ Env w (fun V => True ∧ Bx z1 T s1 A1 n1 c1 V) wx)
  case first =>
    have hD := hE.drew
    have hb := belSelf hD
    have tok0 : True := trivial
    go_region_held3 (fun w' => w'.cell? ⟨z1, 0, none⟩ = some (.bool s1) ∧ w'.cell? ⟨z1, 1, none⟩ = some (.slice A1 n1 c1))
      (exact bx2 (hD.step (by first | exact hb | exact hb.alloc hb.size _ | exact (hb.alloc hb.size _).alloc (hb.alloc hb.size _).size _ | ((repeat (first | exact hb | (refine Below.setCell ?_ ?_ _) | (refine Below.alloc ?_ ?_ _))) <;> (try dsimp only) <;> (repeat (first | rw [World.size_alloc] | rw [World.size_setCell] | rw [World.size_drew])) <;> omega))).here.2)
      (first
        | (have _t := tok0; go_at_call 20; (first | refine (num_at (1) hb (by decide) (by decide)).mono ?_ | (have ea := hb.size; have hNa := newAt hb; replace hb := hb.alloc hb.size (.cells #[.bool false, .slice none 0 0] 24); refine (num_at (1) hb (by decide) (by decide)).mono ?_)); rintro e w20 ⟨sv0, Av0, nv0, cv0, rfl, ho0, hb20⟩; (try replace hNa := hNa.below hb20); replace hb := hb.trans (hb20.mono hb.size); have hs20 := hb.size; (try simp only [World.size_drew] at hs20); have hv0 := ho0.v; clear tok0 ho0 hb20; have tok1 : True := trivial)
        | (have _t := tok1; go_at_call 24; (first | refine (add_long (c := c1) (d := cv0) (hD.step hb).here.2.2 hv0 (le_len (hD.step hb).here.2.2 (Nat.le_of_eq t2)) (le_len hv0 (Nat.le_trans (ln_int (z := 1) (by decide) (by decide)) (by decide))) t3).mono ?_ | (have ea := hb.size; have hNa := newAt hb; replace hb := hb.alloc hb.size (.cells #[.bool false, .slice none 0 0] 24); replace hv0 := hv0.below (belAlloc _ (.cells #[.bool false, .slice none 0 0] 24)); refine (add_long (c := c1) (d := cv0) (hD.step hb).here.2.2 hv0 (le_len (hD.step hb).here.2.2 (Nat.le_of_eq t2)) (le_len hv0 (Nat.le_trans (ln_int (z := 1) (by decide) (by decide)) (by decide))) t3).mono ?_)); rintro e w21 ⟨rfl, hb21⟩; (try replace hNa := hNa.below hb21); (try (have f0 := hNa.box.frozen 0; have f1 := hNa.box.frozen 1; obtain ⟨r0, r1⟩ := hNa.box.cells; have l0 := hNa.box.lt; (try simp only [World.size_drew] at f0 f1 r0 r1 l0); (try simp only [World.size_alloc] at f0 f1 r0 r1 l0))); replace hb := hb.trans (hb21.mono hb.size); have hs21 := hb.size; (try simp only [World.size_drew] at hs21); clear tok1 hv0 hb21; have tok2 : True := trivial))
    all_goals go_wp2_with fail
    all_goals go_meet
    all_goals exact ⟨rfl, hD.step (by first | exact hb | exact hb.alloc hb.size _ | exact (hb.alloc hb.size _).alloc (hb.alloc hb.size _).size _ | ((repeat (first | exact hb | (refine Below.setCell ?_ ?_ _) | (refine Below.alloc ?_ ?_ _))) <;> (try dsimp only) <;> (repeat (first | rw [World.size_alloc] | rw [World.size_setCell] | rw [World.size_drew])) <;> omega))⟩
  case rest =>
  clear hE
  obtain ⟨rfl, hE⟩ := hcut
  go_upto_region 3 with (fail)
  go_cut [6] from 27 to 32 (fun t wx => t = .int .i64 3 ∧ Env w (fun V => True ∧ Bx z1 T s1 A1 n1 c1 V) wx)
  case first =>
    have hD := hE.drew
    have hb := belSelf hD
    have tok0 : True := trivial
    go_region_held3 (fun w' => w'.cell? ⟨z1, 0, none⟩ = some (.bool s1) ∧ w'.cell? ⟨z1, 1, none⟩ = some (.slice A1 n1 c1))
      (exact bx2 (hD.step (by first | exact hb | exact hb.alloc hb.size _ | exact (hb.alloc hb.size _).alloc (hb.alloc hb.size _).size _ | ((repeat (first | exact hb | (refine Below.setCell ?_ ?_ _) | (refine Below.alloc ?_ ?_ _))) <;> (try dsimp only) <;> (repeat (first | rw [World.size_alloc] | rw [World.size_setCell] | rw [World.size_drew])) <;> omega))).here.2)
      (first
        | (have _t := tok0; go_at_call 20; (first | refine (num_at (2) hb (by decide) (by decide)).mono ?_ | (have ea := hb.size; have hNa := newAt hb; replace hb := hb.alloc hb.size (.cells #[.bool false, .slice none 0 0] 24); refine (num_at (2) hb (by decide) (by decide)).mono ?_)); rintro e w20 ⟨sv0, Av0, nv0, cv0, rfl, ho0, hb20⟩; (try replace hNa := hNa.below hb20); replace hb := hb.trans (hb20.mono hb.size); have hs20 := hb.size; (try simp only [World.size_drew] at hs20); have hv0 := ho0.v; clear tok0 ho0 hb20; have tok1 : True := trivial)
        | (have _t := tok1; go_at_call 26; (first | refine (mul_long (c := c1) (d := cv0) (hD.step hb).here.2.2 hv0 (le_len (hD.step hb).here.2.2 (Nat.le_of_eq t2)) (le_len hv0 (Nat.le_trans (ln_int (z := 2) (by decide) (by decide)) (by decide))) t4).mono ?_ | (have ea := hb.size; have hNa := newAt hb; replace hb := hb.alloc hb.size (.cells #[.bool false, .slice none 0 0] 24); replace hv0 := hv0.below (belAlloc _ (.cells #[.bool false, .slice none 0 0] 24)); refine (mul_long (c := c1) (d := cv0) (hD.step hb).here.2.2 hv0 (le_len (hD.step hb).here.2.2 (Nat.le_of_eq t2)) (le_len hv0 (Nat.le_trans (ln_int (z := 2) (by decide) (by decide)) (by decide))) t4).mono ?_)); rintro e w21 ⟨rfl, hb21⟩; (try replace hNa := hNa.below hb21); (try (have f0 := hNa.box.frozen 0; have f1 := hNa.box.frozen 1; obtain ⟨r0, r1⟩ := hNa.box.cells; have l0 := hNa.box.lt; (try simp only [World.size_drew] at f0 f1 r0 r1 l0); (try simp only [World.size_alloc] at f0 f1 r0 r1 l0))); replace hb := hb.trans (hb21.mono hb.size); have hs21 := hb.size; (try simp only [World.size_drew] at hs21); clear tok1 hv0 hb21; have tok2 : True := trivial))
    all_goals go_wp2_with fail
    all_goals go_meet
    all_goals exact ⟨rfl, hD.step (by first | exact hb | exact hb.alloc hb.size _ | exact (hb.alloc hb.size _).alloc (hb.alloc hb.size _).size _ | ((repeat (first | exact hb | (refine Below.setCell ?_ ?_ _) | (refine Below.alloc ?_ ?_ _))) <;> (try dsimp only) <;> (repeat (first | rw [World.size_alloc] | rw [World.size_setCell] | rw [World.size_drew])) <;> omega))⟩
  case rest =>
  clear hE
  obtain ⟨rfl, hE⟩ := hcut
  go_wp2_with fail
  refine (HL.out _).mono ?_
  rintro e w4 ⟨s7, A7, n7, c7, rfl, ho7, hb7⟩
  replace hE := hE.step hb7
  have hv7 := WV.negT ho7.v t1
  clear ho7 hb7
  go_upto_region 5 with (fail)
  replace hE := hE.fresh hv7 c7
  clear hv7
  obtain ⟨z7, hz7⟩ : ∃ z7, z7 = w4.heap.size := ⟨_, rfl⟩
  generalize w4.alloc (.cells #[.bool true, .slice A7 n7 c7] 24) = W7 at hE ⊢
  rw [← hz7] at *
  clear hz7
  have t2n : ln b16 (-T).natAbs = 1024 := by rw [Int.natAbs_neg]; exact t2
  go_cut [9] from 36 to 41 (fun t wx => t = .int .i64 3 ∧ Env w (fun V => (True ∧ Bx z1 T s1 A1 n1 c1 V) ∧ Bx z7 (-T) true A7 n7 c7 V) wx)
  case first =>
    have hD := hE.drew
    have hb := belSelf hD
    have tok0 : True := trivial
    go_region_held3 (fun w' => w'.cell? ⟨z7, 0, none⟩ = some (.bool true) ∧ w'.cell? ⟨z7, 1, none⟩ = some (.slice A7 n7 c7))
      (exact bx2 (hD.step (by first | exact hb | exact hb.alloc hb.size _ | exact (hb.alloc hb.size _).alloc (hb.alloc hb.size _).size _ | ((repeat (first | exact hb | (refine Below.setCell ?_ ?_ _) | (refine Below.alloc ?_ ?_ _))) <;> (try dsimp only) <;> (repeat (first | rw [World.size_alloc] | rw [World.size_setCell] | rw [World.size_drew])) <;> omega))).here.2)
      (first
        | (have _t := tok0; go_at_call 20; (first | refine (num_at (1) hb (by decide) (by decide)).mono ?_ | (have ea := hb.size; have hNa := newAt hb; replace hb := hb.alloc hb.size (.cells #[.bool false, .slice none 0 0] 24); refine (num_at (1) hb (by decide) (by decide)).mono ?_)); rintro e w20 ⟨sv0, Av0, nv0, cv0, rfl, ho0, hb20⟩; (try replace hNa := hNa.below hb20); replace hb := hb.trans (hb20.mono hb.size); have hs20 := hb.size; (try simp only [World.size_drew] at hs20); have hv0 := ho0.v; clear tok0 ho0 hb20; have tok1 : True := trivial)
        | (have _t := tok1; go_at_call 25; (first | refine (sub_long (c := c7) (d := cv0) (hD.step hb).here.2.2 hv0 (le_len (hD.step hb).here.2.2 (Nat.le_of_eq t2n)) (le_len hv0 (Nat.le_trans (ln_int (z := 1) (by decide) (by decide)) (by decide))) t5).mono ?_ | (have ea := hb.size; have hNa := newAt hb; replace hb := hb.alloc hb.size (.cells #[.bool false, .slice none 0 0] 24); replace hv0 := hv0.below (belAlloc _ (.cells #[.bool false, .slice none 0 0] 24)); refine (sub_long (c := c7) (d := cv0) (hD.step hb).here.2.2 hv0 (le_len (hD.step hb).here.2.2 (Nat.le_of_eq t2n)) (le_len hv0 (Nat.le_trans (ln_int (z := 1) (by decide) (by decide)) (by decide))) t5).mono ?_)); rintro e w21 ⟨rfl, hb21⟩; (try replace hNa := hNa.below hb21); (try (have f0 := hNa.box.frozen 0; have f1 := hNa.box.frozen 1; obtain ⟨r0, r1⟩ := hNa.box.cells; have l0 := hNa.box.lt; (try simp only [World.size_drew] at f0 f1 r0 r1 l0); (try simp only [World.size_alloc] at f0 f1 r0 r1 l0))); replace hb := hb.trans (hb21.mono hb.size); have hs21 := hb.size; (try simp only [World.size_drew] at hs21); clear tok1 hv0 hb21; have tok2 : True := trivial))
    all_goals go_wp2_with fail
    all_goals go_meet
    all_goals exact ⟨rfl, hD.step (by first | exact hb | exact hb.alloc hb.size _ | exact (hb.alloc hb.size _).alloc (hb.alloc hb.size _).size _ | ((repeat (first | exact hb | (refine Below.setCell ?_ ?_ _) | (refine Below.alloc ?_ ?_ _))) <;> (try dsimp only) <;> (repeat (first | rw [World.size_alloc] | rw [World.size_setCell] | rw [World.size_drew])) <;> omega))⟩
  case rest =>
  clear hE
  obtain ⟨rfl, hE⟩ := hcut
  obtain ⟨k1, k2⟩ := bx2 hE.here.1.2
  obtain ⟨k3, k4⟩ := bx2 hE.here.2
  go_wp2_with fail
  clear k1 k2 k3 k4
  have hc := add_v (c := c1) (d := c7) hE.here.1.2.2 hE.here.2.2 (le_len hE.here.1.2.2 (Nat.le_of_eq t2)) (le_len hE.here.2.2 (Nat.le_of_eq t2n)) (by rw [Int.add_right_neg]; decide)
  rw [Int.add_right_neg] at hc
  refine hc.mono ?_
  clear hc
  rintro e w6 ⟨s10, A10, n10, c10, rfl, ho10, hb10⟩
  replace hE := hE.step hb10
  have hv10 := ho10.v
  clear ho10 hb10
  go_upto_region 7 with (fail)
  replace hE := hE.fresh hv10 c10
  clear hv10
  obtain ⟨z10, hz10⟩ : ∃ z10, z10 = w6.heap.size := ⟨_, rfl⟩
  generalize w6.alloc (.cells #[.bool s10, .slice A10 n10 c10] 24) = W10 at hE ⊢
  rw [← hz10] at *
  clear hz10
  go_wp2_with fail
  refine (HM.out _).mono ?_
  rintro e w11 ⟨sa, Aa, na, ca, rfl, hoa, hba⟩
  replace hE := hE.step hba
  have hva := hoa.v
  clear hoa hba
  go_wp2_with fail
  refine (HM.out _).mono ?_
  rintro e w12 ⟨sb, Ab, nb, cb, rfl, hob, hbb⟩
  replace hE := hE.step hbb
  replace hva := hva.below hbb
  have hvb := hob.v
  clear hob hbb
  go_wp2_with fail
  refine (mul_v (c := ca) (d := cb) hva hvb (le_len hva (Nat.le_trans (Nat.le_of_eq g2) (by decide))) (le_len hvb (Nat.le_trans (Nat.le_of_eq g2) (by decide))) (Nat.le_of_eq g4)).mono ?_
  clear hva hvb
  rintro e w13 ⟨s12, A12, n12, c12, rfl, ho12, hb12⟩
  replace hE := hE.step hb12
  have hv12 := ho12.v
  clear ho12 hb12
  go_upto_region 8 with (fail)
  replace hE := hE.fresh hv12 c12
  clear hv12
  obtain ⟨z12, hz12⟩ : ∃ z12, z12 = w13.heap.size := ⟨_, rfl⟩
  generalize w13.alloc (.cells #[.bool s12, .slice A12 n12 c12] 24) = W12 at hE ⊢
  rw [← hz12] at *
  clear hz12
  go_wp2_with fail
  refine (num_v (-9223372036854775808) _ (by decide) (by decide)).mono ?_
  rintro e w14 ⟨sx, Ax, nx, cx, rfl, hox, hbx⟩
  replace hE := hE.step hbx
  have hvx := hox.v
  clear hox hbx
  go_wp2_with fail
  refine (int_fit hvx (le_len hvx (Nat.le_trans (ln_int (z := -9223372036854775808) (by decide) (by decide)) (by decide))) (by decide) (by decide)).mono ?_
  clear hvx
  rintro e w15 ⟨rfl, hby⟩
  replace hE := hE.step hby
  clear hby
  go_wp2_with fail
  refine (num_v (-9223372036854775808) _ (by decide) (by decide)).mono ?_
  rintro e w16 ⟨sx, Ax, nx, cx, rfl, hox, hbx⟩
  replace hE := hE.step hbx
  have hvx := hox.v
  clear hox hbx
  go_wp2_with fail
  refine (int_unfit (WV.abs hvx) (Nat.le_trans (le_len hvx (ln_int (z := -9223372036854775808) (by decide) (by decide))) (by decide)) (by decide)).mono ?_
  clear hvx
  rintro e w17 ⟨rfl, hby⟩
  replace hE := hE.step hby
  clear hby
  go_wp2_with fail
  refine (num_v (9223372036854775807) _ (by decide) (by decide)).mono ?_
  rintro e w18 ⟨sx, Ax, nx, cx, rfl, hox, hbx⟩
  replace hE := hE.step hbx
  have hvx := hox.v
  clear hox hbx
  go_wp2_with fail
  refine (int_fit hvx (le_len hvx (Nat.le_trans (ln_int (z := 9223372036854775807) (by decide) (by decide)) (by decide))) (by decide) (by decide)).mono ?_
  clear hvx
  rintro e w19 ⟨rfl, hby⟩
  replace hE := hE.step hby
  clear hby
  obtain ⟨k1, k2⟩ := bx2 hE.here.1.2
  obtain ⟨k3, k4⟩ := bx2 hE.here.2
  go_wp2_with fail
  clear k1 k2 k3 k4
  refine (is_v (c := c10) 0 hE.here.1.2.2 (by decide) (by decide)).mono ?_
  rintro e w20 ⟨rfl, hb20⟩
  replace hE := hE.step hb20
  clear hb20
  have hn12 : n12 = 1024 := by rw [hE.here.2.2.len]; exact g4
  subst hn12
  obtain ⟨k3, k4⟩ := bx2 hE.here.2
  have hr := hE.here.2.2.2.2
  unfold Num16 at hr
  rw [g4] at hr
  obtain ⟨bq, oq, rfl, hbq, hcq⟩ := hr (by decide)
  have d0 := hcq 0 (by decide)
  have d1 := hcq 512 (by decide)
  rw [g5, Nat.add_zero] at d0
  rw [g6] at d1
  have e0 : w20.cell? ⟨bq, oq, none⟩ = some (.int .u16 1) := d0
  have e1 : w20.cell? ⟨bq, oq + 512, none⟩ = some (.int .u16 65534) := d1
  clear d0 d1 hcq hr
  go_wp2_with fail
  clear k3 k4 e0 e1
  refine (HV.out _).mono ?_
  rintro e w22 ⟨sw, Aw, nw, cw, rfl, hw1, hw2, ⟨fw, hrw, hfw⟩, hb22⟩
  replace hE := hE.step hb22
  clear hb22
  have hc := valid_any sw Aw nw cw fw w22 hrw (fun i _ => hfw i) (by omega)
  rw [okW_wide hw1] at hc
  go_wp2_with fail
  refine hc.mono ?_
  clear hc
  rintro e w23 ⟨rfl, hb23⟩
  replace hE := hE.step hb23
  go_wp2_with fail
  refine (awake_any _ (htab.below hE.bel)).mono ?_
  rintro e w24 ⟨rfl, hb24⟩
  replace hE := hE.step hb24
  go_wp2_with fail
  go_ret
  exact ⟨rfl, hE.bel⟩
end Go.Proofs.YtafglggjncnkkaaDoor
