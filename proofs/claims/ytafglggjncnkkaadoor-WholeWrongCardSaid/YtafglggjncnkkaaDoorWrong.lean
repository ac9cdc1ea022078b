/-
  The walk of WholeWrong.
-/
import Derived.Test.YtafglggjncnkkaaDoorEnvN
import Derived.Test.YtafglggjncnkkaaDoorDivMod
import Derived.Test.YtafglggjncnkkaaDoorGcdW
import Derived.Test.YtafglggjncnkkaaDoorTextV
import Derived.Test.YtafglggjncnkkaaDoorIntB
namespace Go.Proofs.YtafglggjncnkkaaDoor
open Go.RowKit

theorem WV.zero (w : World) : WV w 0 false none 0 := ⟨rfl, ln_zero.symm, fun h => absurd h (by rw [show (0 : Int).natAbs = 0 from rfl, ln_zero]; exact Nat.lt_irrefl 0)⟩
theorem rd_all {base : Nat} {w : World} {A : Option Addr} {n : Nat} {f : Nat → Nat} (h : Rd base .u16 w A n f) (hf : ∀ j, j < n → f j < 65536) : ∃ g : Nat → Nat, (∀ j, g j < 65536) ∧ Rd base .u16 w A n g := by
  refine ⟨fun j => if j < n then f j else 0, fun j => ?_, h.congr fun i hi => ?_⟩
  · dsimp only
    split
    · exact hf _ ‹_›
    · omega
  · show f i = if i < n then f i else 0
    rw [if_pos hi]
/-- A variable that holds the zero value. -/
def Zr (g : Nat) (V : World) : Prop := WholeAt V g false (.slice none 0 0)
theorem Zr.stable (g : Nat) : Stable (Zr g) := WholeAt.stable g false (.slice none 0 0)
theorem Env.zr {w W : World} {P : World → Prop} (h : Env w P W) : Env w (fun V => P V ∧ Zr W.heap.size V) (W.alloc (.cells #[.bool false, .slice none 0 0] 24)) :=
  (h.alloc _).and (Zr.stable _) (WholeAt.new W false (.slice none 0 0))
theorem two_rd {w W : World} {P : World → Prop} {A : Option Addr} {n : Nat} {f : Nat → Nat} (h : Env w P W) (r : Rd w.heap.size .u16 w A n f) : Rd W.heap.size .u16 W A n f := (r.below h.bel).more h.bel.size
set_option maxRecDepth 100000 in
set_option maxHeartbeats 16000000 in
theorem wrong_walk0 (s1 s2 : Bool) (A1 A2 : Option Addr) (n1 n2 c1 c2 : Nat) (f1 f2 : Nat → Nat) (w : World) (htab : Tab w)
    (r1 : Rd w.heap.size .u16 w A1 n1 f1) (r2 : Rd w.heap.size .u16 w A2 n2 f2) (q1 : ∀ j, f1 j < 65536) (q2 : ∀ j, f2 j < 65536) :
    Calls Tryd.prog 11 #[.agg #[.bool s1, .slice A1 n1 c1], .agg #[.bool s2, .slice A2 n2 c2]] w fun e w' => e = .returned (.bool true) ∧ Below w.heap.size w w' := by
  have hE := Env.two w s1 s2 A1 A2 n1 n2 c1 c2
  have R1 := Lib.hid r1
  have R2 := Lib.hid r2
  clear r1 r2
  go_enter Tryd.func11, Tryd.ntmps11
  go_wp2_with fail
  refine (awake_any _ (htab.below hE.bel)).mono ?_
  rintro e w1 ⟨rfl, hb1⟩
  replace hE := hE.step hb1
  clear hb1 htab
  go_upto_region 3 with (fail)
  go_cut [40] from 23 to 40 (fun t wx => t = .bool ((okW s1 n1 f1 && okW s2 n2 f2) || decide (2000 < n1) || decide (2000 < n2)) ∧ Env w (Two0 w.heap.size s1 s2 A1 A2 n1 n2 c1 c2) wx)
  case first =>
    obtain ⟨k1, k2, k3, k4⟩ := Two0.cells hE.here
    go_wp2_with fail
    refine (valid_all s1 A1 n1 c1 f1 _ (two_rd hE (R1.out)) (fun i _ => q1 i)).mono ?_
    clear k1 k2 k3 k4
    rintro e w2 ⟨rfl, hb2⟩
    replace hE := hE.step hb2
    clear hb2
    cases o1 : okW s1 n1 f1
    · obtain ⟨k1, k2, k3, k4⟩ := Two0.cells hE.here
      by_cases h1 : n1 ≤ 2000
      · have t1 : decide ((2000 : Int) < (n1 : Int)) = false := decide_eq_false (by omega)
        have e1 : decide (2000 < n1) = false := decide_eq_false (by omega)
        by_cases h2 : n2 ≤ 2000
        · have t2 : decide ((2000 : Int) < (n2 : Int)) = false := decide_eq_false (by omega)
          have e2 : decide (2000 < n2) = false := decide_eq_false (by omega)
          go_wp2_with fail
          go_meet
          exact ⟨by simp [o1, e1, e2], hE⟩
        · have t2 : decide ((2000 : Int) < (n2 : Int)) = true := decide_eq_true (by omega)
          have e2 : decide (2000 < n2) = true := decide_eq_true (by omega)
          go_wp2_with fail
          go_meet
          exact ⟨by simp [o1, e1, e2], hE⟩
      · have t1 : decide ((2000 : Int) < (n1 : Int)) = true := decide_eq_true (by omega)
        have e1 : decide (2000 < n1) = true := decide_eq_true (by omega)
        go_wp2_with fail
        go_meet
        exact ⟨by simp [o1, e1], hE⟩
    · obtain ⟨k1, k2, k3, k4⟩ := Two0.cells hE.here
      go_wp2_with fail
      refine (valid_all s2 A2 n2 c2 f2 _ (two_rd hE (R2.out)) (fun i _ => q2 i)).mono ?_
      clear k1 k2 k3 k4
      rintro e w3 ⟨rfl, hb3⟩
      replace hE := hE.step hb3
      clear hb3
      obtain ⟨k1, k2, k3, k4⟩ := Two0.cells hE.here
      cases o2 : okW s2 n2 f2
      · by_cases h1 : n1 ≤ 2000
        · have t1 : decide ((2000 : Int) < (n1 : Int)) = false := decide_eq_false (by omega)
          have e1 : decide (2000 < n1) = false := decide_eq_false (by omega)
          by_cases h2 : n2 ≤ 2000
          · have t2 : decide ((2000 : Int) < (n2 : Int)) = false := decide_eq_false (by omega)
            have e2 : decide (2000 < n2) = false := decide_eq_false (by omega)
            go_wp2_with fail
            go_meet
            exact ⟨by simp [o1, o2, e1, e2], hE⟩
          · have t2 : decide ((2000 : Int) < (n2 : Int)) = true := decide_eq_true (by omega)
            have e2 : decide (2000 < n2) = true := decide_eq_true (by omega)
            go_wp2_with fail
            go_meet
            exact ⟨by simp [o1, o2, e1, e2], hE⟩
        · have t1 : decide ((2000 : Int) < (n1 : Int)) = true := decide_eq_true (by omega)
          have e1 : decide (2000 < n1) = true := decide_eq_true (by omega)
          go_wp2_with fail
          go_meet
          exact ⟨by simp [o1, o2, e1], hE⟩
      · go_wp2_with fail
        go_meet
        exact ⟨by simp [o1, o2], hE⟩
  case rest =>
  clear hE
  obtain ⟨rfl, hE⟩ := hcut
  cases hq : ((okW s1 n1 f1 && okW s2 n2 f2) || decide (2000 < n1) || decide (2000 < n2))
  · obtain ⟨⟨h0, h1⟩, h2⟩ : ((okW s1 n1 f1 && okW s2 n2 f2) = false ∧ n1 ≤ 2000) ∧ n2 ≤ 2000 := by
      rw [Bool.or_eq_false_iff, Bool.or_eq_false_iff] at hq
      exact ⟨⟨hq.1.1, by have := of_decide_eq_false hq.1.2; omega⟩, by have := of_decide_eq_false hq.2; omega⟩
    have HK := Lib.hid h0
    clear hq h0
    obtain ⟨k1, k2, k3, k4⟩ := Two0.cells hE.here
    go_wp2_with fail
    clear k1 k2 k3 k4
    refine (add_bad s1 s2 A1 A2 n1 n2 c1 c2 f1 f2 _ (two_rd hE (R1.out)) (two_rd hE (R2.out)) q1 q2 (by omega) (by omega) HK.out).mono ?_
    rintro e w11 ⟨rfl, hb11⟩
    replace hE := hE.step hb11
    clear hb11
    go_upto_region 6 with (fail)
    replace hE := hE.zr
    obtain ⟨z5, hz5⟩ : ∃ z5, z5 = w11.heap.size := ⟨_, rfl⟩
    generalize w11.alloc (.cells #[.bool false, .slice none 0 0] 24) = W5 at hE ⊢
    rw [← hz5] at *
    clear hz5
    obtain ⟨k1, k2, k3, k4⟩ := Two0.cells hE.here.1
    go_wp2_with fail
    clear k1 k2 k3 k4
    refine (sub_bad s1 s2 A1 A2 n1 n2 c1 c2 f1 f2 _ (two_rd hE (R1.out)) (two_rd hE (R2.out)) q1 q2 (by omega) (by omega) HK.out).mono ?_
    rintro e w12 ⟨rfl, hb12⟩
    replace hE := hE.step hb12
    clear hb12
    go_upto_region 7 with (fail)
    replace hE := hE.zr
    obtain ⟨z7, hz7⟩ : ∃ z7, z7 = w12.heap.size := ⟨_, rfl⟩
    generalize w12.alloc (.cells #[.bool false, .slice none 0 0] 24) = W7 at hE ⊢
    rw [← hz7] at *
    clear hz7
    obtain ⟨k1, k2, k3, k4⟩ := Two0.cells hE.here.1.1
    go_wp2_with fail
    clear k1 k2 k3 k4
    refine (mul_bad s1 s2 A1 A2 n1 n2 c1 c2 f1 f2 _ (two_rd hE (R1.out)) (two_rd hE (R2.out)) q1 q2 (by omega) (by omega) HK.out).mono ?_
    rintro e w13 ⟨rfl, hb13⟩
    replace hE := hE.step hb13
    clear hb13
    go_upto_region 8 with (fail)
    replace hE := hE.zr
    obtain ⟨z9, hz9⟩ : ∃ z9, z9 = w13.heap.size := ⟨_, rfl⟩
    generalize w13.alloc (.cells #[.bool false, .slice none 0 0] 24) = W9 at hE ⊢
    rw [← hz9] at *
    clear hz9
    obtain ⟨k1, k2, k3, k4⟩ := Two0.cells hE.here.1.1.1
    go_wp2_with fail
    clear k1 k2 k3 k4
    refine (divMod_bad s1 s2 A1 A2 n1 n2 c1 c2 f1 f2 _ (two_rd hE (R1.out)) (two_rd hE (R2.out)) q1 q2 (by omega) (by omega) HK.out).mono ?_
    rintro e w14 ⟨rfl, hb14⟩
    replace hE := hE.step hb14
    clear hb14
    go_upto_region 9 with (fail)
    replace hE := hE.zr
    replace hE := hE.zr
    simp only [World.size_alloc] at hE
    obtain ⟨z11, hz11⟩ : ∃ z11, z11 = w14.heap.size := ⟨_, rfl⟩
    generalize (w14.alloc (.cells #[.bool false, .slice none 0 0] 24)).alloc (.cells #[.bool false, .slice none 0 0] 24) = W11 at hE ⊢
    rw [← hz11] at *
    clear hz11
    obtain ⟨k1, k2, k3, k4⟩ := Two0.cells hE.here.1.1.1.1.1
    go_wp2_with fail
    clear k1 k2 k3 k4
    refine (gcd_bad s1 s2 A1 A2 n1 n2 c1 c2 f1 f2 _ (two_rd hE (R1.out)) (two_rd hE (R2.out)) q1 q2 (by omega) (by omega) HK.out).mono ?_
    rintro e w15 ⟨rfl, hb15⟩
    replace hE := hE.step hb15
    clear hb15
    go_upto_region 10 with (fail)
    replace hE := hE.zr
    obtain ⟨z14, hz14⟩ : ∃ z14, z14 = w15.heap.size := ⟨_, rfl⟩
    generalize w15.alloc (.cells #[.bool false, .slice none 0 0] 24) = W14 at hE ⊢
    rw [← hz14] at *
    clear hz14
    go_upto_region 11 with (fail)
    replace hE := hE.zr
    obtain ⟨z16, hz16⟩ : ∃ z16, z16 = W14.heap.size := ⟨_, rfl⟩
    generalize W14.alloc (.cells #[.bool false, .slice none 0 0] 24) = W16 at hE ⊢
    rw [← hz16] at *
    clear hz16
    obtain ⟨k1, k2, k3, k4⟩ := Two0.cells hE.here.1.1.1.1.1.1.1
    go_wp2_with fail
    clear k1 k2 k3 k4
    refine (cmp_bad s1 s2 A1 A2 n1 n2 c1 c2 f1 f2 _ (two_rd hE (R1.out)) (two_rd hE (R2.out)) q1 q2 (by omega) (by omega) HK.out).mono ?_
    rintro e w16 ⟨rfl, hb16⟩
    replace hE := hE.step hb16
    clear hb16
    obtain ⟨k1, k2, k3, k4⟩ := Two0.cells hE.here.1.1.1.1.1.1.1
    go_wp2_with fail
    clear k1 k2 k3 k4
    refine (cmp_bad s2 s1 A2 A1 n2 n1 c2 c1 f2 f1 _ (two_rd hE (R2.out)) (two_rd hE (R1.out)) q2 q1 (by omega) (by omega) (by rw [Bool.and_comm]; exact HK.out)).mono ?_
    rintro e w17 ⟨rfl, hb17⟩
    replace hE := hE.step hb17
    clear hb17
    obtain ⟨k1, k2⟩ := WholeAt.cells hE.here.1.1.1.1.1.1.2
    obtain ⟨k3, k4⟩ := WholeAt.cells hE.here.2
    go_wp2_with fail
    clear k1 k2 k3 k4
    refine (law_equal_t (c := 0) (d := 0) (WV.zero _) (WV.zero _) (by decide) (by decide) rfl).mono ?_
    rintro e w18 ⟨rfl, hb18⟩
    replace hE := hE.step hb18
    clear hb18
    obtain ⟨k1, k2⟩ := WholeAt.cells hE.here.1.1.1.1.1.2
    obtain ⟨k3, k4⟩ := WholeAt.cells hE.here.2
    go_wp2_with fail
    clear k1 k2 k3 k4
    refine (law_equal_t (c := 0) (d := 0) (WV.zero _) (WV.zero _) (by decide) (by decide) rfl).mono ?_
    rintro e w19 ⟨rfl, hb19⟩
    replace hE := hE.step hb19
    clear hb19
    obtain ⟨k1, k2⟩ := WholeAt.cells hE.here.1.1.1.1.2
    obtain ⟨k3, k4⟩ := WholeAt.cells hE.here.2
    go_wp2_with fail
    clear k1 k2 k3 k4
    refine (law_equal_t (c := 0) (d := 0) (WV.zero _) (WV.zero _) (by decide) (by decide) rfl).mono ?_
    rintro e w20 ⟨rfl, hb20⟩
    replace hE := hE.step hb20
    clear hb20
    obtain ⟨k1, k2⟩ := WholeAt.cells hE.here.1.1.1.2
    obtain ⟨k3, k4⟩ := WholeAt.cells hE.here.2
    go_wp2_with fail
    clear k1 k2 k3 k4
    refine (law_equal_t (c := 0) (d := 0) (WV.zero _) (WV.zero _) (by decide) (by decide) rfl).mono ?_
    rintro e w21 ⟨rfl, hb21⟩
    replace hE := hE.step hb21
    clear hb21
    obtain ⟨k1, k2⟩ := WholeAt.cells hE.here.1.1.2
    obtain ⟨k3, k4⟩ := WholeAt.cells hE.here.2
    go_wp2_with fail
    clear k1 k2 k3 k4
    refine (law_equal_t (c := 0) (d := 0) (WV.zero _) (WV.zero _) (by decide) (by decide) rfl).mono ?_
    rintro e w22 ⟨rfl, hb22⟩
    replace hE := hE.step hb22
    clear hb22
    obtain ⟨k1, k2⟩ := WholeAt.cells hE.here.1.2
    obtain ⟨k3, k4⟩ := WholeAt.cells hE.here.2
    go_wp2_with fail
    clear k1 k2 k3 k4
    refine (law_equal_t (c := 0) (d := 0) (WV.zero _) (WV.zero _) (by decide) (by decide) rfl).mono ?_
    rintro e w23 ⟨rfl, hb23⟩
    replace hE := hE.step hb23
    clear hb23
    obtain ⟨k1, k2, k3, k4⟩ := Two0.cells hE.here.1.1.1.1.1.1.1
    go_wp2_with fail
    clear k1 k2 k3 k4
    refine (valid_all s1 A1 n1 c1 f1 _ (two_rd hE (R1.out)) (fun i _ => q1 i)).mono ?_
    rintro e w24 ⟨rfl, hb24⟩
    replace hE := hE.step hb24
    clear hb24
    cases o1 : okW s1 n1 f1
    · obtain ⟨k1, k2, k3, k4⟩ := Two0.cells hE.here.1.1.1.1.1.1.1
      go_wp2_with fail
      clear k1 k2 k3 k4
      refine (int_bad s1 A1 n1 c1 f1 _ (two_rd hE (R1.out)) (fun i _ => q1 i) (by omega) o1).mono ?_
      rintro e w31 ⟨rfl, hb31⟩
      replace hE := hE.step hb31
      obtain ⟨k1, k2, k3, k4⟩ := Two0.cells hE.here.1.1.1.1.1.1.1
      go_wp2_with fail
      clear k1 k2 k3 k4
      refine (text_bad s1 A1 n1 c1 f1 _ (two_rd hE (R1.out)) (fun i _ => q1 i) (by omega) o1).mono ?_
      rintro e w32 ⟨rfl, hb32⟩
      replace hE := hE.step hb32
      go_wp2_with fail
      go_ret
      exact ⟨rfl, hE.bel⟩
    · go_wp2_with fail
      go_ret
      exact ⟨rfl, hE.bel⟩
  · go_wp2_with fail
    go_ret
    exact ⟨rfl, hE.bel⟩
theorem wrong_walk (s1 s2 : Bool) (A1 A2 : Option Addr) (n1 n2 c1 c2 : Nat) (f1 f2 : Nat → Nat) (w : World) (htab : Tab w)
    (r1 : Rd w.heap.size .u16 w A1 n1 f1) (r2 : Rd w.heap.size .u16 w A2 n2 f2) (q1 : ∀ j, j < n1 → f1 j < 65536) (q2 : ∀ j, j < n2 → f2 j < 65536) :
    Calls Tryd.prog 11 #[.agg #[.bool s1, .slice A1 n1 c1], .agg #[.bool s2, .slice A2 n2 c2]] w fun e w' => e = .returned (.bool true) ∧ Below w.heap.size w w' := by
  obtain ⟨g1, p1, r1⟩ := rd_all r1 q1
  obtain ⟨g2, p2, r2⟩ := rd_all r2 q2
  exact wrong_walk0 s1 s2 A1 A2 n1 n2 c1 c2 g1 g2 w htab r1 r2 p1 p2
end Go.Proofs.YtafglggjncnkkaaDoor
