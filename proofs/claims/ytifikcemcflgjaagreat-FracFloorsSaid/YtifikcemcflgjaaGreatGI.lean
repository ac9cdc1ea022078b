/-
  The walk of frac.Int.
-/
import Derived.Test.YtifikcemcflgjaaGreatK8
import Derived.Test.YtifikcemcflgjaaGreatInt
namespace Go.Proofs.YtifikcemcflgjaaGreat
open Go.RowKit

theorem wint_v {z : Int} {s : Bool} {A : Option Addr} {n c : Nat} {w : World} (ha : WV w z s A n) (la : n ≤ 1024) :
    Calls Tryz.prog 80 #[.agg #[.bool s, .slice A n c]] w fun e w' => ∃ r k, e = .returned (.tuple #[.int .i64 r, .int .i64 k]) ∧ IntR z r k ∧ Below w.heap.size w w' := by
  obtain ⟨rfl, rfl, hA⟩ := ha
  by_cases h4 : ln b16 z.natAbs ≤ 4
  · have h := int_walk (decide (z < 0)) A (ln b16 z.natAbs) c (dgt b16 z.natAbs) w hA (fun i => dgt16_lt _ i) (okW_num la) h4
    rw [vs_dgt_ln b16_two, toI_int] at h
    exact h
  · refine (int_long (decide (z < 0)) A (ln b16 z.natAbs) c (dgt b16 z.natAbs) w hA (fun i _ => dgt16_lt _ i) (by omega) (okW_num la) (by omega)).mono ?_
    rintro e w' ⟨rfl, hb⟩
    have h5 : ¬ z.natAbs < b16 ^ 4 := fun h => h4 ((ln_le b16_two).2 h)
    have h6 : b16 ^ 4 = 18446744073709551616 := rfl
    refine ⟨0, 3, rfl, .inr ⟨?_, rfl, rfl⟩, hb⟩
    unfold fits
    by_cases h7 : -9223372036854775808 ≤ z
    · rw [decide_eq_false (show ¬ z ≤ 9223372036854775807 by omega), Bool.and_false]
    · rw [decide_eq_false h7, Bool.false_and]
/-- What frac.Int returns. -/
def FIntR (a : Rat) (r k : Int) : Prop := ((a.den : Int) = 1 ∧ IntR a.num r k) ∨ (¬ (a.den : Int) = 1 ∧ r = 0 ∧ k = 22)
set_option linter.unusedSimpArgs false in
set_option maxRecDepth 100000 in
set_option maxHeartbeats 2000000 in
theorem fint_v {a : Rat} {sa ta : Bool} {Aa Ba : Option Addr} {na ca ma da : Nat} {w : World} (ha : FV w a sa Aa na ta Ba ma) (la : fl a ≤ 256) :
    Calls Tryz.prog 38 #[.agg #[.bool sa, .slice Aa na ca, .bool ta, .slice Ba ma da]] w (fun e w' => ∃ r k, e = .returned (.tuple #[.int .i64 r, .int .i64 k]) ∧ FIntR a r k ∧ Below w.heap.size w w') := by
  have hE := ((Env.start w).fv ha).blk 26 #[.bool sa, .slice Aa na ca, .bool ta, .slice Ba ma da] (g := w.heap.size) rfl
  obtain ⟨W0, hW0⟩ : ∃ W0, W0 = (w.alloc (.cells #[.bool sa, .slice Aa na ca, .bool ta, .slice Ba ma da] 26)) := ⟨_, rfl⟩
  rw [← hW0] at hE
  have HW0 := Lib.hid hW0
  clear hW0
  go_enter Tryz.func38, Tryz.ntmps38
  go_upto_region 1 with (fail)
  rw [← HW0.out]
  obtain ⟨ha1, ha2⟩ := ha.ln la
  obtain ⟨qa1, qa2⟩ := fv_lens ha la
  obtain ⟨k1, k2, k3, k4⟩ := (hE.here.2).c4
  go_wp2_with fail
  have hc := fvalid_v0 (c := ca) (d := da) hE.here.1.2 la
  refine hc.mono ?_
  clear hc
  clear k1 k2 k3 k4
  rintro e w5 ⟨rfl, hb⟩
  replace hE := hE.step hb
  clear hb
  by_cases h1 : (a.den : Int) = 1
  · have hd : decide ((a.den : Int) = 1) = true := decide_eq_true h1
    obtain ⟨k6, k7, k8, k9⟩ := (hE.here.2).c4
    go_wp2_with fail
    have hc := fintegral_v (s := sa) (A := Aa) (n := na) (c := ca) (d := da) (hE.here.1.2).2 (by omega)
    rw [hd] at hc
    refine hc.mono ?_
    clear hc
    clear k6 k7 k8 k9
    rintro e w10 ⟨rfl, hb⟩
    replace hE := hE.step hb
    clear hb
    obtain ⟨k11, k12, k13, k14⟩ := (hE.here.2).c4
    go_wp2_with fail
    refine (wint_v (c := ca) (hE.here.1.2).1 (by omega)).mono ?_
    clear k11 k12 k13 k14
    rintro e w9 ⟨r, k, rfl, hr, hb⟩
    replace hE := hE.step hb
    clear hb
    go_wp2_with fail
    refine bodyPost_ret (v := .tuple #[.int .i64 r, .int .i64 k]) (by simp [results, Tryz.results38, go_sem]) rfl ?_
    exact ⟨r, k, rfl, .inl ⟨h1, hr⟩, hE.bel⟩
  · have hd : decide ((a.den : Int) = 1) = false := decide_eq_false h1
    obtain ⟨k15, k16, k17, k18⟩ := (hE.here.2).c4
    go_wp2_with fail
    have hc := fintegral_v (s := sa) (A := Aa) (n := na) (c := ca) (d := da) (hE.here.1.2).2 (by omega)
    rw [hd] at hc
    refine hc.mono ?_
    clear hc
    clear k15 k16 k17 k18
    rintro e w19 ⟨rfl, hb⟩
    replace hE := hE.step hb
    clear hb
    go_wp2_with fail
    refine bodyPost_ret (v := .tuple #[.int .i64 0, .int .i64 22]) (by simp [results, Tryz.results38, go_sem]) rfl ?_
    exact ⟨0, 22, rfl, .inr ⟨h1, rfl, rfl⟩, hE.bel⟩
end Go.Proofs.YtifikcemcflgjaaGreat
