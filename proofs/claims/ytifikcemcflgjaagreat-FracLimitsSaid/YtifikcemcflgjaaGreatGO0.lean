/-
  The walks of the reference's Zero and Valid and of the law's same.
-/
import Derived.Test.YtifikcemcflgjaaGreatGR
import Derived.Test.YtifikcemcflgjaaGreatGS0
namespace Go.Proofs.YtifikcemcflgjaaGreat
open Go.RowKit

set_option linter.unusedSimpArgs false in
set_option maxRecDepth 100000 in
set_option maxHeartbeats 2000000 in
theorem rfzero_v {a : Rat} {sa ta : Bool} {Aa Ba : Option Addr} {na ca ma da : Nat} {w : World} (ha : FV w a sa Aa na ta Ba ma) :
    Calls Tryz.prog 66 #[.agg #[.bool sa, .slice Aa na ca, .bool ta, .slice Ba ma da]] w (fun e w' => e = .returned (.bool (decide (a.num = 0))) ∧ Below w.heap.size w w') := by
  have hE := ((Env.start w).fv ha).blk 26 #[.bool sa, .slice Aa na ca, .bool ta, .slice Ba ma da] (g := w.heap.size) rfl
  obtain ⟨W0, hW0⟩ : ∃ W0, W0 = (w.alloc (.cells #[.bool sa, .slice Aa na ca, .bool ta, .slice Ba ma da] 26)) := ⟨_, rfl⟩
  rw [← hW0] at hE
  have HW0 := Lib.hid hW0
  clear hW0
  go_enter Tryz.func66, Tryz.ntmps66
  go_upto_region 1 with (fail)
  rw [← HW0.out]
  by_cases h0 : a.num = 0
  · obtain rfl : na = 0 := by rw [ha.1.len, h0]; exact ln_zero
    obtain ⟨k1, k2, k3, k4⟩ := (hE.here.2).c4
    go_wp2_with fail
    go_ret
    exact ⟨by rw [decide_eq_true h0]; rfl, hE.bel⟩
  · have hz : 0 < na := by rw [ha.1.len]; exact (ln_pos b16_two).2 (by omega)
    have t1 : ((na : Int) == 0) = false := beq_eq_false_iff_ne.2 (by omega)
    have t2 : (na == 0) = false := beq_eq_false_iff_ne.2 (by omega)
    clear hz
    obtain ⟨k5, k6, k7, k8⟩ := (hE.here.2).c4
    have H0 := Lib.hid h0
    clear h0
    go_wp2_with fail
    go_ret
    exact ⟨by rw [decide_eq_false H0.out]; rfl, hE.bel⟩
theorem rfvalid_v {q : Rat} {s t : Bool} {A B : Option Addr} {n m c d : Nat} {w : World} (h : FV w q s A n t B m) (l : fl q ≤ 256) :
    Calls Tryz.prog 65 #[.agg #[.bool s, .slice A n c, .bool t, .slice B m d]] w fun e w' => e = .returned (.bool true) ∧ Below w.heap.size w w' := by
  have e1 := h.ln l
  have hc := rfvalid_any (sa := s) (ta := t) (Aa := A) (Ba := B) (na := n) (ca := c) (ma := m) (da := d) (w := w) h.rd (by omega) (by omega)
  rwa [okF_of h l] at hc
set_option linter.unusedSimpArgs false in
set_option maxRecDepth 100000 in
set_option maxHeartbeats 2000000 in
theorem lsame_err {k : Int} {w : World}  :
    Calls Tryz.prog 16 #[.agg #[.bool false, .slice none 0 0, .bool false, .slice none 0 0], .int .i64 k, .agg #[.bool false, .slice none 0 0, .bool false, .slice none 0 0], .int .i64 k] w (fun e w' => e = .returned (.bool true) ∧ Below w.heap.size w w') := by
  have hE := ((Env.start w).blk 26 #[.bool false, .slice none 0 0, .bool false, .slice none 0 0] (g := w.heap.size) rfl).blk 26 #[.bool false, .slice none 0 0, .bool false, .slice none 0 0] (g := w.heap.size + 1) (by simp)
  obtain ⟨W0, hW0⟩ : ∃ W0, W0 = ((w.alloc (.cells #[.bool false, .slice none 0 0, .bool false, .slice none 0 0] 26)).alloc (.cells #[.bool false, .slice none 0 0, .bool false, .slice none 0 0] 26)) := ⟨_, rfl⟩
  rw [← hW0] at hE
  have HW0 := Lib.hid hW0
  clear hW0
  go_enter Tryz.func16, Tryz.ntmps16
  go_upto_region 1 with (fail)
  rw [← HW0.out]
  obtain ⟨k1, k2, k3, k4⟩ := (hE.here.1.2).c4
  obtain ⟨k5, k6, k7, k8⟩ := (hE.here.2).c4
  go_wp2_with fail
  have hc := frsame_00 (w := W0)
  refine hc.mono ?_
  clear hc
  clear k1 k2 k3 k4 k5 k6 k7 k8
  rintro e w9 ⟨rfl, hb⟩
  replace hE := hE.step hb
  clear hb
  go_wp2_with fail
  go_ret
  exact ⟨rfl, hE.bel⟩
set_option linter.unusedSimpArgs false in
set_option maxRecDepth 100000 in
set_option maxHeartbeats 2000000 in
theorem lsame_ok {a : Rat} {sa ta sb tb : Bool} {Aa Ba Ab Bb : Option Addr} {na ca ma da nb cb mb db : Nat} {w : World} (ha : FV w a sa Aa na ta Ba ma) (hb : FV w a sb Ab nb tb Bb mb) (la : fl a ≤ 256) :
    Calls Tryz.prog 16 #[.agg #[.bool sa, .slice Aa na ca, .bool ta, .slice Ba ma da], .int .i64 0, .agg #[.bool sb, .slice Ab nb cb, .bool tb, .slice Bb mb db], .int .i64 0] w (fun e w' => e = .returned (.bool true) ∧ Below w.heap.size w w') := by
  have hE := ((((Env.start w).fv ha).fv hb).blk 26 #[.bool sa, .slice Aa na ca, .bool ta, .slice Ba ma da] (g := w.heap.size) rfl).blk 26 #[.bool sb, .slice Ab nb cb, .bool tb, .slice Bb mb db] (g := w.heap.size + 1) (by simp)
  obtain ⟨W0, hW0⟩ : ∃ W0, W0 = ((w.alloc (.cells #[.bool sa, .slice Aa na ca, .bool ta, .slice Ba ma da] 26)).alloc (.cells #[.bool sb, .slice Ab nb cb, .bool tb, .slice Bb mb db] 26)) := ⟨_, rfl⟩
  rw [← hW0] at hE
  have HW0 := Lib.hid hW0
  clear hW0
  go_enter Tryz.func16, Tryz.ntmps16
  go_upto_region 1 with (fail)
  rw [← HW0.out]
  obtain ⟨k1, k2, k3, k4⟩ := (hE.here.1.2).c4
  obtain ⟨k5, k6, k7, k8⟩ := (hE.here.2).c4
  go_wp2_with fail
  have hl1 := ha.ln la
  have hl2 := hb.ln la
  have hc := frsame_v (ca := ca) (da := da) (cb := cb) (db := db) (hE.here.1.1.1.2) (hE.here.1.1.2) (by omega) (by omega) (by omega) (by omega)
  rw [decide_eq_true rfl] at hc
  clear hl1 hl2
  have hc := hc
  refine hc.mono ?_
  clear hc
  clear k1 k2 k3 k4 k5 k6 k7 k8
  rintro e w9 ⟨rfl, hb⟩
  replace hE := hE.step hb
  clear hb
  go_wp2_with fail
  go_ret
  exact ⟨rfl, hE.bel⟩
end Go.Proofs.YtifikcemcflgjaaGreat
