/-
  The walk of frac.Text where the argument is not valid.
-/
import Derived.Test.YtifikcemcflgjaaGreatDoorK11
namespace Go.Proofs.YtifikcemcflgjaaGreatDoor
open Go.RowKit

set_option linter.unusedSimpArgs false in
set_option maxRecDepth 100000 in
set_option maxHeartbeats 2000000 in
theorem ftext_bad {sa ta : Bool} {Aa Ba : Option Addr} {na ca ma da : Nat} {fa ga : Nat → Nat} {w : World} (ra : FRd w Aa na fa Ba ma ga) (la : Fc.len ⟨sa, Aa, na, ca, fa, ta, Ba, ma, da, ga⟩) (hbad : Fc.ok ⟨sa, Aa, na, ca, fa, ta, Ba, ma, da, ga⟩ = false) :
    Calls Tryz.prog 20 #[.agg #[.bool sa, .slice Aa na ca, .bool ta, .slice Ba ma da]] w (fun e w' => e = .returned (.tuple #[.string ⟨#[]⟩, .int .i64 2]) ∧ Below w.heap.size w w') := by
  have hE := ((Env.start w).frd ra).blk 26 #[.bool sa, .slice Aa na ca, .bool ta, .slice Ba ma da] (g := w.heap.size) rfl
  obtain ⟨W0, hW0⟩ : ∃ W0, W0 = (w.alloc (.cells #[.bool sa, .slice Aa na ca, .bool ta, .slice Ba ma da] 26)) := ⟨_, rfl⟩
  rw [← hW0] at hE
  have HW0 := Lib.hid hW0
  clear hW0
  go_enter Tryz.func20, Tryz.ntmps20
  go_upto_region 1 with (fail)
  rw [← HW0.out]
  obtain ⟨k1, k2, k3, k4⟩ := (hE.here.2).c4
  go_wp2_with fail
  have hc := fvalid_bad ⟨sa, Aa, na, ca, fa, ta, Ba, ma, da, ga⟩ _ hE.here.1.2 la hbad
  refine hc.mono ?_
  clear hc
  clear k1 k2 k3 k4
  rintro e w5 ⟨rfl, hb⟩
  replace hE := hE.step hb
  clear hb
  go_wp2_with fail
  refine bodyPost_ret (v := .tuple #[.string ⟨#[]⟩, .int .i64 2]) (by simp [results, Tryz.results20, go_sem]) rfl ?_
  exact ⟨rfl, hE.bel⟩
end Go.Proofs.YtifikcemcflgjaaGreatDoor
