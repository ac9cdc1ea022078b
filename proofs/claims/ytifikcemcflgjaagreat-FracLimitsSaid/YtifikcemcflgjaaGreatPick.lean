/-
  The walk of annuitantkit's Pick.
-/
import Derived.Test.YtifikcemcflgjaaGreatK1
import Derived.WalkKit
namespace Go.Proofs.YtifikcemcflgjaaGreat
open Go.RowKit

theorem pick_any (x n : Int) (w : World) (h1 : 1 ≤ n) (h2 : n ≤ 1000000) : Calls Tryz.prog 17 #[.int .i64 x, .int .i64 n] w fun e w' => (∃ r : Int, e = .returned (.int .i64 r) ∧ 0 ≤ r ∧ r < n) ∧ w = w' := by
  have t1 : decide (n < 1) = false := decide_eq_false (by omega)
  have hm : (x.tmod n).natAbs < n.natAbs := by rw [Int.natAbs_tmod]; exact Nat.mod_lt _ (by omega)
  have hn0 : (n == 0) = false := beq_eq_false_iff_ne.2 (by omega)
  have hn1 : ¬ n = 0 := by omega
  obtain ⟨r, hr⟩ : ∃ r, x.tmod n = r := ⟨_, rfl⟩
  rw [hr] at hm
  have o1 : IntKind.i64.wrap r = r := by rw [IntKind.wrap_i64]; omega
  go_enter Tryz.func17, Tryz.ntmps17
  by_cases h : r < 0
  · have t2 : decide (r < 0) = true := decide_eq_true h
    have o2 : IntKind.i64.wrap (r + n) = r + n := by rw [IntKind.wrap_i64]; omega
    go_wp2_with fail
    go_ret
    exact ⟨⟨r + n, rfl, by omega, by omega⟩, rfl⟩
  · have t2 : decide (r < 0) = false := decide_eq_false h
    go_wp2_with fail
    go_ret
    exact ⟨⟨r, rfl, by omega, by omega⟩, rfl⟩
end Go.Proofs.YtifikcemcflgjaaGreat
