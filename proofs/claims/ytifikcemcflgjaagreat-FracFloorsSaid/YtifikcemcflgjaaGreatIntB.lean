/-
  whole.Valid at any length; whole.Int at what is no number and at numbers of more than four limbs.
-/
import Derived.Test.YtifikcemcflgjaaGreatK4
import Derived.TacticsInMore
namespace Go.Proofs.YtifikcemcflgjaaGreat
open Go.RowKit
attribute [local go_sem] Oper.semAt_some

set_option maxRecDepth 100000 in
theorem valid_all (s : Bool) (A : Option Addr) (n c : Nat) (f : Nat → Nat) (w : World) (h : Rd w.heap.size .u16 w A n f) (hf : ∀ i, i < n → f i < 65536) :
    Calls Tryz.prog 40 #[.agg #[.bool s, .slice A n c]] w fun e w' => e = .returned (.bool (okW s n f)) ∧ Below w.heap.size w w' := by
  go_enter Tryz.func40, Tryz.ntmps40
  by_cases h0 : n = 0
  · subst h0
    go_wp2_with fail
    go_ret
    exact ⟨by simp [okW], (Below.refl _ _).alloc (Nat.le_refl _) _⟩
  · obtain ⟨b, o, rfl, hb, hc⟩ := h (by omega)
    have c1 := hc (n - 1) (by omega)
    have f1 := hf (n - 1) (by omega)
    have hi1 : 0 ≤ (n : Int) - 1 := by omega
    have hi2 : (n : Int) - 1 < (n : Int) := by omega
    have hi3 : ((n : Int) - 1).toNat = n - 1 := by omega
    have t0 : ((n : Int) == 0) = false := by simp; omega
    have ho : okW s n f = (decide (n ≤ 1024) && (f (n - 1) != 0)) := by unfold okW; rw [if_neg h0]
    have HO := Lib.hid ho
    clear hc hf ho
    by_cases h1 : n ≤ 1024
    · have t1 : (n : Int) ≤ 1024 := by omega
      go_wp2_with fail
      go_ret
      refine ⟨?_, (Below.refl _ _).alloc (Nat.le_refl _) _⟩
      rw [HO.out]
      show Ending.returned (.bool (((f (n - 1) : Nat) : Int) != 0)) = _
      have e : (((f (n - 1) : Nat) : Int) != 0) = (f (n - 1) != 0) := by
        by_cases e : f (n - 1) = 0
        · rw [e]; rfl
        · rw [bne_iff_ne.2 e, bne_iff_ne.2 (by omega)]
      rw [e, decide_eq_true h1, Bool.true_and]
    · have t1 : decide ((n : Int) ≤ 1024) = false := decide_eq_false (by omega)
      go_wp2_with fail
      go_ret
      refine ⟨?_, (Below.refl _ _).alloc (Nat.le_refl _) _⟩
      rw [HO.out]
      simp [h1]

set_option maxRecDepth 100000 in
set_option maxHeartbeats 2000000 in
theorem int_bad (s : Bool) (A : Option Addr) (n c : Nat) (f : Nat → Nat) (w : World) (h : Rd w.heap.size .u16 w A n f) (hf : ∀ i, i < n → f i < 65536) (hn : n ≤ 1000000) (hok : okW s n f = false) :
    Calls Tryz.prog 80 #[.agg #[.bool s, .slice A n c]] w fun e w' => e = .returned (.tuple #[.int .i64 0, .int .i64 2]) ∧ Below w.heap.size w w' := by
  have hb0 : Below w.heap.size w (w.alloc (.cells #[.bool s, .slice A n c] 24)) := (Below.refl _ w).alloc (Nat.le_refl _) _
  have hv := valid_any s A n c f _ ((h.below hb0).more hb0.size) hf hn
  rw [hok] at hv
  refine (callsIn_wide (n := 5)).1 ?_
  have hro : Fence.wide.round = none := rfl
  refine callsIn_of_wp_marks Tryz.func80 rfl trivial ?_ hro
  refine wpIn_wide.2 ?_
  simp only [Tryz.ntmps80, List.size_toArray, List.length_cons, List.length_nil, Nat.reduceAdd, Nat.reduceSub, Array.replicate_succ, Array.replicate_zero, List.push_toArray, List.append_toArray, List.nil_append, List.cons_append]
  go_wp2_with fail
  refine hv.mono ?_
  rintro e w1 ⟨rfl, hb1⟩
  go_wp2_with fail
  exact ⟨_, results_tmp2 rfl _ _ _, rfl, hb0.trans (hb1.mono hb0.size)⟩
set_option maxRecDepth 100000 in
set_option maxHeartbeats 2000000 in
theorem int_long (s : Bool) (A : Option Addr) (n c : Nat) (f : Nat → Nat) (w : World) (h : Rd w.heap.size .u16 w A n f) (hf : ∀ i, i < n → f i < 65536) (hn : n ≤ 1000000) (hok : okW s n f = true) (h4 : 4 < n) :
    Calls Tryz.prog 80 #[.agg #[.bool s, .slice A n c]] w fun e w' => e = .returned (.tuple #[.int .i64 0, .int .i64 3]) ∧ Below w.heap.size w w' := by
  have hb0 : Below w.heap.size w (w.alloc (.cells #[.bool s, .slice A n c] 24)) := (Below.refl _ w).alloc (Nat.le_refl _) _
  have hp0 := WholeAt.new w s (.slice A n c)
  have hv := valid_any s A n c f _ ((h.below hb0).more hb0.size) hf hn
  rw [hok] at hv
  have t4 : (4 : Int) < (n : Int) := by omega
  refine (callsIn_wide (n := 5)).1 ?_
  have hro : Fence.wide.round = none := rfl
  refine callsIn_of_wp_marks Tryz.func80 rfl trivial ?_ hro
  refine wpIn_wide.2 ?_
  simp only [Tryz.ntmps80, List.size_toArray, List.length_cons, List.length_nil, Nat.reduceAdd, Nat.reduceSub, Array.replicate_succ, Array.replicate_zero, List.push_toArray, List.append_toArray, List.nil_append, List.cons_append]
  go_wp2_with fail
  refine hv.mono ?_
  rintro e w1 ⟨rfl, hb1⟩
  obtain ⟨p0, p1⟩ := (hp0.below hb1 hp0.lt).cells
  go_wp2_with fail
  exact ⟨_, results_tmp2 rfl _ _ _, rfl, hb0.trans (hb1.mono hb0.size)⟩
end Go.Proofs.YtifikcemcflgjaaGreat
