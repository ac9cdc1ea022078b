/-
  whole.Text at every number.
-/
import Derived.Test.YtafglggjncnkkaaDoorText
namespace Go.Proofs.YtafglggjncnkkaaDoor
open Go.RowKit

theorem numeral_itoa (z : Int) : numeral (decide (z < 0)) z.natAbs = Lib.itoa z := by
  unfold numeral Lib.itoa
  by_cases hn : z < 0
  · simp [hn]
  · simp [hn, show z.toNat = z.natAbs by omega]
set_option maxRecDepth 100000 in
theorem text_zero (A : Option Addr) (c : Nat) (w : World) :
    Calls Tryd.prog 21 #[.agg #[.bool false, .slice A 0 c]] w fun e w' => e = .returned (.tuple #[.string ⟨(Lib.itoa 0).toArray⟩, .int .i64 0]) ∧ Below w.heap.size w w' := by
  have hv := fun w' => valid_any false A 0 c (fun _ => 0) w' Rd.nil (fun i hi => absurd hi (by omega)) (by omega)
  rw [show okW false 0 (fun _ => 0) = true from rfl] at hv
  have HV := Lib.hid hv
  clear hv
  have hp0 := WholeAt.new w false (.slice A 0 c)
  have hb0 : Below w.heap.size w (w.alloc (.cells #[.bool false, .slice A 0 c] 24)) := (Below.refl _ w).alloc (Nat.le_refl _) _
  refine (callsIn_wide (n := 5)).1 ?_
  have hro : Fence.wide.round = none := rfl
  refine callsIn_of_wp_marks Tryd.func21 rfl trivial ?_ hro
  refine wpIn_wide.2 ?_
  simp only [Tryd.ntmps21, List.size_toArray, List.length_cons, List.length_nil, Nat.reduceAdd, Nat.reduceSub, Array.replicate_succ, Array.replicate_zero, List.push_toArray, List.append_toArray, List.nil_append, List.cons_append]
  go_wp2_with fail
  refine (HV.out _).mono ?_
  rintro e w1 ⟨rfl, hb1⟩
  have hp1 := hp0.below hb1 hp0.lt
  obtain ⟨p0, p1⟩ := hp1.cells
  go_wp2_with fail
  have e0 : (⟨#[48]⟩ : ByteArray) = ⟨(Lib.itoa 0).toArray⟩ := by
    rw [show Lib.itoa 0 = [48] by unfold Lib.itoa; rw [if_neg (by decide), show (0 : Int).toNat = 0 from rfl, Lib.decDigits_one (by decide)]; rfl]
  exact ⟨_, results_tmp2 rfl _ _ _, by rw [← e0]; rfl, hb0.trans (hb1.mono hb0.size)⟩
set_option maxRecDepth 100000 in
theorem text_bad (s : Bool) (A : Option Addr) (n c : Nat) (f : Nat → Nat) (w : World) (h : Rd w.heap.size .u16 w A n f) (hf : ∀ i, i < n → f i < 65536) (hn : n ≤ 1000000) (hok : okW s n f = false) :
    Calls Tryd.prog 21 #[.agg #[.bool s, .slice A n c]] w fun e w' => e = .returned (.tuple #[.string ⟨#[]⟩, .int .i64 2]) ∧ Below w.heap.size w w' := by
  have hb0 : Below w.heap.size w (w.alloc (.cells #[.bool s, .slice A n c] 24)) := (Below.refl _ w).alloc (Nat.le_refl _) _
  have hv := valid_any s A n c f _ ((h.below hb0).more hb0.size) hf hn
  rw [hok] at hv
  refine (callsIn_wide (n := 5)).1 ?_
  have hro : Fence.wide.round = none := rfl
  refine callsIn_of_wp_marks Tryd.func21 rfl trivial ?_ hro
  refine wpIn_wide.2 ?_
  simp only [Tryd.ntmps21, List.size_toArray, List.length_cons, List.length_nil, Nat.reduceAdd, Nat.reduceSub, Array.replicate_succ, Array.replicate_zero, List.push_toArray, List.append_toArray, List.nil_append, List.cons_append]
  go_wp2_with fail
  refine hv.mono ?_
  rintro e w1 ⟨rfl, hb1⟩
  go_wp2_with fail
  exact ⟨_, results_tmp2 rfl _ _ _, rfl, hb0.trans (hb1.mono hb0.size)⟩
theorem text_any (z : Int) (A : Option Addr) (c : Nat) (w : World) (htab : Tab w) (hA : Num16 w A z.natAbs) (la : ln b16 z.natAbs ≤ 1024) :
    Calls Tryd.prog 21 #[.agg #[.bool (decide (z < 0)), .slice A (ln b16 z.natAbs) c]] w fun e w' => e = .returned (.tuple #[.string ⟨(Lib.itoa z).toArray⟩, .int .i64 0]) ∧ Below w.heap.size w w' := by
  by_cases h0 : z = 0
  · subst h0
    have h := text_zero A c w
    rw [show (0 : Int).natAbs = 0 from rfl, ln_zero]
    exact h
  · have h := text_walk (decide (z < 0)) A c z.natAbs w htab hA la (by omega) (okW_num la)
    rw [numeral_itoa] at h
    exact h
end Go.Proofs.YtafglggjncnkkaaDoor
