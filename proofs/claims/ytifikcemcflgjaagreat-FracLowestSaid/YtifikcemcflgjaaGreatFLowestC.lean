/-
  For every two fractions and every three whole numbers, right or not, FracLowest returns true, and its arguments read as before.
-/
import Derived.Test.YtifikcemcflgjaaGreatWrapW
import Derived.Test.YtifikcemcflgjaaGreatRows
import Derived.Test.YtifikcemcflgjaaGreatFLowest
namespace Go.Proofs.YtifikcemcflgjaaGreat.fracLowest
open Go.ChangeShapes Go.WideShapes Go.ChangeAt Go.RowKit Go.Deep

theorem own : ownKnob Tryz.prog.godebug = none := by kernel_rfl
theorem laidOut : laidOutB Tryz.prog = true := by kernel_rfl
theorem recF : Tryz.prog.readableRec 26 = true := by kernel_rfl
theorem ltF : 26 < Tryz.prog.types.size := of_decide_eq_true (by kernel_rfl)
theorem recW : Tryz.prog.readableRec 24 = true := by kernel_rfl
theorem ltW : 24 < Tryz.prog.types.size := of_decide_eq_true (by kernel_rfl)
set_option maxRecDepth 100000 in
theorem lifted (os : Os) (started : os.Started) (H : Type) (enc : TypeId × Value → H) :
    ReturnsInHanded {} Tryz.checked os 10 .any (Rows.fracLowestSpec.pre6 enc Tryz.prog Tryz.f10 Rows.fracLowestRow.domain false) (Rows.fracLowestSpec.post enc Tryz.prog Tryz.f10 false true false false) := by
  refine returnsInHanded_of_change_shaped (C := Tryz.checked) own started (by kernel_rfl) Tryz.func10
    (ChangeSpec.witness6 (enc := enc) (C := Tryz.checked) false ⟨#[], #[.agg #[.bool false, .slice none 0 0, .bool false, .slice none 0 0], .agg #[.bool false, .slice none 0 0, .bool false, .slice none 0 0], .agg #[.bool false, .slice none 0 0], .agg #[.bool false, .slice none 0 0], .agg #[.bool false, .slice none 0 0]], []⟩ 8 (by kernel_rfl) (by kernel_rfl) (by kernel_rfl) (by kernel_rfl)) ?_
  intro W base args ds gs before hval0 hW hcnd _ hsh _
  clear hcnd
  obtain ⟨hlt9, k9, hm9⟩ := max_open hsh
  clear hsh
  have hval : ∀ (j : Nat) t v, Tryz.f10.params[j]? = some t → args[j]? = some v → Value.okWide Tryz.prog W .any base t v := hval0
  have hW' := hW
  obtain ⟨p, q, hA0, hV, rfl, hfz, hnd⟩ := hW
  have hA : DataW.TrodAll enc Tryz.prog W 0 (fun _ => true) true Tryz.f10.params.toList args.toList ds p := hA0
  rw [Tryz.params10] at hA hval
  obtain ⟨v0, vs0, d0, ds0, p0, q0, hargs, rfl, rfl, h0, r0⟩ := trodAll_cons hA
  obtain ⟨v1, vs1, d1, ds1, p1, q1, rfl, rfl, rfl, h1, r1⟩ := trodAll_cons r0
  obtain ⟨v2, vs2, d2, ds2, p2, q2, rfl, rfl, rfl, h2, r2⟩ := trodAll_cons r1
  obtain ⟨v3, vs3, d3, ds3, p3, q3, rfl, rfl, rfl, h3, r3⟩ := trodAll_cons r2
  obtain ⟨v4, vs4, d4, ds4, p4, q4, rfl, rfl, rfl, h4, r4⟩ := trodAll_cons r3
  obtain ⟨rfl, rfl, rfl⟩ := trodAll_nil r4
  obtain rfl : args = #[v0, v1, v2, v3, v4] := by cases args; simp_all
  obtain ⟨rfl, rfl⟩ := trodVars_none hV
  clear hA0 hval0 hA r0 r1 r2 r3 r4 hargs
  simp only [List.append_nil] at hW'
  have hlt := hW'.lt
  obtain ⟨s0, A0, n0, c0, f0, t0, B0, m0, e0, g0, rfl, F0⟩ := frac_open (hval 0 26 v0 rfl rfl) h0
  obtain ⟨s1, A1, n1, c1, f1, t1, B1, m1, e1, g1, rfl, F1⟩ := frac_open (hval 1 26 v1 rfl rfl) h1
  obtain ⟨s2, A2, n2, c2, f2, rfl, F2, G2⟩ := whole_open (hval 2 24 v2 rfl rfl) h2
  obtain ⟨s3, A3, n3, c3, f3, rfl, F3, G3⟩ := whole_open (hval 3 24 v3 rfl rfl) h3
  obtain ⟨s4, A4, n4, c4, f4, rfl, F4, G4⟩ := whole_open (hval 4 24 v4 rfl rfl) h4
  refine (flowest_walk hlt9 hm9 F0 F1 F2 G2 F3 G3 F4 G4).mono fun e W' ⟨he, hb⟩ => ?_
  subst he
  refine ⟨_, rfl, _, _, _, [], p0 ++ (p1 ++ (p2 ++ (p3 ++ (p4 ++ [])))), [], hW', ?_, ?_, rfl, hb.frame _, fun h => by cases h⟩
  · exact trodAll_cons_mk (shut_bool Tryz.underlying4 _) trodAll_mk0
  · exact trodAll_cons_mk (Below.trod laidOut recF ltF h0 hb fun x hx => hlt x (by simp [hx])) (trodAll_cons_mk (Below.trod laidOut recF ltF h1 hb fun x hx => hlt x (by simp [hx])) (trodAll_cons_mk (Below.trod laidOut recW ltW h2 hb fun x hx => hlt x (by simp [hx])) (trodAll_cons_mk (Below.trod laidOut recW ltW h3 hb fun x hx => hlt x (by simp [hx])) (trodAll_cons_mk (Below.trod laidOut recW ltW h4 hb fun x hx => hlt x (by simp [hx])) (trodAll_mk0)))))

theorem holds : Rows.FracLowestSaid :=
  OpenClaim.holds_of_wide 10 Tryz.f10 rfl rfl rfl rfl rfl rfl rfl ⟨rfl, rfl, rfl, rfl, rfl⟩ rfl rfl rfl rfl rfl (by kernel_rfl) Tryz.func10 (by kernel_rfl)
    (of_decide_eq_true (by kernel_rfl)) (by unfold Func.isWrapper; first | (rw [if_pos (by decide +kernel)]; kernel_rfl) | (rw [if_neg (by decide +kernel)]; exact ⟨rfl, rfl⟩))
    (fun os started H enc _ => lifted os started H enc)
end Go.Proofs.YtifikcemcflgjaaGreat.fracLowest
