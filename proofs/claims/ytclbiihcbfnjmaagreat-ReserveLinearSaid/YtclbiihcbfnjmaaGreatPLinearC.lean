/-
  Parts.
-/
import Derived.Test.YtclbiihcbfnjmaaGreatK20
import Derived.Test.YtclbiihcbfnjmaaGreatRows
import Derived.Test.YtclbiihcbfnjmaaGreatPLinear
namespace Go.Proofs.YtclbiihcbfnjmaaGreat.reserveLinear
open Go.ChangeShapes Go.WideShapes Go.ChangeAt Go.RowKit Go.Deep

theorem own : ownKnob Tryz.prog.godebug = none := by kernel_rfl
theorem laidOut : laidOutB Tryz.prog = true := by kernel_rfl
theorem recC : Tryz.prog.readableRec 36 = true := by kernel_rfl
theorem ltC : 36 < Tryz.prog.types.size := of_decide_eq_true (by kernel_rfl)
theorem recI : Tryz.prog.readableRec 3 = true := by kernel_rfl
theorem ltI : 3 < Tryz.prog.types.size := of_decide_eq_true (by kernel_rfl)
theorem recS : Tryz.prog.readableRec 31 = true := by kernel_rfl
theorem ltS : 31 < Tryz.prog.types.size := of_decide_eq_true (by kernel_rfl)
set_option maxRecDepth 100000 in
theorem lifted (os : Os) (started : os.Started) (H : Type) (enc : TypeId × Value → H) :
  ReturnsInHanded {} Tryz.checked os 6 .any (Rows.reserveLinearSpec.pre6 enc Tryz.prog Tryz.f6 Rows.reserveLinearRow.domain false) (Rows.reserveLinearSpec.post enc Tryz.prog Tryz.f6 false true false false) := by
 refine returnsInHanded_of_change (C := Tryz.checked) own started (by kernel_rfl) Tryz.func6
  (ChangeSpec.witness6 (enc := enc) (C := Tryz.checked) false ⟨#[], #[.agg #[.int .i64 0, .int .i64 0, .slice none 0 0, .bool false, .slice none 0 0, .bool false, .slice none 0 0], .agg qz9, .int .i64 0], []⟩ 8 (by kernel_rfl) (by kernel_rfl) (by kernel_rfl) (by kernel_rfl)) ?_
 intro W base args ds gs before hval0 hW hcnd _;clear hcnd
 have hval : ∀ (j : Nat) t v, Tryz.f6.params[j]? = some t → args[j]? = some v → Value.okWide Tryz.prog W .any base t v := hval0
 have hW' := hW;obtain ⟨p, q, hA0, hV, rfl, hfz, hnd⟩ := hW;have hA : DataW.TrodAll enc Tryz.prog W 0 (fun _ => true) true Tryz.f6.params.toList args.toList ds p := hA0;rw [Tryz.params6] at hA hval;obtain ⟨v0, vs0, d0, ds0, p0, q0, hargs, rfl, rfl, h0, r0⟩ := trodAll_cons hA;obtain ⟨v1, vs1, d1, ds1, p1, q1, rfl, rfl, rfl, h1, r1⟩ := trodAll_cons r0;obtain ⟨v2, vs2, d2, ds2, p2, q2, rfl, rfl, rfl, h2, r2⟩ := trodAll_cons r1;obtain ⟨rfl, rfl, rfl⟩ := trodAll_nil r2
 obtain rfl : args = #[v0, v1, v2] := by cases args; simp_all
 obtain ⟨rfl, rfl⟩ := trodVars_none hV;clear hA0 hval0 hA r0 r1 r2 hargs;simp only [List.append_nil] at hW';have hlt := hW'.lt;obtain ⟨b0, rfl, hb0⟩ := bh_open (hval 0 31 v0 rfl rfl) h0;obtain ⟨x1, rfl, hx1, hT1, hL1, hK1⟩ := contract_open (hval 1 36 v1 rfl rfl) h1;obtain ⟨z2, rfl, e2, e22, wf2⟩ := open_int Tryz.underlying3 (hval 2 3 v2 rfl rfl) h2;obtain ⟨l2, u2⟩ := bounds_i64 wf2
 refine (plinear_walk b0 x1 W z2  hb0 hx1 hT1 ⟨l2, u2⟩).mono fun e W' ⟨he, hb⟩ => ?_
 subst he;refine ⟨_, rfl, _, _, _, [], p0 ++ (p1 ++ (p2 ++ [])), [], hW', ?_, ?_, rfl, hb.frame _, fun h => by cases h⟩
 · exact trodAll_cons_mk (shut_bool Tryz.underlying4 _) trodAll_mk0
 · exact trodAll_cons_mk (Below.trod laidOut recS ltS h0 hb fun x hx => hlt x (by simp [hx])) (trodAll_cons_mk (Below.trod laidOut recC ltC h1 hb fun x hx => hlt x (by simp [hx])) (trodAll_cons_mk (Below.trod laidOut recI ltI h2 hb fun x hx => hlt x (by simp [hx])) (trodAll_mk0)))

theorem holds : Rows.ReserveLinearSaid :=
 OpenClaim.holds_of_wide 6 Tryz.f6 rfl rfl rfl rfl rfl rfl rfl ⟨rfl, rfl, rfl, rfl, rfl⟩ rfl rfl rfl rfl rfl (by kernel_rfl) Tryz.func6 (by kernel_rfl)
  (of_decide_eq_true (by kernel_rfl)) (by unfold Func.isWrapper; first | (rw [if_pos (by decide +kernel)]; kernel_rfl) | (rw [if_neg (by decide +kernel)]; exact ⟨rfl, rfl⟩))
  (fun os started H enc _ => lifted os started H enc)
end Go.Proofs.YtclbiihcbfnjmaaGreat.reserveLinear
