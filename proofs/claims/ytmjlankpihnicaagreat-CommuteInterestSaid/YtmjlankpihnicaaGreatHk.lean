/-
  Short words for the facts of a world.
-/
import Derived.Test.YtmjlankpihnicaaGreatK4
namespace Go.Proofs.YtmjlankpihnicaaGreat
open Go.RowKit

section
variable {w W : World} {P A0 A1 A2 A3 A4 A5 A6 A7 A8 A9 A10 A11 A12 A13 A14 A15 A16 A17 A18 A19 A20 A21 A22 A23 A24 A25 A26 A27 A28 A29 A30 : World → Prop}
theorem Env.h2 (h : Env w (fun V => ((P V ∧ A2 V) ∧ A1 V) ∧ A0 V) W) : A2 W := h.here.1.1.2
theorem Env.h3 (h : Env w (fun V => (((P V ∧ A3 V) ∧ A2 V) ∧ A1 V) ∧ A0 V) W) : A3 W := h.here.1.1.1.2
theorem Env.h4 (h : Env w (fun V => ((((P V ∧ A4 V) ∧ A3 V) ∧ A2 V) ∧ A1 V) ∧ A0 V) W) : A4 W := h.here.1.1.1.1.2
theorem Env.h5 (h : Env w (fun V => (((((P V ∧ A5 V) ∧ A4 V) ∧ A3 V) ∧ A2 V) ∧ A1 V) ∧ A0 V) W) : A5 W := h.here.1.1.1.1.1.2
theorem Env.h6 (h : Env w (fun V => ((((((P V ∧ A6 V) ∧ A5 V) ∧ A4 V) ∧ A3 V) ∧ A2 V) ∧ A1 V) ∧ A0 V) W) : A6 W := h.here.1.1.1.1.1.1.2
theorem Env.h7 (h : Env w (fun V => (((((((P V ∧ A7 V) ∧ A6 V) ∧ A5 V) ∧ A4 V) ∧ A3 V) ∧ A2 V) ∧ A1 V) ∧ A0 V) W) : A7 W := h.here.1.1.1.1.1.1.1.2
theorem Env.h8 (h : Env w (fun V => ((((((((P V ∧ A8 V) ∧ A7 V) ∧ A6 V) ∧ A5 V) ∧ A4 V) ∧ A3 V) ∧ A2 V) ∧ A1 V) ∧ A0 V) W) : A8 W := h.here.1.1.1.1.1.1.1.1.2
theorem Env.h9 (h : Env w (fun V => (((((((((P V ∧ A9 V) ∧ A8 V) ∧ A7 V) ∧ A6 V) ∧ A5 V) ∧ A4 V) ∧ A3 V) ∧ A2 V) ∧ A1 V) ∧ A0 V) W) : A9 W := h.here.1.1.1.1.1.1.1.1.1.2
theorem Env.h10 (h : Env w (fun V => ((((((((((P V ∧ A10 V) ∧ A9 V) ∧ A8 V) ∧ A7 V) ∧ A6 V) ∧ A5 V) ∧ A4 V) ∧ A3 V) ∧ A2 V) ∧ A1 V) ∧ A0 V) W) : A10 W := h.here.1.1.1.1.1.1.1.1.1.1.2
theorem Env.h11 (h : Env w (fun V => (((((((((((P V ∧ A11 V) ∧ A10 V) ∧ A9 V) ∧ A8 V) ∧ A7 V) ∧ A6 V) ∧ A5 V) ∧ A4 V) ∧ A3 V) ∧ A2 V) ∧ A1 V) ∧ A0 V) W) : A11 W := h.here.1.1.1.1.1.1.1.1.1.1.1.2
theorem Env.h12 (h : Env w (fun V => ((((((((((((P V ∧ A12 V) ∧ A11 V) ∧ A10 V) ∧ A9 V) ∧ A8 V) ∧ A7 V) ∧ A6 V) ∧ A5 V) ∧ A4 V) ∧ A3 V) ∧ A2 V) ∧ A1 V) ∧ A0 V) W) : A12 W := h.here.1.1.1.1.1.1.1.1.1.1.1.1.2
theorem Env.h13 (h : Env w (fun V => (((((((((((((P V ∧ A13 V) ∧ A12 V) ∧ A11 V) ∧ A10 V) ∧ A9 V) ∧ A8 V) ∧ A7 V) ∧ A6 V) ∧ A5 V) ∧ A4 V) ∧ A3 V) ∧ A2 V) ∧ A1 V) ∧ A0 V) W) : A13 W := h.here.1.1.1.1.1.1.1.1.1.1.1.1.1.2
theorem Env.h14 (h : Env w (fun V => ((((((((((((((P V ∧ A14 V) ∧ A13 V) ∧ A12 V) ∧ A11 V) ∧ A10 V) ∧ A9 V) ∧ A8 V) ∧ A7 V) ∧ A6 V) ∧ A5 V) ∧ A4 V) ∧ A3 V) ∧ A2 V) ∧ A1 V) ∧ A0 V) W) : A14 W := h.here.1.1.1.1.1.1.1.1.1.1.1.1.1.1.2
theorem Env.h15 (h : Env w (fun V => (((((((((((((((P V ∧ A15 V) ∧ A14 V) ∧ A13 V) ∧ A12 V) ∧ A11 V) ∧ A10 V) ∧ A9 V) ∧ A8 V) ∧ A7 V) ∧ A6 V) ∧ A5 V) ∧ A4 V) ∧ A3 V) ∧ A2 V) ∧ A1 V) ∧ A0 V) W) : A15 W := h.here.1.1.1.1.1.1.1.1.1.1.1.1.1.1.1.2
theorem Env.h16 (h : Env w (fun V => ((((((((((((((((P V ∧ A16 V) ∧ A15 V) ∧ A14 V) ∧ A13 V) ∧ A12 V) ∧ A11 V) ∧ A10 V) ∧ A9 V) ∧ A8 V) ∧ A7 V) ∧ A6 V) ∧ A5 V) ∧ A4 V) ∧ A3 V) ∧ A2 V) ∧ A1 V) ∧ A0 V) W) : A16 W := h.here.1.1.1.1.1.1.1.1.1.1.1.1.1.1.1.1.2
theorem Env.h17 (h : Env w (fun V => (((((((((((((((((P V ∧ A17 V) ∧ A16 V) ∧ A15 V) ∧ A14 V) ∧ A13 V) ∧ A12 V) ∧ A11 V) ∧ A10 V) ∧ A9 V) ∧ A8 V) ∧ A7 V) ∧ A6 V) ∧ A5 V) ∧ A4 V) ∧ A3 V) ∧ A2 V) ∧ A1 V) ∧ A0 V) W) : A17 W := h.here.1.1.1.1.1.1.1.1.1.1.1.1.1.1.1.1.1.2
theorem Env.h18 (h : Env w (fun V => ((((((((((((((((((P V ∧ A18 V) ∧ A17 V) ∧ A16 V) ∧ A15 V) ∧ A14 V) ∧ A13 V) ∧ A12 V) ∧ A11 V) ∧ A10 V) ∧ A9 V) ∧ A8 V) ∧ A7 V) ∧ A6 V) ∧ A5 V) ∧ A4 V) ∧ A3 V) ∧ A2 V) ∧ A1 V) ∧ A0 V) W) : A18 W := h.here.1.1.1.1.1.1.1.1.1.1.1.1.1.1.1.1.1.1.2
theorem Env.h19 (h : Env w (fun V => (((((((((((((((((((P V ∧ A19 V) ∧ A18 V) ∧ A17 V) ∧ A16 V) ∧ A15 V) ∧ A14 V) ∧ A13 V) ∧ A12 V) ∧ A11 V) ∧ A10 V) ∧ A9 V) ∧ A8 V) ∧ A7 V) ∧ A6 V) ∧ A5 V) ∧ A4 V) ∧ A3 V) ∧ A2 V) ∧ A1 V) ∧ A0 V) W) : A19 W := h.here.1.1.1.1.1.1.1.1.1.1.1.1.1.1.1.1.1.1.1.2
theorem Env.h20 (h : Env w (fun V => ((((((((((((((((((((P V ∧ A20 V) ∧ A19 V) ∧ A18 V) ∧ A17 V) ∧ A16 V) ∧ A15 V) ∧ A14 V) ∧ A13 V) ∧ A12 V) ∧ A11 V) ∧ A10 V) ∧ A9 V) ∧ A8 V) ∧ A7 V) ∧ A6 V) ∧ A5 V) ∧ A4 V) ∧ A3 V) ∧ A2 V) ∧ A1 V) ∧ A0 V) W) : A20 W := h.here.1.1.1.1.1.1.1.1.1.1.1.1.1.1.1.1.1.1.1.1.2
theorem Env.h21 (h : Env w (fun V => (((((((((((((((((((((P V ∧ A21 V) ∧ A20 V) ∧ A19 V) ∧ A18 V) ∧ A17 V) ∧ A16 V) ∧ A15 V) ∧ A14 V) ∧ A13 V) ∧ A12 V) ∧ A11 V) ∧ A10 V) ∧ A9 V) ∧ A8 V) ∧ A7 V) ∧ A6 V) ∧ A5 V) ∧ A4 V) ∧ A3 V) ∧ A2 V) ∧ A1 V) ∧ A0 V) W) : A21 W := h.here.1.1.1.1.1.1.1.1.1.1.1.1.1.1.1.1.1.1.1.1.1.2
theorem Env.h22 (h : Env w (fun V => ((((((((((((((((((((((P V ∧ A22 V) ∧ A21 V) ∧ A20 V) ∧ A19 V) ∧ A18 V) ∧ A17 V) ∧ A16 V) ∧ A15 V) ∧ A14 V) ∧ A13 V) ∧ A12 V) ∧ A11 V) ∧ A10 V) ∧ A9 V) ∧ A8 V) ∧ A7 V) ∧ A6 V) ∧ A5 V) ∧ A4 V) ∧ A3 V) ∧ A2 V) ∧ A1 V) ∧ A0 V) W) : A22 W := h.here.1.1.1.1.1.1.1.1.1.1.1.1.1.1.1.1.1.1.1.1.1.1.2
theorem Env.h23 (h : Env w (fun V => (((((((((((((((((((((((P V ∧ A23 V) ∧ A22 V) ∧ A21 V) ∧ A20 V) ∧ A19 V) ∧ A18 V) ∧ A17 V) ∧ A16 V) ∧ A15 V) ∧ A14 V) ∧ A13 V) ∧ A12 V) ∧ A11 V) ∧ A10 V) ∧ A9 V) ∧ A8 V) ∧ A7 V) ∧ A6 V) ∧ A5 V) ∧ A4 V) ∧ A3 V) ∧ A2 V) ∧ A1 V) ∧ A0 V) W) : A23 W := h.here.1.1.1.1.1.1.1.1.1.1.1.1.1.1.1.1.1.1.1.1.1.1.1.2
theorem Env.h24 (h : Env w (fun V => ((((((((((((((((((((((((P V ∧ A24 V) ∧ A23 V) ∧ A22 V) ∧ A21 V) ∧ A20 V) ∧ A19 V) ∧ A18 V) ∧ A17 V) ∧ A16 V) ∧ A15 V) ∧ A14 V) ∧ A13 V) ∧ A12 V) ∧ A11 V) ∧ A10 V) ∧ A9 V) ∧ A8 V) ∧ A7 V) ∧ A6 V) ∧ A5 V) ∧ A4 V) ∧ A3 V) ∧ A2 V) ∧ A1 V) ∧ A0 V) W) : A24 W := h.here.1.1.1.1.1.1.1.1.1.1.1.1.1.1.1.1.1.1.1.1.1.1.1.1.2
theorem Env.h25 (h : Env w (fun V => (((((((((((((((((((((((((P V ∧ A25 V) ∧ A24 V) ∧ A23 V) ∧ A22 V) ∧ A21 V) ∧ A20 V) ∧ A19 V) ∧ A18 V) ∧ A17 V) ∧ A16 V) ∧ A15 V) ∧ A14 V) ∧ A13 V) ∧ A12 V) ∧ A11 V) ∧ A10 V) ∧ A9 V) ∧ A8 V) ∧ A7 V) ∧ A6 V) ∧ A5 V) ∧ A4 V) ∧ A3 V) ∧ A2 V) ∧ A1 V) ∧ A0 V) W) : A25 W := h.here.1.1.1.1.1.1.1.1.1.1.1.1.1.1.1.1.1.1.1.1.1.1.1.1.1.2
theorem Env.h26 (h : Env w (fun V => ((((((((((((((((((((((((((P V ∧ A26 V) ∧ A25 V) ∧ A24 V) ∧ A23 V) ∧ A22 V) ∧ A21 V) ∧ A20 V) ∧ A19 V) ∧ A18 V) ∧ A17 V) ∧ A16 V) ∧ A15 V) ∧ A14 V) ∧ A13 V) ∧ A12 V) ∧ A11 V) ∧ A10 V) ∧ A9 V) ∧ A8 V) ∧ A7 V) ∧ A6 V) ∧ A5 V) ∧ A4 V) ∧ A3 V) ∧ A2 V) ∧ A1 V) ∧ A0 V) W) : A26 W := h.here.1.1.1.1.1.1.1.1.1.1.1.1.1.1.1.1.1.1.1.1.1.1.1.1.1.1.2
theorem Env.h27 (h : Env w (fun V => (((((((((((((((((((((((((((P V ∧ A27 V) ∧ A26 V) ∧ A25 V) ∧ A24 V) ∧ A23 V) ∧ A22 V) ∧ A21 V) ∧ A20 V) ∧ A19 V) ∧ A18 V) ∧ A17 V) ∧ A16 V) ∧ A15 V) ∧ A14 V) ∧ A13 V) ∧ A12 V) ∧ A11 V) ∧ A10 V) ∧ A9 V) ∧ A8 V) ∧ A7 V) ∧ A6 V) ∧ A5 V) ∧ A4 V) ∧ A3 V) ∧ A2 V) ∧ A1 V) ∧ A0 V) W) : A27 W := h.here.1.1.1.1.1.1.1.1.1.1.1.1.1.1.1.1.1.1.1.1.1.1.1.1.1.1.1.2
theorem Env.h28 (h : Env w (fun V => ((((((((((((((((((((((((((((P V ∧ A28 V) ∧ A27 V) ∧ A26 V) ∧ A25 V) ∧ A24 V) ∧ A23 V) ∧ A22 V) ∧ A21 V) ∧ A20 V) ∧ A19 V) ∧ A18 V) ∧ A17 V) ∧ A16 V) ∧ A15 V) ∧ A14 V) ∧ A13 V) ∧ A12 V) ∧ A11 V) ∧ A10 V) ∧ A9 V) ∧ A8 V) ∧ A7 V) ∧ A6 V) ∧ A5 V) ∧ A4 V) ∧ A3 V) ∧ A2 V) ∧ A1 V) ∧ A0 V) W) : A28 W := h.here.1.1.1.1.1.1.1.1.1.1.1.1.1.1.1.1.1.1.1.1.1.1.1.1.1.1.1.1.2
theorem Env.h29 (h : Env w (fun V => (((((((((((((((((((((((((((((P V ∧ A29 V) ∧ A28 V) ∧ A27 V) ∧ A26 V) ∧ A25 V) ∧ A24 V) ∧ A23 V) ∧ A22 V) ∧ A21 V) ∧ A20 V) ∧ A19 V) ∧ A18 V) ∧ A17 V) ∧ A16 V) ∧ A15 V) ∧ A14 V) ∧ A13 V) ∧ A12 V) ∧ A11 V) ∧ A10 V) ∧ A9 V) ∧ A8 V) ∧ A7 V) ∧ A6 V) ∧ A5 V) ∧ A4 V) ∧ A3 V) ∧ A2 V) ∧ A1 V) ∧ A0 V) W) : A29 W := h.here.1.1.1.1.1.1.1.1.1.1.1.1.1.1.1.1.1.1.1.1.1.1.1.1.1.1.1.1.1.2
theorem Env.h30 (h : Env w (fun V => ((((((((((((((((((((((((((((((P V ∧ A30 V) ∧ A29 V) ∧ A28 V) ∧ A27 V) ∧ A26 V) ∧ A25 V) ∧ A24 V) ∧ A23 V) ∧ A22 V) ∧ A21 V) ∧ A20 V) ∧ A19 V) ∧ A18 V) ∧ A17 V) ∧ A16 V) ∧ A15 V) ∧ A14 V) ∧ A13 V) ∧ A12 V) ∧ A11 V) ∧ A10 V) ∧ A9 V) ∧ A8 V) ∧ A7 V) ∧ A6 V) ∧ A5 V) ∧ A4 V) ∧ A3 V) ∧ A2 V) ∧ A1 V) ∧ A0 V) W) : A30 W := h.here.1.1.1.1.1.1.1.1.1.1.1.1.1.1.1.1.1.1.1.1.1.1.1.1.1.1.1.1.1.1.2
end
section
variable {w W : World} {P : World → Prop} {p : Program} {k : FuncId} {xs : Array Value} {Q : Ending → World → Prop}
/-- A call that returns a fraction, and what is known behind it. -/
theorem Env.fr {q : Rat} {G : Bool → Option Addr → Nat → Nat → Bool → Option Addr → Nat → Nat → Ending} (hE : Env w P W)
    (hc : Calls p k xs W (fun e W' => ∃ s A n c t B m d, e = G s A n c t B m d ∧ FV W' q s A n t B m ∧ Below W.heap.size W W'))
    (h : ∀ s A n c t B m d W', Env w (fun V => P V ∧ FV V q s A n t B m) W' → Q (G s A n c t B m d) W') : Calls p k xs W Q :=
  hc.mono fun e W' ⟨s, A, n, c, t, B, m, d, he, hv, hb⟩ => by
    subst he
    exact h s A n c t B m d W' ((hE.step hb).fv hv)
/-- A call whose result is known. -/
theorem Env.br {R : Ending} (hE : Env w P W) (hc : Calls p k xs W (fun e W' => e = R ∧ Below W.heap.size W W')) (h : ∀ W', Env w P W' → Q R W') : Calls p k xs W Q :=
  hc.mono fun e W' ⟨he, hb⟩ => by
    subst he
    exact h W' (hE.step hb)
end
end Go.Proofs.YtmjlankpihnicaaGreat
