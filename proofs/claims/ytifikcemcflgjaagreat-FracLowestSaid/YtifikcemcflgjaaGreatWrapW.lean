/-
  What an argument of the type api.Whole is.
-/
import Derived.Test.YtifikcemcflgjaaGreatK10
namespace Go.Proofs.YtifikcemcflgjaaGreat
open Go.ChangeShapes Go.WideShapes Go.ChangeAt Go.RowKit Go.Deep

set_option maxRecDepth 100000 in
theorem whole_open {H : Type} {enc : TypeId × Value → H} {W : World} {b0 : Nat} {v : Value} {d : DataW H} {p : List MemPlace} (hv : Value.okWide Tryz.prog W .any b0 24 v) (h : DataW.Trod enc Tryz.prog W 0 (fun _ => true) true 24 v d p) :
    ∃ s A n c f, v = .agg #[.bool s, .slice A n c] ∧ Rd W.heap.size .u16 W A n f ∧ ∀ j, j < n → f j < 65536 := by
  obtain ⟨cs, rfl, -⟩ := okWide_struct Tryz.underlying24 hv
  obtain ⟨fuel, hf⟩ := h
  have hf2 : DataW.trod enc Tryz.prog W 0 (fun _ => true) true fuel 24 cs.toList = some (d, p) := hf
  obtain ⟨s, A, n, c, f, h1, h2⟩ := wcells_open hf2
  refine ⟨s, A, n, c, f, ?_, h2⟩
  rw [show cs = #[.bool s, .slice A n c] from Array.toList_inj.1 h1]
end Go.Proofs.YtifikcemcflgjaaGreat
