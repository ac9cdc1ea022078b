/-
  What an argument of the type commute.Basis is: a table and a fraction in memory.
-/
import Derived.Test.YtmjlankpihnicaaGreatK9
namespace Go.Proofs.YtmjlankpihnicaaGreat
open Go.ChangeShapes Go.WideShapes Go.ChangeAt Go.RowKit Go.Deep

theorem cBasis : Tryz.prog.cellsOf 31 = 7 := by kernel_rfl
theorem cInt : Tryz.prog.cellsOf 3 = 1 := by kernel_rfl
theorem three_of_len {α : Type} {l : List α} (h : l.length = 3) : ∃ a b c, l = [a, b, c] := by
  match l, h with
  | [a, b, c], _ => exact ⟨a, b, c, rfl⟩
theorem seven_of_len {α : Type} {l : List α} (h : l.length = 7) : ∃ a b c d e f g, l = [a, b, c, d, e, f, g] := by
  match l, h with
  | [a, b, c, d, e, f, g], _ => exact ⟨a, b, c, d, e, f, g, rfl⟩
section
variable {H : Type} {enc : TypeId × Value → H} {W : World}
set_option maxRecDepth 100000 in
theorem tcells_open {fuel : Nat} {cs : List Value} {x : DataW H × List MemPlace} (h : DataW.trod enc Tryz.prog W 0 (fun _ => true) true fuel 24 cs = some x) :
    ∃ F S A n c r, cs = [.int .i64 F, .int .i64 S, .slice A n c] ∧ TabM W A n r := by
  obtain ⟨xs, k, -, -, hl, hx, hi⟩ := DataW.trod_struct Tryz.underlying24 h
  obtain ⟨c0, c1, c2, rfl⟩ := three_of_len (hl.trans cTable)
  obtain ⟨x0, x1, x2, rfl⟩ := three_of_len hx
  have h0 : DataW.trod enc Tryz.prog W 0 (fun _ => true) true k 3 (([c0, c1, c2].drop 0).take (Tryz.prog.cellsOf 3)) = some x0 := hi 0 _ rfl
  have h1 : DataW.trod enc Tryz.prog W 0 (fun _ => true) true k 3 (([c0, c1, c2].drop 1).take (Tryz.prog.cellsOf 3)) = some x1 := hi 1 _ rfl
  have h2 : DataW.trod enc Tryz.prog W 0 (fun _ => true) true k 22 (([c0, c1, c2].drop 2).take (Tryz.prog.cellsOf 22)) = some x2 := hi 2 _ rfl
  rw [cInt] at h0 h1
  rw [show Tryz.prog.cellsOf 22 = 1 by kernel_rfl] at h2
  simp only [List.drop_zero, List.take_succ_cons, List.take_zero, List.drop_succ_cons] at h0 h1 h2
  obtain ⟨F, e0, -, hF⟩ := DataW.trod_int Tryz.underlying3 h0
  obtain ⟨S, e1, -, hS⟩ := DataW.trod_int Tryz.underlying3 h1
  obtain ⟨A, n, c, r, e2, hr⟩ := rows_open h2
  injection e0 with e0
  injection e1 with e1
  injection e2 with e2
  exact ⟨F, S, A, n, c, r, by rw [e0, e1, e2], hr⟩
set_option maxRecDepth 100000 in
theorem basis_open {b0 : Nat} {v : Value} {d : DataW H} {p : List MemPlace} (hv : Value.okWide Tryz.prog W .any b0 31 v) (h : DataW.Trod enc Tryz.prog W 0 (fun _ => true) true 31 v d p) :
    ∃ F S A n c r s Ai ni ci fi t Bi mi di gi, v = .agg #[.int .i64 F, .int .i64 S, .slice A n c, .bool s, .slice Ai ni ci, .bool t, .slice Bi mi di] ∧ TabM W A n r ∧ FRd W Ai ni fi Bi mi gi := by
  obtain ⟨cs, rfl, -⟩ := okWide_struct Tryz.underlying31 hv
  obtain ⟨fuel, hf⟩ := h
  have hf2 : DataW.trod enc Tryz.prog W 0 (fun _ => true) true fuel 31 cs.toList = some (d, p) := hf
  obtain ⟨xs, k, -, -, hl, hx, hi⟩ := DataW.trod_struct Tryz.underlying31 hf2
  obtain ⟨c0, c1, c2, c3, c4, c5, c6, hcs⟩ := seven_of_len (hl.trans cBasis)
  obtain ⟨x0, x1, rfl⟩ := two_of_len hx
  rw [hcs] at hi
  have h0 : DataW.trod enc Tryz.prog W 0 (fun _ => true) true k 24 (([c0, c1, c2, c3, c4, c5, c6].drop 0).take (Tryz.prog.cellsOf 24)) = some x0 := hi 0 _ rfl
  have h1 : DataW.trod enc Tryz.prog W 0 (fun _ => true) true k 29 (([c0, c1, c2, c3, c4, c5, c6].drop 3).take (Tryz.prog.cellsOf 29)) = some x1 := hi 1 _ rfl
  rw [cTable] at h0
  rw [cFrac] at h1
  simp only [List.drop_zero, List.take_succ_cons, List.take_zero, List.drop_succ_cons] at h0 h1
  obtain ⟨F, S, A, n, c, r, e0, hT⟩ := tcells_open h0
  obtain ⟨⟨s, Ai, ni, ci, fi, t, Bi, mi, di, gi⟩, e1, hq⟩ := fcells_open h1
  simp only [List.cons.injEq, and_true] at e0 e1
  obtain ⟨rfl, rfl, rfl⟩ := e0
  obtain ⟨rfl, rfl, rfl, rfl⟩ := e1
  refine ⟨F, S, A, n, c, r, s, Ai, ni, ci, fi, t, Bi, mi, di, gi, ?_, hT, hq⟩
  rw [show cs = #[.int .i64 F, .int .i64 S, .slice A n c, .bool s, .slice Ai ni ci, .bool t, .slice Bi mi di] from Array.toList_inj.1 hcs]
end
end Go.Proofs.YtmjlankpihnicaaGreat
