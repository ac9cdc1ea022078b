/-
  What an argument of the type api.Frac is; the cell of the library's variable.
-/
import Derived.Test.YtifikcemcflgjaaGreatK10
import Derived.ProofKit
import Derived.OpenShut
import Derived.Carry
import Derived.HandedShaped
import Derived.Deep.DeepHandedRow
import Derived.Deep.Slices
import Derived.Lib.SmallJoins
namespace Go.Proofs.YtifikcemcflgjaaGreat
open Go.ChangeShapes Go.WideShapes Go.ChangeAt Go.RowKit Go.Deep

theorem cBool : Tryz.prog.cellsOf 4 = 1 := by kernel_rfl
theorem cU16 : Tryz.prog.cellsOf 48 = 1 := by kernel_rfl
theorem cU16s : Tryz.prog.cellsOf 22 = 1 := by kernel_rfl
theorem cWhole : Tryz.prog.cellsOf 24 = 2 := by kernel_rfl
theorem cFrac : Tryz.prog.cellsOf 26 = 4 := by kernel_rfl
theorem two_of_len {α : Type} {l : List α} (h : l.length = 2) : ∃ a b, l = [a, b] := by
  match l, h with
  | [a, b], _ => exact ⟨a, b, rfl⟩
theorem four_of_len {α : Type} {l : List α} (h : l.length = 4) : ∃ a b c d, l = [a, b, c, d] := by
  match l, h with
  | [a, b, c, d], _ => exact ⟨a, b, c, d, rfl⟩
theorem cell_in {w : World} {b o : Nat} {v : Value} (h : w.cell? ⟨b, o, none⟩ = some v) : b < w.heap.size := by
  rcases Nat.lt_or_ge b w.heap.size with h1 | h1
  · exact h1
  · simp [World.cell?, Array.getElem?_eq_none h1] at h
section
variable {H : Type} {enc : TypeId × Value → H} {W : World}
set_option maxRecDepth 100000 in
/-- The limbs of a number. -/
theorem limbs_open {fuel : Nat} {cs : List Value} {x : DataW H × List MemPlace} (h : DataW.trod enc Tryz.prog W 0 (fun _ => true) true fuel 22 cs = some x) :
    ∃ A n c f, cs = [.slice A n c] ∧ Rd W.heap.size .u16 W A n f ∧ ∀ j, j < n → f j < 65536 := by
  rcases open_ints Tryz.underlying22 Tryz.underlying48 cU16 h with ⟨e1, -⟩ | ⟨a, len, cap, zs, e1, -, hlc, hcm, hzl, -, hc, hwf⟩
  · exact ⟨none, 0, 0, fun _ => 0, e1, Rd.nil, fun j hj => absurd hj (by omega)⟩
  · replace hzl : zs.length = cap := by simpa using hzl
    have hb : ∀ j, 0 ≤ zs.getD j 0 ∧ zs.getD j 0 ≤ 65535 := fun j => by rw [List.getD_eq_getElem?_getD]; exact range_u16 hwf j
    refine ⟨some a, len, cap, fun j => (zs.getD j 0).toNat, e1, fun hn => ?_, fun j _ => by have := hb j; show (zs.getD j 0).toNat < 65536; omega⟩
    obtain ⟨b, o, rfl, hcell⟩ := ints_at hc (by omega)
    refine ⟨b, o, rfl, ?_, fun i hi => ?_⟩
    · exact cell_in (hcell 0 (by omega))
    · rw [hcell i (by omega), Int.toNat_of_nonneg (hb i).1]
set_option maxRecDepth 100000 in
/-- The two cells of a whole number. -/
theorem wcells_open {fuel : Nat} {cs : List Value} {x : DataW H × List MemPlace} (h : DataW.trod enc Tryz.prog W 0 (fun _ => true) true fuel 24 cs = some x) :
    ∃ s A n c f, cs = [.bool s, .slice A n c] ∧ Rd W.heap.size .u16 W A n f ∧ ∀ j, j < n → f j < 65536 := by
  obtain ⟨xs, k, -, -, hl, hx, hi⟩ := DataW.trod_struct Tryz.underlying24 h
  obtain ⟨c0, c1, rfl⟩ := two_of_len (hl.trans cWhole)
  obtain ⟨x0, x1, rfl⟩ := two_of_len hx
  have h0 : DataW.trod enc Tryz.prog W 0 (fun _ => true) true k 4 (([c0, c1].drop 0).take (Tryz.prog.cellsOf 4)) = some x0 := hi 0 _ rfl
  have h1 : DataW.trod enc Tryz.prog W 0 (fun _ => true) true k 22 (([c0, c1].drop 1).take (Tryz.prog.cellsOf 22)) = some x1 := hi 1 _ rfl
  rw [cBool] at h0
  rw [cU16s] at h1
  simp only [List.drop_zero, List.take_succ_cons, List.take_zero, List.drop_succ_cons] at h0 h1
  obtain ⟨s, e0, -⟩ := DataW.trod_bool Tryz.underlying4 h0
  obtain ⟨A, n, c, f, e1, r1, r2⟩ := limbs_open h1
  injection e0 with e0
  injection e1 with e1
  exact ⟨s, A, n, c, f, by rw [e0, e1], r1, r2⟩
set_option maxRecDepth 100000 in
/-- The four cells of a fraction. -/
theorem fcells_open {fuel : Nat} {cs : List Value} {x : DataW H × List MemPlace} (h : DataW.trod enc Tryz.prog W 0 (fun _ => true) true fuel 26 cs = some x) :
    ∃ q : Fc, cs = [.bool q.s, .slice q.A q.n q.c, .bool q.t, .slice q.B q.m q.d] ∧ q.rd W := by
  obtain ⟨xs, k, -, -, hl, hx, hi⟩ := DataW.trod_struct Tryz.underlying26 h
  obtain ⟨c0, c1, c2, c3, rfl⟩ := four_of_len (hl.trans cFrac)
  obtain ⟨x0, x1, rfl⟩ := two_of_len hx
  have h0 : DataW.trod enc Tryz.prog W 0 (fun _ => true) true k 24 (([c0, c1, c2, c3].drop 0).take (Tryz.prog.cellsOf 24)) = some x0 := hi 0 _ rfl
  have h1 : DataW.trod enc Tryz.prog W 0 (fun _ => true) true k 24 (([c0, c1, c2, c3].drop 2).take (Tryz.prog.cellsOf 24)) = some x1 := hi 1 _ rfl
  rw [cWhole] at h0 h1
  simp only [List.drop_zero, List.take_succ_cons, List.take_zero, List.drop_succ_cons] at h0 h1
  obtain ⟨s, A, n, c, f, e0, r1, r2⟩ := wcells_open h0
  obtain ⟨t, B, m, d, g, e1, r3, r4⟩ := wcells_open h1
  injection e0 with e0 e2
  injection e2 with e2
  injection e1 with e1 e3
  injection e3 with e3
  exact ⟨⟨s, A, n, c, f, t, B, m, d, g⟩, by rw [e0, e1, e2, e3], r1, r3, r2, r4⟩
set_option maxRecDepth 100000 in
theorem frac_open {b0 : Nat} {v : Value} {d : DataW H} {p : List MemPlace} (hv : Value.okWide Tryz.prog W .any b0 26 v) (h : DataW.Trod enc Tryz.prog W 0 (fun _ => true) true 26 v d p) :
    ∃ s A n c f t B m d g, v = .agg #[.bool s, .slice A n c, .bool t, .slice B m d] ∧ FRd W A n f B m g := by
  obtain ⟨cs, rfl, -⟩ := okWide_struct Tryz.underlying26 hv
  obtain ⟨fuel, hf⟩ := h
  have hf2 : DataW.trod enc Tryz.prog W 0 (fun _ => true) true fuel 26 cs.toList = some (d, p) := hf
  obtain ⟨⟨s, A, n, c, f, t, B, m, e, g⟩, h1, h2⟩ := fcells_open hf2
  refine ⟨s, A, n, c, f, t, B, m, e, g, ?_, h2⟩
  rw [show cs = #[.bool s, .slice A n c, .bool t, .slice B m e] from Array.toList_inj.1 h1]
theorem max_open (hsh : W.ShapedOpen Tryz.prog) : 0 < W.heap.size ∧ ∃ k, W.cell? ⟨0, 0, none⟩ = some (.int .i64 k) := by
  have h : ∃ k, W.cell? ⟨0, 0, none⟩ = some (.int .i64 k) := Tryz.laysM145.s1_3 W hsh
  obtain ⟨k, hk⟩ := h
  exact ⟨cell_in hk, k, hk⟩
end
end Go.Proofs.YtifikcemcflgjaaGreat
