/-
  What an argument of the type []survivor.Claim is: claims in memory.
-/
import Derived.Test.YtjgihmmeimfheaaGreatSV1
import Derived.ProofKit
import Derived.OpenShut
import Derived.Carry
import Derived.Deep.DeepHandedRow
import Derived.Deep.Slices
import Derived.Lib.LaidTab
import Derived.Lib.SmallJoins
namespace Go.Proofs.YtjgihmmeimfheaaGreat
open Go.ChangeShapes Go.WideShapes Go.ChangeAt Go.RowKit Go.Deep

theorem cBool : Tryz.prog.cellsOf 4 = 1 := by kernel_rfl
theorem cU16 : Tryz.prog.cellsOf 59 = 1 := by kernel_rfl
theorem cU16s : Tryz.prog.cellsOf 25 = 1 := by kernel_rfl
theorem cWhole : Tryz.prog.cellsOf 27 = 2 := by kernel_rfl
theorem cFrac : Tryz.prog.cellsOf 29 = 4 := by kernel_rfl
theorem two_of_len {α : Type} {l : List α} (h : l.length = 2) : ∃ a b, l = [a, b] := by
 match l, h with
 | [a, b], _ => exact ⟨a, b, rfl⟩
theorem four_of_len {α : Type} {l : List α} (h : l.length = 4) : ∃ a b c d, l = [a, b, c, d] := by
 match l, h with
 | [a, b, c, d], _ => exact ⟨a, b, c, d, rfl⟩
theorem cell_in {w : World} {b o : Nat} {v : Value} (h : w.cell? ⟨b, o, none⟩ = some v) : b < w.heap.size := by
 rcases Nat.lt_or_ge b w.heap.size with h1 | h1
 · exact h1
 · simp [World.cell?, Array.getElem?_eq_none h1] at h
theorem int_in {z : Int} (h : (Lit.int .i64 z).wf = true) : -9223372036854775808 ≤ z ∧ z ≤ 9223372036854775807 := by
 have := range_i64 (zs := [z]) (fun n hn => by rw [List.mem_singleton.1 hn]; exact h) 0
 simpa using this
theorem add_none (b o k : Nat) : (⟨b, o, none⟩ : Addr).add k = ⟨b, o + k, none⟩ := by
 unfold Addr.add
 by_cases h : k = 0
 · simp [h]
 · simp [h]
theorem cInt : Tryz.prog.cellsOf 3 = 1 := by kernel_rfl
theorem cClaim : Tryz.prog.cellsOf 46 = 6 := by kernel_rfl
theorem three_of_len {α : Type} {l : List α} (h : l.length = 3) : ∃ a b c, l = [a, b, c] := by
 match l, h with
 | [a, b, c], _ => exact ⟨a, b, c, rfl⟩
theorem six_of_len {α : Type} {l : List α} (h : l.length = 6) : ∃ a b c d e f, l = [a, b, c, d, e, f] := by
 match l, h with
 | [a, b, c, d, e, f], _ => exact ⟨a, b, c, d, e, f, rfl⟩
instance : Inhabited Cl := ⟨⟨0, ⟨false, none, 0, 0, fun _ => 0, false, none, 0, 0, fun _ => 0⟩, 0⟩⟩
def I64 (z : Int) : Prop := -9223372036854775808 ≤ z ∧ z ≤ 9223372036854775807
section
variable {H : Type} {enc : TypeId × Value → H} {W : World}
set_option maxRecDepth 100000 in
/-- The limbs of a number. -/
theorem limbs_open {fuel : Nat} {cs : List Value} {x : DataW H × List MemPlace} (h : DataW.trod enc Tryz.prog W 0 (fun _ => true) true fuel 25 cs = some x) :
  ∃ A n c f, cs = [.slice A n c] ∧ Rd W.heap.size .u16 W A n f ∧ ∀ j, j < n → f j < 65536 := by
 rcases open_ints Tryz.underlying25 Tryz.underlying59 cU16 h with ⟨e1, -⟩ | ⟨a, len, cap, zs, e1, -, hlc, hcm, hzl, -, hc, hwf⟩
 · exact ⟨none, 0, 0, fun _ => 0, e1, Rd.nil, fun j hj => absurd hj (by omega)⟩
 ·
  replace hzl : zs.length = cap := by simpa using hzl
  have hb : ∀ j, 0 ≤ zs.getD j 0 ∧ zs.getD j 0 ≤ 65535 := fun j => by rw [List.getD_eq_getElem?_getD]; exact range_u16 hwf j
  refine ⟨some a, len, cap, fun j => (zs.getD j 0).toNat, e1, fun hn => ?_, fun j _ => by have := hb j; show (zs.getD j 0).toNat < 65536; omega⟩
  obtain ⟨b, o, rfl, hcell⟩ := ints_at hc (by omega)
  refine ⟨b, o, rfl, ?_, fun i hi => ?_⟩
  · exact cell_in (hcell 0 (by omega))
  · rw [hcell i (by omega), Int.toNat_of_nonneg (hb i).1]
set_option maxRecDepth 100000 in
/-- The two cells of a whole number. -/
theorem wcells_open {fuel : Nat} {cs : List Value} {x : DataW H × List MemPlace} (h : DataW.trod enc Tryz.prog W 0 (fun _ => true) true fuel 27 cs = some x) :
  ∃ s A n c f, cs = [.bool s, .slice A n c] ∧ Rd W.heap.size .u16 W A n f ∧ ∀ j, j < n → f j < 65536 := by
 obtain ⟨xs, k, -, -, hl, hx, hi⟩ := DataW.trod_struct Tryz.underlying27 h
 obtain ⟨c0, c1, rfl⟩ := two_of_len (hl.trans cWhole)
 obtain ⟨x0, x1, rfl⟩ := two_of_len hx
 have h0 : DataW.trod enc Tryz.prog W 0 (fun _ => true) true k 4 (([c0, c1].drop 0).take (Tryz.prog.cellsOf 4)) = some x0 := hi 0 _ rfl
 have h1 : DataW.trod enc Tryz.prog W 0 (fun _ => true) true k 25 (([c0, c1].drop 1).take (Tryz.prog.cellsOf 25)) = some x1 := hi 1 _ rfl
 rw [cBool] at h0
 rw [cU16s] at h1
 simp only [List.drop_zero, List.take_succ_cons, List.take_zero, List.drop_succ_cons] at h0 h1
 obtain ⟨s, e0, -⟩ := DataW.trod_bool Tryz.underlying4 h0
 obtain ⟨A, n, c, f, e1, r1, r2⟩ := limbs_open h1
 injection e0 with e0
 injection e1 with e1
 exact ⟨s, A, n, c, f, by rw [e0, e1], r1, r2⟩
set_option maxRecDepth 100000 in
/-- The four cells of a fraction. -/
theorem fcells_open {fuel : Nat} {cs : List Value} {x : DataW H × List MemPlace} (h : DataW.trod enc Tryz.prog W 0 (fun _ => true) true fuel 29 cs = some x) :
  ∃ q : FH, cs = [.bool q.s, .slice q.A q.n q.c, .bool q.t, .slice q.B q.m q.d] ∧ q.rd W := by
 obtain ⟨xs, k, -, -, hl, hx, hi⟩ := DataW.trod_struct Tryz.underlying29 h
 obtain ⟨c0, c1, c2, c3, rfl⟩ := four_of_len (hl.trans cFrac)
 obtain ⟨x0, x1, rfl⟩ := two_of_len hx
 have h0 : DataW.trod enc Tryz.prog W 0 (fun _ => true) true k 27 (([c0, c1, c2, c3].drop 0).take (Tryz.prog.cellsOf 27)) = some x0 := hi 0 _ rfl
 have h1 : DataW.trod enc Tryz.prog W 0 (fun _ => true) true k 27 (([c0, c1, c2, c3].drop 2).take (Tryz.prog.cellsOf 27)) = some x1 := hi 1 _ rfl
 rw [cWhole] at h0 h1
 simp only [List.drop_zero, List.take_succ_cons, List.take_zero, List.drop_succ_cons] at h0 h1
 obtain ⟨s, A, n, c, f, e0, r1, r2⟩ := wcells_open h0
 obtain ⟨t, B, m, d, g, e1, r3, r4⟩ := wcells_open h1
 injection e0 with e0 e2
 injection e2 with e2
 injection e1 with e1 e3
 injection e3 with e3
 exact ⟨⟨s, A, n, c, f, t, B, m, d, g⟩, by rw [e0, e1, e2, e3], r1, r3, r2, r4⟩
set_option maxRecDepth 100000 in
theorem ccl_open {fuel : Nat} {cs : List Value} {x : DataW H × List MemPlace} (h : DataW.trod enc Tryz.prog W 0 (fun _ => true) true fuel 46 cs = some x) :
  ∃ q : Cl, cs = [.int .i64 q.I, .bool q.w.s, .slice q.w.A q.w.n q.w.c, .bool q.w.t, .slice q.w.B q.w.m q.w.d, .int .i64 q.K] ∧ q.w.rd W := by
 obtain ⟨xs, k, -, -, hl, hx, hi⟩ := DataW.trod_struct Tryz.underlying46 h
 obtain ⟨c0, c1, c2, c3, c4, c5, rfl⟩ := six_of_len (hl.trans cClaim)
 obtain ⟨x0, x1, x2, rfl⟩ := three_of_len hx
 have h0 : DataW.trod enc Tryz.prog W 0 (fun _ => true) true k 3 (([c0, c1, c2, c3, c4, c5].drop 0).take (Tryz.prog.cellsOf 3)) = some x0 := hi 0 _ rfl
 have h1 : DataW.trod enc Tryz.prog W 0 (fun _ => true) true k 29 (([c0, c1, c2, c3, c4, c5].drop 1).take (Tryz.prog.cellsOf 29)) = some x1 := hi 1 _ rfl
 have h2 : DataW.trod enc Tryz.prog W 0 (fun _ => true) true k 3 (([c0, c1, c2, c3, c4, c5].drop 5).take (Tryz.prog.cellsOf 3)) = some x2 := hi 2 _ rfl
 rw [cInt] at h0 h2
 rw [cFrac] at h1
 simp only [List.drop_zero, List.take_succ_cons, List.take_zero, List.drop_succ_cons] at h0 h1 h2
 obtain ⟨I, e0, -, -⟩ := DataW.trod_int Tryz.underlying3 h0
 obtain ⟨q, e1, hq⟩ := fcells_open h1
 obtain ⟨K, e2, -, -⟩ := DataW.trod_int Tryz.underlying3 h2
 simp only [List.cons.injEq, and_true] at e0 e1 e2
 obtain ⟨rfl, rfl, rfl, rfl⟩ := e1
 subst e0 e2
 exact ⟨⟨I, q, K⟩, rfl, hq⟩
set_option maxRecDepth 100000 in
theorem claims_open {b0 : Nat} {v : Value} {d : DataW H} {p : List MemPlace} (hv : Value.okWide Tryz.prog W .any b0 22 v) (h : DataW.Trod enc Tryz.prog W 0 (fun _ => true) true 22 v d p) :
  ∃ A n c r, v = .slice A n c ∧ ClM A n r W := by
 obtain ⟨a0, n0, c0, rfl⟩ := okWide_slice Tryz.underlying22 hv
 obtain ⟨fuel, hf⟩ := h
 have hf2 : DataW.trod enc Tryz.prog W 0 (fun _ => true) true fuel 22 [.slice a0 n0 c0] = some (d, p) := hf
 refine ⟨a0, n0, c0, ?_⟩
 rcases open_slice Tryz.underlying22 hf2 with ⟨e, -⟩ | ⟨a, len, cap, m, k, D, Pl, e, -, hlc, hcm, hm, -, hx⟩
 ·
  injection e with e
  injection e with e1 e2 e3
  subst e2
  exact ⟨fun _ => default, rfl, fun h0 => absurd h0 (Nat.lt_irrefl 0)⟩
 ·
  injection e with e
  injection e with e1 e2 e3
  subst e1 e2
  replace hm : m = cap := by simpa using hm
  have hsp : 0 < n0 → ∃ b o, a = ⟨b, o, none⟩ := fun h0 => by
   obtain ⟨cs', h1, h2⟩ := hx 0 (by omega)
   rw [cClaim] at h1
   obtain ⟨q, rfl, hq⟩ := ccl_open h2
   obtain ⟨-, -, hc⟩ := World.cells?_some h1
   have c0 := hc 0 (by omega)
   obtain ⟨b, o, spot⟩ := a
   have hs : spot = none := by simpa [Addr.add] using World.cell?_spot c0
   exact ⟨b, o, by rw [hs]⟩
  have each : ∀ i, i < n0 → ∃ q : Cl, (∃ b o, a = ⟨b, o, none⟩ ∧ b < W.heap.size ∧ q.cells W b (o + i * 6)) ∧ q.w.rd W := fun i hi => by
   obtain ⟨b, o, rfl⟩ := hsp (by omega)
   obtain ⟨cs', h1, h2⟩ := hx i (by omega)
   rw [cClaim, add_none] at h1
   obtain ⟨q, rfl, hq⟩ := ccl_open h2
   obtain ⟨-, -, hc⟩ := World.cells?_some h1
   have c0 := hc 0 (by omega)
   have c1 := hc 1 (by omega)
   have c2 := hc 2 (by omega)
   have c3 := hc 3 (by omega)
   have c4 := hc 4 (by omega)
   have c5 := hc 5 (by omega)
   rw [add_none] at c0 c1 c2 c3 c4 c5
   simp only [List.getElem?_cons_zero, List.getElem?_cons_succ, Nat.add_zero] at c0 c1 c2 c3 c4 c5
   exact ⟨q, ⟨b, o, rfl, cell_in c0, c0, c1, c2, c3, c4, c5⟩, hq⟩
  obtain ⟨r, hh⟩ := choose_lt each
  refine ⟨r, rfl, fun h0 => ?_⟩
  obtain ⟨⟨b, o, rfl, hb, -⟩, -⟩ := hh 0 h0
  refine ⟨b, o, rfl, hb, fun i hi => ?_⟩
  obtain ⟨⟨b', o', e, -, hc⟩, hr⟩ := hh i hi
  cases e
  exact ⟨hc, hr⟩
end
end Go.Proofs.YtjgihmmeimfheaaGreat
