/-
  From the rows to the walks: what the listed variables give, what an argument of the type Whole is, a world for the witness.
-/
import Derived.Test.YtafglggjncnkkaaDoorCards
import Derived.Test.YtafglggjncnkkaaDoorTie
import Derived.Test.YtafglggjncnkkaaDoorV
import Derived.ProofKit
import Derived.OpenShut
import Derived.Carry
import Derived.Deep.DeepHandedRow
import Derived.Lib.LaidTab
import Derived.Lib.SmallJoins
namespace Go.Proofs.YtafglggjncnkkaaDoor
open Go.ChangeShapes Go.WideShapes Go.ChangeAt Go.RowKit

theorem wOwn : ownKnob Tryd.prog.godebug = none := by kernel_rfl
theorem gTab : Tryd.prog.globalNamed "internal/strconv.uint64pow10" = some 1 := by kernel_rfl
theorem gTabType : (Tryd.prog.globals[1]?).map (fun g => (Tryd.prog.underlying g.type, Tryd.prog.cellsOf g.type)) = some (some (.array 20 64), 20) := by kernel_rfl
theorem cells64 : Tryd.prog.cellsOf 64 = 1 := by kernel_rfl
theorem cells16 : Tryd.prog.cellsOf 40 = 1 := by kernel_rfl
theorem cellsWhole : Tryd.prog.cellsOf 24 = 2 := by kernel_rfl
theorem laidOutP : laidOutB Tryd.prog = true := by kernel_rfl
theorem recWhole : Tryd.prog.readableRec 24 = true := by kernel_rfl
theorem ltWhole : 24 < Tryd.prog.types.size := of_decide_eq_true (by kernel_rfl)
theorem pow10_data : (Rows.laid_internal_strconv_uint64pow10 : DataW Unit) = Lib.tabData .u64 Lib.pow10Tab := rfl
theorem tab_of_laid {W : World} (h : laidMetH Tryd.prog [("math/bits.deBruijn32tab", Rows.laid_math_bits_deBruijn32tab), ("math/bits.deBruijn64tab", Rows.laid_math_bits_deBruijn64tab), ("internal/strconv.uint64pow10", Rows.laid_internal_strconv_uint64pow10)] W) : Tab W := by
  obtain ⟨ps, ⟨g1, t1, cs1, f1, p1, q1, h1, h2, h3, h4, ⟨g2, t2, cs2, f2, p2, q2, k1, k2, k3, k4, ⟨g3, t3, cs3, f3, p3, q3, m1, m2, m3, m4, m5, m6⟩, k6⟩, h6⟩, _⟩ := h
  obtain rfl := Option.some.inj (gTab.symm.trans m1)
  have hty := gTabType
  rw [show (Tryd.prog.globals[1]?).map (fun g => (Tryd.prog.underlying g.type, Tryd.prog.cellsOf g.type)) = ((Tryd.prog.globals[1]?).map (·.type)).map (fun t => (Tryd.prog.underlying t, Tryd.prog.cellsOf t)) by rw [Option.map_map]; rfl, m2] at hty
  simp only [Option.map_some, Option.some.injEq, Prod.mk.injEq] at hty
  unfold Tab Lib.TabIs
  rw [m3, ← Lib.cells_of_tab hty.1 Tryd.underlying64 cells64 hty.2 m4]
theorem cell_lt {w : World} {b o : Nat} {v : Value} (h : w.cell? ⟨b, o, none⟩ = some v) : b < w.heap.size := by
  rcases Nat.lt_or_ge b w.heap.size with h1 | h1
  · exact h1
  · simp [World.cell?, Array.getElem?_eq_none h1] at h
set_option maxRecDepth 100000 in
/-- An argument of the type Whole: a sign and a slice of limbs. -/
theorem whole_open {H : Type} {enc : TypeId × Value → H} {W : World} {b0 : Nat} {v : Value} {d : DataW H} {p : List MemPlace} (hv : Value.okWide Tryd.prog W .any b0 24 v) (h : DataW.Trod enc Tryd.prog W 0 (fun _ => true) true 24 v d p) :
    ∃ s A n c f, v = .agg #[.bool s, .slice A n c] ∧ Rd W.heap.size .u16 W A n f ∧ ∀ j, j < n → f j < 65536 := by
  obtain ⟨v0, v1, y0, y1, m, rfl, rfl, rfl, h0, h1⟩ := Joins.open_agg2 Tryd.underlying24 (by kernel_rfl) cellsWhole hv h
  obtain ⟨s, e0, -⟩ := DataW.trod_bool Tryd.underlying4 h0
  injection e0 with e0
  subst e0
  rcases open_ints Tryd.underlying22 Tryd.underlying40 cells16 h1 with ⟨e1, -⟩ | ⟨a, len, cap, zs, e1, -, hlc, hcm, hzl, -, hc, hwf⟩
  · injection e1 with e1
    subst e1
    exact ⟨s, none, 0, 0, fun _ => 0, rfl, Rd.nil, fun j hj => absurd hj (by omega)⟩
  · injection e1 with e1
    subst e1
    replace hzl : zs.length = cap := by simpa using hzl
    have hb : ∀ j, 0 ≤ zs.getD j 0 ∧ zs.getD j 0 ≤ 65535 := fun j => by rw [List.getD_eq_getElem?_getD]; exact range_u16 hwf j
    refine ⟨s, some a, len, cap, fun j => (zs.getD j 0).toNat, rfl, fun hn => ?_, fun j _ => by have := hb j; show (zs.getD j 0).toNat < 65536; omega⟩
    obtain ⟨b, o, rfl, hcell⟩ := ints_at hc (by omega)
    refine ⟨b, o, rfl, ?_, fun i hi => ?_⟩
    · exact cell_lt (hcell 0 (by omega))
    · rw [hcell i (by omega), Int.toNat_of_nonneg (hb i).1]

/-- A world for the witness: the settled one, the tables holding what their initialisers lay. -/
def fillRow (g : Nat) (vs : Array Value) (h : Array Obj) : Array Obj := h.modify g fun
  | .cells _ t frozen => .cells vs t frozen
  | o => o
def vals (k : IntKind) (l : List Int) : Array Value := (l.map (Value.int k)).toArray
def bruijn32 : List Int := [0, 1, 28, 2, 29, 14, 24, 3, 30, 22, 20, 15, 25, 17, 4, 8, 31, 27, 13, 23, 21, 19, 16, 7, 26, 12, 18, 6, 11, 5, 10, 9]
def bruijn64 : List Int := [0, 1, 56, 2, 57, 49, 28, 3, 61, 58, 42, 50, 38, 29, 17, 4, 62, 47, 59, 36, 45, 43, 51, 22, 53, 39, 33, 30, 24, 18, 12, 5, 63, 55, 48, 27, 60, 41, 37, 16, 46, 35, 44, 21, 52, 32, 23, 11, 54, 26, 40, 15, 34, 20, 31, 10, 25, 14, 19, 9, 13, 8, 7, 6]
noncomputable def laidWorld (os : Os) : World :=
  { World.holding Tryd.prog os ⟨#[], #[], []⟩ with heap := fillRow 2 (vals .u8 bruijn32) (fillRow 3 (vals .u8 bruijn64) (fillRow 1 (vals .u64 Lib.pow10Tab) (World.holding Tryd.prog os ⟨#[], #[], []⟩).heap)) }
abbrev laidRows : List (String × DataW Unit) := [("math/bits.deBruijn32tab", Rows.laid_math_bits_deBruijn32tab), ("math/bits.deBruijn64tab", Rows.laid_math_bits_deBruijn64tab), ("internal/strconv.uint64pow10", Rows.laid_internal_strconv_uint64pow10)]
end Go.Proofs.YtafglggjncnkkaaDoor
