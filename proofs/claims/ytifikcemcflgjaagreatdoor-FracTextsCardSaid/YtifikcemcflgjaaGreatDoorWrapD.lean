/-
  From the rows to the walks: what the listed variables give; a world for the witness.
-/
import Derived.Test.YtifikcemcflgjaaGreatDoorCards
import Derived.Test.YtifikcemcflgjaaGreatDoorTie
import Derived.Test.YtifikcemcflgjaaGreatDoorK11
import Derived.Lib.LaidTab
namespace Go.Proofs.YtifikcemcflgjaaGreatDoor
open Go.ChangeShapes Go.WideShapes Go.ChangeAt Go.RowKit

theorem wOwn : ownKnob Tryz.prog.godebug = none := by kernel_rfl
theorem gTab : Tryz.prog.globalNamed "internal/strconv.uint64pow10" = some 2 := by kernel_rfl
theorem gTabType : (Tryz.prog.globals[2]?).map (fun g => (Tryz.prog.underlying g.type, Tryz.prog.cellsOf g.type)) = some (some (.array 20 68), 20) := by kernel_rfl
theorem cells64 : Tryz.prog.cellsOf 68 = 1 := by kernel_rfl
theorem laidOutP : laidOutB Tryz.prog = true := by kernel_rfl
theorem pow10_data : (Rows.laid_internal_strconv_uint64pow10 : DataW Unit) = Lib.tabData .u64 Lib.pow10Tab := rfl
theorem tab_of_laid {W : World} (h : laidMetH Tryz.prog [("math/bits.deBruijn32tab", Rows.laid_math_bits_deBruijn32tab), ("math/bits.deBruijn64tab", Rows.laid_math_bits_deBruijn64tab), ("internal/strconv.uint64pow10", Rows.laid_internal_strconv_uint64pow10)] W) : Tab W := by
  obtain ⟨ps, ⟨g1, t1, cs1, f1, p1, q1, h1, h2, h3, h4, ⟨g2, t2, cs2, f2, p2, q2, k1, k2, k3, k4, ⟨g3, t3, cs3, f3, p3, q3, m1, m2, m3, m4, m5, m6⟩, k6⟩, h6⟩, _⟩ := h
  obtain rfl := Option.some.inj (gTab.symm.trans m1)
  have hty := gTabType
  rw [show (Tryz.prog.globals[2]?).map (fun g => (Tryz.prog.underlying g.type, Tryz.prog.cellsOf g.type)) = ((Tryz.prog.globals[2]?).map (·.type)).map (fun t => (Tryz.prog.underlying t, Tryz.prog.cellsOf t)) by rw [Option.map_map]; rfl, m2] at hty
  simp only [Option.map_some, Option.some.injEq, Prod.mk.injEq] at hty
  unfold Tab Lib.TabIs
  rw [m3, ← Lib.cells_of_tab hty.1 Tryz.underlying68 cells64 hty.2 m4]
/-- A world for the witness: the settled one, the tables holding what their initialisers lay. -/
def fillRow (g : Nat) (vs : Array Value) (h : Array Obj) : Array Obj := h.modify g fun
  | .cells _ t frozen => .cells vs t frozen
  | o => o
def vals (k : IntKind) (l : List Int) : Array Value := (l.map (Value.int k)).toArray
def bruijn32 : List Int := [0, 1, 28, 2, 29, 14, 24, 3, 30, 22, 20, 15, 25, 17, 4, 8, 31, 27, 13, 23, 21, 19, 16, 7, 26, 12, 18, 6, 11, 5, 10, 9]
def bruijn64 : List Int := [0, 1, 56, 2, 57, 49, 28, 3, 61, 58, 42, 50, 38, 29, 17, 4, 62, 47, 59, 36, 45, 43, 51, 22, 53, 39, 33, 30, 24, 18, 12, 5, 63, 55, 48, 27, 60, 41, 37, 16, 46, 35, 44, 21, 52, 32, 23, 11, 54, 26, 40, 15, 34, 20, 31, 10, 25, 14, 19, 9, 13, 8, 7, 6]
noncomputable def laidWorld (os : Os) : World :=
  { World.holding Tryz.prog os ⟨#[], #[], []⟩ with heap := fillRow 3 (vals .u8 bruijn32) (fillRow 4 (vals .u8 bruijn64) (fillRow 2 (vals .u64 Lib.pow10Tab) (World.holding Tryz.prog os ⟨#[], #[], []⟩).heap)) }
abbrev laidRows : List (String × DataW Unit) := [("math/bits.deBruijn32tab", Rows.laid_math_bits_deBruijn32tab), ("math/bits.deBruijn64tab", Rows.laid_math_bits_deBruijn64tab), ("internal/strconv.uint64pow10", Rows.laid_internal_strconv_uint64pow10)]
end Go.Proofs.YtifikcemcflgjaaGreatDoor
