/-
  Small words on memory: a slice that reads as numbers given by a function; a block of numbers that is known whole; bounds of draws.
-/
import Derived.Test.YtafglggjncnkkaaDoorMath1
import Derived.WalkKit
import Derived.WalkSpells
import Derived.Deep.AppendLies
import Derived.Deep.Draws
import Derived.Lib.Hide
import Derived.Laws.MakeOwn
import Derived.Laws.Entries
import Derived.Laws.Rows
import Derived.Test.YtafglggjncnkkaaDoorProg
namespace Go.Proofs.YtafglggjncnkkaaDoor
open Go.RowKit

/-- The slice value '.slice A n c' reads as the numbers f 0, .., f (n - 1) of kind k, in a block below B. -/
def Rd (B : Nat) (k : IntKind) (w : World) (A : Option Addr) (n : Nat) (f : Nat → Nat) : Prop :=
  0 < n → ∃ b o, A = some ⟨b, o, none⟩ ∧ b < B ∧ ∀ i, i < n → w.cell? ⟨b, o + i, none⟩ = some (.int k (f i : Int))

section
variable {w w' : World} {B B' : Nat} {k : IntKind} {A : Option Addr} {n : Nat} {f f' : Nat → Nat}
theorem Rd.nil : Rd B k w A 0 f := fun h => absurd h (by omega)
theorem Rd.keep (h : Rd B k w A n f) (hk : ∀ p : Addr, p.block < B → w'.cell? p = w.cell? p) : Rd B k w' A n f := fun hn => by
  obtain ⟨b, o, e, hb, hc⟩ := h hn
  exact ⟨b, o, e, hb, fun i hi => (hk _ hb).trans (hc i hi)⟩
theorem Rd.more (h : Rd B k w A n f) (hB : B ≤ B') : Rd B' k w A n f := fun hn => by
  obtain ⟨b, o, e, hb, hc⟩ := h hn
  exact ⟨b, o, e, by omega, hc⟩
theorem Rd.below (h : Rd B k w A n f) (hb : Below B w w') : Rd B k w' A n f := h.keep fun _ hp => hb.cell hp
theorem Rd.shorter (h : Rd B k w A n f) {j : Nat} (hj : j ≤ n) : Rd B k w A j f := fun hn => by
  obtain ⟨b, o, e, hb, hc⟩ := h (by omega)
  exact ⟨b, o, e, hb, fun i hi => hc i (by omega)⟩
theorem Rd.congr (h : Rd B k w A n f) (hf : ∀ i, i < n → f i = f' i) : Rd B k w A n f' := fun hn => by
  obtain ⟨b, o, e, hb, hc⟩ := h hn
  exact ⟨b, o, e, hb, fun i hi => by rw [← hf i hi]; exact hc i hi⟩
theorem Rd.drew (h : Rd B k w A n f) : Rd B k w.drew A n f := h
theorem Rd.drewN (h : Rd B k w A n f) (m : Nat) : Rd B k (w.drewN m) A n f := h
theorem Rd.alloc (h : Rd B k w A n f) (hB : B ≤ w.heap.size) (o : Obj) : Rd B k (w.alloc o) A n f := h.keep fun p hp => World.cell?_alloc_lt w o p (by omega)
theorem Rd.setCell (h : Rd B k w A n f) {p : Addr} (hB : B ≤ p.block) (u : Value) : Rd B k (w.setCell p u) A n f :=
  h.keep fun q hq => World.cell?_setCell_other w p q u (fun e => by subst e; omega)
theorem Rd.grown (h : Rd B k w A n f) {row : Option Nat} (hg : w.grownBy w' row) (hB : B ≤ w.heap.size) (hr : ∀ g, row = some g → B ≤ g) : Rd B k w' A n f :=
  h.keep fun p hp => World.cell?_of_block (hg.block p.block (by omega) (fun e => by have := hr _ e.symm; omega))
end

/-- The cells of m numbers. -/
def nums (k : IntKind) (m : Nat) (f : Nat → Nat) : List Value := (List.range m).map fun j => Value.int k (f j : Int)
theorem nums_length (k : IntKind) (m : Nat) (f : Nat → Nat) : (nums k m f).length = m := by simp [nums]
theorem nums_get {k : IntKind} {m : Nat} {f : Nat → Nat} {i : Nat} (hi : i < m) : (nums k m f)[i]? = some (.int k (f i : Int)) := by simp [nums, hi]
theorem nums_congr {k : IntKind} {m : Nat} {f g : Nat → Nat} (h : ∀ j, j < m → f j = g j) : nums k m f = nums k m g := by
  unfold nums
  refine List.map_congr_left fun j hj => ?_
  rw [h j (List.mem_range.1 hj)]
theorem nums_set {k : IntKind} {m : Nat} {f g : Nat → Nat} {i : Nat} {u : Nat} (hi : g i = u) (h : ∀ j, j ≠ i → g j = f j) : (nums k m f).set i (.int k (u : Int)) = nums k m g := by
  refine List.ext_getElem? fun j => ?_
  by_cases hj : j < m
  · rw [nums_get hj, List.getElem?_set]
    by_cases e : i = j
    · subst e
      rw [if_pos rfl, if_pos (by rw [nums_length]; exact hj), hi]
    · rw [if_neg e, nums_get hj, h j (Ne.symm e)]
  · rw [List.getElem?_eq_none (by rw [List.length_set, nums_length]; omega), List.getElem?_eq_none (by rw [nums_length]; omega)]
theorem nums_zero (k : IntKind) (m : Nat) : nums k m (fun _ => 0) = List.replicate m (.int k 0) := by
  refine List.ext_getElem? fun j => ?_
  by_cases hj : j < m
  · rw [nums_get hj, List.getElem?_replicate, if_pos hj]; rfl
  · rw [List.getElem?_eq_none (by rw [nums_length]; omega), List.getElem?_eq_none (by simp; omega)]

/-- Block g has c cells (element type t), none frozen; the first m are the numbers f 0, .., f (m - 1) of kind k. -/
def Row (w : World) (g t : Nat) (k : IntKind) (c m : Nat) (f : Nat → Nat) : Prop := ∃ cur : Array Value, w.heap[g]? = some (.cells cur t (0, 0)) ∧ cur.size = c ∧ ∀ i, i < m → cur[i]? = some (.int k (f i : Int))

section
variable {w w' : World} {g t c m B : Nat} {k : IntKind} {f f' : Nat → Nat}
theorem heap_lt {w : World} {g : Nat} {o : Obj} (h : w.heap[g]? = some o) : g < w.heap.size := by
  rcases Nat.lt_or_ge g w.heap.size with hlt | hge
  · exact hlt
  · rw [Array.getElem?_eq_none hge] at h; cases h
theorem Row.lt (h : Row w g t k c m f) : g < w.heap.size := by obtain ⟨cur, h, _⟩ := h; exact heap_lt h
theorem Row.cell (h : Row w g t k c m f) {i : Nat} (hi : i < m) : w.cell? ⟨g, i, none⟩ = some (.int k (f i : Int)) := by
  obtain ⟨cur, h, _, hc⟩ := h
  rw [cell_of_row w g i _ t (0, 0) h]
  exact hc i hi
theorem Row.frozen (h : Row w g t k c m f) (i : Nat) : w.frozen? ⟨g, i, none⟩ = false := by
  obtain ⟨cur, h, _⟩ := h
  simp [World.frozen?, h]
theorem Row.congr (h : Row w g t k c m f) (hf : ∀ j, j < m → f j = f' j) : Row w g t k c m f' := by
  obtain ⟨cur, h, hs, hc⟩ := h
  exact ⟨cur, h, hs, fun i hi => by rw [← hf i hi]; exact hc i hi⟩
theorem Row.shorter (h : Row w g t k c m f) {n : Nat} (hn : n ≤ m) : Row w g t k c n f := by
  obtain ⟨cur, h, hs, hc⟩ := h
  exact ⟨cur, h, hs, fun i hi => hc i (by omega)⟩
theorem Row.drew (h : Row w g t k c m f) : Row w.drew g t k c m f := h
theorem Row.drewN (h : Row w g t k c m f) (n : Nat) : Row (w.drewN n) g t k c m f := h
theorem Row.alloc (h : Row w g t k c m f) (o : Obj) : Row (w.alloc o) g t k c m f := by
  have hlt := h.lt
  obtain ⟨cur, h, r⟩ := h
  exact ⟨cur, (Below.heap_alloc w o g hlt).trans h, r⟩
theorem Row.set (h : Row w g t k c m f) {i u : Nat} (hi : f' i = u) (hf : ∀ j, j < m → j ≠ i → f' j = f j) : Row (w.setCell ⟨g, i, none⟩ (.int k (u : Int))) g t k c m f' := by
  obtain ⟨cur, h, hs, hc⟩ := h
  refine ⟨cur.setIfInBounds i (.int k (u : Int)), by simp [World.setCell, Array.getElem?_modify, h], by simpa using hs, fun j hj => ?_⟩
  have hsz : j < cur.size := (Array.getElem?_eq_some_iff.1 (hc j hj)).1
  rw [Array.getElem?_setIfInBounds]
  by_cases e : i = j
  · subst e
    rw [if_pos rfl, if_pos hsz, hi]
  · rw [if_neg e, hf j hj (Ne.symm e)]
    exact hc j hj
theorem Row.setI (h : Row w g t k c m f) {i : Nat} {x : Int} (hx : x = (f' i : Int)) (hf : ∀ j, j < m → j ≠ i → f' j = f j) : Row (w.setCell ⟨g, i, none⟩ (.int k x)) g t k c m f' := by
  subst hx
  exact h.set rfl hf
theorem Row.push (h : Row w g t k c m f) (hm : m < c) {u : Nat} (hu : f m = u) : Row (w.setCell ⟨g, m, none⟩ (.int k (u : Int))) g t k c (m + 1) f := by
  obtain ⟨cur, h, hs, hc⟩ := h
  refine ⟨cur.setIfInBounds m (.int k (u : Int)), by simp [World.setCell, Array.getElem?_modify, h], by simpa using hs, fun j hj => ?_⟩
  rw [Array.getElem?_setIfInBounds]
  by_cases e : m = j
  · subst e
    rw [if_pos rfl, if_pos (by omega), hu]
  · rw [if_neg e]
    exact hc j (by omega)
theorem Row.far (h : Row w g t k c m f) {p : Addr} (hp : g ≠ p.block) (u : Value) : Row (w.setCell p u) g t k c m f := by
  obtain ⟨cur, h, r⟩ := h
  exact ⟨cur, (Below.heap_setCell w p u g hp).trans h, r⟩
theorem Row.below (h : Row w g t k c m f) (hb : Below B w w') (hg : g < B) : Row w' g t k c m f := by
  obtain ⟨cur, h, r⟩ := h
  exact ⟨cur, (hb.block g hg).trans h, r⟩
theorem Row.grown (h : Row w g t k c m f) {row : Option Nat} (hb : w.grownBy w' row) (hg : some g ≠ row) : Row w' g t k c m f := by
  have hlt := h.lt
  obtain ⟨cur, h, r⟩ := h
  exact ⟨cur, (hb.block g hlt hg).trans h, r⟩
theorem Row.rd (h : Row w g t k c m f) {n : Nat} (hn : n ≤ m) (hB : g < B) : Rd B k w (some ⟨g, 0, none⟩) n f := fun _ =>
  ⟨g, 0, rfl, hB, fun i hi => by rw [Nat.zero_add]; exact h.cell (by omega)⟩
theorem Row.made {w : World} {t m : Nat} {k : IntKind} : Row (w.alloc (.cells (madeCells #[.int k 0] m) t)) w.heap.size t k m m (fun _ => 0) := by
  refine ⟨_, heap_alloc_new _ _, ?_, fun i hi => ?_⟩
  · have := congrArg List.length (toList_madeCells_one (.int k 0) m)
    simpa using this
  · rw [← Array.getElem?_toList, toList_madeCells_one, List.getElem?_replicate, if_pos hi]
    rfl
theorem nums_of {cur : Array Value} (h : ∀ i, i < m → cur[i]? = some (.int k (f i : Int))) : cur.toList.take m = nums k m f := by
  refine List.ext_getElem? fun j => ?_
  rw [List.getElem?_take]
  by_cases hj : j < m
  · rw [if_pos hj, nums_get hj, Array.getElem?_toList]
    exact h j hj
  · rw [if_neg hj, List.getElem?_eq_none (by rw [nums_length]; omega)]
theorem of_nums {cur : Array Value} (h : cur.toList.take m = nums k m f) : ∀ i, i < m → cur[i]? = some (.int k (f i : Int)) := fun i hi => by
  have h1 := congrArg (·[i]?) h
  simp only [List.getElem?_take, if_pos hi, Array.getElem?_toList, nums_get hi] at h1
  exact h1
theorem Row.own {base n : Nat} (h : Row w g t k c m f) (hb : base ≤ g) (hn : n ≤ m) (hc : n ≤ c) (hm : c ≤ maxLen) : w.ownsRow base t 1 (.slice (some ⟨g, 0, none⟩) n c) n (nums k n f) := by
  obtain ⟨cur, h, hs, hcell⟩ := h
  exact ⟨by rw [nums_length]; omega, .inr ⟨g, c, cur, rfl, hb, h, hc, hm, by omega, by rw [Nat.mul_one]; exact nums_of fun i hi => hcell i (by omega)⟩⟩
theorem Row.of_own {base n : Nat} {v : Value} (h : w.ownsRow base t 1 v n (nums k n f)) : v = .slice none 0 0 ∧ n = 0 ∨ ∃ g c, v = .slice (some ⟨g, 0, none⟩) n c ∧ base ≤ g ∧ n ≤ c ∧ c ≤ maxLen ∧ Row w g t k c n f := by
  rcases h.2 with h0 | ⟨g, cap, cur, hv, hg, hh, hn, hm, hs, ht⟩
  · exact .inl h0
  · exact .inr ⟨g, cap, hv, hg, hn, hm, cur, hh, by omega, of_nums (by rwa [Nat.mul_one] at ht)⟩
end

/-- As Row, of a slice that may be nil or empty: where it has elements it begins at the head of a row, from block 'base' on. -/
def RowO (base : Nat) (w : World) (A : Option Addr) (t : Nat) (k : IntKind) (c m : Nat) (f : Nat → Nat) : Prop := 0 < m → ∃ g, A = some ⟨g, 0, none⟩ ∧ base ≤ g ∧ Row w g t k c m f
theorem RowO.of_own {base n : Nat} {w : World} {t : Nat} {k : IntKind} {f : Nat → Nat} {v : Value} (h : w.ownsRow base t 1 v n (nums k n f)) : ∃ A c, v = .slice A n c ∧ n ≤ c ∧ RowO base w A t k c n f := by
  rcases Row.of_own h with ⟨rfl, h0⟩ | ⟨g, c, rfl, hg, hnc, _, hr⟩
  · exact ⟨none, 0, by rw [h0], by omega, fun hn => absurd hn (by omega)⟩
  · exact ⟨_, _, rfl, hnc, fun _ => ⟨g, rfl, hg, hr⟩⟩
theorem RowO.rd {base n : Nat} {w : World} {A : Option Addr} {t c : Nat} {k : IntKind} {f : Nat → Nat} (h : RowO base w A t k c n f) : Rd w.heap.size k w A n f := fun hn => by
  obtain ⟨g, rfl, _, hr⟩ := h hn
  exact hr.rd (Nat.le_refl _) hr.lt hn
theorem RowO.congr {base n : Nat} {w : World} {A : Option Addr} {t c : Nat} {k : IntKind} {f f' : Nat → Nat} (h : RowO base w A t k c n f) (hf : ∀ j, j < n → f j = f' j) : RowO base w A t k c n f' := fun hn => by
  obtain ⟨g, e, hg, hr⟩ := h hn
  exact ⟨g, e, hg, hr.congr hf⟩

/-- 'make([]T, n, c)' with n, c that are variables: an equation for every world. -/
theorem run_make_rowN {P : Program} (t e : TypeId) (i : TypeInfo) (z : Value) (ht : P.underlying t = some (.slice e)) (hi : P.info? e = some i) (hz : i.zero = some z)
    (kl kc : IntKind) (n c : Nat) (hnc : n ≤ c) (hbytes : i.bytes * c ≤ 281474976710656) (h63 : c ≤ 9223372036854775807) (w : World) :
    (Instr.makeSlice t (.int kl (n : Int)) (.int kc (c : Int))).run P w = .ok (.slice (some ⟨w.heap.size, 0, none⟩) n c) (w.alloc (.cells (madeCells z.cells (c * i.size)) e)) := by
  have hb : (i.bytes : Int) * (c : Int) ≤ 281474976710656 := by
    have h : ((i.bytes * c : Nat) : Int) ≤ 281474976710656 := by omega
    rwa [Int.natCast_mul] at h
  have hr := run_make (P := P) w t e i z ht hi hz kl kc n c (by omega) (by omega) hb (by omega)
  simp only [Int.toNat_natCast] at hr
  exact hr

theorem bcell {B : Nat} {W w1 : World} (hb : Below B W w1) : (∀ b o, b < B → w1.cell? ⟨b, o, none⟩ = W.cell? ⟨b, o, none⟩) ∧ (∀ b o, b < B → w1.frozen? ⟨b, o, none⟩ = W.frozen? ⟨b, o, none⟩) :=
  ⟨fun b o h => hb.cell (p := ⟨b, o, none⟩) h, fun b o h => hb.frozen (p := ⟨b, o, none⟩) h⟩
theorem belowN {B : Nat} {a w : World} (h : Below B a w) (n : Nat) : Below B a (w.drewN n) := ⟨h.os, h.tape, h.output, h.size, h.block⟩
theorem int_toNat {k : IntKind} {u : Int} (h : 0 ≤ u) : Value.int k u = .int k (u.toNat : Int) := by rw [Int.toNat_of_nonneg h]
theorem ret_int {k : IntKind} {a b : Int} (h : a = b) : Ending.returned (.int k a) = .returned (.int k b) := by rw [h]
theorem ret_slice {A : Option Addr} {m m' c : Nat} (h : m = m') : Ending.returned (.slice A m c) = .returned (.slice A m' c) := by rw [h]
theorem ret_ints {k k' : IntKind} {a b a' b' : Int} (h : a = b) (h' : a' = b') : Ending.returned (.tuple #[.int k a, .int k' a']) = .returned (.tuple #[.int k b, .int k' b']) := by rw [h, h']
end Go.Proofs.YtafglggjncnkkaaDoor
/-! Closed facts on the types that the functions use. -/
namespace Go.Proofs.YtafglggjncnkkaaDoor
open Go.RowKit

theorem info_u32 : (Tryd.prog.info? 57).map (fun i => (i.zero, i.size, i.bytes)) = some (some (.int .u32 0), 1, 4) := by kernel_rfl
theorem info_u16 : (Tryd.prog.info? 40).map (fun i => (i.zero, i.size, i.bytes)) = some (some (.int .u16 0), 1, 2) := by kernel_rfl
theorem info_u8 : (Tryd.prog.info? 5).map (fun i => (i.zero, i.size, i.bytes)) = some (some (.int .u8 0), 1, 1) := by kernel_rfl

/-- 'make([]uint32, n, c)'. -/
theorem mk32 (n c : Nat) (hnc : n ≤ c) (hc : c ≤ 1000000000000) (w : World) :
    (Instr.makeSlice 54 (.int .i64 (n : Int)) (.int .i64 (c : Int))).run Tryd.prog w = .ok (.slice (some ⟨w.heap.size, 0, none⟩) n c) (w.alloc (.cells (madeCells #[.int .u32 0] c) 57)) := by
  obtain ⟨i, hi, hz, hs, hb⟩ := info_parts info_u32
  have h := run_make_rowN (P := Tryd.prog) 54 57 i _ Tryd.underlying54 hi hz .i64 .i64 n c hnc (by rw [hb]; omega) (by omega) w
  rw [hs, Nat.mul_one] at h
  exact h
/-- 'make([]uint16, n, c)'. -/
theorem mk16 (n c : Nat) (hnc : n ≤ c) (hc : c ≤ 1000000000000) (w : World) :
    (Instr.makeSlice 22 (.int .i64 (n : Int)) (.int .i64 (c : Int))).run Tryd.prog w = .ok (.slice (some ⟨w.heap.size, 0, none⟩) n c) (w.alloc (.cells (madeCells #[.int .u16 0] c) 40)) := by
  obtain ⟨i, hi, hz, hs, hb⟩ := info_parts info_u16
  have h := run_make_rowN (P := Tryd.prog) 22 40 i _ Tryd.underlying22 hi hz .i64 .i64 n c hnc (by rw [hb]; omega) (by omega) w
  rw [hs, Nat.mul_one] at h
  exact h
end Go.Proofs.YtafglggjncnkkaaDoor
/-! Numbers in memory: the words (base 2^32), the limbs (base 2^16); the posts of the functions that return them. -/
namespace Go.Proofs.YtafglggjncnkkaaDoor
open Go.RowKit

/-- '.slice A (ln b32 x) c' holds the words of x. -/
def Num32 (w : World) (A : Option Addr) (x : Nat) : Prop := Rd w.heap.size .u32 w A (ln b32 x) (dgt b32 x)
/-- '.slice A (ln b16 x) c' holds the limbs of x. -/
def Num16 (w : World) (A : Option Addr) (x : Nat) : Prop := Rd w.heap.size .u16 w A (ln b16 x) (dgt b16 x)
/-- The call returned a slice of the words of x; what was there is as it was. -/
def W32 (w : World) (x : Nat) (e : Ending) (w' : World) : Prop :=
  ∃ A c, e = .returned (.slice A (ln b32 x) c) ∧ ln b32 x ≤ c ∧ Num32 w' A x ∧ Below w.heap.size w w'
/-- The limbs f 0, .., f (n - 1) in a row of the call's own, from block 'base' on. -/
def Own16 (base : Nat) (w : World) (A : Option Addr) (n c : Nat) (f : Nat → Nat) : Prop := w.ownsRow base 40 1 (.slice A n c) n (nums .u16 n f)
/-- The call returned a whole number, in memory of its own. -/
def WW (w : World) (z : Bool) (x : Nat) (e : Ending) (w' : World) : Prop :=
  ∃ A c, e = .returned (.agg #[.bool z, .slice A (ln b16 x) c]) ∧ Own16 w.heap.size w' A (ln b16 x) c (dgt b16 x) ∧ Below w.heap.size w w'

theorem Num32.below {w w' : World} {A : Option Addr} {x : Nat} (h : Num32 w A x) (hb : Below w.heap.size w w') : Num32 w' A x := (Rd.below h hb).more hb.size
theorem Num16.below {w w' : World} {A : Option Addr} {x : Nat} (h : Num16 w A x) (hb : Below w.heap.size w w') : Num16 w' A x := (Rd.below h hb).more hb.size
theorem Num32.zero (w : World) (A : Option Addr) : Num32 w A 0 := by unfold Num32; rw [ln_zero]; exact Rd.nil
theorem Num16.zero (w : World) (A : Option Addr) : Num16 w A 0 := by unfold Num16; rw [ln_zero]; exact Rd.nil
theorem Num32.of_rd {w : World} {A : Option Addr} {n : Nat} {f : Nat → Nat} (h : Rd w.heap.size .u32 w A n f) (hf : ∀ i, i < n → f i < 4294967296) : Num32 w A (vs b32 f n) := by
  have hl : ln b32 (vs b32 f n) ≤ n := (ln_le b32_two).2 (vs_lt hf)
  exact (h.shorter hl).congr fun i hi => (dgt_vs hf (by omega)).symm

theorem Own16.of_row {base : Nat} {w : World} {g c m n : Nat} {f : Nat → Nat} (h : Row w g 40 .u16 c m f) (hb : base ≤ g) (hn : n ≤ m) (hnc : n ≤ c) (hc : c ≤ 1000000000) : Own16 base w (some ⟨g, 0, none⟩) n c f :=
  h.own hb hn hnc (by unfold maxLen; omega)
theorem Own16.congr {base : Nat} {w : World} {A : Option Addr} {n c : Nat} {f g : Nat → Nat} (h : Own16 base w A n c f) (hf : ∀ i, i < n → f i = g i) : Own16 base w A n c g := by
  unfold Own16 at h ⊢
  rw [← nums_congr hf]
  exact h
theorem Own16.nil (base : Nat) (w : World) (f : Nat → Nat) : Own16 base w none 0 0 f := World.ownsRow_nil ..
theorem Own16.rd {base : Nat} {w : World} {A : Option Addr} {n c : Nat} {f : Nat → Nat} (h : Own16 base w A n c f) : Rd w.heap.size .u16 w A n f := fun hn => by
  obtain ⟨g, cap, hv, _, hlt⟩ := h.form hn
  have hA : A = some ⟨g, 0, none⟩ := by injection hv
  subst hA
  refine ⟨g, 0, rfl, hlt, fun i hi => ?_⟩
  have h1 := h.cells (g := g) rfl i _ (nums_get hi)
  rw [Nat.zero_add]
  by_cases h0 : i = 0
  · subst h0; simpa [Addr.add] using h1
  · simpa [Addr.add, h0] using h1
theorem Own16.num {base : Nat} {w : World} {A : Option Addr} {c x : Nat} (h : Own16 base w A (ln b16 x) c (dgt b16 x)) : Num16 w A x := Own16.rd h
theorem Own16.lower {base base' : Nat} {w : World} {A : Option Addr} {n c : Nat} {f : Nat → Nat} (h : Own16 base w A n c f) (hb : base' ≤ base) : Own16 base' w A n c f := by
  obtain ⟨h1, h2⟩ := h
  refine ⟨h1, ?_⟩
  rcases h2 with h2 | ⟨g, cap, cur, hv, hg, r⟩
  · exact .inl h2
  · exact .inr ⟨g, cap, cur, hv, by omega, r⟩
theorem Own16.below {base B : Nat} {w w' : World} {A : Option Addr} {n c : Nat} {f : Nat → Nat} (h : Own16 base w A n c f) (hb : Below B w w') (hB : w.heap.size ≤ B) : Own16 base w' A n c f := by
  obtain ⟨h1, h2⟩ := h
  refine ⟨h1, ?_⟩
  rcases h2 with h2 | ⟨g, cap, cur, hv, hg, hh, r⟩
  · exact .inl h2
  · have hlt : g < w.heap.size := by
      rcases Nat.lt_or_ge g w.heap.size with hlt | hge
      · exact hlt
      · rw [Array.getElem?_eq_none hge] at hh; cases hh
    exact .inr ⟨g, cap, cur, hv, hg, (hb.block g (by omega)).trans hh, r⟩
theorem Own16.le {base : Nat} {w : World} {A : Option Addr} {n c : Nat} {f : Nat → Nat} (h : Own16 base w A n c f) : n ≤ c := by
  rcases h.2 with ⟨hv, hn⟩ | ⟨g, cap, cur, hv, _, _, hn, _⟩
  · omega
  · injection hv with _ _ e
    omega
/-- A clone: n numbers in a row of the call's own (nil for nil). -/
def ClonePost (t : TypeId) (k : IntKind) (A : Option Addr) (n : Nat) (f : Nat → Nat) (w : World) (e : Ending) (w' : World) : Prop :=
  ∃ v, e = .returned v ∧ w'.ownsRow w.heap.size t 1 v n (nums k n f) ∧ Below w.heap.size w w' ∧ (A = none → v = .slice none 0 0)

end Go.Proofs.YtafglggjncnkkaaDoor
