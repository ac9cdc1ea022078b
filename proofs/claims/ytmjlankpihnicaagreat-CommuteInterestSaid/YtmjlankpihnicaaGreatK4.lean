/-
  Several texts in one: Division of whole numbers, rounded down: from absolute values and signs. The walk of whole.DivMod: a divisor that is not 0. The walk of whole.Gcd. The walks of the laws' num, is and awake. The walk of whole.Sub. The walk of whole.Cmp. Whole numbers as values: the contracts of the functions of whole and of the laws' helpers, for callers that hold numbers. Fractions: plain laws on lowest terms, lengths and denominators. Blocks that are known whole; numbers and fractions in memory are kept where such a block is written. Blocks that are made ahead of the calls that give their values; the boxes of numbers. Fractions in memory; the walks of isOne, opposite, divisor, plus, times and divide of frac. The walks of divisor, plus, times, divide and opposite of frac.
-/
import Derived.Test.YtmjlankpihnicaaGreatK2
import Derived.Test.YtmjlankpihnicaaGreatK3
import Derived.Deep.CutBlock
import Derived.Deep.DeepCutAuto
import Derived.Deep.RegionHeld3
import Derived.Test.YtmjlankpihnicaaGreatK1
import Derived.Deep.CutRange
import Derived.Deep.DrawnRows
namespace Go.Proofs.YtmjlankpihnicaaGreat
open Go.RowKit

theorem fd_unique {a b q r : Int} (h : a = q * b + r) (hr : (0 ≤ r ∧ r < b) ∨ (b < r ∧ r ≤ 0)) : q = a.fdiv b ∧ r = a.fmod b := by
  rcases hr with ⟨h1, h2⟩ | ⟨h1, h2⟩
  · have hb : 0 < b := by omega
    rw [Int.fdiv_eq_ediv_of_nonneg _ (by omega), Int.fmod_eq_emod_of_nonneg _ (by omega)]
    have := (Int.ediv_emod_unique hb (a := a) (q := q) (r := r)).2 ⟨by rw [h, Int.mul_comm]; omega, h1, h2⟩
    exact ⟨this.1.symm, this.2.symm⟩
  · have hb : 0 < -b := by omega
    have e1 : a.fdiv b = (-a).fdiv (-b) := by rw [Int.neg_fdiv_neg]
    have hm := Int.mul_fdiv_add_fmod a b
    have hm' := Int.mul_fdiv_add_fmod (-a) (-b)
    rw [← e1] at hm'
    have e2 : a.fmod b = - (-a).fmod (-b) := by rw [Int.neg_mul] at hm'; omega
    rw [e1, e2, Int.fdiv_eq_ediv_of_nonneg _ (by omega), Int.fmod_eq_emod_of_nonneg _ (by omega)]
    have := (Int.ediv_emod_unique hb (a := -a) (q := q) (r := -r)).2 ⟨by rw [h, Int.neg_mul, Int.mul_comm b q]; omega, by omega, by omega⟩
    exact ⟨this.1.symm, by omega⟩
theorem toI_cases (a : Int) : (decide (a < 0) = true ∧ a = -(a.natAbs : Int) ∧ 0 < a.natAbs) ∨ (decide (a < 0) = false ∧ a = (a.natAbs : Int)) := by
  by_cases h : a < 0
  · left; simp [h]; omega
  · right; simp [h]; omega
theorem floor_same (a : Int) {b : Int} (hb : b ≠ 0) (h : ¬ (decide (a < 0) ≠ decide (b < 0) ∧ 0 < a.natAbs % b.natAbs)) :
    toI (decide (a < 0) != decide (b < 0)) (a.natAbs / b.natAbs) = a.fdiv b ∧ toI (decide (b < 0)) (a.natAbs % b.natAbs) = a.fmod b := by
  have hy : 0 < b.natAbs := by omega
  have hd := Nat.div_add_mod a.natAbs b.natAbs
  have hm := Nat.mod_lt a.natAbs hy
  obtain ⟨q, hq⟩ : ∃ q, q = a.natAbs / b.natAbs := ⟨_, rfl⟩
  obtain ⟨r, hr⟩ : ∃ r, r = a.natAbs % b.natAbs := ⟨_, rfl⟩
  rw [← hq, ← hr] at hd ⊢
  rw [← hr] at hm h
  have hd' : (b.natAbs : Int) * (q : Int) + (r : Int) = (a.natAbs : Int) := by rw [← Int.natCast_mul]; omega
  have hrr : (toI (decide (b < 0)) r = toI (decide (b < 0)) r) := rfl
  rcases toI_cases a with ⟨sa, ea, pa⟩ | ⟨sa, ea⟩ <;> rcases toI_cases b with ⟨sb, eb, pb⟩ | ⟨sb, eb⟩ <;> rw [sa, sb] at h ⊢ <;> simp only [toI] <;> generalize a.natAbs = x at * <;> generalize b.natAbs = y at * <;> subst ea <;> subst eb <;>
    refine fd_unique ?_ ?_ <;> simp at h ⊢ <;> (try simp only [Int.mul_comm (q : Int) (y : Int), Int.mul_neg, Int.neg_mul, Int.neg_neg]) <;> (try (subst h)) <;> (try simp) <;> (try omega)
theorem floor_up (a : Int) {b : Int} (hb : b ≠ 0) (h : decide (a < 0) ≠ decide (b < 0)) (h0 : 0 < a.natAbs % b.natAbs) :
    toI (decide (a < 0) != decide (b < 0)) (a.natAbs / b.natAbs + 1) = a.fdiv b ∧ toI (decide (b < 0)) (b.natAbs - a.natAbs % b.natAbs) = a.fmod b := by
  have hy : 0 < b.natAbs := by omega
  have hd := Nat.div_add_mod a.natAbs b.natAbs
  have hm := Nat.mod_lt a.natAbs hy
  obtain ⟨q, hq⟩ : ∃ q, q = a.natAbs / b.natAbs := ⟨_, rfl⟩
  obtain ⟨r, hr⟩ : ∃ r, r = a.natAbs % b.natAbs := ⟨_, rfl⟩
  rw [← hq, ← hr] at hd ⊢
  rw [← hr] at hm h0
  have hd' : (b.natAbs : Int) * (q : Int) + (r : Int) = (a.natAbs : Int) := by rw [← Int.natCast_mul]; omega
  rcases toI_cases a with ⟨sa, ea, pa⟩ | ⟨sa, ea⟩ <;> rcases toI_cases b with ⟨sb, eb, pb⟩ | ⟨sb, eb⟩ <;> rw [sa, sb] at h ⊢ <;> simp only [toI] <;> generalize a.natAbs = x at * <;> generalize b.natAbs = y at * <;> subst ea <;> subst eb <;>
    refine fd_unique ?_ ?_ <;> simp at h ⊢ <;> (try rw [show ((y - r : Nat) : Int) = (y : Int) - r by omega]) <;> (try simp only [Int.add_mul, Int.mul_comm (q : Int) (y : Int), Int.mul_neg, Int.neg_mul, Int.neg_neg, Int.neg_add, Int.one_mul]) <;> (try omega)
end Go.Proofs.YtmjlankpihnicaaGreat
/-! The walk of whole.DivMod. -/
namespace Go.Proofs.YtmjlankpihnicaaGreat
open Go.RowKit

/-- The boxes of the two arguments and two results' variables. -/
structure Two2 (w : World) (s t : Bool) (A B : Option Addr) (n m c d : Nat) (w' : World) : Prop where
  p0 : WholeAt w' w.heap.size s (.slice A n c)
  p1 : WholeAt w' (w.heap.size + 1) t (.slice B m d)
  r : WholeAt w' (w.heap.size + 1 + 1) false (.slice none 0 0)
  q : WholeAt w' (w.heap.size + 1 + 1 + 1) false (.slice none 0 0)
  bel : Below w.heap.size w w'
theorem WholeAt.alloc {w : World} {g : Nat} {s : Bool} {v : Value} (h : WholeAt w g s v) (o : Obj) : WholeAt (w.alloc o) g s v := (Below.heap_alloc _ _ _ h.lt).trans h
theorem WholeAt.fresh {w : World} {g : Nat} (s : Bool) (v : Value) (h : w.heap.size = g) : WholeAt (w.alloc (.cells #[.bool s, v] 27)) g s v := by subst h; exact WholeAt.new w s v
theorem two_call3 (s t : Bool) (A B : Option Addr) (n m c d : Nat) (f h : Nat → Nat) (w : World)
    (hA : Rd w.heap.size .u16 w A n f) (hB : Rd w.heap.size .u16 w B m h) (hf : ∀ i, f i < 65536) (hh : ∀ i, h i < 65536) (hn : n ≤ 1000000) (hm : m ≤ 1000000) :
    Calls Tryz.prog 116 #[.slice (some ⟨w.heap.size + 1 + 1 + 1 + 1, 0, none⟩) 2 2]
      (((((w.alloc (.cells #[.bool s, .slice A n c] 27)).alloc (.cells #[.bool t, .slice B m d] 27)).alloc (.cells #[.bool false, .slice none 0 0] 27)).alloc (.cells #[.bool false, .slice none 0 0] 27)).alloc (.cells #[.bool s, .slice A n c, .bool t, .slice B m d] 27))
      fun e w' => e = .returned (.bool (okW s n f && okW t m h)) ∧ Two2 w s t A B n m c d w' := by
  have z1 : (w.alloc (.cells #[.bool s, .slice A n c] 27)).heap.size = w.heap.size + 1 := World.size_alloc ..
  obtain ⟨w1, hw1⟩ : ∃ w1, w1 = w.alloc (.cells #[.bool s, .slice A n c] 27) := ⟨_, rfl⟩
  have b1 : Below w.heap.size w w1 := by rw [hw1]; exact (Below.refl _ w).alloc (Nat.le_refl _) _
  have q0 : WholeAt w1 w.heap.size s (.slice A n c) := by rw [hw1]; exact WholeAt.new w s _
  rw [← hw1] at z1 ⊢
  obtain ⟨w2, hw2⟩ : ∃ w2, w2 = w1.alloc (.cells #[.bool t, .slice B m d] 27) := ⟨_, rfl⟩
  have z2 : w2.heap.size = w.heap.size + 1 + 1 := by rw [hw2, World.size_alloc, z1]
  have b2 : Below w.heap.size w w2 := by rw [hw2]; exact b1.alloc b1.size _
  have q1 : WholeAt w2 (w.heap.size + 1) t (.slice B m d) := by rw [hw2]; exact WholeAt.fresh t _ z1
  have q0 : WholeAt w2 w.heap.size s (.slice A n c) := by rw [hw2]; exact q0.alloc _
  rw [← hw2]
  obtain ⟨w3, hw3⟩ : ∃ w3, w3 = w2.alloc (.cells #[.bool false, .slice none 0 0] 27) := ⟨_, rfl⟩
  have z3 : w3.heap.size = w.heap.size + 1 + 1 + 1 := by rw [hw3, World.size_alloc, z2]
  have b3 : Below w.heap.size w w3 := by rw [hw3]; exact b2.alloc b2.size _
  have q2 : WholeAt w3 (w.heap.size + 1 + 1) false (.slice none 0 0) := by rw [hw3]; exact WholeAt.fresh _ _ z2
  have q1 : WholeAt w3 (w.heap.size + 1) t (.slice B m d) := by rw [hw3]; exact q1.alloc _
  have q0 : WholeAt w3 w.heap.size s (.slice A n c) := by rw [hw3]; exact q0.alloc _
  rw [← hw3]
  obtain ⟨w4, hw4⟩ : ∃ w4, w4 = w3.alloc (.cells #[.bool false, .slice none 0 0] 27) := ⟨_, rfl⟩
  have z4 : w4.heap.size = w.heap.size + 1 + 1 + 1 + 1 := by rw [hw4, World.size_alloc, z3]
  have b4 : Below w.heap.size w w4 := by rw [hw4]; exact b3.alloc b3.size _
  have q3 : WholeAt w4 (w.heap.size + 1 + 1 + 1) false (.slice none 0 0) := by rw [hw4]; exact WholeAt.fresh _ _ z3
  have q2 : WholeAt w4 (w.heap.size + 1 + 1) false (.slice none 0 0) := by rw [hw4]; exact q2.alloc _
  have q1 : WholeAt w4 (w.heap.size + 1) t (.slice B m d) := by rw [hw4]; exact q1.alloc _
  have q0 : WholeAt w4 w.heap.size s (.slice A n c) := by rw [hw4]; exact q0.alloc _
  rw [← hw4]
  have q4 := heap_alloc_new w4 (.cells #[.bool s, .slice A n c, .bool t, .slice B m d] 27)
  rw [z4] at q4
  have b5 := b4.alloc b4.size (.cells #[.bool s, .slice A n c, .bool t, .slice B m d] 27)
  refine (allValid_two (w.heap.size + 1 + 1 + 1 + 1) s t A B n m c d f h _ q4 ((hA.below b5).more b5.size) ((hB.below b5).more b5.size) hf hh hn hm).mono ?_
  rintro e w' ⟨rfl, hb⟩
  exact ⟨rfl, (q0.alloc _).below hb (q0.alloc _).lt, (q1.alloc _).below hb (q1.alloc _).lt, (q2.alloc _).below hb (q2.alloc _).lt, (q3.alloc _).below hb (q3.alloc _).lt, b5.trans (hb.mono b5.size)⟩

theorem WholeAt.other {w : World} {g R : Nat} {s : Bool} {v : Value} (h : WholeAt w g s v) (hR : g ≠ R) (s' : Bool) (v' : Value) : WholeAt ((w.setCell ⟨R, 0, none⟩ (.bool s')).setCell ⟨R, 1, none⟩ v') g s v :=
  (Below.heap_setCell _ _ _ _ hR).trans ((Below.heap_setCell _ _ _ _ hR).trans h)
end Go.Proofs.YtmjlankpihnicaaGreat
/-! The walk of whole.DivMod: valid arguments. -/
namespace Go.Proofs.YtmjlankpihnicaaGreat
open Go.RowKit

end Go.Proofs.YtmjlankpihnicaaGreat
namespace Go.Proofs.YtmjlankpihnicaaGreat
open Go.RowKit

theorem Two2.below {w : World} {s t : Bool} {A B : Option Addr} {n m c d : Nat} {w' w'' : World} (h : Two2 w s t A B n m c d w') (h2 : Below w'.heap.size w' w'') : Two2 w s t A B n m c d w'' :=
  ⟨h.p0.below h2 h.p0.lt, h.p1.below h2 h.p1.lt, h.r.below h2 h.r.lt, h.q.below h2 h.q.lt, h.bel.trans (h2.mono h.bel.size)⟩
theorem Own16.lt {base : Nat} {w : World} {A : Option Addr} {n c : Nat} {f : Nat → Nat} (h : Own16 base w A n c f) : ∀ p, A = some p → p.block < w.heap.size := by
  intro p hp
  rcases h.2 with ⟨hv, -⟩ | ⟨g, cap, cur, hv, _, hh, _⟩
  · injection hv with e1
    rw [hp] at e1; cases e1
  · injection hv with e1
    rw [hp] at e1
    injection e1 with e1
    subst e1
    exact heap_lt hh
/-- The call returned two whole numbers, in memory of their own (the first one's block lies below m, the second one's from m on). -/
def DM (w : World) (q r : Int) (e : Ending) (w' : World) : Prop :=
  ∃ A c B d m, e = .returned (.tuple #[.agg #[.bool (decide (q < 0)), .slice A (ln b16 q.natAbs) c], .agg #[.bool (decide (r < 0)), .slice B (ln b16 r.natAbs) d], .int .i64 0]) ∧
    Own16 w.heap.size w' A (ln b16 q.natAbs) c (dgt b16 q.natAbs) ∧ (∀ p, A = some p → p.block < m) ∧ w.heap.size ≤ m ∧ Own16 m w' B (ln b16 r.natAbs) d (dgt b16 r.natAbs) ∧ Below w.heap.size w w'
theorem WW.vals {w w' : World} {z : Bool} {x : Nat} {e : Ending} (h : WW w z x e w') : ∃ s A c, e = .returned (.agg #[.bool s, .slice A (ln b16 x) c]) ∧ Hid (s = z) ∧ Own16 w.heap.size w' A (ln b16 x) c (dgt b16 x) ∧ Below w.heap.size w w' := by
  obtain ⟨A, c, he, ho, hb⟩ := h
  exact ⟨z, A, c, he, Lib.hid rfl, ho, hb⟩
theorem num32_one (w : World) : Num32 (w.alloc (.cells #[.int .u32 1] 152)) (some ⟨w.heap.size, 0, none⟩) 1 := fun _ =>
  ⟨w.heap.size, 0, rfl, by simp, fun i hi => by
    have e1 : ln b32 1 = 1 := ln_small b32_two (by decide) (by decide)
    obtain rfl : i = 0 := by omega
    exact cell_of_row _ _ 0 _ _ (0, 0) (heap_alloc_new _ _)⟩
theorem TwoP.storeAt {w : World} {s t : Bool} {A B : Option Addr} {n m c d : Nat} {w' : World} (h : TwoP w s t A B n m c d w') {R : Nat} (hR : w.heap.size + 1 < R) (s' : Bool) (v' : Value) :
    TwoP w s t A B n m c d ((w'.setCell ⟨R, 0, none⟩ (.bool s')).setCell ⟨R, 1, none⟩ v') :=
  have e0 : w.heap.size ≠ R := by omega
  have e1 : w.heap.size + 1 ≠ R := by omega
  have e2 : w.heap.size ≤ R := by omega
  ⟨h.p0.other e0 s' v', h.p1.other e1 s' v', (h.bel.setCell (p := ⟨R, 0, none⟩) e2 _).setCell (p := ⟨R, 1, none⟩) e2 _⟩
set_option maxRecDepth 100000 in
set_option maxHeartbeats 4000000 in
theorem divMod_walk (s t : Bool) (x y : Nat) (zq zr : Int) (A B : Option Addr) (c d : Nat) (w : World) (hA : Num16 w A x) (hB : Num16 w B y) (la : ln b16 x ≤ 1024) (lb : ln b16 y ≤ 1024) (hy : 0 < y)
    (hok : (okW s (ln b16 x) (dgt b16 x) && okW t (ln b16 y) (dgt b16 y)) = true)
    (HSAME : Hid (¬ (s ≠ t ∧ 0 < x % y) → toI (s != t) (x / y) = zq ∧ toI t (x % y) = zr)) (HUP : Hid (s ≠ t → 0 < x % y → toI (s != t) (x / y + 1) = zq ∧ toI t (y - x % y) = zr)) :
    Calls Tryz.prog 153 #[.agg #[.bool s, .slice A (ln b16 x) c], .agg #[.bool t, .slice B (ln b16 y) d]] w (DM w zq zr) := by
  have htwo := two_call3 s t A B (ln b16 x) (ln b16 y) c d _ _ w hA hB (fun i => dgt16_lt _ i) (fun i => dgt16_lt _ i) (by omega) (by omega)
  rw [hok] at htwo
  clear hok
  have la2 := ln32_short la
  have lb2 := ln32_short lb
  have hyl : 0 < ln b16 y := (ln_pos b16_two).2 hy
  have tb0 : (((ln b16 y : Nat) : Int) == 0) = false := beq_eq_false_iff_ne.2 (by omega)
  have hqx : x / y ≤ x := Nat.div_le_self ..
  have hmod := Nat.mod_lt x hy
  have lq : ln b32 (x / y) ≤ 512 := Nat.le_trans (ln_mono b32_two hqx) la2
  have lr : ln b32 (x % y) ≤ 512 := Nat.le_trans (ln_mono b32_two (Nat.le_of_lt hmod)) lb2
  have hcases : (s = t ∨ (s ≠ t ∧ x % y = 0)) ∨ (s ≠ t ∧ 0 < x % y) := by
    by_cases hst : s = t
    · exact .inl (.inl hst)
    · rcases Nat.eq_zero_or_pos (x % y) with h0 | h0
      · exact .inl (.inr ⟨hst, h0⟩)
      · exact .inr ⟨hst, h0⟩
  go_enter Tryz.func153, Tryz.ntmps153
  go_wp2_with fail
  refine htwo.mono ?_
  rintro e w1 ⟨rfl, ht⟩
  obtain ⟨p2, p3⟩ := ht.p1.cells
  go_wp2_with fail
  refine (pack_any B d y w1 (Num16.below hB ht.bel) (by omega)).mono ?_
  rintro e w2 ⟨A2, c2, rfl, hc2, hn2, hb2⟩
  have ht2 := ht.below hb2
  clear ht p2 p3
  obtain ⟨p0, p1⟩ := ht2.p0.cells
  obtain ⟨p2, p3⟩ := ht2.p1.cells
  go_wp2_with fail
  refine (pack_any A c x w2 (Num16.below hA ht2.bel) (by omega)).mono ?_
  rintro e w3 ⟨A3, c3, rfl, hc3, hn3, hb3⟩
  have ht3 := ht2.below hb3
  have hn2' := Num32.below hn2 hb3
  clear ht2 p0 p1 p2 p3
  go_wp2_with fail
  refine (divide_any A3 A2 c3 c2 x y w3 hn3 hn2' hy (by omega)).mono ?_
  rintro e w4 ⟨A4, c4, A5, c5, rfl, hc4, hc5, hn4, hn5, hb4⟩
  have ht4 := ht3.below hb4
  have hn2'' := Num32.below hn2' hb4
  clear ht3 hn2' hn2
  obtain ⟨p0, p1⟩ := ht4.p0.cells
  obtain ⟨p2, p3⟩ := ht4.p1.cells
  rcases hcases with (hst | ⟨hst, hr0⟩) | ⟨hst, hrp⟩
  · subst hst
    have hz : (s != s) = false := by simp
    obtain ⟨hq, hr⟩ := HSAME.out (by simp)
    rw [hz] at hq
    have HQ := Lib.hid hq
    have HR := Lib.hid hr
    clear hq hr hz
    go_wp2_with fail
    have ht0 : Two2 w s s A B (ln b16 x) (ln b16 y) c d w4.drew := ⟨ht4.p0, ht4.p1, ht4.r, ht4.q, ht4.bel.drew⟩
    have D1 := Lib.hid fun (w' : World) (hw' : Below w4.heap.size w4 w') => unpack_any false _ _ _ w' (Num32.below hn4 hw') hc4 (by omega)
    have D2 := Lib.hid fun (w' : World) (hw' : Below w4.heap.size w4 w') => unpack_any s _ _ _ w' (Num32.below hn5 hw') hc5 (by omega)
    have hrefl := (Below.refl w4.heap.size w4).drew
    have hl1 := ht4.r.lt
    have hl2 := ht4.q.lt
    clear p0 p1 p2 p3 ht4
    go_region_held3 (fun w' => w'.cell? ⟨w.heap.size, 0, none⟩ = some (.bool s) ∧ w'.cell? ⟨w.heap.size + 1, 0, none⟩ = some (.bool s) ∧ TwoP w s s A B (ln b16 x) (ln b16 y) c d w')
      (first | with_reducible exact ⟨hP4.p0.cells.1, hP4.p1.cells.1, hP4⟩ | with_reducible exact ⟨hP3.p0.cells.1, hP3.p1.cells.1, hP3⟩ | with_reducible exact ⟨hP2.p0.cells.1, hP2.p1.cells.1, hP2⟩ | with_reducible exact ⟨hP1.p0.cells.1, hP1.p1.cells.1, hP1⟩ | with_reducible exact ⟨ht0.p0.cells.1, ht0.p1.cells.1, ht0.p0, ht0.p1, ht0.bel⟩)
      (first
        | (go_at_call_of 155 (Value.bool false); refine (D1.out _ hrefl).mono ?_; rintro e w5 hww1; obtain ⟨s1, B1, d1, rfl, hS1, hO1, hb5⟩ := hww1.vals; have ht1 := ht0.below hb5; have hP1 : TwoP w s s A B (ln b16 x) (ln b16 y) c d w5 := ⟨ht1.p0, ht1.p1, ht1.bel⟩)
        | (go_at_call_of 155 (Value.bool s); refine (D2.out _ (hrefl.trans (hb5.mono hrefl.size))).mono ?_; rintro e w6 hww2; obtain ⟨s2, B2, d2, rfl, hS2, hO2, hb6⟩ := hww2.vals; have ht2 := ht1.below hb6; have hP2 : TwoP w s s A B (ln b16 x) (ln b16 y) c d w6 := ⟨ht2.p0, ht2.p1, ht2.bel⟩; obtain ⟨r0, r1⟩ := ht2.r.cells; have g0 := ht2.r.frozen 0; have g1 := ht2.r.frozen 1; obtain ⟨r2, r3⟩ := ht2.q.cells; have g2 := ht2.q.frozen 0; have g3 := ht2.q.frozen 1; have hP3 := hP2.storeAt (R := w.heap.size + 1 + 1) (by omega) s1 (.slice B1 (ln b16 (x / y)) d1); have hP4 := hP3.storeAt (R := w.heap.size + 1 + 1 + 1) (by omega) s2 (.slice B2 (ln b16 (x % y)) d2)))
    obtain ⟨hW, hbW⟩ := store_whole ht2.r ht2.bel (show w.heap.size ≤ w.heap.size + 1 + 1 by omega) s1 (.slice B1 (ln b16 (x / y)) d1)
    have hQ := ht2.q.other (R := w.heap.size + 1 + 1) (by omega) s1 (.slice B1 (ln b16 (x / y)) d1)
    obtain ⟨hW2, hbW2⟩ := store_whole hQ hbW (show w.heap.size ≤ w.heap.size + 1 + 1 + 1 by omega) s2 (.slice B2 (ln b16 (x % y)) d2)
    have hW1 := hW.other (R := w.heap.size + 1 + 1 + 1) (by omega) s2 (.slice B2 (ln b16 (x % y)) d2)
    have hl5 : w4.heap.size ≤ w5.heap.size := hb5.size
    have o1 := store_own (store_own (hO1.below hb6 (Nat.le_refl _)) hl1 s1 (.slice B1 (ln b16 (x / y)) d1)) hl2 s2 (.slice B2 (ln b16 (x % y)) d2)
    have o2 := store_own (store_own hO2 (Nat.lt_of_lt_of_le hl1 hl5) s1 (.slice B1 (ln b16 (x / y)) d1)) (Nat.lt_of_lt_of_le hl2 hl5) s2 (.slice B2 (ln b16 (x % y)) d2)
    have o1l := hO1.lt
    clear hW hQ r0 r1 r2 r3 g0 g1 g2 g3 ht0 ht1 ht2 hP1 hP2 hP3 hP4 hbW hO1 hO2 D1 D2
    go_wp2
    generalize ((((w6.setCell ⟨w.heap.size + 1 + 1, 0, none⟩ (.bool s1)).setCell ⟨w.heap.size + 1 + 1, 1, none⟩ (.slice B1 (ln b16 (x / y)) d1)).setCell ⟨w.heap.size + 1 + 1 + 1, 0, none⟩ (.bool s2)).setCell ⟨w.heap.size + 1 + 1 + 1, 1, none⟩ (.slice B2 (ln b16 (x % y)) d2)) = W7 at *
    obtain ⟨k0, k1⟩ := hW1.cells
    obtain ⟨k2, k3⟩ := hW2.cells
    refine bodyPost_ret (v := .tuple #[.agg #[.bool s1, .slice B1 (ln b16 (x / y)) d1], .agg #[.bool s2, .slice B2 (ln b16 (x % y)) d2], .int .i64 0]) (by simp [results, Tryz.results153, go_sem, k0, k1, k2, k3]) rfl ?_
    rw [← HQ.out, ← HR.out]
    exact ⟨B1, d1, B2, d2, w5.heap.size, by rw [toI_neg, toI_abs, toI_neg, toI_abs, hS1.out, hS2.out], by rw [toI_abs]; exact o1.lower (show w.heap.size ≤ w4.heap.size by omega), o1l, by omega, by rw [toI_abs]; exact o2, hbW2⟩
  · have hz : (s != t) = true := bne_iff_ne.2 hst
    have t1 : (s == t) = false := beq_eq_false_iff_ne.2 hst
    have hl0 : ((ln b32 (x % y) : Nat) : Int) ≤ 0 := by rw [hr0, ln_zero]; decide
    have t2 : decide ((0 : Int) < ((ln b32 (x % y) : Nat) : Int)) = false := decide_eq_false (by omega)
    obtain ⟨hq, hr⟩ := HSAME.out (fun h => by omega)
    rw [hz] at hq
    have HQ := Lib.hid hq
    have HR := Lib.hid hr
    clear hq hr hr0 hz
    go_wp2_with fail
    have ht0 : Two2 w s t A B (ln b16 x) (ln b16 y) c d w4.drew := ⟨ht4.p0, ht4.p1, ht4.r, ht4.q, ht4.bel.drew⟩
    have D1 := Lib.hid fun (w' : World) (hw' : Below w4.heap.size w4 w') => unpack_any true _ _ _ w' (Num32.below hn4 hw') hc4 (by omega)
    have D2 := Lib.hid fun (w' : World) (hw' : Below w4.heap.size w4 w') => unpack_any t _ _ _ w' (Num32.below hn5 hw') hc5 (by omega)
    have hrefl := (Below.refl w4.heap.size w4).drew
    have hl1 := ht4.r.lt
    have hl2 := ht4.q.lt
    clear p0 p1 p2 p3 ht4
    go_region_held3 (fun w' => w'.cell? ⟨w.heap.size, 0, none⟩ = some (.bool s) ∧ w'.cell? ⟨w.heap.size + 1, 0, none⟩ = some (.bool t) ∧ TwoP w s t A B (ln b16 x) (ln b16 y) c d w')
      (first | with_reducible exact ⟨hP4.p0.cells.1, hP4.p1.cells.1, hP4⟩ | with_reducible exact ⟨hP3.p0.cells.1, hP3.p1.cells.1, hP3⟩ | with_reducible exact ⟨hP2.p0.cells.1, hP2.p1.cells.1, hP2⟩ | with_reducible exact ⟨hP1.p0.cells.1, hP1.p1.cells.1, hP1⟩ | with_reducible exact ⟨ht0.p0.cells.1, ht0.p1.cells.1, ht0.p0, ht0.p1, ht0.bel⟩)
      (first
        | (go_at_call_of 155 (Value.bool true); refine (D1.out _ hrefl).mono ?_; rintro e w5 hww1; obtain ⟨s1, B1, d1, rfl, hS1, hO1, hb5⟩ := hww1.vals; have ht1 := ht0.below hb5; have hP1 : TwoP w s t A B (ln b16 x) (ln b16 y) c d w5 := ⟨ht1.p0, ht1.p1, ht1.bel⟩)
        | (go_at_call_of 155 (Value.bool t); refine (D2.out _ (hrefl.trans (hb5.mono hrefl.size))).mono ?_; rintro e w6 hww2; obtain ⟨s2, B2, d2, rfl, hS2, hO2, hb6⟩ := hww2.vals; have ht2 := ht1.below hb6; have hP2 : TwoP w s t A B (ln b16 x) (ln b16 y) c d w6 := ⟨ht2.p0, ht2.p1, ht2.bel⟩; obtain ⟨r0, r1⟩ := ht2.r.cells; have g0 := ht2.r.frozen 0; have g1 := ht2.r.frozen 1; obtain ⟨r2, r3⟩ := ht2.q.cells; have g2 := ht2.q.frozen 0; have g3 := ht2.q.frozen 1; have hP3 := hP2.storeAt (R := w.heap.size + 1 + 1) (by omega) s1 (.slice B1 (ln b16 (x / y)) d1); have hP4 := hP3.storeAt (R := w.heap.size + 1 + 1 + 1) (by omega) s2 (.slice B2 (ln b16 (x % y)) d2)))
    obtain ⟨hW, hbW⟩ := store_whole ht2.r ht2.bel (show w.heap.size ≤ w.heap.size + 1 + 1 by omega) s1 (.slice B1 (ln b16 (x / y)) d1)
    have hQ := ht2.q.other (R := w.heap.size + 1 + 1) (by omega) s1 (.slice B1 (ln b16 (x / y)) d1)
    obtain ⟨hW2, hbW2⟩ := store_whole hQ hbW (show w.heap.size ≤ w.heap.size + 1 + 1 + 1 by omega) s2 (.slice B2 (ln b16 (x % y)) d2)
    have hW1 := hW.other (R := w.heap.size + 1 + 1 + 1) (by omega) s2 (.slice B2 (ln b16 (x % y)) d2)
    have hl5 : w4.heap.size ≤ w5.heap.size := hb5.size
    have o1 := store_own (store_own (hO1.below hb6 (Nat.le_refl _)) hl1 s1 (.slice B1 (ln b16 (x / y)) d1)) hl2 s2 (.slice B2 (ln b16 (x % y)) d2)
    have o2 := store_own (store_own hO2 (Nat.lt_of_lt_of_le hl1 hl5) s1 (.slice B1 (ln b16 (x / y)) d1)) (Nat.lt_of_lt_of_le hl2 hl5) s2 (.slice B2 (ln b16 (x % y)) d2)
    have o1l := hO1.lt
    clear hW hQ r0 r1 r2 r3 g0 g1 g2 g3 ht0 ht1 ht2 hP1 hP2 hP3 hP4 hbW hO1 hO2 D1 D2
    go_wp2
    generalize ((((w6.setCell ⟨w.heap.size + 1 + 1, 0, none⟩ (.bool s1)).setCell ⟨w.heap.size + 1 + 1, 1, none⟩ (.slice B1 (ln b16 (x / y)) d1)).setCell ⟨w.heap.size + 1 + 1 + 1, 0, none⟩ (.bool s2)).setCell ⟨w.heap.size + 1 + 1 + 1, 1, none⟩ (.slice B2 (ln b16 (x % y)) d2)) = W7 at *
    obtain ⟨k0, k1⟩ := hW1.cells
    obtain ⟨k2, k3⟩ := hW2.cells
    refine bodyPost_ret (v := .tuple #[.agg #[.bool s1, .slice B1 (ln b16 (x / y)) d1], .agg #[.bool s2, .slice B2 (ln b16 (x % y)) d2], .int .i64 0]) (by simp [results, Tryz.results153, go_sem, k0, k1, k2, k3]) rfl ?_
    rw [← HQ.out, ← HR.out]
    exact ⟨B1, d1, B2, d2, w5.heap.size, by rw [toI_neg, toI_abs, toI_neg, toI_abs, hS1.out, hS2.out], by rw [toI_abs]; exact o1.lower (show w.heap.size ≤ w4.heap.size by omega), o1l, by omega, by rw [toI_abs]; exact o2, hbW2⟩
  · have hz : (s != t) = true := bne_iff_ne.2 hst
    have t1 : (s == t) = false := beq_eq_false_iff_ne.2 hst
    have hl0 : 0 < ln b32 (x % y) := (ln_pos b32_two).2 hrp
    have t2 : decide ((0 : Int) < ((ln b32 (x % y) : Nat) : Int)) = true := decide_eq_true (by omega)
    obtain ⟨hq, hr⟩ := HUP.out hst hrp
    rw [hz] at hq
    have HQ := Lib.hid hq
    have HR := Lib.hid hr
    clear hq hr hz
    go_wp2_with fail
    have b1 : Below w4.heap.size w4 (w4.alloc (.cells #[.int .u32 1] 152)) := (Below.refl _ w4).alloc (Nat.le_refl _) _
    have hone : Num32 (w4.alloc (.cells #[.int .u32 1] 152)) (some ⟨w4.heap.size, 0, none⟩) 1 := num32_one w4
    have e1 : ln b32 1 = 1 := ln_small b32_two (by decide) (by decide)
    have hplus := plus_any A4 (some ⟨w4.heap.size, 0, none⟩) c4 1 (x / y) 1 _ (Num32.below hn4 b1) hone (by omega) (by omega)
    rw [e1] at hplus
    refine hplus.mono ?_
    clear hplus e1 hone
    rintro e w8 ⟨A8, c8, rfl, hc8, hn8, hb8⟩
    have ht8 := (ht4.below b1).below hb8
    have hn5b := Num32.below (Num32.below hn5 b1) hb8
    have hn2c := Num32.below (Num32.below hn2'' b1) hb8
    have lq1 : ln b32 (x / y + 1) ≤ 512 + 1 := ln_add b32_two lq (by rw [ln_small b32_two (by decide) (by decide)]; decide)
    have lr1 : ln b32 (y - x % y) ≤ 512 := Nat.le_trans (ln_mono b32_two (Nat.sub_le ..)) lb2
    clear hn4 hn5 hn2'' ht4 p0 p1 p2 p3
    obtain ⟨p0, p1⟩ := ht8.p0.cells
    obtain ⟨p2, p3⟩ := ht8.p1.cells
    go_wp2_with fail
    refine (minus_any A2 A5 c2 c5 y (x % y) _ hn2c hn5b (Nat.le_of_lt hmod) (by omega)).mono ?_
    rintro e w9 ⟨A9, c9, rfl, hc9, hn9, hb9⟩
    have ht9 := ht8.below hb9
    have hn8b := Num32.below hn8 hb9
    clear ht8 hn5b hn2c hn8 p0 p1 p2 p3
    obtain ⟨p0, p1⟩ := ht9.p0.cells
    obtain ⟨p2, p3⟩ := ht9.p1.cells
    go_wp2_with fail
    have ht0 : Two2 w s t A B (ln b16 x) (ln b16 y) c d w9.drew := ⟨ht9.p0, ht9.p1, ht9.r, ht9.q, ht9.bel.drew⟩
    have D1 := Lib.hid fun (w' : World) (hw' : Below w9.heap.size w9 w') => unpack_any true _ _ _ w' (Num32.below hn8b hw') hc8 (by omega)
    have D2 := Lib.hid fun (w' : World) (hw' : Below w9.heap.size w9 w') => unpack_any t _ _ _ w' (Num32.below hn9 hw') hc9 (by omega)
    have hrefl := (Below.refl w9.heap.size w9).drew
    have hl1 := ht9.r.lt
    have hl2 := ht9.q.lt
    clear p0 p1 p2 p3 ht9
    go_region_held3 (fun w' => w'.cell? ⟨w.heap.size, 0, none⟩ = some (.bool s) ∧ w'.cell? ⟨w.heap.size + 1, 0, none⟩ = some (.bool t) ∧ TwoP w s t A B (ln b16 x) (ln b16 y) c d w')
      (first | with_reducible exact ⟨hP4.p0.cells.1, hP4.p1.cells.1, hP4⟩ | with_reducible exact ⟨hP3.p0.cells.1, hP3.p1.cells.1, hP3⟩ | with_reducible exact ⟨hP2.p0.cells.1, hP2.p1.cells.1, hP2⟩ | with_reducible exact ⟨hP1.p0.cells.1, hP1.p1.cells.1, hP1⟩ | with_reducible exact ⟨ht0.p0.cells.1, ht0.p1.cells.1, ht0.p0, ht0.p1, ht0.bel⟩)
      (first
        | (go_at_call_of 155 (Value.bool true); refine (D1.out _ hrefl).mono ?_; rintro e w5 hww1; obtain ⟨s1, B1, d1, rfl, hS1, hO1, hb5⟩ := hww1.vals; have ht1 := ht0.below hb5; have hP1 : TwoP w s t A B (ln b16 x) (ln b16 y) c d w5 := ⟨ht1.p0, ht1.p1, ht1.bel⟩)
        | (go_at_call_of 155 (Value.bool t); refine (D2.out _ (hrefl.trans (hb5.mono hrefl.size))).mono ?_; rintro e w6 hww2; obtain ⟨s2, B2, d2, rfl, hS2, hO2, hb6⟩ := hww2.vals; have ht2 := ht1.below hb6; have hP2 : TwoP w s t A B (ln b16 x) (ln b16 y) c d w6 := ⟨ht2.p0, ht2.p1, ht2.bel⟩; obtain ⟨r0, r1⟩ := ht2.r.cells; have g0 := ht2.r.frozen 0; have g1 := ht2.r.frozen 1; obtain ⟨r2, r3⟩ := ht2.q.cells; have g2 := ht2.q.frozen 0; have g3 := ht2.q.frozen 1; have hP3 := hP2.storeAt (R := w.heap.size + 1 + 1) (by omega) s1 (.slice B1 (ln b16 (x / y + 1)) d1); have hP4 := hP3.storeAt (R := w.heap.size + 1 + 1 + 1) (by omega) s2 (.slice B2 (ln b16 (y - x % y)) d2)))
    obtain ⟨hW, hbW⟩ := store_whole ht2.r ht2.bel (show w.heap.size ≤ w.heap.size + 1 + 1 by omega) s1 (.slice B1 (ln b16 (x / y + 1)) d1)
    have hQ := ht2.q.other (R := w.heap.size + 1 + 1) (by omega) s1 (.slice B1 (ln b16 (x / y + 1)) d1)
    obtain ⟨hW2, hbW2⟩ := store_whole hQ hbW (show w.heap.size ≤ w.heap.size + 1 + 1 + 1 by omega) s2 (.slice B2 (ln b16 (y - x % y)) d2)
    have hW1 := hW.other (R := w.heap.size + 1 + 1 + 1) (by omega) s2 (.slice B2 (ln b16 (y - x % y)) d2)
    have hl5 : w9.heap.size ≤ w5.heap.size := hb5.size
    have o1 := store_own (store_own (hO1.below hb6 (Nat.le_refl _)) hl1 s1 (.slice B1 (ln b16 (x / y + 1)) d1)) hl2 s2 (.slice B2 (ln b16 (y - x % y)) d2)
    have o2 := store_own (store_own hO2 (Nat.lt_of_lt_of_le hl1 hl5) s1 (.slice B1 (ln b16 (x / y + 1)) d1)) (Nat.lt_of_lt_of_le hl2 hl5) s2 (.slice B2 (ln b16 (y - x % y)) d2)
    have o1l := hO1.lt
    clear hW hQ r0 r1 r2 r3 g0 g1 g2 g3 ht0 ht1 ht2 hP1 hP2 hP3 hP4 hbW hO1 hO2 D1 D2
    go_wp2
    generalize ((((w6.setCell ⟨w.heap.size + 1 + 1, 0, none⟩ (.bool s1)).setCell ⟨w.heap.size + 1 + 1, 1, none⟩ (.slice B1 (ln b16 (x / y + 1)) d1)).setCell ⟨w.heap.size + 1 + 1 + 1, 0, none⟩ (.bool s2)).setCell ⟨w.heap.size + 1 + 1 + 1, 1, none⟩ (.slice B2 (ln b16 (y - x % y)) d2)) = W7 at *
    obtain ⟨k0, k1⟩ := hW1.cells
    obtain ⟨k2, k3⟩ := hW2.cells
    refine bodyPost_ret (v := .tuple #[.agg #[.bool s1, .slice B1 (ln b16 (x / y + 1)) d1], .agg #[.bool s2, .slice B2 (ln b16 (y - x % y)) d2], .int .i64 0]) (by simp [results, Tryz.results153, go_sem, k0, k1, k2, k3]) rfl ?_
    rw [← HQ.out, ← HR.out]
    exact ⟨B1, d1, B2, d2, w5.heap.size, by rw [toI_neg, toI_abs, toI_neg, toI_abs, hS1.out, hS2.out], by rw [toI_abs]; exact o1.lower (show w.heap.size ≤ w9.heap.size by omega), o1l, by omega, by rw [toI_abs]; exact o2, hbW2⟩

theorem divMod_any (a b : Int) (A B : Option Addr) (c d : Nat) (w : World) (hA : Num16 w A a.natAbs) (hB : Num16 w B b.natAbs) (ha : ln b16 a.natAbs ≤ 1024) (hb : ln b16 b.natAbs ≤ 1024) (hb0 : b ≠ 0) :
    Calls Tryz.prog 153 #[.agg #[.bool (decide (a < 0)), .slice A (ln b16 a.natAbs) c], .agg #[.bool (decide (b < 0)), .slice B (ln b16 b.natAbs) d]] w (DM w (a.fdiv b) (a.fmod b)) :=
  divMod_walk _ _ _ _ _ _ A B c d w hA hB ha hb (by omega) (okW_two ha hb) (Lib.hid (floor_same a hb0)) (Lib.hid (floor_up a hb0))
end Go.Proofs.YtmjlankpihnicaaGreat
namespace Go.Proofs.YtmjlankpihnicaaGreat
open Go.RowKit

theorem ln_gcd (a b : Nat) (m : Nat) (ha : ln b16 a ≤ m) (hb : ln b16 b ≤ m) : ln b16 (Nat.gcd a b) ≤ m := by
  rcases Nat.eq_zero_or_pos a with rfl | h
  · rw [Nat.gcd_zero_left]; exact hb
  · exact Nat.le_trans (ln_mono b16_two (Nat.gcd_le_left b h)) ha
theorem WW.riv {w w' : World} {x : Nat} {e : Ending} (h : WW w (false && decide (0 < x)) x e w') (hl : ln b16 x ≤ 1024) : ∃ A c, e = .returned (.agg #[.bool false, .slice A (ln b16 x) c]) ∧ RIv w.heap.size w' (x : Int) false A (ln b16 x) c 0 ∧ Below w.heap.size w w' := by
  obtain ⟨A, c, he, ho, hb⟩ := h
  refine ⟨A, c, he, .inl ⟨hl, ?_, rfl, rfl, ho⟩, hb⟩
  simp
set_option maxRecDepth 100000 in
set_option maxHeartbeats 4000000 in
theorem gcd_any (a b : Int) (A B : Option Addr) (c d : Nat) (w : World) (hA : Num16 w A a.natAbs) (hB : Num16 w B b.natAbs) (ha : ln b16 a.natAbs ≤ 1024) (hb : ln b16 b.natAbs ≤ 1024) :
    Calls Tryz.prog 138 #[.agg #[.bool (decide (a < 0)), .slice A (ln b16 a.natAbs) c], .agg #[.bool (decide (b < 0)), .slice B (ln b16 b.natAbs) d]] w (RI w ((Nat.gcd a.natAbs b.natAbs : Nat) : Int)) := by
  have htwo := two_call (decide (a < 0)) (decide (b < 0)) A B (ln b16 a.natAbs) (ln b16 b.natAbs) c d _ _ w hA hB (fun i => dgt16_lt _ i) (fun i => dgt16_lt _ i) (by omega) (by omega)
  rw [okW_two ha hb] at htwo
  have la := ln32_short ha
  have lb := ln32_short hb
  have lg := ln_gcd a.natAbs b.natAbs 1024 ha hb
  have lg32 := ln32_short lg
  obtain ⟨s, hs⟩ : ∃ s, s = decide (a < 0) := ⟨_, rfl⟩
  obtain ⟨t, ht⟩ : ∃ t, t = decide (b < 0) := ⟨_, rfl⟩
  rw [← hs, ← ht] at htwo ⊢
  clear hs ht
  go_enter Tryz.func138, Tryz.ntmps138
  go_wp2_with fail
  refine htwo.mono ?_
  rintro e w1 ⟨rfl, ht⟩
  have D1 := Lib.hid fun (w' : World) (hw' : Below w.heap.size w w') => pack_any A c a.natAbs w' (Num16.below hA hw') (by omega)
  have D2 := Lib.hid fun (w' : World) (hw' : Below w.heap.size w w') => pack_any B d b.natAbs w' (Num16.below hB hw') (by omega)
  have hT0 : TwoP w s t A B (ln b16 a.natAbs) (ln b16 b.natAbs) c d w1.drew := ⟨ht.p0, ht.p1, ht.bel.drew⟩
  have hR0 : WholeAt w1.drew (w.heap.size + 1 + 1) false (.slice none 0 0) := ht.r
  have HT := Lib.hid ht
  clear ht
  go_wp2_with fail
  go_region_held3 (fun w' => w'.cell? ⟨w.heap.size, 0, none⟩ = some (.bool s) ∧ w'.cell? ⟨w.heap.size, 1, none⟩ = some (.slice A (ln b16 a.natAbs) c) ∧ w'.cell? ⟨w.heap.size + 1, 0, none⟩ = some (.bool t) ∧ w'.cell? ⟨w.heap.size + 1, 1, none⟩ = some (.slice B (ln b16 b.natAbs) d) ∧ TwoP w s t A B (ln b16 a.natAbs) (ln b16 b.natAbs) c d w')
    (first | with_reducible exact hT4.s | with_reducible exact hT3.s | with_reducible exact hT5.s | with_reducible exact hT2.s | with_reducible exact hT1.s | with_reducible exact hT0.s)
    (first
      | (go_at_call_of 118 (Value.slice A (ln b16 a.natAbs) c); refine (D1.out _ hT0.bel).mono ?_; rintro e w2 ⟨A1, c1, rfl, hc1, hn1, hb1⟩; have hT1 := hT0.below hb1)
      | (go_at_call_of 118 (Value.slice B (ln b16 b.natAbs) d); refine (D2.out _ hT1.bel).mono ?_; rintro e w3 ⟨A2, c2, rfl, hc2, hn2, hb2⟩; have hT2 := hT1.below hb2)
      | (go_at_call 156; refine (commonDivisor_any A1 A2 c1 c2 a.natAbs b.natAbs _ (Num32.below hn1 hb2) hn2 (by omega) (by omega) hc1 hc2).mono ?_; rintro e w5 ⟨A3, c3, rfl, hc3, hn3, hb5⟩; have hT5 := hT2.below hb5)
      | (go_at_call 155; refine (unpack_any false A3 c3 (Nat.gcd a.natAbs b.natAbs) _ hn3 hc3 (by omega)).mono ?_; rintro e w4 hri; obtain ⟨A', c', rfl, hv, hb3⟩ := WW.riv hri lg; have hT3 := hT5.below hb3; have hR1 := hR0.below hb1 hR0.lt; have hR2 := hR1.below hb2 hR1.lt; have hR5 := hR2.below hb5 hR2.lt; have hR3 := hR5.below hb3 hR5.lt; obtain ⟨r0, r1⟩ := hR3.cells; have g0 := hR3.frozen 0; have g1 := hR3.frozen 1; have hT4 := hT3.store false (.slice A' (ln b16 (Nat.gcd a.natAbs b.natAbs)) c')))
  obtain ⟨hW, hbW⟩ := store_whole hR3 hT3.bel (show w.heap.size ≤ w.heap.size + 1 + 1 by omega) false (.slice A' (ln b16 (Nat.gcd a.natAbs b.natAbs)) c')
  have hsz := hT5.bel.size
  have hv2 := (hv.store hR5.lt false (.slice A' (ln b16 (Nat.gcd a.natAbs b.natAbs)) c')).lower hsz
  clear hv hT0 hT1 hT2 hT3 hT4 hT5 hR0 hR1 hR2 hR3 hR5 r0 r1 g0 g1 hri
  go_wp2
  generalize ((w4.setCell ⟨w.heap.size + 1 + 1, 0, none⟩ (.bool false)).setCell ⟨w.heap.size + 1 + 1, 1, none⟩ (.slice A' (ln b16 (Nat.gcd a.natAbs b.natAbs)) c')) = WW at *
  obtain ⟨k0, k1⟩ := hW.cells
  refine bodyPost_ret (v := .tuple #[.agg #[.bool false, .slice A' (ln b16 (Nat.gcd a.natAbs b.natAbs)) c'], .int .i64 0]) (by simp [results, Tryz.results138, go_sem, k0, k1]) rfl ?_
  exact hv2.ri hbW
end Go.Proofs.YtmjlankpihnicaaGreat
namespace Go.Proofs.YtmjlankpihnicaaGreat
open Go.RowKit

end Go.Proofs.YtmjlankpihnicaaGreat
namespace Go.Proofs.YtmjlankpihnicaaGreat
open Go.RowKit

end Go.Proofs.YtmjlankpihnicaaGreat
/-! The walk of whole.Mul. -/
namespace Go.Proofs.YtmjlankpihnicaaGreat
open Go.RowKit

theorem toI_mul (a b : Int) : toI (decide (a < 0) != decide (b < 0)) (a.natAbs * b.natAbs) = a * b := by
  rw [← Int.natAbs_mul]
  by_cases ha : a < 0 <;> by_cases hb : b < 0
  · have := Int.mul_pos_of_neg_of_neg ha hb
    simp [ha, hb, toI]; omega
  · have : a * b ≤ 0 := Int.mul_nonpos_of_nonpos_of_nonneg (by omega) (by omega)
    simp [ha, hb, toI]; omega
  · have : a * b ≤ 0 := Int.mul_nonpos_of_nonneg_of_nonpos (by omega) (by omega)
    simp [ha, hb, toI]; omega
  · have : 0 ≤ a * b := Int.mul_nonneg (by omega) (by omega)
    simp [ha, hb, toI]; omega
theorem ln_mul {B x y m n : Nat} (hB : 2 ≤ B) (hx : ln B x ≤ m) (hy : ln B y ≤ n) : ln B (x * y) ≤ m + n := by
  refine (ln_le hB).2 ?_
  rw [Nat.pow_add]
  exact Nat.mul_lt_mul'' ((ln_le hB).1 hx) ((ln_le hB).1 hy)
set_option maxRecDepth 100000 in
set_option maxHeartbeats 4000000 in
theorem mul_any (a b : Int) (A B : Option Addr) (c d : Nat) (w : World) (hA : Num16 w A a.natAbs) (hB : Num16 w B b.natAbs) (ha : ln b16 a.natAbs ≤ 1024) (hb : ln b16 b.natAbs ≤ 1024) :
    Calls Tryz.prog 119 #[.agg #[.bool (decide (a < 0)), .slice A (ln b16 a.natAbs) c], .agg #[.bool (decide (b < 0)), .slice B (ln b16 b.natAbs) d]] w (RI w (a * b)) := by
  have htwo := two_call (decide (a < 0)) (decide (b < 0)) A B (ln b16 a.natAbs) (ln b16 b.natAbs) c d _ _ w hA hB (fun i => dgt16_lt _ i) (fun i => dgt16_lt _ i) (by omega) (by omega)
  rw [okW_two ha hb] at htwo
  have la := ln32_short ha
  have lb := ln32_short hb
  have hsum : toI (decide (a < 0) != decide (b < 0)) (a.natAbs * b.natAbs) = a * b := toI_mul a b
  have lm := ln_mul b32_two la lb
  have HSUM := Lib.hid hsum
  clear hsum
  obtain ⟨s, hs⟩ : ∃ s, s = decide (a < 0) := ⟨_, rfl⟩
  obtain ⟨t, ht⟩ : ∃ t, t = decide (b < 0) := ⟨_, rfl⟩
  rw [← hs, ← ht] at htwo HSUM ⊢
  clear hs ht
  go_enter Tryz.func119, Tryz.ntmps119
  go_wp2_with fail
  refine htwo.mono ?_
  rintro e w1 ⟨rfl, ht⟩
  have D1 := Lib.hid fun (w' : World) (hw' : Below w.heap.size w w') => pack_any A c a.natAbs w' (Num16.below hA hw') (by omega)
  have D2 := Lib.hid fun (w' : World) (hw' : Below w.heap.size w w') => pack_any B d b.natAbs w' (Num16.below hB hw') (by omega)
  have hT0 : TwoP w s t A B (ln b16 a.natAbs) (ln b16 b.natAbs) c d w1.drew := ⟨ht.p0, ht.p1, ht.bel.drew⟩
  have hR0 : WholeAt w1.drew (w.heap.size + 1 + 1) false (.slice none 0 0) := ht.r
  have HT := Lib.hid ht
  clear ht
  go_wp2_with fail
  go_region_held3 (fun w' => w'.cell? ⟨w.heap.size, 0, none⟩ = some (.bool s) ∧ w'.cell? ⟨w.heap.size, 1, none⟩ = some (.slice A (ln b16 a.natAbs) c) ∧ w'.cell? ⟨w.heap.size + 1, 0, none⟩ = some (.bool t) ∧ w'.cell? ⟨w.heap.size + 1, 1, none⟩ = some (.slice B (ln b16 b.natAbs) d) ∧ TwoP w s t A B (ln b16 a.natAbs) (ln b16 b.natAbs) c d w')
    (first | with_reducible exact hT4.s | with_reducible exact hT3.s | with_reducible exact hT5.s | with_reducible exact hT2.s | with_reducible exact hT1.s | with_reducible exact hT0.s)
    (first
      | (go_at_call_of 118 (Value.slice A (ln b16 a.natAbs) c); refine (D1.out _ hT0.bel).mono ?_; rintro e w2 ⟨A1, c1, rfl, hc1, hn1, hb1⟩; have hT1 := hT0.below hb1)
      | (go_at_call_of 118 (Value.slice B (ln b16 b.natAbs) d); refine (D2.out _ hT1.bel).mono ?_; rintro e w3 ⟨A2, c2, rfl, hc2, hn2, hb2⟩; have hT2 := hT1.below hb2)
      | (go_at_call 146; refine (times_any A1 A2 c1 c2 a.natAbs b.natAbs _ (Num32.below hn1 hb2) hn2 (by omega) (by omega)).mono ?_; rintro e w5 ⟨A3, c3, rfl, hc3, hn3, hb5⟩; have hT5 := hT2.below hb5)
      | (go_at_call 145; refine (result_any (s != t) A3 c3 (a.natAbs * b.natAbs) _ hn3 hc3 (by omega)).mono ?_; rintro e w4 hri; obtain ⟨s', A', n', c', k, rfl, hv, hb3⟩ := hri.vals; have hT3 := hT5.below hb3; have hR1 := hR0.below hb1 hR0.lt; have hR2 := hR1.below hb2 hR1.lt; have hR5 := hR2.below hb5 hR2.lt; have hR3 := hR5.below hb3 hR5.lt; obtain ⟨r0, r1⟩ := hR3.cells; have g0 := hR3.frozen 0; have g1 := hR3.frozen 1; have hT4 := hT3.store s' (.slice A' n' c')))
  obtain ⟨hW, hbW⟩ := store_whole hR3 hT3.bel (show w.heap.size ≤ w.heap.size + 1 + 1 by omega) s' (.slice A' n' c')
  have hsz := hT5.bel.size
  have hv2 := (hv.store hR5.lt s' (.slice A' n' c')).lower hsz
  rw [HSUM.out] at hv2
  clear hv hT0 hT1 hT2 hT3 hT4 hT5 hR0 hR1 hR2 hR3 hR5 r0 r1 g0 g1 hri
  go_wp2
  generalize ((w4.setCell ⟨w.heap.size + 1 + 1, 0, none⟩ (.bool s')).setCell ⟨w.heap.size + 1 + 1, 1, none⟩ (.slice A' n' c')) = WW at *
  obtain ⟨k0, k1⟩ := hW.cells
  refine bodyPost_ret (v := .tuple #[.agg #[.bool s', .slice A' n' c'], .int .i64 k]) (by simp [results, Tryz.results119, go_sem, k0, k1]) rfl ?_
  exact hv2.ri hbW
end Go.Proofs.YtmjlankpihnicaaGreat
namespace Go.Proofs.YtmjlankpihnicaaGreat
open Go.RowKit

/-- The order of two ints. -/
def cmpZ (a b : Int) : Int := if a < b then -1 else if b < a then 1 else 0
theorem two_call2 (s t : Bool) (A B : Option Addr) (n m c d : Nat) (f h : Nat → Nat) (w : World)
    (hA : Rd w.heap.size .u16 w A n f) (hB : Rd w.heap.size .u16 w B m h) (hf : ∀ i, f i < 65536) (hh : ∀ i, h i < 65536) (hn : n ≤ 1000000) (hm : m ≤ 1000000) :
    Calls Tryz.prog 116 #[.slice (some ⟨w.heap.size + 1 + 1, 0, none⟩) 2 2]
      (((w.alloc (.cells #[.bool s, .slice A n c] 27)).alloc (.cells #[.bool t, .slice B m d] 27)).alloc (.cells #[.bool s, .slice A n c, .bool t, .slice B m d] 27))
      fun e w' => e = .returned (.bool (okW s n f && okW t m h)) ∧ TwoP w s t A B n m c d w' := by
  have b1 : Below w.heap.size w (w.alloc (.cells #[.bool s, .slice A n c] 27)) := (Below.refl _ w).alloc (Nat.le_refl _) _
  have b2 := b1.alloc b1.size (.cells #[.bool t, .slice B m d] 27)
  have b4 := b2.alloc b2.size (.cells #[.bool s, .slice A n c, .bool t, .slice B m d] 27)
  have q0 := WholeAt.new w s (.slice A n c)
  have q1 := WholeAt.new (w.alloc (.cells #[.bool s, .slice A n c] 27)) t (.slice B m d)
  have q3 := heap_alloc_new ((w.alloc (.cells #[.bool s, .slice A n c] 27)).alloc (.cells #[.bool t, .slice B m d] 27)) (.cells #[.bool s, .slice A n c, .bool t, .slice B m d] 27)
  simp only [World.size_alloc] at q1 q3
  refine (allValid_two (w.heap.size + 1 + 1) s t A B n m c d f h _ q3 ((hA.below b4).more b4.size) ((hB.below b4).more b4.size) hf hh hn hm).mono ?_
  rintro e w' ⟨rfl, hb⟩
  refine ⟨rfl, ?_, ?_, b4.trans (hb.mono b4.size)⟩
  · refine WholeAt.below ?_ hb (by first | (simp; done) | (simp; omega))
    exact (Below.heap_alloc _ _ _ (by first | (simp; done) | (simp; omega))).trans ((Below.heap_alloc _ _ _ (by simp)).trans q0)
  · refine WholeAt.below ?_ hb (by first | (simp; done) | (simp; omega))
    exact (Below.heap_alloc _ _ _ (by simp)).trans q1
set_option maxRecDepth 100000 in
set_option maxHeartbeats 4000000 in
theorem cmp_any (a b : Int) (A B : Option Addr) (c d : Nat) (w : World) (hA : Num16 w A a.natAbs) (hB : Num16 w B b.natAbs) (ha : ln b16 a.natAbs ≤ 1024) (hb : ln b16 b.natAbs ≤ 1024) :
    Calls Tryz.prog 74 #[.agg #[.bool (decide (a < 0)), .slice A (ln b16 a.natAbs) c], .agg #[.bool (decide (b < 0)), .slice B (ln b16 b.natAbs) d]] w fun e w' => e = .returned (.int .i64 (cmpZ a b)) ∧ Below w.heap.size w w' := by
  have htwo := two_call2 (decide (a < 0)) (decide (b < 0)) A B (ln b16 a.natAbs) (ln b16 b.natAbs) c d _ _ w hA hB (fun i => dgt16_lt _ i) (fun i => dgt16_lt _ i) (by omega) (by omega)
  rw [okW_two ha hb] at htwo
  have la := ln32_short ha
  have lb := ln32_short hb
  obtain ⟨s, hs⟩ : ∃ s, s = decide (a < 0) := ⟨_, rfl⟩
  obtain ⟨t, ht⟩ : ∃ t, t = decide (b < 0) := ⟨_, rfl⟩
  rw [← hs, ← ht] at htwo ⊢
  have HS := Lib.hid hs
  have HT' := Lib.hid ht
  clear hs ht
  go_enter Tryz.func74, Tryz.ntmps74
  go_wp2_with fail
  refine htwo.mono ?_
  rintro e w1 ⟨rfl, ht⟩
  obtain ⟨p0, p1⟩ := ht.p0.cells
  obtain ⟨p2, p3⟩ := ht.p1.cells
  by_cases hst : s = t
  · subst hst
    have t0 : (s != s) = false := by simp
    have D1 := Lib.hid fun (w' : World) (hw' : Below w.heap.size w w') => pack_any A c a.natAbs w' (Num16.below hA hw') (by omega)
    have D2 := Lib.hid fun (w' : World) (hw' : Below w.heap.size w w') => pack_any B d b.natAbs w' (Num16.below hB hw') (by omega)
    have hT0 : TwoP w s s A B (ln b16 a.natAbs) (ln b16 b.natAbs) c d w1.drew := ⟨ht.p0, ht.p1, ht.bel.drew⟩
    have hcz : cmpZ a b = if s then -cmpI a.natAbs b.natAbs else cmpI a.natAbs b.natAbs := by
      have h1 := HS.out
      have h2 := HT'.out
      unfold cmpZ cmpI
      cases s
      · have h1 : 0 ≤ a := by simpa using h1.symm
        have h2 : 0 ≤ b := by simpa using h2.symm
        simp only [Bool.false_eq_true, if_false]
        split <;> split <;> (try split) <;> (try split) <;> omega
      · have h1 : a < 0 := by simpa using h1.symm
        have h2 : b < 0 := by simpa using h2.symm
        simp only [if_true]
        split <;> split <;> (try split) <;> (try split) <;> omega
    have HCZ := Lib.hid hcz
    clear hcz
    go_wp2_with fail
    clear p0 p1 p2 p3
    go_region_held3 (fun w' => w'.cell? ⟨w.heap.size, 0, none⟩ = some (.bool s) ∧ w'.cell? ⟨w.heap.size, 1, none⟩ = some (.slice A (ln b16 a.natAbs) c) ∧ w'.cell? ⟨w.heap.size + 1, 0, none⟩ = some (.bool s) ∧ w'.cell? ⟨w.heap.size + 1, 1, none⟩ = some (.slice B (ln b16 b.natAbs) d) ∧ TwoP w s s A B (ln b16 a.natAbs) (ln b16 b.natAbs) c d w')
      (first | with_reducible exact hT3.s | with_reducible exact hT2.s | with_reducible exact hT1.s | with_reducible exact hT0.s)
      (first
        | (go_at_call_of 118 (Value.slice A (ln b16 a.natAbs) c); refine (D1.out _ hT0.bel).mono ?_; rintro e w2 ⟨A1, c1, rfl, hc1, hn1, hb1⟩; have hT1 := hT0.below hb1)
        | (go_at_call_of 118 (Value.slice B (ln b16 b.natAbs) d); refine (D2.out _ hT1.bel).mono ?_; rintro e w3 ⟨A2, c2, rfl, hc2, hn2, hb2⟩; have hT2 := hT1.below hb2)
        | (go_at_call 117; refine (compare_any A1 A2 c1 c2 a.natAbs b.natAbs _ (Num32.below hn1 hb2) hn2 (by omega)).mono ?_; rintro e w4 ⟨rfl, q, rfl⟩; have hT3 := hT2.below (belowN (Below.refl _ _) q)))
    obtain ⟨k0, -⟩ := hT3.p0.cells
    have hbf := hT3.bel
    cases s
    · go_wp2
      go_ret
      exact ⟨ret_int (by rw [HCZ.out]; rfl), hbf⟩
    · go_wp2
      go_ret
      exact ⟨ret_int (by rw [HCZ.out]; simp only [if_true]; unfold cmpI; split <;> (try split) <;> simp [wrap64]), hbf⟩
  · have hval : cmpZ a b = if s then -1 else 1 := by
      have h1 := HS.out
      have h2 := HT'.out
      unfold cmpZ
      cases s <;> cases t <;> simp_all <;> omega
    have HV := Lib.hid hval
    clear hval
    cases s <;> cases t
    · exact absurd rfl hst
    · go_wp2_with fail
      go_ret
      exact ⟨ret_int (by rw [HV.out]; rfl), ht.bel⟩
    · go_wp2_with fail
      go_ret
      exact ⟨ret_int (by rw [HV.out]; rfl), ht.bel⟩
    · exact absurd rfl hst
end Go.Proofs.YtmjlankpihnicaaGreat
namespace Go.Proofs.YtmjlankpihnicaaGreat
open Go.RowKit

/-- Sign, address and length of the number z. -/
def WV (w : World) (z : Int) (s : Bool) (A : Option Addr) (n : Nat) : Prop := s = decide (z < 0) ∧ n = ln b16 z.natAbs ∧ Num16 w A z.natAbs
/-- The same, in memory from block 'base' on. -/
def WO (base : Nat) (w : World) (z : Int) (s : Bool) (A : Option Addr) (n c : Nat) : Prop := s = decide (z < 0) ∧ n = ln b16 z.natAbs ∧ Own16 base w A (ln b16 z.natAbs) c (dgt b16 z.natAbs)
/-- The call returned the number z. -/
def VI (z : Int) (w : World) (e : Ending) (w' : World) : Prop := ∃ s A n c, e = .returned (.agg #[.bool s, .slice A n c]) ∧ WO w.heap.size w' z s A n c ∧ Below w.heap.size w w'
/-- The call returned the number z and no error. -/
def VR (z : Int) (w : World) (e : Ending) (w' : World) : Prop := ∃ s A n c, e = .returned (.tuple #[.agg #[.bool s, .slice A n c], .int .i64 0]) ∧ WO w.heap.size w' z s A n c ∧ Below w.heap.size w w'
/-- The call returned the numbers q and r and no error. -/
def VR2 (q r : Int) (w : World) (e : Ending) (w' : World) : Prop :=
  ∃ s A n c t B m d, e = .returned (.tuple #[.agg #[.bool s, .slice A n c], .agg #[.bool t, .slice B m d], .int .i64 0]) ∧ WO w.heap.size w' q s A n c ∧ WO w.heap.size w' r t B m d ∧ Below w.heap.size w w'
theorem WO.v {base : Nat} {w : World} {z : Int} {s : Bool} {A : Option Addr} {n c : Nat} (h : WO base w z s A n c) : WV w z s A n := ⟨h.1, h.2.1, h.2.2.num⟩
theorem WO.len {base : Nat} {w : World} {z : Int} {s : Bool} {A : Option Addr} {n c : Nat} (h : WO base w z s A n c) : n = ln b16 z.natAbs := h.2.1
theorem WV.len {w : World} {z : Int} {s : Bool} {A : Option Addr} {n : Nat} (h : WV w z s A n) : n = ln b16 z.natAbs := h.2.1
theorem WV.sgn {w : World} {z : Int} {s : Bool} {A : Option Addr} {n : Nat} (h : WV w z s A n) : s = decide (z < 0) := h.1
theorem WV.below {w w' : World} {z : Int} {s : Bool} {A : Option Addr} {n : Nat} (h : WV w z s A n) (hb : Below w.heap.size w w') : WV w' z s A n := ⟨h.1, h.2.1, Num16.below h.2.2 hb⟩
theorem WV.drew {w : World} {z : Int} {s : Bool} {A : Option Addr} {n : Nat} (h : WV w z s A n) : WV w.drew z s A n := h
theorem WO.lower {base base' : Nat} {w : World} {z : Int} {s : Bool} {A : Option Addr} {n c : Nat} (h : WO base w z s A n c) (hb : base' ≤ base) : WO base' w z s A n c := ⟨h.1, h.2.1, h.2.2.lower hb⟩
theorem WO.below {base B : Nat} {w w' : World} {z : Int} {s : Bool} {A : Option Addr} {n c : Nat} (h : WO base w z s A n c) (hb : Below B w w') (hB : w.heap.size ≤ B) : WO base w' z s A n c := ⟨h.1, h.2.1, h.2.2.below hb hB⟩
theorem WO.store {base R : Nat} {w : World} {z : Int} {s : Bool} {A : Option Addr} {n c : Nat} (h : WO base w z s A n c) (hR : R < base) (s' : Bool) (v' : Value) : WO base ((w.setCell ⟨R, 0, none⟩ (.bool s')).setCell ⟨R, 1, none⟩ v') z s A n c :=
  ⟨h.1, h.2.1, store_own h.2.2 hR s' v'⟩
theorem WO.alloc {base : Nat} {w : World} {z : Int} {s : Bool} {A : Option Addr} {n c : Nat} (h : WO base w z s A n c) (o : Obj) : WO base (w.alloc o) z s A n c := ⟨h.1, h.2.1, h.2.2.alloc o⟩
theorem VI.mono {z : Int} {w w1 : World} {e : Ending} {w' : World} (h : VI z w1 e w') (hb : Below w.heap.size w w1) : VI z w e w' := by
  obtain ⟨s, A, n, c, he, ho, hb'⟩ := h
  exact ⟨s, A, n, c, he, ho.lower hb.size, hb.trans (hb'.mono hb.size)⟩
theorem WI.vi {w w' : World} {z : Int} {e : Ending} (h : WI w z e w') : VI z w e w' := by
  obtain ⟨A, c, he, ho, hb⟩ := h
  exact ⟨_, A, _, c, he, ⟨rfl, rfl, ho⟩, hb⟩
theorem RI.vr {w w' : World} {z : Int} {e : Ending} (h : RI w z e w') (hl : ln b16 z.natAbs ≤ 1024) : VR z w e w' := by
  rcases h with ⟨_, A, c, he, ho, hb⟩ | ⟨h1, _⟩
  · exact ⟨_, A, _, c, he, ⟨rfl, rfl, ho⟩, hb⟩
  · omega
theorem ln_addZ {a b : Int} {m : Nat} (ha : ln b16 a.natAbs ≤ m) (hb : ln b16 b.natAbs ≤ m) : ln b16 (a + b).natAbs ≤ m + 1 :=
  Nat.le_trans (ln_mono b16_two (Int.natAbs_add_le a b)) (ln_add b16_two ha hb)
theorem ln_mulZ {a b : Int} {m n : Nat} (ha : ln b16 a.natAbs ≤ m) (hb : ln b16 b.natAbs ≤ n) : ln b16 (a * b).natAbs ≤ m + n := by
  rw [Int.natAbs_mul]
  exact ln_mul b16_two ha hb
theorem ln_int {z : Int} (h1 : -9223372036854775808 ≤ z) (h2 : z ≤ 9223372036854775807) : ln b16 z.natAbs ≤ 4 := (ln_le b16_two).2 (show z.natAbs < 18446744073709551616 by omega)

section
variable {a b : Int} {s t : Bool} {A B : Option Addr} {n m c d : Nat} {w : World}
theorem divMod_v (ha : WV w a s A n) (hb : WV w b t B m) (la : n ≤ 1024) (lb : m ≤ 1024) (hb0 : b ≠ 0) :
    Calls Tryz.prog 153 #[.agg #[.bool s, .slice A n c], .agg #[.bool t, .slice B m d]] w (VR2 (a.fdiv b) (a.fmod b) w) := by
  obtain ⟨rfl, rfl, hA⟩ := ha
  obtain ⟨rfl, rfl, hB⟩ := hb
  refine (divMod_any a b A B c d w hA hB la lb hb0).mono ?_
  rintro e w' ⟨A', c', B', d', m, he, h1, -, h2, h3, hb⟩
  exact ⟨_, A', _, c', _, B', _, d', he, ⟨rfl, rfl, h1⟩, ⟨rfl, rfl, h3.lower h2⟩, hb⟩
theorem gcd_v (ha : WV w a s A n) (hb : WV w b t B m) (la : n ≤ 1024) (lb : m ≤ 1024) :
    Calls Tryz.prog 138 #[.agg #[.bool s, .slice A n c], .agg #[.bool t, .slice B m d]] w (VR ((Nat.gcd a.natAbs b.natAbs : Nat) : Int) w) := by
  obtain ⟨rfl, rfl, hA⟩ := ha
  obtain ⟨rfl, rfl, hB⟩ := hb
  exact (gcd_any a b A B c d w hA hB la lb).mono fun _ _ h => h.vr (by rw [Int.natAbs_natCast]; exact ln_gcd _ _ _ la lb)
theorem cmp_v (ha : WV w a s A n) (hb : WV w b t B m) (la : n ≤ 1024) (lb : m ≤ 1024) :
    Calls Tryz.prog 74 #[.agg #[.bool s, .slice A n c], .agg #[.bool t, .slice B m d]] w fun e w' => e = .returned (.int .i64 (cmpZ a b)) ∧ Below w.heap.size w w' := by
  obtain ⟨rfl, rfl, hA⟩ := ha
  obtain ⟨rfl, rfl, hB⟩ := hb
  exact cmp_any a b A B c d w hA hB la lb
theorem refSame_v (ha : WV w a s A n) (hb : WV w b t B m) (la : n ≤ 1000000) (lb : m ≤ 1000000) :
    Calls Tryz.prog 99 #[.agg #[.bool s, .slice A n c], .agg #[.bool t, .slice B m d]] w fun e w' => e = .returned (.bool (decide (a = b))) ∧ Below w.heap.size w w' := by
  obtain ⟨rfl, rfl, hA⟩ := ha
  obtain ⟨rfl, rfl, hB⟩ := hb
  have h := refSame_any (decide (a < 0)) (decide (b < 0)) A B (ln b16 a.natAbs) (ln b16 b.natAbs) c d _ _ w hA hB la lb
  rw [sameW_num] at h
  exact h
theorem same_v (ha : WV w a s A n) (hb : WV w b t B m) (la : n ≤ 1000000) (lb : m ≤ 1000000) :
    Calls Tryz.prog 133 #[.agg #[.bool s, .slice A n c], .agg #[.bool t, .slice B m d]] w fun e w' => e = .returned (.bool (decide (a = b))) ∧ Below w.heap.size w w' := by
  obtain ⟨rfl, rfl, hA⟩ := ha
  obtain ⟨rfl, rfl, hB⟩ := hb
  have h := same_any (decide (a < 0)) (decide (b < 0)) A B (ln b16 a.natAbs) (ln b16 b.natAbs) c d _ _ w hA hB la lb
  rw [sameW_num] at h
  exact h
theorem add_v (ha : WV w a s A n) (hb : WV w b t B m) (la : n ≤ 1024) (lb : m ≤ 1024) (lr : ln b16 (a + b).natAbs ≤ 1024) :
    Calls Tryz.prog 136 #[.agg #[.bool s, .slice A n c], .agg #[.bool t, .slice B m d]] w (VR (a + b) w) := by
  obtain ⟨rfl, rfl, hA⟩ := ha
  obtain ⟨rfl, rfl, hB⟩ := hb
  exact (add_any a b A B c d w hA hB la lb).mono fun _ _ h => h.vr lr
theorem mul_v (ha : WV w a s A n) (hb : WV w b t B m) (la : n ≤ 1024) (lb : m ≤ 1024) (lr : ln b16 (a * b).natAbs ≤ 1024) :
    Calls Tryz.prog 119 #[.agg #[.bool s, .slice A n c], .agg #[.bool t, .slice B m d]] w (VR (a * b) w) := by
  obtain ⟨rfl, rfl, hA⟩ := ha
  obtain ⟨rfl, rfl, hB⟩ := hb
  exact (mul_any a b A B c d w hA hB la lb).mono fun _ _ h => h.vr lr
end
end Go.Proofs.YtmjlankpihnicaaGreat
/-! The walks of the laws' helpers sum, product, less and equal. -/
namespace Go.Proofs.YtmjlankpihnicaaGreat
open Go.RowKit

section
variable {a b : Int} {s t : Bool} {A B : Option Addr} {n m c d : Nat} {w : World}
end
end Go.Proofs.YtmjlankpihnicaaGreat
/-! The walk of the laws' awake. -/
namespace Go.Proofs.YtmjlankpihnicaaGreat
open Go.RowKit

/-- What holds of a world and stays where nothing that lay is touched. -/
def Stable (P : World → Prop) : Prop := ∀ W W', Below W.heap.size W W' → P W → P W'
structure Env (w : World) (P : World → Prop) (W : World) : Prop where
  bel : Below w.heap.size w W
  st : Stable P
  here : P W
theorem Env.start (w : World) : Env w (fun _ => True) w := ⟨Below.refl _ _, fun _ _ _ h => h, trivial⟩
theorem Env.step {w : World} {P : World → Prop} {W W' : World} (h : Env w P W) (hb : Below W.heap.size W W') : Env w P W' := ⟨h.bel.trans (hb.mono h.bel.size), h.st, h.st _ _ hb h.here⟩
theorem Env.alloc {w : World} {P : World → Prop} {W : World} (h : Env w P W) (o : Obj) : Env w P (W.alloc o) := h.step ((Below.refl _ W).alloc (Nat.le_refl _) o)
theorem Env.drew {w : World} {P : World → Prop} {W : World} (h : Env w P W) : Env w P W.drew := h.step (Below.refl _ W).drew
theorem Env.and {w : World} {P Q : World → Prop} {W : World} (h : Env w P W) (hs : Stable Q) (hq : Q W) : Env w (fun W => P W ∧ Q W) W :=
  ⟨h.bel, fun A B hb hp => ⟨h.st A B hb hp.1, hs A B hb hp.2⟩, h.here, hq⟩
/-- A variable that holds the number z. -/
def Bx (g : Nat) (z : Int) (s : Bool) (A : Option Addr) (n c : Nat) (W : World) : Prop := WholeAt W g s (.slice A n c) ∧ WV W z s A n
theorem Bx.stable (g : Nat) (z : Int) (s : Bool) (A : Option Addr) (n c : Nat) : Stable (Bx g z s A n c) := fun _ _ hb ⟨h1, h2⟩ => ⟨h1.below hb h1.lt, h2.below hb⟩
theorem Bx.new {W : World} {z : Int} {s : Bool} {A : Option Addr} {n c : Nat} (h : WV W z s A n) : Bx W.heap.size z s A n c (W.alloc (.cells #[.bool s, .slice A n c] 27)) :=
  ⟨WholeAt.new W s _, h.below ((Below.refl _ W).alloc (Nat.le_refl _) _)⟩
theorem WV.stable (z : Int) (s : Bool) (A : Option Addr) (n : Nat) : Stable (fun W => WV W z s A n) := fun _ _ hb h => h.below hb
end Go.Proofs.YtmjlankpihnicaaGreat
/-! The walk of the laws' usable. -/
namespace Go.Proofs.YtmjlankpihnicaaGreat
open Go.RowKit

theorem Env.cons {w : World} {P Q : World → Prop} {W : World} (h : Env w P W) (hs : Stable Q) (hq : Q W) : Env w (fun W => Q W ∧ P W) W :=
  ⟨h.bel, fun A B hb hp => ⟨hs A B hb hp.1, h.st A B hb hp.2⟩, hq, h.here⟩
theorem WholeAt.stable (g : Nat) (s : Bool) (v : Value) : Stable (fun W => WholeAt W g s v) := fun _ _ hb h => h.below hb h.lt
/-- The boxes of three arguments. -/
def Three (g : Nat) (s1 s2 s3 : Bool) (A1 A2 A3 : Option Addr) (n1 n2 n3 c1 c2 c3 : Nat) (W : World) : Prop :=
  WholeAt W g s1 (.slice A1 n1 c1) ∧ WholeAt W (g + 1) s2 (.slice A2 n2 c2) ∧ WholeAt W (g + 1 + 1) s3 (.slice A3 n3 c3)
/-- The boxes of three arguments that are numbers. -/
def Tri (g : Nat) (a b c : Int) (s1 s2 s3 : Bool) (A1 A2 A3 : Option Addr) (n1 n2 n3 c1 c2 c3 : Nat) (W : World) : Prop :=
  Bx g a s1 A1 n1 c1 W ∧ Bx (g + 1) b s2 A2 n2 c2 W ∧ Bx (g + 1 + 1) c s3 A3 n3 c3 W
def Two0 (g : Nat) (s1 s2 : Bool) (A1 A2 : Option Addr) (n1 n2 c1 c2 : Nat) (W : World) : Prop :=
  WholeAt W g s1 (.slice A1 n1 c1) ∧ WholeAt W (g + 1) s2 (.slice A2 n2 c2)
def Duo (g : Nat) (a b : Int) (s1 s2 : Bool) (A1 A2 : Option Addr) (n1 n2 c1 c2 : Nat) (W : World) : Prop :=
  Bx g a s1 A1 n1 c1 W ∧ Bx (g + 1) b s2 A2 n2 c2 W
section
variable {g : Nat} {a b c : Int} {s1 s2 s3 : Bool} {A1 A2 A3 : Option Addr} {n1 n2 n3 c1 c2 c3 : Nat} {w W : World}
theorem Three.stable : Stable (Three g s1 s2 s3 A1 A2 A3 n1 n2 n3 c1 c2 c3) := fun _ _ hb ⟨h1, h2, h3⟩ => ⟨h1.below hb h1.lt, h2.below hb h2.lt, h3.below hb h3.lt⟩
theorem Two0.stable : Stable (Two0 g s1 s2 A1 A2 n1 n2 c1 c2) := fun _ _ hb ⟨h1, h2⟩ => ⟨h1.below hb h1.lt, h2.below hb h2.lt⟩
theorem Tri.stable : Stable (Tri g a b c s1 s2 s3 A1 A2 A3 n1 n2 n3 c1 c2 c3) := fun A B hb ⟨h1, h2, h3⟩ => ⟨Bx.stable _ _ _ _ _ _ A B hb h1, Bx.stable _ _ _ _ _ _ A B hb h2, Bx.stable _ _ _ _ _ _ A B hb h3⟩
theorem Duo.stable : Stable (Duo g a b s1 s2 A1 A2 n1 n2 c1 c2) := fun A B hb ⟨h1, h2⟩ => ⟨Bx.stable _ _ _ _ _ _ A B hb h1, Bx.stable _ _ _ _ _ _ A B hb h2⟩
theorem Three.cells (h : Three g s1 s2 s3 A1 A2 A3 n1 n2 n3 c1 c2 c3 W) : W.cell? ⟨g, 0, none⟩ = some (.bool s1) ∧ W.cell? ⟨g, 1, none⟩ = some (.slice A1 n1 c1) ∧ W.cell? ⟨g + 1, 0, none⟩ = some (.bool s2) ∧ W.cell? ⟨g + 1, 1, none⟩ = some (.slice A2 n2 c2) ∧
    W.cell? ⟨g + 1 + 1, 0, none⟩ = some (.bool s3) ∧ W.cell? ⟨g + 1 + 1, 1, none⟩ = some (.slice A3 n3 c3) := ⟨h.1.cells.1, h.1.cells.2, h.2.1.cells.1, h.2.1.cells.2, h.2.2.cells.1, h.2.2.cells.2⟩
theorem Two0.cells (h : Two0 g s1 s2 A1 A2 n1 n2 c1 c2 W) : W.cell? ⟨g, 0, none⟩ = some (.bool s1) ∧ W.cell? ⟨g, 1, none⟩ = some (.slice A1 n1 c1) ∧ W.cell? ⟨g + 1, 0, none⟩ = some (.bool s2) ∧ W.cell? ⟨g + 1, 1, none⟩ = some (.slice A2 n2 c2) :=
  ⟨h.1.cells.1, h.1.cells.2, h.2.cells.1, h.2.cells.2⟩
theorem Tri.cells (h : Env w (Tri g a b c s1 s2 s3 A1 A2 A3 n1 n2 n3 c1 c2 c3) W) : W.cell? ⟨g, 0, none⟩ = some (.bool s1) ∧ W.cell? ⟨g, 1, none⟩ = some (.slice A1 n1 c1) ∧ W.cell? ⟨g + 1, 0, none⟩ = some (.bool s2) ∧ W.cell? ⟨g + 1, 1, none⟩ = some (.slice A2 n2 c2) ∧
    W.cell? ⟨g + 1 + 1, 0, none⟩ = some (.bool s3) ∧ W.cell? ⟨g + 1 + 1, 1, none⟩ = some (.slice A3 n3 c3) ∧ Env w (Tri g a b c s1 s2 s3 A1 A2 A3 n1 n2 n3 c1 c2 c3) W :=
  ⟨h.here.1.1.cells.1, h.here.1.1.cells.2, h.here.2.1.1.cells.1, h.here.2.1.1.cells.2, h.here.2.2.1.cells.1, h.here.2.2.1.cells.2, h⟩
theorem Duo.cells (h : Env w (Duo g a b s1 s2 A1 A2 n1 n2 c1 c2) W) : W.cell? ⟨g, 0, none⟩ = some (.bool s1) ∧ W.cell? ⟨g, 1, none⟩ = some (.slice A1 n1 c1) ∧ W.cell? ⟨g + 1, 0, none⟩ = some (.bool s2) ∧ W.cell? ⟨g + 1, 1, none⟩ = some (.slice A2 n2 c2) ∧
    Env w (Duo g a b s1 s2 A1 A2 n1 n2 c1 c2) W :=
  ⟨h.here.1.1.cells.1, h.here.1.1.cells.2, h.here.2.1.cells.1, h.here.2.1.cells.2, h⟩
end
theorem Env.two (w : World) (s1 s2 : Bool) (A1 A2 : Option Addr) (n1 n2 c1 c2 : Nat) :
    Env w (Two0 w.heap.size s1 s2 A1 A2 n1 n2 c1 c2) ((w.alloc (.cells #[.bool s1, .slice A1 n1 c1] 27)).alloc (.cells #[.bool s2, .slice A2 n2 c2] 27)) :=
  have hT := TwoP.start w s1 s2 A1 A2 n1 n2 c1 c2
  ⟨hT.bel, Two0.stable, hT.p0, hT.p1⟩
theorem Env.three (w : World) (s1 s2 s3 : Bool) (A1 A2 A3 : Option Addr) (n1 n2 n3 c1 c2 c3 : Nat) :
    Env w (Three w.heap.size s1 s2 s3 A1 A2 A3 n1 n2 n3 c1 c2 c3) (((w.alloc (.cells #[.bool s1, .slice A1 n1 c1] 27)).alloc (.cells #[.bool s2, .slice A2 n2 c2] 27)).alloc (.cells #[.bool s3, .slice A3 n3 c3] 27)) := by
  have hT := TwoP.start w s1 s2 A1 A2 n1 n2 c1 c2
  have h3 := WholeAt.new ((w.alloc (.cells #[.bool s1, .slice A1 n1 c1] 27)).alloc (.cells #[.bool s2, .slice A2 n2 c2] 27)) s3 (.slice A3 n3 c3)
  simp only [World.size_alloc] at h3
  exact ⟨hT.bel.alloc hT.bel.size _, Three.stable, hT.p0.alloc' _, hT.p1.alloc' _, h3⟩
end Go.Proofs.YtmjlankpihnicaaGreat
namespace Go.Proofs.YtmjlankpihnicaaGreat

/-- Lowest terms. -/
theorem low_num {n d : Int} (hd : 0 < d) : (Rat.divInt n d).num = n / ((Nat.gcd n.natAbs d.natAbs : Nat) : Int) ∧ ((Rat.divInt n d).den : Int) = d / ((Nat.gcd n.natAbs d.natAbs : Nat) : Int) := by
  rw [Rat.num_divInt, Rat.den_divInt, if_neg (by omega), Int.sign_eq_one_of_pos hd, Int.one_mul]
  have e : Int.gcd d n = Nat.gcd n.natAbs d.natAbs := by rw [Int.gcd_comm]; rfl
  rw [e]
  refine ⟨rfl, ?_⟩
  rw [Int.natCast_ediv]
  congr 1
  omega
theorem low_neg (n d : Int) : Rat.divInt (-n) (-d) = Rat.divInt n d := Rat.neg_divInt_neg n d
theorem add_low (a b : Rat) : Rat.divInt (a.num * (b.den : Int) + b.num * (a.den : Int)) ((a.den : Int) * (b.den : Int)) = a + b := by
  rw [Rat.add_def', ← Int.natCast_mul, Rat.divInt_ofNat]
theorem sub_low (a b : Rat) : Rat.divInt (a.num * (b.den : Int) + -(b.num * (a.den : Int))) ((a.den : Int) * (b.den : Int)) = a - b := by
  rw [Rat.sub_def', ← Int.natCast_mul, Rat.divInt_ofNat, Int.sub_eq_add_neg]
theorem mul_low (a b : Rat) : Rat.divInt (a.num * b.num) ((a.den : Int) * (b.den : Int)) = a * b := by
  rw [Rat.mul_def', ← Int.natCast_mul, Rat.divInt_ofNat]
theorem div_low (a b : Rat) : Rat.divInt (a.num * (b.den : Int)) ((a.den : Int) * b.num) = a / b := by
  rw [Rat.div_def, Rat.inv_def, ← Rat.divInt_mul_divInt, Rat.num_divInt_den]
/-- Comparison by cross products. -/
theorem cmp_lt (a b : Rat) : a.num * (b.den : Int) < b.num * (a.den : Int) ↔ a < b := (Rat.lt_iff a b).symm
theorem mk_low {n : Int} {d : Nat} (hd : 0 < d) (hg : Nat.gcd n.natAbs d = 1) : (Rat.divInt n d).num = n ∧ (Rat.divInt n d).den = d := by
  have h : Rat.divInt n d = ⟨n, d, by omega, hg⟩ := (Rat.mk_eq_divInt).symm
  rw [h]
  exact ⟨rfl, rfl⟩
theorem den_pos (q : Rat) : 0 < q.den := Nat.pos_of_ne_zero q.den_nz
/-- The denominator of q divides D. -/
def Dv (q : Rat) (D : Nat) : Prop := ∃ z : Int, q * (D : Rat) = (z : Rat)
theorem Dv.iff {q : Rat} {D : Nat} : q.den ∣ D ↔ Dv q D := by
  have e : q * (q.den : Rat) = (q.num : Rat) := by
    have hq : (q.den : Rat) ≠ 0 := by
      have := q.den_nz
      intro h
      exact this (by exact_mod_cast h)
    have h1 := Rat.num_divInt_den q
    rw [Rat.divInt_eq_div] at h1
    have h2 : (((q.den : Nat) : Int) : Rat) = ((q.den : Nat) : Rat) := rfl
    rw [h2] at h1
    conv => lhs; rw [← h1]
    grind
  constructor
  · rintro ⟨k, hk⟩
    refine ⟨q.num * k, ?_⟩
    rw [hk, Rat.natCast_mul, Rat.intCast_mul, ← e]
    have : ((k : Int) : Rat) = (k : Rat) := rfl
    rw [this]
    grind
  · rintro ⟨z, hz⟩
    have h1 : (q.num : Rat) * (D : Rat) = (z : Rat) * (q.den : Rat) := by
      rw [← e, ← hz]; grind
    have h2 : q.num * (D : Int) = z * (q.den : Int) := by
      have h3 : (((q.num * (D : Int) : Int)) : Rat) = ((z * (q.den : Int) : Int) : Rat) := by
        rw [Rat.intCast_mul, Rat.intCast_mul]; exact h1
      exact Rat.intCast_inj.1 h3
    have h4 : q.den ∣ q.num.natAbs * D := by
      have h5 := congrArg Int.natAbs h2
      rw [Int.natAbs_mul, Int.natAbs_mul, Int.natAbs_natCast, Int.natAbs_natCast] at h5
      exact ⟨z.natAbs, by rw [h5, Nat.mul_comm]⟩
    exact (Nat.Coprime.dvd_of_dvd_mul_left (Nat.Coprime.symm q.reduced) h4)
theorem Dv.self (q : Rat) : Dv q q.den := Dv.iff.1 (Nat.dvd_refl _)
theorem Dv.int (z : Int) : Dv (z : Rat) 1 := ⟨z, by grind⟩
theorem Dv.add {a b : Rat} {D : Nat} (ha : Dv a D) (hb : Dv b D) : Dv (a + b) D := by
  obtain ⟨x, hx⟩ := ha
  obtain ⟨y, hy⟩ := hb
  exact ⟨x + y, by rw [Rat.intCast_add, ← hx, ← hy]; grind⟩
theorem Dv.neg {a : Rat} {D : Nat} (ha : Dv a D) : Dv (-a) D := by
  obtain ⟨x, hx⟩ := ha
  exact ⟨-x, by rw [Rat.intCast_neg, ← hx]; grind⟩
theorem Dv.sub {a b : Rat} {D : Nat} (ha : Dv a D) (hb : Dv b D) : Dv (a - b) D := by
  rw [Rat.sub_eq_add_neg]; exact ha.add hb.neg
theorem Dv.mul {a b : Rat} {D E : Nat} (ha : Dv a D) (hb : Dv b E) : Dv (a * b) (D * E) := by
  obtain ⟨x, hx⟩ := ha
  obtain ⟨y, hy⟩ := hb
  exact ⟨x * y, by rw [Rat.intCast_mul, Rat.natCast_mul, ← hx, ← hy]; grind⟩
theorem Dv.more {a : Rat} {D E : Nat} (ha : Dv a D) (h : D ∣ E) : Dv a E := Dv.iff.1 (Nat.dvd_trans (Dv.iff.2 ha) h)
/-- The greater length of the two parts. -/
def fl (q : Rat) : Nat := max (ln b16 q.num.natAbs) (ln b16 q.den)
theorem fl_le {q : Rat} {k : Nat} : fl q ≤ k ↔ ln b16 q.num.natAbs ≤ k ∧ ln b16 q.den ≤ k := by unfold fl; omega
/-- A bound of the length by a bound of the absolute value and a common denominator. -/
theorem fl_bound {q : Rat} {D M k : Nat} (hD : 0 < D) (hd : Dv q D) (h1 : -(M : Rat) ≤ q) (h2 : q ≤ (M : Rat)) (hM : 0 < M) (hk : ln b16 (M * D) ≤ k) : fl q ≤ k := by
  have hdv := Nat.le_of_dvd hD (Dv.iff.2 hd)
  have e1 : q.num.natAbs ≤ M * q.den := by
    have h3 := (Rat.le_iff q (M : Rat)).1 h2
    have h4 := (Rat.le_iff (-(M : Rat)) q).1 h1
    rw [Rat.neg_num, Rat.neg_den] at h4
    rw [Rat.num_natCast, Rat.den_natCast] at h3 h4
    simp only [Int.natCast_one, Int.mul_one] at h3 h4
    rw [Int.neg_mul] at h4
    have h5 : ((M * q.den : Nat) : Int) = (M : Int) * (q.den : Int) := Int.natCast_mul _ _
    omega
  have e2 : M * q.den ≤ M * D := Nat.mul_le_mul_left _ hdv
  have e3 : q.den ≤ M * D := Nat.le_trans hdv (Nat.le_mul_of_pos_left _ hM)
  exact fl_le.2 ⟨Nat.le_trans (ln_mono b16_two (Nat.le_trans e1 e2)) hk, Nat.le_trans (ln_mono b16_two e3) hk⟩
end Go.Proofs.YtmjlankpihnicaaGreat
namespace Go.Proofs.YtmjlankpihnicaaGreat
open Go.RowKit

/-- Block g is just the cells cs (type t), none frozen. -/
def Blk (t : TypeId) (g : Nat) (cs : Array Value) (w : World) : Prop := w.heap[g]? = some (.cells cs t (0, 0))
/-- Not a limb. -/
def noLimb : Value → Bool
  | .int .u16 _ => false
  | _ => true
section
variable {w w' : World} {g B : Nat} {t : TypeId} {cs : Array Value}
theorem Blk.lt (h : Blk t g cs w) : g < w.heap.size := heap_lt h
theorem Blk.cell (h : Blk t g cs w) (i : Nat) : w.cell? ⟨g, i, none⟩ = cs[i]? := cell_of_row w g i cs t (0, 0) h
theorem Blk.frozen (h : Blk t g cs w) (i : Nat) : w.frozen? ⟨g, i, none⟩ = false := by
  unfold Blk at h
  simp [World.frozen?, h]
theorem Blk.new (w : World) (t : TypeId) (cs : Array Value) : Blk t w.heap.size cs (w.alloc (.cells cs t)) := heap_alloc_new w _
theorem Blk.below (h : Blk t g cs w) (hb : Below B w w') (hg : g < B) : Blk t g cs w' := (hb.block g hg).trans h
theorem Blk.stable (t : TypeId) (g : Nat) (cs : Array Value) : Stable (Blk t g cs) := fun _ _ hb h => h.below hb h.lt
theorem Blk.set_ (h : Blk t g cs w) (i : Nat) (u : Value) : Blk t g (cs.setIfInBounds i u) (w.setCell ⟨g, i, none⟩ u) := by
  unfold Blk at h ⊢
  simp [World.setCell, Array.getElem?_modify, h]
theorem Blk.far (h : Blk t g cs w) {p : Addr} (hp : g ≠ p.block) (u : Value) : Blk t g cs (w.setCell p u) := (Below.heap_setCell w p u g hp).trans h
theorem Blk.c2 {a b : Value} (h : Blk t g #[a, b] w) : w.cell? ⟨g, 0, none⟩ = some a ∧ w.cell? ⟨g, 1, none⟩ = some b := ⟨h.cell 0, h.cell 1⟩
theorem Blk.c3 {a b c : Value} (h : Blk t g #[a, b, c] w) : w.cell? ⟨g, 0, none⟩ = some a ∧ w.cell? ⟨g, 1, none⟩ = some b ∧ w.cell? ⟨g, 2, none⟩ = some c := ⟨h.cell 0, h.cell 1, h.cell 2⟩
theorem Blk.c4 {a b c d : Value} (h : Blk t g #[a, b, c, d] w) : w.cell? ⟨g, 0, none⟩ = some a ∧ w.cell? ⟨g, 1, none⟩ = some b ∧ w.cell? ⟨g, 2, none⟩ = some c ∧ w.cell? ⟨g, 3, none⟩ = some d := ⟨h.cell 0, h.cell 1, h.cell 2, h.cell 3⟩
theorem Blk.j2 {a b : Value} {R : Prop} (h : Blk t g #[a, b] w) (r : R) : w.cell? ⟨g, 0, none⟩ = some a ∧ w.cell? ⟨g, 1, none⟩ = some b ∧ R := ⟨h.cell 0, h.cell 1, r⟩
theorem Blk.f2 (h : Blk t g cs w) : w.frozen? ⟨g, 0, none⟩ = false ∧ w.frozen? ⟨g, 1, none⟩ = false := ⟨h.frozen 0, h.frozen 1⟩
theorem Blk.j3 {a b c : Value} {R : Prop} (h : Blk t g #[a, b, c] w) (r : R) : w.cell? ⟨g, 0, none⟩ = some a ∧ w.cell? ⟨g, 1, none⟩ = some b ∧ w.cell? ⟨g, 2, none⟩ = some c ∧ R := ⟨h.cell 0, h.cell 1, h.cell 2, r⟩
theorem Blk.f3 (h : Blk t g cs w) : w.frozen? ⟨g, 0, none⟩ = false ∧ w.frozen? ⟨g, 1, none⟩ = false ∧ w.frozen? ⟨g, 2, none⟩ = false := ⟨h.frozen 0, h.frozen 1, h.frozen 2⟩
theorem Blk.j4 {a b c d : Value} {R : Prop} (h : Blk t g #[a, b, c, d] w) (r : R) : w.cell? ⟨g, 0, none⟩ = some a ∧ w.cell? ⟨g, 1, none⟩ = some b ∧ w.cell? ⟨g, 2, none⟩ = some c ∧ w.cell? ⟨g, 3, none⟩ = some d ∧ R := ⟨h.cell 0, h.cell 1, h.cell 2, h.cell 3, r⟩
theorem Blk.f4 (h : Blk t g cs w) : w.frozen? ⟨g, 0, none⟩ = false ∧ w.frozen? ⟨g, 1, none⟩ = false ∧ w.frozen? ⟨g, 2, none⟩ = false ∧ w.frozen? ⟨g, 3, none⟩ = false := ⟨h.frozen 0, h.frozen 1, h.frozen 2, h.frozen 3⟩
theorem Blk.s2 {a b : Value} (h : Blk t g #[a, b] w) (a' b' : Value) : Blk t g #[a', b'] ((w.setCell ⟨g, 0, none⟩ a').setCell ⟨g, 1, none⟩ b') := by
  have := (h.set_ 0 a').set_ 1 b'
  simpa using this
theorem Blk.s4 {a b c d : Value} (h : Blk t g #[a, b, c, d] w) (a' b' c' d' : Value) : Blk t g #[a', b', c', d'] ((((w.setCell ⟨g, 0, none⟩ a').setCell ⟨g, 1, none⟩ b').setCell ⟨g, 2, none⟩ c').setCell ⟨g, 3, none⟩ d') := by
  have := (((h.set_ 0 a').set_ 1 b').set_ 2 c').set_ 3 d'
  simpa using this
theorem Blk.far2 {R : Nat} (h : Blk t g cs w) (hp : g ≠ R) (a b : Value) : Blk t g cs ((w.setCell ⟨R, 0, none⟩ a).setCell ⟨R, 1, none⟩ b) := (h.far (p := ⟨R, 0, none⟩) hp a).far (p := ⟨R, 1, none⟩) hp b
theorem Blk.far4 {R : Nat} (h : Blk t g cs w) (hp : g ≠ R) (a b c d : Value) : Blk t g cs ((((w.setCell ⟨R, 0, none⟩ a).setCell ⟨R, 1, none⟩ b).setCell ⟨R, 2, none⟩ c).setCell ⟨R, 3, none⟩ d) := (h.far2 hp a b).far (p := ⟨R, 2, none⟩) hp c |>.far (p := ⟨R, 3, none⟩) hp d
theorem Rd.sep {n i : Nat} {A : Option Addr} {f : Nat → Nat} (h : Rd B .u16 w A n f) (hW : Blk t g cs w) (hn : cs.toList.all noLimb = true) (u : Value) : Rd B .u16 (w.setCell ⟨g, i, none⟩ u) A n f := fun h0 => by
  obtain ⟨b, o, e, hb, hc⟩ := h h0
  refine ⟨b, o, e, hb, fun j hj => ?_⟩
  have hne : b ≠ g := fun e => by
    subst e
    have h1 := hc j hj
    rw [hW.cell] at h1
    have h2 := List.all_eq_true.1 hn _ (Array.mem_toList_iff.2 (Array.mem_of_getElem? h1))
    cases h2
  rw [World.cell?_setCell_other w _ _ u (fun e => hne (congrArg Addr.block e).symm)]
  exact hc j hj
theorem WV.sep {i n : Nat} {z : Int} {s : Bool} {A : Option Addr} (h : WV w z s A n) (hW : Blk t g cs w) (hn : cs.toList.all noLimb = true) (u : Value) : WV (w.setCell ⟨g, i, none⟩ u) z s A n := by
  refine ⟨h.1, h.2.1, ?_⟩
  have h3 : Rd w.heap.size .u16 w A (ln b16 z.natAbs) (dgt b16 z.natAbs) := h.2.2
  have h4 := h3.sep hW hn (i := i) u
  unfold Num16
  rwa [World.size_setCell]
theorem WV.sep2 {n : Nat} {z : Int} {s : Bool} {A : Option Addr} {x y : Value} (h : WV w z s A n) (hW : Blk t g #[x, y] w) (hn : [x, y].all noLimb = true) (a b : Value) (ha : noLimb a = true) : WV ((w.setCell ⟨g, 0, none⟩ a).setCell ⟨g, 1, none⟩ b) z s A n := by
  refine (h.sep hW hn a).sep (hW.set_ 0 a) ?_ b
  simp only [List.all_cons, List.all_nil, Bool.and_true, Bool.and_eq_true] at hn
  show (noLimb a && (noLimb y && true)) = true
  rw [ha, hn.2]; rfl
theorem WV.sep4 {n : Nat} {z : Int} {s : Bool} {A : Option Addr} {x y u v : Value} (h : WV w z s A n) (hW : Blk t g #[x, y, u, v] w) (hn : [x, y, u, v].all noLimb = true) (a b c d : Value) (ha : noLimb a = true) (hb : noLimb b = true) (hc : noLimb c = true) :
    WV ((((w.setCell ⟨g, 0, none⟩ a).setCell ⟨g, 1, none⟩ b).setCell ⟨g, 2, none⟩ c).setCell ⟨g, 3, none⟩ d) z s A n := by
  simp only [List.all_cons, List.all_nil, Bool.and_true, Bool.and_eq_true] at hn
  obtain ⟨h1, h2, h3, h4⟩ := hn
  refine (((h.sep hW (by simp [h1, h2, h3, h4]) a).sep (hW.set_ 0 a) ?_ b).sep ((hW.set_ 0 a).set_ 1 b) ?_ c).sep (((hW.set_ 0 a).set_ 1 b).set_ 2 c) ?_ d
  · show (noLimb a && (noLimb y && (noLimb u && (noLimb v && true)))) = true
    rw [ha, h2, h3, h4]; rfl
  · show (noLimb a && (noLimb b && (noLimb u && (noLimb v && true)))) = true
    rw [ha, hb, h3, h4]; rfl
  · show (noLimb a && (noLimb b && (noLimb c && (noLimb v && true)))) = true
    rw [ha, hb, hc, h4]; rfl
end
end Go.Proofs.YtmjlankpihnicaaGreat
namespace Go.Proofs.YtmjlankpihnicaaGreat
open Go.RowKit

/-- A new variable that is given a number. -/
theorem Env.var {w W : World} {P : World → Prop} {z : Int} {s : Bool} {A : Option Addr} {n : Nat} (h : Env w P W) (hv : WV W z s A n) (c : Nat) :
    Env w (fun V => P V ∧ Bx W.heap.size z s A n c V) (((W.alloc (.cells #[.bool false, .slice none 0 0] 27)).setCell ⟨W.heap.size, 0, none⟩ (.bool s)).setCell ⟨W.heap.size, 1, none⟩ (.slice A n c)) := by
  obtain ⟨hW, hb⟩ := store_whole (WholeAt.new W false (.slice none 0 0)) ((Below.refl _ W).alloc (Nat.le_refl _) _) (Nat.le_refl _) s (.slice A n c)
  exact (h.step hb).and (Bx.stable _ _ _ _ _ _) ⟨hW, hv.below hb⟩
/-- A variable made ahead of the calls that give its value. -/
structure New (W0 W : World) (G : Nat) : Prop where
  box : WholeAt W G false (.slice none 0 0)
  bel : Below G W0 W
  eq : W0.heap.size = G
theorem New.start (W : World) : New W (W.alloc (.cells #[.bool false, .slice none 0 0] 27)) W.heap.size := ⟨WholeAt.new W _ _, (Below.refl _ W).alloc (Nat.le_refl _) _, rfl⟩
theorem New.below {W0 W W' : World} {G : Nat} (h : New W0 W G) (hb : Below W.heap.size W W') : New W0 W' G := ⟨h.box.below hb h.box.lt, h.bel.trans (hb.mono (Nat.le_of_lt h.box.lt)), h.eq⟩
theorem New.stored {w W0 W : World} {P : World → Prop} {G : Nat} (h0 : Env w P W0) (h : New W0 W G) (s : Bool) (v : Value) : Env w P ((W.setCell ⟨G, 0, none⟩ (.bool s)).setCell ⟨G, 1, none⟩ v) :=
  h0.step (by rw [h.eq]; exact (store_whole h.box h.bel (Nat.le_refl _) s v).2)
theorem New.done {w W0 W : World} {P : World → Prop} {G B : Nat} {z : Int} {s : Bool} {A : Option Addr} {n c : Nat} (h0 : Env w P W0) (h : New W0 W G) (ho : WO B W z s A n c) (hB : G < B) :
    Env w (fun V => P V ∧ Bx G z s A n c V) ((W.setCell ⟨G, 0, none⟩ (.bool s)).setCell ⟨G, 1, none⟩ (.slice A n c)) :=
  (New.stored h0 h s _).and (Bx.stable _ _ _ _ _ _) ⟨(store_whole h.box h.bel (Nat.le_refl _) s _).1, (ho.store hB s _).v⟩
theorem Env.fresh {w W : World} {P : World → Prop} {z : Int} {s : Bool} {A : Option Addr} {n : Nat} (h : Env w P W) (hv : WV W z s A n) (c : Nat) :
    Env w (fun V => P V ∧ Bx W.heap.size z s A n c V) (W.alloc (.cells #[.bool s, .slice A n c] 27)) :=
  (h.alloc _).and (Bx.stable _ _ _ _ _ _) (Bx.new hv)
theorem belAlloc (W : World) (o : Obj) : Below W.heap.size W (W.alloc o) := (Below.refl _ W).alloc (Nat.le_refl _) o
end Go.Proofs.YtmjlankpihnicaaGreat
namespace Go.Proofs.YtmjlankpihnicaaGreat
open Go.RowKit

/-- The fraction q, its parts' signs, addresses and lengths. -/
def FV (w : World) (q : Rat) (s : Bool) (A : Option Addr) (n : Nat) (t : Bool) (B : Option Addr) (m : Nat) : Prop := WV w q.num s A n ∧ WV w ((q.den : Nat) : Int) t B m
theorem FV.below {w w' : World} {q : Rat} {s t : Bool} {A B : Option Addr} {n m : Nat} (h : FV w q s A n t B m) (hb : Below w.heap.size w w') : FV w' q s A n t B m := ⟨h.1.below hb, h.2.below hb⟩
theorem FV.stable (q : Rat) (s : Bool) (A : Option Addr) (n : Nat) (t : Bool) (B : Option Addr) (m : Nat) : Stable (fun W => FV W q s A n t B m) := fun _ _ hb h => h.below hb
theorem FV.sep {w : World} {q : Rat} {s t : Bool} {A B : Option Addr} {n m g i : Nat} {T : TypeId} {cs : Array Value} (h : FV w q s A n t B m) (hW : Blk T g cs w) (hn : cs.toList.all noLimb = true) (u : Value) : FV (w.setCell ⟨g, i, none⟩ u) q s A n t B m := ⟨h.1.sep hW hn u, h.2.sep hW hn u⟩
theorem FV.sep2 {w : World} {q : Rat} {s t : Bool} {A B : Option Addr} {n m g : Nat} {T : TypeId} {x y : Value} (h : FV w q s A n t B m) (hW : Blk T g #[x, y] w) (hn : [x, y].all noLimb = true) (a b : Value) (ha : noLimb a = true) : FV ((w.setCell ⟨g, 0, none⟩ a).setCell ⟨g, 1, none⟩ b) q s A n t B m :=
  ⟨h.1.sep2 hW hn a b ha, h.2.sep2 hW hn a b ha⟩
theorem FV.sep4 {w : World} {q : Rat} {s t : Bool} {A B : Option Addr} {n m g : Nat} {T : TypeId} {x y u v : Value} (h : FV w q s A n t B m) (hW : Blk T g #[x, y, u, v] w) (hn : [x, y, u, v].all noLimb = true) (a b c d : Value) (ha : noLimb a = true) (hb : noLimb b = true) (hc : noLimb c = true) :
    FV ((((w.setCell ⟨g, 0, none⟩ a).setCell ⟨g, 1, none⟩ b).setCell ⟨g, 2, none⟩ c).setCell ⟨g, 3, none⟩ d) q s A n t B m := ⟨h.1.sep4 hW hn a b c d ha hb hc, h.2.sep4 hW hn a b c d ha hb hc⟩
theorem Env.again {w W : World} (h : Below w.heap.size w W) : Env w (fun _ => True) W := ⟨h, fun _ _ _ h => h, trivial⟩
theorem Env.blkI {w W : World} {P : World → Prop} {g : Nat} {t : TypeId} {cs : Array Value} (h : Env w P W) (hb : Blk t g cs W) : Env w (fun V => P V ∧ Blk t g cs V) W := h.and (Blk.stable _ _ _) hb
theorem bel2 {w W : World} {g : Nat} (h : Below w.heap.size w W) (hg : w.heap.size ≤ g) (a b : Value) : Below w.heap.size w ((W.setCell ⟨g, 0, none⟩ a).setCell ⟨g, 1, none⟩ b) := (h.setCell (p := ⟨g, 0, none⟩) hg _).setCell (p := ⟨g, 1, none⟩) hg _
theorem bel4 {w W : World} {g : Nat} (h : Below w.heap.size w W) (hg : w.heap.size ≤ g) (a b c d : Value) : Below w.heap.size w ((((W.setCell ⟨g, 0, none⟩ a).setCell ⟨g, 1, none⟩ b).setCell ⟨g, 2, none⟩ c).setCell ⟨g, 3, none⟩ d) := ((bel2 h hg a b).setCell (p := ⟨g, 2, none⟩) hg _).setCell (p := ⟨g, 3, none⟩) hg _
theorem FV.ln {w : World} {q : Rat} {s t : Bool} {A B : Option Addr} {n m k : Nat} (h : FV w q s A n t B m) (hq : fl q ≤ k) : n ≤ k ∧ m ≤ k := by
  have h1 := fl_le.1 hq
  have h2 := h.1.len
  have h3 := h.2.len
  rw [Int.natAbs_natCast] at h3
  omega
theorem Env.blk {w W : World} {P : World → Prop} {g : Nat} (h : Env w P W) (t : TypeId) (cs : Array Value) (hg : W.heap.size = g) : Env w (fun V => P V ∧ Blk t g cs V) (W.alloc (.cells cs t)) := by
  subst hg
  exact (h.alloc _).and (Blk.stable _ _ _) (Blk.new W t cs)
theorem Env.wv {w W : World} {P : World → Prop} {z : Int} {s : Bool} {A : Option Addr} {n : Nat} (h : Env w P W) (hv : WV W z s A n) : Env w (fun V => P V ∧ WV V z s A n) W := h.and (WV.stable _ _ _ _) hv
theorem Env.fv {w W : World} {P : World → Prop} {q : Rat} {s t : Bool} {A B : Option Addr} {n m : Nat} (h : Env w P W) (hv : FV W q s A n t B m) : Env w (fun V => P V ∧ FV V q s A n t B m) W := h.and (FV.stable _ _ _ _ _ _ _) hv
/-- The call returned the number z. -/
def WR (z : Int) (w : World) (e : Ending) (w' : World) : Prop := ∃ s A n c, e = .returned (.agg #[.bool s, .slice A n c]) ∧ WV w' z s A n ∧ Below w.heap.size w w'

set_option maxRecDepth 100000 in
theorem isOne_v {z : Int} {s : Bool} {A : Option Addr} {n c : Nat} {w : World} (ha : WV w z s A n) (hn : n ≤ 1000000) :
    Calls Tryz.prog 105 #[.agg #[.bool s, .slice A n c]] w fun e w' => e = .returned (.bool (decide (z = 1))) ∧ Below w.heap.size w w' := by
  have hbl : Below w.heap.size w (w.alloc (.cells #[.bool s, .slice A n c] 27)) := (Below.refl _ _).alloc (Nat.le_refl _) _
  obtain ⟨hs, hl, hr⟩ := ha
  cases s with
  | true =>
    have hz : z < 0 := of_decide_eq_true hs.symm
    clear hs hl hr
    have HE := Lib.hid (decide_eq_false (show ¬ z = 1 by omega))
    go_enter Tryz.func105, Tryz.ntmps105
    go_wp2_with fail
    go_ret
    exact ⟨ret_bool HE.out.symm, hbl⟩
  | false =>
    have hz : ¬ z < 0 := of_decide_eq_false hs.symm
    by_cases h1 : n = 1
    · subst h1
      obtain ⟨b, o, rfl, hb, hc⟩ := hr (by omega)
      have c1 := hc 0 (by omega)
      rw [Nat.add_zero] at c1
      have hv : dgt b16 z.natAbs 0 = z.natAbs := by
        have h := vs_dgt_ln b16_two (x := z.natAbs)
        rw [← hl, vs_succ, vs_zero] at h
        simpa using h
      rw [hv] at c1
      have hlt : b < w.heap.size := hb
      clear hl hs hc hr hv
      have c2 : (w.alloc (.cells #[.bool false, .slice (some ⟨b, o, none⟩) 1 c] 27)).cell? ⟨b, o, none⟩ = some (.int .u16 ((z.natAbs : Nat) : Int)) := (World.cell?_alloc_lt w _ ⟨b, o, none⟩ hlt).trans c1
      by_cases h2 : z = 1
      · have e1 := decide_eq_true h2
        have t2 : (((z.natAbs : Nat) : Int) == 1) = true := beq_iff_eq.2 (by omega)
        have HE := Lib.hid e1
        clear e1 h2
        go_enter Tryz.func105, Tryz.ntmps105
        go_wp2_with fail
        go_ret
        exact ⟨ret_bool HE.out.symm, hbl⟩
      · have e1 := decide_eq_false h2
        have t2 : (((z.natAbs : Nat) : Int) == 1) = false := beq_eq_false_iff_ne.2 (by omega)
        have HE := Lib.hid e1
        clear e1 h2
        go_enter Tryz.func105, Tryz.ntmps105
        go_wp2_with fail
        go_ret
        exact ⟨ret_bool HE.out.symm, hbl⟩
    · have hz1 : ¬ z = 1 := fun e => h1 (by rw [hl, e]; decide)
      have e1 := decide_eq_false hz1
      have t1 : ((n : Int) == 1) = false := beq_eq_false_iff_ne.2 (by omega)
      have HE := Lib.hid e1
      clear e1 hl hz1 hs hr
      go_enter Tryz.func105, Tryz.ntmps105
      go_wp2_with fail
      go_ret
      exact ⟨ret_bool HE.out.symm, hbl⟩
end Go.Proofs.YtmjlankpihnicaaGreat
namespace Go.Proofs.YtmjlankpihnicaaGreat
open Go.RowKit

theorem ret_whole {w W : World} {P : World → Prop} {R : Nat} {z : Int} {s : Bool} {A : Option Addr} {n : Nat} (hE : Env w P W) (hR : Blk 27 R #[.bool false, .slice none 0 0] W) (hl : w.heap.size ≤ R) (hv : WV W z s A n) (c : Nat) :
    ∃ W', W' = (W.setCell ⟨R, 0, none⟩ (.bool s)).setCell ⟨R, 1, none⟩ (.slice A n c) ∧ Blk 27 R #[.bool s, .slice A n c] W' ∧ WV W' z s A n ∧ Below w.heap.size w W' :=
  ⟨_, rfl, hR.s2 _ _, (hv.sep hR rfl _).sep (hR.set_ 0 _) rfl _, (hE.bel.setCell (p := ⟨R, 0, none⟩) hl _).setCell (p := ⟨R, 1, none⟩) hl _⟩
set_option linter.unusedSimpArgs false in
set_option maxRecDepth 100000 in
set_option maxHeartbeats 2000000 in
theorem fdivisor_v {a b : Int} {sa sb : Bool} {Aa Ab : Option Addr} {na ca nb cb : Nat} {w : World} (ha : WV w a sa Aa na) (hb : WV w b sb Ab nb) (la : na ≤ 1024) (lb : nb ≤ 1024) :
    Calls Tryz.prog 106 #[.agg #[.bool sa, .slice Aa na ca], .agg #[.bool sb, .slice Ab nb cb]] w (WR ((Nat.gcd a.natAbs b.natAbs : Nat) : Int) w) := by
  have hE := ((((Env.start w).wv ha).wv hb).blk 27 #[.bool sa, .slice Aa na ca] (g := w.heap.size) rfl).blk 27 #[.bool sb, .slice Ab nb cb] (g := w.heap.size + 1) (by simp)
  have hE := hE.blk 27 #[.bool false, .slice none 0 0] (g := w.heap.size + 1 + 1) (by simp)
  obtain ⟨W0, hW0⟩ : ∃ W0, W0 = (((w.alloc (.cells #[.bool sa, .slice Aa na ca] 27)).alloc (.cells #[.bool sb, .slice Ab nb cb] 27)).alloc (.cells #[.bool false, .slice none 0 0] 27)) := ⟨_, rfl⟩
  rw [← hW0] at hE
  have HW0 := Lib.hid hW0
  clear hW0
  go_enter Tryz.func106, Tryz.ntmps106
  go_upto_region 1 with (fail)
  rw [← HW0.out]
  obtain ⟨k1, k2⟩ := (hE.here.1.1.2).c2
  obtain ⟨k3, k4⟩ := (hE.here.1.2).c2
  go_wp2_with fail
  have hc := gcd_v (c := ca) (d := cb) hE.here.1.1.1.1.2 hE.here.1.1.1.2 la lb
  refine hc.mono ?_
  clear hc
  clear k1 k2 k3 k4
  rintro e w5 ⟨sr, Ar, nr, cr, rfl, hr, hb⟩
  replace hE := hE.step hb
  clear hb
  replace hE := hE.wv hr.v
  clear hr
  go_upto_region 2 with (fail)
  obtain ⟨g6, hg6⟩ : ∃ g6, g6 = w5.heap.size := ⟨_, rfl⟩
  have hl6_2 : w.heap.size < g6 := by rw [hg6]; exact (hE.here.1.1.1.2).lt
  have hl6_3 : w.heap.size + 1 < g6 := by rw [hg6]; exact (hE.here.1.1.2).lt
  have hl6_4 : w.heap.size + 1 + 1 < g6 := by rw [hg6]; exact (hE.here.1.2).lt
  replace hE := hE.blk 27 #[.bool sr, .slice Ar nr cr] (g := g6) hg6.symm
  generalize w5.alloc (.cells #[.bool sr, .slice Ar nr cr] 27) = W6 at hE ⊢
  rw [← hg6]
  clear hg6
  obtain ⟨k7, k8⟩ := (hE.here.2).c2
  have hRl : w.heap.size ≤ w.heap.size + 1 + 1 := by omega
  obtain ⟨WW, hWW, hB, hV, hBel⟩ := ret_whole hE hE.here.1.1.2 hRl hE.here.1.2 cr
  obtain ⟨x0, x1⟩ := (hE.here.1.1.2).c2
  obtain ⟨fz0, fz1⟩ := hE.here.1.1.2.f2
  have HWW := Lib.hid hWW
  clear hWW
  go_wp2_with fail
  clear x0 x1
  rw [← HWW.out]
  obtain ⟨y0, y1⟩ := hB.c2
  refine bodyPost_ret (v := .agg #[.bool sr, .slice Ar nr cr]) (by simp [results, Tryz.results106, go_sem, y0, y1]) rfl ?_
  exact ⟨sr, Ar, nr, cr, rfl, hV, hBel⟩
set_option linter.unusedSimpArgs false in
set_option maxRecDepth 100000 in
set_option maxHeartbeats 2000000 in
theorem fplus_v {a b : Int} {sa sb : Bool} {Aa Ab : Option Addr} {na ca nb cb : Nat} {w : World} (ha : WV w a sa Aa na) (hb : WV w b sb Ab nb) (la : na ≤ 1024) (lb : nb ≤ 1024) (lr : ln b16 (a + b).natAbs ≤ 1024) :
    Calls Tryz.prog 96 #[.agg #[.bool sa, .slice Aa na ca], .agg #[.bool sb, .slice Ab nb cb]] w (WR (a + b) w) := by
  have hE := ((((Env.start w).wv ha).wv hb).blk 27 #[.bool sa, .slice Aa na ca] (g := w.heap.size) rfl).blk 27 #[.bool sb, .slice Ab nb cb] (g := w.heap.size + 1) (by simp)
  have hE := hE.blk 27 #[.bool false, .slice none 0 0] (g := w.heap.size + 1 + 1) (by simp)
  obtain ⟨W0, hW0⟩ : ∃ W0, W0 = (((w.alloc (.cells #[.bool sa, .slice Aa na ca] 27)).alloc (.cells #[.bool sb, .slice Ab nb cb] 27)).alloc (.cells #[.bool false, .slice none 0 0] 27)) := ⟨_, rfl⟩
  rw [← hW0] at hE
  have HW0 := Lib.hid hW0
  clear hW0
  go_enter Tryz.func96, Tryz.ntmps96
  go_upto_region 1 with (fail)
  rw [← HW0.out]
  obtain ⟨k1, k2⟩ := (hE.here.1.1.2).c2
  obtain ⟨k3, k4⟩ := (hE.here.1.2).c2
  go_wp2_with fail
  have hc := add_v (c := ca) (d := cb) hE.here.1.1.1.1.2 hE.here.1.1.1.2 la lb lr
  refine hc.mono ?_
  clear hc
  clear k1 k2 k3 k4
  rintro e w5 ⟨sr, Ar, nr, cr, rfl, hr, hb⟩
  replace hE := hE.step hb
  clear hb
  replace hE := hE.wv hr.v
  clear hr
  go_upto_region 2 with (fail)
  obtain ⟨g6, hg6⟩ : ∃ g6, g6 = w5.heap.size := ⟨_, rfl⟩
  have hl6_2 : w.heap.size < g6 := by rw [hg6]; exact (hE.here.1.1.1.2).lt
  have hl6_3 : w.heap.size + 1 < g6 := by rw [hg6]; exact (hE.here.1.1.2).lt
  have hl6_4 : w.heap.size + 1 + 1 < g6 := by rw [hg6]; exact (hE.here.1.2).lt
  replace hE := hE.blk 27 #[.bool sr, .slice Ar nr cr] (g := g6) hg6.symm
  generalize w5.alloc (.cells #[.bool sr, .slice Ar nr cr] 27) = W6 at hE ⊢
  rw [← hg6]
  clear hg6
  obtain ⟨k7, k8⟩ := (hE.here.2).c2
  have hRl : w.heap.size ≤ w.heap.size + 1 + 1 := by omega
  obtain ⟨WW, hWW, hB, hV, hBel⟩ := ret_whole hE hE.here.1.1.2 hRl hE.here.1.2 cr
  obtain ⟨x0, x1⟩ := (hE.here.1.1.2).c2
  obtain ⟨fz0, fz1⟩ := hE.here.1.1.2.f2
  have HWW := Lib.hid hWW
  clear hWW
  go_wp2_with fail
  clear x0 x1
  rw [← HWW.out]
  obtain ⟨y0, y1⟩ := hB.c2
  refine bodyPost_ret (v := .agg #[.bool sr, .slice Ar nr cr]) (by simp [results, Tryz.results96, go_sem, y0, y1]) rfl ?_
  exact ⟨sr, Ar, nr, cr, rfl, hV, hBel⟩
set_option linter.unusedSimpArgs false in
set_option maxRecDepth 100000 in
set_option maxHeartbeats 2000000 in
theorem ftimes_v {a b : Int} {sa sb : Bool} {Aa Ab : Option Addr} {na ca nb cb : Nat} {w : World} (ha : WV w a sa Aa na) (hb : WV w b sb Ab nb) (la : na ≤ 1024) (lb : nb ≤ 1024) (lr : ln b16 (a * b).natAbs ≤ 1024) :
    Calls Tryz.prog 75 #[.agg #[.bool sa, .slice Aa na ca], .agg #[.bool sb, .slice Ab nb cb]] w (WR (a * b) w) := by
  have hE := ((((Env.start w).wv ha).wv hb).blk 27 #[.bool sa, .slice Aa na ca] (g := w.heap.size) rfl).blk 27 #[.bool sb, .slice Ab nb cb] (g := w.heap.size + 1) (by simp)
  have hE := hE.blk 27 #[.bool false, .slice none 0 0] (g := w.heap.size + 1 + 1) (by simp)
  obtain ⟨W0, hW0⟩ : ∃ W0, W0 = (((w.alloc (.cells #[.bool sa, .slice Aa na ca] 27)).alloc (.cells #[.bool sb, .slice Ab nb cb] 27)).alloc (.cells #[.bool false, .slice none 0 0] 27)) := ⟨_, rfl⟩
  rw [← hW0] at hE
  have HW0 := Lib.hid hW0
  clear hW0
  go_enter Tryz.func75, Tryz.ntmps75
  go_upto_region 1 with (fail)
  rw [← HW0.out]
  obtain ⟨k1, k2⟩ := (hE.here.1.1.2).c2
  obtain ⟨k3, k4⟩ := (hE.here.1.2).c2
  go_wp2_with fail
  have hc := mul_v (c := ca) (d := cb) hE.here.1.1.1.1.2 hE.here.1.1.1.2 la lb lr
  refine hc.mono ?_
  clear hc
  clear k1 k2 k3 k4
  rintro e w5 ⟨sr, Ar, nr, cr, rfl, hr, hb⟩
  replace hE := hE.step hb
  clear hb
  replace hE := hE.wv hr.v
  clear hr
  go_upto_region 2 with (fail)
  obtain ⟨g6, hg6⟩ : ∃ g6, g6 = w5.heap.size := ⟨_, rfl⟩
  have hl6_2 : w.heap.size < g6 := by rw [hg6]; exact (hE.here.1.1.1.2).lt
  have hl6_3 : w.heap.size + 1 < g6 := by rw [hg6]; exact (hE.here.1.1.2).lt
  have hl6_4 : w.heap.size + 1 + 1 < g6 := by rw [hg6]; exact (hE.here.1.2).lt
  replace hE := hE.blk 27 #[.bool sr, .slice Ar nr cr] (g := g6) hg6.symm
  generalize w5.alloc (.cells #[.bool sr, .slice Ar nr cr] 27) = W6 at hE ⊢
  rw [← hg6]
  clear hg6
  obtain ⟨k7, k8⟩ := (hE.here.2).c2
  have hRl : w.heap.size ≤ w.heap.size + 1 + 1 := by omega
  obtain ⟨WW, hWW, hB, hV, hBel⟩ := ret_whole hE hE.here.1.1.2 hRl hE.here.1.2 cr
  obtain ⟨x0, x1⟩ := (hE.here.1.1.2).c2
  obtain ⟨fz0, fz1⟩ := hE.here.1.1.2.f2
  have HWW := Lib.hid hWW
  clear hWW
  go_wp2_with fail
  clear x0 x1
  rw [← HWW.out]
  obtain ⟨y0, y1⟩ := hB.c2
  refine bodyPost_ret (v := .agg #[.bool sr, .slice Ar nr cr]) (by simp [results, Tryz.results75, go_sem, y0, y1]) rfl ?_
  exact ⟨sr, Ar, nr, cr, rfl, hV, hBel⟩
end Go.Proofs.YtmjlankpihnicaaGreat
