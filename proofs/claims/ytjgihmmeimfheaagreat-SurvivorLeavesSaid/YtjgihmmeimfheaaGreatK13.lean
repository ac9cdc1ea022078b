/-
  Several texts in one: Division of whole numbers, rounded down: from absolute values and signs.
-/
import Derived.Test.YtjgihmmeimfheaaGreatK7
import Derived.Test.YtjgihmmeimfheaaGreatK11
namespace Go.Proofs.YtjgihmmeimfheaaGreat
open Go.RowKit

theorem fd_unique {a b q r : Int} (h : a = q * b + r) (hr : (0 ≤ r ∧ r < b) ∨ (b < r ∧ r ≤ 0)) : q = a.fdiv b ∧ r = a.fmod b := by
 rcases hr with ⟨h1, h2⟩ | ⟨h1, h2⟩
 ·
  have hb : 0 < b := by omega
  rw [Int.fdiv_eq_ediv_of_nonneg _ (by omega), Int.fmod_eq_emod_of_nonneg _ (by omega)]
  have := (Int.ediv_emod_unique hb (a := a) (q := q) (r := r)).2 ⟨by rw [h, Int.mul_comm]; omega, h1, h2⟩
  exact ⟨this.1.symm, this.2.symm⟩
 ·
  have hb : 0 < -b := by omega
  have e1 : a.fdiv b = (-a).fdiv (-b) := by rw [Int.neg_fdiv_neg]
  have hm := Int.mul_fdiv_add_fmod a b
  have hm' := Int.mul_fdiv_add_fmod (-a) (-b)
  rw [← e1] at hm'
  have e2 : a.fmod b = - (-a).fmod (-b) := by rw [Int.neg_mul] at hm'; omega
  rw [e1, e2, Int.fdiv_eq_ediv_of_nonneg _ (by omega), Int.fmod_eq_emod_of_nonneg _ (by omega)]
  have := (Int.ediv_emod_unique hb (a := -a) (q := q) (r := -r)).2 ⟨by rw [h, Int.neg_mul, Int.mul_comm b q]; omega, by omega, by omega⟩
  exact ⟨this.1.symm, by omega⟩
theorem fd_spec (a : Int) {b : Int} (hb : b ≠ 0) : a = a.fdiv b * b + a.fmod b ∧ ((0 ≤ a.fmod b ∧ a.fmod b < b) ∨ (b < a.fmod b ∧ a.fmod b ≤ 0)) := by
 have h : a = a.fdiv b * b + a.fmod b := by rw [Int.mul_comm]; exact (Int.mul_fdiv_add_fmod a b).symm
 refine ⟨h, ?_⟩
 rcases Int.lt_or_gt_of_ne hb with h0 | h0
 ·
  right
  have e1 : a.fdiv b = (-a).fdiv (-b) := by rw [Int.neg_fdiv_neg]
  have hm' := Int.mul_fdiv_add_fmod (-a) (-b)
  rw [← e1, Int.neg_mul, Int.mul_comm b] at hm'
  have h1 := Int.emod_nonneg (-a) (b := -b) (by omega)
  have h2 := Int.emod_lt_of_pos (-a) (b := -b) (by omega)
  rw [Int.fmod_eq_emod_of_nonneg _ (by omega)] at hm'
  omega
 ·
  left
  have h1 := Int.emod_nonneg a (b := b) (by omega)
  have h2 := Int.emod_lt_of_pos a (b := b) (by omega)
  rw [Int.fmod_eq_emod_of_nonneg _ (by omega)]
  exact ⟨h1, h2⟩
theorem toI_cases (a : Int) : (decide (a < 0) = true ∧ a = -(a.natAbs : Int) ∧ 0 < a.natAbs) ∨ (decide (a < 0) = false ∧ a = (a.natAbs : Int)) := by
 by_cases h : a < 0
 · left; simp [h]; omega
 · right; simp [h]; omega
theorem floor_same (a : Int) {b : Int} (hb : b ≠ 0) (h : ¬ (decide (a < 0) ≠ decide (b < 0) ∧ 0 < a.natAbs % b.natAbs)) :
  toI (decide (a < 0) != decide (b < 0)) (a.natAbs / b.natAbs) = a.fdiv b ∧ toI (decide (b < 0)) (a.natAbs % b.natAbs) = a.fmod b := by
 have hy : 0 < b.natAbs := by omega
 have hd := Nat.div_add_mod a.natAbs b.natAbs
 have hm := Nat.mod_lt a.natAbs hy
 obtain ⟨q, hq⟩ : ∃ q, q = a.natAbs / b.natAbs := ⟨_, rfl⟩
 obtain ⟨r, hr⟩ : ∃ r, r = a.natAbs % b.natAbs := ⟨_, rfl⟩
 rw [← hq, ← hr] at hd ⊢
 rw [← hr] at hm h
 have hd' : (b.natAbs : Int) * (q : Int) + (r : Int) = (a.natAbs : Int) := by rw [← Int.natCast_mul]; omega
 have hrr : (toI (decide (b < 0)) r = toI (decide (b < 0)) r) := rfl
 rcases toI_cases a with ⟨sa, ea, pa⟩ | ⟨sa, ea⟩ <;> rcases toI_cases b with ⟨sb, eb, pb⟩ | ⟨sb, eb⟩ <;> rw [sa, sb] at h ⊢ <;> simp only [toI] <;> generalize a.natAbs = x at * <;> generalize b.natAbs = y at * <;> subst ea <;> subst eb <;>
  refine fd_unique ?_ ?_ <;> simp at h ⊢ <;> (try simp only [Int.mul_comm (q : Int) (y : Int), Int.mul_neg, Int.neg_mul, Int.neg_neg]) <;> (try (subst h)) <;> (try simp) <;> (try omega)
theorem floor_up (a : Int) {b : Int} (hb : b ≠ 0) (h : decide (a < 0) ≠ decide (b < 0)) (h0 : 0 < a.natAbs % b.natAbs) :
  toI (decide (a < 0) != decide (b < 0)) (a.natAbs / b.natAbs + 1) = a.fdiv b ∧ toI (decide (b < 0)) (b.natAbs - a.natAbs % b.natAbs) = a.fmod b := by
 have hy : 0 < b.natAbs := by omega
 have hd := Nat.div_add_mod a.natAbs b.natAbs
 have hm := Nat.mod_lt a.natAbs hy
 obtain ⟨q, hq⟩ : ∃ q, q = a.natAbs / b.natAbs := ⟨_, rfl⟩
 obtain ⟨r, hr⟩ : ∃ r, r = a.natAbs % b.natAbs := ⟨_, rfl⟩
 rw [← hq, ← hr] at hd ⊢
 rw [← hr] at hm h0
 have hd' : (b.natAbs : Int) * (q : Int) + (r : Int) = (a.natAbs : Int) := by rw [← Int.natCast_mul]; omega
 rcases toI_cases a with ⟨sa, ea, pa⟩ | ⟨sa, ea⟩ <;> rcases toI_cases b with ⟨sb, eb, pb⟩ | ⟨sb, eb⟩ <;> rw [sa, sb] at h ⊢ <;> simp only [toI] <;> generalize a.natAbs = x at * <;> generalize b.natAbs = y at * <;> subst ea <;> subst eb <;>
  refine fd_unique ?_ ?_ <;> simp at h ⊢ <;> (try rw [show ((y - r : Nat) : Int) = (y : Int) - r by omega]) <;> (try simp only [Int.add_mul, Int.mul_comm (q : Int) (y : Int), Int.mul_neg, Int.neg_mul, Int.neg_neg, Int.neg_add, Int.one_mul]) <;> (try omega)
end Go.Proofs.YtjgihmmeimfheaaGreat
/-! The walk of whole.DivMod. -/
namespace Go.Proofs.YtjgihmmeimfheaaGreat
open Go.RowKit

/-- The boxes of the two arguments and two results' variables. -/
structure Two2 (w : World) (s t : Bool) (A B : Option Addr) (n m c d : Nat) (w' : World) : Prop where
 p0 : WholeAt w' w.heap.size s (.slice A n c)
 p1 : WholeAt w' (w.heap.size + 1) t (.slice B m d)
 r : WholeAt w' (w.heap.size + 1 + 1) false (.slice none 0 0)
 q : WholeAt w' (w.heap.size + 1 + 1 + 1) false (.slice none 0 0)
 bel : Below w.heap.size w w'
theorem WholeAt.alloc {w : World} {g : Nat} {s : Bool} {v : Value} (h : WholeAt w g s v) (o : Obj) : WholeAt (w.alloc o) g s v := (Below.heap_alloc _ _ _ h.lt).trans h
theorem WholeAt.fresh {w : World} {g : Nat} (s : Bool) (v : Value) (h : w.heap.size = g) : WholeAt (w.alloc (.cells #[.bool s, v] 27)) g s v := by subst h; exact WholeAt.new w s v
theorem two_call3 (s t : Bool) (A B : Option Addr) (n m c d : Nat) (f h : Nat → Nat) (w : World)
  (hA : Rd w.heap.size .u16 w A n f) (hB : Rd w.heap.size .u16 w B m h) (hf : ∀ i, f i < 65536) (hh : ∀ i, h i < 65536) (hn : n ≤ 1000000) (hm : m ≤ 1000000) :
  Calls Tryz.prog 85 #[.slice (some ⟨w.heap.size + 1 + 1 + 1 + 1, 0, none⟩) 2 2]
   (((((w.alloc (.cells #[.bool s, .slice A n c] 27)).alloc (.cells #[.bool t, .slice B m d] 27)).alloc (.cells #[.bool false, .slice none 0 0] 27)).alloc (.cells #[.bool false, .slice none 0 0] 27)).alloc (.cells #[.bool s, .slice A n c, .bool t, .slice B m d] 27))
   fun e w' => e = .returned (.bool (okW s n f && okW t m h)) ∧ Two2 w s t A B n m c d w' := by
 have z1 : (w.alloc (.cells #[.bool s, .slice A n c] 27)).heap.size = w.heap.size + 1 := World.size_alloc ..
 obtain ⟨w1, hw1⟩ : ∃ w1, w1 = w.alloc (.cells #[.bool s, .slice A n c] 27) := ⟨_, rfl⟩
 have b1 : Below w.heap.size w w1 := by rw [hw1]; exact (Below.refl _ w).alloc (Nat.le_refl _) _
 have q0 : WholeAt w1 w.heap.size s (.slice A n c) := by rw [hw1]; exact WholeAt.new w s _
 rw [← hw1] at z1 ⊢
 obtain ⟨w2, hw2⟩ : ∃ w2, w2 = w1.alloc (.cells #[.bool t, .slice B m d] 27) := ⟨_, rfl⟩
 have z2 : w2.heap.size = w.heap.size + 1 + 1 := by rw [hw2, World.size_alloc, z1]
 have b2 : Below w.heap.size w w2 := by rw [hw2]; exact b1.alloc b1.size _
 have q1 : WholeAt w2 (w.heap.size + 1) t (.slice B m d) := by rw [hw2]; exact WholeAt.fresh t _ z1
 have q0 : WholeAt w2 w.heap.size s (.slice A n c) := by rw [hw2]; exact q0.alloc _
 rw [← hw2]
 obtain ⟨w3, hw3⟩ : ∃ w3, w3 = w2.alloc (.cells #[.bool false, .slice none 0 0] 27) := ⟨_, rfl⟩
 have z3 : w3.heap.size = w.heap.size + 1 + 1 + 1 := by rw [hw3, World.size_alloc, z2]
 have b3 : Below w.heap.size w w3 := by rw [hw3]; exact b2.alloc b2.size _
 have q2 : WholeAt w3 (w.heap.size + 1 + 1) false (.slice none 0 0) := by rw [hw3]; exact WholeAt.fresh _ _ z2
 have q1 : WholeAt w3 (w.heap.size + 1) t (.slice B m d) := by rw [hw3]; exact q1.alloc _
 have q0 : WholeAt w3 w.heap.size s (.slice A n c) := by rw [hw3]; exact q0.alloc _
 rw [← hw3]
 obtain ⟨w4, hw4⟩ : ∃ w4, w4 = w3.alloc (.cells #[.bool false, .slice none 0 0] 27) := ⟨_, rfl⟩
 have z4 : w4.heap.size = w.heap.size + 1 + 1 + 1 + 1 := by rw [hw4, World.size_alloc, z3]
 have b4 : Below w.heap.size w w4 := by rw [hw4]; exact b3.alloc b3.size _
 have q3 : WholeAt w4 (w.heap.size + 1 + 1 + 1) false (.slice none 0 0) := by rw [hw4]; exact WholeAt.fresh _ _ z3
 have q2 : WholeAt w4 (w.heap.size + 1 + 1) false (.slice none 0 0) := by rw [hw4]; exact q2.alloc _
 have q1 : WholeAt w4 (w.heap.size + 1) t (.slice B m d) := by rw [hw4]; exact q1.alloc _
 have q0 : WholeAt w4 w.heap.size s (.slice A n c) := by rw [hw4]; exact q0.alloc _
 rw [← hw4]
 have q4 := heap_alloc_new w4 (.cells #[.bool s, .slice A n c, .bool t, .slice B m d] 27)
 rw [z4] at q4
 have b5 := b4.alloc b4.size (.cells #[.bool s, .slice A n c, .bool t, .slice B m d] 27)
 refine (allValid_two (w.heap.size + 1 + 1 + 1 + 1) s t A B n m c d f h _ q4 ((hA.below b5).more b5.size) ((hB.below b5).more b5.size) hf hh hn hm).mono ?_
 rintro e w' ⟨rfl, hb⟩
 exact ⟨rfl, (q0.alloc _).below hb (q0.alloc _).lt, (q1.alloc _).below hb (q1.alloc _).lt, (q2.alloc _).below hb (q2.alloc _).lt, (q3.alloc _).below hb (q3.alloc _).lt, b5.trans (hb.mono b5.size)⟩

theorem WholeAt.other {w : World} {g R : Nat} {s : Bool} {v : Value} (h : WholeAt w g s v) (hR : g ≠ R) (s' : Bool) (v' : Value) : WholeAt ((w.setCell ⟨R, 0, none⟩ (.bool s')).setCell ⟨R, 1, none⟩ v') g s v :=
 (Below.heap_setCell _ _ _ _ hR).trans ((Below.heap_setCell _ _ _ _ hR).trans h)
/-- The call returned two zero values and an error. -/
def ErrW2 (k : Int) (w : World) (e : Ending) (w' : World) : Prop := e = .returned (.tuple #[.agg #[.bool false, .slice none 0 0], .agg #[.bool false, .slice none 0 0], .int .i64 k]) ∧ Below w.heap.size w w'
set_option maxRecDepth 100000 in
set_option maxHeartbeats 1000000 in
theorem divMod_bad (s t : Bool) (A B : Option Addr) (n m c d : Nat) (f h : Nat → Nat) (w : World)
  (hA : Rd w.heap.size .u16 w A n f) (hB : Rd w.heap.size .u16 w B m h) (hf : ∀ i, f i < 65536) (hh : ∀ i, h i < 65536) (hn : n ≤ 1000000) (hm : m ≤ 1000000)
  (hok : (okW s n f && okW t m h) = false) :
  Calls Tryz.prog 92 #[.agg #[.bool s, .slice A n c], .agg #[.bool t, .slice B m d]] w (ErrW2 2 w) := by
 go_enter Tryz.func92, Tryz.ntmps92
 go_wp2_with fail
 refine (two_call3 s t A B n m c d f h w hA hB hf hh hn hm).mono ?_
 rintro e w1 ⟨rfl, ht⟩
 rw [hok]
 obtain ⟨r0, r1⟩ := ht.r.cells
 have g0 := ht.r.frozen 0
 have g1 := ht.r.frozen 1
 obtain ⟨r2, r3⟩ := ht.q.cells
 have g2 := ht.q.frozen 0
 have g3 := ht.q.frozen 1
 obtain ⟨hW, hbW⟩ := store_whole ht.r ht.bel (show w.heap.size ≤ w.heap.size + 1 + 1 by omega) false (.slice none 0 0)
 have hQ := ht.q.other (R := w.heap.size + 1 + 1) (by omega) false (.slice none 0 0)
 obtain ⟨hW2, hbW2⟩ := store_whole hQ hbW (show w.heap.size ≤ w.heap.size + 1 + 1 + 1 by omega) false (.slice none 0 0)
 have hW1 := hW.other (R := w.heap.size + 1 + 1 + 1) (by omega) false (.slice none 0 0)
 have H1 := Lib.hid hW1
 have H2 := Lib.hid hW2
 clear hW hQ hW1 hW2
 go_wp2_with fail
 have hW1 := H1.out
 have hW2 := H2.out
 clear H1 H2 ht r0 r1 r2 r3 g0 g1 g2 g3 hbW
 generalize ((((w1.setCell ⟨w.heap.size + 1 + 1, 0, none⟩ (.bool false)).setCell ⟨w.heap.size + 1 + 1, 1, none⟩ (.slice none 0 0)).setCell ⟨w.heap.size + 1 + 1 + 1, 0, none⟩ (.bool false)).setCell ⟨w.heap.size + 1 + 1 + 1, 1, none⟩ (.slice none 0 0)) = WW at *
 obtain ⟨k0, k1⟩ := hW1.cells
 obtain ⟨k2, k3⟩ := hW2.cells
 refine bodyPost_ret (v := .tuple #[.agg #[.bool false, .slice none 0 0], .agg #[.bool false, .slice none 0 0], .int .i64 2]) (by simp [results, Tryz.results92, go_sem, k0, k1, k2, k3]) rfl ?_
 exact ⟨rfl, hbW2⟩
end Go.Proofs.YtjgihmmeimfheaaGreat
/-! The walk of whole.DivMod: valid arguments. -/
namespace Go.Proofs.YtjgihmmeimfheaaGreat
open Go.RowKit

set_option maxRecDepth 100000 in
set_option maxHeartbeats 1000000 in
theorem divMod_zero (a : Int) (A B : Option Addr) (c d : Nat) (w : World) (hA : Num16 w A a.natAbs) (ha : ln b16 a.natAbs ≤ 1024) :
  Calls Tryz.prog 92 #[.agg #[.bool (decide (a < 0)), .slice A (ln b16 a.natAbs) c], .agg #[.bool false, .slice B 0 d]] w (ErrW2 11 w) := by
 have htwo := two_call3 (decide (a < 0)) false A B (ln b16 a.natAbs) 0 c d _ (fun _ => 0) w hA (Rd.nil) (fun i => dgt16_lt _ i) (fun i => by omega) (by omega) (by omega)
 rw [okW_num ha, show okW false 0 (fun _ => 0) = true from rfl] at htwo
 go_enter Tryz.func92, Tryz.ntmps92
 go_wp2_with fail
 refine htwo.mono ?_
 rintro e w1 ⟨rfl, ht⟩
 obtain ⟨r0, r1⟩ := ht.r.cells
 have g0 := ht.r.frozen 0
 have g1 := ht.r.frozen 1
 obtain ⟨r2, r3⟩ := ht.q.cells
 have g2 := ht.q.frozen 0
 have g3 := ht.q.frozen 1
 obtain ⟨p0, p1⟩ := ht.p0.cells
 obtain ⟨p2, p3⟩ := ht.p1.cells
 obtain ⟨hW, hbW⟩ := store_whole ht.r ht.bel (show w.heap.size ≤ w.heap.size + 1 + 1 by omega) false (.slice none 0 0)
 have hQ := ht.q.other (R := w.heap.size + 1 + 1) (by omega) false (.slice none 0 0)
 obtain ⟨hW2, hbW2⟩ := store_whole hQ hbW (show w.heap.size ≤ w.heap.size + 1 + 1 + 1 by omega) false (.slice none 0 0)
 have hW1 := hW.other (R := w.heap.size + 1 + 1 + 1) (by omega) false (.slice none 0 0)
 have H1 := Lib.hid hW1
 have H2 := Lib.hid hW2
 clear hW hQ hW1 hW2
 go_wp2_with fail
 have hW1 := H1.out
 have hW2 := H2.out
 clear H1 H2 ht r0 r1 r2 r3 g0 g1 g2 g3 hbW p0 p1 p2 p3
 generalize ((((w1.setCell ⟨w.heap.size + 1 + 1, 0, none⟩ (.bool false)).setCell ⟨w.heap.size + 1 + 1, 1, none⟩ (.slice none 0 0)).setCell ⟨w.heap.size + 1 + 1 + 1, 0, none⟩ (.bool false)).setCell ⟨w.heap.size + 1 + 1 + 1, 1, none⟩ (.slice none 0 0)) = WW at *
 obtain ⟨k0, k1⟩ := hW1.cells
 obtain ⟨k2, k3⟩ := hW2.cells
 refine bodyPost_ret (v := .tuple #[.agg #[.bool false, .slice none 0 0], .agg #[.bool false, .slice none 0 0], .int .i64 11]) (by simp [results, Tryz.results92, go_sem, k0, k1, k2, k3]) rfl ?_
 exact ⟨rfl, hbW2⟩
end Go.Proofs.YtjgihmmeimfheaaGreat
