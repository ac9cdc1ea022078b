/-
  Whole numbers as values: the contracts of the functions of whole and of the laws' helpers, for callers that hold numbers.
-/
import Derived.Test.YtafglggjncnkkaaDoorAwake
import Derived.Test.YtafglggjncnkkaaDoorMul
import Derived.Test.YtafglggjncnkkaaDoorCmp
namespace Go.Proofs.YtafglggjncnkkaaDoor
open Go.RowKit

/-- Sign, address and length of the number z. -/
def WV (w : World) (z : Int) (s : Bool) (A : Option Addr) (n : Nat) : Prop := s = decide (z < 0) ∧ n = ln b16 z.natAbs ∧ Num16 w A z.natAbs
/-- The same, in memory from block 'base' on. -/
def WO (base : Nat) (w : World) (z : Int) (s : Bool) (A : Option Addr) (n c : Nat) : Prop := s = decide (z < 0) ∧ n = ln b16 z.natAbs ∧ Own16 base w A (ln b16 z.natAbs) c (dgt b16 z.natAbs)
/-- The call returned the number z. -/
def VI (z : Int) (w : World) (e : Ending) (w' : World) : Prop := ∃ s A n c, e = .returned (.agg #[.bool s, .slice A n c]) ∧ WO w.heap.size w' z s A n c ∧ Below w.heap.size w w'
/-- The call returned the number z and no error. -/
def VR (z : Int) (w : World) (e : Ending) (w' : World) : Prop := ∃ s A n c, e = .returned (.tuple #[.agg #[.bool s, .slice A n c], .int .i64 0]) ∧ WO w.heap.size w' z s A n c ∧ Below w.heap.size w w'
/-- The call returned the numbers q and r and no error. -/
def VR2 (q r : Int) (w : World) (e : Ending) (w' : World) : Prop :=
  ∃ s A n c t B m d, e = .returned (.tuple #[.agg #[.bool s, .slice A n c], .agg #[.bool t, .slice B m d], .int .i64 0]) ∧ WO w.heap.size w' q s A n c ∧ WO w.heap.size w' r t B m d ∧ Below w.heap.size w w'
theorem WO.v {base : Nat} {w : World} {z : Int} {s : Bool} {A : Option Addr} {n c : Nat} (h : WO base w z s A n c) : WV w z s A n := ⟨h.1, h.2.1, h.2.2.num⟩
theorem WO.len {base : Nat} {w : World} {z : Int} {s : Bool} {A : Option Addr} {n c : Nat} (h : WO base w z s A n c) : n = ln b16 z.natAbs := h.2.1
theorem WV.len {w : World} {z : Int} {s : Bool} {A : Option Addr} {n : Nat} (h : WV w z s A n) : n = ln b16 z.natAbs := h.2.1
theorem WV.sgn {w : World} {z : Int} {s : Bool} {A : Option Addr} {n : Nat} (h : WV w z s A n) : s = decide (z < 0) := h.1
theorem WV.below {w w' : World} {z : Int} {s : Bool} {A : Option Addr} {n : Nat} (h : WV w z s A n) (hb : Below w.heap.size w w') : WV w' z s A n := ⟨h.1, h.2.1, Num16.below h.2.2 hb⟩
theorem WV.drew {w : World} {z : Int} {s : Bool} {A : Option Addr} {n : Nat} (h : WV w z s A n) : WV w.drew z s A n := h
theorem WO.lower {base base' : Nat} {w : World} {z : Int} {s : Bool} {A : Option Addr} {n c : Nat} (h : WO base w z s A n c) (hb : base' ≤ base) : WO base' w z s A n c := ⟨h.1, h.2.1, h.2.2.lower hb⟩
theorem WO.below {base B : Nat} {w w' : World} {z : Int} {s : Bool} {A : Option Addr} {n c : Nat} (h : WO base w z s A n c) (hb : Below B w w') (hB : w.heap.size ≤ B) : WO base w' z s A n c := ⟨h.1, h.2.1, h.2.2.below hb hB⟩
theorem WO.store {base R : Nat} {w : World} {z : Int} {s : Bool} {A : Option Addr} {n c : Nat} (h : WO base w z s A n c) (hR : R < base) (s' : Bool) (v' : Value) : WO base ((w.setCell ⟨R, 0, none⟩ (.bool s')).setCell ⟨R, 1, none⟩ v') z s A n c :=
  ⟨h.1, h.2.1, store_own h.2.2 hR s' v'⟩
theorem WO.alloc {base : Nat} {w : World} {z : Int} {s : Bool} {A : Option Addr} {n c : Nat} (h : WO base w z s A n c) (o : Obj) : WO base (w.alloc o) z s A n c := ⟨h.1, h.2.1, h.2.2.alloc o⟩
theorem VI.mono {z : Int} {w w1 : World} {e : Ending} {w' : World} (h : VI z w1 e w') (hb : Below w.heap.size w w1) : VI z w e w' := by
  obtain ⟨s, A, n, c, he, ho, hb'⟩ := h
  exact ⟨s, A, n, c, he, ho.lower hb.size, hb.trans (hb'.mono hb.size)⟩
theorem WI.vi {w w' : World} {z : Int} {e : Ending} (h : WI w z e w') : VI z w e w' := by
  obtain ⟨A, c, he, ho, hb⟩ := h
  exact ⟨_, A, _, c, he, ⟨rfl, rfl, ho⟩, hb⟩
theorem RI.vr {w w' : World} {z : Int} {e : Ending} (h : RI w z e w') (hl : ln b16 z.natAbs ≤ 1024) : VR z w e w' := by
  rcases h with ⟨_, A, c, he, ho, hb⟩ | ⟨h1, _⟩
  · exact ⟨_, A, _, c, he, ⟨rfl, rfl, ho⟩, hb⟩
  · omega
theorem ln_addZ {a b : Int} {m : Nat} (ha : ln b16 a.natAbs ≤ m) (hb : ln b16 b.natAbs ≤ m) : ln b16 (a + b).natAbs ≤ m + 1 :=
  Nat.le_trans (ln_mono b16_two (Int.natAbs_add_le a b)) (ln_add b16_two ha hb)
theorem ln_subZ {a b : Int} {m : Nat} (ha : ln b16 a.natAbs ≤ m) (hb : ln b16 b.natAbs ≤ m) : ln b16 (a - b).natAbs ≤ m + 1 := by
  rw [Int.sub_eq_add_neg]
  exact ln_addZ ha (by rw [Int.natAbs_neg]; exact hb)
theorem ln_mulZ {a b : Int} {m n : Nat} (ha : ln b16 a.natAbs ≤ m) (hb : ln b16 b.natAbs ≤ n) : ln b16 (a * b).natAbs ≤ m + n := by
  rw [Int.natAbs_mul]
  exact ln_mul b16_two ha hb
theorem ln_int {z : Int} (h1 : -9223372036854775808 ≤ z) (h2 : z ≤ 9223372036854775807) : ln b16 z.natAbs ≤ 4 := (ln_le b16_two).2 (show z.natAbs < 18446744073709551616 by omega)

section
variable {a b : Int} {s t : Bool} {A B : Option Addr} {n m c d : Nat} {w : World}
theorem num_v (z : Int) (w : World) (h1 : -9223372036854775808 ≤ z) (h2 : z ≤ 9223372036854775807) : Calls Tryd.prog 20 #[.int .i64 z] w (VI z w) := (num_any z w h1 h2).mono fun _ _ h => h.vi
theorem is_v (z : Int) (hA : WV w z s A n) (h1 : -9223372036854775808 ≤ z) (h2 : z ≤ 9223372036854775807) :
    Calls Tryd.prog 36 #[.agg #[.bool s, .slice A n c], .int .i64 0, .int .i64 z] w fun e w' => e = .returned (.bool true) ∧ Below w.heap.size w w' := by
  obtain ⟨rfl, rfl, hA⟩ := hA
  exact is_yes z A c w h1 h2 hA
theorem divMod_v (ha : WV w a s A n) (hb : WV w b t B m) (la : n ≤ 1024) (lb : m ≤ 1024) (hb0 : b ≠ 0) :
    Calls Tryd.prog 32 #[.agg #[.bool s, .slice A n c], .agg #[.bool t, .slice B m d]] w (VR2 (a.fdiv b) (a.fmod b) w) := by
  obtain ⟨rfl, rfl, hA⟩ := ha
  obtain ⟨rfl, rfl, hB⟩ := hb
  refine (divMod_any a b A B c d w hA hB la lb hb0).mono ?_
  rintro e w' ⟨A', c', B', d', m, he, h1, -, h2, h3, hb⟩
  exact ⟨_, A', _, c', _, B', _, d', he, ⟨rfl, rfl, h1⟩, ⟨rfl, rfl, h3.lower h2⟩, hb⟩
theorem gcd_v (ha : WV w a s A n) (hb : WV w b t B m) (la : n ≤ 1024) (lb : m ≤ 1024) :
    Calls Tryd.prog 14 #[.agg #[.bool s, .slice A n c], .agg #[.bool t, .slice B m d]] w (VR ((Nat.gcd a.natAbs b.natAbs : Nat) : Int) w) := by
  obtain ⟨rfl, rfl, hA⟩ := ha
  obtain ⟨rfl, rfl, hB⟩ := hb
  exact (gcd_any a b A B c d w hA hB la lb).mono fun _ _ h => h.vr (by rw [Int.natAbs_natCast]; exact ln_gcd _ _ _ la lb)
theorem cmp_v (ha : WV w a s A n) (hb : WV w b t B m) (la : n ≤ 1024) (lb : m ≤ 1024) :
    Calls Tryd.prog 33 #[.agg #[.bool s, .slice A n c], .agg #[.bool t, .slice B m d]] w fun e w' => e = .returned (.int .i64 (cmpZ a b)) ∧ Below w.heap.size w w' := by
  obtain ⟨rfl, rfl, hA⟩ := ha
  obtain ⟨rfl, rfl, hB⟩ := hb
  exact cmp_any a b A B c d w hA hB la lb
theorem text_v (ha : WV w a s A n) (la : n ≤ 1024) (htab : Tab w) :
    Calls Tryd.prog 21 #[.agg #[.bool s, .slice A n c]] w fun e w' => (∃ T : ByteArray, e = .returned (.tuple #[.string T, .int .i64 0]) ∧ Hid (T = ⟨(Lib.itoa a).toArray⟩)) ∧ Below w.heap.size w w' := by
  obtain ⟨rfl, rfl, hA⟩ := ha
  exact (text_any a A c w htab hA la).mono fun _ _ ⟨h1, h2⟩ => ⟨⟨_, h1, Lib.hid rfl⟩, h2⟩
theorem valid_v (ha : WV w a s A n) (la : n ≤ 1024) : Calls Tryd.prog 15 #[.agg #[.bool s, .slice A n c]] w fun e w' => e = .returned (.bool true) ∧ Below w.heap.size w w' := by
  obtain ⟨rfl, rfl, hA⟩ := ha
  have h := valid_any (decide (a < 0)) A (ln b16 a.natAbs) c (dgt b16 a.natAbs) w hA (fun i _ => dgt16_lt _ i) (by omega)
  rw [okW_num la] at h
  exact h
theorem refSame_v (ha : WV w a s A n) (hb : WV w b t B m) (la : n ≤ 1000000) (lb : m ≤ 1000000) :
    Calls Tryd.prog 42 #[.agg #[.bool s, .slice A n c], .agg #[.bool t, .slice B m d]] w fun e w' => e = .returned (.bool (decide (a = b))) ∧ Below w.heap.size w w' := by
  obtain ⟨rfl, rfl, hA⟩ := ha
  obtain ⟨rfl, rfl, hB⟩ := hb
  have h := refSame_any (decide (a < 0)) (decide (b < 0)) A B (ln b16 a.natAbs) (ln b16 b.natAbs) c d _ _ w hA hB la lb
  rw [sameW_num] at h
  exact h
theorem same_v (ha : WV w a s A n) (hb : WV w b t B m) (la : n ≤ 1000000) (lb : m ≤ 1000000) :
    Calls Tryd.prog 37 #[.agg #[.bool s, .slice A n c], .agg #[.bool t, .slice B m d]] w fun e w' => e = .returned (.bool (decide (a = b))) ∧ Below w.heap.size w w' := by
  obtain ⟨rfl, rfl, hA⟩ := ha
  obtain ⟨rfl, rfl, hB⟩ := hb
  have h := same_any (decide (a < 0)) (decide (b < 0)) A B (ln b16 a.natAbs) (ln b16 b.natAbs) c d _ _ w hA hB la lb
  rw [sameW_num] at h
  exact h
theorem add_v (ha : WV w a s A n) (hb : WV w b t B m) (la : n ≤ 1024) (lb : m ≤ 1024) (lr : ln b16 (a + b).natAbs ≤ 1024) :
    Calls Tryd.prog 24 #[.agg #[.bool s, .slice A n c], .agg #[.bool t, .slice B m d]] w (VR (a + b) w) := by
  obtain ⟨rfl, rfl, hA⟩ := ha
  obtain ⟨rfl, rfl, hB⟩ := hb
  exact (add_any a b A B c d w hA hB la lb).mono fun _ _ h => h.vr lr
theorem sub_v (ha : WV w a s A n) (hb : WV w b t B m) (la : n ≤ 1024) (lb : m ≤ 1024) (lr : ln b16 (a - b).natAbs ≤ 1024) :
    Calls Tryd.prog 25 #[.agg #[.bool s, .slice A n c], .agg #[.bool t, .slice B m d]] w (VR (a - b) w) := by
  obtain ⟨rfl, rfl, hA⟩ := ha
  obtain ⟨rfl, rfl, hB⟩ := hb
  exact (sub_any a b A B c d w hA hB la lb).mono fun _ _ h => h.vr lr
theorem mul_v (ha : WV w a s A n) (hb : WV w b t B m) (la : n ≤ 1024) (lb : m ≤ 1024) (lr : ln b16 (a * b).natAbs ≤ 1024) :
    Calls Tryd.prog 26 #[.agg #[.bool s, .slice A n c], .agg #[.bool t, .slice B m d]] w (VR (a * b) w) := by
  obtain ⟨rfl, rfl, hA⟩ := ha
  obtain ⟨rfl, rfl, hB⟩ := hb
  exact (mul_any a b A B c d w hA hB la lb).mono fun _ _ h => h.vr lr
end
end Go.Proofs.YtafglggjncnkkaaDoor
/-! The walks of the laws' helpers sum, product, less and equal. -/
namespace Go.Proofs.YtafglggjncnkkaaDoor
open Go.RowKit

section
variable {a b : Int} {s t : Bool} {A B : Option Addr} {n m c d : Nat} {w : World}
set_option maxRecDepth 100000 in
set_option maxHeartbeats 1000000 in
theorem law_sum (ha : WV w a s A n) (hb : WV w b t B m) (la : n ≤ 1024) (lb : m ≤ 1024) (lr : ln b16 (a + b).natAbs ≤ 1024) :
    Calls Tryd.prog 16 #[.agg #[.bool s, .slice A n c], .agg #[.bool t, .slice B m d]] w (VI (a + b) w) := by
  have hT := TwoP.start w s t A B n m c d
  have hb3 := hT.bel.alloc hT.bel.size (.cells #[.bool false, .slice none 0 0] 24)
  have hR0 := WholeAt.new ((w.alloc (.cells #[.bool s, .slice A n c] 24)).alloc (.cells #[.bool t, .slice B m d] 24)) false (.slice none 0 0)
  simp only [World.size_alloc] at hR0
  have D1 := Lib.hid (add_v (c := c) (d := d) (ha.below hb3) (hb.below hb3) la lb lr)
  clear ha hb
  go_enter Tryd.func16, Tryd.ntmps16
  go_wp2_with fail
  refine D1.out.mono ?_
  rintro e w1 ⟨s', A', n', c', rfl, ho, hb1⟩
  have hR1 := hR0.below hb1 hR0.lt
  have hbl1 := hb3.trans (hb1.mono hb3.size)
  obtain ⟨r0, r1⟩ := hR1.cells
  have g0 := hR1.frozen 0
  have g1 := hR1.frozen 1
  have hlt := hR1.lt
  go_wp2_with fail
  obtain ⟨hW, hbW⟩ := store_whole hR1 hbl1 (show w.heap.size ≤ w.heap.size + 1 + 1 by omega) s' (.slice A' n' c')
  have hO := (ho.store (R := w.heap.size + 1 + 1) (by simp) s' (.slice A' n' c')).lower (base' := w.heap.size) (by simp; omega)
  generalize ((w1.setCell ⟨w.heap.size + 1 + 1, 0, none⟩ (.bool s')).setCell ⟨w.heap.size + 1 + 1, 1, none⟩ (.slice A' n' c')) = WW at *
  have hW2 : WholeAt (WW.alloc (.cells #[.bool s', .slice A' n' c'] 24)) (w.heap.size + 1 + 1) s' (.slice A' n' c') := (Below.heap_alloc _ _ _ hW.lt).trans hW
  obtain ⟨k0, k1⟩ := hW2.cells
  refine bodyPost_ret (v := .agg #[.bool s', .slice A' n' c']) (by simp [results, Tryd.results16, go_sem, k0, k1]) rfl ?_
  exact ⟨s', A', n', c', rfl, hO.alloc _, hbW.alloc hbW.size _⟩
set_option maxRecDepth 100000 in
set_option maxHeartbeats 1000000 in
theorem law_product (ha : WV w a s A n) (hb : WV w b t B m) (la : n ≤ 1024) (lb : m ≤ 1024) (lr : ln b16 (a * b).natAbs ≤ 1024) :
    Calls Tryd.prog 17 #[.agg #[.bool s, .slice A n c], .agg #[.bool t, .slice B m d]] w (VI (a * b) w) := by
  have hT := TwoP.start w s t A B n m c d
  have hb3 := hT.bel.alloc hT.bel.size (.cells #[.bool false, .slice none 0 0] 24)
  have hR0 := WholeAt.new ((w.alloc (.cells #[.bool s, .slice A n c] 24)).alloc (.cells #[.bool t, .slice B m d] 24)) false (.slice none 0 0)
  simp only [World.size_alloc] at hR0
  have D1 := Lib.hid (mul_v (c := c) (d := d) (ha.below hb3) (hb.below hb3) la lb lr)
  clear ha hb
  go_enter Tryd.func17, Tryd.ntmps17
  go_wp2_with fail
  refine D1.out.mono ?_
  rintro e w1 ⟨s', A', n', c', rfl, ho, hb1⟩
  have hR1 := hR0.below hb1 hR0.lt
  have hbl1 := hb3.trans (hb1.mono hb3.size)
  obtain ⟨r0, r1⟩ := hR1.cells
  have g0 := hR1.frozen 0
  have g1 := hR1.frozen 1
  have hlt := hR1.lt
  go_wp2_with fail
  obtain ⟨hW, hbW⟩ := store_whole hR1 hbl1 (show w.heap.size ≤ w.heap.size + 1 + 1 by omega) s' (.slice A' n' c')
  have hO := (ho.store (R := w.heap.size + 1 + 1) (by simp) s' (.slice A' n' c')).lower (base' := w.heap.size) (by simp; omega)
  generalize ((w1.setCell ⟨w.heap.size + 1 + 1, 0, none⟩ (.bool s')).setCell ⟨w.heap.size + 1 + 1, 1, none⟩ (.slice A' n' c')) = WW at *
  have hW2 : WholeAt (WW.alloc (.cells #[.bool s', .slice A' n' c'] 24)) (w.heap.size + 1 + 1) s' (.slice A' n' c') := (Below.heap_alloc _ _ _ hW.lt).trans hW
  obtain ⟨k0, k1⟩ := hW2.cells
  refine bodyPost_ret (v := .agg #[.bool s', .slice A' n' c']) (by simp [results, Tryd.results17, go_sem, k0, k1]) rfl ?_
  exact ⟨s', A', n', c', rfl, hO.alloc _, hbW.alloc hbW.size _⟩
set_option maxRecDepth 100000 in
set_option maxHeartbeats 1000000 in
theorem law_less (ha : WV w a s A n) (hb : WV w b t B m) (la : n ≤ 1024) (lb : m ≤ 1024) (lr : ln b16 (a - b).natAbs ≤ 1024) :
    Calls Tryd.prog 31 #[.agg #[.bool s, .slice A n c], .agg #[.bool t, .slice B m d]] w (VI (a - b) w) := by
  have hT := TwoP.start w s t A B n m c d
  have hb3 := hT.bel.alloc hT.bel.size (.cells #[.bool false, .slice none 0 0] 24)
  have hR0 := WholeAt.new ((w.alloc (.cells #[.bool s, .slice A n c] 24)).alloc (.cells #[.bool t, .slice B m d] 24)) false (.slice none 0 0)
  simp only [World.size_alloc] at hR0
  have D1 := Lib.hid (sub_v (c := c) (d := d) (ha.below hb3) (hb.below hb3) la lb lr)
  clear ha hb
  go_enter Tryd.func31, Tryd.ntmps31
  go_wp2_with fail
  refine D1.out.mono ?_
  rintro e w1 ⟨s', A', n', c', rfl, ho, hb1⟩
  have hR1 := hR0.below hb1 hR0.lt
  have hbl1 := hb3.trans (hb1.mono hb3.size)
  obtain ⟨r0, r1⟩ := hR1.cells
  have g0 := hR1.frozen 0
  have g1 := hR1.frozen 1
  have hlt := hR1.lt
  go_wp2_with fail
  obtain ⟨hW, hbW⟩ := store_whole hR1 hbl1 (show w.heap.size ≤ w.heap.size + 1 + 1 by omega) s' (.slice A' n' c')
  have hO := (ho.store (R := w.heap.size + 1 + 1) (by simp) s' (.slice A' n' c')).lower (base' := w.heap.size) (by simp; omega)
  generalize ((w1.setCell ⟨w.heap.size + 1 + 1, 0, none⟩ (.bool s')).setCell ⟨w.heap.size + 1 + 1, 1, none⟩ (.slice A' n' c')) = WW at *
  have hW2 : WholeAt (WW.alloc (.cells #[.bool s', .slice A' n' c'] 24)) (w.heap.size + 1 + 1) s' (.slice A' n' c') := (Below.heap_alloc _ _ _ hW.lt).trans hW
  obtain ⟨k0, k1⟩ := hW2.cells
  refine bodyPost_ret (v := .agg #[.bool s', .slice A' n' c']) (by simp [results, Tryd.results31, go_sem, k0, k1]) rfl ?_
  exact ⟨s', A', n', c', rfl, hO.alloc _, hbW.alloc hbW.size _⟩
set_option maxRecDepth 100000 in
set_option maxHeartbeats 1000000 in
theorem law_equal (ha : WV w a s A n) (hb : WV w b t B m) (la : n ≤ 1024) (lb : m ≤ 1024) :
    Calls Tryd.prog 18 #[.agg #[.bool s, .slice A n c], .agg #[.bool t, .slice B m d]] w fun e w' => e = .returned (.bool (decide (a = b))) ∧ Below w.heap.size w w' := by
  have hT := TwoP.start w s t A B n m c d
  go_enter Tryd.func18, Tryd.ntmps18
  go_wp2_with fail
  refine (valid_v (ha.below hT.bel) la).mono ?_
  rintro e w1 ⟨rfl, hb1⟩
  have hT1 := hT.below hb1
  obtain ⟨p0, p1⟩ := hT1.p0.cells
  obtain ⟨p2, p3⟩ := hT1.p1.cells
  go_wp2_with fail
  refine (valid_v (hb.below hT1.bel) lb).mono ?_
  rintro e w2 ⟨rfl, hb2⟩
  have hT2 := hT1.below hb2
  clear p0 p1 p2 p3
  obtain ⟨p0, p1⟩ := hT2.p0.cells
  obtain ⟨p2, p3⟩ := hT2.p1.cells
  go_wp2_with fail
  refine (refSame_v (ha.below hT2.bel) (hb.below hT2.bel) (by omega) (by omega)).mono ?_
  rintro e w3 ⟨rfl, hb3⟩
  have hT3 := hT2.below hb3
  obtain ⟨q, hq⟩ : ∃ q, q = decide (a = b) := ⟨_, rfl⟩
  rw [← hq]
  have HQ := Lib.hid hq
  clear hq
  go_wp2_with fail
  go_ret
  exact ⟨ret_bool HQ.out, hT3.bel⟩
end
end Go.Proofs.YtafglggjncnkkaaDoor
/-! The walk of the laws' awake. -/
namespace Go.Proofs.YtafglggjncnkkaaDoor
open Go.RowKit

/-- What holds of a world and stays where nothing that lay is touched. -/
def Stable (P : World → Prop) : Prop := ∀ W W', Below W.heap.size W W' → P W → P W'
structure Env (w : World) (P : World → Prop) (W : World) : Prop where
  bel : Below w.heap.size w W
  st : Stable P
  here : P W
theorem Env.start (w : World) : Env w (fun _ => True) w := ⟨Below.refl _ _, fun _ _ _ h => h, trivial⟩
theorem Env.step {w : World} {P : World → Prop} {W W' : World} (h : Env w P W) (hb : Below W.heap.size W W') : Env w P W' := ⟨h.bel.trans (hb.mono h.bel.size), h.st, h.st _ _ hb h.here⟩
theorem Env.alloc {w : World} {P : World → Prop} {W : World} (h : Env w P W) (o : Obj) : Env w P (W.alloc o) := h.step ((Below.refl _ W).alloc (Nat.le_refl _) o)
theorem Env.drew {w : World} {P : World → Prop} {W : World} (h : Env w P W) : Env w P W.drew := h.step (Below.refl _ W).drew
theorem Env.and {w : World} {P Q : World → Prop} {W : World} (h : Env w P W) (hs : Stable Q) (hq : Q W) : Env w (fun W => P W ∧ Q W) W :=
  ⟨h.bel, fun A B hb hp => ⟨h.st A B hb hp.1, hs A B hb hp.2⟩, h.here, hq⟩
/-- A variable that holds the number z. -/
def Bx (g : Nat) (z : Int) (s : Bool) (A : Option Addr) (n c : Nat) (W : World) : Prop := WholeAt W g s (.slice A n c) ∧ WV W z s A n
theorem Bx.stable (g : Nat) (z : Int) (s : Bool) (A : Option Addr) (n c : Nat) : Stable (Bx g z s A n c) := fun _ _ hb ⟨h1, h2⟩ => ⟨h1.below hb h1.lt, h2.below hb⟩
theorem Bx.new {W : World} {z : Int} {s : Bool} {A : Option Addr} {n c : Nat} (h : WV W z s A n) : Bx W.heap.size z s A n c (W.alloc (.cells #[.bool s, .slice A n c] 24)) :=
  ⟨WholeAt.new W s _, h.below ((Below.refl _ W).alloc (Nat.le_refl _) _)⟩
theorem WV.stable (z : Int) (s : Bool) (A : Option Addr) (n : Nat) : Stable (fun W => WV W z s A n) := fun _ _ hb h => h.below hb
theorem Tab.stable : Stable Tab := fun _ _ hb h => h.below hb
theorem add_invalid {b : Int} {t : Bool} {B : Option Addr} {m d : Nat} {w : World} (hb : WV w b t B m) (lb : m ≤ 1024) :
    Calls Tryd.prog 24 #[.agg #[.bool true, .slice none 0 0], .agg #[.bool t, .slice B m d]] w (ErrArgW w) := by
  obtain ⟨rfl, rfl, hB⟩ := hb
  exact add_bad true (decide (b < 0)) none B 0 (ln b16 b.natAbs) 0 d (fun _ => 0) (dgt b16 b.natAbs) w Rd.nil hB (fun _ => by omega) (fun i => dgt16_lt _ i) (by omega) (by omega) rfl
theorem len_small {z : Int} {base : Nat} {w : World} {s : Bool} {A : Option Addr} {n c : Nat} (h : WO base w z s A n c) (h1 : -9223372036854775808 ≤ z) (h2 : z ≤ 9223372036854775807) : n ≤ 1024 := by
  rw [h.len]; exact Nat.le_trans (ln_int h1 h2) (by decide)
theorem ln_small1024 {z : Int} (h1 : -9223372036854775808 ≤ z) (h2 : z ≤ 9223372036854775807) : ln b16 z.natAbs ≤ 1024 := Nat.le_trans (ln_int h1 h2) (by decide)
theorem itoa_m10 : (⟨(Lib.itoa (-10)).toArray⟩ : ByteArray) = ⟨#[45, 49, 48]⟩ := by
  rw [show Lib.itoa (-10) = [45, 49, 48] by
    rw [show (-10 : Int) = -((10 : Nat) : Int) from rfl, Lib.itoa_neg 10 (by decide), Lib.decDigits_two (by decide) (by decide)]; rfl]

set_option maxRecDepth 100000 in
set_option maxHeartbeats 8000000 in
theorem awake_any (w : World) (htab : Tab w) : Calls Tryd.prog 12 #[] w fun e w' => e = .returned (.bool true) ∧ Below w.heap.size w w' := by
  have hE := (Env.start w).and Tab.stable htab
  go_enter Tryd.func12, Tryd.ntmps12
  go_wp2_with fail
  refine (num_v (65535) _ (by decide) (by decide)).mono ?_
  rintro e w1 ⟨s0, A0, n0, c0, rfl, ho0, hb0⟩
  have hE := hE.step hb0
  have hl0 := len_small ho0 (by decide) (by decide)
  go_wp2_with fail
  refine (num_v (1) _ (by decide) (by decide)).mono ?_
  rintro e w2 ⟨s1, A1, n1, c1, rfl, ho1, hb1⟩
  have hE := hE.step hb1
  have hl1 := len_small ho1 (by decide) (by decide)
  go_wp2_with fail
  refine (add_v (ho0.v.below hb1) ho1.v hl0 hl1 (ln_small1024 (by decide) (by decide))).mono ?_
  rintro e w3 ⟨s2, A2, n2, c2, rfl, ho2, hb2⟩
  rw [show (65535 : Int) + 1 = 65536 from rfl] at ho2
  have hE := (hE.step hb2).alloc (.cells #[.bool s2, .slice A2 n2 c2] 24)
  have hE := hE.and (Bx.stable _ 65536 s2 A2 n2 c2) (Bx.new ho2.v)
  clear ho0 ho1 ho2 hb0 hb1 hb2
  go_wp2_with fail
  refine (num_v (7) _ (by decide) (by decide)).mono ?_
  rintro e w4 ⟨s3, A3, n3, c3, rfl, ho3, hb3⟩
  have hE := hE.step hb3
  have hl3 := len_small ho3 (by decide) (by decide)
  go_wp2_with fail
  refine (num_v (-2) _ (by decide) (by decide)).mono ?_
  rintro e w5 ⟨s4, A4, n4, c4, rfl, ho4, hb4⟩
  have hE := hE.step hb4
  have hl4 := len_small ho4 (by decide) (by decide)
  go_wp2_with fail
  refine (divMod_v (ho3.v.below hb4) ho4.v hl3 hl4 (by decide)).mono ?_
  rintro e w6 ⟨s5, A5, n5, c5, s6, A6, n6, c6, rfl, ho5, ho6, hb5⟩
  rw [show (7 : Int).fdiv (-2) = -4 by decide] at ho5
  rw [show (7 : Int).fmod (-2) = -1 by decide] at ho6
  have hE := (hE.step hb5).alloc (.cells #[.bool s5, .slice A5 n5 c5] 24)
  have hE := hE.and (Bx.stable _ (-4) s5 A5 n5 c5) (Bx.new ho5.v)
  have hv6 := ho6.v.below ((Below.refl _ w6).alloc (Nat.le_refl _) (.cells #[.bool s5, .slice A5 n5 c5] 24))
  have hE := hE.alloc (.cells #[.bool s6, .slice A6 n6 c6] 24)
  have hbx := Bx.new (c := c6) hv6
  rw [World.size_alloc] at hbx
  have hE := hE.and (Bx.stable _ (-1) s6 A6 n6 c6) hbx
  clear hbx
  clear ho3 ho4 ho5 ho6 hb3 hb4 hb5 hv6
  go_wp2_with fail
  refine (num_v (-7) _ (by decide) (by decide)).mono ?_
  rintro e w7 ⟨s7, A7, n7, c7, rfl, ho7, hb7⟩
  have hE := hE.step hb7
  have hl7 := len_small ho7 (by decide) (by decide)
  go_wp2_with fail
  refine (num_v (2) _ (by decide) (by decide)).mono ?_
  rintro e w8 ⟨s8, A8, n8, c8, rfl, ho8, hb8⟩
  have hE := hE.step hb8
  have hl8 := len_small ho8 (by decide) (by decide)
  go_wp2_with fail
  refine (divMod_v (ho7.v.below hb8) ho8.v hl7 hl8 (by decide)).mono ?_
  rintro e w9 ⟨s9, A9, n9, c9, s10, A10, n10, c10, rfl, ho9, ho10, hb9⟩
  rw [show (-7 : Int).fdiv (2) = -4 by decide] at ho9
  rw [show (-7 : Int).fmod (2) = 1 by decide] at ho10
  have hE := (hE.step hb9).alloc (.cells #[.bool s9, .slice A9 n9 c9] 24)
  have hE := hE.and (Bx.stable _ (-4) s9 A9 n9 c9) (Bx.new ho9.v)
  have hv10 := ho10.v.below ((Below.refl _ w9).alloc (Nat.le_refl _) (.cells #[.bool s9, .slice A9 n9 c9] 24))
  have hE := hE.alloc (.cells #[.bool s10, .slice A10 n10 c10] 24)
  have hbx := Bx.new (c := c10) hv10
  rw [World.size_alloc] at hbx
  have hE := hE.and (Bx.stable _ (1) s10 A10 n10 c10) hbx
  clear hbx
  clear ho7 ho8 ho9 ho10 hb7 hb8 hb9 hv10
  go_wp2_with fail
  refine (num_v (-7) _ (by decide) (by decide)).mono ?_
  rintro e w10 ⟨s11, A11, n11, c11, rfl, ho11, hb11⟩
  have hE := hE.step hb11
  have hl11 := len_small ho11 (by decide) (by decide)
  go_wp2_with fail
  refine (num_v (-2) _ (by decide) (by decide)).mono ?_
  rintro e w11 ⟨s12, A12, n12, c12, rfl, ho12, hb12⟩
  have hE := hE.step hb12
  have hl12 := len_small ho12 (by decide) (by decide)
  go_wp2_with fail
  refine (divMod_v (ho11.v.below hb12) ho12.v hl11 hl12 (by decide)).mono ?_
  rintro e w12 ⟨s13, A13, n13, c13, s14, A14, n14, c14, rfl, ho13, ho14, hb13⟩
  rw [show (-7 : Int).fdiv (-2) = 3 by decide] at ho13
  rw [show (-7 : Int).fmod (-2) = -1 by decide] at ho14
  have hE := (hE.step hb13).alloc (.cells #[.bool s13, .slice A13 n13 c13] 24)
  have hE := hE.and (Bx.stable _ (3) s13 A13 n13 c13) (Bx.new ho13.v)
  have hv14 := ho14.v.below ((Below.refl _ w12).alloc (Nat.le_refl _) (.cells #[.bool s13, .slice A13 n13 c13] 24))
  have hE := hE.alloc (.cells #[.bool s14, .slice A14 n14 c14] 24)
  have hbx := Bx.new (c := c14) hv14
  rw [World.size_alloc] at hbx
  have hE := hE.and (Bx.stable _ (-1) s14 A14 n14 c14) hbx
  clear hbx
  clear ho11 ho12 ho13 ho14 hb11 hb12 hb13 hv14
  go_wp2_with fail
  refine (num_v (-12) _ (by decide) (by decide)).mono ?_
  rintro e w13 ⟨s15, A15, n15, c15, rfl, ho15, hb15⟩
  have hE := hE.step hb15
  have hl15 := len_small ho15 (by decide) (by decide)
  go_wp2_with fail
  refine (num_v (18) _ (by decide) (by decide)).mono ?_
  rintro e w14 ⟨s16, A16, n16, c16, rfl, ho16, hb16⟩
  have hE := hE.step hb16
  have hl16 := len_small ho16 (by decide) (by decide)
  go_wp2_with fail
  refine (gcd_v (ho15.v.below hb16) ho16.v hl15 hl16).mono ?_
  rintro e w15 ⟨s17, A17, n17, c17, rfl, ho17, hb17⟩
  rw [show ((Nat.gcd (-12 : Int).natAbs (18 : Int).natAbs : Nat) : Int) = 6 by decide] at ho17
  have hE := (hE.step hb17).alloc (.cells #[.bool s17, .slice A17 n17 c17] 24)
  have hE := hE.and (Bx.stable _ 6 s17 A17 n17 c17) (Bx.new ho17.v)
  clear ho15 ho16 ho17 hb15 hb16 hb17
  go_wp2_with fail
  refine (num_v (-10) _ (by decide) (by decide)).mono ?_
  rintro e w16 ⟨s18, A18, n18, c18, rfl, ho18, hb18⟩
  have hE := hE.step hb18
  have hl18 := len_small ho18 (by decide) (by decide)
  go_wp2_with fail
  have htab2 : Tab _ := hE.here.1.1.1.1.1.1.1.1.2
  refine (text_v ho18.v hl18 htab2).mono ?_
  rintro e w17 ⟨⟨T, rfl, hT⟩, hbt⟩
  obtain rfl : T = ⟨#[45, 49, 48]⟩ := hT.out.trans itoa_m10
  have hE := hE.step hbt
  clear ho18 hb18 htab2 hT hbt
  go_wp2_with fail
  refine (parse007 _).mono ?_
  rintro e w18 ⟨rfl, hbp⟩
  have hE := (hE.step hbp).alloc (.cells #[.bool false, .slice none 0 0] 24)
  clear hbp
  go_wp2_with fail
  refine (num_v (1) _ (by decide) (by decide)).mono ?_
  rintro e w19 ⟨s19, A19, n19, c19, rfl, ho19, hb19⟩
  have hE := hE.step hb19
  have hl19 := len_small ho19 (by decide) (by decide)
  go_wp2_with fail
  refine (add_invalid ho19.v hl19).mono ?_
  rintro e w20 ⟨rfl, hbq⟩
  have hE := (hE.step hbq).alloc (.cells #[.bool false, .slice none 0 0] 24)
  clear hbq ho19 hb19
  go_wp2_with fail
  refine (num_v (-65537) _ (by decide) (by decide)).mono ?_
  rintro e w21 ⟨s20, A20, n20, c20, rfl, ho20, hb20⟩
  have hE := hE.step hb20
  have hl20 := len_small ho20 (by decide) (by decide)
  go_wp2_with fail
  refine (is_v (-65537) ho20.v (by decide) (by decide)).mono ?_
  rintro e w22 ⟨rfl, hbi⟩
  have hE := hE.step hbi
  clear hbi ho20 hb20
  obtain ⟨hw, hz⟩ : Bx _ (65536) s2 A2 n2 c2 _ := hE.here.1.1.1.1.1.1.1.2
  obtain ⟨p0, p1⟩ := hw.cells
  clear hw
  go_wp2_with fail
  refine (is_v (65536) hz (by decide) (by decide)).mono ?_
  rintro e w23 ⟨rfl, hbi⟩
  have hE := hE.step hbi
  clear hbi p0 p1 hz
  obtain ⟨hw, hz⟩ : Bx _ (-4) s5 A5 n5 c5 _ := hE.here.1.1.1.1.1.1.2
  obtain ⟨p0, p1⟩ := hw.cells
  clear hw
  go_wp2_with fail
  refine (is_v (-4) hz (by decide) (by decide)).mono ?_
  rintro e w24 ⟨rfl, hbi⟩
  have hE := hE.step hbi
  clear hbi p0 p1 hz
  obtain ⟨hw, hz⟩ : Bx _ (-1) s6 A6 n6 c6 _ := hE.here.1.1.1.1.1.2
  obtain ⟨p0, p1⟩ := hw.cells
  clear hw
  go_wp2_with fail
  refine (is_v (-1) hz (by decide) (by decide)).mono ?_
  rintro e w25 ⟨rfl, hbi⟩
  have hE := hE.step hbi
  clear hbi p0 p1 hz
  obtain ⟨hw, hz⟩ : Bx _ (-4) s9 A9 n9 c9 _ := hE.here.1.1.1.1.2
  obtain ⟨p0, p1⟩ := hw.cells
  clear hw
  go_wp2_with fail
  refine (is_v (-4) hz (by decide) (by decide)).mono ?_
  rintro e w26 ⟨rfl, hbi⟩
  have hE := hE.step hbi
  clear hbi p0 p1 hz
  obtain ⟨hw, hz⟩ : Bx _ (1) s10 A10 n10 c10 _ := hE.here.1.1.1.2
  obtain ⟨p0, p1⟩ := hw.cells
  clear hw
  go_wp2_with fail
  refine (is_v (1) hz (by decide) (by decide)).mono ?_
  rintro e w27 ⟨rfl, hbi⟩
  have hE := hE.step hbi
  clear hbi p0 p1 hz
  obtain ⟨hw, hz⟩ : Bx _ (3) s13 A13 n13 c13 _ := hE.here.1.1.2
  obtain ⟨p0, p1⟩ := hw.cells
  clear hw
  go_wp2_with fail
  refine (is_v (3) hz (by decide) (by decide)).mono ?_
  rintro e w28 ⟨rfl, hbi⟩
  have hE := hE.step hbi
  clear hbi p0 p1 hz
  obtain ⟨hw, hz⟩ : Bx _ (-1) s14 A14 n14 c14 _ := hE.here.1.2
  obtain ⟨p0, p1⟩ := hw.cells
  clear hw
  go_wp2_with fail
  refine (is_v (-1) hz (by decide) (by decide)).mono ?_
  rintro e w29 ⟨rfl, hbi⟩
  have hE := hE.step hbi
  clear hbi p0 p1 hz
  obtain ⟨hw, hz⟩ : Bx _ (6) s17 A17 n17 c17 _ := hE.here.2
  obtain ⟨p0, p1⟩ := hw.cells
  clear hw
  go_wp2_with fail
  refine (is_v (6) hz (by decide) (by decide)).mono ?_
  rintro e w30 ⟨rfl, hbi⟩
  have hE := hE.step hbi
  clear hbi p0 p1 hz
  go_wp2_with fail
  go_ret
  exact ⟨rfl, hE.bel⟩
end Go.Proofs.YtafglggjncnkkaaDoor
/-! The walk of the laws' usable. -/
namespace Go.Proofs.YtafglggjncnkkaaDoor
open Go.RowKit

/-- n numbers in a row of memory, of any length. -/
def NumsL (w : World) (b : Nat) (n : Nat) (s : Nat → Bool) (A : Nat → Option Addr) (m c : Nat → Nat) (f : Nat → Nat → Nat) : Prop :=
  ∀ i, i < n → w.cell? ⟨b, i * 2, none⟩ = some (.bool (s i)) ∧ w.cell? ⟨b, i * 2 + 1, none⟩ = some (.slice (A i) (m i) (c i)) ∧ Rd w.heap.size .u16 w (A i) (m i) (f i) ∧ (∀ j, j < m i → f i j < 65536)
def useOK (most : Nat) (s : Bool) (n : Nat) (f : Nat → Nat) : Bool := decide (n ≤ most) && okW s n f
set_option maxRecDepth 100000 in
set_option maxHeartbeats 1000000 in
theorem usable_any (most b n : Nat) (s : Nat → Bool) (A : Nat → Option Addr) (m c : Nat → Nat) (f : Nat → Nat → Nat) (w : World) (h : NumsL w b n s A m c f) (hb : b < w.heap.size) (hn : n ≤ 1000) (hmost : most ≤ 1000000) :
    Calls Tryd.prog 13 #[.int .i64 (most : Int), .slice (some ⟨b, 0, none⟩) n n] w fun e w' => e = .returned (.bool (okAll (fun i => useOK most (s i) (m i) (f i)) n)) ∧ Below w.heap.size w w' := by
  go_enter Tryd.func13, Tryd.ntmps13
  go_wp2_with fail
  go_loopw [5] (fun i wr => ∃ k : Nat, k ≤ n ∧ i = .int .i64 (k : Int) ∧ Hid (okAll (fun i => useOK most (s i) (m i) (f i)) k = true) ∧ Below w.heap.size w wr) (fun i _ => n - (intOf i).toNat)
  case atStart => exact ⟨0, Nat.zero_le _, rfl, Lib.hid rfl, Below.refl _ _⟩
  case round =>
    obtain ⟨k, hk, rfl, hok, hbel⟩ := hrel
    by_cases hlt : k < n
    · obtain ⟨c1, c2, hrd, hf⟩ := h k hlt
      have d1 := (hbel.cell (p := ⟨b, k * 2, none⟩) hb).trans c1
      have d2 := (hbel.cell (p := ⟨b, k * 2 + 1, none⟩) hb).trans c2
      by_cases hm : m k ≤ most
      · have tm : ¬ ((most : Int) < ((m k : Nat) : Int)) := by omega
        have hv := fun w' (hw' : Below w.heap.size w w') => valid_any (s k) (A k) (m k) (c k) (f k) w' ((hrd.below hw').more hw'.size) hf (by omega)
        have HV := Lib.hid hv
        clear hv c1 c2 h hf
        go_wp2_with fail
        refine (HV.out _ hbel).mono ?_
        rintro e w2 ⟨rfl, hb2⟩
        have hbel2 := hbel.trans (hb2.mono hbel.size)
        cases ho : okW (s k) (m k) (f k)
        · have hfin := okAll_false (ok := fun i => useOK most (s i) (m i) (f i)) hlt (by show useOK most (s k) (m k) (f k) = false; unfold useOK; rw [ho, Bool.and_false])
          have HF := Lib.hid hfin
          clear hfin ho
          go_wp2_with fail
          go_ret
          exact ⟨ret_bool HF.out.symm, hbel2⟩
        · have hfin : okAll (fun i => useOK most (s i) (m i) (f i)) (k + 1) = true := by
            simp only [okAll]
            rw [hok.out, Bool.true_and]
            unfold useOK
            rw [ho, decide_eq_true hm]; rfl
          have HF := Lib.hid hfin
          clear hfin ho
          go_wp2_with fail
          go_roundw
          case rel => exact ⟨k + 1, by omega, by go_num, HF, hbel2⟩
          case measure => simp [intOf]; omega
      · have tm : ((most : Int) < ((m k : Nat) : Int)) := by omega
        have hfin := okAll_false (ok := fun i => useOK most (s i) (m i) (f i)) hlt (by show useOK most (s k) (m k) (f k) = false; unfold useOK; rw [decide_eq_false hm, Bool.false_and])
        have HF := Lib.hid hfin
        clear hfin c1 c2 h hf hrd
        go_wp2_with fail
        go_ret
        exact ⟨ret_bool HF.out.symm, hbel⟩
    · obtain rfl : k = n := by omega
      clear h
      go_wp2_with fail
      go_ret
      exact ⟨ret_bool hok.out.symm, hbel⟩

theorem Env.cons {w : World} {P Q : World → Prop} {W : World} (h : Env w P W) (hs : Stable Q) (hq : Q W) : Env w (fun W => Q W ∧ P W) W :=
  ⟨h.bel, fun A B hb hp => ⟨hs A B hb hp.1, h.st A B hb hp.2⟩, hq, h.here⟩
theorem Env.stepTo {w W : World} (_ : Env w (fun _ => True) w) (hb : Below w.heap.size w W) : Env w (fun _ => True) W := ⟨hb, fun _ _ _ h => h, trivial⟩
theorem le_len {W : World} {z : Int} {s : Bool} {A : Option Addr} {n k : Nat} (h : WV W z s A n) (hz : ln b16 z.natAbs ≤ k) : n ≤ k := by rw [h.len]; exact hz
theorem law_equal_t {a b : Int} {s t : Bool} {A B : Option Addr} {n m c d : Nat} {w : World} (ha : WV w a s A n) (hb : WV w b t B m) (la : n ≤ 1024) (lb : m ≤ 1024) (h : a = b) :
    Calls Tryd.prog 18 #[.agg #[.bool s, .slice A n c], .agg #[.bool t, .slice B m d]] w fun e w' => e = .returned (.bool true) ∧ Below w.heap.size w w' := by
  have h1 := law_equal (c := c) (d := d) ha hb la lb
  rw [decide_eq_true h] at h1
  exact h1
theorem WholeAt.stable (g : Nat) (s : Bool) (v : Value) : Stable (fun W => WholeAt W g s v) := fun _ _ hb h => h.below hb h.lt
/-- The boxes of three arguments. -/
def Three (g : Nat) (s1 s2 s3 : Bool) (A1 A2 A3 : Option Addr) (n1 n2 n3 c1 c2 c3 : Nat) (W : World) : Prop :=
  WholeAt W g s1 (.slice A1 n1 c1) ∧ WholeAt W (g + 1) s2 (.slice A2 n2 c2) ∧ WholeAt W (g + 1 + 1) s3 (.slice A3 n3 c3)
/-- The boxes of three arguments that are numbers. -/
def Tri (g : Nat) (a b c : Int) (s1 s2 s3 : Bool) (A1 A2 A3 : Option Addr) (n1 n2 n3 c1 c2 c3 : Nat) (W : World) : Prop :=
  Bx g a s1 A1 n1 c1 W ∧ Bx (g + 1) b s2 A2 n2 c2 W ∧ Bx (g + 1 + 1) c s3 A3 n3 c3 W
def Two0 (g : Nat) (s1 s2 : Bool) (A1 A2 : Option Addr) (n1 n2 c1 c2 : Nat) (W : World) : Prop :=
  WholeAt W g s1 (.slice A1 n1 c1) ∧ WholeAt W (g + 1) s2 (.slice A2 n2 c2)
def Duo (g : Nat) (a b : Int) (s1 s2 : Bool) (A1 A2 : Option Addr) (n1 n2 c1 c2 : Nat) (W : World) : Prop :=
  Bx g a s1 A1 n1 c1 W ∧ Bx (g + 1) b s2 A2 n2 c2 W
section
variable {g : Nat} {a b c : Int} {s1 s2 s3 : Bool} {A1 A2 A3 : Option Addr} {n1 n2 n3 c1 c2 c3 : Nat} {w W : World}
theorem Three.stable : Stable (Three g s1 s2 s3 A1 A2 A3 n1 n2 n3 c1 c2 c3) := fun _ _ hb ⟨h1, h2, h3⟩ => ⟨h1.below hb h1.lt, h2.below hb h2.lt, h3.below hb h3.lt⟩
theorem Two0.stable : Stable (Two0 g s1 s2 A1 A2 n1 n2 c1 c2) := fun _ _ hb ⟨h1, h2⟩ => ⟨h1.below hb h1.lt, h2.below hb h2.lt⟩
theorem Tri.stable : Stable (Tri g a b c s1 s2 s3 A1 A2 A3 n1 n2 n3 c1 c2 c3) := fun A B hb ⟨h1, h2, h3⟩ => ⟨Bx.stable _ _ _ _ _ _ A B hb h1, Bx.stable _ _ _ _ _ _ A B hb h2, Bx.stable _ _ _ _ _ _ A B hb h3⟩
theorem Duo.stable : Stable (Duo g a b s1 s2 A1 A2 n1 n2 c1 c2) := fun A B hb ⟨h1, h2⟩ => ⟨Bx.stable _ _ _ _ _ _ A B hb h1, Bx.stable _ _ _ _ _ _ A B hb h2⟩
theorem Three.cells (h : Three g s1 s2 s3 A1 A2 A3 n1 n2 n3 c1 c2 c3 W) : W.cell? ⟨g, 0, none⟩ = some (.bool s1) ∧ W.cell? ⟨g, 1, none⟩ = some (.slice A1 n1 c1) ∧ W.cell? ⟨g + 1, 0, none⟩ = some (.bool s2) ∧ W.cell? ⟨g + 1, 1, none⟩ = some (.slice A2 n2 c2) ∧
    W.cell? ⟨g + 1 + 1, 0, none⟩ = some (.bool s3) ∧ W.cell? ⟨g + 1 + 1, 1, none⟩ = some (.slice A3 n3 c3) := ⟨h.1.cells.1, h.1.cells.2, h.2.1.cells.1, h.2.1.cells.2, h.2.2.cells.1, h.2.2.cells.2⟩
theorem Two0.cells (h : Two0 g s1 s2 A1 A2 n1 n2 c1 c2 W) : W.cell? ⟨g, 0, none⟩ = some (.bool s1) ∧ W.cell? ⟨g, 1, none⟩ = some (.slice A1 n1 c1) ∧ W.cell? ⟨g + 1, 0, none⟩ = some (.bool s2) ∧ W.cell? ⟨g + 1, 1, none⟩ = some (.slice A2 n2 c2) :=
  ⟨h.1.cells.1, h.1.cells.2, h.2.cells.1, h.2.cells.2⟩
theorem Tri.cells (h : Env w (Tri g a b c s1 s2 s3 A1 A2 A3 n1 n2 n3 c1 c2 c3) W) : W.cell? ⟨g, 0, none⟩ = some (.bool s1) ∧ W.cell? ⟨g, 1, none⟩ = some (.slice A1 n1 c1) ∧ W.cell? ⟨g + 1, 0, none⟩ = some (.bool s2) ∧ W.cell? ⟨g + 1, 1, none⟩ = some (.slice A2 n2 c2) ∧
    W.cell? ⟨g + 1 + 1, 0, none⟩ = some (.bool s3) ∧ W.cell? ⟨g + 1 + 1, 1, none⟩ = some (.slice A3 n3 c3) ∧ Env w (Tri g a b c s1 s2 s3 A1 A2 A3 n1 n2 n3 c1 c2 c3) W :=
  ⟨h.here.1.1.cells.1, h.here.1.1.cells.2, h.here.2.1.1.cells.1, h.here.2.1.1.cells.2, h.here.2.2.1.cells.1, h.here.2.2.1.cells.2, h⟩
theorem Duo.cells (h : Env w (Duo g a b s1 s2 A1 A2 n1 n2 c1 c2) W) : W.cell? ⟨g, 0, none⟩ = some (.bool s1) ∧ W.cell? ⟨g, 1, none⟩ = some (.slice A1 n1 c1) ∧ W.cell? ⟨g + 1, 0, none⟩ = some (.bool s2) ∧ W.cell? ⟨g + 1, 1, none⟩ = some (.slice A2 n2 c2) ∧
    Env w (Duo g a b s1 s2 A1 A2 n1 n2 c1 c2) W :=
  ⟨h.here.1.1.cells.1, h.here.1.1.cells.2, h.here.2.1.cells.1, h.here.2.1.cells.2, h⟩
theorem Three.tri (h : Env w (Three g s1 s2 s3 A1 A2 A3 n1 n2 n3 c1 c2 c3) W) (ha : WV w a s1 A1 n1) (hb : WV w b s2 A2 n2) (hc : WV w c s3 A3 n3) : Env w (Tri g a b c s1 s2 s3 A1 A2 A3 n1 n2 n3 c1 c2 c3) W :=
  ⟨h.bel, Tri.stable, ⟨h.here.1, ha.below h.bel⟩, ⟨h.here.2.1, hb.below h.bel⟩, ⟨h.here.2.2, hc.below h.bel⟩⟩
theorem Two0.duo (h : Env w (Two0 g s1 s2 A1 A2 n1 n2 c1 c2) W) (ha : WV w a s1 A1 n1) (hb : WV w b s2 A2 n2) : Env w (Duo g a b s1 s2 A1 A2 n1 n2 c1 c2) W :=
  ⟨h.bel, Duo.stable, ⟨h.here.1, ha.below h.bel⟩, ⟨h.here.2, hb.below h.bel⟩⟩
end
theorem Env.two (w : World) (s1 s2 : Bool) (A1 A2 : Option Addr) (n1 n2 c1 c2 : Nat) :
    Env w (Two0 w.heap.size s1 s2 A1 A2 n1 n2 c1 c2) ((w.alloc (.cells #[.bool s1, .slice A1 n1 c1] 24)).alloc (.cells #[.bool s2, .slice A2 n2 c2] 24)) :=
  have hT := TwoP.start w s1 s2 A1 A2 n1 n2 c1 c2
  ⟨hT.bel, Two0.stable, hT.p0, hT.p1⟩
theorem Env.three (w : World) (s1 s2 s3 : Bool) (A1 A2 A3 : Option Addr) (n1 n2 n3 c1 c2 c3 : Nat) :
    Env w (Three w.heap.size s1 s2 s3 A1 A2 A3 n1 n2 n3 c1 c2 c3) (((w.alloc (.cells #[.bool s1, .slice A1 n1 c1] 24)).alloc (.cells #[.bool s2, .slice A2 n2 c2] 24)).alloc (.cells #[.bool s3, .slice A3 n3 c3] 24)) := by
  have hT := TwoP.start w s1 s2 A1 A2 n1 n2 c1 c2
  have h3 := WholeAt.new ((w.alloc (.cells #[.bool s1, .slice A1 n1 c1] 24)).alloc (.cells #[.bool s2, .slice A2 n2 c2] 24)) s3 (.slice A3 n3 c3)
  simp only [World.size_alloc] at h3
  exact ⟨hT.bel.alloc hT.bel.size _, Three.stable, hT.p0.alloc' _, hT.p1.alloc' _, h3⟩
theorem usable_three (most : Nat) (s1 s2 s3 : Bool) (A1 A2 A3 : Option Addr) (n1 n2 n3 c1 c2 c3 : Nat) (f1 f2 f3 : Nat → Nat) (W : World) (r1 : Rd W.heap.size .u16 W A1 n1 f1) (r2 : Rd W.heap.size .u16 W A2 n2 f2) (r3 : Rd W.heap.size .u16 W A3 n3 f3)
    (q1 : ∀ j, j < n1 → f1 j < 65536) (q2 : ∀ j, j < n2 → f2 j < 65536) (q3 : ∀ j, j < n3 → f3 j < 65536) (hmost : most ≤ 1000000) :
    Calls Tryd.prog 13 #[.int .i64 (most : Int), .slice (some ⟨W.heap.size, 0, none⟩) 3 3] (W.alloc (.cells #[.bool s1, .slice A1 n1 c1, .bool s2, .slice A2 n2 c2, .bool s3, .slice A3 n3 c3] 24))
      fun e w' => e = .returned (.bool ((useOK most s1 n1 f1 && useOK most s2 n2 f2) && useOK most s3 n3 f3)) ∧
        Below (W.alloc (.cells #[.bool s1, .slice A1 n1 c1, .bool s2, .slice A2 n2 c2, .bool s3, .slice A3 n3 c3] 24)).heap.size (W.alloc (.cells #[.bool s1, .slice A1 n1 c1, .bool s2, .slice A2 n2 c2, .bool s3, .slice A3 n3 c3] 24)) w' := by
  have hb : Below W.heap.size W (W.alloc (.cells #[.bool s1, .slice A1 n1 c1, .bool s2, .slice A2 n2 c2, .bool s3, .slice A3 n3 c3] 24)) := (Below.refl _ W).alloc (Nat.le_refl _) _
  have hg := heap_alloc_new W (.cells #[.bool s1, .slice A1 n1 c1, .bool s2, .slice A2 n2 c2, .bool s3, .slice A3 n3 c3] 24)
  refine (usable_any most W.heap.size 3 (fun i => match i with | 0 => s1 | 1 => s2 | _ => s3) (fun i => match i with | 0 => A1 | 1 => A2 | _ => A3) (fun i => match i with | 0 => n1 | 1 => n2 | _ => n3) (fun i => match i with | 0 => c1 | 1 => c2 | _ => c3) (fun i => match i with | 0 => f1 | 1 => f2 | _ => f3) _ ?_ (by simp) (by omega) hmost).mono ?_
  · intro i hi
    match i, hi with
    | 0, _ => exact ⟨(cell_of_row _ _ 0 _ _ (0, 0) hg).trans rfl, (cell_of_row _ _ 1 _ _ (0, 0) hg).trans rfl, (r1.below hb).more hb.size, q1⟩
    | 1, _ => exact ⟨(cell_of_row _ _ 2 _ _ (0, 0) hg).trans rfl, (cell_of_row _ _ 3 _ _ (0, 0) hg).trans rfl, (r2.below hb).more hb.size, q2⟩
    | 2, _ => exact ⟨(cell_of_row _ _ 4 _ _ (0, 0) hg).trans rfl, (cell_of_row _ _ 5 _ _ (0, 0) hg).trans rfl, (r3.below hb).more hb.size, q3⟩
  · rintro e w' ⟨rfl, h⟩
    exact ⟨ret_bool (by simp [okAll]), h⟩
theorem usable_two (most : Nat) (s1 s2 : Bool) (A1 A2 : Option Addr) (n1 n2 c1 c2 : Nat) (f1 f2 : Nat → Nat) (W : World) (r1 : Rd W.heap.size .u16 W A1 n1 f1) (r2 : Rd W.heap.size .u16 W A2 n2 f2)
    (q1 : ∀ j, j < n1 → f1 j < 65536) (q2 : ∀ j, j < n2 → f2 j < 65536) (hmost : most ≤ 1000000) :
    Calls Tryd.prog 13 #[.int .i64 (most : Int), .slice (some ⟨W.heap.size, 0, none⟩) 2 2] (W.alloc (.cells #[.bool s1, .slice A1 n1 c1, .bool s2, .slice A2 n2 c2] 24))
      fun e w' => e = .returned (.bool (useOK most s1 n1 f1 && useOK most s2 n2 f2)) ∧
        Below (W.alloc (.cells #[.bool s1, .slice A1 n1 c1, .bool s2, .slice A2 n2 c2] 24)).heap.size (W.alloc (.cells #[.bool s1, .slice A1 n1 c1, .bool s2, .slice A2 n2 c2] 24)) w' := by
  have hb : Below W.heap.size W (W.alloc (.cells #[.bool s1, .slice A1 n1 c1, .bool s2, .slice A2 n2 c2] 24)) := (Below.refl _ W).alloc (Nat.le_refl _) _
  have hg := heap_alloc_new W (.cells #[.bool s1, .slice A1 n1 c1, .bool s2, .slice A2 n2 c2] 24)
  refine (usable_any most W.heap.size 2 (fun i => match i with | 0 => s1 | _ => s2) (fun i => match i with | 0 => A1 | _ => A2) (fun i => match i with | 0 => n1 | _ => n2) (fun i => match i with | 0 => c1 | _ => c2) (fun i => match i with | 0 => f1 | _ => f2) _ ?_ (by simp) (by omega) hmost).mono ?_
  · intro i hi
    match i, hi with
    | 0, _ => exact ⟨(cell_of_row _ _ 0 _ _ (0, 0) hg).trans rfl, (cell_of_row _ _ 1 _ _ (0, 0) hg).trans rfl, (r1.below hb).more hb.size, q1⟩
    | 1, _ => exact ⟨(cell_of_row _ _ 2 _ _ (0, 0) hg).trans rfl, (cell_of_row _ _ 3 _ _ (0, 0) hg).trans rfl, (r2.below hb).more hb.size, q2⟩
  · rintro e w' ⟨rfl, h⟩
    exact ⟨ret_bool (by simp [okAll]), h⟩
/-- A valid number is a number. -/
theorem WV.of_ok {w : World} {s : Bool} {A : Option Addr} {n : Nat} {f : Nat → Nat} (h : Rd w.heap.size .u16 w A n f) (hf : ∀ j, j < n → f j < 65536) (hok : okW s n f = true) : ∃ z, WV w z s A n := by
  have hx : vs b16 f n < b16 ^ n := vs_lt hf
  have hl : ln b16 (vs b16 f n) = n := by
    refine ln_vs b16_two hf ?_
    rcases Nat.eq_zero_or_pos n with h0 | h0
    · exact .inl h0
    · refine .inr ?_
      unfold okW at hok
      rw [if_neg (by omega)] at hok
      simpa using (Bool.and_eq_true_iff.1 hok).2
  refine ⟨toI s (vs b16 f n), ?_, ?_, ?_⟩
  · rw [toI_neg]
    rcases Nat.eq_zero_or_pos n with h0 | h0
    · subst h0
      unfold okW at hok
      rw [if_pos rfl] at hok
      have : s = false := by simpa using hok
      rw [this]; rfl
    · have : 0 < vs b16 f n := (ln_pos b16_two).1 (by omega)
      simp [this]
  · rw [toI_abs, hl]
  · rw [toI_abs]
    unfold Num16
    rw [hl]
    exact h.congr fun i hi => (dgt_vs hf hi).symm
theorem WV.of_use {w : World} {s : Bool} {A : Option Addr} {n most : Nat} {f : Nat → Nat} (h : Rd w.heap.size .u16 w A n f) (hf : ∀ j, j < n → f j < 65536) (hok : useOK most s n f = true) : ∃ z, WV w z s A n ∧ ln b16 z.natAbs ≤ most := by
  unfold useOK at hok
  obtain ⟨h1, h2⟩ := Bool.and_eq_true_iff.1 hok
  obtain ⟨z, hz⟩ := WV.of_ok h hf h2
  exact ⟨z, hz, by rw [← hz.len]; simpa using h1⟩
end Go.Proofs.YtafglggjncnkkaaDoor
