/-
  Several texts in one: Whole numbers as values: the contracts of the functions of whole and of the laws' helpers, for callers that hold numbers. Blocks that are known whole; numbers and fractions in memory are kept where such a block is written. Blocks that are made ahead of the calls that give their values; the boxes of numbers. Fractions in memory; the walks of isOne, opposite, divisor, plus, times and divide of frac. Short words for the facts of a world. The walks of the reference's Valid, fits and Neg. The walk of the reference's Product. whole.Valid at any length; whole.Int at what is no number and at numbers of more than four limbs. The range-function whole.downwards at limbs, and the walk of whole.Int, which ranges over it.
-/
import Derived.Test.YtjgihmmeimfheaaGreatK16
import Derived.Test.YtjgihmmeimfheaaGreatK14
import Derived.Test.YtjgihmmeimfheaaGreatK1
import Derived.Deep.RegionHeld3
import Derived.Deep.CutRange
import Derived.Deep.DrawnRows
import Derived.Test.YtjgihmmeimfheaaGreatK15
import Derived.TacticsInMore
import Derived.RangeFuncNested
import Derived.RangeFuncBound
import Derived.RangeFuncCalls
import Derived.RangeFuncLeaves
import Derived.RangeFuncBox
import Derived.Shelf.Abstract
import Derived.Shelf.RegionOpen
import Derived.OwnWalkIn
import Derived.LoopNIn
import Derived.LoopIn
import Derived.Test.YtjgihmmeimfheaaGreatK9
namespace Go.Proofs.YtjgihmmeimfheaaGreat
open Go.RowKit

/-- Sign, address and length of the number z. -/
def WV (w : World) (z : Int) (s : Bool) (A : Option Addr) (n : Nat) : Prop := s = decide (z < 0) ∧ n = ln b16 z.natAbs ∧ Num16 w A z.natAbs
/-- The same, in memory from block 'base' on. -/
def WO (base : Nat) (w : World) (z : Int) (s : Bool) (A : Option Addr) (n c : Nat) : Prop := s = decide (z < 0) ∧ n = ln b16 z.natAbs ∧ Own16 base w A (ln b16 z.natAbs) c (dgt b16 z.natAbs)
/-- The call returned the number z. -/
def VI (z : Int) (w : World) (e : Ending) (w' : World) : Prop := ∃ s A n c, e = .returned (.agg #[.bool s, .slice A n c]) ∧ WO w.heap.size w' z s A n c ∧ Below w.heap.size w w'
/-- The call returned the number z and no error. -/
def VR (z : Int) (w : World) (e : Ending) (w' : World) : Prop := ∃ s A n c, e = .returned (.tuple #[.agg #[.bool s, .slice A n c], .int .i64 0]) ∧ WO w.heap.size w' z s A n c ∧ Below w.heap.size w w'
/-- The call returned the numbers q and r and no error. -/
def VR2 (q r : Int) (w : World) (e : Ending) (w' : World) : Prop :=
 ∃ s A n c t B m d, e = .returned (.tuple #[.agg #[.bool s, .slice A n c], .agg #[.bool t, .slice B m d], .int .i64 0]) ∧ WO w.heap.size w' q s A n c ∧ WO w.heap.size w' r t B m d ∧ Below w.heap.size w w'
theorem WO.v {base : Nat} {w : World} {z : Int} {s : Bool} {A : Option Addr} {n c : Nat} (h : WO base w z s A n c) : WV w z s A n := ⟨h.1, h.2.1, h.2.2.num⟩
theorem WO.len {base : Nat} {w : World} {z : Int} {s : Bool} {A : Option Addr} {n c : Nat} (h : WO base w z s A n c) : n = ln b16 z.natAbs := h.2.1
theorem WV.len {w : World} {z : Int} {s : Bool} {A : Option Addr} {n : Nat} (h : WV w z s A n) : n = ln b16 z.natAbs := h.2.1
theorem WV.sgn {w : World} {z : Int} {s : Bool} {A : Option Addr} {n : Nat} (h : WV w z s A n) : s = decide (z < 0) := h.1
theorem WV.below {w w' : World} {z : Int} {s : Bool} {A : Option Addr} {n : Nat} (h : WV w z s A n) (hb : Below w.heap.size w w') : WV w' z s A n := ⟨h.1, h.2.1, Num16.below h.2.2 hb⟩
theorem WV.drew {w : World} {z : Int} {s : Bool} {A : Option Addr} {n : Nat} (h : WV w z s A n) : WV w.drew z s A n := h
theorem WO.lower {base base' : Nat} {w : World} {z : Int} {s : Bool} {A : Option Addr} {n c : Nat} (h : WO base w z s A n c) (hb : base' ≤ base) : WO base' w z s A n c := ⟨h.1, h.2.1, h.2.2.lower hb⟩
theorem WO.below {base B : Nat} {w w' : World} {z : Int} {s : Bool} {A : Option Addr} {n c : Nat} (h : WO base w z s A n c) (hb : Below B w w') (hB : w.heap.size ≤ B) : WO base w' z s A n c := ⟨h.1, h.2.1, h.2.2.below hb hB⟩
theorem WO.store {base R : Nat} {w : World} {z : Int} {s : Bool} {A : Option Addr} {n c : Nat} (h : WO base w z s A n c) (hR : R < base) (s' : Bool) (v' : Value) : WO base ((w.setCell ⟨R, 0, none⟩ (.bool s')).setCell ⟨R, 1, none⟩ v') z s A n c :=
 ⟨h.1, h.2.1, store_own h.2.2 hR s' v'⟩
theorem WO.alloc {base : Nat} {w : World} {z : Int} {s : Bool} {A : Option Addr} {n c : Nat} (h : WO base w z s A n c) (o : Obj) : WO base (w.alloc o) z s A n c := ⟨h.1, h.2.1, h.2.2.alloc o⟩
theorem VI.mono {z : Int} {w w1 : World} {e : Ending} {w' : World} (h : VI z w1 e w') (hb : Below w.heap.size w w1) : VI z w e w' := by
 obtain ⟨s, A, n, c, he, ho, hb'⟩ := h
 exact ⟨s, A, n, c, he, ho.lower hb.size, hb.trans (hb'.mono hb.size)⟩
theorem WI.vi {w w' : World} {z : Int} {e : Ending} (h : WI w z e w') : VI z w e w' := by
 obtain ⟨A, c, he, ho, hb⟩ := h
 exact ⟨_, A, _, c, he, ⟨rfl, rfl, ho⟩, hb⟩
theorem RI.vr {w w' : World} {z : Int} {e : Ending} (h : RI w z e w') (hl : ln b16 z.natAbs ≤ 1024) : VR z w e w' := by
 rcases h with ⟨_, A, c, he, ho, hb⟩ | ⟨h1, _⟩
 · exact ⟨_, A, _, c, he, ⟨rfl, rfl, ho⟩, hb⟩
 · omega
theorem ln_addZ {a b : Int} {m : Nat} (ha : ln b16 a.natAbs ≤ m) (hb : ln b16 b.natAbs ≤ m) : ln b16 (a + b).natAbs ≤ m + 1 :=
 Nat.le_trans (ln_mono b16_two (Int.natAbs_add_le a b)) (ln_add b16_two ha hb)
theorem ln_subZ {a b : Int} {m : Nat} (ha : ln b16 a.natAbs ≤ m) (hb : ln b16 b.natAbs ≤ m) : ln b16 (a - b).natAbs ≤ m + 1 := by
 rw [Int.sub_eq_add_neg]
 exact ln_addZ ha (by rw [Int.natAbs_neg]; exact hb)
theorem ln_mulZ {a b : Int} {m n : Nat} (ha : ln b16 a.natAbs ≤ m) (hb : ln b16 b.natAbs ≤ n) : ln b16 (a * b).natAbs ≤ m + n := by
 rw [Int.natAbs_mul]
 exact ln_mul b16_two ha hb
theorem ln_int {z : Int} (h1 : -9223372036854775808 ≤ z) (h2 : z ≤ 9223372036854775807) : ln b16 z.natAbs ≤ 4 := (ln_le b16_two).2 (show z.natAbs < 18446744073709551616 by omega)

section
variable {a b : Int} {s t : Bool} {A B : Option Addr} {n m c d : Nat} {w : World}
theorem divMod_v (ha : WV w a s A n) (hb : WV w b t B m) (la : n ≤ 1024) (lb : m ≤ 1024) (hb0 : b ≠ 0) :
  Calls Tryz.prog 92 #[.agg #[.bool s, .slice A n c], .agg #[.bool t, .slice B m d]] w (VR2 (a.fdiv b) (a.fmod b) w) := by
 obtain ⟨rfl, rfl, hA⟩ := ha
 obtain ⟨rfl, rfl, hB⟩ := hb
 refine (divMod_any a b A B c d w hA hB la lb hb0).mono ?_
 rintro e w' ⟨A', c', B', d', m, he, h1, -, h2, h3, hb⟩
 exact ⟨_, A', _, c', _, B', _, d', he, ⟨rfl, rfl, h1⟩, ⟨rfl, rfl, h3.lower h2⟩, hb⟩
theorem gcd_v (ha : WV w a s A n) (hb : WV w b t B m) (la : n ≤ 1024) (lb : m ≤ 1024) :
  Calls Tryz.prog 123 #[.agg #[.bool s, .slice A n c], .agg #[.bool t, .slice B m d]] w (VR ((Nat.gcd a.natAbs b.natAbs : Nat) : Int) w) := by
 obtain ⟨rfl, rfl, hA⟩ := ha
 obtain ⟨rfl, rfl, hB⟩ := hb
 exact (gcd_any a b A B c d w hA hB la lb).mono fun _ _ h => h.vr (by rw [Int.natAbs_natCast]; exact ln_gcd _ _ _ la lb)
theorem cmp_v (ha : WV w a s A n) (hb : WV w b t B m) (la : n ≤ 1024) (lb : m ≤ 1024) :
  Calls Tryz.prog 47 #[.agg #[.bool s, .slice A n c], .agg #[.bool t, .slice B m d]] w fun e w' => e = .returned (.int .i64 (cmpZ a b)) ∧ Below w.heap.size w w' := by
 obtain ⟨rfl, rfl, hA⟩ := ha
 obtain ⟨rfl, rfl, hB⟩ := hb
 exact cmp_any a b A B c d w hA hB la lb
theorem valid_v (ha : WV w a s A n) (la : n ≤ 1024) : Calls Tryz.prog 55 #[.agg #[.bool s, .slice A n c]] w fun e w' => e = .returned (.bool true) ∧ Below w.heap.size w w' := by
 obtain ⟨rfl, rfl, hA⟩ := ha
 have h := valid_any (decide (a < 0)) A (ln b16 a.natAbs) c (dgt b16 a.natAbs) w hA (fun i _ => dgt16_lt _ i) (by omega)
 rw [okW_num la] at h
 exact h
theorem refSame_v (ha : WV w a s A n) (hb : WV w b t B m) (la : n ≤ 1000000) (lb : m ≤ 1000000) :
  Calls Tryz.prog 70 #[.agg #[.bool s, .slice A n c], .agg #[.bool t, .slice B m d]] w fun e w' => e = .returned (.bool (decide (a = b))) ∧ Below w.heap.size w w' := by
 obtain ⟨rfl, rfl, hA⟩ := ha
 obtain ⟨rfl, rfl, hB⟩ := hb
 have h := refSame_any (decide (a < 0)) (decide (b < 0)) A B (ln b16 a.natAbs) (ln b16 b.natAbs) c d _ _ w hA hB la lb
 rw [sameW_num] at h
 exact h
theorem same_v (ha : WV w a s A n) (hb : WV w b t B m) (la : n ≤ 1000000) (lb : m ≤ 1000000) :
  Calls Tryz.prog 68 #[.agg #[.bool s, .slice A n c], .agg #[.bool t, .slice B m d]] w fun e w' => e = .returned (.bool (decide (a = b))) ∧ Below w.heap.size w w' := by
 obtain ⟨rfl, rfl, hA⟩ := ha
 obtain ⟨rfl, rfl, hB⟩ := hb
 have h := same_any (decide (a < 0)) (decide (b < 0)) A B (ln b16 a.natAbs) (ln b16 b.natAbs) c d _ _ w hA hB la lb
 rw [sameW_num] at h
 exact h
theorem add_v (ha : WV w a s A n) (hb : WV w b t B m) (la : n ≤ 1024) (lb : m ≤ 1024) (lr : ln b16 (a + b).natAbs ≤ 1024) :
  Calls Tryz.prog 90 #[.agg #[.bool s, .slice A n c], .agg #[.bool t, .slice B m d]] w (VR (a + b) w) := by
 obtain ⟨rfl, rfl, hA⟩ := ha
 obtain ⟨rfl, rfl, hB⟩ := hb
 exact (add_any a b A B c d w hA hB la lb).mono fun _ _ h => h.vr lr
theorem mul_v (ha : WV w a s A n) (hb : WV w b t B m) (la : n ≤ 1024) (lb : m ≤ 1024) (lr : ln b16 (a * b).natAbs ≤ 1024) :
  Calls Tryz.prog 88 #[.agg #[.bool s, .slice A n c], .agg #[.bool t, .slice B m d]] w (VR (a * b) w) := by
 obtain ⟨rfl, rfl, hA⟩ := ha
 obtain ⟨rfl, rfl, hB⟩ := hb
 exact (mul_any a b A B c d w hA hB la lb).mono fun _ _ h => h.vr lr
end
end Go.Proofs.YtjgihmmeimfheaaGreat
/-! The walks of the laws' helpers sum, product, less and equal. -/
namespace Go.Proofs.YtjgihmmeimfheaaGreat
open Go.RowKit

section
variable {a b : Int} {s t : Bool} {A B : Option Addr} {n m c d : Nat} {w : World}
end
end Go.Proofs.YtjgihmmeimfheaaGreat
/-! The walk of the laws' awake. -/
namespace Go.Proofs.YtjgihmmeimfheaaGreat
open Go.RowKit

/-- What holds of a world and stays where nothing that lay is touched. -/
def Stable (P : World → Prop) : Prop := ∀ W W', Below W.heap.size W W' → P W → P W'
structure Env (w : World) (P : World → Prop) (W : World) : Prop where
 bel : Below w.heap.size w W
 st : Stable P
 here : P W
theorem Env.start (w : World) : Env w (fun _ => True) w := ⟨Below.refl _ _, fun _ _ _ h => h, trivial⟩
theorem Env.step {w : World} {P : World → Prop} {W W' : World} (h : Env w P W) (hb : Below W.heap.size W W') : Env w P W' := ⟨h.bel.trans (hb.mono h.bel.size), h.st, h.st _ _ hb h.here⟩
theorem Env.alloc {w : World} {P : World → Prop} {W : World} (h : Env w P W) (o : Obj) : Env w P (W.alloc o) := h.step ((Below.refl _ W).alloc (Nat.le_refl _) o)
theorem Env.drew {w : World} {P : World → Prop} {W : World} (h : Env w P W) : Env w P W.drew := h.step (Below.refl _ W).drew
theorem Env.and {w : World} {P Q : World → Prop} {W : World} (h : Env w P W) (hs : Stable Q) (hq : Q W) : Env w (fun W => P W ∧ Q W) W :=
 ⟨h.bel, fun A B hb hp => ⟨h.st A B hb hp.1, hs A B hb hp.2⟩, h.here, hq⟩
/-- A variable that holds the number z. -/
def Bx (g : Nat) (z : Int) (s : Bool) (A : Option Addr) (n c : Nat) (W : World) : Prop := WholeAt W g s (.slice A n c) ∧ WV W z s A n
theorem Bx.stable (g : Nat) (z : Int) (s : Bool) (A : Option Addr) (n c : Nat) : Stable (Bx g z s A n c) := fun _ _ hb ⟨h1, h2⟩ => ⟨h1.below hb h1.lt, h2.below hb⟩
theorem Bx.new {W : World} {z : Int} {s : Bool} {A : Option Addr} {n c : Nat} (h : WV W z s A n) : Bx W.heap.size z s A n c (W.alloc (.cells #[.bool s, .slice A n c] 27)) :=
 ⟨WholeAt.new W s _, h.below ((Below.refl _ W).alloc (Nat.le_refl _) _)⟩
theorem WV.stable (z : Int) (s : Bool) (A : Option Addr) (n : Nat) : Stable (fun W => WV W z s A n) := fun _ _ hb h => h.below hb
theorem add_invalid {b : Int} {t : Bool} {B : Option Addr} {m d : Nat} {w : World} (hb : WV w b t B m) (lb : m ≤ 1024) :
  Calls Tryz.prog 90 #[.agg #[.bool true, .slice none 0 0], .agg #[.bool t, .slice B m d]] w (ErrArgW w) := by
 obtain ⟨rfl, rfl, hB⟩ := hb
 exact add_bad true (decide (b < 0)) none B 0 (ln b16 b.natAbs) 0 d (fun _ => 0) (dgt b16 b.natAbs) w Rd.nil hB (fun _ => by omega) (fun i => dgt16_lt _ i) (by omega) (by omega) rfl
theorem len_small {z : Int} {base : Nat} {w : World} {s : Bool} {A : Option Addr} {n c : Nat} (h : WO base w z s A n c) (h1 : -9223372036854775808 ≤ z) (h2 : z ≤ 9223372036854775807) : n ≤ 1024 := by
 rw [h.len]; exact Nat.le_trans (ln_int h1 h2) (by decide)
theorem ln_small1024 {z : Int} (h1 : -9223372036854775808 ≤ z) (h2 : z ≤ 9223372036854775807) : ln b16 z.natAbs ≤ 1024 := Nat.le_trans (ln_int h1 h2) (by decide)
end Go.Proofs.YtjgihmmeimfheaaGreat
/-! The walk of the laws' usable. -/
namespace Go.Proofs.YtjgihmmeimfheaaGreat
open Go.RowKit

/-- n numbers in a row of memory, of any length. -/
def NumsL (w : World) (b : Nat) (n : Nat) (s : Nat → Bool) (A : Nat → Option Addr) (m c : Nat → Nat) (f : Nat → Nat → Nat) : Prop :=
 ∀ i, i < n → w.cell? ⟨b, i * 2, none⟩ = some (.bool (s i)) ∧ w.cell? ⟨b, i * 2 + 1, none⟩ = some (.slice (A i) (m i) (c i)) ∧ Rd w.heap.size .u16 w (A i) (m i) (f i) ∧ (∀ j, j < m i → f i j < 65536)
def useOK (most : Nat) (s : Bool) (n : Nat) (f : Nat → Nat) : Bool := decide (n ≤ most) && okW s n f
theorem Env.cons {w : World} {P Q : World → Prop} {W : World} (h : Env w P W) (hs : Stable Q) (hq : Q W) : Env w (fun W => Q W ∧ P W) W :=
 ⟨h.bel, fun A B hb hp => ⟨hs A B hb hp.1, h.st A B hb hp.2⟩, hq, h.here⟩
theorem Env.stepTo {w W : World} (_ : Env w (fun _ => True) w) (hb : Below w.heap.size w W) : Env w (fun _ => True) W := ⟨hb, fun _ _ _ h => h, trivial⟩
theorem le_len {W : World} {z : Int} {s : Bool} {A : Option Addr} {n k : Nat} (h : WV W z s A n) (hz : ln b16 z.natAbs ≤ k) : n ≤ k := by rw [h.len]; exact hz
theorem WholeAt.stable (g : Nat) (s : Bool) (v : Value) : Stable (fun W => WholeAt W g s v) := fun _ _ hb h => h.below hb h.lt
/-- The boxes of three arguments. -/
def Three (g : Nat) (s1 s2 s3 : Bool) (A1 A2 A3 : Option Addr) (n1 n2 n3 c1 c2 c3 : Nat) (W : World) : Prop :=
 WholeAt W g s1 (.slice A1 n1 c1) ∧ WholeAt W (g + 1) s2 (.slice A2 n2 c2) ∧ WholeAt W (g + 1 + 1) s3 (.slice A3 n3 c3)
/-- The boxes of three arguments that are numbers. -/
def Tri (g : Nat) (a b c : Int) (s1 s2 s3 : Bool) (A1 A2 A3 : Option Addr) (n1 n2 n3 c1 c2 c3 : Nat) (W : World) : Prop :=
 Bx g a s1 A1 n1 c1 W ∧ Bx (g + 1) b s2 A2 n2 c2 W ∧ Bx (g + 1 + 1) c s3 A3 n3 c3 W
def Two0 (g : Nat) (s1 s2 : Bool) (A1 A2 : Option Addr) (n1 n2 c1 c2 : Nat) (W : World) : Prop :=
 WholeAt W g s1 (.slice A1 n1 c1) ∧ WholeAt W (g + 1) s2 (.slice A2 n2 c2)
def Duo (g : Nat) (a b : Int) (s1 s2 : Bool) (A1 A2 : Option Addr) (n1 n2 c1 c2 : Nat) (W : World) : Prop :=
 Bx g a s1 A1 n1 c1 W ∧ Bx (g + 1) b s2 A2 n2 c2 W
section
variable {g : Nat} {a b c : Int} {s1 s2 s3 : Bool} {A1 A2 A3 : Option Addr} {n1 n2 n3 c1 c2 c3 : Nat} {w W : World}
theorem Three.stable : Stable (Three g s1 s2 s3 A1 A2 A3 n1 n2 n3 c1 c2 c3) := fun _ _ hb ⟨h1, h2, h3⟩ => ⟨h1.below hb h1.lt, h2.below hb h2.lt, h3.below hb h3.lt⟩
theorem Two0.stable : Stable (Two0 g s1 s2 A1 A2 n1 n2 c1 c2) := fun _ _ hb ⟨h1, h2⟩ => ⟨h1.below hb h1.lt, h2.below hb h2.lt⟩
theorem Tri.stable : Stable (Tri g a b c s1 s2 s3 A1 A2 A3 n1 n2 n3 c1 c2 c3) := fun A B hb ⟨h1, h2, h3⟩ => ⟨Bx.stable _ _ _ _ _ _ A B hb h1, Bx.stable _ _ _ _ _ _ A B hb h2, Bx.stable _ _ _ _ _ _ A B hb h3⟩
theorem Duo.stable : Stable (Duo g a b s1 s2 A1 A2 n1 n2 c1 c2) := fun A B hb ⟨h1, h2⟩ => ⟨Bx.stable _ _ _ _ _ _ A B hb h1, Bx.stable _ _ _ _ _ _ A B hb h2⟩
theorem Three.cells (h : Three g s1 s2 s3 A1 A2 A3 n1 n2 n3 c1 c2 c3 W) : W.cell? ⟨g, 0, none⟩ = some (.bool s1) ∧ W.cell? ⟨g, 1, none⟩ = some (.slice A1 n1 c1) ∧ W.cell? ⟨g + 1, 0, none⟩ = some (.bool s2) ∧ W.cell? ⟨g + 1, 1, none⟩ = some (.slice A2 n2 c2) ∧
  W.cell? ⟨g + 1 + 1, 0, none⟩ = some (.bool s3) ∧ W.cell? ⟨g + 1 + 1, 1, none⟩ = some (.slice A3 n3 c3) := ⟨h.1.cells.1, h.1.cells.2, h.2.1.cells.1, h.2.1.cells.2, h.2.2.cells.1, h.2.2.cells.2⟩
theorem Two0.cells (h : Two0 g s1 s2 A1 A2 n1 n2 c1 c2 W) : W.cell? ⟨g, 0, none⟩ = some (.bool s1) ∧ W.cell? ⟨g, 1, none⟩ = some (.slice A1 n1 c1) ∧ W.cell? ⟨g + 1, 0, none⟩ = some (.bool s2) ∧ W.cell? ⟨g + 1, 1, none⟩ = some (.slice A2 n2 c2) :=
 ⟨h.1.cells.1, h.1.cells.2, h.2.cells.1, h.2.cells.2⟩
theorem Tri.cells (h : Env w (Tri g a b c s1 s2 s3 A1 A2 A3 n1 n2 n3 c1 c2 c3) W) : W.cell? ⟨g, 0, none⟩ = some (.bool s1) ∧ W.cell? ⟨g, 1, none⟩ = some (.slice A1 n1 c1) ∧ W.cell? ⟨g + 1, 0, none⟩ = some (.bool s2) ∧ W.cell? ⟨g + 1, 1, none⟩ = some (.slice A2 n2 c2) ∧
  W.cell? ⟨g + 1 + 1, 0, none⟩ = some (.bool s3) ∧ W.cell? ⟨g + 1 + 1, 1, none⟩ = some (.slice A3 n3 c3) ∧ Env w (Tri g a b c s1 s2 s3 A1 A2 A3 n1 n2 n3 c1 c2 c3) W :=
 ⟨h.here.1.1.cells.1, h.here.1.1.cells.2, h.here.2.1.1.cells.1, h.here.2.1.1.cells.2, h.here.2.2.1.cells.1, h.here.2.2.1.cells.2, h⟩
theorem Duo.cells (h : Env w (Duo g a b s1 s2 A1 A2 n1 n2 c1 c2) W) : W.cell? ⟨g, 0, none⟩ = some (.bool s1) ∧ W.cell? ⟨g, 1, none⟩ = some (.slice A1 n1 c1) ∧ W.cell? ⟨g + 1, 0, none⟩ = some (.bool s2) ∧ W.cell? ⟨g + 1, 1, none⟩ = some (.slice A2 n2 c2) ∧
  Env w (Duo g a b s1 s2 A1 A2 n1 n2 c1 c2) W :=
 ⟨h.here.1.1.cells.1, h.here.1.1.cells.2, h.here.2.1.cells.1, h.here.2.1.cells.2, h⟩
theorem Three.tri (h : Env w (Three g s1 s2 s3 A1 A2 A3 n1 n2 n3 c1 c2 c3) W) (ha : WV w a s1 A1 n1) (hb : WV w b s2 A2 n2) (hc : WV w c s3 A3 n3) : Env w (Tri g a b c s1 s2 s3 A1 A2 A3 n1 n2 n3 c1 c2 c3) W :=
 ⟨h.bel, Tri.stable, ⟨h.here.1, ha.below h.bel⟩, ⟨h.here.2.1, hb.below h.bel⟩, ⟨h.here.2.2, hc.below h.bel⟩⟩
theorem Two0.duo (h : Env w (Two0 g s1 s2 A1 A2 n1 n2 c1 c2) W) (ha : WV w a s1 A1 n1) (hb : WV w b s2 A2 n2) : Env w (Duo g a b s1 s2 A1 A2 n1 n2 c1 c2) W :=
 ⟨h.bel, Duo.stable, ⟨h.here.1, ha.below h.bel⟩, ⟨h.here.2, hb.below h.bel⟩⟩
end
theorem Env.two (w : World) (s1 s2 : Bool) (A1 A2 : Option Addr) (n1 n2 c1 c2 : Nat) :
  Env w (Two0 w.heap.size s1 s2 A1 A2 n1 n2 c1 c2) ((w.alloc (.cells #[.bool s1, .slice A1 n1 c1] 27)).alloc (.cells #[.bool s2, .slice A2 n2 c2] 27)) :=
 have hT := TwoP.start w s1 s2 A1 A2 n1 n2 c1 c2
 ⟨hT.bel, Two0.stable, hT.p0, hT.p1⟩
theorem Env.three (w : World) (s1 s2 s3 : Bool) (A1 A2 A3 : Option Addr) (n1 n2 n3 c1 c2 c3 : Nat) :
  Env w (Three w.heap.size s1 s2 s3 A1 A2 A3 n1 n2 n3 c1 c2 c3) (((w.alloc (.cells #[.bool s1, .slice A1 n1 c1] 27)).alloc (.cells #[.bool s2, .slice A2 n2 c2] 27)).alloc (.cells #[.bool s3, .slice A3 n3 c3] 27)) := by
 have hT := TwoP.start w s1 s2 A1 A2 n1 n2 c1 c2
 have h3 := WholeAt.new ((w.alloc (.cells #[.bool s1, .slice A1 n1 c1] 27)).alloc (.cells #[.bool s2, .slice A2 n2 c2] 27)) s3 (.slice A3 n3 c3)
 simp only [World.size_alloc] at h3
 exact ⟨hT.bel.alloc hT.bel.size _, Three.stable, hT.p0.alloc' _, hT.p1.alloc' _, h3⟩
/-- A valid number is a number. -/
theorem WV.of_ok {w : World} {s : Bool} {A : Option Addr} {n : Nat} {f : Nat → Nat} (h : Rd w.heap.size .u16 w A n f) (hf : ∀ j, j < n → f j < 65536) (hok : okW s n f = true) : ∃ z, WV w z s A n := by
 have hx : vs b16 f n < b16 ^ n := vs_lt hf
 have hl : ln b16 (vs b16 f n) = n := by
  refine ln_vs b16_two hf ?_
  rcases Nat.eq_zero_or_pos n with h0 | h0
  · exact .inl h0
  ·
   refine .inr ?_
   unfold okW at hok
   rw [if_neg (by omega)] at hok
   simpa using (Bool.and_eq_true_iff.1 hok).2
 refine ⟨toI s (vs b16 f n), ?_, ?_, ?_⟩
 ·
  rw [toI_neg]
  rcases Nat.eq_zero_or_pos n with h0 | h0
  ·
   subst h0
   unfold okW at hok
   rw [if_pos rfl] at hok
   have : s = false := by simpa using hok
   rw [this]; rfl
  ·
   have : 0 < vs b16 f n := (ln_pos b16_two).1 (by omega)
   simp [this]
 · rw [toI_abs, hl]
 ·
  rw [toI_abs]
  unfold Num16
  rw [hl]
  exact h.congr fun i hi => (dgt_vs hf hi).symm
theorem WV.of_use {w : World} {s : Bool} {A : Option Addr} {n most : Nat} {f : Nat → Nat} (h : Rd w.heap.size .u16 w A n f) (hf : ∀ j, j < n → f j < 65536) (hok : useOK most s n f = true) : ∃ z, WV w z s A n ∧ ln b16 z.natAbs ≤ most := by
 unfold useOK at hok
 obtain ⟨h1, h2⟩ := Bool.and_eq_true_iff.1 hok
 obtain ⟨z, hz⟩ := WV.of_ok h hf h2
 exact ⟨z, hz, by rw [← hz.len]; simpa using h1⟩
end Go.Proofs.YtjgihmmeimfheaaGreat
namespace Go.Proofs.YtjgihmmeimfheaaGreat
open Go.RowKit

/-- Block g is just the cells cs (type t), none frozen. -/
def Blk (t : TypeId) (g : Nat) (cs : Array Value) (w : World) : Prop := w.heap[g]? = some (.cells cs t (0, 0))
/-- Not a limb. -/
def noLimb : Value → Bool
 | .int .u16 _ => false
 | _ => true
section
variable {w w' : World} {g B : Nat} {t : TypeId} {cs : Array Value}
theorem Blk.lt (h : Blk t g cs w) : g < w.heap.size := heap_lt h
theorem Blk.cell (h : Blk t g cs w) (i : Nat) : w.cell? ⟨g, i, none⟩ = cs[i]? := cell_of_row w g i cs t (0, 0) h
theorem Blk.frozen (h : Blk t g cs w) (i : Nat) : w.frozen? ⟨g, i, none⟩ = false := by
 unfold Blk at h
 simp [World.frozen?, h]
theorem Blk.new (w : World) (t : TypeId) (cs : Array Value) : Blk t w.heap.size cs (w.alloc (.cells cs t)) := heap_alloc_new w _
theorem Blk.below (h : Blk t g cs w) (hb : Below B w w') (hg : g < B) : Blk t g cs w' := (hb.block g hg).trans h
theorem Blk.stable (t : TypeId) (g : Nat) (cs : Array Value) : Stable (Blk t g cs) := fun _ _ hb h => h.below hb h.lt
theorem Blk.set_ (h : Blk t g cs w) (i : Nat) (u : Value) : Blk t g (cs.setIfInBounds i u) (w.setCell ⟨g, i, none⟩ u) := by
 unfold Blk at h ⊢
 simp [World.setCell, Array.getElem?_modify, h]
theorem Blk.far (h : Blk t g cs w) {p : Addr} (hp : g ≠ p.block) (u : Value) : Blk t g cs (w.setCell p u) := (Below.heap_setCell w p u g hp).trans h
theorem Blk.c2 {a b : Value} (h : Blk t g #[a, b] w) : w.cell? ⟨g, 0, none⟩ = some a ∧ w.cell? ⟨g, 1, none⟩ = some b := ⟨h.cell 0, h.cell 1⟩
theorem Blk.c3 {a b c : Value} (h : Blk t g #[a, b, c] w) : w.cell? ⟨g, 0, none⟩ = some a ∧ w.cell? ⟨g, 1, none⟩ = some b ∧ w.cell? ⟨g, 2, none⟩ = some c := ⟨h.cell 0, h.cell 1, h.cell 2⟩
theorem Blk.c4 {a b c d : Value} (h : Blk t g #[a, b, c, d] w) : w.cell? ⟨g, 0, none⟩ = some a ∧ w.cell? ⟨g, 1, none⟩ = some b ∧ w.cell? ⟨g, 2, none⟩ = some c ∧ w.cell? ⟨g, 3, none⟩ = some d := ⟨h.cell 0, h.cell 1, h.cell 2, h.cell 3⟩
theorem Blk.j2 {a b : Value} {R : Prop} (h : Blk t g #[a, b] w) (r : R) : w.cell? ⟨g, 0, none⟩ = some a ∧ w.cell? ⟨g, 1, none⟩ = some b ∧ R := ⟨h.cell 0, h.cell 1, r⟩
theorem Blk.f2 (h : Blk t g cs w) : w.frozen? ⟨g, 0, none⟩ = false ∧ w.frozen? ⟨g, 1, none⟩ = false := ⟨h.frozen 0, h.frozen 1⟩
theorem Blk.j3 {a b c : Value} {R : Prop} (h : Blk t g #[a, b, c] w) (r : R) : w.cell? ⟨g, 0, none⟩ = some a ∧ w.cell? ⟨g, 1, none⟩ = some b ∧ w.cell? ⟨g, 2, none⟩ = some c ∧ R := ⟨h.cell 0, h.cell 1, h.cell 2, r⟩
theorem Blk.f3 (h : Blk t g cs w) : w.frozen? ⟨g, 0, none⟩ = false ∧ w.frozen? ⟨g, 1, none⟩ = false ∧ w.frozen? ⟨g, 2, none⟩ = false := ⟨h.frozen 0, h.frozen 1, h.frozen 2⟩
theorem Blk.j4 {a b c d : Value} {R : Prop} (h : Blk t g #[a, b, c, d] w) (r : R) : w.cell? ⟨g, 0, none⟩ = some a ∧ w.cell? ⟨g, 1, none⟩ = some b ∧ w.cell? ⟨g, 2, none⟩ = some c ∧ w.cell? ⟨g, 3, none⟩ = some d ∧ R := ⟨h.cell 0, h.cell 1, h.cell 2, h.cell 3, r⟩
theorem Blk.f4 (h : Blk t g cs w) : w.frozen? ⟨g, 0, none⟩ = false ∧ w.frozen? ⟨g, 1, none⟩ = false ∧ w.frozen? ⟨g, 2, none⟩ = false ∧ w.frozen? ⟨g, 3, none⟩ = false := ⟨h.frozen 0, h.frozen 1, h.frozen 2, h.frozen 3⟩
theorem Blk.s2 {a b : Value} (h : Blk t g #[a, b] w) (a' b' : Value) : Blk t g #[a', b'] ((w.setCell ⟨g, 0, none⟩ a').setCell ⟨g, 1, none⟩ b') := by
 have := (h.set_ 0 a').set_ 1 b'
 simpa using this
theorem Blk.s4 {a b c d : Value} (h : Blk t g #[a, b, c, d] w) (a' b' c' d' : Value) : Blk t g #[a', b', c', d'] ((((w.setCell ⟨g, 0, none⟩ a').setCell ⟨g, 1, none⟩ b').setCell ⟨g, 2, none⟩ c').setCell ⟨g, 3, none⟩ d') := by
 have := (((h.set_ 0 a').set_ 1 b').set_ 2 c').set_ 3 d'
 simpa using this
theorem Blk.far2 {R : Nat} (h : Blk t g cs w) (hp : g ≠ R) (a b : Value) : Blk t g cs ((w.setCell ⟨R, 0, none⟩ a).setCell ⟨R, 1, none⟩ b) := (h.far (p := ⟨R, 0, none⟩) hp a).far (p := ⟨R, 1, none⟩) hp b
theorem Blk.far4 {R : Nat} (h : Blk t g cs w) (hp : g ≠ R) (a b c d : Value) : Blk t g cs ((((w.setCell ⟨R, 0, none⟩ a).setCell ⟨R, 1, none⟩ b).setCell ⟨R, 2, none⟩ c).setCell ⟨R, 3, none⟩ d) := (h.far2 hp a b).far (p := ⟨R, 2, none⟩) hp c |>.far (p := ⟨R, 3, none⟩) hp d
theorem Rd.sep {n i : Nat} {A : Option Addr} {f : Nat → Nat} (h : Rd B .u16 w A n f) (hW : Blk t g cs w) (hn : cs.toList.all noLimb = true) (u : Value) : Rd B .u16 (w.setCell ⟨g, i, none⟩ u) A n f := fun h0 => by
 obtain ⟨b, o, e, hb, hc⟩ := h h0
 refine ⟨b, o, e, hb, fun j hj => ?_⟩
 have hne : b ≠ g := fun e => by
  subst e
  have h1 := hc j hj
  rw [hW.cell] at h1
  have h2 := List.all_eq_true.1 hn _ (Array.mem_toList_iff.2 (Array.mem_of_getElem? h1))
  cases h2
 rw [World.cell?_setCell_other w _ _ u (fun e => hne (congrArg Addr.block e).symm)]
 exact hc j hj
theorem WV.sep {i n : Nat} {z : Int} {s : Bool} {A : Option Addr} (h : WV w z s A n) (hW : Blk t g cs w) (hn : cs.toList.all noLimb = true) (u : Value) : WV (w.setCell ⟨g, i, none⟩ u) z s A n := by
 refine ⟨h.1, h.2.1, ?_⟩
 have h3 : Rd w.heap.size .u16 w A (ln b16 z.natAbs) (dgt b16 z.natAbs) := h.2.2
 have h4 := h3.sep hW hn (i := i) u
 unfold Num16
 rwa [World.size_setCell]
theorem WV.sep2 {n : Nat} {z : Int} {s : Bool} {A : Option Addr} {x y : Value} (h : WV w z s A n) (hW : Blk t g #[x, y] w) (hn : [x, y].all noLimb = true) (a b : Value) (ha : noLimb a = true) : WV ((w.setCell ⟨g, 0, none⟩ a).setCell ⟨g, 1, none⟩ b) z s A n := by
 refine (h.sep hW hn a).sep (hW.set_ 0 a) ?_ b
 simp only [List.all_cons, List.all_nil, Bool.and_true, Bool.and_eq_true] at hn
 show (noLimb a && (noLimb y && true)) = true
 rw [ha, hn.2]; rfl
theorem WV.sep4 {n : Nat} {z : Int} {s : Bool} {A : Option Addr} {x y u v : Value} (h : WV w z s A n) (hW : Blk t g #[x, y, u, v] w) (hn : [x, y, u, v].all noLimb = true) (a b c d : Value) (ha : noLimb a = true) (hb : noLimb b = true) (hc : noLimb c = true) :
  WV ((((w.setCell ⟨g, 0, none⟩ a).setCell ⟨g, 1, none⟩ b).setCell ⟨g, 2, none⟩ c).setCell ⟨g, 3, none⟩ d) z s A n := by
 simp only [List.all_cons, List.all_nil, Bool.and_true, Bool.and_eq_true] at hn
 obtain ⟨h1, h2, h3, h4⟩ := hn
 refine (((h.sep hW (by simp [h1, h2, h3, h4]) a).sep (hW.set_ 0 a) ?_ b).sep ((hW.set_ 0 a).set_ 1 b) ?_ c).sep (((hW.set_ 0 a).set_ 1 b).set_ 2 c) ?_ d
 ·
  show (noLimb a && (noLimb y && (noLimb u && (noLimb v && true)))) = true
  rw [ha, h2, h3, h4]; rfl
 ·
  show (noLimb a && (noLimb b && (noLimb u && (noLimb v && true)))) = true
  rw [ha, hb, h3, h4]; rfl
 ·
  show (noLimb a && (noLimb b && (noLimb c && (noLimb v && true)))) = true
  rw [ha, hb, hc, h4]; rfl
end
end Go.Proofs.YtjgihmmeimfheaaGreat
namespace Go.Proofs.YtjgihmmeimfheaaGreat
open Go.RowKit

theorem same_r {a b : Int} {r : Bool} {s t : Bool} {A B : Option Addr} {n m c d : Nat} {w : World} (ha : WV w a s A n) (hb : WV w b t B m) (la : n ≤ 1024) (lb : m ≤ 1024) (h : decide (a = b) = r) :
  Calls Tryz.prog 68 #[.agg #[.bool s, .slice A n c], .agg #[.bool t, .slice B m d]] w fun e w' => e = .returned (.bool r) ∧ Below w.heap.size w w' := by
 subst h
 exact same_v ha hb (by omega) (by omega)
/-- A new variable that is given a number. -/
theorem Env.var {w W : World} {P : World → Prop} {z : Int} {s : Bool} {A : Option Addr} {n : Nat} (h : Env w P W) (hv : WV W z s A n) (c : Nat) :
  Env w (fun V => P V ∧ Bx W.heap.size z s A n c V) (((W.alloc (.cells #[.bool false, .slice none 0 0] 27)).setCell ⟨W.heap.size, 0, none⟩ (.bool s)).setCell ⟨W.heap.size, 1, none⟩ (.slice A n c)) := by
 obtain ⟨hW, hb⟩ := store_whole (WholeAt.new W false (.slice none 0 0)) ((Below.refl _ W).alloc (Nat.le_refl _) _) (Nat.le_refl _) s (.slice A n c)
 exact (h.step hb).and (Bx.stable _ _ _ _ _ _) ⟨hW, hv.below hb⟩
theorem WV.abs {w : World} {z : Int} {s : Bool} {A : Option Addr} {n : Nat} (h : WV w z s A n) : WV w ((z.natAbs : Nat) : Int) false A n :=
 ⟨(decide_eq_false (by omega)).symm, h.2.1, h.2.2⟩
theorem Env.tri {g : Nat} {a b c : Int} {s1 s2 s3 : Bool} {A1 A2 A3 : Option Addr} {n1 n2 n3 c1 c2 c3 : Nat} {w W : World} {P : World → Prop} (h : Env w P W) (ht : Tri g a b c s1 s2 s3 A1 A2 A3 n1 n2 n3 c1 c2 c3 W) : W.cell? ⟨g, 0, none⟩ = some (.bool s1) ∧ W.cell? ⟨g, 1, none⟩ = some (.slice A1 n1 c1) ∧ W.cell? ⟨g + 1, 0, none⟩ = some (.bool s2) ∧ W.cell? ⟨g + 1, 1, none⟩ = some (.slice A2 n2 c2) ∧
  W.cell? ⟨g + 1 + 1, 0, none⟩ = some (.bool s3) ∧ W.cell? ⟨g + 1 + 1, 1, none⟩ = some (.slice A3 n3 c3) ∧ Env w P W :=
 ⟨ht.1.1.cells.1, ht.1.1.cells.2, ht.2.1.1.cells.1, ht.2.1.1.cells.2, ht.2.2.1.cells.1, ht.2.2.1.cells.2, h⟩
/-- A variable made ahead of the calls that give its value. -/
structure New (W0 W : World) (G : Nat) : Prop where
 box : WholeAt W G false (.slice none 0 0)
 bel : Below G W0 W
 eq : W0.heap.size = G
theorem New.start (W : World) : New W (W.alloc (.cells #[.bool false, .slice none 0 0] 27)) W.heap.size := ⟨WholeAt.new W _ _, (Below.refl _ W).alloc (Nat.le_refl _) _, rfl⟩
theorem New.below {W0 W W' : World} {G : Nat} (h : New W0 W G) (hb : Below W.heap.size W W') : New W0 W' G := ⟨h.box.below hb h.box.lt, h.bel.trans (hb.mono (Nat.le_of_lt h.box.lt)), h.eq⟩
theorem New.stored {w W0 W : World} {P : World → Prop} {G : Nat} (h0 : Env w P W0) (h : New W0 W G) (s : Bool) (v : Value) : Env w P ((W.setCell ⟨G, 0, none⟩ (.bool s)).setCell ⟨G, 1, none⟩ v) :=
 h0.step (by rw [h.eq]; exact (store_whole h.box h.bel (Nat.le_refl _) s v).2)
theorem New.done {w W0 W : World} {P : World → Prop} {G B : Nat} {z : Int} {s : Bool} {A : Option Addr} {n c : Nat} (h0 : Env w P W0) (h : New W0 W G) (ho : WO B W z s A n c) (hB : G < B) :
  Env w (fun V => P V ∧ Bx G z s A n c V) ((W.setCell ⟨G, 0, none⟩ (.bool s)).setCell ⟨G, 1, none⟩ (.slice A n c)) :=
 (New.stored h0 h s _).and (Bx.stable _ _ _ _ _ _) ⟨(store_whole h.box h.bel (Nat.le_refl _) s _).1, (ho.store hB s _).v⟩
theorem Env.fresh {w W : World} {P : World → Prop} {z : Int} {s : Bool} {A : Option Addr} {n : Nat} (h : Env w P W) (hv : WV W z s A n) (c : Nat) :
  Env w (fun V => P V ∧ Bx W.heap.size z s A n c V) (W.alloc (.cells #[.bool s, .slice A n c] 27)) :=
 (h.alloc _).and (Bx.stable _ _ _ _ _ _) (Bx.new hv)
theorem belAlloc (W : World) (o : Obj) : Below W.heap.size W (W.alloc o) := (Below.refl _ W).alloc (Nat.le_refl _) o
theorem newStart {w W : World} {P : World → Prop} (_ : Env w P W) : New W (W.alloc (.cells #[.bool false, .slice none 0 0] 27)) W.heap.size := New.start W
theorem cel {g : Nat} {a b c : Int} {s1 s2 s3 : Bool} {A1 A2 A3 : Option Addr} {n1 n2 n3 c1 c2 c3 : Nat} {w W : World} {P : World → Prop} (_ : Env w P W) (ht : Tri g a b c s1 s2 s3 A1 A2 A3 n1 n2 n3 c1 c2 c3 W) : W.cell? ⟨g, 0, none⟩ = some (.bool s1) ∧ W.cell? ⟨g, 1, none⟩ = some (.slice A1 n1 c1) ∧ W.cell? ⟨g + 1, 0, none⟩ = some (.bool s2) ∧ W.cell? ⟨g + 1, 1, none⟩ = some (.slice A2 n2 c2) ∧
  W.cell? ⟨g + 1 + 1, 0, none⟩ = some (.bool s3) ∧ W.cell? ⟨g + 1 + 1, 1, none⟩ = some (.slice A3 n3 c3) :=
 ⟨ht.1.1.cells.1, ht.1.1.cells.2, ht.2.1.1.cells.1, ht.2.1.1.cells.2, ht.2.2.1.cells.1, ht.2.2.1.cells.2⟩
end Go.Proofs.YtjgihmmeimfheaaGreat
namespace Go.Proofs.YtjgihmmeimfheaaGreat
open Go.RowKit

/-- The fraction q, its parts' signs, addresses and lengths. -/
def FV (w : World) (q : Rat) (s : Bool) (A : Option Addr) (n : Nat) (t : Bool) (B : Option Addr) (m : Nat) : Prop := WV w q.num s A n ∧ WV w ((q.den : Nat) : Int) t B m
theorem FV.below {w w' : World} {q : Rat} {s t : Bool} {A B : Option Addr} {n m : Nat} (h : FV w q s A n t B m) (hb : Below w.heap.size w w') : FV w' q s A n t B m := ⟨h.1.below hb, h.2.below hb⟩
theorem FV.stable (q : Rat) (s : Bool) (A : Option Addr) (n : Nat) (t : Bool) (B : Option Addr) (m : Nat) : Stable (fun W => FV W q s A n t B m) := fun _ _ hb h => h.below hb
theorem FV.sep {w : World} {q : Rat} {s t : Bool} {A B : Option Addr} {n m g i : Nat} {T : TypeId} {cs : Array Value} (h : FV w q s A n t B m) (hW : Blk T g cs w) (hn : cs.toList.all noLimb = true) (u : Value) : FV (w.setCell ⟨g, i, none⟩ u) q s A n t B m := ⟨h.1.sep hW hn u, h.2.sep hW hn u⟩
theorem FV.sep2 {w : World} {q : Rat} {s t : Bool} {A B : Option Addr} {n m g : Nat} {T : TypeId} {x y : Value} (h : FV w q s A n t B m) (hW : Blk T g #[x, y] w) (hn : [x, y].all noLimb = true) (a b : Value) (ha : noLimb a = true) : FV ((w.setCell ⟨g, 0, none⟩ a).setCell ⟨g, 1, none⟩ b) q s A n t B m :=
 ⟨h.1.sep2 hW hn a b ha, h.2.sep2 hW hn a b ha⟩
theorem FV.sep4 {w : World} {q : Rat} {s t : Bool} {A B : Option Addr} {n m g : Nat} {T : TypeId} {x y u v : Value} (h : FV w q s A n t B m) (hW : Blk T g #[x, y, u, v] w) (hn : [x, y, u, v].all noLimb = true) (a b c d : Value) (ha : noLimb a = true) (hb : noLimb b = true) (hc : noLimb c = true) :
  FV ((((w.setCell ⟨g, 0, none⟩ a).setCell ⟨g, 1, none⟩ b).setCell ⟨g, 2, none⟩ c).setCell ⟨g, 3, none⟩ d) q s A n t B m := ⟨h.1.sep4 hW hn a b c d ha hb hc, h.2.sep4 hW hn a b c d ha hb hc⟩
theorem Env.again {w W : World} (h : Below w.heap.size w W) : Env w (fun _ => True) W := ⟨h, fun _ _ _ h => h, trivial⟩
theorem Env.blkI {w W : World} {P : World → Prop} {g : Nat} {t : TypeId} {cs : Array Value} (h : Env w P W) (hb : Blk t g cs W) : Env w (fun V => P V ∧ Blk t g cs V) W := h.and (Blk.stable _ _ _) hb
theorem bel2 {w W : World} {g : Nat} (h : Below w.heap.size w W) (hg : w.heap.size ≤ g) (a b : Value) : Below w.heap.size w ((W.setCell ⟨g, 0, none⟩ a).setCell ⟨g, 1, none⟩ b) := (h.setCell (p := ⟨g, 0, none⟩) hg _).setCell (p := ⟨g, 1, none⟩) hg _
theorem bel4 {w W : World} {g : Nat} (h : Below w.heap.size w W) (hg : w.heap.size ≤ g) (a b c d : Value) : Below w.heap.size w ((((W.setCell ⟨g, 0, none⟩ a).setCell ⟨g, 1, none⟩ b).setCell ⟨g, 2, none⟩ c).setCell ⟨g, 3, none⟩ d) := ((bel2 h hg a b).setCell (p := ⟨g, 2, none⟩) hg _).setCell (p := ⟨g, 3, none⟩) hg _
theorem FV.ln {w : World} {q : Rat} {s t : Bool} {A B : Option Addr} {n m k : Nat} (h : FV w q s A n t B m) (hq : fl q ≤ k) : n ≤ k ∧ m ≤ k := by
 have h1 := fl_le.1 hq
 have h2 := h.1.len
 have h3 := h.2.len
 rw [Int.natAbs_natCast] at h3
 omega
theorem Env.blk {w W : World} {P : World → Prop} {g : Nat} (h : Env w P W) (t : TypeId) (cs : Array Value) (hg : W.heap.size = g) : Env w (fun V => P V ∧ Blk t g cs V) (W.alloc (.cells cs t)) := by
 subst hg
 exact (h.alloc _).and (Blk.stable _ _ _) (Blk.new W t cs)
theorem Env.wv {w W : World} {P : World → Prop} {z : Int} {s : Bool} {A : Option Addr} {n : Nat} (h : Env w P W) (hv : WV W z s A n) : Env w (fun V => P V ∧ WV V z s A n) W := h.and (WV.stable _ _ _ _) hv
theorem Env.fv {w W : World} {P : World → Prop} {q : Rat} {s t : Bool} {A B : Option Addr} {n m : Nat} (h : Env w P W) (hv : FV W q s A n t B m) : Env w (fun V => P V ∧ FV V q s A n t B m) W := h.and (FV.stable _ _ _ _ _ _ _) hv
/-- The call returned the number z. -/
def WR (z : Int) (w : World) (e : Ending) (w' : World) : Prop := ∃ s A n c, e = .returned (.agg #[.bool s, .slice A n c]) ∧ WV w' z s A n ∧ Below w.heap.size w w'

set_option maxRecDepth 100000 in
theorem isOne_v {z : Int} {s : Bool} {A : Option Addr} {n c : Nat} {w : World} (ha : WV w z s A n) (hn : n ≤ 1000000) :
  Calls Tryz.prog 109 #[.agg #[.bool s, .slice A n c]] w fun e w' => e = .returned (.bool (decide (z = 1))) ∧ Below w.heap.size w w' := by
 have hbl : Below w.heap.size w (w.alloc (.cells #[.bool s, .slice A n c] 27)) := (Below.refl _ _).alloc (Nat.le_refl _) _
 obtain ⟨hs, hl, hr⟩ := ha
 cases s with
 | true =>
  have hz : z < 0 := of_decide_eq_true hs.symm
  clear hs hl hr
  have HE := Lib.hid (decide_eq_false (show ¬ z = 1 by omega))
  go_enter Tryz.func109, Tryz.ntmps109
  go_wp2_with fail
  go_ret
  exact ⟨ret_bool HE.out.symm, hbl⟩
 | false =>
  have hz : ¬ z < 0 := of_decide_eq_false hs.symm
  by_cases h1 : n = 1
  ·
   subst h1
   obtain ⟨b, o, rfl, hb, hc⟩ := hr (by omega)
   have c1 := hc 0 (by omega)
   rw [Nat.add_zero] at c1
   have hv : dgt b16 z.natAbs 0 = z.natAbs := by
    have h := vs_dgt_ln b16_two (x := z.natAbs)
    rw [← hl, vs_succ, vs_zero] at h
    simpa using h
   rw [hv] at c1
   have hlt : b < w.heap.size := hb
   clear hl hs hc hr hv
   have c2 : (w.alloc (.cells #[.bool false, .slice (some ⟨b, o, none⟩) 1 c] 27)).cell? ⟨b, o, none⟩ = some (.int .u16 ((z.natAbs : Nat) : Int)) := (World.cell?_alloc_lt w _ ⟨b, o, none⟩ hlt).trans c1
   by_cases h2 : z = 1
   ·
    have e1 := decide_eq_true h2
    have t2 : (((z.natAbs : Nat) : Int) == 1) = true := beq_iff_eq.2 (by omega)
    have HE := Lib.hid e1
    clear e1 h2
    go_enter Tryz.func109, Tryz.ntmps109
    go_wp2_with fail
    go_ret
    exact ⟨ret_bool HE.out.symm, hbl⟩
   ·
    have e1 := decide_eq_false h2
    have t2 : (((z.natAbs : Nat) : Int) == 1) = false := beq_eq_false_iff_ne.2 (by omega)
    have HE := Lib.hid e1
    clear e1 h2
    go_enter Tryz.func109, Tryz.ntmps109
    go_wp2_with fail
    go_ret
    exact ⟨ret_bool HE.out.symm, hbl⟩
  ·
   have hz1 : ¬ z = 1 := fun e => h1 (by rw [hl, e]; decide)
   have e1 := decide_eq_false hz1
   have t1 : ((n : Int) == 1) = false := beq_eq_false_iff_ne.2 (by omega)
   have HE := Lib.hid e1
   clear e1 hl hz1 hs hr
   go_enter Tryz.func109, Tryz.ntmps109
   go_wp2_with fail
   go_ret
   exact ⟨ret_bool HE.out.symm, hbl⟩
end Go.Proofs.YtjgihmmeimfheaaGreat
namespace Go.Proofs.YtjgihmmeimfheaaGreat
open Go.RowKit

section
variable {w W : World} {P A0 A1 A2 A3 A4 A5 A6 A7 A8 A9 A10 A11 A12 A13 A14 A15 A16 A17 A18 A19 A20 A21 A22 A23 A24 A25 A26 A27 A28 A29 A30 : World → Prop}
theorem Env.h2 (h : Env w (fun V => ((P V ∧ A2 V) ∧ A1 V) ∧ A0 V) W) : A2 W := h.here.1.1.2
theorem Env.h3 (h : Env w (fun V => (((P V ∧ A3 V) ∧ A2 V) ∧ A1 V) ∧ A0 V) W) : A3 W := h.here.1.1.1.2
theorem Env.h4 (h : Env w (fun V => ((((P V ∧ A4 V) ∧ A3 V) ∧ A2 V) ∧ A1 V) ∧ A0 V) W) : A4 W := h.here.1.1.1.1.2
theorem Env.h5 (h : Env w (fun V => (((((P V ∧ A5 V) ∧ A4 V) ∧ A3 V) ∧ A2 V) ∧ A1 V) ∧ A0 V) W) : A5 W := h.here.1.1.1.1.1.2
theorem Env.h6 (h : Env w (fun V => ((((((P V ∧ A6 V) ∧ A5 V) ∧ A4 V) ∧ A3 V) ∧ A2 V) ∧ A1 V) ∧ A0 V) W) : A6 W := h.here.1.1.1.1.1.1.2
theorem Env.h7 (h : Env w (fun V => (((((((P V ∧ A7 V) ∧ A6 V) ∧ A5 V) ∧ A4 V) ∧ A3 V) ∧ A2 V) ∧ A1 V) ∧ A0 V) W) : A7 W := h.here.1.1.1.1.1.1.1.2
theorem Env.h8 (h : Env w (fun V => ((((((((P V ∧ A8 V) ∧ A7 V) ∧ A6 V) ∧ A5 V) ∧ A4 V) ∧ A3 V) ∧ A2 V) ∧ A1 V) ∧ A0 V) W) : A8 W := h.here.1.1.1.1.1.1.1.1.2
theorem Env.h9 (h : Env w (fun V => (((((((((P V ∧ A9 V) ∧ A8 V) ∧ A7 V) ∧ A6 V) ∧ A5 V) ∧ A4 V) ∧ A3 V) ∧ A2 V) ∧ A1 V) ∧ A0 V) W) : A9 W := h.here.1.1.1.1.1.1.1.1.1.2
theorem Env.h10 (h : Env w (fun V => ((((((((((P V ∧ A10 V) ∧ A9 V) ∧ A8 V) ∧ A7 V) ∧ A6 V) ∧ A5 V) ∧ A4 V) ∧ A3 V) ∧ A2 V) ∧ A1 V) ∧ A0 V) W) : A10 W := h.here.1.1.1.1.1.1.1.1.1.1.2
theorem Env.h11 (h : Env w (fun V => (((((((((((P V ∧ A11 V) ∧ A10 V) ∧ A9 V) ∧ A8 V) ∧ A7 V) ∧ A6 V) ∧ A5 V) ∧ A4 V) ∧ A3 V) ∧ A2 V) ∧ A1 V) ∧ A0 V) W) : A11 W := h.here.1.1.1.1.1.1.1.1.1.1.1.2
theorem Env.h12 (h : Env w (fun V => ((((((((((((P V ∧ A12 V) ∧ A11 V) ∧ A10 V) ∧ A9 V) ∧ A8 V) ∧ A7 V) ∧ A6 V) ∧ A5 V) ∧ A4 V) ∧ A3 V) ∧ A2 V) ∧ A1 V) ∧ A0 V) W) : A12 W := h.here.1.1.1.1.1.1.1.1.1.1.1.1.2
theorem Env.h13 (h : Env w (fun V => (((((((((((((P V ∧ A13 V) ∧ A12 V) ∧ A11 V) ∧ A10 V) ∧ A9 V) ∧ A8 V) ∧ A7 V) ∧ A6 V) ∧ A5 V) ∧ A4 V) ∧ A3 V) ∧ A2 V) ∧ A1 V) ∧ A0 V) W) : A13 W := h.here.1.1.1.1.1.1.1.1.1.1.1.1.1.2
theorem Env.h14 (h : Env w (fun V => ((((((((((((((P V ∧ A14 V) ∧ A13 V) ∧ A12 V) ∧ A11 V) ∧ A10 V) ∧ A9 V) ∧ A8 V) ∧ A7 V) ∧ A6 V) ∧ A5 V) ∧ A4 V) ∧ A3 V) ∧ A2 V) ∧ A1 V) ∧ A0 V) W) : A14 W := h.here.1.1.1.1.1.1.1.1.1.1.1.1.1.1.2
theorem Env.h15 (h : Env w (fun V => (((((((((((((((P V ∧ A15 V) ∧ A14 V) ∧ A13 V) ∧ A12 V) ∧ A11 V) ∧ A10 V) ∧ A9 V) ∧ A8 V) ∧ A7 V) ∧ A6 V) ∧ A5 V) ∧ A4 V) ∧ A3 V) ∧ A2 V) ∧ A1 V) ∧ A0 V) W) : A15 W := h.here.1.1.1.1.1.1.1.1.1.1.1.1.1.1.1.2
theorem Env.h16 (h : Env w (fun V => ((((((((((((((((P V ∧ A16 V) ∧ A15 V) ∧ A14 V) ∧ A13 V) ∧ A12 V) ∧ A11 V) ∧ A10 V) ∧ A9 V) ∧ A8 V) ∧ A7 V) ∧ A6 V) ∧ A5 V) ∧ A4 V) ∧ A3 V) ∧ A2 V) ∧ A1 V) ∧ A0 V) W) : A16 W := h.here.1.1.1.1.1.1.1.1.1.1.1.1.1.1.1.1.2
theorem Env.h17 (h : Env w (fun V => (((((((((((((((((P V ∧ A17 V) ∧ A16 V) ∧ A15 V) ∧ A14 V) ∧ A13 V) ∧ A12 V) ∧ A11 V) ∧ A10 V) ∧ A9 V) ∧ A8 V) ∧ A7 V) ∧ A6 V) ∧ A5 V) ∧ A4 V) ∧ A3 V) ∧ A2 V) ∧ A1 V) ∧ A0 V) W) : A17 W := h.here.1.1.1.1.1.1.1.1.1.1.1.1.1.1.1.1.1.2
theorem Env.h18 (h : Env w (fun V => ((((((((((((((((((P V ∧ A18 V) ∧ A17 V) ∧ A16 V) ∧ A15 V) ∧ A14 V) ∧ A13 V) ∧ A12 V) ∧ A11 V) ∧ A10 V) ∧ A9 V) ∧ A8 V) ∧ A7 V) ∧ A6 V) ∧ A5 V) ∧ A4 V) ∧ A3 V) ∧ A2 V) ∧ A1 V) ∧ A0 V) W) : A18 W := h.here.1.1.1.1.1.1.1.1.1.1.1.1.1.1.1.1.1.1.2
theorem Env.h19 (h : Env w (fun V => (((((((((((((((((((P V ∧ A19 V) ∧ A18 V) ∧ A17 V) ∧ A16 V) ∧ A15 V) ∧ A14 V) ∧ A13 V) ∧ A12 V) ∧ A11 V) ∧ A10 V) ∧ A9 V) ∧ A8 V) ∧ A7 V) ∧ A6 V) ∧ A5 V) ∧ A4 V) ∧ A3 V) ∧ A2 V) ∧ A1 V) ∧ A0 V) W) : A19 W := h.here.1.1.1.1.1.1.1.1.1.1.1.1.1.1.1.1.1.1.1.2
theorem Env.h20 (h : Env w (fun V => ((((((((((((((((((((P V ∧ A20 V) ∧ A19 V) ∧ A18 V) ∧ A17 V) ∧ A16 V) ∧ A15 V) ∧ A14 V) ∧ A13 V) ∧ A12 V) ∧ A11 V) ∧ A10 V) ∧ A9 V) ∧ A8 V) ∧ A7 V) ∧ A6 V) ∧ A5 V) ∧ A4 V) ∧ A3 V) ∧ A2 V) ∧ A1 V) ∧ A0 V) W) : A20 W := h.here.1.1.1.1.1.1.1.1.1.1.1.1.1.1.1.1.1.1.1.1.2
theorem Env.h21 (h : Env w (fun V => (((((((((((((((((((((P V ∧ A21 V) ∧ A20 V) ∧ A19 V) ∧ A18 V) ∧ A17 V) ∧ A16 V) ∧ A15 V) ∧ A14 V) ∧ A13 V) ∧ A12 V) ∧ A11 V) ∧ A10 V) ∧ A9 V) ∧ A8 V) ∧ A7 V) ∧ A6 V) ∧ A5 V) ∧ A4 V) ∧ A3 V) ∧ A2 V) ∧ A1 V) ∧ A0 V) W) : A21 W := h.here.1.1.1.1.1.1.1.1.1.1.1.1.1.1.1.1.1.1.1.1.1.2
theorem Env.h22 (h : Env w (fun V => ((((((((((((((((((((((P V ∧ A22 V) ∧ A21 V) ∧ A20 V) ∧ A19 V) ∧ A18 V) ∧ A17 V) ∧ A16 V) ∧ A15 V) ∧ A14 V) ∧ A13 V) ∧ A12 V) ∧ A11 V) ∧ A10 V) ∧ A9 V) ∧ A8 V) ∧ A7 V) ∧ A6 V) ∧ A5 V) ∧ A4 V) ∧ A3 V) ∧ A2 V) ∧ A1 V) ∧ A0 V) W) : A22 W := h.here.1.1.1.1.1.1.1.1.1.1.1.1.1.1.1.1.1.1.1.1.1.1.2
theorem Env.h23 (h : Env w (fun V => (((((((((((((((((((((((P V ∧ A23 V) ∧ A22 V) ∧ A21 V) ∧ A20 V) ∧ A19 V) ∧ A18 V) ∧ A17 V) ∧ A16 V) ∧ A15 V) ∧ A14 V) ∧ A13 V) ∧ A12 V) ∧ A11 V) ∧ A10 V) ∧ A9 V) ∧ A8 V) ∧ A7 V) ∧ A6 V) ∧ A5 V) ∧ A4 V) ∧ A3 V) ∧ A2 V) ∧ A1 V) ∧ A0 V) W) : A23 W := h.here.1.1.1.1.1.1.1.1.1.1.1.1.1.1.1.1.1.1.1.1.1.1.1.2
theorem Env.h24 (h : Env w (fun V => ((((((((((((((((((((((((P V ∧ A24 V) ∧ A23 V) ∧ A22 V) ∧ A21 V) ∧ A20 V) ∧ A19 V) ∧ A18 V) ∧ A17 V) ∧ A16 V) ∧ A15 V) ∧ A14 V) ∧ A13 V) ∧ A12 V) ∧ A11 V) ∧ A10 V) ∧ A9 V) ∧ A8 V) ∧ A7 V) ∧ A6 V) ∧ A5 V) ∧ A4 V) ∧ A3 V) ∧ A2 V) ∧ A1 V) ∧ A0 V) W) : A24 W := h.here.1.1.1.1.1.1.1.1.1.1.1.1.1.1.1.1.1.1.1.1.1.1.1.1.2
theorem Env.h25 (h : Env w (fun V => (((((((((((((((((((((((((P V ∧ A25 V) ∧ A24 V) ∧ A23 V) ∧ A22 V) ∧ A21 V) ∧ A20 V) ∧ A19 V) ∧ A18 V) ∧ A17 V) ∧ A16 V) ∧ A15 V) ∧ A14 V) ∧ A13 V) ∧ A12 V) ∧ A11 V) ∧ A10 V) ∧ A9 V) ∧ A8 V) ∧ A7 V) ∧ A6 V) ∧ A5 V) ∧ A4 V) ∧ A3 V) ∧ A2 V) ∧ A1 V) ∧ A0 V) W) : A25 W := h.here.1.1.1.1.1.1.1.1.1.1.1.1.1.1.1.1.1.1.1.1.1.1.1.1.1.2
theorem Env.h26 (h : Env w (fun V => ((((((((((((((((((((((((((P V ∧ A26 V) ∧ A25 V) ∧ A24 V) ∧ A23 V) ∧ A22 V) ∧ A21 V) ∧ A20 V) ∧ A19 V) ∧ A18 V) ∧ A17 V) ∧ A16 V) ∧ A15 V) ∧ A14 V) ∧ A13 V) ∧ A12 V) ∧ A11 V) ∧ A10 V) ∧ A9 V) ∧ A8 V) ∧ A7 V) ∧ A6 V) ∧ A5 V) ∧ A4 V) ∧ A3 V) ∧ A2 V) ∧ A1 V) ∧ A0 V) W) : A26 W := h.here.1.1.1.1.1.1.1.1.1.1.1.1.1.1.1.1.1.1.1.1.1.1.1.1.1.1.2
theorem Env.h27 (h : Env w (fun V => (((((((((((((((((((((((((((P V ∧ A27 V) ∧ A26 V) ∧ A25 V) ∧ A24 V) ∧ A23 V) ∧ A22 V) ∧ A21 V) ∧ A20 V) ∧ A19 V) ∧ A18 V) ∧ A17 V) ∧ A16 V) ∧ A15 V) ∧ A14 V) ∧ A13 V) ∧ A12 V) ∧ A11 V) ∧ A10 V) ∧ A9 V) ∧ A8 V) ∧ A7 V) ∧ A6 V) ∧ A5 V) ∧ A4 V) ∧ A3 V) ∧ A2 V) ∧ A1 V) ∧ A0 V) W) : A27 W := h.here.1.1.1.1.1.1.1.1.1.1.1.1.1.1.1.1.1.1.1.1.1.1.1.1.1.1.1.2
theorem Env.h28 (h : Env w (fun V => ((((((((((((((((((((((((((((P V ∧ A28 V) ∧ A27 V) ∧ A26 V) ∧ A25 V) ∧ A24 V) ∧ A23 V) ∧ A22 V) ∧ A21 V) ∧ A20 V) ∧ A19 V) ∧ A18 V) ∧ A17 V) ∧ A16 V) ∧ A15 V) ∧ A14 V) ∧ A13 V) ∧ A12 V) ∧ A11 V) ∧ A10 V) ∧ A9 V) ∧ A8 V) ∧ A7 V) ∧ A6 V) ∧ A5 V) ∧ A4 V) ∧ A3 V) ∧ A2 V) ∧ A1 V) ∧ A0 V) W) : A28 W := h.here.1.1.1.1.1.1.1.1.1.1.1.1.1.1.1.1.1.1.1.1.1.1.1.1.1.1.1.1.2
theorem Env.h29 (h : Env w (fun V => (((((((((((((((((((((((((((((P V ∧ A29 V) ∧ A28 V) ∧ A27 V) ∧ A26 V) ∧ A25 V) ∧ A24 V) ∧ A23 V) ∧ A22 V) ∧ A21 V) ∧ A20 V) ∧ A19 V) ∧ A18 V) ∧ A17 V) ∧ A16 V) ∧ A15 V) ∧ A14 V) ∧ A13 V) ∧ A12 V) ∧ A11 V) ∧ A10 V) ∧ A9 V) ∧ A8 V) ∧ A7 V) ∧ A6 V) ∧ A5 V) ∧ A4 V) ∧ A3 V) ∧ A2 V) ∧ A1 V) ∧ A0 V) W) : A29 W := h.here.1.1.1.1.1.1.1.1.1.1.1.1.1.1.1.1.1.1.1.1.1.1.1.1.1.1.1.1.1.2
theorem Env.h30 (h : Env w (fun V => ((((((((((((((((((((((((((((((P V ∧ A30 V) ∧ A29 V) ∧ A28 V) ∧ A27 V) ∧ A26 V) ∧ A25 V) ∧ A24 V) ∧ A23 V) ∧ A22 V) ∧ A21 V) ∧ A20 V) ∧ A19 V) ∧ A18 V) ∧ A17 V) ∧ A16 V) ∧ A15 V) ∧ A14 V) ∧ A13 V) ∧ A12 V) ∧ A11 V) ∧ A10 V) ∧ A9 V) ∧ A8 V) ∧ A7 V) ∧ A6 V) ∧ A5 V) ∧ A4 V) ∧ A3 V) ∧ A2 V) ∧ A1 V) ∧ A0 V) W) : A30 W := h.here.1.1.1.1.1.1.1.1.1.1.1.1.1.1.1.1.1.1.1.1.1.1.1.1.1.1.1.1.1.1.2
end
section
variable {w W : World} {P : World → Prop} {p : Program} {k : FuncId} {xs : Array Value} {Q : Ending → World → Prop}
/-- A call that returns a fraction, and what is known behind it. -/
theorem Env.fr {q : Rat} {G : Bool → Option Addr → Nat → Nat → Bool → Option Addr → Nat → Nat → Ending} (hE : Env w P W)
  (hc : Calls p k xs W (fun e W' => ∃ s A n c t B m d, e = G s A n c t B m d ∧ FV W' q s A n t B m ∧ Below W.heap.size W W'))
  (h : ∀ s A n c t B m d W', Env w (fun V => P V ∧ FV V q s A n t B m) W' → Q (G s A n c t B m d) W') : Calls p k xs W Q :=
 hc.mono fun e W' ⟨s, A, n, c, t, B, m, d, he, hv, hb⟩ => by
  subst he
  exact h s A n c t B m d W' ((hE.step hb).fv hv)
/-- A call whose result is known. -/
theorem Env.br {R : Ending} (hE : Env w P W) (hc : Calls p k xs W (fun e W' => e = R ∧ Below W.heap.size W W')) (h : ∀ W', Env w P W' → Q R W') : Calls p k xs W Q :=
 hc.mono fun e W' ⟨he, hb⟩ => by
  subst he
  exact h W' (hE.step hb)
end
end Go.Proofs.YtjgihmmeimfheaaGreat
namespace Go.Proofs.YtjgihmmeimfheaaGreat
open Go.RowKit

set_option maxRecDepth 100000 in
theorem rvalid_any (s : Bool) (A : Option Addr) (n c : Nat) (f : Nat → Nat) (w : World) (h : Rd w.heap.size .u16 w A n f) (hf : ∀ i, i < n → f i < 65536) (hn : n ≤ 1000000) :
  Calls Tryz.prog 94 #[.agg #[.bool s, .slice A n c]] w fun e w' => e = .returned (.bool (okW s n f)) ∧ Below w.heap.size w w' := by
 go_enter Tryz.func94, Tryz.ntmps94
 by_cases h0 : n = 0
 ·
  subst h0
  go_wp2_with fail
  go_ret
  exact ⟨by simp [okW], (Below.refl _ _).alloc (Nat.le_refl _) _⟩
 ·
  obtain ⟨b, o, rfl, hb, hc⟩ := h (by omega)
  have c1 := hc (n - 1) (by omega)
  have f1 := hf (n - 1) (by omega)
  have hi1 : 0 ≤ (n : Int) - 1 := by omega
  have hi2 : (n : Int) - 1 < (n : Int) := by omega
  have hi3 : ((n : Int) - 1).toNat = n - 1 := by omega
  have t0 : ((n : Int) == 0) = false := by simp; omega
  have ho : okW s n f = (decide (n ≤ 1024) && (f (n - 1) != 0)) := by unfold okW; rw [if_neg h0]
  have HO := Lib.hid ho
  clear hc hf ho
  by_cases h1 : n ≤ 1024
  ·
   have t1 : (n : Int) ≤ 1024 := by omega
   go_wp2_with fail
   go_ret
   refine ⟨?_, (Below.refl _ _).alloc (Nat.le_refl _) _⟩
   rw [HO.out]
   show Ending.returned (.bool (((f (n - 1) : Nat) : Int) != 0)) = _
   have e : (((f (n - 1) : Nat) : Int) != 0) = (f (n - 1) != 0) := by
    by_cases e : f (n - 1) = 0
    · rw [e]; rfl
    · rw [bne_iff_ne.2 e, bne_iff_ne.2 (by omega)]
   rw [e, decide_eq_true h1, Bool.true_and]
  ·
   have t1 : decide ((n : Int) ≤ 1024) = false := decide_eq_false (by omega)
   go_wp2_with fail
   go_ret
   refine ⟨?_, (Below.refl _ _).alloc (Nat.le_refl _) _⟩
   rw [HO.out]
   simp [h1]

theorem rvalid_v {a : Int} {s : Bool} {A : Option Addr} {n c : Nat} {w : World} (ha : WV w a s A n) (la : n ≤ 1024) : Calls Tryz.prog 94 #[.agg #[.bool s, .slice A n c]] w fun e w' => e = .returned (.bool true) ∧ Below w.heap.size w w' := by
 obtain ⟨rfl, rfl, hA⟩ := ha
 have h := rvalid_any (decide (a < 0)) A (ln b16 a.natAbs) c (dgt b16 a.natAbs) w hA (fun i _ => dgt16_lt _ i) (by omega)
 rw [okW_num la] at h
 exact h
set_option linter.unusedSimpArgs false in
set_option maxRecDepth 100000 in
theorem rneg_any {z : Int} {s : Bool} {A : Option Addr} {n c : Nat} {w : World} (ha : WV w z s A n) : Calls Tryz.prog 135 #[.agg #[.bool s, .slice A n c]] w fun e w' => ∃ t, e = .returned (.agg #[.bool t, .slice A n c]) ∧ WV w' (-z) t A n ∧ Below w.heap.size w w' := by
 have hb0 : Below w.heap.size w ((w.alloc (.cells #[.bool s, .slice A n c] 27)).alloc (.cells #[.bool false, .slice none 0 0] 27)) := ((Below.refl _ w).alloc (Nat.le_refl _) _).alloc (by simp) _
 have hR0 := WholeAt.new (w.alloc (.cells #[.bool s, .slice A n c] 27)) false (.slice none 0 0)
 simp only [World.size_alloc] at hR0
 have hsg : (!s && decide (0 < n)) = decide (-z < 0) := by
  rw [ha.sgn, ha.len]
  by_cases h1 : z < 0
  · rw [decide_eq_true h1, decide_eq_false (show ¬ -z < 0 by omega)]; rfl
  ·
   rw [decide_eq_false h1]
   by_cases h2 : z = 0
   ·
    rw [h2]
    show decide (0 < ln b16 0) = decide (-(0 : Int) < 0)
    rw [ln_zero]; rfl
   · rw [decide_eq_true ((ln_pos b16_two).2 (show 0 < z.natAbs by omega)), decide_eq_true (show -z < 0 by omega)]; rfl
 have hm := fun W => make_any (!s) A n c W
 rw [hsg] at hm
 have hv : WV w (-z) (decide (-z < 0)) A n := ⟨rfl, by rw [Int.natAbs_neg]; exact ha.2.1, by rw [Int.natAbs_neg]; exact ha.2.2⟩
 obtain ⟨t, ht⟩ : ∃ t, t = decide (-z < 0) := ⟨_, rfl⟩
 rw [← ht] at hm hv
 have HM := Lib.hid hm
 clear hm hsg ht ha
 go_enter Tryz.func135, Tryz.ntmps135
 go_wp2_with fail
 refine (HM.out _).mono ?_
 rintro e w1 ⟨rfl, hb1⟩
 have hR1 := hR0.below hb1 hR0.lt
 have hbl1 := hb0.trans (hb1.mono hb0.size)
 obtain ⟨r0, r1⟩ := hR1.cells
 have g0 := hR1.frozen 0
 have g1 := hR1.frozen 1
 obtain ⟨hW, hbW⟩ := store_whole hR1 hbl1 (show w.heap.size ≤ w.heap.size + 1 by omega) t (.slice A n c)
 have HW := Lib.hid hW
 clear hW
 go_wp2_with fail
 have hW := HW.out
 clear HW hR1 r0 r1
 generalize ((w1.setCell ⟨w.heap.size + 1, 0, none⟩ (.bool t)).setCell ⟨w.heap.size + 1, 1, none⟩ (.slice A n c)) = WW at *
 obtain ⟨y0, y1⟩ := hW.cells
 refine bodyPost_ret (v := .agg #[.bool t, .slice A n c]) (by simp [results, Tryz.results135, go_sem, y0, y1]) rfl ?_
 exact ⟨t, rfl, hv.below hbW, hbW⟩
end Go.Proofs.YtjgihmmeimfheaaGreat
namespace Go.Proofs.YtjgihmmeimfheaaGreat
open Go.RowKit

theorem num_store {W : World} {A : Option Addr} {x G : Nat} (h : Num16 W A x) (hA : ∀ p, A = some p → G < p.block) (s : Bool) (v : Value) : Num16 ((W.setCell ⟨G, 0, none⟩ (.bool s)).setCell ⟨G, 1, none⟩ v) A x := by
 intro hn
 obtain ⟨b, o, e, hlt, hc⟩ := h hn
 have hne := hA _ e
 refine ⟨b, o, e, by rw [World.size_setCell, World.size_setCell]; exact hlt, fun i hi => ?_⟩
 refine (World.cell?_of_block (w := W) ?_).trans (hc i hi)
 exact (Below.heap_setCell _ _ _ _ (Nat.ne_of_gt hne)).trans (Below.heap_setCell _ _ _ _ (Nat.ne_of_gt hne))
theorem belSelf2 {w W : World} {P : World → Prop} (_ : Env w P W) : Below W.heap.size W W := Below.refl _ W
set_option linter.unusedSimpArgs false in
set_option maxRecDepth 100000 in
set_option maxHeartbeats 2000000 in
theorem rproduct_any {a b : Int} {s t : Bool} {A B : Option Addr} {n m c d : Nat} {w : World} (ha : WV w a s A n) (hv : WV w b t B m) (la : n ≤ 1000000) (lb : m ≤ 1000000) :
  Calls Tryz.prog 137 #[.agg #[.bool s, .slice A n c], .agg #[.bool t, .slice B m d]] w fun e w' => ∃ s' A' n' c', e = .returned (.agg #[.bool s', .slice A' n' c']) ∧ WV w' (a * b) s' A' n' ∧ (∀ p, A' = some p → w.heap.size ≤ p.block) ∧ Below w.heap.size w w' := by
 have hD := Env.two w s t A B n m c d
 have hz2 : ((w.alloc (.cells #[.bool s, .slice A n c] 27)).alloc (.cells #[.bool t, .slice B m d] 27)).heap.size = w.heap.size + 1 + 1 := by simp
 obtain ⟨W2, hW2⟩ : ∃ W2, W2 = (w.alloc (.cells #[.bool s, .slice A n c] 27)).alloc (.cells #[.bool t, .slice B m d] 27) := ⟨_, rfl⟩
 rw [← hW2] at hD hz2
 have hb := (belSelf2 hD).alloc (Nat.le_refl _) (.cells #[.bool false, .slice none 0 0] 27)
 have hR := WholeAt.new W2 false (.slice none 0 0)
 rw [hz2] at hR
 have hsgn : ((s != t) && decide (0 < ln b16 (a.natAbs * b.natAbs))) = decide (a * b < 0) := by
  rw [← toI_mul a b, toI_neg, ha.sgn, hv.sgn]
  congr 1
  exact decide_eq_decide.2 (ln_pos b16_two)
 have hab : (a * b).natAbs = a.natAbs * b.natAbs := Int.natAbs_mul a b
 have HT := Lib.hid fun (W : World) (hW : Below w.heap.size w W) => rtimes_any A B c d a.natAbs b.natAbs W (Num16.below ha.2.2 hW) (Num16.below hv.2.2 hW) (by rw [← ha.len]; exact la) (by rw [← hv.len]; exact lb)
 rw [← ha.len, ← hv.len] at HT
 have HM := Lib.hid fun (A' : Option Addr) (c' : Nat) (W : World) => make_any (s != t) A' (ln b16 (a.natAbs * b.natAbs)) c' W
 rw [hsgn] at HM
 have HAB := Lib.hid hab
 have HW2 := Lib.hid hW2
 clear ha hv hsgn hab hW2
 go_enter Tryz.func137, Tryz.ntmps137
 go_upto_region 1 with (fail)
 rw [← HW2.out]
 replace hb := hb.drew
 have hR' : WholeAt (W2.alloc (.cells #[.bool false, .slice none 0 0] 27)).drew (w.heap.size + 1 + 1) false (.slice none 0 0) := hR
 have hle := hb.size
 have tok0 : True := trivial
 go_region_held3 (fun w' => w'.cell? ⟨w.heap.size, 0, none⟩ = some (.bool s) ∧ w'.cell? ⟨w.heap.size, 1, none⟩ = some (.slice A n c) ∧ w'.cell? ⟨w.heap.size + 1, 0, none⟩ = some (.bool t) ∧ w'.cell? ⟨w.heap.size + 1, 1, none⟩ = some (.slice B m d))
  (exact Two0.cells (hD.step (by first | exact hb | ((repeat (first | exact hb | (refine Below.setCell ?_ ?_ _) | (refine Below.alloc ?_ ?_ _))) <;> (try dsimp only) <;> (repeat (first | rw [World.size_alloc] | rw [World.size_setCell] | rw [World.size_drew])) <;> omega))).here)
  (first
   | (have _t := tok0; go_at_call 157; refine (HT.out _ (hD.step hb).bel).mono ?_; rintro e w5 ⟨A5, c5, rfl, hn5, hp5, hb5⟩; have hq5 := fun p hp => Nat.le_trans (hD.step hb).bel.size (hp5 p hp); have hlt5 := hR'.lt; replace hR' := hR'.below hb5 hR'.lt; replace hb := hb.trans (hb5.mono hb.size); clear tok0 hb5; have tok1 : True := trivial)
   | (have _t := tok1; go_at_call 93; refine (HM.out A5 c5 _).mono ?_; rintro e w6 ⟨rfl, hb6⟩; replace hn5 := Num16.below hn5 hb6; replace hR' := hR'.below hb6 hR'.lt; replace hb := hb.trans (hb6.mono hb.size); have hs6 := hb.size; obtain ⟨r0, r1⟩ := hR'.cells; have g0 := hR'.frozen 0; have g1 := hR'.frozen 1; have hlt := hR'.lt; clear tok1 hb6; have tok2 : True := trivial))
 obtain ⟨hW, hbW⟩ := store_whole hR' (hD.step hb).bel (show w.heap.size ≤ w.heap.size + 1 + 1 by omega) (decide (a * b < 0)) (.slice A5 (ln b16 (a.natAbs * b.natAbs)) c5)
 have hfin := num_store hn5 (fun p hp => Nat.lt_of_lt_of_le hlt5 (hp5 p hp)) (decide (a * b < 0)) (.slice A5 (ln b16 (a.natAbs * b.natAbs)) c5)
 have HW := Lib.hid hW
 have HF := Lib.hid hfin
 clear hW hfin r0 r1 g0 g1 hn5 hp5
 go_wp2_with fail
 have hW := HW.out
 have hfin := HF.out
 clear HW HF
 generalize ((w6.setCell ⟨w.heap.size + 1 + 1, 0, none⟩ (.bool (decide (a * b < 0)))).setCell ⟨w.heap.size + 1 + 1, 1, none⟩ (.slice A5 (ln b16 (a.natAbs * b.natAbs)) c5)) = WW at *
 obtain ⟨y0, y1⟩ := hW.cells
 refine bodyPost_ret (v := .agg #[.bool (decide (a * b < 0)), .slice A5 (ln b16 (a.natAbs * b.natAbs)) c5]) (by simp [results, Tryz.results137, go_sem, y0, y1]) rfl ?_
 exact ⟨_, A5, _, c5, rfl, ⟨rfl, by rw [HAB.out], by rw [HAB.out]; exact hfin⟩, hq5, hbW⟩
end Go.Proofs.YtjgihmmeimfheaaGreat
namespace Go.Proofs.YtjgihmmeimfheaaGreat
open Go.RowKit
attribute [local go_sem] Oper.semAt_some

set_option maxRecDepth 100000 in
theorem valid_all (s : Bool) (A : Option Addr) (n c : Nat) (f : Nat → Nat) (w : World) (h : Rd w.heap.size .u16 w A n f) (hf : ∀ i, i < n → f i < 65536) :
  Calls Tryz.prog 55 #[.agg #[.bool s, .slice A n c]] w fun e w' => e = .returned (.bool (okW s n f)) ∧ Below w.heap.size w w' := by
 go_enter Tryz.func55, Tryz.ntmps55
 by_cases h0 : n = 0
 ·
  subst h0
  go_wp2_with fail
  go_ret
  exact ⟨by simp [okW], (Below.refl _ _).alloc (Nat.le_refl _) _⟩
 ·
  obtain ⟨b, o, rfl, hb, hc⟩ := h (by omega)
  have c1 := hc (n - 1) (by omega)
  have f1 := hf (n - 1) (by omega)
  have hi1 : 0 ≤ (n : Int) - 1 := by omega
  have hi2 : (n : Int) - 1 < (n : Int) := by omega
  have hi3 : ((n : Int) - 1).toNat = n - 1 := by omega
  have t0 : ((n : Int) == 0) = false := by simp; omega
  have ho : okW s n f = (decide (n ≤ 1024) && (f (n - 1) != 0)) := by unfold okW; rw [if_neg h0]
  have HO := Lib.hid ho
  clear hc hf ho
  by_cases h1 : n ≤ 1024
  ·
   have t1 : (n : Int) ≤ 1024 := by omega
   go_wp2_with fail
   go_ret
   refine ⟨?_, (Below.refl _ _).alloc (Nat.le_refl _) _⟩
   rw [HO.out]
   show Ending.returned (.bool (((f (n - 1) : Nat) : Int) != 0)) = _
   have e : (((f (n - 1) : Nat) : Int) != 0) = (f (n - 1) != 0) := by
    by_cases e : f (n - 1) = 0
    · rw [e]; rfl
    · rw [bne_iff_ne.2 e, bne_iff_ne.2 (by omega)]
   rw [e, decide_eq_true h1, Bool.true_and]
  ·
   have t1 : decide ((n : Int) ≤ 1024) = false := decide_eq_false (by omega)
   go_wp2_with fail
   go_ret
   refine ⟨?_, (Below.refl _ _).alloc (Nat.le_refl _) _⟩
   rw [HO.out]
   simp [h1]

set_option maxRecDepth 100000 in
set_option maxHeartbeats 2000000 in
theorem int_bad (s : Bool) (A : Option Addr) (n c : Nat) (f : Nat → Nat) (w : World) (h : Rd w.heap.size .u16 w A n f) (hf : ∀ i, i < n → f i < 65536) (hn : n ≤ 1000000) (hok : okW s n f = false) :
  Calls Tryz.prog 78 #[.agg #[.bool s, .slice A n c]] w fun e w' => e = .returned (.tuple #[.int .i64 0, .int .i64 2]) ∧ Below w.heap.size w w' := by
 have hb0 : Below w.heap.size w (w.alloc (.cells #[.bool s, .slice A n c] 27)) := (Below.refl _ w).alloc (Nat.le_refl _) _
 have hv := valid_any s A n c f _ ((h.below hb0).more hb0.size) hf hn
 rw [hok] at hv
 refine (callsIn_wide (n := 5)).1 ?_
 have hro : Fence.wide.round = none := rfl
 refine callsIn_of_wp_marks Tryz.func78 rfl trivial ?_ hro
 refine wpIn_wide.2 ?_
 simp only [Tryz.ntmps78, List.size_toArray, List.length_cons, List.length_nil, Nat.reduceAdd, Nat.reduceSub, Array.replicate_succ, Array.replicate_zero, List.push_toArray, List.append_toArray, List.nil_append, List.cons_append]
 go_wp2_with fail
 refine hv.mono ?_
 rintro e w1 ⟨rfl, hb1⟩
 go_wp2_with fail
 exact ⟨_, results_tmp2 rfl _ _ _, rfl, hb0.trans (hb1.mono hb0.size)⟩
set_option maxRecDepth 100000 in
set_option maxHeartbeats 2000000 in
theorem int_long (s : Bool) (A : Option Addr) (n c : Nat) (f : Nat → Nat) (w : World) (h : Rd w.heap.size .u16 w A n f) (hf : ∀ i, i < n → f i < 65536) (hn : n ≤ 1000000) (hok : okW s n f = true) (h4 : 4 < n) :
  Calls Tryz.prog 78 #[.agg #[.bool s, .slice A n c]] w fun e w' => e = .returned (.tuple #[.int .i64 0, .int .i64 3]) ∧ Below w.heap.size w w' := by
 have hb0 : Below w.heap.size w (w.alloc (.cells #[.bool s, .slice A n c] 27)) := (Below.refl _ w).alloc (Nat.le_refl _) _
 have hp0 := WholeAt.new w s (.slice A n c)
 have hv := valid_any s A n c f _ ((h.below hb0).more hb0.size) hf hn
 rw [hok] at hv
 have t4 : (4 : Int) < (n : Int) := by omega
 refine (callsIn_wide (n := 5)).1 ?_
 have hro : Fence.wide.round = none := rfl
 refine callsIn_of_wp_marks Tryz.func78 rfl trivial ?_ hro
 refine wpIn_wide.2 ?_
 simp only [Tryz.ntmps78, List.size_toArray, List.length_cons, List.length_nil, Nat.reduceAdd, Nat.reduceSub, Array.replicate_succ, Array.replicate_zero, List.push_toArray, List.append_toArray, List.nil_append, List.cons_append]
 go_wp2_with fail
 refine hv.mono ?_
 rintro e w1 ⟨rfl, hb1⟩
 obtain ⟨p0, p1⟩ := (hp0.below hb1 hp0.lt).cells
 go_wp2_with fail
 exact ⟨_, results_tmp2 rfl _ _ _, rfl, hb0.trans (hb1.mono hb0.size)⟩
end Go.Proofs.YtjgihmmeimfheaaGreat
namespace Go.Proofs.YtjgihmmeimfheaaGreat
open Go.RowKit Go.Shelf
attribute [local go_sem] Oper.semAt_some

theorem u64_or_add16 {a b : Nat} (ha : a < 281474976710656) (hb : b < 65536) : bits .or .u64 ((65536 * a : Nat) : Int) (b : Int) = ((65536 * a + b : Nat) : Int) := by
 rw [u64_or_nat _ _ (by omega) (by omega), show 65536 * a = 2 ^ 16 * a by rfl, nat_or_add (by omega)]
/-- Does a number fit into an int? -/
def fits (z : Int) : Bool := decide (-9223372036854775808 ≤ z) && decide (z ≤ 9223372036854775807)
/-- What whole.Int returns. -/
def IntR (z r k : Int) : Prop := (fits z = true ∧ r = z ∧ k = 0) ∨ (fits z = false ∧ r = 0 ∧ k = 3)
set_option maxRecDepth 100000 in
set_option maxHeartbeats 2000000 in
theorem down1_in16 (F : Fence) (m : Nat) (hg : F.fn 142) (hro : F.round = none) (hm : 1 ≤ m) (l Bs n₀ n c : Nat) (A : Option Addr) (f : Nat → Nat) (hf : ∀ i, f i < 65536) (hn : n ≤ 1000000) (J Jx : List (Bd 65536) → World → Prop)
  (hY : ∀ pre x W, J pre W → pre.length < n → YieldAt F (m - 1) Tryz.prog l #[.int .u16 ((x : Bd 65536).1 : Int)] W fun e W' =>
   (e = .returned (.bool true) ∧ J (pre ++ [x]) W' ∧ KpB n₀ Bs W W') ∨ (e = .returned (.bool false) ∧ Jx (pre ++ [x]) W'))
  (W : World) (hBs : W.cell? ⟨Bs, 0, none⟩ = some (.slice A n c)) (hc : Rd n₀ .u16 W A n f) (h0 : J [] W) :
  CallsIn F m Tryz.prog 142 #[.func (.yield l) #[] #[], .pointer (some ⟨Bs, 0, none⟩)] W fun e W' => (∃ v, e = .returned v) ∧
   ((∃ ys, ys = dn 65536 f hf n n ∧ J ys W') ∨ (∃ pre, (∃ k, k ≤ n ∧ pre = dn 65536 f hf n k) ∧ Jx pre W')) := by
 refine callsIn_of_wp Tryz.func142 rfl hg ?_ hro
 simp only [Tryz.ntmps142, List.size_toArray, List.length_cons, List.length_nil, Nat.reduceAdd, Nat.reduceSub, Array.replicate_succ, Array.replicate_zero, List.push_toArray, List.append_toArray, List.nil_append, List.cons_append]
 gi_wp2
 gi_loopw [3] (fun i wr => ∃ k : Nat, k ≤ n ∧ i = .int .i64 ((n : Int) - k - 1) ∧ J (dn 65536 f hf n k) wr ∧ KpB n₀ Bs W wr)
  (fun i _ => (intOf i + 1).toNat)
 case atStart => exact ⟨0, Nat.zero_le _, by simp, h0, Below.refl _ _, rfl⟩
 case round =>
  obtain ⟨k, hk, rfl, hJs, hnx⟩ := hrel
  have hbs := hnx.cell.trans hBs
  by_cases hlt : k < n
  ·
   obtain ⟨b, o, rfl, hb, hcc⟩ := hc (by omega)
   obtain ⟨fn, tmps, assign, body, hy, hR⟩ := hY _ (⟨f (n - 1 - k), hf _⟩) wr hJs (by rw [dn_length]; exact hlt)
   dsimp only at hy
   have hcx := (hnx.1.cell (p := ⟨b, o + (n - 1 - k), none⟩) hb).trans (hcc (n - 1 - k) (by omega))
   have ek : ((n : Int) - k - 1) = ((n - 1 - k : Nat) : Int) := by omega
   rw [ek]
   clear ek
   gi_wp2
   refine hR.mono ?_
   rintro e W3 (⟨rfl, hJ3, hk3⟩ | ⟨rfl, hJx3⟩)
   ·
    have hbs3 := hk3.cell.trans hbs
    gi_wp2
    go_roundw
    case rel => exact ⟨k + 1, by omega, by congr 1; omega, by rw [dn_succ]; exact hJ3, hnx.t hk3⟩
    case measure => simp [intOf] <;> omega
   ·
    gi_wp2
    refine bodyPost_ret (results_none rfl _ _ _) rfl ?_
    exact ⟨⟨_, rfl⟩, .inr ⟨_, ⟨k + 1, by omega, (dn_succ ..).symm⟩, hJx3⟩⟩
  ·
   obtain rfl : k = n := by omega
   rw [show (k : Int) - k - 1 = -1 by omega]
   gi_wp2
   go_end0
   exact ⟨⟨_, rfl⟩, .inl ⟨_, rfl, hJs⟩⟩

set_option maxHeartbeats 1000000 in
theorem down_in16 (F : Fence) (m : Nat) (hg : F.fn 118) (hro : F.round = none) (a : Option Addr) (len cap : Nat) (w : World) :
  CallsIn F m Tryz.prog 118 #[.slice a len cap] w fun e w' => e = .returned (.func (.func 142) #[] #[.pointer (some ⟨w.heap.size, 0, none⟩)]) ∧ w' = w.alloc (.cells #[.slice a len cap] 25) := by
 refine callsIn_of_wp Tryz.func118 rfl hg ?_ hro
 simp only [Tryz.ntmps118, List.size_toArray, List.length_cons, List.length_nil, Nat.reduceAdd, Nat.reduceSub, Array.replicate_succ, Array.replicate_zero, List.push_toArray, List.append_toArray, List.nil_append, List.cons_append]
 gi_wp2
 go_ret
 exact ⟨rfl, rfl⟩

theorem down_stops16 (F : Fence) (m : Nat) (hg : F.fn 142) (hro : F.round = none) (hm : 1 ≤ m) (Bs n₀ n c : Nat) (A : Option Addr) (f : Nat → Nat) (hf : ∀ i, f i < 65536) (hn : n ≤ 1000000) (w : World) (hBs : Bs < w.heap.size) (hn₀ : n₀ ≤ w.heap.size)
  (hc : w.cell? ⟨Bs, 0, none⟩ = some (.slice A n c)) (hI : Rd n₀ .u16 w A n f) :
  SeqStopsK F m Tryz.prog 142 #[.pointer (some ⟨Bs, 0, none⟩)] (fun x : Bd 65536 => #[Value.int .u16 (x.1 : Int)]) (KpB n₀ Bs) (fun ys => ys = dn 65536 f hf n n) (fun pre => ∃ k, k ≤ n ∧ pre = dn 65536 f hf n k) n w := fun l J Jx W hW _ _ hY h0 => by
 have hc' := (hW.cell (p := ⟨Bs, 0, none⟩) hBs).trans hc
 exact down1_in16 F m hg hro hm l Bs n₀ n c A f hf hn J Jx hY W hc' (hI.below (hW.mono hn₀)) h0

set_option maxRecDepth 100000 in
set_option maxHeartbeats 2000000 in
theorem int_walk (s : Bool) (A : Option Addr) (n c : Nat) (f : Nat → Nat) (w : World) (h : Rd w.heap.size .u16 w A n f) (hf : ∀ i, f i < 65536) (hok : okW s n f = true) (h4 : n ≤ 4) :
  Calls Tryz.prog 78 #[.agg #[.bool s, .slice A n c]] w fun e w' => ∃ r k, e = .returned (.tuple #[.int .i64 r, .int .i64 k]) ∧ IntR (toI s (vs b16 f n)) r k ∧ Below w.heap.size w w' := by
 have hb0 : Below w.heap.size w (w.alloc (.cells #[.bool s, .slice A n c] 27)) := (Below.refl _ w).alloc (Nat.le_refl _) _
 have hp0 := WholeAt.new w s (.slice A n c)
 have hv := valid_any s A n c f _ ((h.below hb0).more hb0.size) (fun i _ => hf i) (by omega)
 rw [hok] at hv
 have t4 : (n : Int) ≤ 4 := by omega
 have hro : Fence.wide.round = none := rfl
 refine (callsIn_wide (n := 5)).1 ?_
 refine callsIn_of_wp_marks Tryz.func78 rfl trivial ?_ hro
 refine wpIn_wide.2 ?_
 simp only [Tryz.ntmps78, List.size_toArray, List.length_cons, List.length_nil, Nat.reduceAdd, Nat.reduceSub, Array.replicate_succ, Array.replicate_zero, List.push_toArray, List.append_toArray, List.nil_append, List.cons_append]
 go_wp2_with fail
 refine hv.mono ?_
 rintro e w1 ⟨rfl, hb1⟩
 have hp1 := hp0.below hb1 hp0.lt
 have hbl1 := hb0.trans (hb1.mono hb0.size)
 obtain ⟨p0, p1⟩ := hp1.cells
 have hlt := hp1.lt
 go_wp2_with fail
 refine (callsIn_wide.1 (down_in16 Fence.wide 4 trivial hro _ _ _ _)).mono ?_
 rintro e w' ⟨rfl, rfl⟩
 go_wp2_with fail
 have bS := Boxed.new w1 121 (.int .u64 0)
 have bN := Boxed.new (w1.alloc (.cells #[.int .u64 0] 121)) 25 (.slice A n c)
 rw [World.size_alloc] at bN
 have hB0 : Below w1.heap.size w1 ((w1.alloc (.cells #[.int .u64 0] 121)).alloc (.cells #[.slice A n c] 25)) := ((Below.refl _ w1).alloc (Nat.le_refl _) _).alloc (by simp) _
 have hrd : Rd w1.heap.size .u16 w1 A n f := (h.below hbl1).more hbl1.size
 have HV := Lib.hid (vs_lt (B := b16) (f := f) (m := n) fun j _ => hf j)
 clear hv p0 p1 h
 refine (wpIn_wide (n := 5)).1 ?_
 refine wpIn_rangeFunc_ownG hro (by decide) (gf := 142) (lb := #[.pointer (some ⟨w1.heap.size + 1, 0, none⟩)]) rfl trivial (enters_of Tryz.func142 (by kernel_rfl) rfl)
  (down_stops16 Fence.wide (5 - 1) trivial hro (by decide) (w1.heap.size + 1) w1.heap.size n c A f hf (by omega) _ (by simp) (by simp; omega) bN.cell (hrd.below hB0)) KpB.t (KpB.b (by simp; omega) (by simp)) (Below.refl _ _) (fun _ => rfl)
  (fun pre W => (W.cell? ⟨w1.heap.size, 0, none⟩ = some (.int .u64 ((dval b16 pre : Nat) : Int)) ∧ W.frozen? ⟨w1.heap.size, 0, none⟩ = false) ∧ Below w1.heap.size w1 W)
  (fun _ _ _ => False)
  (OwnFrom.and (Own.from (fun s A B row hs hg hr => ⟨cell_kept hs.1 hg hr, (frozen_kept hs.1 hg hr).trans hs.2⟩) _) (ownFrom_below (Nat.le_refl _) (by simp; omega)))
  (fun _ _ _ _ _ hs _ _ => hs)
  ⟨⟨(bS.alloc _).cell, (bS.alloc _).frozen⟩, hB0⟩
  (fun x => { tmps := #[.agg #[.bool s, .slice A n c], .pointer (some ⟨w.heap.size, 0, none⟩), .int .i64 0, .int .i64 0, .pointer (some ⟨w1.heap.size, 0, none⟩), .int .u16 (x.1 : Int), .agg #[.bool s, .slice A n c], .bool true, .bool false, .pointer (some ⟨w.heap.size, 1, none⟩), .slice A n c, .int .i64 (n : Int), .bool (decide ((4 : Int) < (n : Int))), .pointer (some ⟨w.heap.size, 1, none⟩), .slice A n c, .func (.func 142) #[] #[.pointer (some ⟨w1.heap.size + 1, 0, none⟩)], .int .u16 (x.1 : Int), undef, undef, undef, undef, undef, undef, undef, undef, undef, undef, undef, undef, undef, undef, undef, undef], defers := [] }) ?assign ?body ?done ?stop
 case assign =>
  intro l x W K hK
  gi_wp2
  exact hK
 case body =>
  rintro l pre x W ⟨⟨hc, hf⟩, hB⟩ hl
  have h1 := dval_lt (B := b16) (b := 65536) (Nat.le_refl _) pre
  have hv : dval b16 pre < 281474976710656 := Nat.lt_of_lt_of_le h1 (Nat.pow_le_pow_right (n := 65536) (by decide) (show pre.length ≤ 3 by omega))
  have h2 := x.2
  have o1 := u64_or_add16 hv h2
  obtain ⟨X, hX⟩ : ∃ X, X = 65536 * dval b16 pre + x.1 := ⟨_, rfl⟩
  rw [← hX, show ((65536 * dval b16 pre : Nat) : Int) = (dval b16 pre : Int) * 65536 by omega] at o1
  have HX := Lib.hid hX
  clear hX h1
  gi_wp2
  refine ⟨(KeepsOthers.setCell _ _ _).from _, ⟨(Below.refl w1.heap.size W).setCell (p := ⟨w1.heap.size, 0, none⟩) (Nat.le_refl _) _, Below.heap_setCell _ _ _ _ (by simp)⟩, ⟨?_, by rw [World.frozen?_setCell]; exact hf⟩, hB.setCell (p := ⟨w1.heap.size, 0, none⟩) (Nat.le_refl _) _⟩
  have e : dval b16 (pre ++ [x]) = X := by rw [dval_snoc, HX.out, Nat.mul_comm]; rfl
  rw [e]
  exact World.cell?_setCell_same' _ _ _ (by rw [hc]; rfl)
 case done =>
  rintro D ys W hD rfl ⟨⟨hc, _⟩, hB⟩ hK
  rw [dval_all] at hc
  obtain ⟨p0, p1⟩ := (hp1.below hB hp1.lt).cells
  obtain ⟨V, hV⟩ : ∃ V, V = vs b16 f n := ⟨_, rfl⟩
  rw [← hV] at hc
  have hVl : V < 18446744073709551616 := by
   rw [hV]
   exact Nat.lt_of_lt_of_le HV.out (Nat.pow_le_pow_right (n := 65536) (by decide) h4)
  have HX := Lib.hid hV
  clear hV
  have hbW := hbl1.trans (hB.mono hbl1.size)
  have hDw : w.heap.size ≤ D := by have := hbl1.size; simp at hD; omega
  cases s
  ·
   by_cases hb : V < 9223372036854775808
   ·
    have t1 : decide ((9223372036854775808 : Int) ≤ (V : Int)) = false := decide_eq_false (by omega)
    have hR : IntR (toI false (vs b16 f n)) (V : Int) 0 := by
     rw [← HX.out]
     exact .inl ⟨by unfold fits toI; simp; omega, rfl, rfl⟩
    go_wp2_with fail
    refine ⟨by simp, .inl ⟨_, _, rfl, run_takeDeferred hK, ?_⟩⟩
    exact ⟨_, results_tmp2 rfl _ _ _, _, _, rfl, hR, hbW.trans (belowK_b (w := w) (Nat.le_refl _) W D _ _ hDw hK rfl rfl)⟩
   ·
    have t1 : (9223372036854775808 : Int) ≤ (V : Int) := by omega
    have hR : IntR (toI false (vs b16 f n)) 0 3 := by
     rw [← HX.out]
     exact .inr ⟨by unfold fits toI; simp; omega, rfl, rfl⟩
    go_wp2_with fail
    refine ⟨by simp, .inl ⟨_, _, rfl, run_takeDeferred hK, ?_⟩⟩
    exact ⟨_, results_tmp2 rfl _ _ _, _, _, rfl, hR, hbW.trans (belowK_b (w := w) (Nat.le_refl _) W D _ _ hDw hK rfl rfl)⟩
  ·
   by_cases hb : V ≤ 9223372036854775808
   ·
    have t1 : decide ((9223372036854775808 : Int) < (V : Int)) = false := decide_eq_false (by omega)
    have hR : IntR (toI true (vs b16 f n)) (-(V : Int)) 0 := by
     rw [← HX.out]
     exact .inl ⟨by unfold fits toI; simp; omega, rfl, rfl⟩
    have hw : IntKind.i64.wrap (IntKind.u64.wrap (-(V : Int))) = -(V : Int) := by rw [IntKind.wrap_u64, IntKind.wrap_i64]; omega
    go_wp2_with fail
    refine ⟨by simp, .inl ⟨_, _, rfl, run_takeDeferred hK, ?_⟩⟩
    exact ⟨_, results_tmp2 rfl _ _ _, _, _, rfl, hR, hbW.trans (belowK_b (w := w) (Nat.le_refl _) W D _ _ hDw hK rfl rfl)⟩
   ·
    have t1 : (9223372036854775808 : Int) < (V : Int) := by omega
    have hR : IntR (toI true (vs b16 f n)) 0 3 := by
     rw [← HX.out]
     exact .inr ⟨by unfold fits toI; simp; omega, rfl, rfl⟩
    go_wp2_with fail
    refine ⟨by simp, .inl ⟨_, _, rfl, run_takeDeferred hK, ?_⟩⟩
    exact ⟨_, results_tmp2 rfl _ _ _, _, _, rfl, hR, hbW.trans (belowK_b (w := w) (Nat.le_refl _) W D _ _ hDw hK rfl rfl)⟩
 case stop =>
  rintro D c pre W _ _ h _
  exact h.elim
end Go.Proofs.YtjgihmmeimfheaaGreat
