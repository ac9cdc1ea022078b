/-
  Several texts in one: The walks of math/bits' Sub32, Add32, Div32. The walk of whole.minus. The walks of whole.result and whole.sum. The walks of slices.Equal (limbs) and whole.Same. The walk of strconv.FormatUint at base 10. The range-function whole.downwards at words, and whole.long, which ranges over it. The decimal numeral, put together from parts of nine digits. The walk of whole.pack. The walk of whole.divideShort. Words for the walk of whole.Text. The walk of whole.sum. The walk of whole.times. Plain arithmetic behind divide.
-/
import Derived.Test.YtifikcemcflgjaaGreatDoorK1
import Derived.BigQuiet
import Derived.Deep.QuietTactic
import Derived.Test.YtifikcemcflgjaaGreatDoorShelf
import Derived.Lib.ItoaMem
import Derived.Lib.AppendIntMem
import Derived.BigCall
import Derived.BigGuard
import Derived.RangeFuncNested
import Derived.RangeFuncBound
import Derived.RangeFuncCalls
import Derived.RangeFuncLeaves
import Derived.RangeFuncBox
import Derived.Shelf.Abstract
import Derived.Shelf.RegionOpen
import Derived.OwnWalkIn
import Derived.TacticsInMore
import Derived.LoopNIn
import Derived.LoopIn
import Derived.Lib.ItoaNum
import Derived.Lib.BufStepsIn
import Derived.Outline
namespace Go.Proofs.YtifikcemcflgjaaGreatDoor
open Go.RowKit

set_option maxHeartbeats 400000 in
theorem sub32_any (x y b : Nat) (w : World) (hx : x < 4294967296) (hy : y < 4294967296) (hb : b ≤ 1) :
    Calls Tryz.prog 190 #[.int .u32 (x : Int), .int .u32 (y : Int), .int .u32 (b : Int)] w fun e w' => e = .returned (.tuple #[.int .u32 (subD x y b : Nat), .int .u32 (subB x y b : Nat)]) ∧ w = w' := by
  have hs : IntKind.u32.signed = false := rfl
  go_enter Tryz.func190, Tryz.ntmps190
  go_wp2
  go_ret2
  exact ⟨ret_ints (by unfold subD; omega) (sub_borrow_walk hx hy hb), rfl⟩
set_option maxHeartbeats 400000 in
theorem add32_any (x y b : Nat) (w : World) (hx : x < 4294967296) (hy : y < 4294967296) (hb : b ≤ 1) :
    Calls Tryz.prog 241 #[.int .u32 (x : Int), .int .u32 (y : Int), .int .u32 (b : Int)] w fun e w' => e = .returned (.tuple #[.int .u32 ((x + y + b) % 4294967296 : Nat), .int .u32 ((x + y + b) / 4294967296 : Nat)]) ∧ w = w' := by
  go_enter Tryz.func241, Tryz.ntmps241
  go_wp2
  go_ret2
  exact ⟨ret_ints (by omega) (by omega), rfl⟩
theorem div32_lt {h l d : Nat} (hh : h < d) (hl : l < 4294967296) : (4294967296 * h + l) / d < 4294967296 := by
  rw [Nat.div_lt_iff_lt_mul (by omega)]
  have : 4294967296 * (h + 1) ≤ 4294967296 * d := Nat.mul_le_mul_left _ hh
  omega
set_option maxHeartbeats 400000 in
theorem div32_any (h l d : Nat) (w : World) (hh : h < d) (hl : l < 4294967296) (hd : d < 4294967296) :
    Calls Tryz.prog 132 #[.int .u32 (h : Int), .int .u32 (l : Int), .int .u32 (d : Int)] w fun e w' => e = .returned (.tuple #[.int .u32 ((4294967296 * h + l) / d : Nat), .int .u32 ((4294967296 * h + l) % d : Nat)]) ∧ ∃ n, w' = w.drewN n := by
  have hd0 : (0 : Int) < d := by omega
  have h1 : ((d : Int) != 0) = true := by simp; omega
  have h2 : ¬ (d : Int) ≤ h := by omega
  have h3 := u64_or_add (a := h) (b := l) (by omega) hl
  rw [show ((4294967296 * h : Nat) : Int) = (h : Int) * 4294967296 by omega] at h3
  go_enter Tryz.func132, Tryz.ntmps132
  go_wp2
  go_quiet (fail)
  go_wp2
  go_ret2
  have hq := div32_lt hh hl
  have hr := Nat.mod_lt (4294967296 * h + l) (show 0 < d by omega)
  have e1 : (4294967296 * (h : Int) + l) / d = ((4294967296 * h + l) / d : Nat) := by rw [show 4294967296 * (h : Int) + l = ((4294967296 * h + l : Nat) : Int) by omega, ← Int.natCast_ediv]
  have e2 : (4294967296 * (h : Int) + l) % d = ((4294967296 * h + l) % d : Nat) := by rw [show 4294967296 * (h : Int) + l = ((4294967296 * h + l : Nat) : Int) by omega, ← Int.natCast_emod]
  exact ⟨ret_ints (by rw [e1]; exact Int.emod_eq_of_lt (Int.natCast_nonneg _) (by omega)) (by rw [e2]; exact Int.emod_eq_of_lt (Int.natCast_nonneg _) (by omega)), nq, rfl⟩
theorem sub32_zero (x b : Nat) (w : World) (hx : x < 4294967296) (hb : b ≤ 1) :
    Calls Tryz.prog 190 #[.int .u32 (x : Int), .int .u32 0, .int .u32 (b : Int)] w fun e w' => e = .returned (.tuple #[.int .u32 (subD x 0 b : Nat), .int .u32 (subB x 0 b : Nat)]) ∧ w = w' :=
  sub32_any x 0 b w hx (by decide) hb
theorem sub32_int {x y b : Int} {X Y Z : Nat} (ex : x = (X : Int)) (ey : y = (Y : Int)) (eb : b = (Z : Int)) (hx : X < 4294967296) (hy : Y < 4294967296) (hb : Z ≤ 1) (w : World) :
    Calls Tryz.prog 190 #[.int .u32 x, .int .u32 y, .int .u32 b] w fun e w' => e = .returned (.tuple #[.int .u32 (subD X Y Z : Nat), .int .u32 (subB X Y Z : Nat)]) ∧ w = w' := by
  subst ex ey eb
  exact sub32_any X Y Z w hx hy hb
end Go.Proofs.YtifikcemcflgjaaGreatDoor
namespace Go.Proofs.YtifikcemcflgjaaGreatDoor
open Go.RowKit

/-- The borrow before digit k, and digit k, of a difference. -/
def brw (f g : Nat → Nat) : Nat → Nat
  | 0 => 0
  | k + 1 => subB (f k) (g k) (brw f g k)
def dif (f g : Nat → Nat) (k : Nat) : Nat := subD (f k) (g k) (brw f g k)
theorem brw_le (f g : Nat → Nat) (k : Nat) : brw f g k ≤ 1 := by
  cases k with
  | zero => exact Nat.zero_le _
  | succ k => exact subB_le ..
theorem dif_sum {f g : Nat → Nat} (hf : ∀ i, f i < 4294967296) (hg : ∀ i, g i < 4294967296) (n : Nat) : vs b32 f n + b32 ^ n * brw f g n = vs b32 (dif f g) n + vs b32 g n := by
  induction n with
  | zero => simp [vs, brw]
  | succ n ih =>
    have h := sub_eq (hf n) (hg n) (brw_le f g n)
    have h2 : b32 ^ n * (f n + 4294967296 * subB (f n) (g n) (brw f g n)) = b32 ^ n * (subD (f n) (g n) (brw f g n) + g n + brw f g n) := by rw [h]
    rw [vs_succ, vs_succ, vs_succ, brw, dif, Nat.pow_succ, Nat.mul_assoc]
    simp only [Nat.mul_add] at h2
    rw [show b32 * subB (f n) (g n) (brw f g n) = 4294967296 * subB (f n) (g n) (brw f g n) by rfl]
    omega
theorem dif_lt (f g : Nat → Nat) (k : Nat) : dif f g k < 4294967296 := subD_lt ..
theorem dif_total {a b : Nat} (h : b ≤ a) : vs b32 (dif (dgt b32 a) (dgt b32 b)) (ln b32 a) = a - b := by
  have h1 := dif_sum (fun i => dgt32_lt a i) (fun i => dgt32_lt b i) (ln b32 a)
  have h2 := lt_pow_ln b32_two a
  rw [vs_dgt_lt h2, vs_dgt_lt (Nat.lt_of_le_of_lt h h2)] at h1
  have h3 : vs b32 (dif (dgt b32 a) (dgt b32 b)) (ln b32 a) < b32 ^ ln b32 a := vs_lt fun j _ => dif_lt ..
  rcases bit_cases (brw_le (dgt b32 a) (dgt b32 b) (ln b32 a)) with e | e
  · rw [e] at h1; omega
  · rw [e] at h1; omega

/-- What the words are after k rounds. -/
def mst (a b k j : Nat) : Nat := if j < k then dif (dgt b32 a) (dgt b32 b) j else dgt b32 a j

set_option maxHeartbeats 400000 in
theorem minus_any (A B : Option Addr) (c d a b : Nat) (w : World) (ha : Num32 w A a) (hb : Num32 w B b) (hba : b ≤ a) (hn : ln b32 a ≤ 1000000) :
    Calls Tryz.prog 142 #[.slice A (ln b32 a) c, .slice B (ln b32 b) d] w (W32 w (a - b)) := by
  have hlen := ln_mono b32_two hba
  have HN := Lib.hid (@dif_total a b hba)
  go_enter Tryz.func142, Tryz.ntmps142
  go_wp2_with fail
  refine (clone32_any _ _ _ (dgt b32 a) _ ha (by omega)).mono ?_
  rintro e w1 ⟨v, rfl, hown, hbel, -⟩
  obtain ⟨A1, c1, rfl, hnc, hrow⟩ := RowO.of_own hown
  clear hown
  go_wp2_with fail
  go_loopw [6, 13] (fun br i wr => ∃ k : Nat, k ≤ ln b32 a ∧ i = .int .i64 k ∧ br = .int .u32 (brw (dgt b32 a) (dgt b32 b) k : Nat) ∧ RowO w.heap.size wr A1 93 .u32 c1 (ln b32 a) (mst a b k) ∧ Below w.heap.size w wr) (fun _ i _ => ln b32 a - (intOf i).toNat)
  case atStart => exact ⟨0, Nat.zero_le _, rfl, rfl, hrow.congr fun j _ => by simp [mst], hbel⟩
  case round =>
    obtain ⟨k, hk, rfl, rfl, hrow, hbel⟩ := hrel
    have hbr := brw_le (dgt b32 a) (dgt b32 b) k
    by_cases hlt : k < ln b32 a
    · have hx := dgt32_lt a k
      have hy := dgt32_lt b k
      obtain ⟨g, rfl, hg, hr⟩ := hrow (by omega)
      have c0 := hr.cell hlt
      have c2 := hr.frozen k
      rw [show mst a b k k = dgt b32 a k by simp [mst]] at c0
      have hset : ∀ u, u = dif (dgt b32 a) (dgt b32 b) k → Row (wr.setCell ⟨g, k, none⟩ (.int .u32 (u : Int))) g 93 .u32 c1 (ln b32 a) (mst a b (k + 1)) := fun u hu =>
        hr.set (by simp [mst, hu]) fun j _ hj => by simp only [mst, show j < k + 1 ↔ j < k by omega]
      have HSET := Lib.hid hset
      clear hset
      by_cases hkb : k < ln b32 b
      · obtain ⟨p', q', rfl, hp', hcb⟩ := hb (by omega)
        have c1 := (hbel.cell (p := ⟨p', q' + k, none⟩) hp').trans (hcb k hkb)
        go_wp2_with (go_at_call 190; refine (sub32_any _ _ _ _ hx hy hbr).mono ?_; rintro e w' ⟨rfl, rfl⟩)
        go_roundw
        case rel => exact ⟨k + 1, by omega, by go_num, rfl, fun _ => ⟨g, rfl, hg, HSET.out _ rfl⟩, hbel.setCell (by exact hg) _⟩
        case measure => simp [intOf]; omega
      · have h0 : dgt b32 b k = 0 := dgt_of_lt ((ln_le b32_two).1 (by omega))
        have H0 := Lib.hid h0
        clear h0
        go_wp2_with (go_at_call 190; refine (sub32_zero _ _ _ hx hbr).mono ?_; rintro e w' ⟨rfl, rfl⟩)
        go_roundw
        case rel => exact ⟨k + 1, by omega, by go_num, by rw [brw, H0.out], fun _ => ⟨g, rfl, hg, HSET.out _ (by rw [dif, H0.out])⟩, hbel.setCell (by exact hg) _⟩
        case measure => simp [intOf]; omega
    · obtain rfl : k = ln b32 a := by omega
      have hrd := hrow.rd.congr (f' := dif (dgt b32 a) (dgt b32 b)) fun j hj => by simp only [mst, if_pos hj]
      have ht := trim_any A1 _ c1 _ wr hrd (fun i _ => dif_lt ..) hnc (by omega)
      rw [HN.out] at ht
      go_wp2_with fail
      refine ht.mono ?_
      rintro e w2 ⟨rfl, rfl, hnum, hlc⟩
      go_wp2
      go_ret
      exact ⟨A1, c1, rfl, hlc, hnum, hbel⟩
end Go.Proofs.YtifikcemcflgjaaGreatDoor
namespace Go.Proofs.YtifikcemcflgjaaGreatDoor
open Go.RowKit

/-- The number of a sign and an absolute value. -/
def toI (s : Bool) (x : Nat) : Int := if s then -(x : Int) else x
theorem toI_abs (s : Bool) (x : Nat) : (toI s x).natAbs = x := by unfold toI; split <;> omega
theorem toI_neg (s : Bool) (x : Nat) : decide (toI s x < 0) = (s && decide (0 < x)) := by
  cases s
  · simp [toI]
  · simp [toI]
theorem toI_int (z : Int) : toI (decide (z < 0)) z.natAbs = z := by
  unfold toI
  by_cases h : z < 0
  · rw [if_pos (decide_eq_true h)]; omega
  · rw [if_neg (by simpa using h)]; omega
theorem store_whole {w w1 : World} {B R : Nat} {s : Bool} {v : Value} (h : WholeAt w1 R s v) (hb : Below B w w1) (hR : B ≤ R) (s' : Bool) (v' : Value) :
    WholeAt ((w1.setCell ⟨R, 0, none⟩ (.bool s')).setCell ⟨R, 1, none⟩ v') R s' v' ∧ Below B w ((w1.setCell ⟨R, 0, none⟩ (.bool s')).setCell ⟨R, 1, none⟩ v') :=
  ⟨h.set s' v', (hb.setCell (p := ⟨R, 0, none⟩) hR _).setCell (p := ⟨R, 1, none⟩) hR _⟩
theorem store_own {w1 : World} {R base n c : Nat} {A : Option Addr} {f : Nat → Nat} (h : Own16 base w1 A n c f) (hR : R < base) (s' : Bool) (v' : Value) :
    Own16 base ((w1.setCell ⟨R, 0, none⟩ (.bool s')).setCell ⟨R, 1, none⟩ v') A n c f :=
  ownsRow_setCell_below (ownsRow_setCell_below h (a := ⟨R, 0, none⟩) hR _) (a := ⟨R, 1, none⟩) hR _
/-- The call returned the whole number z, in memory of its own, or ErrLong. -/
def RI (w : World) (z : Int) (e : Ending) (w' : World) : Prop :=
  (ln b16 z.natAbs ≤ 1024 ∧ ∃ A c, e = .returned (.tuple #[.agg #[.bool (decide (z < 0)), .slice A (ln b16 z.natAbs) c], .int .i64 0]) ∧ Own16 w.heap.size w' A (ln b16 z.natAbs) c (dgt b16 z.natAbs) ∧ Below w.heap.size w w') ∨
  (1024 < ln b16 z.natAbs ∧ e = .returned (.tuple #[.agg #[.bool false, .slice none 0 0], .int .i64 3]) ∧ Below w.heap.size w w')
theorem RI.mono {w w1 : World} {z : Int} {e : Ending} {w' : World} (h : RI w1 z e w') (hb : Below w.heap.size w w1) : RI w z e w' := by
  rcases h with ⟨h1, A, c, he, ho, hb'⟩ | ⟨h1, he, hb'⟩
  · exact .inl ⟨h1, A, c, he, ho.lower hb.size, hb.trans (hb'.mono hb.size)⟩
  · exact .inr ⟨h1, he, hb.trans (hb'.mono hb.size)⟩

set_option maxRecDepth 100000 in
set_option maxHeartbeats 1000000 in
theorem result_any (s : Bool) (A : Option Addr) (c x : Nat) (w : World) (h : Num32 w A x) (hc : ln b32 x ≤ c) (hn : ln b32 x ≤ 1000000) :
    Calls Tryz.prog 109 #[.bool s, .slice A (ln b32 x) c] w (RI w (toI s x)) := by
  have hl16 : ln b16 x ≤ 2000000 := by have := ln32_two x; omega
  go_enter Tryz.func109, Tryz.ntmps109
  go_wp2_with fail
  have hR0 := WholeAt.new w false (.slice none 0 0)
  have hb0 : Below w.heap.size w (w.alloc (.cells #[.bool false, .slice none 0 0] 24)) := (Below.refl _ w).alloc (Nat.le_refl _) _
  refine (unpack_any s A c x _ (Num32.below h hb0) hc hn).mono ?_
  rintro e w1 ⟨B, d, rfl, hown, hb1⟩
  have hR1 := hR0.below hb1 hR0.lt
  have hbl1 := hb0.trans (hb1.mono hb0.size)
  obtain ⟨r0, r1⟩ := hR1.cells
  have g0 := hR1.frozen 0
  have g1 := hR1.frozen 1
  have hlt := hR1.lt
  by_cases hl : 1024 < ln b16 x
  · have t1 : (1024 : Int) < (ln b16 x : Int) := by omega
    go_wp2_with fail
    obtain ⟨hW, hbW⟩ := store_whole hR1 hbl1 (Nat.le_refl _) false (.slice none 0 0)
    generalize ((w1.setCell ⟨w.heap.size, 0, none⟩ (.bool false)).setCell ⟨w.heap.size, 1, none⟩ (.slice none 0 0)) = WW at *
    have hW2 : WholeAt (WW.alloc (.cells #[.bool (s && decide (0 < x)), .slice B (ln b16 x) d] 24)) w.heap.size false (.slice none 0 0) := (Below.heap_alloc _ _ _ hW.lt).trans hW
    obtain ⟨k0, k1⟩ := hW2.cells
    refine bodyPost_ret (v := .tuple #[.agg #[.bool false, .slice none 0 0], .int .i64 3]) (by simp [results, Tryz.results109, go_sem, k0, k1]) rfl ?_
    exact .inr ⟨by rw [toI_abs]; exact hl, rfl, hbW.alloc hbW.size _⟩
  · have t1 : ¬ ((1024 : Int) < (ln b16 x : Int)) := by omega
    go_wp2_with fail
    obtain ⟨hW, hbW⟩ := store_whole hR1 hbl1 (Nat.le_refl _) (s && decide (0 < x)) (.slice B (ln b16 x) d)
    have hO := (store_own (R := w.heap.size) hown (by simp) (s && decide (0 < x)) (.slice B (ln b16 x) d)).lower (base' := w.heap.size) (by simp)
    generalize ((w1.setCell ⟨w.heap.size, 0, none⟩ (.bool (s && decide (0 < x)))).setCell ⟨w.heap.size, 1, none⟩ (.slice B (ln b16 x) d)) = WW at *
    have hW2 : WholeAt (WW.alloc (.cells #[.bool (s && decide (0 < x)), .slice B (ln b16 x) d] 24)) w.heap.size (s && decide (0 < x)) (.slice B (ln b16 x) d) := (Below.heap_alloc _ _ _ hW.lt).trans hW
    obtain ⟨k0, k1⟩ := hW2.cells
    refine bodyPost_ret (v := .tuple #[.agg #[.bool (s && decide (0 < x)), .slice B (ln b16 x) d], .int .i64 0]) (by simp [results, Tryz.results109, go_sem, k0, k1]) rfl ?_
    refine .inl ⟨by rw [toI_abs]; omega, B, d, by rw [toI_abs, toI_neg], by rw [toI_abs]; exact hO.alloc _, hbW.alloc hbW.size _⟩
end Go.Proofs.YtifikcemcflgjaaGreatDoor
namespace Go.Proofs.YtifikcemcflgjaaGreatDoor
open Go.RowKit

/-- Are the first n limbs equal? -/
def eqU (f h : Nat → Nat) : Nat → Bool
  | 0 => true
  | n + 1 => eqU f h n && (f n == h n)
theorem eqU_false {f h : Nat → Nat} {k n : Nat} (hk : k < n) (he : f k ≠ h k) : eqU f h n = false := by
  induction n with
  | zero => omega
  | succ n ih =>
    simp only [eqU]
    by_cases e : k = n
    · subst e; rw [beq_false_of_ne he, Bool.and_false]
    · rw [ih (by omega), Bool.false_and]
theorem eqU_step {f h : Nat → Nat} {k : Nat} (hk : eqU f h k = true) (he : f k = h k) : eqU f h (k + 1) = true := by
  simp only [eqU]; rw [hk, he]; simp
def eqL (n m : Nat) (f h : Nat → Nat) : Bool := (n == m) && eqU f h n

set_option maxRecDepth 100000 in
set_option maxHeartbeats 1000000 in
theorem equal16_any (A B : Option Addr) (n m c d : Nat) (f h : Nat → Nat) (w : World) (hA : Rd w.heap.size .u16 w A n f) (hB : Rd w.heap.size .u16 w B m h)
    (hn : n ≤ 1000000) (hm : m ≤ 1000000) :
    Calls Tryz.prog 153 #[.slice A n c, .slice B m d] w fun e w' => e = .returned (.bool (eqL n m f h)) ∧ ∃ q, w' = w.drewN q := by
  go_enter Tryz.func153, Tryz.ntmps153
  by_cases hl : n = m
  · subst hl
    have t0 : ((n : Int) != (n : Int)) = false := by simp
    go_wp2_with fail
    go_loopw [13] (fun i wr => ∃ k : Nat, k ≤ n ∧ i = .int .i64 (k : Int) ∧ eqU f h k = true ∧ ∃ q, wr = w.drewN q) (fun i _ => n - (intOf i).toNat)
    case atStart => exact ⟨0, Nat.zero_le _, rfl, rfl, 0, rfl⟩
    case round =>
      obtain ⟨k, hk, rfl, hok, q, rfl⟩ := hrel
      have HOK := Lib.hid hok
      clear hok
      by_cases hlt : k < n
      · obtain ⟨pa, qa, rfl, hpa, hca⟩ := hA (by omega)
        obtain ⟨pb, qb, rfl, hpb, hcb⟩ := hB (by omega)
        have c1 := hca k hlt
        have c2 := hcb k hlt
        clear hca hcb
        by_cases he : f k = h k
        · have t1 : (((f k : Nat) : Int) != ((h k : Nat) : Int)) = false := by rw [he]; simp
          have HE := Lib.hid he
          clear he
          go_wp2_with fail
          go_quiet (fail)
          go_wp2
          go_roundw
          case rel => exact ⟨k + 1, by omega, by go_num, eqU_step HOK.out HE.out, q + nq, rfl⟩
          case measure => simp [intOf]; omega
        · have t1 : (((f k : Nat) : Int) != ((h k : Nat) : Int)) = true := bne_iff_ne.2 (by omega)
          have hfin : eqL n n f h = false := by unfold eqL; rw [eqU_false hlt he, Bool.and_false]
          have HF := Lib.hid hfin
          clear hfin he
          go_wp2_with fail
          go_quiet (fail)
          go_wp2
          go_ret
          exact ⟨ret_bool HF.out.symm, q + nq, World.drewN_drewN ..⟩
      · obtain rfl : k = n := by omega
        have hfin : eqL k k f h = true := by unfold eqL; rw [HOK.out]; simp
        have HF := Lib.hid hfin
        clear hfin
        go_wp2_with fail
        go_ret
        exact ⟨ret_bool HF.out.symm, q, rfl⟩
  · have t0 : ((n : Int) != (m : Int)) = true := bne_iff_ne.2 (by omega)
    have hfin : eqL n m f h = false := by unfold eqL; rw [beq_false_of_ne hl, Bool.false_and]
    have HF := Lib.hid hfin
    clear hfin
    go_wp2_with fail
    go_ret
    exact ⟨ret_bool HF.out.symm, 0, rfl⟩

/-- Are two numbers the same? -/
def sameW (s t : Bool) (n m : Nat) (f h : Nat → Nat) : Bool := (s == t) && eqL n m f h
set_option maxRecDepth 100000 in
set_option maxHeartbeats 1000000 in
theorem same_any (s t : Bool) (A B : Option Addr) (n m c d : Nat) (f h : Nat → Nat) (w : World) (hA : Rd w.heap.size .u16 w A n f) (hB : Rd w.heap.size .u16 w B m h) (hn : n ≤ 1000000) (hm : m ≤ 1000000) :
    Calls Tryz.prog 124 #[.agg #[.bool s, .slice A n c], .agg #[.bool t, .slice B m d]] w fun e w' => e = .returned (.bool (sameW s t n m f h)) ∧ Below w.heap.size w w' := by
  have b1 : Below w.heap.size w (w.alloc (.cells #[.bool s, .slice A n c] 24)) := (Below.refl _ w).alloc (Nat.le_refl _) _
  have b2 := b1.alloc b1.size (.cells #[.bool t, .slice B m d] 24)
  go_enter Tryz.func124, Tryz.ntmps124
  by_cases hst : s = t
  · subst hst
    have t0 : (s == s) = true := by simp
    go_wp2_with fail
    refine (equal16_any A B n m c d f h _ ((hA.below b2).more b2.size) ((hB.below b2).more b2.size) hn hm).mono ?_
    rintro e w3 ⟨rfl, q, rfl⟩
    go_wp2_with fail
    go_ret
    exact ⟨ret_bool (by simp [sameW]), belowN b2 q⟩
  · have t0 : (s == t) = false := by simp [hst]
    have hfin : sameW s t n m f h = false := by unfold sameW; rw [t0, Bool.false_and]
    have HF := Lib.hid hfin
    clear hfin
    go_wp2_with fail
    go_ret
    exact ⟨ret_bool HF.out.symm, b2⟩
end Go.Proofs.YtifikcemcflgjaaGreatDoor
namespace Go.Proofs.YtifikcemcflgjaaGreatDoor
open Go.RowKit Go.Shelf Go.Sort

/-- The table of powers of ten, as the program lays it. -/
def Tab (w : World) : Prop := Lib.TabIs Tryz.prog w "internal/strconv.uint64pow10" .u64 Lib.pow10Tab
theorem holds_zero0 (w : World) (T : TypeId) (nd : Nat) (hs : nd ≤ 24) : Holds (fun (b : UInt8) => Value.int .u8 (b.toNat : Int)) (w.alloc (.cells Lib.zeros24 T)) w.heap.size 0 (Array.replicate nd (0 : UInt8)) := fun j hj => by
  have hj' : j < nd := by simpa using hj
  refine ⟨?_, World.frozen?_alloc_new _ _ _ _⟩
  rw [World.cell?_alloc_new, Nat.zero_add, Lib.zeros24_at _ (by omega), getElem!_pos _ j hj]
  simp
set_option maxRecDepth 100000 in
set_option maxHeartbeats 1000000 in
theorem formatUint_in (u : Nat) (hu64 : u < 18446744073709551616) (w : World) (htab : Tab w) :
    Calls Tryz.prog 135 #[.int .u64 (u : Int), .int .i64 10] w fun e w' => e = .returned (.string ⟨(Lib.decDigits u).toArray⟩) ∧ Below w.heap.size w w' := by
  by_cases hs : u < 100
  · go_enter Tryz.func135, Tryz.ntmps135
    go_wp2_with fail
    refine (Tryz.internal_strconv_small u hs _).mono ?_
    rintro e w' ⟨rfl, rfl⟩
    go_wp2
    go_ret
    exact ⟨rfl, Below.refl _ _⟩
  · have hu1 : 1 ≤ u := by omega
    have hu100 : ¬ ((u : Int) < 100) := by omega
    have hnd20 : Lib.nDigits u ≤ 20 := by have := Lib.numDigits_eq u hu1 hu64; split at this <;> omega
    have hal : (Tryz.prog).arrayLen 193 = 24 := by kernel_rfl
    have hsl : ∀ W, (Instr.sliceAt 193 (.pointer (some ⟨w.heap.size, 0, none⟩)) none (some (.int .i64 (Lib.nDigits u : Int))) none).run Tryz.prog W = .ok (.slice (some ⟨w.heap.size, 0, none⟩) (Lib.nDigits u) 24) W := fun W => by
      rw [run_sliceAt_array_h W 193 ⟨w.heap.size, 0, none⟩ (by simp [Program.arrayLen, Program.elem, Tryz.underlying193]) .i64 (Lib.nDigits u : Int) (by omega) (by rw [hal]; omega)]
      go_simp
    have hH0 := holds_zero0 w 193 (Lib.nDigits u) (by omega)
    have hfmt := Tryz.internal_strconv_formatBase10 w.heap.size 0 24 u (Array.replicate (Lib.nDigits u) 0) (w.alloc (.cells Lib.zeros24 193)) hH0 (by rw [Array.size_replicate]; exact Lib.lt_pow_nDigits u) hu64 (by rw [Array.size_replicate]; omega)
    rw [Array.size_replicate] at hfmt
    have HH0 := Lib.hid hH0
    clear hH0 hal
    go_enter Tryz.func135, Tryz.ntmps135
    go_wp2_with fail
    refine (Tryz.internal_strconv_numDigits u hu1 hu64 _ (Lib.tabIs_alloc htab _)).mono ?_
    rintro e w' ⟨rfl, rfl⟩
    go_wp2_with fail
    refine hfmt.mono ?_
    rintro e w' ⟨rfl, k, v', dk, rfl, hF⟩
    have hcv : (convert 96 9 (.slice (some ⟨w.heap.size, 0, none⟩) (Lib.nDigits u) 24)).run Tryz.prog ((putRow (fun (b : UInt8) => Value.int .u8 (b.toNat : Int)) (w.alloc (.cells Lib.zeros24 193)) w.heap.size 0 dk).drewN k) = .ok (.string ⟨(Lib.decDigits u).toArray⟩) ((putRow (fun (b : UInt8) => Value.int .u8 (b.toNat : Int)) (w.alloc (.cells Lib.zeros24 193)) w.heap.size 0 dk).drewN k) := by
      have h := run_convert_bytes_back (P := Tryz.prog) ((putRow (fun (b : UInt8) => Value.int .u8 (b.toNat : Int)) (w.alloc (.cells Lib.zeros24 193)) w.heap.size 0 dk).drewN k) 96 9 5 ⟨w.heap.size, 0, none⟩ 24 (Lib.decDigits u) Tryz.underlying96 Tryz.underlying5 Tryz.underlying9 (fun j hj => by
        rw [Lib.row_is_numeral hF j hj, Lib.add_plain, World.cell?_drewN]
        exact cell?_putRow (fun (b : UInt8) => Value.int .u8 (b.toNat : Int)) _ w.heap.size 0 _ dk HH0.out (by rw [hF.size, Array.size_replicate]) j (by rw [hF.size]; rw [Lib.decDigits_length] at hj; exact hj))
      rw [Lib.decDigits_length] at h
      exact h
    go_wp2
    go_ret
    obtain ⟨os, eo⟩ := Lib.fin_at w (.cells Lib.zeros24 193) dk k 0
    refine ⟨rfl, ?_⟩
    rw [eo]
    exact Lib.below_grow _ w (Nat.le_refl _) k os
set_option maxRecDepth 100000 in
theorem formatUint_any (u : Nat) (hu64 : u < 18446744073709551616) (w : World) (htab : Tab w) :
    Calls Tryz.prog 86 #[.int .u64 (u : Int), .int .i64 10] w fun e w' => e = .returned (.string ⟨(Lib.decDigits u).toArray⟩) ∧ Below w.heap.size w w' := by
  go_enter Tryz.func86, Tryz.ntmps86
  go_wp2_with fail
  refine (formatUint_in u hu64 w htab).mono ?_
  rintro e w' ⟨rfl, hb⟩
  go_wp2
  go_ret
  exact ⟨rfl, hb⟩
end Go.Proofs.YtifikcemcflgjaaGreatDoor
namespace Go.Proofs.YtifikcemcflgjaaGreatDoor
open Go.RowKit Go.Shelf
attribute [local go_sem] Oper.semAt_some

/-- A number below a bound. -/
abbrev Bd (b : Nat) := { x : Nat // x < b }
/-- The first k of the numbers f (n - 1), .., f 0. -/
def dn (b : Nat) (f : Nat → Nat) (hf : ∀ i, f i < b) (n k : Nat) : List (Bd b) := (List.range k).map fun j => ⟨f (n - 1 - j), hf _⟩
theorem dn_succ (b : Nat) (f : Nat → Nat) (hf : ∀ i, f i < b) (n k : Nat) : dn b f hf n (k + 1) = dn b f hf n k ++ [⟨f (n - 1 - k), hf _⟩] := by simp [dn, List.range_succ]
theorem dn_length (b : Nat) (f : Nat → Nat) (hf : ∀ i, f i < b) (n k : Nat) : (dn b f hf n k).length = k := by simp [dn]
/-- Its value: each further digit is the least significant one. -/
def dval (B : Nat) {b : Nat} (l : List (Bd b)) : Nat := l.foldl (fun s x => s * B + x.1) 0
theorem dval_snoc (B : Nat) {b : Nat} (l : List (Bd b)) (x : Bd b) : dval B (l ++ [x]) = dval B l * B + x.1 := by simp [dval]
theorem dval_dn (B b : Nat) (f : Nat → Nat) (hf : ∀ i, f i < b) (n k : Nat) (hk : k ≤ n) : dval B (dn b f hf n k) = vs B (fun i => f (n - k + i)) k := by
  induction k with
  | zero => rfl
  | succ k ih =>
    rw [dn_succ, dval_snoc, ih (by omega), vs_first, Nat.mul_comm, Nat.add_comm]
    congr 1
    · rw [show n - 1 - k = n - (k + 1) + 0 by omega]
    · congr 1
      exact vs_congr fun i _ => by rw [show n - k + i = n - (k + 1) + (i + 1) by omega]
theorem dval_all (B b : Nat) (f : Nat → Nat) (hf : ∀ i, f i < b) (n : Nat) : dval B (dn b f hf n n) = vs B f n := by
  rw [dval_dn B b f hf n n (Nat.le_refl _)]
  exact vs_congr fun i _ => by rw [Nat.sub_self, Nat.zero_add]
theorem dval_lt {B b : Nat} (hb : b ≤ B) (l : List (Bd b)) : dval B l < B ^ l.length := by
  rw [← List.reverse_reverse l]
  generalize l.reverse = m
  induction m with
  | nil => simp [dval]
  | cons x m ih =>
    rw [List.reverse_cons, dval_snoc, List.length_append, List.length_singleton, Nat.pow_succ]
    have h1 : (dval B m.reverse + 1) * B ≤ B ^ m.reverse.length * B := Nat.mul_le_mul_right _ ih
    have h2 := x.2
    rw [Nat.add_mul, Nat.one_mul] at h1
    omega

/-- What a round keeps: all below block n₀, and the iterator's own box. -/
def KpB (n₀ Bs : Nat) (W W' : World) : Prop := Below n₀ W W' ∧ W'.heap[Bs]? = W.heap[Bs]?
theorem KpB.t {n₀ Bs : Nat} {A B C : World} (h : KpB n₀ Bs A B) (k : KpB n₀ Bs B C) : KpB n₀ Bs A C := ⟨h.1.trans k.1, k.2.trans h.2⟩
theorem KpB.b {n₀ Bs : Nat} {w : World} (hn : n₀ ≤ w.heap.size) (hB : Bs < w.heap.size) (W : World) (l : Nat) (o o' : Obj) (hl : w.heap.size ≤ l) (h : W.heap[l]? = some o) (h1 : o.isCells = false) (h2 : o.isWalk = false) : KpB n₀ Bs W (W.putObj l o') :=
  ⟨belowK_b hn W l o o' hl h h1 h2, World.putObj_heap_other (by omega)⟩
theorem KpB.cell {n₀ Bs : Nat} {W W' : World} (h : KpB n₀ Bs W W') : W'.cell? ⟨Bs, 0, none⟩ = W.cell? ⟨Bs, 0, none⟩ := World.cell?_of_block (w := W) h.2

set_option maxRecDepth 100000 in
set_option maxHeartbeats 2000000 in
theorem down1_in (F : Fence) (m : Nat) (hg : F.fn 134) (hro : F.round = none) (hm : 1 ≤ m) (l Bs n₀ n c : Nat) (A : Option Addr) (f : Nat → Nat) (hf : ∀ i, f i < 4294967296) (hn : n ≤ 1000000) (J Jx : List (Bd 4294967296) → World → Prop)
    (hY : ∀ pre x W, J pre W → pre.length < n → YieldAt F (m - 1) Tryz.prog l #[.int .u32 ((x : Bd 4294967296).1 : Int)] W fun e W' =>
      (e = .returned (.bool true) ∧ J (pre ++ [x]) W' ∧ KpB n₀ Bs W W') ∨ (e = .returned (.bool false) ∧ Jx (pre ++ [x]) W'))
    (W : World) (hBs : W.cell? ⟨Bs, 0, none⟩ = some (.slice A n c)) (hc : Rd n₀ .u32 W A n f) (h0 : J [] W) :
    CallsIn F m Tryz.prog 134 #[.func (.yield l) #[] #[], .pointer (some ⟨Bs, 0, none⟩)] W fun e W' => (∃ v, e = .returned v) ∧
      ((∃ ys, ys = dn 4294967296 f hf n n ∧ J ys W') ∨ (∃ pre, (∃ k, k ≤ n ∧ pre = dn 4294967296 f hf n k) ∧ Jx pre W')) := by
  refine callsIn_of_wp Tryz.func134 rfl hg ?_ hro
  simp only [Tryz.ntmps134, List.size_toArray, List.length_cons, List.length_nil, Nat.reduceAdd, Nat.reduceSub, Array.replicate_succ, Array.replicate_zero, List.push_toArray, List.append_toArray, List.nil_append, List.cons_append]
  gi_wp2
  gi_loopw [3] (fun i wr => ∃ k : Nat, k ≤ n ∧ i = .int .i64 ((n : Int) - k - 1) ∧ J (dn 4294967296 f hf n k) wr ∧ KpB n₀ Bs W wr)
    (fun i _ => (intOf i + 1).toNat)
  case atStart => exact ⟨0, Nat.zero_le _, by simp, h0, Below.refl _ _, rfl⟩
  case round =>
    obtain ⟨k, hk, rfl, hJs, hnx⟩ := hrel
    have hbs := hnx.cell.trans hBs
    by_cases hlt : k < n
    · obtain ⟨b, o, rfl, hb, hcc⟩ := hc (by omega)
      obtain ⟨fn, tmps, assign, body, hy, hR⟩ := hY _ (⟨f (n - 1 - k), hf _⟩) wr hJs (by rw [dn_length]; exact hlt)
      dsimp only at hy
      have hcx := (hnx.1.cell (p := ⟨b, o + (n - 1 - k), none⟩) hb).trans (hcc (n - 1 - k) (by omega))
      have ek : ((n : Int) - k - 1) = ((n - 1 - k : Nat) : Int) := by omega
      rw [ek]
      clear ek
      gi_wp2
      refine hR.mono ?_
      rintro e W3 (⟨rfl, hJ3, hk3⟩ | ⟨rfl, hJx3⟩)
      · have hbs3 := hk3.cell.trans hbs
        gi_wp2
        go_roundw
        case rel => exact ⟨k + 1, by omega, by congr 1; omega, by rw [dn_succ]; exact hJ3, hnx.t hk3⟩
        case measure => simp [intOf] <;> omega
      · gi_wp2
        refine bodyPost_ret (results_none rfl _ _ _) rfl ?_
        exact ⟨⟨_, rfl⟩, .inr ⟨_, ⟨k + 1, by omega, (dn_succ ..).symm⟩, hJx3⟩⟩
    · obtain rfl : k = n := by omega
      rw [show (k : Int) - k - 1 = -1 by omega]
      gi_wp2
      go_end0
      exact ⟨⟨_, rfl⟩, .inl ⟨_, rfl, hJs⟩⟩

set_option maxHeartbeats 1000000 in
theorem down_in (F : Fence) (m : Nat) (hg : F.fn 85) (hro : F.round = none) (a : Option Addr) (len cap : Nat) (w : World) :
    CallsIn F m Tryz.prog 85 #[.slice a len cap] w fun e w' => e = .returned (.func (.func 134) #[] #[.pointer (some ⟨w.heap.size, 0, none⟩)]) ∧ w' = w.alloc (.cells #[.slice a len cap] 91) := by
  refine callsIn_of_wp Tryz.func85 rfl hg ?_ hro
  simp only [Tryz.ntmps85, List.size_toArray, List.length_cons, List.length_nil, Nat.reduceAdd, Nat.reduceSub, Array.replicate_succ, Array.replicate_zero, List.push_toArray, List.append_toArray, List.nil_append, List.cons_append]
  gi_wp2
  go_ret
  exact ⟨rfl, rfl⟩

theorem down_stops (F : Fence) (m : Nat) (hg : F.fn 134) (hro : F.round = none) (hm : 1 ≤ m) (Bs n₀ n c : Nat) (A : Option Addr) (f : Nat → Nat) (hf : ∀ i, f i < 4294967296) (hn : n ≤ 1000000) (w : World) (hBs : Bs < w.heap.size) (hn₀ : n₀ ≤ w.heap.size)
    (hc : w.cell? ⟨Bs, 0, none⟩ = some (.slice A n c)) (hI : Rd n₀ .u32 w A n f) :
    SeqStopsK F m Tryz.prog 134 #[.pointer (some ⟨Bs, 0, none⟩)] (fun x : Bd 4294967296 => #[Value.int .u32 (x.1 : Int)]) (KpB n₀ Bs) (fun ys => ys = dn 4294967296 f hf n n) (fun pre => ∃ k, k ≤ n ∧ pre = dn 4294967296 f hf n k) n w := fun l J Jx W hW _ _ hY h0 => by
  have hc' := (hW.cell (p := ⟨Bs, 0, none⟩) hBs).trans hc
  exact down1_in F m hg hro hm l Bs n₀ n c A f hf hn J Jx hY W hc' (hI.below (hW.mono hn₀)) h0

set_option maxRecDepth 100000 in
set_option maxHeartbeats 2000000 in
/-- long: the value of at most two words. -/
theorem long_walk (A : Option Addr) (n c : Nat) (f : Nat → Nat) (hf : ∀ i, f i < 4294967296) (w : World) (hx : Rd w.heap.size .u32 w A n f) (hn : n ≤ 2) :
    Calls Tryz.prog 238 #[.slice A n c] w fun e w' => e = .returned (.int .u64 ((vs b32 f n : Nat) : Int)) ∧ Below w.heap.size w w' := by
  refine (callsIn_wide (n := 5)).1 ?_
  have hro : Fence.wide.round = none := rfl
  refine callsIn_of_wp_marks Tryz.func238 rfl trivial ?_ hro
  simp only [Tryz.ntmps238, List.size_toArray, List.length_cons, List.length_nil, Nat.reduceAdd, Nat.reduceSub, Array.replicate_succ, Array.replicate_zero, List.push_toArray, List.append_toArray, List.nil_append, List.cons_append]
  gi_wp2_with (refine ⟨trivial, ?_⟩; gi_at_call 85; refine (down_in Fence.wide (5 - 1) trivial hro _ _ _ _).mono ?_; rintro e w' ⟨rfl, rfl⟩)
  have bS := Boxed.new w 68 (.int .u64 0)
  have bN := Boxed.new (w.alloc (.cells #[.int .u64 0] 68)) 91 (.slice A n c)
  rw [World.size_alloc] at bN
  have hB0 : Below w.heap.size w ((w.alloc (.cells #[.int .u64 0] 68)).alloc (.cells #[.slice A n c] 91)) := ((Below.refl _ w).alloc (Nat.le_refl _) _).alloc (by simp) _
  refine wpIn_rangeFunc_ownG hro (by decide) (gf := 134) (lb := #[.pointer (some ⟨w.heap.size + 1, 0, none⟩)]) rfl trivial (enters_of Tryz.func134 (by kernel_rfl) rfl)
    (down_stops Fence.wide (5 - 1) trivial hro (by decide) (w.heap.size + 1) w.heap.size n c A f hf (by omega) _ (by simp) (by simp; omega) bN.cell (hx.below hB0)) KpB.t (KpB.b (by simp; omega) (by simp)) (Below.refl _ _) (fun _ => rfl)
    (fun pre W => (W.cell? ⟨w.heap.size, 0, none⟩ = some (.int .u64 ((dval b32 pre : Nat) : Int)) ∧ W.frozen? ⟨w.heap.size, 0, none⟩ = false) ∧ Below w.heap.size w W)
    (fun _ _ _ => False)
    (OwnFrom.and (Own.from (fun s A B row hs hg hr => ⟨cell_kept hs.1 hg hr, (frozen_kept hs.1 hg hr).trans hs.2⟩) _) (ownFrom_below (Nat.le_refl _) (by simp; omega)))
    (fun _ _ _ _ _ hs _ _ => hs)
    ⟨⟨(bS.alloc _).cell, (bS.alloc _).frozen⟩, hB0⟩
    (fun x => { tmps := #[.slice A n c, undef, .int .u64 0, .pointer (some ⟨w.heap.size, 0, none⟩), .int .u32 (x.1 : Int), .slice A n c, .func (.func 134) #[] #[.pointer (some ⟨w.heap.size + 1, 0, none⟩)], .int .u32 (x.1 : Int), undef, undef, undef, undef, undef, undef], defers := [] }) ?assign ?body ?done ?stop
  case assign =>
    intro l x W K hK
    gi_wp2
    exact hK
  case body =>
    rintro l pre x W ⟨⟨hc, hf⟩, hB⟩ hl
    have h1 := dval_lt (B := b32) (b := 4294967296) (Nat.le_refl _) pre
    have hv : dval b32 pre < 4294967296 := Nat.lt_of_lt_of_le h1 (Nat.pow_le_pow_right (by decide) (show pre.length ≤ 1 by omega))
    have h2 := x.2
    have o1 := u64_or_add hv h2
    obtain ⟨X, hX⟩ : ∃ X, X = 4294967296 * dval b32 pre + x.1 := ⟨_, rfl⟩
    rw [← hX, show ((4294967296 * dval b32 pre : Nat) : Int) = (dval b32 pre : Int) * 4294967296 by omega] at o1
    have HX := Lib.hid hX
    clear hX h1
    gi_wp2
    refine ⟨(KeepsOthers.setCell _ _ _).from _, ⟨(Below.refl w.heap.size W).setCell (p := ⟨w.heap.size, 0, none⟩) (Nat.le_refl _) _, Below.heap_setCell _ _ _ _ (by simp)⟩, ⟨?_, by rw [World.frozen?_setCell]; exact hf⟩, hB.setCell (p := ⟨w.heap.size, 0, none⟩) (Nat.le_refl _) _⟩
    have e : dval b32 (pre ++ [x]) = X := by rw [dval_snoc, HX.out, Nat.mul_comm]; rfl
    rw [e]
    exact World.cell?_setCell_same' _ _ _ (by rw [hc]; rfl)
  case done =>
    rintro D ys W hD rfl ⟨⟨hc, _⟩, hB⟩ hK
    rw [dval_all] at hc
    gi_wp2
    refine ⟨by simp, .inl ⟨_, _, rfl, run_takeDeferred hK, ?_⟩⟩
    exact ⟨_, results_tmp rfl _ _ _, rfl, hB.trans (belowK_b (w := w) (Nat.le_refl _) W D _ _ (by simp at hD; omega) hK rfl rfl)⟩
  case stop =>
    rintro D c pre W _ _ h _
    exact h.elim
theorem long_any (A : Option Addr) (c x : Nat) (w : World) (hx : Num32 w A x) (hn : ln b32 x ≤ 2) :
    Calls Tryz.prog 238 #[.slice A (ln b32 x) c] w fun e w' => e = .returned (.int .u64 ((x : Nat) : Int)) ∧ Below w.heap.size w w' := by
  have h := long_walk A (ln b32 x) c (dgt b32 x) (fun i => dgt32_lt x i) w hx hn
  rw [vs_dgt_ln b32_two] at h
  exact h
end Go.Proofs.YtifikcemcflgjaaGreatDoor
namespace Go.Proofs.YtifikcemcflgjaaGreatDoor
open Go.RowKit

/-- The last k decimal digits of p, leading zeros too. -/
def padk (k p : Nat) : List UInt8 := (List.range k).map fun t => Lib.dg p (k - 1 - t)
theorem padk_succ (k p : Nat) : padk (k + 1) p = padk k (p / 10) ++ [UInt8.ofNat (48 + p % 10)] := by
  unfold padk
  rw [List.range_succ, List.map_append]
  congr 1
  · refine List.map_congr_left fun t ht => ?_
    have ht' := List.mem_range.1 ht
    rw [show k + 1 - 1 - t = (k - 1 - t) + 1 by omega, Lib.dg_succ]
  · simp [Lib.dg]
theorem dec_pad {y : Nat} (hy : 0 < y) : ∀ k p, p < 10 ^ k → Lib.decDigits (y * 10 ^ k + p) = Lib.decDigits y ++ padk k p
  | 0, p, h => by
    have : p = 0 := by simpa using h
    subst this
    simp [padk]
  | k + 1, p, h => by
    have hk : 1 ≤ 10 ^ k := Nat.one_le_pow _ _ (by decide)
    have hyk : 1 * 1 ≤ y * 10 ^ k := Nat.mul_le_mul hy hk
    have e : y * 10 ^ (k + 1) = y * 10 ^ k * 10 := by rw [Nat.pow_succ, ← Nat.mul_assoc]
    rw [Nat.pow_succ] at h
    rw [Lib.decDigits, dif_neg (by omega), e, show (y * 10 ^ k * 10 + p) / 10 = y * 10 ^ k + p / 10 by omega, dec_pad hy k (p / 10) (by omega), padk_succ, List.append_assoc,
      show (y * 10 ^ k * 10 + p) % 10 = p % 10 by omega]
theorem dg_high {p j : Nat} (h : p < 10 ^ j) : Lib.dg p j = 48 := by unfold Lib.dg; rw [Nat.div_eq_of_lt h]; rfl
theorem lt_pow_of_nDigits {p j : Nat} (h : Lib.nDigits p ≤ j) : p < 10 ^ j := Nat.lt_of_lt_of_le (Lib.lt_pow_nDigits p) (Nat.pow_le_pow_right (by decide) h)
theorem nDigits_le {p k : Nat} (hk : 0 < k) (h : p < 10 ^ k) : Lib.nDigits p ≤ k := by
  induction k generalizing p with
  | zero => omega
  | succ k ih =>
    by_cases h10 : p < 10
    · rw [Lib.nDigits_small h10]; omega
    · rw [Lib.nDigits_big h10]
      rw [Nat.pow_succ] at h
      have hk0 : 0 < k := by
        rcases Nat.eq_zero_or_pos k with rfl | h0
        · simp at h; omega
        · exact h0
      have := ih (p := p / 10) hk0 (by omega)
      omega
theorem padk_eq {k p : Nat} (h : Lib.nDigits p ≤ k) : padk k p = List.replicate (k - Lib.nDigits p) 48 ++ Lib.decDigits p := by
  rw [Lib.decDigits_eq]
  refine List.ext_getElem (by simp [padk]; omega) fun i h1 h2 => ?_
  have hi : i < k := by simpa [padk] using h1
  rw [List.getElem_append]
  split
  · rename_i hs
    have hs' : i < k - Lib.nDigits p := by simpa using hs
    simp only [padk, List.getElem_map, List.getElem_range, List.getElem_replicate]
    exact dg_high (lt_pow_of_nDigits (by omega))
  · rename_i hs
    have hs' : k - Lib.nDigits p ≤ i := by simpa using hs
    simp only [padk, List.getElem_map, List.getElem_range, List.length_replicate]
    congr 1
    omega
/-- One more part of nine digits. -/
def addPart (t : List UInt8) (p : Nat) : List UInt8 := if t.length = 0 then Lib.decDigits p else t ++ (List.replicate (9 - Lib.nDigits p) 48 ++ Lib.decDigits p)
/-- The parts, the first one ahead. -/
def txt {b : Nat} (l : List (Bd b)) : List UInt8 := l.foldl (fun t x => addPart t x.1) []
theorem txt_snoc {b : Nat} (l : List (Bd b)) (x : Bd b) : txt (l ++ [x]) = addPart (txt l) x.1 := by simp [txt]
theorem dec_len_pos (u : Nat) : 0 < (Lib.decDigits u).length := by rw [Lib.decDigits_length]; exact Lib.nDigits_pos u
theorem txt_dn (b : Nat) (f : Nat → Nat) (hf : ∀ i, f i < b) (n : Nat) (h9 : ∀ i, i < n → f i < 1000000000) (ht : f (n - 1) ≠ 0) (k : Nat) (hk : k + 1 ≤ n) :
    txt (dn b f hf n (k + 1)) = Lib.decDigits (dval 1000000000 (dn b f hf n (k + 1))) ∧ 0 < dval 1000000000 (dn b f hf n (k + 1)) := by
  induction k with
  | zero => simp [dn, txt, dval, addPart]; omega
  | succ k ih =>
    obtain ⟨h1, h2⟩ := ih (by omega)
    rw [dn_succ, txt_snoc, dval_snoc, h1]
    have hp := h9 (n - 1 - (k + 1)) (by omega)
    have hpow : (1000000000 : Nat) = 10 ^ 9 := rfl
    have hn : Lib.nDigits (f (n - 1 - (k + 1))) ≤ 9 := nDigits_le (by decide) (by rw [← hpow]; exact hp)
    refine ⟨?_, by omega⟩
    unfold addPart
    rw [if_neg (by have := dec_len_pos (dval 1000000000 (dn b f hf n (k + 1))); omega), ← padk_eq hn, hpow, dec_pad (by rw [hpow] at h2; exact h2) 9 _ (by rw [← hpow]; exact hp)]
end Go.Proofs.YtifikcemcflgjaaGreatDoor
namespace Go.Proofs.YtifikcemcflgjaaGreatDoor
open Go.RowKit

/-- The words after the first j limbs. -/
def pk (f : Nat → Nat) (j q : Nat) : Nat := (if 2 * q < j then f (2 * q) else 0) + 65536 * (if 2 * q + 1 < j then f (2 * q + 1) else 0)

theorem pk_even {f : Nat → Nat} {j : Nat} (hf : ∀ i, f i < 65536) (hp : j % 2 = 0) : bits .or .u32 ((pk f j (j / 2) : Nat) : Int) (((f j : Nat) : Int) % 4294967296) = ((pk f (j + 1) (j / 2) : Nat) : Int) := by
  have h1 := hf j
  have h2 := hf (j + 1)
  have e1 : pk f j (j / 2) = 0 := by unfold pk; rw [if_neg (by omega), if_neg (by omega)]
  have e2 : pk f (j + 1) (j / 2) = f j := by unfold pk; rw [if_pos (by omega), if_neg (by omega), show 2 * (j / 2) = j by omega]; omega
  rw [e1, e2, show ((f j : Nat) : Int) % 4294967296 = ((f j : Nat) : Int) by omega]
  exact u32_or_zero (by omega)
theorem pk_odd {f : Nat → Nat} {j : Nat} (hf : ∀ i, f i < 65536) (hp : j % 2 = 1) : bits .or .u32 ((pk f j (j / 2) : Nat) : Int) (((f j : Nat) : Int) * 65536 % 4294967296) = ((pk f (j + 1) (j / 2) : Nat) : Int) := by
  have h1 := hf j
  have h2 := hf (2 * (j / 2))
  have e1 : pk f j (j / 2) = f (2 * (j / 2)) := by unfold pk; rw [if_pos (by omega), if_neg (by omega)]; omega
  have e2 : pk f (j + 1) (j / 2) = f (2 * (j / 2)) + 65536 * f j := by
    unfold pk; rw [if_pos (by omega), if_pos (by omega)]
    have e : 2 * (j / 2) + 1 = j := by omega
    rw [e]
  rw [e1, e2, show ((f j : Nat) : Int) * 65536 % 4294967296 = ((65536 * f j : Nat) : Int) by omega]
  exact u32_or_add h2 h1
theorem pk_other {f : Nat → Nat} {j q : Nat} (h : q ≠ j / 2) : pk f (j + 1) q = pk f j q := by
  unfold pk
  have e1 : (2 * q < j + 1) ↔ (2 * q < j) := by omega
  have e2 : (2 * q + 1 < j + 1) ↔ (2 * q + 1 < j) := by omega
  simp only [e1, e2]

set_option maxHeartbeats 400000 in
theorem pack_walk (A : Option Addr) (n c : Nat) (f : Nat → Nat) (w : World) (h : Rd w.heap.size .u16 w A n f) (hf : ∀ i, f i < 65536) (hn : n ≤ 1000000) :
    Calls Tryz.prog 83 #[.slice A n c] w fun e w' => e = .returned (.slice (some ⟨w.heap.size, 0, none⟩) ((n + 1) / 2) ((n + 1) / 2)) ∧ Row w' w.heap.size 93 .u32 ((n + 1) / 2) ((n + 1) / 2) (pk f n) ∧ Below w.heap.size w w' := by
  have hmk := mk32 ((n + 1) / 2) ((n + 1) / 2) (Nat.le_refl _) (by omega)
  rw [show (((n + 1) / 2 : Nat) : Int) = ((n : Int) + 1) / 2 by omega] at hmk
  go_enter Tryz.func83, Tryz.ntmps83
  go_wp2
  clear hmk
  go_loopw [13] (fun i wr => ∃ j : Nat, j ≤ n ∧ i = .int .i64 j ∧ Row wr w.heap.size 93 .u32 ((n + 1) / 2) ((n + 1) / 2) (pk f j) ∧ Below w.heap.size w wr) (fun i _ => n - (intOf i).toNat)
  case atStart => exact ⟨0, Nat.zero_le _, rfl, Row.made.congr fun j _ => by simp [pk], (Below.refl _ _).alloc (Nat.le_refl _) _⟩
  case round =>
    obtain ⟨j, hj, rfl, hrow, hbel⟩ := hrel
    by_cases hlt : j < n
    · obtain ⟨b, o, rfl, hb, hcell⟩ := h (by omega)
      have hc1 := (hbel.cell (p := ⟨b, o + j, none⟩) hb).trans (hcell j hlt)
      have hc2 := hrow.cell (i := j / 2) (by omega)
      have hc3 := hrow.frozen (j / 2)
      have hfj := hf j
      rcases Nat.mod_two_eq_zero_or_one j with hp | hp
      · go_wp2
        go_region
        go_wp2
        go_roundw
        case rel =>
          rw [pk_even hf hp]
          exact ⟨j + 1, by omega, by go_num, hrow.drew.set rfl fun q _ hq => pk_other hq, hbel.drew.setCell (Nat.le_refl _) _⟩
        case measure => simp [intOf]; omega
      · go_wp2
        go_region
        go_wp2
        go_roundw
        case rel =>
          rw [pk_odd hf hp]
          exact ⟨j + 1, by omega, by go_num, hrow.drew.set rfl fun q _ hq => pk_other hq, hbel.drew.setCell (Nat.le_refl _) _⟩
        case measure => simp [intOf]; omega
    · obtain rfl : j = n := by omega
      go_wp2
      go_ret
      exact ⟨rfl, hrow, hbel⟩
theorem pk_dgt (x q : Nat) (hq : q < (ln b16 x + 1) / 2) : pk (dgt b16 x) (ln b16 x) q = dgt b32 x q := by
  rw [dgt32_two, pk, if_pos (by omega)]
  by_cases h : 2 * q + 1 < ln b16 x
  · rw [if_pos h]
  · rw [if_neg h, dgt_of_lt (j := 2 * q + 1) ((ln_le b16_two).1 (by omega))]
/-- pack of the limbs of x: the words of x. -/
theorem pack_any (A : Option Addr) (c x : Nat) (w : World) (h : Num16 w A x) (hn : ln b16 x ≤ 1000000) :
    Calls Tryz.prog 83 #[.slice A (ln b16 x) c] w (W32 w x) :=
  (pack_walk A _ c _ w h (fun i => dgt16_lt x i) hn).mono fun e w' ⟨he, hr, hb⟩ => by
    refine ⟨some ⟨w.heap.size, 0, none⟩, (ln b16 x + 1) / 2, by rw [he, ln32_two], by rw [ln32_two]; exact Nat.le_refl _, ?_, hb⟩
    have h1 := hr.congr (f' := dgt b32 x) fun j hj => pk_dgt x j hj
    unfold Num32
    rw [ln32_two]
    exact h1.rd (Nat.le_refl _) h1.lt
end Go.Proofs.YtifikcemcflgjaaGreatDoor
namespace Go.Proofs.YtifikcemcflgjaaGreatDoor
open Go.RowKit

/-- The quotient's words, in memory; the remainder. -/
def DivShortPost (x d : Nat) (w : World) (e : Ending) (w' : World) : Prop :=
  ∃ A c, e = .returned (.tuple #[.slice A (ln b32 (x / d)) c, .int .u32 ((x % d : Nat) : Int)]) ∧ ln b32 (x / d) ≤ c ∧ Num32 w' A (x / d) ∧ Below w.heap.size w w'
/-- The quotient's words, at the head of a block of the call's own. -/
def DivShortAt (x d : Nat) (w : World) (e : Ending) (w' : World) : Prop :=
  ∃ c, e = .returned (.tuple #[.slice (some ⟨w.heap.size, 0, none⟩) (ln b32 (x / d)) c, .int .u32 ((x % d : Nat) : Int)]) ∧ ln b32 (x / d) ≤ c ∧ Num32 w' (some ⟨w.heap.size, 0, none⟩) (x / d) ∧ Below w.heap.size w w'
/-- The words of the quotient from digit k on. -/
def qst (x d k j : Nat) : Nat := if k ≤ j then dgt b32 (x / d) j else 0
theorem qst_lt (x d k j : Nat) : qst x d k j < 4294967296 := by unfold qst; split; exact dgt32_lt ..; decide
theorem qst_total {n : Nat} (x d : Nat) (h : x < b32 ^ n) : vs b32 (qst x d 0) n = x / d := by
  rw [vs_congr (g := dgt b32 (x / d)) fun j _ => by simp [qst]]
  exact vs_dgt_lt (Nat.lt_of_le_of_lt (Nat.div_le_self ..) h)

set_option maxHeartbeats 400000 in
theorem divShort_at (A : Option Addr) (c x d : Nat) (w : World) (hx : Num32 w A x) (hd : 0 < d) (hd1 : d < 4294967296) (hn : ln b32 x ≤ 1000000) :
    Calls Tryz.prog 84 #[.slice A (ln b32 x) c, .int .u32 (d : Int)] w (DivShortAt x d w) := by
  have hmk := mk32 (ln b32 x) (ln b32 x) (Nat.le_refl _) (by omega)
  have HN := Lib.hid (qst_total x d (lt_pow_ln b32_two x))
  have HL := Lib.hid (lt_pow_ln b32_two x)
  go_enter Tryz.func84, Tryz.ntmps84
  go_wp2
  clear hmk
  go_loopw [7, 8] (fun r i wr => ∃ k : Nat, k ≤ ln b32 x ∧ i = .int .i64 ((k : Int) - 1) ∧ r = .int .u32 ((x / b32 ^ k % d : Nat) : Int) ∧ Row wr w.heap.size 93 .u32 (ln b32 x) (ln b32 x) (qst x d k) ∧ Below w.heap.size w wr) (fun _ i _ => (intOf i + 1).toNat)
  case atStart => exact ⟨ln b32 x, Nat.le_refl _, rfl, by rw [Nat.div_eq_of_lt HL.out]; simp, Row.made.congr fun j hj => by simp only [qst]; rw [if_neg (by omega)], (Below.refl _ _).alloc (Nat.le_refl _) _⟩
  case round =>
    obtain ⟨k, hk, rfl, rfl, hrow, hbel⟩ := hrel
    rcases Nat.eq_zero_or_pos k with rfl | hk0
    · have ht := trim_any (some ⟨w.heap.size, 0, none⟩) (ln b32 x) (ln b32 x) _ wr (hrow.rd (Nat.le_refl _) hrow.lt) (fun i _ => qst_lt ..) (Nat.le_refl _) (by omega)
      rw [HN.out] at ht
      have HT := Lib.hid ht
      clear ht
      go_wp2_with fail
      refine HT.out.mono ?_
      rintro e w3 ⟨rfl, rfl, hnum, hlc⟩
      go_wp2
      go_ret2
      exact ⟨_, rfl, hlc, hnum, hbel⟩
    · obtain ⟨j, rfl⟩ : ∃ j, k = j + 1 := ⟨k - 1, by omega⟩
      have ej : (((j + 1 : Nat) : Int) - 1) = (j : Int) := by omega
      rw [ej]
      obtain ⟨b, o, rfl, hb, hca⟩ := hx (by omega)
      have c0 := (hbel.cell (p := ⟨b, o + j, none⟩) hb).trans (hca j (by omega))
      have c1 := hrow.cell (i := j) (by omega)
      have c2 := hrow.frozen j
      have hr := Nat.mod_lt (x / b32 ^ (j + 1)) hd
      have hl := dgt32_lt x j
      obtain ⟨s1, s2⟩ := short_step (B := b32) (x := x) (k := j) hd
      have hq := div32_lt hr hl
      have hcall := div32_any _ _ _ wr hr hl hd1
      rw [show 4294967296 * (x / b32 ^ (j + 1) % d) + dgt b32 x j = b32 * (x / b32 ^ (j + 1) % d) + dgt b32 x j by rfl] at hcall hq
      rw [Nat.mod_eq_of_lt (show _ < b32 by exact hq)] at s1
      rw [s1, s2] at hcall
      have HC := Lib.hid hcall
      clear hcall hq s1 s2
      go_wp2_with fail
      refine HC.out.mono ?_
      rintro e w2 ⟨rfl, nq, rfl⟩
      go_wp2
      go_roundw
      case rel => exact ⟨j, by omega, by go_num, rfl, (hrow.drewN _).set (by simp [qst]) fun q _ hq => by simp only [qst, show j ≤ q ↔ j + 1 ≤ q by omega], (belowN hbel _).setCell (Nat.le_refl _) _⟩
      case measure => simp [intOf]
theorem divShort_any (A : Option Addr) (c x d : Nat) (w : World) (hx : Num32 w A x) (hd : 0 < d) (hd1 : d < 4294967296) (hn : ln b32 x ≤ 1000000) :
    Calls Tryz.prog 84 #[.slice A (ln b32 x) c, .int .u32 (d : Int)] w (DivShortPost x d w) :=
  (divShort_at A c x d w hx hd hd1 hn).mono fun _ _ ⟨c, h1, h2, h3, h4⟩ => ⟨_, c, h1, h2, h3, h4⟩
end Go.Proofs.YtifikcemcflgjaaGreatDoor
namespace Go.Proofs.YtifikcemcflgjaaGreatDoor
open Go.RowKit Go.Shelf
attribute [local go_sem] Oper.semAt_some

theorem Tab.below {w w' : World} (h : Tab w) (hb : Below w.heap.size w w') : Tab w' := by
  unfold Tab Lib.TabIs World.var? at *
  cases hg : Tryz.prog.globalNamed "internal/strconv.uint64pow10" with
  | none => simp [hg] at h
  | some g =>
    simp only [hg, Option.bind_some] at h ⊢
    have hlt : g < w.heap.size := by
      rcases Nat.lt_or_ge g w.heap.size with h' | h'
      · exact h'
      · rw [Array.getElem?_eq_none h'] at h; simp at h
    rw [hb.block g hlt]
    exact h
/-- The length of a slice value. -/
def lenV : Value → Nat
  | .slice _ n _ => n
  | _ => 0
theorem ln9_step {x k : Nat} : 0 < x / 1000000000 ^ k ↔ k < ln 1000000000 x := by
  rw [ln_lt (by decide), Nat.div_pos_iff]
  exact ⟨fun h => h.2, fun h => ⟨Nat.pow_pos (by decide), h⟩⟩
theorem ln9_le {x m : Nat} (h : ln b16 x ≤ m) : ln 1000000000 x ≤ m := (ln_le (by decide)).2 (Nat.lt_of_lt_of_le ((ln_le b16_two).1 h) (Nat.pow_le_pow_left (by decide) _))
theorem num32_grown {w w' : World} {row : Option Nat} {b x : Nat} (h : Num32 w (some ⟨b, 0, none⟩) x) (hg : w.grownBy w' row) (hne : some b ≠ row) : Num32 w' (some ⟨b, 0, none⟩) x := fun hn => by
  obtain ⟨b', o', e, hb, hc⟩ := h hn
  injection e with e
  injection e with e1 e2
  subst e1 e2
  exact ⟨b, 0, rfl, Nat.lt_of_lt_of_le hb hg.size, fun i hi => (World.cell?_of_block (hg.block b hb hne)).trans (hc i hi)⟩
theorem nums_succ (k : IntKind) (m : Nat) (f : Nat → Nat) : nums k m f ++ [.int k (f m : Int)] = nums k (m + 1) f := by simp [nums, List.range_succ]
theorem WholeAt.alloc' {w : World} {g : Nat} {s : Bool} {v : Value} (h : WholeAt w g s v) (o : Obj) : WholeAt (w.alloc o) g s v := (Below.heap_alloc _ _ _ h.lt).trans h
theorem WholeAt.grown {w w' : World} {g : Nat} {s : Bool} {v : Value} {row : Option Nat} (h : WholeAt w g s v) (hg : w.grownBy w' row) (hne : some g ≠ row) : WholeAt w' g s v := (hg.block g h.lt hne).trans h
theorem own_not {w : World} {base t size n : Nat} {v : Value} {xs : List Value} (h : w.ownsRow base t size v n xs) {g : Nat} (hg : g < base) : some g ≠ v.ownBlock := fun e => by
  have := (h.lt g e.symm).1
  omega
theorem own_below {base B t size n : Nat} {w w' : World} {v : Value} {xs : List Value} (h : w.ownsRow base t size v n xs) (hb : Below B w w') (hB : w.heap.size ≤ B) : w'.ownsRow base t size v n xs := by
  obtain ⟨h1, h2⟩ := h
  refine ⟨h1, ?_⟩
  rcases h2 with h2 | ⟨g, cap, cur, hv, hg, hh, r⟩
  · exact .inl h2
  · have hlt := heap_lt hh
    exact .inr ⟨g, cap, cur, hv, hg, (hb.block g (by omega)).trans hh, r⟩
/-- Bytes as cells. -/
def bts (l : List UInt8) : List Value := l.map fun c => Value.int .u8 c.toNat
theorem bts_append (l m : List UInt8) : bts (l ++ m) = bts l ++ bts m := by simp [bts]
theorem bts_str (D : ByteArray) : Lib.strCells D = bts D.data.toList := rfl
theorem dec_len_le {p : Nat} (h : p < 4294967296) : (Lib.decDigits p).length ≤ 10 := by
  rw [Lib.decDigits_length]
  exact nDigits_le (by decide) (by omega)
theorem addPart_len {t : List UInt8} {p : Nat} (h : p < 4294967296) : (addPart t p).length ≤ t.length + 10 := by
  have h1 := dec_len_le h
  have h2 := Lib.decDigits_length p
  unfold addPart
  split
  · omega
  · simp only [List.length_append, List.length_replicate]; omega
theorem txt_len (l : List (Bd 4294967296)) : (txt l).length ≤ 10 * l.length := by
  rw [← List.reverse_reverse l]
  generalize l.reverse = r
  induction r with
  | nil => simp [txt]
  | cons x r ih =>
    rw [List.reverse_cons, txt_snoc, List.length_append, List.length_singleton]
    have := addPart_len (t := txt r.reverse) x.2
    omega
theorem dec_dg0 (u : Nat) : ∀ c ∈ Lib.decDigits u, 48 ≤ c.toNat ∧ c.toNat ≤ 57 := by
  intro c hc
  rw [Lib.decDigits_eq] at hc
  obtain ⟨t, -, rfl⟩ := List.mem_map.1 hc
  unfold Lib.dg
  have := Nat.mod_lt (u / 10 ^ (Lib.nDigits u - 1 - t)) (show 0 < 10 by decide)
  rw [UInt8.toNat_ofNat']
  omega
theorem addPart_dg {t : List UInt8} {p : Nat} (h : ∀ c ∈ t, 48 ≤ c.toNat ∧ c.toNat ≤ 57) : ∀ c ∈ addPart t p, 48 ≤ c.toNat ∧ c.toNat ≤ 57 := by
  intro c hc
  unfold addPart at hc
  split at hc
  · exact dec_dg0 p c hc
  · rcases List.mem_append.1 hc with hc | hc
    · exact h c hc
    · rcases List.mem_append.1 hc with hc | hc
      · obtain ⟨-, rfl⟩ := List.mem_replicate.1 hc
        decide
      · exact dec_dg0 p c hc
theorem txt_dg (l : List (Bd 4294967296)) : ∀ c ∈ txt l, 48 ≤ c.toNat ∧ c.toNat ≤ 57 := by
  rw [← List.reverse_reverse l]
  generalize l.reverse = r
  induction r with
  | nil => intro c hc; simp [txt] at hc
  | cons x r ih =>
    rw [List.reverse_cons, txt_snoc]
    exact addPart_dg ih
/-- The text so far: the sign, then the parts. -/
def txtS (s : Bool) (l : List (Bd 4294967296)) : List UInt8 := (if s then [45] else []) ++ txt l
theorem own_val {w : World} {base t n : Nat} {v : Value} {xs : List Value} (h : w.ownsRow base t 1 v n xs) : ∃ A c, v = .slice A n c ∧ (0 < n → ∃ g, A = some ⟨g, 0, none⟩ ∧ g < w.heap.size ∧ ∀ (i : Nat) u, xs[i]? = some u → w.cell? ⟨g, i, none⟩ = some u) := by
  rcases h.2 with ⟨hv, hn⟩ | ⟨g, cap, cur, hv, _, hh, _⟩
  · exact ⟨none, 0, by rw [hv, hn], fun h0 => by omega⟩
  · refine ⟨_, _, hv, fun _ => ⟨g, rfl, heap_lt hh, fun i u hu => ?_⟩⟩
    have := h.cells (g := g) (by rw [hv]; rfl) i u hu
    rwa [Lib.add_plain, Nat.zero_add] at this
theorem keepsOthers_of_below {W W' : World} (hb : Below W.heap.size W W') : KeepsOthers W W' := ⟨hb.size, fun k _ hk _ => (hb.block k (heap_lt hk)).trans hk⟩
theorem own_boxed {β : Type} (B : Nat) (t : TypeId) (v : Value) : Own (fun (_ : β) W => Boxed W B t v) := by
  rintro s X Y row hv hg hrow
  refine hv.kept hg (fun e' => ?_)
  obtain ⟨o, ho, hc⟩ := hrow B e'.symm
  rw [show X.heap[B]? = _ from hv] at ho; cases ho; cases hc
/-- Behind 'b = append(b, s...)', b in a variable's box: as 'Boxed.appended', and a further box. -/
theorem Boxed.appended0 {W w1 : World} {n₀ B : Nat} {t e : TypeId} {size : Nat} {v v' : Value} {k m : Nat} {xs ys : List Value}
    (hv : Boxed W B t v) (hte : t ≠ e) (hrow : W.ownsRow n₀ e size v k xs) (hn₀ : n₀ ≤ W.heap.size) (hB : n₀ ≤ B)
    (hown' : w1.ownsRow n₀ e size v' m ys) (hgrow : W.grownBy w1 v.ownBlock) :
    Boxed w1 B t v ∧ Boxed (w1.setCell ⟨B, 0, none⟩ v') B t v' ∧ (w1.setCell ⟨B, 0, none⟩ v').ownsRow n₀ e size v' m ys ∧ KeepsOthers W (w1.setCell ⟨B, 0, none⟩ v') ∧ Below n₀ W (w1.setCell ⟨B, 0, none⟩ v') := by
  have hv1 : Boxed w1 B t v := hv.kept hgrow (hv.not_row hte hrow)
  refine ⟨hv1, hv1.set v', hown'.kept (grownBy_setCell' w1 B v') (.inr (hv1.not_row hte hown').symm), ?_, ?_⟩
  · refine (KeepsOthers.of_grownBy hgrow fun j o ej hj => ?_).trans (KeepsOthers.setCell _ _ _)
    rcases hrow.2 with ⟨rfl, _⟩ | ⟨g, cap, cur, rfl, _, hgb, _⟩
    · simp [Value.ownBlock] at ej
    · obtain rfl : g = j := by simpa [Value.ownBlock] using ej
      rw [hgb] at hj; cases hj; rfl
  · refine ((Below.refl n₀ W).grown hgrow hn₀ fun j ej => ?_).setCell (p := ⟨B, 0, none⟩) hB v'
    exact (hrow.lt j ej).1
/-- Another box is as it was. -/
theorem Boxed.apart {W w1 : World} {n₀ B Bs : Nat} {e ts : TypeId} {size : Nat} {v v' u : Value} {k : Nat} {xs : List Value}
    (hs : Boxed W Bs ts u) (hte : ts ≠ e) (hrow : W.ownsRow n₀ e size v k xs) (hne : Bs ≠ B) (hgrow : W.grownBy w1 v.ownBlock) : (w1.setCell ⟨B, 0, none⟩ v').heap[Bs]? = W.heap[Bs]? :=
  (Below.heap_setCell w1 ⟨B, 0, none⟩ v' Bs hne).trans (hgrow.block Bs hs.lt (hs.not_row hte hrow))
theorem fin_row {w : World} {base t : Nat} {v : Value} {n : Nat} {T T' : List UInt8} {D : ByteArray} (h : T' = T ++ D.data.toList) (hn : n = T.length) (ho : w.ownsRow base t 1 v (n + D.size) (bts T ++ Lib.strCells D)) : w.ownsRow base t 1 v T'.length (bts T') := by
  subst hn
  have hl : T'.length = T.length + D.size := by rw [h, List.length_append, Array.length_toList]; rfl
  rw [hl, h, bts_append, ← bts_str]
  exact ho
theorem txtS_first {s : Bool} {pre : List (Bd 4294967296)} (y : Bd 4294967296) (h : txt pre = []) : txtS s (pre ++ [y]) = txtS s pre ++ Lib.decDigits y.1 := by
  unfold txtS
  rw [txt_snoc, h]
  simp [addPart]
theorem txtS_more {s : Bool} {pre : List (Bd 4294967296)} (y : Bd 4294967296) (h : txt pre ≠ []) : txtS s (pre ++ [y]) = (txtS s pre ++ List.replicate (9 - Lib.nDigits y.1) 48) ++ Lib.decDigits y.1 := by
  have e : addPart (txt pre) y.1 = txt pre ++ (List.replicate (9 - Lib.nDigits y.1) 48 ++ Lib.decDigits y.1) := by
    unfold addPart
    rw [if_neg (by have := List.length_pos_iff.2 h; omega)]
  unfold txtS
  rw [txt_snoc, e]
  simp only [List.append_assoc]
theorem bts_pad (T : List UInt8) (j : Nat) : bts (T ++ List.replicate j 48) ++ [.int .u8 48] = bts (T ++ List.replicate (j + 1) 48) := by
  rw [List.replicate_succ', ← List.append_assoc, bts_append (T ++ List.replicate j 48)]
  rfl
theorem txtS_one {s : Bool} {pre : List (Bd 4294967296)} (h : txt pre ≠ []) (hn : (txtS s pre).length = 1) : ∃ c : Nat, (bts (txtS s pre))[0]? = some (.int .u8 (c : Int)) ∧ 48 ≤ c := by
  have hp := List.length_pos_iff.2 h
  cases s
  · cases ht : txt pre with
    | nil => exact absurd ht h
    | cons c r =>
      have hd := txt_dg pre c (by rw [ht]; exact List.mem_cons_self)
      exact ⟨c.toNat, by simp [txtS, ht, bts], hd.1⟩
  · simp [txtS] at hn
    exact absurd hn h
/-- The decimal form of a sign and an absolute value. -/
def numeral (s : Bool) (x : Nat) : List UInt8 := (if s then [45] else []) ++ Lib.decDigits x
/-- The parts of nine digits. -/
def dgt9 (x : Nat) : Nat → Nat := dgt 1000000000 x
theorem dgt9_lt (x i : Nat) : dgt9 x i < 4294967296 := Nat.lt_trans (dgt_lt (by decide) x i) (by decide)
theorem txt_all {x : Nat} (hx : 0 < x) : txt (dn 4294967296 (dgt9 x) (dgt9_lt x) (ln 1000000000 x) (ln 1000000000 x)) = Lib.decDigits x := by
  have hp := (ln_pos (B := 1000000000) (by decide)).2 hx
  have ht := dgt_top (B := 1000000000) (by decide) hx
  have hv := dval_all 1000000000 4294967296 (dgt9 x) (dgt9_lt x) (ln 1000000000 x)
  rw [show vs 1000000000 (dgt9 x) (ln 1000000000 x) = x from vs_dgt_ln (by decide) x] at hv
  obtain ⟨k, hk⟩ : ∃ k, ln 1000000000 x = k + 1 := ⟨ln 1000000000 x - 1, by omega⟩
  have h := txt_dn 4294967296 (dgt9 x) (dgt9_lt x) (ln 1000000000 x) (fun i _ => dgt_lt (by decide) x i) ht k (by omega)
  rw [← hk, hv] at h
  exact h.1
/-- 'append(b, s...)', inside a fence. -/
theorem wpListIn_append_str {F : Fence} {n' : Nat} {P : Program} {ops : Array Oper} {rest : List Oper} {o : Oper} {a : Act} {Q : Exit → Act → World → Prop} (w : World) (hgd : o.guard = none) (sl x : Operand) (t u : TypeId)
    (ho : o.op = .call { callee := .builtin .append, args := #[sl, x], argTypes := #[t, u] })
    (base : Nat) (e : TypeId) (i : TypeInfo) (ht : P.underlying t = some (.slice e)) (hu : P.underlying u = some .string) (hi : P.info? e = some i) (hz : i.zero = some (.int .u8 0))
    (hsize : i.size = 1) (hby : i.bytes = 1)
    (v : Value) (n : Nat) (xs : List Value) (hs : a.eval sl = v) (hown : w.ownsRow base e 1 v n xs) (s : ByteArray) (hx : a.eval x = .string s)
    (h63 : n + s.size ≤ maxLen) (hbytes : n + s.size ≤ 140737488355328) (hbase : base ≤ w.heap.size)
    (h : ∀ v' w', w'.ownsRow base e 1 v' (n + s.size) (xs ++ Lib.strCells s) → w.grownBy w' v.ownBlock → wpListIn F n' P ops Q rest (a.put o.dst v') w') : wpListIn F n' P ops Q (o :: rest) a w := by
  refine wpListIn_plain hgd fun K hK => ?_
  obtain ⟨v', w', hr, h2, h3, h4⟩ := Lib.run_append_own_string (P := P) w base t u o.type e i ht hu hi hz hsize hby v n xs hown s h63 hbytes hbase
  unfold Oper.wpIn
  refine ⟨?_, ?_⟩
  · simp [Oper.about, ho, resolve, Target.leads, Sem.run_pure]
  · rw [Oper.semAt_plain F _ _ (by rw [ho]; intro c hc'; cases hc')]
    simp [execOp, ho, resolve, invoke, builtin, hs, hx, hr, Result.andThen]
    exact hK _ _ (h v' w' h2 h3)
end Go.Proofs.YtifikcemcflgjaaGreatDoor
namespace Go.Proofs.YtifikcemcflgjaaGreatDoor
open Go.RowKit

/-- What a call that returns a whole number and an error hands back: the number z, or ErrLong. -/
def RIv (base : Nat) (w' : World) (z : Int) (s : Bool) (A : Option Addr) (n c : Nat) (k : Int) : Prop :=
  (ln b16 z.natAbs ≤ 1024 ∧ s = decide (z < 0) ∧ n = ln b16 z.natAbs ∧ k = 0 ∧ Own16 base w' A n c (dgt b16 z.natAbs)) ∨
  (1024 < ln b16 z.natAbs ∧ s = false ∧ A = none ∧ n = 0 ∧ c = 0 ∧ k = 3)
theorem RI.vals {w w' : World} {z : Int} {e : Ending} (h : RI w z e w') : ∃ s A n c k, e = .returned (.tuple #[.agg #[.bool s, .slice A n c], .int .i64 k]) ∧ RIv w.heap.size w' z s A n c k ∧ Below w.heap.size w w' := by
  rcases h with ⟨h1, A, c, he, ho, hb⟩ | ⟨h1, he, hb⟩
  · exact ⟨_, _, _, _, _, he, .inl ⟨h1, rfl, rfl, rfl, ho⟩, hb⟩
  · exact ⟨_, _, _, _, _, he, .inr ⟨h1, rfl, rfl, rfl, rfl, rfl⟩, hb⟩
theorem RIv.ri {w w' : World} {z : Int} {s : Bool} {A : Option Addr} {n c : Nat} {k : Int} (h : RIv w.heap.size w' z s A n c k) (hb : Below w.heap.size w w') : RI w z (.returned (.tuple #[.agg #[.bool s, .slice A n c], .int .i64 k])) w' := by
  rcases h with ⟨h1, rfl, rfl, rfl, ho⟩ | ⟨h1, rfl, rfl, rfl, rfl, rfl⟩
  · exact .inl ⟨h1, A, c, rfl, ho, hb⟩
  · exact .inr ⟨h1, rfl, hb⟩
theorem RIv.store {base R : Nat} {w' : World} {z : Int} {s : Bool} {A : Option Addr} {n c : Nat} {k : Int} (h : RIv base w' z s A n c k) (hR : R < base) (s' : Bool) (v' : Value) : RIv base ((w'.setCell ⟨R, 0, none⟩ (.bool s')).setCell ⟨R, 1, none⟩ v') z s A n c k := by
  rcases h with ⟨h1, e1, e2, e3, ho⟩ | h
  · exact .inl ⟨h1, e1, e2, e3, store_own ho hR s' v'⟩
  · exact .inr h
theorem RIv.lower {base base' : Nat} {w' : World} {z : Int} {s : Bool} {A : Option Addr} {n c : Nat} {k : Int} (h : RIv base w' z s A n c k) (hb : base' ≤ base) : RIv base' w' z s A n c k := by
  rcases h with ⟨h1, e1, e2, e3, ho⟩ | h
  · exact .inl ⟨h1, e1, e2, e3, ho.lower hb⟩
  · exact .inr h
theorem RIv.alloc {base : Nat} {w' : World} {z : Int} {s : Bool} {A : Option Addr} {n c : Nat} {k : Int} (h : RIv base w' z s A n c k) (o : Obj) : RIv base (w'.alloc o) z s A n c k := by
  rcases h with ⟨h1, e1, e2, e3, ho⟩ | h
  · exact .inl ⟨h1, e1, e2, e3, ho.alloc _⟩
  · exact .inr h

theorem ln_add {B x y m : Nat} (hB : 2 ≤ B) (hx : ln B x ≤ m) (hy : ln B y ≤ m) : ln B (x + y) ≤ m + 1 := by
  have h1 := (ln_le hB).1 hx
  have h2 := (ln_le hB).1 hy
  refine (ln_le hB).2 ?_
  have h3 : B ^ m * 2 ≤ B ^ m * B := Nat.mul_le_mul_left _ hB
  rw [Nat.pow_succ]
  omega
theorem toI_same {s : Bool} {x y : Nat} : toI s (x + y) = toI s x + toI s y := by cases s <;> simp [toI] <;> omega
theorem toI_diff {s t : Bool} {x y : Nat} (h : s ≠ t) (hyx : y ≤ x) : toI s (x - y) = toI s x + toI t y := by
  cases s <;> cases t <;> simp_all [toI] <;> omega
theorem cmp_ge {a b : Nat} : 0 ≤ cmpI a b ↔ b ≤ a := by
  unfold cmpI; split <;> (try split) <;> omega
set_option maxRecDepth 100000 in
set_option maxHeartbeats 1000000 in
theorem sum_any (s t : Bool) (A B : Option Addr) (c d x y : Nat) (w : World) (hx : Num32 w A x) (hy : Num32 w B y) (hn : ln b32 x ≤ 900000) (hm : ln b32 y ≤ 900000) :
    Calls Tryz.prog 138 #[.bool s, .slice A (ln b32 x) c, .bool t, .slice B (ln b32 y) d] w (RI w (toI s x + toI t y)) := by
  have hR0 := WholeAt.new w false (.slice none 0 0)
  have hb0 : Below w.heap.size w (w.alloc (.cells #[.bool false, .slice none 0 0] 24)) := (Below.refl _ w).alloc (Nat.le_refl _) _
  have hx0 := Num32.below hx hb0
  have hy0 := Num32.below hy hb0
  have hxy : ln b32 (x + y) ≤ 900000 + 1 := ln_add b32_two hn hm
  go_enter Tryz.func138, Tryz.ntmps138
  by_cases hst : s = t
  · subst hst
    rw [← toI_same]
    go_wp2_with fail
    refine (plus_any A B c d x y _ hx0 hy0 (by omega) (by omega)).mono ?_
    rintro e w1 ⟨C, cc, rfl, hcc, hnum, hb1⟩
    go_wp2_with fail
    refine (result_any s C cc (x + y) w1 hnum hcc (by omega)).mono ?_
    rintro e w2 hri
    obtain ⟨s', A', n', c', k, rfl, hv, hb2⟩ := hri.vals
    have hR2 := (hR0.below hb1 hR0.lt).below hb2 (Nat.lt_of_lt_of_le hR0.lt hb1.size)
    have hbl2 := (hb0.trans (hb1.mono hb0.size)).trans (hb2.mono (Nat.le_trans hb0.size hb1.size))
    have hlt := Nat.lt_of_lt_of_le hR0.lt hb1.size
    obtain ⟨r0, r1⟩ := hR2.cells
    have g0 := hR2.frozen 0
    have g1 := hR2.frozen 1
    obtain ⟨hW, hbW⟩ := store_whole hR2 hbl2 (Nat.le_refl _) s' (.slice A' n' c')
    have hv2 := (hv.store hlt s' (.slice A' n' c')).lower (Nat.le_of_lt hlt)
    have HW := Lib.hid hW
    have HV := Lib.hid hv2
    clear hv hv2 hW hri
    go_wp2_with fail
    have hW := HW.out
    have hv2 := HV.out
    clear HW HV hR2 r0 r1
    generalize ((w2.setCell ⟨w.heap.size, 0, none⟩ (.bool s')).setCell ⟨w.heap.size, 1, none⟩ (.slice A' n' c')) = WW at *
    obtain ⟨k0, k1⟩ := hW.cells
    refine bodyPost_ret (v := .tuple #[.agg #[.bool s', .slice A' n' c'], .int .i64 k]) (by simp [results, Tryz.results138, go_sem, k0, k1]) rfl ?_
    exact hv2.ri hbW
  · have t1 : (s == t) = false := by simp [hst]
    go_wp2_with fail
    refine (compare_any A B c d x y _ hx0 hy0 (by omega)).mono ?_
    rintro e w1 ⟨rfl, n, rfl⟩
    have hbn := belowN (Below.refl (w.alloc (.cells #[.bool false, .slice none 0 0] 24)).heap.size (w.alloc (.cells #[.bool false, .slice none 0 0] 24))) n
    by_cases hle : y ≤ x
    · have h1 := cmp_ge.2 hle
      go_wp2_with fail
      refine (minus_any A B c d x y _ (Num32.below hx0 hbn) (Num32.below hy0 hbn) hle (by omega)).mono ?_
      rintro e w1 ⟨C, cc, rfl, hcc, hnum, hb1'⟩
      have hb1 := hbn.trans hb1'
      go_wp2_with fail
      refine (result_any s C cc (x - y) w1 hnum hcc (Nat.le_trans (ln_mono b32_two (Nat.sub_le x y)) (by omega))).mono ?_
      rintro e w2 hri
      obtain ⟨s', A', n', c', k, rfl, hv, hb2⟩ := hri.vals
      have hR2 := (hR0.below hb1 hR0.lt).below hb2 (Nat.lt_of_lt_of_le hR0.lt hb1.size)
      have hbl2 := (hb0.trans (hb1.mono hb0.size)).trans (hb2.mono (Nat.le_trans hb0.size hb1.size))
      have hlt := Nat.lt_of_lt_of_le hR0.lt hb1.size
      obtain ⟨r0, r1⟩ := hR2.cells
      have g0 := hR2.frozen 0
      have g1 := hR2.frozen 1
      obtain ⟨hW, hbW⟩ := store_whole hR2 hbl2 (Nat.le_refl _) s' (.slice A' n' c')
      have hv2 := (hv.store hlt s' (.slice A' n' c')).lower (Nat.le_of_lt hlt)
      have HW := Lib.hid hW
      have HV := Lib.hid hv2
      clear hv hv2 hW hri
      go_wp2_with fail
      have hW := HW.out
      have hv2 := HV.out
      clear HW HV hR2 r0 r1
      generalize ((w2.setCell ⟨w.heap.size, 0, none⟩ (.bool s')).setCell ⟨w.heap.size, 1, none⟩ (.slice A' n' c')) = WW at *
      obtain ⟨k0, k1⟩ := hW.cells
      refine bodyPost_ret (v := .tuple #[.agg #[.bool s', .slice A' n' c'], .int .i64 k]) (by simp [results, Tryz.results138, go_sem, k0, k1]) rfl ?_
      rw [toI_diff hst hle] at hv2
      exact hv2.ri hbW
    · have h1 : ¬ (0 ≤ cmpI x y) := fun h => hle (cmp_ge.1 h)
      go_wp2_with fail
      refine (minus_any B A d c y x _ (Num32.below hy0 hbn) (Num32.below hx0 hbn) (by omega) (by omega)).mono ?_
      rintro e w1 ⟨C, cc, rfl, hcc, hnum, hb1'⟩
      have hb1 := hbn.trans hb1'
      go_wp2_with fail
      refine (result_any t C cc (y - x) w1 hnum hcc (Nat.le_trans (ln_mono b32_two (Nat.sub_le y x)) (by omega))).mono ?_
      rintro e w2 hri
      obtain ⟨s', A', n', c', k, rfl, hv, hb2⟩ := hri.vals
      have hR2 := (hR0.below hb1 hR0.lt).below hb2 (Nat.lt_of_lt_of_le hR0.lt hb1.size)
      have hbl2 := (hb0.trans (hb1.mono hb0.size)).trans (hb2.mono (Nat.le_trans hb0.size hb1.size))
      have hlt := Nat.lt_of_lt_of_le hR0.lt hb1.size
      obtain ⟨r0, r1⟩ := hR2.cells
      have g0 := hR2.frozen 0
      have g1 := hR2.frozen 1
      obtain ⟨hW, hbW⟩ := store_whole hR2 hbl2 (Nat.le_refl _) s' (.slice A' n' c')
      have hv2 := (hv.store hlt s' (.slice A' n' c')).lower (Nat.le_of_lt hlt)
      have HW := Lib.hid hW
      have HV := Lib.hid hv2
      clear hv hv2 hW hri
      go_wp2_with fail
      have hW := HW.out
      have hv2 := HV.out
      clear HW HV hR2 r0 r1
      generalize ((w2.setCell ⟨w.heap.size, 0, none⟩ (.bool s')).setCell ⟨w.heap.size, 1, none⟩ (.slice A' n' c')) = WW at *
      obtain ⟨k0, k1⟩ := hW.cells
      refine bodyPost_ret (v := .tuple #[.agg #[.bool s', .slice A' n' c'], .int .i64 k]) (by simp [results, Tryz.results138, go_sem, k0, k1]) rfl ?_
      rw [toI_diff (Ne.symm hst) (show x ≤ y by omega), Int.add_comm] at hv2
      exact hv2.ri hbW
end Go.Proofs.YtifikcemcflgjaaGreatDoor
namespace Go.Proofs.YtifikcemcflgjaaGreatDoor
open Go.RowKit

/-- After the first i digits of a: the words are those of their product with b. -/
def MulSt (H a b m i : Nat) (wr : World) : Prop := ∃ f : Nat → Nat, Row wr H 93 .u32 m m f ∧ (∀ j, f j < 4294967296) ∧ vs b32 f m = vs b32 (dgt b32 a) i * b ∧ ∀ j, i + ln b32 b ≤ j → f j = 0
/-- Within digit i: k digits of b done, the carry c. -/
def MulIn (H a b m i k c : Nat) (wr : World) : Prop := ∃ f : Nat → Nat, Row wr H 93 .u32 m m f ∧ (∀ j, f j < 4294967296) ∧ vs b32 f m + b32 ^ (i + k) * c = vs b32 (dgt b32 a) i * b + b32 ^ i * (dgt b32 a i * vs b32 (dgt b32 b) k) ∧ c < 4294967296 ∧ ∀ j, i + ln b32 b ≤ j → f j = 0

theorem MulSt.inner {H a b m i : Nat} {wr : World} (h : MulSt H a b m i wr) : MulIn H a b m i 0 0 wr := by
  obtain ⟨f, h1, h2, h3, h4⟩ := h
  exact ⟨f, h1, h2, by simpa [vs] using h3, by decide, h4⟩
theorem MulIn.step {H a b m i k c : Nat} {wr : World} {f : Nat → Nat} (h1 : Row wr H 93 .u32 m m f) (h2 : ∀ j, f j < 4294967296)
    (h3 : vs b32 f m + b32 ^ (i + k) * c = vs b32 (dgt b32 a) i * b + b32 ^ i * (dgt b32 a i * vs b32 (dgt b32 b) k)) (h4 : c < 4294967296) (h5 : ∀ j, i + ln b32 b ≤ j → f j = 0)
    (hk : k < ln b32 b) (hm : i + ln b32 b < m) {u v : Int} (hu : u = ((dgt b32 a i : Nat) : Int) * (dgt b32 b k : Nat) + (f (i + k) : Nat) + (c : Nat)) (hv : v = u % 4294967296) :
    MulIn H a b m i (k + 1) ((u / 4294967296).toNat) (wr.setCell ⟨H, i + k, none⟩ (.int .u32 v)) := by
  have e : u = ((dgt b32 a i * dgt b32 b k + f (i + k) + c : Nat) : Int) := by rw [hu, Int.natCast_add, Int.natCast_add, Int.natCast_mul]
  have hp := mul_digit (dgt32_lt a i) (dgt32_lt b k)
  have hf := h2 (i + k)
  have ev : v = (((dgt b32 a i * dgt b32 b k + f (i + k) + c) % b32 : Nat) : Int) := by rw [hv, e]; rfl
  have et : (u / 4294967296).toNat = (dgt b32 a i * dgt b32 b k + f (i + k) + c) / b32 := by rw [e]; rfl
  rw [ev, et]
  refine ⟨fun j => if j = i + k then (dgt b32 a i * dgt b32 b k + f (i + k) + c) % b32 else f j, h1.set (by simp) fun j _ hj => by simp [hj], fun j => ?_, ?_, ?_, fun j hj => ?_⟩
  · by_cases hj : j = i + k
    · simp only [hj, if_true]; exact Nat.mod_lt _ (by decide)
    · simp only [hj, if_false]; exact h2 j
  · rw [vs_succ b32 (dgt b32 b) k]
    exact mul_step (by omega) (fun j _ hj => by simp [hj]) (by simp) h3
  · rw [Nat.div_lt_iff_lt_mul (by decide)]
    show _ < 4294967296 * 4294967296
    omega
  · simp only [show ¬ j = i + k by omega, if_false]; exact h5 j hj
theorem MulIn.done {H a b m i c : Nat} {wr : World} (h : MulIn H a b m i (ln b32 b) c wr) (hm : i + ln b32 b < m) : MulSt H a b m (i + 1) (wr.setCell ⟨H, i + ln b32 b, none⟩ (.int .u32 (c : Int))) := by
  obtain ⟨f, h1, h2, h3, h4, h5⟩ := h
  refine ⟨fun j => if j = i + ln b32 b then c else f j, h1.set (by simp) fun j _ hj => by simp [hj], fun j => ?_, ?_, fun j hj => ?_⟩
  · by_cases hj : j = i + ln b32 b
    · simp only [hj, if_true]; exact h4
    · simp only [hj, if_false]; exact h2 j
  · have hs := vs_set (B := b32) (f := f) (g := fun j => if j = i + ln b32 b then c else f j) hm fun j _ hj => by simp [hj]
    rw [vs_dgt_ln b32_two] at h3
    rw [h5 _ (Nat.le_refl _)] at hs
    simp only [if_true] at hs
    rw [vs_succ, Nat.add_mul, Nat.mul_assoc, ← h3]
    omega
  · simp only [show ¬ j = i + ln b32 b by omega, if_false]; exact h5 j (by omega)

set_option maxHeartbeats 1000000 in
theorem times_any (A B : Option Addr) (c d a b : Nat) (w : World) (ha : Num32 w A a) (hb : Num32 w B b) (hn : ln b32 a ≤ 1000000) (hm : ln b32 b ≤ 1000000) :
    Calls Tryz.prog 139 #[.slice A (ln b32 a) c, .slice B (ln b32 b) d] w (W32 w (a * b)) := by
  have hmk := mk32 (ln b32 a + ln b32 b) (ln b32 a + ln b32 b) (Nat.le_refl _) (by omega)
  rw [show ((ln b32 a + ln b32 b : Nat) : Int) = (ln b32 a : Int) + ln b32 b by omega] at hmk
  go_enter Tryz.func139, Tryz.ntmps139
  go_wp2
  clear hmk
  go_loopw [20] (fun i wr => ∃ k : Nat, k ≤ ln b32 a ∧ i = .int .i64 k ∧ MulSt w.heap.size a b (ln b32 a + ln b32 b) k wr ∧ Below w.heap.size w wr) (fun i _ => ln b32 a - (intOf i).toNat)
  case atStart => exact ⟨0, Nat.zero_le _, rfl, ⟨fun _ => 0, Row.made, fun _ => by show (0 : Nat) < 4294967296; decide, by rw [vs_zeros fun _ _ => rfl]; simp [vs], fun _ _ => rfl⟩, (Below.refl _ _).alloc (Nat.le_refl _) _⟩
  case round =>
    obtain ⟨i, hi, rfl, hst, hbel⟩ := hrel
    by_cases hlt : i < ln b32 a
    · obtain ⟨p, q, rfl, hp, hca⟩ := ha (by omega)
      have c0 := (hbel.cell (p := ⟨p, q + i, none⟩) hp).trans (hca i hlt)
      have hxi := dgt32_lt a i
      obtain ⟨wo, rfl⟩ : ∃ wo : World, wo = wr := ⟨_, rfl⟩
      go_wp2_with fail
      go_loopw [8, 27] (fun cy j wr => ∃ k y : Nat, k ≤ ln b32 b ∧ j = .int .i64 k ∧ cy = .int .u64 (y : Int) ∧ MulIn w.heap.size a b (ln b32 a + ln b32 b) i k y wr ∧ Below w.heap.size w wr) (fun _ j _ => ln b32 b - (intOf j).toNat)
      case atStart => exact ⟨0, 0, Nat.zero_le _, rfl, rfl, hst.inner, hbel⟩
      case round =>
        obtain ⟨k, y, hk, rfl, rfl, hin, hbel2⟩ := hrel
        by_cases hkt : k < ln b32 b
        · obtain ⟨p', q', rfl, hp', hcb⟩ := hb (by omega)
          have c1 := (hbel2.cell (p := ⟨p', q' + k, none⟩) hp').trans (hcb k hkt)
          obtain ⟨f, h1, h2, h3, h4, h5⟩ := hin
          have c2 := h1.cell (i := i + k) (by omega)
          have c3 := h1.frozen (i + k)
          have hyk := dgt32_lt b k
          have hf := h2 (i + k)
          have hmul := mul_digit hxi hyk
          have hmulI : ((dgt b32 a i : Nat) : Int) * (dgt b32 b k : Nat) ≤ 18446744065119617025 := by rw [← Int.natCast_mul]; omega
          have hmul0 : 0 ≤ ((dgt b32 a i : Nat) : Int) * (dgt b32 b k : Nat) := by rw [← Int.natCast_mul]; omega
          have H2 := Lib.hid h2
          have H3 := Lib.hid h3
          have H5 := Lib.hid h5
          clear hmul h2 h3 h5
          go_wp2_with fail
          go_roundw
          case rel =>
            exact ⟨k + 1, _, by omega, by go_num, int_toNat (Int.ediv_nonneg (by omega) (by decide)), MulIn.step h1 H2.out H3.out h4 H5.out hkt (by omega) rfl rfl, hbel2.setCell (Nat.le_refl _) _⟩
          case measure => simp [intOf]; omega
        · obtain rfl : k = ln b32 b := by omega
          obtain ⟨f, h1, h2, h3, h4, h5⟩ := hin
          have c2 := h1.cell (i := i + ln b32 b) (by omega)
          have c3 := h1.frozen (i + ln b32 b)
          have hdone := MulIn.done (H := w.heap.size) (a := a) (b := b) (m := ln b32 a + ln b32 b) (i := i) (c := y) (wr := wr) ⟨f, h1, h2, h3, h4, h5⟩ (by omega)
          have HD := Lib.hid hdone
          clear h2 h3 h5 hdone
          go_wp2_with fail
          go_roundw
          case rel => exact ⟨i + 1, by omega, by go_num, HD.out, hbel2.setCell (Nat.le_refl _) _⟩
          case measure => simp [intOf]; omega
    · obtain rfl : i = ln b32 a := by omega
      obtain ⟨f, h1, h2, h3, h4⟩ := hst
      have ht := trim_any (some ⟨w.heap.size, 0, none⟩) _ (ln b32 a + ln b32 b) _ wr (h1.rd (Nat.le_refl _) h1.lt) (fun i _ => h2 i) (Nat.le_refl _) (by omega)
      rw [h3, vs_dgt_ln b32_two] at ht
      have HT := Lib.hid ht
      clear ht h2 h3 h4
      go_wp2_with fail
      refine HT.out.mono ?_
      rintro e w3 ⟨rfl, rfl, hnum, hlc⟩
      go_wp2
      go_ret
      exact ⟨_, _, rfl, hlc, hnum, hbel⟩
end Go.Proofs.YtifikcemcflgjaaGreatDoor
namespace Go.Proofs.YtifikcemcflgjaaGreatDoor

/-- Leading zero bits of a word. -/
def lz (x : Nat) : Nat := 32 - Lib.bitLen x
theorem lz_spec {x : Nat} (h0 : 0 < x) (h : x < 4294967296) : lz x < 32 ∧ 2147483648 ≤ x * 2 ^ lz x ∧ x * 2 ^ lz x < 4294967296 ∧ (32 - (Lib.bitLen x : Int)) = (lz x : Int) := by
  have hb := Lib.bitLenAux_bounds 64 x (by omega) (by omega)
  have h32 := Lib.bitLen_le x 32 (by decide) h
  unfold lz
  unfold Lib.bitLen at h32 ⊢
  generalize Lib.bitLenAux 64 x = L at *
  obtain ⟨h1, h2, h3⟩ := hb
  have e1 : 2 ^ (L - 1) * 2 ^ (32 - L) = 2147483648 := by rw [← Nat.pow_add, show L - 1 + (32 - L) = 31 by omega]
  have e2 : 2 ^ L * 2 ^ (32 - L) = 4294967296 := by rw [← Nat.pow_add, show L + (32 - L) = 32 by omega]
  have h4 := Nat.mul_le_mul_right (2 ^ (32 - L)) h2
  have h5 := Nat.mul_lt_mul_of_pos_right h3 (Nat.pow_pos (n := 32 - L) (show 0 < 2 by decide))
  rw [e1] at h4
  rw [e2] at h5
  exact ⟨by omega, h4, h5, by omega⟩
/-- The divisor, shifted so that its highest bit is 1. -/
theorem norm_div {b n s : Nat} (hn : n = ln b32 b) (hb : 0 < b) (hs : s = lz (dgt b32 b (n - 1))) : s < 32 ∧ b * 2 ^ s < b32 ^ n ∧ 2147483648 ≤ dgt b32 (b * 2 ^ s) (n - 1) ∧ 2147483648 * b32 ^ (n - 1) ≤ b * 2 ^ s := by
  subst hn
  have hn0 := (ln_pos b32_two).2 hb
  have htop := dgt_top b32_two hb
  obtain ⟨h1, h2, h3, _⟩ := lz_spec (x := dgt b32 b (ln b32 b - 1)) (by omega) (dgt32_lt ..)
  rw [← hs] at h1 h2 h3
  have hlt := lt_pow_ln b32_two b
  have hp : 0 < b32 ^ (ln b32 b - 1) := Nat.pow_pos (by decide)
  have hsplit : b = b32 ^ (ln b32 b - 1) * dgt b32 b (ln b32 b - 1) + b % b32 ^ (ln b32 b - 1) := by
    have h4 := Nat.div_add_mod b (b32 ^ (ln b32 b - 1))
    have h5 : b / b32 ^ (ln b32 b - 1) < b32 := by
      rw [Nat.div_lt_iff_lt_mul hp, ← Nat.pow_succ', show (ln b32 b - 1).succ = ln b32 b by omega]
      exact hlt
    rw [dgt, Nat.mod_eq_of_lt h5]
    exact h4.symm
  have hm := Nat.mod_lt b hp
  have e1 : b32 ^ ln b32 b = b32 ^ (ln b32 b - 1) * b32 := by rw [← Nat.pow_succ, show (ln b32 b - 1).succ = ln b32 b by omega]
  have hV : b * 2 ^ s = b32 ^ (ln b32 b - 1) * (dgt b32 b (ln b32 b - 1) * 2 ^ s) + b % b32 ^ (ln b32 b - 1) * 2 ^ s := by
    conv => lhs; rw [hsplit]
    rw [Nat.add_mul, Nat.mul_assoc]
  have hm2 : b % b32 ^ (ln b32 b - 1) * 2 ^ s < b32 ^ (ln b32 b - 1) * 2 ^ s := Nat.mul_lt_mul_of_pos_right hm (Nat.pow_pos (by decide))
  have hlow : dgt b32 b (ln b32 b - 1) * 2 ^ s + 2 ^ s ≤ 4294967296 := by
    have e2 := pow_n_dvd h1
    have e3 : dgt b32 b (ln b32 b - 1) < 2 ^ (32 - s) := by
      have : dgt b32 b (ln b32 b - 1) * 2 ^ s < 2 ^ (32 - s) * 2 ^ s := by rw [Nat.mul_comm (2 ^ (32 - s)), ← e2]; exact h3
      exact Nat.lt_of_mul_lt_mul_right this
    have e4 : (dgt b32 b (ln b32 b - 1) + 1) * 2 ^ s ≤ 2 ^ (32 - s) * 2 ^ s := Nat.mul_le_mul_right _ e3
    rw [Nat.mul_comm (2 ^ (32 - s)), ← e2, Nat.add_mul, Nat.one_mul] at e4
    exact e4
  have hlt2 : b * 2 ^ s < b32 ^ ln b32 b := by
    have h6 : b32 ^ (ln b32 b - 1) * (dgt b32 b (ln b32 b - 1) * 2 ^ s + 2 ^ s) ≤ b32 ^ (ln b32 b - 1) * b32 := Nat.mul_le_mul_left _ hlow
    rw [Nat.mul_add] at h6
    omega
  have hge : 2147483648 * b32 ^ (ln b32 b - 1) ≤ b * 2 ^ s := by
    have h7 : b32 ^ (ln b32 b - 1) * 2147483648 ≤ b32 ^ (ln b32 b - 1) * (dgt b32 b (ln b32 b - 1) * 2 ^ s) := Nat.mul_le_mul_left _ h2
    rw [Nat.mul_comm 2147483648]
    omega
  refine ⟨h1, hlt2, ?_, hge⟩
  have h8 : b * 2 ^ s / b32 ^ (ln b32 b - 1) < b32 := by rw [Nat.div_lt_iff_lt_mul hp, Nat.mul_comm b32, ← e1]; exact hlt2
  rw [dgt, Nat.mod_eq_of_lt h8, Nat.le_div_iff_mul_le hp]
  exact hge
/-- At the start the window's value is below the divisor. -/
theorem win_start {A2 V la n a s : Nat} (ha : a < b32 ^ la) (hA : A2 = a * 2 ^ s) (hs : s < 32) (hn : 0 < n) (hna : n ≤ la) (hV : 2147483648 * b32 ^ (n - 1) ≤ V) : A2 / b32 ^ (la - n + 1) < V := by
  have h1 : 2 ^ s ≤ 2147483648 := Nat.pow_le_pow_right (by decide) (show s ≤ 31 by omega)
  have h2 : A2 < b32 ^ la * 2 ^ s := by rw [hA]; exact Nat.mul_lt_mul_of_pos_right ha (Nat.pow_pos (by decide))
  have h3 : b32 ^ la * 2 ^ s ≤ b32 ^ la * 2147483648 := Nat.mul_le_mul_left _ h1
  rw [Nat.div_lt_iff_lt_mul (Nat.pow_pos (by decide))]
  have h4 : 2147483648 * b32 ^ (n - 1) * b32 ^ (la - n + 1) ≤ V * b32 ^ (la - n + 1) := Nat.mul_le_mul_right _ hV
  have h5 : 2147483648 * b32 ^ (n - 1) * b32 ^ (la - n + 1) = b32 ^ la * 2147483648 := by
    rw [Nat.mul_assoc, ← Nat.pow_add, show n - 1 + (la - n + 1) = la by omega, Nat.mul_comm]
  omega
theorem quo_len {a b la n : Nat} (ha : a < b32 ^ la) (hb : b32 ^ (n - 1) ≤ b) (hn : 0 < n) (hna : n ≤ la) : a / b < b32 ^ (la - n + 1) := by
  have hp : 0 < b32 ^ (n - 1) := Nat.pow_pos (by decide)
  rw [Nat.div_lt_iff_lt_mul (by omega)]
  have h1 : b32 ^ (la - n + 1) * b32 ^ (n - 1) ≤ b32 ^ (la - n + 1) * b := Nat.mul_le_mul_left _ hb
  rw [← Nat.pow_add, show la - n + 1 + (n - 1) = la by omega] at h1
  omega
/-- A digit of a number that is shifted to the right. -/
theorem unshift_digit {R s i : Nat} (hs : s < 32) : (dgt b32 R (i + 1) * 4294967296 + dgt b32 R i) / 2 ^ s % 4294967296 = dgt b32 (R / 2 ^ s) i := by
  have hq : 0 < 2 ^ s := Nat.pow_pos (by decide)
  have hp : 0 < b32 ^ i := Nat.pow_pos (by decide)
  have e1 : R / 2 ^ s / b32 ^ i = R / b32 ^ i / 2 ^ s := by rw [Nat.div_div_eq_div_mul, Nat.div_div_eq_div_mul, Nat.mul_comm]
  have e2 : R / b32 ^ i = b32 * (R / b32 ^ (i + 1)) + dgt b32 R i := by
    rw [dgt, Nat.pow_succ, ← Nat.div_div_eq_div_mul]
    exact (Nat.div_add_mod _ _).symm
  have e3 : R / b32 ^ (i + 1) = b32 * (R / b32 ^ (i + 2)) + dgt b32 R (i + 1) := by
    rw [dgt, Nat.pow_succ b32 (i + 1), ← Nat.div_div_eq_div_mul]
    exact (Nat.div_add_mod _ _).symm
  have e4 : R / b32 ^ i = 2 ^ s * (2 ^ (32 - s) * (b32 * (R / b32 ^ (i + 2)))) + (dgt b32 R (i + 1) * 4294967296 + dgt b32 R i) := by
    rw [e2, e3, Nat.mul_add, ← Nat.mul_assoc (2 ^ s), ← pow_n_dvd hs]
    have : b32 * dgt b32 R (i + 1) = dgt b32 R (i + 1) * 4294967296 := Nat.mul_comm ..
    omega
  rw [show dgt b32 (R / 2 ^ s) i = R / b32 ^ i / 2 ^ s % b32 by rw [dgt, e1], e4, Nat.mul_add_div hq, Nat.mul_left_comm (2 ^ (32 - s)) b32, Nat.mul_add_mod]
  rfl
end Go.Proofs.YtifikcemcflgjaaGreatDoor
/-! Plain arithmetic behind simulate (the condition of Collins). -/
namespace Go.Proofs.YtifikcemcflgjaaGreatDoor

/-- What the steps do to a and b: two numbers with the same greatest common divisor. -/
structure StepsOK (a b : Nat) (ev : Bool) (u0 u1 v0 v1 : Nat) : Prop where
  u0lt : u0 < 4294967296
  u1lt : u1 < 4294967296
  v0lt : v0 < 4294967296
  v1lt : v1 < 4294967296
  det : if ev then u0 * v1 = u1 * v0 + 1 else u1 * v0 = u0 * v1 + 1
  le0 : if ev then v0 * b ≤ u0 * a else u0 * a ≤ v0 * b
  le1 : if ev then u1 * a ≤ v1 * b else v1 * b ≤ u1 * a
  lt : if ev then v1 * b - u1 * a < u0 * a - v0 * b else u1 * a - v1 * b < v0 * b - u0 * a
  u1pos : 1 ≤ u1

/-- The state of the loop of simulate, about the leading bits al = a / K, be = b / K. -/
structure Sim (a b al be : Nat) (ev : Bool) (u0 u1 u2 v0 v1 v2 x1 x2 : Nat) : Prop where
  le : x2 ≤ x1
  sum : v2 * x1 + v1 * x2 = al
  e1 : if ev then x1 + u1 * al = v1 * be else x1 + v1 * be = u1 * al
  e2 : if ev then x2 + v2 * be = u2 * al else x2 + u2 * al = v2 * be
  det : if ev then u2 * v1 = u1 * v2 + 1 else u1 * v2 = u2 * v1 + 1
  c2 : u2 ≤ v2
  c12 : u1 + u2 ≤ v1 + v2
  v2pos : 1 ≤ v2
  pos : 1 ≤ u1 + u2
  nxt : v1 = 0 ∨ 1 ≤ u2
  u1lt : u1 < 4294967296
  v1lt : v1 < 4294967296
  u0lt : u0 < 4294967296
  v0lt : v0 < 4294967296
  out : v0 = 0 ∨ StepsOK a b ev u0 u1 v0 v1

theorem sim_start {a b al be : Nat} (hle : be ≤ al) : Sim a b al be false 0 1 0 0 0 1 al be :=
  ⟨hle, by omega, by simp, by simp, by simp, by omega, by omega, by omega, by omega, .inl rfl, by omega, by omega, by omega, by omega, .inl rfl⟩

/-- u * a - v * b, where x = u * al - v * be: between K * x - v * K and K * x + u * K. -/
theorem gap {K a b al be al' be' u v x : Nat} (ha : a = K * al + al') (hb : b = K * be + be') (hx : x + v * be = u * al) :
    K * x + v * b ≤ u * a + v * be' ∧ u * a + v * be' = K * x + v * b + u * al' := by
  subst ha hb
  have e : K * (x + v * be) = K * (u * al) := by rw [hx]
  rw [Nat.mul_add] at e
  have e1 : u * (K * al + al') = K * (u * al) + u * al' := by rw [Nat.mul_add, Nat.mul_left_comm]
  have e2 : v * (K * be + be') = K * (v * be) + v * be' := by rw [Nat.mul_add, Nat.mul_left_comm]
  omega

/-- One round of the loop. -/
theorem sim_step {K a b al be al' be' : Nat} (ha : a = K * al + al') (hb : b = K * be + be') (ha' : al' < K) (hb' : be' < K) (hal : al < 18446744073709551616)
    {ev : Bool} {u0 u1 u2 v0 v1 v2 x1 x2 : Nat} (h : Sim a b al be ev u0 u1 u2 v0 v1 v2 x1 x2) (t1 : v2 ≤ x2) (t2 : v1 + v2 ≤ x1 - x2) :
    Sim a b al be (!ev) u1 u2 (u1 + x1 / x2 * u2) v1 v2 (v1 + x1 / x2 * v2) x2 (x1 % x2) := by
  obtain ⟨hle, hsum, he1, he2, hdet, hc2, hc12, hv2, hpos, hnxt, hu1, hv1, hu0, hv0, hout⟩ := h
  have hx2 : 0 < x2 := by omega
  have hq : 1 ≤ x1 / x2 := (Nat.le_div_iff_mul_le hx2).2 (by omega)
  have hdm := Nat.div_add_mod x1 x2
  have hmod := Nat.mod_lt x1 hx2
  have hv2lt : v2 < 4294967296 := by
    rcases Nat.lt_or_ge v2 4294967296 with g | g
    · exact g
    · have h1 : 4294967296 * 4294967296 ≤ v2 * x1 := Nat.mul_le_mul g (by omega)
      omega
  generalize x1 / x2 = q at *
  generalize x1 % x2 = r at *
  have m1 : (v1 + q * v2) * x2 = v1 * x2 + v2 * (x2 * q) := by rw [Nat.add_mul, Nat.mul_comm q, Nat.mul_assoc, Nat.mul_comm q]
  have m2 : v2 * x1 = v2 * (x2 * q) + v2 * r := by rw [← Nat.mul_add, hdm]
  have hq2 : u2 ≤ q * u2 := Nat.le_mul_of_pos_left _ hq
  have hqv : v2 ≤ q * v2 := Nat.le_mul_of_pos_left _ hq
  have hc : q * u2 + v2 ≤ q * v2 + u2 := by
    obtain ⟨p, rfl⟩ : ∃ p, q = p + 1 := ⟨q - 1, by omega⟩
    have := Nat.mul_le_mul_left p hc2
    rw [Nat.succ_mul, Nat.succ_mul]; omega
  refine ⟨by omega, by omega, ?_, ?_, ?_, by omega, by omega, by omega, by omega, .inr (by omega), by omega, hv2lt, hu1, hv1, ?_⟩
  · cases ev
    · simpa using he2
    · simpa using he2
  · have k1 : (u1 + q * u2) * al = u1 * al + q * (u2 * al) := by rw [Nat.add_mul, Nat.mul_assoc]
    have k2 : (v1 + q * v2) * be = v1 * be + q * (v2 * be) := by rw [Nat.add_mul, Nat.mul_assoc]
    have k3 : x2 * q = q * x2 := Nat.mul_comm _ _
    cases ev
    · simp only [Bool.false_eq_true, if_false] at he1 he2
      simp only [Bool.not_false, if_true]
      rw [k1, k2, ← he2, Nat.mul_add]; omega
    · simp only [if_true] at he1 he2
      simp only [Bool.not_true, Bool.false_eq_true, if_false]
      rw [k1, k2, ← he2, Nat.mul_add]; omega
  · have k1 : (u1 + q * u2) * v2 = u1 * v2 + q * (u2 * v2) := by rw [Nat.add_mul, Nat.mul_assoc]
    have k2 : u2 * (v1 + q * v2) = u2 * v1 + q * (u2 * v2) := by rw [Nat.mul_add, Nat.mul_left_comm]
    cases ev
    · simp only [Bool.false_eq_true, if_false] at hdet
      simp only [Bool.not_false, if_true]
      omega
    · simp only [if_true] at hdet
      simp only [Bool.not_true, Bool.false_eq_true, if_false]
      omega
  · rcases Nat.eq_zero_or_pos v1 with h0 | h0
    · exact .inl h0
    · refine .inr ⟨hu1, by omega, hv1, hv2lt, ?_, ?_, ?_, ?_, by omega⟩
      · cases ev
        · simpa using hdet
        · simpa using hdet
      all_goals
        have y1 : K * x1 = K * x2 + K * (x1 - x2) := by rw [← Nat.mul_add]; congr 1; omega
        have y2 : K * v2 ≤ K * x2 := Nat.mul_le_mul_left _ t1
        have y3 : K * (v1 + v2) ≤ K * (x1 - x2) := Nat.mul_le_mul_left _ t2
        have y4 : K * (u1 + u2) ≤ K * (v1 + v2) := Nat.mul_le_mul_left _ hc12
        have y5 : K * u2 ≤ K * v2 := Nat.mul_le_mul_left _ hc2
        rw [Nat.mul_add] at y3
        rw [Nat.mul_add, Nat.mul_add] at y4
        have z1 : v1 * be' ≤ K * v1 := by rw [Nat.mul_comm K]; exact Nat.mul_le_mul_left _ (Nat.le_of_lt hb')
        have z2 : v2 * be' < K * v2 := by rw [Nat.mul_comm K]; exact Nat.mul_lt_mul_of_pos_left hb' hv2
        have z3 : u1 * al' ≤ K * u1 := by rw [Nat.mul_comm K]; exact Nat.mul_le_mul_left _ (Nat.le_of_lt ha')
        have z4 : u2 * al' ≤ K * u2 := by rw [Nat.mul_comm K]; exact Nat.mul_le_mul_left _ (Nat.le_of_lt ha')
        have z5 : u1 * al' + u2 * al' < K * (u1 + u2) := by rw [← Nat.add_mul, Nat.mul_comm K]; exact Nat.mul_lt_mul_of_pos_left ha' hpos
        rw [Nat.mul_add] at z5
        cases ev
        · simp only [Bool.false_eq_true, if_false] at he1 he2
          have g1 := gap ha hb he1
          have g2 := gap hb ha he2
          simp only [Bool.not_false, if_true]
          omega
        · simp only [if_true] at he1 he2
          have g1 := gap hb ha he1
          have g2 := gap ha hb he2
          simp only [Bool.not_true, Bool.false_eq_true, if_false]
          omega

/-- No overflow in the loop. -/
theorem sim_fits {a b al be : Nat} {ev : Bool} {u0 u1 u2 v0 v1 v2 x1 x2 : Nat} (h : Sim a b al be ev u0 u1 u2 v0 v1 v2 x1 x2) (hal : al < 18446744073709551616) (h2 : 1 ≤ x2) :
    v1 + v2 < 18446744073709551616 ∧ v1 + x1 / x2 * v2 < 18446744073709551616 ∧ u1 + x1 / x2 * u2 < 18446744073709551616 := by
  obtain ⟨hle, hsum, he1, he2, hdet, hc2, hc12, hv2, hpos, hnxt, hu1, hv1, hu0, hv0, hout⟩ := h
  have hq : 1 ≤ x1 / x2 := (Nat.le_div_iff_mul_le h2).2 (by omega)
  have hdm := Nat.div_add_mod x1 x2
  generalize x1 / x2 = q at *
  generalize x1 % x2 = r at *
  have m1 : (v1 + q * v2) * x2 = v1 * x2 + v2 * (x2 * q) := by rw [Nat.add_mul, Nat.mul_comm q, Nat.mul_assoc, Nat.mul_comm q]
  have m2 : v2 * x1 = v2 * (x2 * q) + v2 * r := by rw [← Nat.mul_add, hdm]
  have m3 : v1 + q * v2 ≤ (v1 + q * v2) * x2 := Nat.le_mul_of_pos_right _ h2
  have hqv : v2 ≤ q * v2 := Nat.le_mul_of_pos_left _ hq
  have hc : q * u2 + v2 ≤ q * v2 + u2 := by
    obtain ⟨p, rfl⟩ : ∃ p, q = p + 1 := ⟨q - 1, by omega⟩
    have := Nat.mul_le_mul_left p hc2
    rw [Nat.succ_mul, Nat.succ_mul]; omega
  omega

/-- What the steps leave is smaller, and has the same greatest common divisor. -/
theorem steps_even {a b u0 u1 v0 v1 : Nat} (h : StepsOK a b true u0 u1 v0 v1) : Nat.gcd (u0 * a - v0 * b) (v1 * b - u1 * a) = Nat.gcd a b ∧ v1 * b - u1 * a < b ∧ v1 * b - u1 * a < u0 * a - v0 * b ∧ u0 * a - v0 * b ≤ b := by
  obtain ⟨_, _, _, _, hd, h1, h2, h3, h4⟩ := h
  simp only [if_true] at hd h1 h2 h3
  obtain ⟨A, hA⟩ : ∃ A, A = u0 * a - v0 * b := ⟨_, rfl⟩
  obtain ⟨B, hB⟩ : ∃ B, B = v1 * b - u1 * a := ⟨_, rfl⟩
  have eA : u0 * a = A + v0 * b := by omega
  have eB : v1 * b = B + u1 * a := by omega
  have d1 : v1 * (u0 * a) = v1 * A + v1 * (v0 * b) := by rw [eA, Nat.mul_add]
  have d2 : v0 * (v1 * b) = v0 * B + v0 * (u1 * a) := by rw [eB, Nat.mul_add]
  have d3 : v1 * (u0 * a) = (u1 * v0 + 1) * a := by rw [← hd, ← Nat.mul_assoc, Nat.mul_comm v1]
  have d4 : v0 * (u1 * a) = u1 * v0 * a := by rw [← Nat.mul_assoc, Nat.mul_comm v0]
  have d5 : v1 * (v0 * b) = v0 * (v1 * b) := Nat.mul_left_comm ..
  rw [Nat.add_mul, Nat.one_mul] at d3
  have ea : a = v1 * A + v0 * B := by omega
  have f1 : u1 * (u0 * a) = u1 * A + u1 * (v0 * b) := by rw [eA, Nat.mul_add]
  have f2 : u0 * (v1 * b) = u0 * B + u0 * (u1 * a) := by rw [eB, Nat.mul_add]
  have f3 : u0 * (v1 * b) = (u1 * v0 + 1) * b := by rw [← hd, ← Nat.mul_assoc]
  have f4 : u1 * (v0 * b) = u1 * v0 * b := by rw [← Nat.mul_assoc]
  have f5 : u0 * (u1 * a) = u1 * (u0 * a) := Nat.mul_left_comm ..
  rw [Nat.add_mul, Nat.one_mul] at f3
  have eb : b = u1 * A + u0 * B := by omega
  have hA1 : A ≤ u1 * A := Nat.le_mul_of_pos_left _ h4
  rw [← hA, ← hB]
  refine ⟨Nat.dvd_antisymm (Nat.dvd_gcd ?_ ?_) (Nat.dvd_gcd ?_ ?_), by omega, by omega, by omega⟩
  · rw [ea]; exact Nat.dvd_add (Nat.dvd_mul_left_of_dvd (Nat.gcd_dvd_left _ _) _) (Nat.dvd_mul_left_of_dvd (Nat.gcd_dvd_right _ _) _)
  · rw [eb]; exact Nat.dvd_add (Nat.dvd_mul_left_of_dvd (Nat.gcd_dvd_left _ _) _) (Nat.dvd_mul_left_of_dvd (Nat.gcd_dvd_right _ _) _)
  · rw [hA]; exact Nat.dvd_sub (Nat.dvd_mul_left_of_dvd (Nat.gcd_dvd_left _ _) _) (Nat.dvd_mul_left_of_dvd (Nat.gcd_dvd_right _ _) _)
  · rw [hB]; exact Nat.dvd_sub (Nat.dvd_mul_left_of_dvd (Nat.gcd_dvd_right _ _) _) (Nat.dvd_mul_left_of_dvd (Nat.gcd_dvd_left _ _) _)
theorem steps_odd {a b u0 u1 v0 v1 : Nat} (h : StepsOK a b false u0 u1 v0 v1) : Nat.gcd (v0 * b - u0 * a) (u1 * a - v1 * b) = Nat.gcd a b ∧ u1 * a - v1 * b < b ∧ u1 * a - v1 * b < v0 * b - u0 * a ∧ v0 * b - u0 * a ≤ b := by
  obtain ⟨_, _, _, _, hd, h1, h2, h3, h4⟩ := h
  simp only [Bool.false_eq_true, if_false] at hd h1 h2 h3
  obtain ⟨A, hA⟩ : ∃ A, A = v0 * b - u0 * a := ⟨_, rfl⟩
  obtain ⟨B, hB⟩ : ∃ B, B = u1 * a - v1 * b := ⟨_, rfl⟩
  have eA : v0 * b = A + u0 * a := by omega
  have eB : u1 * a = B + v1 * b := by omega
  have d1 : v1 * (v0 * b) = v1 * A + v1 * (u0 * a) := by rw [eA, Nat.mul_add]
  have d2 : v0 * (u1 * a) = v0 * B + v0 * (v1 * b) := by rw [eB, Nat.mul_add]
  have d3 : v0 * (u1 * a) = (u0 * v1 + 1) * a := by rw [← hd, ← Nat.mul_assoc, Nat.mul_comm v0]
  have d4 : v1 * (u0 * a) = u0 * v1 * a := by rw [← Nat.mul_assoc, Nat.mul_comm v1]
  have d5 : v1 * (v0 * b) = v0 * (v1 * b) := Nat.mul_left_comm ..
  rw [Nat.add_mul, Nat.one_mul] at d3
  have ea : a = v1 * A + v0 * B := by omega
  have f1 : u1 * (v0 * b) = u1 * A + u1 * (u0 * a) := by rw [eA, Nat.mul_add]
  have f2 : u0 * (u1 * a) = u0 * B + u0 * (v1 * b) := by rw [eB, Nat.mul_add]
  have f3 : u1 * (v0 * b) = (u0 * v1 + 1) * b := by rw [← hd, ← Nat.mul_assoc]
  have f4 : u0 * (v1 * b) = u0 * v1 * b := by rw [← Nat.mul_assoc]
  have f5 : u0 * (u1 * a) = u1 * (u0 * a) := Nat.mul_left_comm ..
  rw [Nat.add_mul, Nat.one_mul] at f3
  have eb : b = u1 * A + u0 * B := by omega
  have hA1 : A ≤ u1 * A := Nat.le_mul_of_pos_left _ h4
  rw [← hA, ← hB]
  refine ⟨Nat.dvd_antisymm (Nat.dvd_gcd ?_ ?_) (Nat.dvd_gcd ?_ ?_), by omega, by omega, by omega⟩
  · rw [ea]; exact Nat.dvd_add (Nat.dvd_mul_left_of_dvd (Nat.gcd_dvd_left _ _) _) (Nat.dvd_mul_left_of_dvd (Nat.gcd_dvd_right _ _) _)
  · rw [eb]; exact Nat.dvd_add (Nat.dvd_mul_left_of_dvd (Nat.gcd_dvd_left _ _) _) (Nat.dvd_mul_left_of_dvd (Nat.gcd_dvd_right _ _) _)
  · rw [hA]; exact Nat.dvd_sub (Nat.dvd_mul_left_of_dvd (Nat.gcd_dvd_right _ _) _) (Nat.dvd_mul_left_of_dvd (Nat.gcd_dvd_left _ _) _)
  · rw [hB]; exact Nat.dvd_sub (Nat.dvd_mul_left_of_dvd (Nat.gcd_dvd_left _ _) _) (Nat.dvd_mul_left_of_dvd (Nat.gcd_dvd_right _ _) _)
end Go.Proofs.YtifikcemcflgjaaGreatDoor
