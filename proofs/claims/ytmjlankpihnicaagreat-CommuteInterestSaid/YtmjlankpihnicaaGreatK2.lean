/-
  Several texts in one: The walks of whole.result and whole.sum. The walks of slices.Equal (limbs) and whole.Same. The walk of whole.pack. The walk of whole.divideShort. Small words on rows that grow and on variables of the type Whole. The walk of whole.sum. The walk of whole.times. Plain arithmetic behind divide. The walk of whole.head and its closure. The walk of whole.shifted. Plain arithmetic behind divideStep: Knuth's estimate of a quotient's digit, and the subtraction. The walk of whole.divideStep.
-/
import Derived.Test.YtmjlankpihnicaaGreatK1
import Derived.BigQuiet
import Derived.Outline
import Derived.Lib.ItoaNum
import Derived.OneCell
import Derived.Deep.DeepCutAuto
import Derived.Deep.CutBlock
namespace Go.Proofs.YtmjlankpihnicaaGreat
open Go.RowKit

/-- The number of a sign and an absolute value. -/
def toI (s : Bool) (x : Nat) : Int := if s then -(x : Int) else x
theorem toI_abs (s : Bool) (x : Nat) : (toI s x).natAbs = x := by unfold toI; split <;> omega
theorem toI_neg (s : Bool) (x : Nat) : decide (toI s x < 0) = (s && decide (0 < x)) := by
  cases s
  · simp [toI]
  · simp [toI]
theorem toI_int (z : Int) : toI (decide (z < 0)) z.natAbs = z := by
  unfold toI
  by_cases h : z < 0
  · rw [if_pos (decide_eq_true h)]; omega
  · rw [if_neg (by simpa using h)]; omega
theorem store_whole {w w1 : World} {B R : Nat} {s : Bool} {v : Value} (h : WholeAt w1 R s v) (hb : Below B w w1) (hR : B ≤ R) (s' : Bool) (v' : Value) :
    WholeAt ((w1.setCell ⟨R, 0, none⟩ (.bool s')).setCell ⟨R, 1, none⟩ v') R s' v' ∧ Below B w ((w1.setCell ⟨R, 0, none⟩ (.bool s')).setCell ⟨R, 1, none⟩ v') :=
  ⟨h.set s' v', (hb.setCell (p := ⟨R, 0, none⟩) hR _).setCell (p := ⟨R, 1, none⟩) hR _⟩
theorem store_own {w1 : World} {R base n c : Nat} {A : Option Addr} {f : Nat → Nat} (h : Own16 base w1 A n c f) (hR : R < base) (s' : Bool) (v' : Value) :
    Own16 base ((w1.setCell ⟨R, 0, none⟩ (.bool s')).setCell ⟨R, 1, none⟩ v') A n c f :=
  ownsRow_setCell_below (ownsRow_setCell_below h (a := ⟨R, 0, none⟩) hR _) (a := ⟨R, 1, none⟩) hR _
/-- The call returned the whole number z, in memory of its own, or ErrLong. -/
def RI (w : World) (z : Int) (e : Ending) (w' : World) : Prop :=
  (ln b16 z.natAbs ≤ 1024 ∧ ∃ A c, e = .returned (.tuple #[.agg #[.bool (decide (z < 0)), .slice A (ln b16 z.natAbs) c], .int .i64 0]) ∧ Own16 w.heap.size w' A (ln b16 z.natAbs) c (dgt b16 z.natAbs) ∧ Below w.heap.size w w') ∨
  (1024 < ln b16 z.natAbs ∧ e = .returned (.tuple #[.agg #[.bool false, .slice none 0 0], .int .i64 3]) ∧ Below w.heap.size w w')
theorem RI.mono {w w1 : World} {z : Int} {e : Ending} {w' : World} (h : RI w1 z e w') (hb : Below w.heap.size w w1) : RI w z e w' := by
  rcases h with ⟨h1, A, c, he, ho, hb'⟩ | ⟨h1, he, hb'⟩
  · exact .inl ⟨h1, A, c, he, ho.lower hb.size, hb.trans (hb'.mono hb.size)⟩
  · exact .inr ⟨h1, he, hb.trans (hb'.mono hb.size)⟩

set_option maxRecDepth 100000 in
set_option maxHeartbeats 1000000 in
theorem result_any (s : Bool) (A : Option Addr) (c x : Nat) (w : World) (h : Num32 w A x) (hc : ln b32 x ≤ c) (hn : ln b32 x ≤ 1000000) :
    Calls Tryz.prog 145 #[.bool s, .slice A (ln b32 x) c] w (RI w (toI s x)) := by
  have hl16 : ln b16 x ≤ 2000000 := by have := ln32_two x; omega
  go_enter Tryz.func145, Tryz.ntmps145
  go_wp2_with fail
  have hR0 := WholeAt.new w false (.slice none 0 0)
  have hb0 : Below w.heap.size w (w.alloc (.cells #[.bool false, .slice none 0 0] 27)) := (Below.refl _ w).alloc (Nat.le_refl _) _
  refine (unpack_any s A c x _ (Num32.below h hb0) hc hn).mono ?_
  rintro e w1 ⟨B, d, rfl, hown, hb1⟩
  have hR1 := hR0.below hb1 hR0.lt
  have hbl1 := hb0.trans (hb1.mono hb0.size)
  obtain ⟨r0, r1⟩ := hR1.cells
  have g0 := hR1.frozen 0
  have g1 := hR1.frozen 1
  have hlt := hR1.lt
  by_cases hl : 1024 < ln b16 x
  · have t1 : (1024 : Int) < (ln b16 x : Int) := by omega
    go_wp2_with fail
    obtain ⟨hW, hbW⟩ := store_whole hR1 hbl1 (Nat.le_refl _) false (.slice none 0 0)
    generalize ((w1.setCell ⟨w.heap.size, 0, none⟩ (.bool false)).setCell ⟨w.heap.size, 1, none⟩ (.slice none 0 0)) = WW at *
    have hW2 : WholeAt (WW.alloc (.cells #[.bool (s && decide (0 < x)), .slice B (ln b16 x) d] 27)) w.heap.size false (.slice none 0 0) := (Below.heap_alloc _ _ _ hW.lt).trans hW
    obtain ⟨k0, k1⟩ := hW2.cells
    refine bodyPost_ret (v := .tuple #[.agg #[.bool false, .slice none 0 0], .int .i64 3]) (by simp [results, Tryz.results145, go_sem, k0, k1]) rfl ?_
    exact .inr ⟨by rw [toI_abs]; exact hl, rfl, hbW.alloc hbW.size _⟩
  · have t1 : ¬ ((1024 : Int) < (ln b16 x : Int)) := by omega
    go_wp2_with fail
    obtain ⟨hW, hbW⟩ := store_whole hR1 hbl1 (Nat.le_refl _) (s && decide (0 < x)) (.slice B (ln b16 x) d)
    have hO := (store_own (R := w.heap.size) hown (by simp) (s && decide (0 < x)) (.slice B (ln b16 x) d)).lower (base' := w.heap.size) (by simp)
    generalize ((w1.setCell ⟨w.heap.size, 0, none⟩ (.bool (s && decide (0 < x)))).setCell ⟨w.heap.size, 1, none⟩ (.slice B (ln b16 x) d)) = WW at *
    have hW2 : WholeAt (WW.alloc (.cells #[.bool (s && decide (0 < x)), .slice B (ln b16 x) d] 27)) w.heap.size (s && decide (0 < x)) (.slice B (ln b16 x) d) := (Below.heap_alloc _ _ _ hW.lt).trans hW
    obtain ⟨k0, k1⟩ := hW2.cells
    refine bodyPost_ret (v := .tuple #[.agg #[.bool (s && decide (0 < x)), .slice B (ln b16 x) d], .int .i64 0]) (by simp [results, Tryz.results145, go_sem, k0, k1]) rfl ?_
    refine .inl ⟨by rw [toI_abs]; omega, B, d, by rw [toI_abs, toI_neg], by rw [toI_abs]; exact hO.alloc _, hbW.alloc hbW.size _⟩
end Go.Proofs.YtmjlankpihnicaaGreat
namespace Go.Proofs.YtmjlankpihnicaaGreat
open Go.RowKit

/-- Are the first n limbs equal? -/
def eqU (f h : Nat → Nat) : Nat → Bool
  | 0 => true
  | n + 1 => eqU f h n && (f n == h n)
theorem eqU_false {f h : Nat → Nat} {k n : Nat} (hk : k < n) (he : f k ≠ h k) : eqU f h n = false := by
  induction n with
  | zero => omega
  | succ n ih =>
    simp only [eqU]
    by_cases e : k = n
    · subst e; rw [beq_false_of_ne he, Bool.and_false]
    · rw [ih (by omega), Bool.false_and]
theorem eqU_step {f h : Nat → Nat} {k : Nat} (hk : eqU f h k = true) (he : f k = h k) : eqU f h (k + 1) = true := by
  simp only [eqU]; rw [hk, he]; simp
def eqL (n m : Nat) (f h : Nat → Nat) : Bool := (n == m) && eqU f h n

set_option maxRecDepth 100000 in
set_option maxHeartbeats 1000000 in
theorem equal16_any (A B : Option Addr) (n m c d : Nat) (f h : Nat → Nat) (w : World) (hA : Rd w.heap.size .u16 w A n f) (hB : Rd w.heap.size .u16 w B m h)
    (hn : n ≤ 1000000) (hm : m ≤ 1000000) :
    Calls Tryz.prog 152 #[.slice A n c, .slice B m d] w fun e w' => e = .returned (.bool (eqL n m f h)) ∧ ∃ q, w' = w.drewN q := by
  go_enter Tryz.func152, Tryz.ntmps152
  by_cases hl : n = m
  · subst hl
    have t0 : ((n : Int) != (n : Int)) = false := by simp
    go_wp2_with fail
    go_loopw [13] (fun i wr => ∃ k : Nat, k ≤ n ∧ i = .int .i64 (k : Int) ∧ eqU f h k = true ∧ ∃ q, wr = w.drewN q) (fun i _ => n - (intOf i).toNat)
    case atStart => exact ⟨0, Nat.zero_le _, rfl, rfl, 0, rfl⟩
    case round =>
      obtain ⟨k, hk, rfl, hok, q, rfl⟩ := hrel
      have HOK := Lib.hid hok
      clear hok
      by_cases hlt : k < n
      · obtain ⟨pa, qa, rfl, hpa, hca⟩ := hA (by omega)
        obtain ⟨pb, qb, rfl, hpb, hcb⟩ := hB (by omega)
        have c1 := hca k hlt
        have c2 := hcb k hlt
        clear hca hcb
        by_cases he : f k = h k
        · have t1 : (((f k : Nat) : Int) != ((h k : Nat) : Int)) = false := by rw [he]; simp
          have HE := Lib.hid he
          clear he
          go_wp2_with fail
          go_quiet (fail)
          go_wp2
          go_roundw
          case rel => exact ⟨k + 1, by omega, by go_num, eqU_step HOK.out HE.out, q + nq, rfl⟩
          case measure => simp [intOf]; omega
        · have t1 : (((f k : Nat) : Int) != ((h k : Nat) : Int)) = true := bne_iff_ne.2 (by omega)
          have hfin : eqL n n f h = false := by unfold eqL; rw [eqU_false hlt he, Bool.and_false]
          have HF := Lib.hid hfin
          clear hfin he
          go_wp2_with fail
          go_quiet (fail)
          go_wp2
          go_ret
          exact ⟨ret_bool HF.out.symm, q + nq, World.drewN_drewN ..⟩
      · obtain rfl : k = n := by omega
        have hfin : eqL k k f h = true := by unfold eqL; rw [HOK.out]; simp
        have HF := Lib.hid hfin
        clear hfin
        go_wp2_with fail
        go_ret
        exact ⟨ret_bool HF.out.symm, q, rfl⟩
  · have t0 : ((n : Int) != (m : Int)) = true := bne_iff_ne.2 (by omega)
    have hfin : eqL n m f h = false := by unfold eqL; rw [beq_false_of_ne hl, Bool.false_and]
    have HF := Lib.hid hfin
    clear hfin
    go_wp2_with fail
    go_ret
    exact ⟨ret_bool HF.out.symm, 0, rfl⟩

/-- Are two numbers the same? -/
def sameW (s t : Bool) (n m : Nat) (f h : Nat → Nat) : Bool := (s == t) && eqL n m f h
set_option maxRecDepth 100000 in
set_option maxHeartbeats 1000000 in
theorem same_any (s t : Bool) (A B : Option Addr) (n m c d : Nat) (f h : Nat → Nat) (w : World) (hA : Rd w.heap.size .u16 w A n f) (hB : Rd w.heap.size .u16 w B m h) (hn : n ≤ 1000000) (hm : m ≤ 1000000) :
    Calls Tryz.prog 133 #[.agg #[.bool s, .slice A n c], .agg #[.bool t, .slice B m d]] w fun e w' => e = .returned (.bool (sameW s t n m f h)) ∧ Below w.heap.size w w' := by
  have b1 : Below w.heap.size w (w.alloc (.cells #[.bool s, .slice A n c] 27)) := (Below.refl _ w).alloc (Nat.le_refl _) _
  have b2 := b1.alloc b1.size (.cells #[.bool t, .slice B m d] 27)
  go_enter Tryz.func133, Tryz.ntmps133
  by_cases hst : s = t
  · subst hst
    have t0 : (s == s) = true := by simp
    go_wp2_with fail
    refine (equal16_any A B n m c d f h _ ((hA.below b2).more b2.size) ((hB.below b2).more b2.size) hn hm).mono ?_
    rintro e w3 ⟨rfl, q, rfl⟩
    go_wp2_with fail
    go_ret
    exact ⟨ret_bool (by simp [sameW]), belowN b2 q⟩
  · have t0 : (s == t) = false := by simp [hst]
    have hfin : sameW s t n m f h = false := by unfold sameW; rw [t0, Bool.false_and]
    have HF := Lib.hid hfin
    clear hfin
    go_wp2_with fail
    go_ret
    exact ⟨ret_bool HF.out.symm, b2⟩
end Go.Proofs.YtmjlankpihnicaaGreat
namespace Go.Proofs.YtmjlankpihnicaaGreat
open Go.RowKit

/-- The words after the first j limbs. -/
def pk (f : Nat → Nat) (j q : Nat) : Nat := (if 2 * q < j then f (2 * q) else 0) + 65536 * (if 2 * q + 1 < j then f (2 * q + 1) else 0)

theorem pk_even {f : Nat → Nat} {j : Nat} (hf : ∀ i, f i < 65536) (hp : j % 2 = 0) : bits .or .u32 ((pk f j (j / 2) : Nat) : Int) (((f j : Nat) : Int) % 4294967296) = ((pk f (j + 1) (j / 2) : Nat) : Int) := by
  have h1 := hf j
  have h2 := hf (j + 1)
  have e1 : pk f j (j / 2) = 0 := by unfold pk; rw [if_neg (by omega), if_neg (by omega)]
  have e2 : pk f (j + 1) (j / 2) = f j := by unfold pk; rw [if_pos (by omega), if_neg (by omega), show 2 * (j / 2) = j by omega]; omega
  rw [e1, e2, show ((f j : Nat) : Int) % 4294967296 = ((f j : Nat) : Int) by omega]
  exact u32_or_zero (by omega)
theorem pk_odd {f : Nat → Nat} {j : Nat} (hf : ∀ i, f i < 65536) (hp : j % 2 = 1) : bits .or .u32 ((pk f j (j / 2) : Nat) : Int) (((f j : Nat) : Int) * 65536 % 4294967296) = ((pk f (j + 1) (j / 2) : Nat) : Int) := by
  have h1 := hf j
  have h2 := hf (2 * (j / 2))
  have e1 : pk f j (j / 2) = f (2 * (j / 2)) := by unfold pk; rw [if_pos (by omega), if_neg (by omega)]; omega
  have e2 : pk f (j + 1) (j / 2) = f (2 * (j / 2)) + 65536 * f j := by
    unfold pk; rw [if_pos (by omega), if_pos (by omega)]
    have e : 2 * (j / 2) + 1 = j := by omega
    rw [e]
  rw [e1, e2, show ((f j : Nat) : Int) * 65536 % 4294967296 = ((65536 * f j : Nat) : Int) by omega]
  exact u32_or_add h2 h1
theorem pk_other {f : Nat → Nat} {j q : Nat} (h : q ≠ j / 2) : pk f (j + 1) q = pk f j q := by
  unfold pk
  have e1 : (2 * q < j + 1) ↔ (2 * q < j) := by omega
  have e2 : (2 * q + 1 < j + 1) ↔ (2 * q + 1 < j) := by omega
  simp only [e1, e2]

set_option maxHeartbeats 400000 in
theorem pack_walk (A : Option Addr) (n c : Nat) (f : Nat → Nat) (w : World) (h : Rd w.heap.size .u16 w A n f) (hf : ∀ i, f i < 65536) (hn : n ≤ 1000000) :
    Calls Tryz.prog 118 #[.slice A n c] w fun e w' => e = .returned (.slice (some ⟨w.heap.size, 0, none⟩) ((n + 1) / 2) ((n + 1) / 2)) ∧ Row w' w.heap.size 152 .u32 ((n + 1) / 2) ((n + 1) / 2) (pk f n) ∧ Below w.heap.size w w' := by
  have hmk := mk32 ((n + 1) / 2) ((n + 1) / 2) (Nat.le_refl _) (by omega)
  rw [show (((n + 1) / 2 : Nat) : Int) = ((n : Int) + 1) / 2 by omega] at hmk
  go_enter Tryz.func118, Tryz.ntmps118
  go_wp2
  clear hmk
  go_loopw [13] (fun i wr => ∃ j : Nat, j ≤ n ∧ i = .int .i64 j ∧ Row wr w.heap.size 152 .u32 ((n + 1) / 2) ((n + 1) / 2) (pk f j) ∧ Below w.heap.size w wr) (fun i _ => n - (intOf i).toNat)
  case atStart => exact ⟨0, Nat.zero_le _, rfl, Row.made.congr fun j _ => by simp [pk], (Below.refl _ _).alloc (Nat.le_refl _) _⟩
  case round =>
    obtain ⟨j, hj, rfl, hrow, hbel⟩ := hrel
    by_cases hlt : j < n
    · obtain ⟨b, o, rfl, hb, hcell⟩ := h (by omega)
      have hc1 := (hbel.cell (p := ⟨b, o + j, none⟩) hb).trans (hcell j hlt)
      have hc2 := hrow.cell (i := j / 2) (by omega)
      have hc3 := hrow.frozen (j / 2)
      have hfj := hf j
      rcases Nat.mod_two_eq_zero_or_one j with hp | hp
      · go_wp2
        go_region
        go_wp2
        go_roundw
        case rel =>
          rw [pk_even hf hp]
          exact ⟨j + 1, by omega, by go_num, hrow.drew.set rfl fun q _ hq => pk_other hq, hbel.drew.setCell (Nat.le_refl _) _⟩
        case measure => simp [intOf]; omega
      · go_wp2
        go_region
        go_wp2
        go_roundw
        case rel =>
          rw [pk_odd hf hp]
          exact ⟨j + 1, by omega, by go_num, hrow.drew.set rfl fun q _ hq => pk_other hq, hbel.drew.setCell (Nat.le_refl _) _⟩
        case measure => simp [intOf]; omega
    · obtain rfl : j = n := by omega
      go_wp2
      go_ret
      exact ⟨rfl, hrow, hbel⟩
theorem pk_dgt (x q : Nat) (hq : q < (ln b16 x + 1) / 2) : pk (dgt b16 x) (ln b16 x) q = dgt b32 x q := by
  rw [dgt32_two, pk, if_pos (by omega)]
  by_cases h : 2 * q + 1 < ln b16 x
  · rw [if_pos h]
  · rw [if_neg h, dgt_of_lt (j := 2 * q + 1) ((ln_le b16_two).1 (by omega))]
/-- pack of the limbs of x: the words of x. -/
theorem pack_any (A : Option Addr) (c x : Nat) (w : World) (h : Num16 w A x) (hn : ln b16 x ≤ 1000000) :
    Calls Tryz.prog 118 #[.slice A (ln b16 x) c] w (W32 w x) :=
  (pack_walk A _ c _ w h (fun i => dgt16_lt x i) hn).mono fun e w' ⟨he, hr, hb⟩ => by
    refine ⟨some ⟨w.heap.size, 0, none⟩, (ln b16 x + 1) / 2, by rw [he, ln32_two], by rw [ln32_two]; exact Nat.le_refl _, ?_, hb⟩
    have h1 := hr.congr (f' := dgt b32 x) fun j hj => pk_dgt x j hj
    unfold Num32
    rw [ln32_two]
    exact h1.rd (Nat.le_refl _) h1.lt
end Go.Proofs.YtmjlankpihnicaaGreat
namespace Go.Proofs.YtmjlankpihnicaaGreat
open Go.RowKit

/-- The quotient's words, in memory; the remainder. -/
def DivShortPost (x d : Nat) (w : World) (e : Ending) (w' : World) : Prop :=
  ∃ A c, e = .returned (.tuple #[.slice A (ln b32 (x / d)) c, .int .u32 ((x % d : Nat) : Int)]) ∧ ln b32 (x / d) ≤ c ∧ Num32 w' A (x / d) ∧ Below w.heap.size w w'
/-- The quotient's words, at the head of a block of the call's own. -/
def DivShortAt (x d : Nat) (w : World) (e : Ending) (w' : World) : Prop :=
  ∃ c, e = .returned (.tuple #[.slice (some ⟨w.heap.size, 0, none⟩) (ln b32 (x / d)) c, .int .u32 ((x % d : Nat) : Int)]) ∧ ln b32 (x / d) ≤ c ∧ Num32 w' (some ⟨w.heap.size, 0, none⟩) (x / d) ∧ Below w.heap.size w w'
/-- The words of the quotient from digit k on. -/
def qst (x d k j : Nat) : Nat := if k ≤ j then dgt b32 (x / d) j else 0
theorem qst_lt (x d k j : Nat) : qst x d k j < 4294967296 := by unfold qst; split; exact dgt32_lt ..; decide
theorem qst_total {n : Nat} (x d : Nat) (h : x < b32 ^ n) : vs b32 (qst x d 0) n = x / d := by
  rw [vs_congr (g := dgt b32 (x / d)) fun j _ => by simp [qst]]
  exact vs_dgt_lt (Nat.lt_of_le_of_lt (Nat.div_le_self ..) h)

set_option maxHeartbeats 400000 in
theorem divShort_at (A : Option Addr) (c x d : Nat) (w : World) (hx : Num32 w A x) (hd : 0 < d) (hd1 : d < 4294967296) (hn : ln b32 x ≤ 1000000) :
    Calls Tryz.prog 170 #[.slice A (ln b32 x) c, .int .u32 (d : Int)] w (DivShortAt x d w) := by
  have hmk := mk32 (ln b32 x) (ln b32 x) (Nat.le_refl _) (by omega)
  have HN := Lib.hid (qst_total x d (lt_pow_ln b32_two x))
  have HL := Lib.hid (lt_pow_ln b32_two x)
  go_enter Tryz.func170, Tryz.ntmps170
  go_wp2
  clear hmk
  go_loopw [7, 8] (fun r i wr => ∃ k : Nat, k ≤ ln b32 x ∧ i = .int .i64 ((k : Int) - 1) ∧ r = .int .u32 ((x / b32 ^ k % d : Nat) : Int) ∧ Row wr w.heap.size 152 .u32 (ln b32 x) (ln b32 x) (qst x d k) ∧ Below w.heap.size w wr) (fun _ i _ => (intOf i + 1).toNat)
  case atStart => exact ⟨ln b32 x, Nat.le_refl _, rfl, by rw [Nat.div_eq_of_lt HL.out]; simp, Row.made.congr fun j hj => by simp only [qst]; rw [if_neg (by omega)], (Below.refl _ _).alloc (Nat.le_refl _) _⟩
  case round =>
    obtain ⟨k, hk, rfl, rfl, hrow, hbel⟩ := hrel
    rcases Nat.eq_zero_or_pos k with rfl | hk0
    · have ht := trim_any (some ⟨w.heap.size, 0, none⟩) (ln b32 x) (ln b32 x) _ wr (hrow.rd (Nat.le_refl _) hrow.lt) (fun i _ => qst_lt ..) (Nat.le_refl _) (by omega)
      rw [HN.out] at ht
      have HT := Lib.hid ht
      clear ht
      go_wp2_with fail
      refine HT.out.mono ?_
      rintro e w3 ⟨rfl, rfl, hnum, hlc⟩
      go_wp2
      go_ret2
      exact ⟨_, rfl, hlc, hnum, hbel⟩
    · obtain ⟨j, rfl⟩ : ∃ j, k = j + 1 := ⟨k - 1, by omega⟩
      have ej : (((j + 1 : Nat) : Int) - 1) = (j : Int) := by omega
      rw [ej]
      obtain ⟨b, o, rfl, hb, hca⟩ := hx (by omega)
      have c0 := (hbel.cell (p := ⟨b, o + j, none⟩) hb).trans (hca j (by omega))
      have c1 := hrow.cell (i := j) (by omega)
      have c2 := hrow.frozen j
      have hr := Nat.mod_lt (x / b32 ^ (j + 1)) hd
      have hl := dgt32_lt x j
      obtain ⟨s1, s2⟩ := short_step (B := b32) (x := x) (k := j) hd
      have hq := div32_lt hr hl
      have hcall := div32_any _ _ _ wr hr hl hd1
      rw [show 4294967296 * (x / b32 ^ (j + 1) % d) + dgt b32 x j = b32 * (x / b32 ^ (j + 1) % d) + dgt b32 x j by rfl] at hcall hq
      rw [Nat.mod_eq_of_lt (show _ < b32 by exact hq)] at s1
      rw [s1, s2] at hcall
      have HC := Lib.hid hcall
      clear hcall hq s1 s2
      go_wp2_with fail
      refine HC.out.mono ?_
      rintro e w2 ⟨rfl, nq, rfl⟩
      go_wp2
      go_roundw
      case rel => exact ⟨j, by omega, by go_num, rfl, (hrow.drewN _).set (by simp [qst]) fun q _ hq => by simp only [qst, show j ≤ q ↔ j + 1 ≤ q by omega], (belowN hbel _).setCell (Nat.le_refl _) _⟩
      case measure => simp [intOf]
theorem divShort_any (A : Option Addr) (c x d : Nat) (w : World) (hx : Num32 w A x) (hd : 0 < d) (hd1 : d < 4294967296) (hn : ln b32 x ≤ 1000000) :
    Calls Tryz.prog 170 #[.slice A (ln b32 x) c, .int .u32 (d : Int)] w (DivShortPost x d w) :=
  (divShort_at A c x d w hx hd hd1 hn).mono fun _ _ ⟨c, h1, h2, h3, h4⟩ => ⟨_, c, h1, h2, h3, h4⟩
end Go.Proofs.YtmjlankpihnicaaGreat
namespace Go.Proofs.YtmjlankpihnicaaGreat
open Go.RowKit

def lenV : Value → Nat
  | .slice _ n _ => n
  | _ => 0
theorem nums_succ (k : IntKind) (m : Nat) (f : Nat → Nat) : nums k m f ++ [.int k (f m : Int)] = nums k (m + 1) f := by simp [nums, List.range_succ]
theorem WholeAt.alloc' {w : World} {g : Nat} {s : Bool} {v : Value} (h : WholeAt w g s v) (o : Obj) : WholeAt (w.alloc o) g s v := (Below.heap_alloc _ _ _ h.lt).trans h
theorem WholeAt.grown {w w' : World} {g : Nat} {s : Bool} {v : Value} {row : Option Nat} (h : WholeAt w g s v) (hg : w.grownBy w' row) (hne : some g ≠ row) : WholeAt w' g s v := (hg.block g h.lt hne).trans h
theorem own_not {w : World} {base t size n : Nat} {v : Value} {xs : List Value} (h : w.ownsRow base t size v n xs) {g : Nat} (hg : g < base) : some g ≠ v.ownBlock := fun e => by
  have := (h.lt g e.symm).1
  omega
theorem own_below {base B t size n : Nat} {w w' : World} {v : Value} {xs : List Value} (h : w.ownsRow base t size v n xs) (hb : Below B w w') (hB : w.heap.size ≤ B) : w'.ownsRow base t size v n xs := by
  obtain ⟨h1, h2⟩ := h
  refine ⟨h1, ?_⟩
  rcases h2 with h2 | ⟨g, cap, cur, hv, hg, hh, r⟩
  · exact .inl h2
  · have hlt := heap_lt hh
    exact .inr ⟨g, cap, cur, hv, hg, (hb.block g (by omega)).trans hh, r⟩
end Go.Proofs.YtmjlankpihnicaaGreat
namespace Go.Proofs.YtmjlankpihnicaaGreat
open Go.RowKit

/-- What a call that returns a whole number and an error hands back: the number z, or ErrLong. -/
def RIv (base : Nat) (w' : World) (z : Int) (s : Bool) (A : Option Addr) (n c : Nat) (k : Int) : Prop :=
  (ln b16 z.natAbs ≤ 1024 ∧ s = decide (z < 0) ∧ n = ln b16 z.natAbs ∧ k = 0 ∧ Own16 base w' A n c (dgt b16 z.natAbs)) ∨
  (1024 < ln b16 z.natAbs ∧ s = false ∧ A = none ∧ n = 0 ∧ c = 0 ∧ k = 3)
theorem RI.vals {w w' : World} {z : Int} {e : Ending} (h : RI w z e w') : ∃ s A n c k, e = .returned (.tuple #[.agg #[.bool s, .slice A n c], .int .i64 k]) ∧ RIv w.heap.size w' z s A n c k ∧ Below w.heap.size w w' := by
  rcases h with ⟨h1, A, c, he, ho, hb⟩ | ⟨h1, he, hb⟩
  · exact ⟨_, _, _, _, _, he, .inl ⟨h1, rfl, rfl, rfl, ho⟩, hb⟩
  · exact ⟨_, _, _, _, _, he, .inr ⟨h1, rfl, rfl, rfl, rfl, rfl⟩, hb⟩
theorem RIv.ri {w w' : World} {z : Int} {s : Bool} {A : Option Addr} {n c : Nat} {k : Int} (h : RIv w.heap.size w' z s A n c k) (hb : Below w.heap.size w w') : RI w z (.returned (.tuple #[.agg #[.bool s, .slice A n c], .int .i64 k])) w' := by
  rcases h with ⟨h1, rfl, rfl, rfl, ho⟩ | ⟨h1, rfl, rfl, rfl, rfl, rfl⟩
  · exact .inl ⟨h1, A, c, rfl, ho, hb⟩
  · exact .inr ⟨h1, rfl, hb⟩
theorem RIv.store {base R : Nat} {w' : World} {z : Int} {s : Bool} {A : Option Addr} {n c : Nat} {k : Int} (h : RIv base w' z s A n c k) (hR : R < base) (s' : Bool) (v' : Value) : RIv base ((w'.setCell ⟨R, 0, none⟩ (.bool s')).setCell ⟨R, 1, none⟩ v') z s A n c k := by
  rcases h with ⟨h1, e1, e2, e3, ho⟩ | h
  · exact .inl ⟨h1, e1, e2, e3, store_own ho hR s' v'⟩
  · exact .inr h
theorem RIv.lower {base base' : Nat} {w' : World} {z : Int} {s : Bool} {A : Option Addr} {n c : Nat} {k : Int} (h : RIv base w' z s A n c k) (hb : base' ≤ base) : RIv base' w' z s A n c k := by
  rcases h with ⟨h1, e1, e2, e3, ho⟩ | h
  · exact .inl ⟨h1, e1, e2, e3, ho.lower hb⟩
  · exact .inr h
theorem RIv.alloc {base : Nat} {w' : World} {z : Int} {s : Bool} {A : Option Addr} {n c : Nat} {k : Int} (h : RIv base w' z s A n c k) (o : Obj) : RIv base (w'.alloc o) z s A n c k := by
  rcases h with ⟨h1, e1, e2, e3, ho⟩ | h
  · exact .inl ⟨h1, e1, e2, e3, ho.alloc _⟩
  · exact .inr h

theorem ln_add {B x y m : Nat} (hB : 2 ≤ B) (hx : ln B x ≤ m) (hy : ln B y ≤ m) : ln B (x + y) ≤ m + 1 := by
  have h1 := (ln_le hB).1 hx
  have h2 := (ln_le hB).1 hy
  refine (ln_le hB).2 ?_
  have h3 : B ^ m * 2 ≤ B ^ m * B := Nat.mul_le_mul_left _ hB
  rw [Nat.pow_succ]
  omega
theorem toI_same {s : Bool} {x y : Nat} : toI s (x + y) = toI s x + toI s y := by cases s <;> simp [toI] <;> omega
theorem toI_diff {s t : Bool} {x y : Nat} (h : s ≠ t) (hyx : y ≤ x) : toI s (x - y) = toI s x + toI t y := by
  cases s <;> cases t <;> simp_all [toI] <;> omega
theorem cmp_ge {a b : Nat} : 0 ≤ cmpI a b ↔ b ≤ a := by
  unfold cmpI; split <;> (try split) <;> omega
set_option maxRecDepth 100000 in
set_option maxHeartbeats 1000000 in
theorem sum_any (s t : Bool) (A B : Option Addr) (c d x y : Nat) (w : World) (hx : Num32 w A x) (hy : Num32 w B y) (hn : ln b32 x ≤ 900000) (hm : ln b32 y ≤ 900000) :
    Calls Tryz.prog 154 #[.bool s, .slice A (ln b32 x) c, .bool t, .slice B (ln b32 y) d] w (RI w (toI s x + toI t y)) := by
  have hR0 := WholeAt.new w false (.slice none 0 0)
  have hb0 : Below w.heap.size w (w.alloc (.cells #[.bool false, .slice none 0 0] 27)) := (Below.refl _ w).alloc (Nat.le_refl _) _
  have hx0 := Num32.below hx hb0
  have hy0 := Num32.below hy hb0
  have hxy : ln b32 (x + y) ≤ 900000 + 1 := ln_add b32_two hn hm
  go_enter Tryz.func154, Tryz.ntmps154
  by_cases hst : s = t
  · subst hst
    rw [← toI_same]
    go_wp2_with fail
    refine (plus_any A B c d x y _ hx0 hy0 (by omega) (by omega)).mono ?_
    rintro e w1 ⟨C, cc, rfl, hcc, hnum, hb1⟩
    go_wp2_with fail
    refine (result_any s C cc (x + y) w1 hnum hcc (by omega)).mono ?_
    rintro e w2 hri
    obtain ⟨s', A', n', c', k, rfl, hv, hb2⟩ := hri.vals
    have hR2 := (hR0.below hb1 hR0.lt).below hb2 (Nat.lt_of_lt_of_le hR0.lt hb1.size)
    have hbl2 := (hb0.trans (hb1.mono hb0.size)).trans (hb2.mono (Nat.le_trans hb0.size hb1.size))
    have hlt := Nat.lt_of_lt_of_le hR0.lt hb1.size
    obtain ⟨r0, r1⟩ := hR2.cells
    have g0 := hR2.frozen 0
    have g1 := hR2.frozen 1
    obtain ⟨hW, hbW⟩ := store_whole hR2 hbl2 (Nat.le_refl _) s' (.slice A' n' c')
    have hv2 := (hv.store hlt s' (.slice A' n' c')).lower (Nat.le_of_lt hlt)
    have HW := Lib.hid hW
    have HV := Lib.hid hv2
    clear hv hv2 hW hri
    go_wp2_with fail
    have hW := HW.out
    have hv2 := HV.out
    clear HW HV hR2 r0 r1
    generalize ((w2.setCell ⟨w.heap.size, 0, none⟩ (.bool s')).setCell ⟨w.heap.size, 1, none⟩ (.slice A' n' c')) = WW at *
    obtain ⟨k0, k1⟩ := hW.cells
    refine bodyPost_ret (v := .tuple #[.agg #[.bool s', .slice A' n' c'], .int .i64 k]) (by simp [results, Tryz.results154, go_sem, k0, k1]) rfl ?_
    exact hv2.ri hbW
  · have t1 : (s == t) = false := by simp [hst]
    go_wp2_with fail
    refine (compare_any A B c d x y _ hx0 hy0 (by omega)).mono ?_
    rintro e w1 ⟨rfl, n, rfl⟩
    have hbn := belowN (Below.refl (w.alloc (.cells #[.bool false, .slice none 0 0] 27)).heap.size (w.alloc (.cells #[.bool false, .slice none 0 0] 27))) n
    by_cases hle : y ≤ x
    · have h1 := cmp_ge.2 hle
      go_wp2_with fail
      refine (minus_any A B c d x y _ (Num32.below hx0 hbn) (Num32.below hy0 hbn) hle (by omega)).mono ?_
      rintro e w1 ⟨C, cc, rfl, hcc, hnum, hb1'⟩
      have hb1 := hbn.trans hb1'
      go_wp2_with fail
      refine (result_any s C cc (x - y) w1 hnum hcc (Nat.le_trans (ln_mono b32_two (Nat.sub_le x y)) (by omega))).mono ?_
      rintro e w2 hri
      obtain ⟨s', A', n', c', k, rfl, hv, hb2⟩ := hri.vals
      have hR2 := (hR0.below hb1 hR0.lt).below hb2 (Nat.lt_of_lt_of_le hR0.lt hb1.size)
      have hbl2 := (hb0.trans (hb1.mono hb0.size)).trans (hb2.mono (Nat.le_trans hb0.size hb1.size))
      have hlt := Nat.lt_of_lt_of_le hR0.lt hb1.size
      obtain ⟨r0, r1⟩ := hR2.cells
      have g0 := hR2.frozen 0
      have g1 := hR2.frozen 1
      obtain ⟨hW, hbW⟩ := store_whole hR2 hbl2 (Nat.le_refl _) s' (.slice A' n' c')
      have hv2 := (hv.store hlt s' (.slice A' n' c')).lower (Nat.le_of_lt hlt)
      have HW := Lib.hid hW
      have HV := Lib.hid hv2
      clear hv hv2 hW hri
      go_wp2_with fail
      have hW := HW.out
      have hv2 := HV.out
      clear HW HV hR2 r0 r1
      generalize ((w2.setCell ⟨w.heap.size, 0, none⟩ (.bool s')).setCell ⟨w.heap.size, 1, none⟩ (.slice A' n' c')) = WW at *
      obtain ⟨k0, k1⟩ := hW.cells
      refine bodyPost_ret (v := .tuple #[.agg #[.bool s', .slice A' n' c'], .int .i64 k]) (by simp [results, Tryz.results154, go_sem, k0, k1]) rfl ?_
      rw [toI_diff hst hle] at hv2
      exact hv2.ri hbW
    · have h1 : ¬ (0 ≤ cmpI x y) := fun h => hle (cmp_ge.1 h)
      go_wp2_with fail
      refine (minus_any B A d c y x _ (Num32.below hy0 hbn) (Num32.below hx0 hbn) (by omega) (by omega)).mono ?_
      rintro e w1 ⟨C, cc, rfl, hcc, hnum, hb1'⟩
      have hb1 := hbn.trans hb1'
      go_wp2_with fail
      refine (result_any t C cc (y - x) w1 hnum hcc (Nat.le_trans (ln_mono b32_two (Nat.sub_le y x)) (by omega))).mono ?_
      rintro e w2 hri
      obtain ⟨s', A', n', c', k, rfl, hv, hb2⟩ := hri.vals
      have hR2 := (hR0.below hb1 hR0.lt).below hb2 (Nat.lt_of_lt_of_le hR0.lt hb1.size)
      have hbl2 := (hb0.trans (hb1.mono hb0.size)).trans (hb2.mono (Nat.le_trans hb0.size hb1.size))
      have hlt := Nat.lt_of_lt_of_le hR0.lt hb1.size
      obtain ⟨r0, r1⟩ := hR2.cells
      have g0 := hR2.frozen 0
      have g1 := hR2.frozen 1
      obtain ⟨hW, hbW⟩ := store_whole hR2 hbl2 (Nat.le_refl _) s' (.slice A' n' c')
      have hv2 := (hv.store hlt s' (.slice A' n' c')).lower (Nat.le_of_lt hlt)
      have HW := Lib.hid hW
      have HV := Lib.hid hv2
      clear hv hv2 hW hri
      go_wp2_with fail
      have hW := HW.out
      have hv2 := HV.out
      clear HW HV hR2 r0 r1
      generalize ((w2.setCell ⟨w.heap.size, 0, none⟩ (.bool s')).setCell ⟨w.heap.size, 1, none⟩ (.slice A' n' c')) = WW at *
      obtain ⟨k0, k1⟩ := hW.cells
      refine bodyPost_ret (v := .tuple #[.agg #[.bool s', .slice A' n' c'], .int .i64 k]) (by simp [results, Tryz.results154, go_sem, k0, k1]) rfl ?_
      rw [toI_diff (Ne.symm hst) (show x ≤ y by omega), Int.add_comm] at hv2
      exact hv2.ri hbW
end Go.Proofs.YtmjlankpihnicaaGreat
namespace Go.Proofs.YtmjlankpihnicaaGreat
open Go.RowKit

/-- After the first i digits of a: the words are those of their product with b. -/
def MulSt (H a b m i : Nat) (wr : World) : Prop := ∃ f : Nat → Nat, Row wr H 152 .u32 m m f ∧ (∀ j, f j < 4294967296) ∧ vs b32 f m = vs b32 (dgt b32 a) i * b ∧ ∀ j, i + ln b32 b ≤ j → f j = 0
/-- Within digit i: k digits of b done, the carry c. -/
def MulIn (H a b m i k c : Nat) (wr : World) : Prop := ∃ f : Nat → Nat, Row wr H 152 .u32 m m f ∧ (∀ j, f j < 4294967296) ∧ vs b32 f m + b32 ^ (i + k) * c = vs b32 (dgt b32 a) i * b + b32 ^ i * (dgt b32 a i * vs b32 (dgt b32 b) k) ∧ c < 4294967296 ∧ ∀ j, i + ln b32 b ≤ j → f j = 0

theorem MulSt.inner {H a b m i : Nat} {wr : World} (h : MulSt H a b m i wr) : MulIn H a b m i 0 0 wr := by
  obtain ⟨f, h1, h2, h3, h4⟩ := h
  exact ⟨f, h1, h2, by simpa [vs] using h3, by decide, h4⟩
theorem MulIn.step {H a b m i k c : Nat} {wr : World} {f : Nat → Nat} (h1 : Row wr H 152 .u32 m m f) (h2 : ∀ j, f j < 4294967296)
    (h3 : vs b32 f m + b32 ^ (i + k) * c = vs b32 (dgt b32 a) i * b + b32 ^ i * (dgt b32 a i * vs b32 (dgt b32 b) k)) (h4 : c < 4294967296) (h5 : ∀ j, i + ln b32 b ≤ j → f j = 0)
    (hk : k < ln b32 b) (hm : i + ln b32 b < m) {u v : Int} (hu : u = ((dgt b32 a i : Nat) : Int) * (dgt b32 b k : Nat) + (f (i + k) : Nat) + (c : Nat)) (hv : v = u % 4294967296) :
    MulIn H a b m i (k + 1) ((u / 4294967296).toNat) (wr.setCell ⟨H, i + k, none⟩ (.int .u32 v)) := by
  have e : u = ((dgt b32 a i * dgt b32 b k + f (i + k) + c : Nat) : Int) := by rw [hu, Int.natCast_add, Int.natCast_add, Int.natCast_mul]
  have hp := mul_digit (dgt32_lt a i) (dgt32_lt b k)
  have hf := h2 (i + k)
  have ev : v = (((dgt b32 a i * dgt b32 b k + f (i + k) + c) % b32 : Nat) : Int) := by rw [hv, e]; rfl
  have et : (u / 4294967296).toNat = (dgt b32 a i * dgt b32 b k + f (i + k) + c) / b32 := by rw [e]; rfl
  rw [ev, et]
  refine ⟨fun j => if j = i + k then (dgt b32 a i * dgt b32 b k + f (i + k) + c) % b32 else f j, h1.set (by simp) fun j _ hj => by simp [hj], fun j => ?_, ?_, ?_, fun j hj => ?_⟩
  · by_cases hj : j = i + k
    · simp only [hj, if_true]; exact Nat.mod_lt _ (by decide)
    · simp only [hj, if_false]; exact h2 j
  · rw [vs_succ b32 (dgt b32 b) k]
    exact mul_step (by omega) (fun j _ hj => by simp [hj]) (by simp) h3
  · rw [Nat.div_lt_iff_lt_mul (by decide)]
    show _ < 4294967296 * 4294967296
    omega
  · simp only [show ¬ j = i + k by omega, if_false]; exact h5 j hj
theorem MulIn.done {H a b m i c : Nat} {wr : World} (h : MulIn H a b m i (ln b32 b) c wr) (hm : i + ln b32 b < m) : MulSt H a b m (i + 1) (wr.setCell ⟨H, i + ln b32 b, none⟩ (.int .u32 (c : Int))) := by
  obtain ⟨f, h1, h2, h3, h4, h5⟩ := h
  refine ⟨fun j => if j = i + ln b32 b then c else f j, h1.set (by simp) fun j _ hj => by simp [hj], fun j => ?_, ?_, fun j hj => ?_⟩
  · by_cases hj : j = i + ln b32 b
    · simp only [hj, if_true]; exact h4
    · simp only [hj, if_false]; exact h2 j
  · have hs := vs_set (B := b32) (f := f) (g := fun j => if j = i + ln b32 b then c else f j) hm fun j _ hj => by simp [hj]
    rw [vs_dgt_ln b32_two] at h3
    rw [h5 _ (Nat.le_refl _)] at hs
    simp only [if_true] at hs
    rw [vs_succ, Nat.add_mul, Nat.mul_assoc, ← h3]
    omega
  · simp only [show ¬ j = i + ln b32 b by omega, if_false]; exact h5 j (by omega)

set_option maxHeartbeats 1000000 in
theorem times_any (A B : Option Addr) (c d a b : Nat) (w : World) (ha : Num32 w A a) (hb : Num32 w B b) (hn : ln b32 a ≤ 1000000) (hm : ln b32 b ≤ 1000000) :
    Calls Tryz.prog 146 #[.slice A (ln b32 a) c, .slice B (ln b32 b) d] w (W32 w (a * b)) := by
  have hmk := mk32 (ln b32 a + ln b32 b) (ln b32 a + ln b32 b) (Nat.le_refl _) (by omega)
  rw [show ((ln b32 a + ln b32 b : Nat) : Int) = (ln b32 a : Int) + ln b32 b by omega] at hmk
  go_enter Tryz.func146, Tryz.ntmps146
  go_wp2
  clear hmk
  go_loopw [20] (fun i wr => ∃ k : Nat, k ≤ ln b32 a ∧ i = .int .i64 k ∧ MulSt w.heap.size a b (ln b32 a + ln b32 b) k wr ∧ Below w.heap.size w wr) (fun i _ => ln b32 a - (intOf i).toNat)
  case atStart => exact ⟨0, Nat.zero_le _, rfl, ⟨fun _ => 0, Row.made, fun _ => by show (0 : Nat) < 4294967296; decide, by rw [vs_zeros fun _ _ => rfl]; simp [vs], fun _ _ => rfl⟩, (Below.refl _ _).alloc (Nat.le_refl _) _⟩
  case round =>
    obtain ⟨i, hi, rfl, hst, hbel⟩ := hrel
    by_cases hlt : i < ln b32 a
    · obtain ⟨p, q, rfl, hp, hca⟩ := ha (by omega)
      have c0 := (hbel.cell (p := ⟨p, q + i, none⟩) hp).trans (hca i hlt)
      have hxi := dgt32_lt a i
      obtain ⟨wo, rfl⟩ : ∃ wo : World, wo = wr := ⟨_, rfl⟩
      go_wp2_with fail
      go_loopw [8, 27] (fun cy j wr => ∃ k y : Nat, k ≤ ln b32 b ∧ j = .int .i64 k ∧ cy = .int .u64 (y : Int) ∧ MulIn w.heap.size a b (ln b32 a + ln b32 b) i k y wr ∧ Below w.heap.size w wr) (fun _ j _ => ln b32 b - (intOf j).toNat)
      case atStart => exact ⟨0, 0, Nat.zero_le _, rfl, rfl, hst.inner, hbel⟩
      case round =>
        obtain ⟨k, y, hk, rfl, rfl, hin, hbel2⟩ := hrel
        by_cases hkt : k < ln b32 b
        · obtain ⟨p', q', rfl, hp', hcb⟩ := hb (by omega)
          have c1 := (hbel2.cell (p := ⟨p', q' + k, none⟩) hp').trans (hcb k hkt)
          obtain ⟨f, h1, h2, h3, h4, h5⟩ := hin
          have c2 := h1.cell (i := i + k) (by omega)
          have c3 := h1.frozen (i + k)
          have hyk := dgt32_lt b k
          have hf := h2 (i + k)
          have hmul := mul_digit hxi hyk
          have hmulI : ((dgt b32 a i : Nat) : Int) * (dgt b32 b k : Nat) ≤ 18446744065119617025 := by rw [← Int.natCast_mul]; omega
          have hmul0 : 0 ≤ ((dgt b32 a i : Nat) : Int) * (dgt b32 b k : Nat) := by rw [← Int.natCast_mul]; omega
          have H2 := Lib.hid h2
          have H3 := Lib.hid h3
          have H5 := Lib.hid h5
          clear hmul h2 h3 h5
          go_wp2_with fail
          go_roundw
          case rel =>
            exact ⟨k + 1, _, by omega, by go_num, int_toNat (Int.ediv_nonneg (by omega) (by decide)), MulIn.step h1 H2.out H3.out h4 H5.out hkt (by omega) rfl rfl, hbel2.setCell (Nat.le_refl _) _⟩
          case measure => simp [intOf]; omega
        · obtain rfl : k = ln b32 b := by omega
          obtain ⟨f, h1, h2, h3, h4, h5⟩ := hin
          have c2 := h1.cell (i := i + ln b32 b) (by omega)
          have c3 := h1.frozen (i + ln b32 b)
          have hdone := MulIn.done (H := w.heap.size) (a := a) (b := b) (m := ln b32 a + ln b32 b) (i := i) (c := y) (wr := wr) ⟨f, h1, h2, h3, h4, h5⟩ (by omega)
          have HD := Lib.hid hdone
          clear h2 h3 h5 hdone
          go_wp2_with fail
          go_roundw
          case rel => exact ⟨i + 1, by omega, by go_num, HD.out, hbel2.setCell (Nat.le_refl _) _⟩
          case measure => simp [intOf]; omega
    · obtain rfl : i = ln b32 a := by omega
      obtain ⟨f, h1, h2, h3, h4⟩ := hst
      have ht := trim_any (some ⟨w.heap.size, 0, none⟩) _ (ln b32 a + ln b32 b) _ wr (h1.rd (Nat.le_refl _) h1.lt) (fun i _ => h2 i) (Nat.le_refl _) (by omega)
      rw [h3, vs_dgt_ln b32_two] at ht
      have HT := Lib.hid ht
      clear ht h2 h3 h4
      go_wp2_with fail
      refine HT.out.mono ?_
      rintro e w3 ⟨rfl, rfl, hnum, hlc⟩
      go_wp2
      go_ret
      exact ⟨_, _, rfl, hlc, hnum, hbel⟩
end Go.Proofs.YtmjlankpihnicaaGreat
namespace Go.Proofs.YtmjlankpihnicaaGreat

/-- Leading zero bits of a word. -/
def lz (x : Nat) : Nat := 32 - Lib.bitLen x
theorem lz_spec {x : Nat} (h0 : 0 < x) (h : x < 4294967296) : lz x < 32 ∧ 2147483648 ≤ x * 2 ^ lz x ∧ x * 2 ^ lz x < 4294967296 ∧ (32 - (Lib.bitLen x : Int)) = (lz x : Int) := by
  have hb := Lib.bitLenAux_bounds 64 x (by omega) (by omega)
  have h32 := Lib.bitLen_le x 32 (by decide) h
  unfold lz
  unfold Lib.bitLen at h32 ⊢
  generalize Lib.bitLenAux 64 x = L at *
  obtain ⟨h1, h2, h3⟩ := hb
  have e1 : 2 ^ (L - 1) * 2 ^ (32 - L) = 2147483648 := by rw [← Nat.pow_add, show L - 1 + (32 - L) = 31 by omega]
  have e2 : 2 ^ L * 2 ^ (32 - L) = 4294967296 := by rw [← Nat.pow_add, show L + (32 - L) = 32 by omega]
  have h4 := Nat.mul_le_mul_right (2 ^ (32 - L)) h2
  have h5 := Nat.mul_lt_mul_of_pos_right h3 (Nat.pow_pos (n := 32 - L) (show 0 < 2 by decide))
  rw [e1] at h4
  rw [e2] at h5
  exact ⟨by omega, h4, h5, by omega⟩
/-- The divisor, shifted so that its highest bit is 1. -/
theorem norm_div {b n s : Nat} (hn : n = ln b32 b) (hb : 0 < b) (hs : s = lz (dgt b32 b (n - 1))) : s < 32 ∧ b * 2 ^ s < b32 ^ n ∧ 2147483648 ≤ dgt b32 (b * 2 ^ s) (n - 1) ∧ 2147483648 * b32 ^ (n - 1) ≤ b * 2 ^ s := by
  subst hn
  have hn0 := (ln_pos b32_two).2 hb
  have htop := dgt_top b32_two hb
  obtain ⟨h1, h2, h3, _⟩ := lz_spec (x := dgt b32 b (ln b32 b - 1)) (by omega) (dgt32_lt ..)
  rw [← hs] at h1 h2 h3
  have hlt := lt_pow_ln b32_two b
  have hp : 0 < b32 ^ (ln b32 b - 1) := Nat.pow_pos (by decide)
  have hsplit : b = b32 ^ (ln b32 b - 1) * dgt b32 b (ln b32 b - 1) + b % b32 ^ (ln b32 b - 1) := by
    have h4 := Nat.div_add_mod b (b32 ^ (ln b32 b - 1))
    have h5 : b / b32 ^ (ln b32 b - 1) < b32 := by
      rw [Nat.div_lt_iff_lt_mul hp, ← Nat.pow_succ', show (ln b32 b - 1).succ = ln b32 b by omega]
      exact hlt
    rw [dgt, Nat.mod_eq_of_lt h5]
    exact h4.symm
  have hm := Nat.mod_lt b hp
  have e1 : b32 ^ ln b32 b = b32 ^ (ln b32 b - 1) * b32 := by rw [← Nat.pow_succ, show (ln b32 b - 1).succ = ln b32 b by omega]
  have hV : b * 2 ^ s = b32 ^ (ln b32 b - 1) * (dgt b32 b (ln b32 b - 1) * 2 ^ s) + b % b32 ^ (ln b32 b - 1) * 2 ^ s := by
    conv => lhs; rw [hsplit]
    rw [Nat.add_mul, Nat.mul_assoc]
  have hm2 : b % b32 ^ (ln b32 b - 1) * 2 ^ s < b32 ^ (ln b32 b - 1) * 2 ^ s := Nat.mul_lt_mul_of_pos_right hm (Nat.pow_pos (by decide))
  have hlow : dgt b32 b (ln b32 b - 1) * 2 ^ s + 2 ^ s ≤ 4294967296 := by
    have e2 := pow_n_dvd h1
    have e3 : dgt b32 b (ln b32 b - 1) < 2 ^ (32 - s) := by
      have : dgt b32 b (ln b32 b - 1) * 2 ^ s < 2 ^ (32 - s) * 2 ^ s := by rw [Nat.mul_comm (2 ^ (32 - s)), ← e2]; exact h3
      exact Nat.lt_of_mul_lt_mul_right this
    have e4 : (dgt b32 b (ln b32 b - 1) + 1) * 2 ^ s ≤ 2 ^ (32 - s) * 2 ^ s := Nat.mul_le_mul_right _ e3
    rw [Nat.mul_comm (2 ^ (32 - s)), ← e2, Nat.add_mul, Nat.one_mul] at e4
    exact e4
  have hlt2 : b * 2 ^ s < b32 ^ ln b32 b := by
    have h6 : b32 ^ (ln b32 b - 1) * (dgt b32 b (ln b32 b - 1) * 2 ^ s + 2 ^ s) ≤ b32 ^ (ln b32 b - 1) * b32 := Nat.mul_le_mul_left _ hlow
    rw [Nat.mul_add] at h6
    omega
  have hge : 2147483648 * b32 ^ (ln b32 b - 1) ≤ b * 2 ^ s := by
    have h7 : b32 ^ (ln b32 b - 1) * 2147483648 ≤ b32 ^ (ln b32 b - 1) * (dgt b32 b (ln b32 b - 1) * 2 ^ s) := Nat.mul_le_mul_left _ h2
    rw [Nat.mul_comm 2147483648]
    omega
  refine ⟨h1, hlt2, ?_, hge⟩
  have h8 : b * 2 ^ s / b32 ^ (ln b32 b - 1) < b32 := by rw [Nat.div_lt_iff_lt_mul hp, Nat.mul_comm b32, ← e1]; exact hlt2
  rw [dgt, Nat.mod_eq_of_lt h8, Nat.le_div_iff_mul_le hp]
  exact hge
/-- At the start the window's value is below the divisor. -/
theorem win_start {A2 V la n a s : Nat} (ha : a < b32 ^ la) (hA : A2 = a * 2 ^ s) (hs : s < 32) (hn : 0 < n) (hna : n ≤ la) (hV : 2147483648 * b32 ^ (n - 1) ≤ V) : A2 / b32 ^ (la - n + 1) < V := by
  have h1 : 2 ^ s ≤ 2147483648 := Nat.pow_le_pow_right (by decide) (show s ≤ 31 by omega)
  have h2 : A2 < b32 ^ la * 2 ^ s := by rw [hA]; exact Nat.mul_lt_mul_of_pos_right ha (Nat.pow_pos (by decide))
  have h3 : b32 ^ la * 2 ^ s ≤ b32 ^ la * 2147483648 := Nat.mul_le_mul_left _ h1
  rw [Nat.div_lt_iff_lt_mul (Nat.pow_pos (by decide))]
  have h4 : 2147483648 * b32 ^ (n - 1) * b32 ^ (la - n + 1) ≤ V * b32 ^ (la - n + 1) := Nat.mul_le_mul_right _ hV
  have h5 : 2147483648 * b32 ^ (n - 1) * b32 ^ (la - n + 1) = b32 ^ la * 2147483648 := by
    rw [Nat.mul_assoc, ← Nat.pow_add, show n - 1 + (la - n + 1) = la by omega, Nat.mul_comm]
  omega
theorem quo_len {a b la n : Nat} (ha : a < b32 ^ la) (hb : b32 ^ (n - 1) ≤ b) (hn : 0 < n) (hna : n ≤ la) : a / b < b32 ^ (la - n + 1) := by
  have hp : 0 < b32 ^ (n - 1) := Nat.pow_pos (by decide)
  rw [Nat.div_lt_iff_lt_mul (by omega)]
  have h1 : b32 ^ (la - n + 1) * b32 ^ (n - 1) ≤ b32 ^ (la - n + 1) * b := Nat.mul_le_mul_left _ hb
  rw [← Nat.pow_add, show la - n + 1 + (n - 1) = la by omega] at h1
  omega
/-- A digit of a number that is shifted to the right. -/
theorem unshift_digit {R s i : Nat} (hs : s < 32) : (dgt b32 R (i + 1) * 4294967296 + dgt b32 R i) / 2 ^ s % 4294967296 = dgt b32 (R / 2 ^ s) i := by
  have hq : 0 < 2 ^ s := Nat.pow_pos (by decide)
  have hp : 0 < b32 ^ i := Nat.pow_pos (by decide)
  have e1 : R / 2 ^ s / b32 ^ i = R / b32 ^ i / 2 ^ s := by rw [Nat.div_div_eq_div_mul, Nat.div_div_eq_div_mul, Nat.mul_comm]
  have e2 : R / b32 ^ i = b32 * (R / b32 ^ (i + 1)) + dgt b32 R i := by
    rw [dgt, Nat.pow_succ, ← Nat.div_div_eq_div_mul]
    exact (Nat.div_add_mod _ _).symm
  have e3 : R / b32 ^ (i + 1) = b32 * (R / b32 ^ (i + 2)) + dgt b32 R (i + 1) := by
    rw [dgt, Nat.pow_succ b32 (i + 1), ← Nat.div_div_eq_div_mul]
    exact (Nat.div_add_mod _ _).symm
  have e4 : R / b32 ^ i = 2 ^ s * (2 ^ (32 - s) * (b32 * (R / b32 ^ (i + 2)))) + (dgt b32 R (i + 1) * 4294967296 + dgt b32 R i) := by
    rw [e2, e3, Nat.mul_add, ← Nat.mul_assoc (2 ^ s), ← pow_n_dvd hs]
    have : b32 * dgt b32 R (i + 1) = dgt b32 R (i + 1) * 4294967296 := Nat.mul_comm ..
    omega
  rw [show dgt b32 (R / 2 ^ s) i = R / b32 ^ i / 2 ^ s % b32 by rw [dgt, e1], e4, Nat.mul_add_div hq, Nat.mul_left_comm (2 ^ (32 - s)) b32, Nat.mul_add_mod]
  rfl
end Go.Proofs.YtmjlankpihnicaaGreat
/-! Plain arithmetic behind simulate (the condition of Collins). -/
namespace Go.Proofs.YtmjlankpihnicaaGreat

/-- What the steps do to a and b: two numbers with the same greatest common divisor. -/
structure StepsOK (a b : Nat) (ev : Bool) (u0 u1 v0 v1 : Nat) : Prop where
  u0lt : u0 < 4294967296
  u1lt : u1 < 4294967296
  v0lt : v0 < 4294967296
  v1lt : v1 < 4294967296
  det : if ev then u0 * v1 = u1 * v0 + 1 else u1 * v0 = u0 * v1 + 1
  le0 : if ev then v0 * b ≤ u0 * a else u0 * a ≤ v0 * b
  le1 : if ev then u1 * a ≤ v1 * b else v1 * b ≤ u1 * a
  lt : if ev then v1 * b - u1 * a < u0 * a - v0 * b else u1 * a - v1 * b < v0 * b - u0 * a
  u1pos : 1 ≤ u1

/-- The state of the loop of simulate, about the leading bits al = a / K, be = b / K. -/
structure Sim (a b al be : Nat) (ev : Bool) (u0 u1 u2 v0 v1 v2 x1 x2 : Nat) : Prop where
  le : x2 ≤ x1
  sum : v2 * x1 + v1 * x2 = al
  e1 : if ev then x1 + u1 * al = v1 * be else x1 + v1 * be = u1 * al
  e2 : if ev then x2 + v2 * be = u2 * al else x2 + u2 * al = v2 * be
  det : if ev then u2 * v1 = u1 * v2 + 1 else u1 * v2 = u2 * v1 + 1
  c2 : u2 ≤ v2
  c12 : u1 + u2 ≤ v1 + v2
  v2pos : 1 ≤ v2
  pos : 1 ≤ u1 + u2
  nxt : v1 = 0 ∨ 1 ≤ u2
  u1lt : u1 < 4294967296
  v1lt : v1 < 4294967296
  u0lt : u0 < 4294967296
  v0lt : v0 < 4294967296
  out : v0 = 0 ∨ StepsOK a b ev u0 u1 v0 v1

theorem sim_start {a b al be : Nat} (hle : be ≤ al) : Sim a b al be false 0 1 0 0 0 1 al be :=
  ⟨hle, by omega, by simp, by simp, by simp, by omega, by omega, by omega, by omega, .inl rfl, by omega, by omega, by omega, by omega, .inl rfl⟩

/-- u * a - v * b, where x = u * al - v * be: between K * x - v * K and K * x + u * K. -/
theorem gap {K a b al be al' be' u v x : Nat} (ha : a = K * al + al') (hb : b = K * be + be') (hx : x + v * be = u * al) :
    K * x + v * b ≤ u * a + v * be' ∧ u * a + v * be' = K * x + v * b + u * al' := by
  subst ha hb
  have e : K * (x + v * be) = K * (u * al) := by rw [hx]
  rw [Nat.mul_add] at e
  have e1 : u * (K * al + al') = K * (u * al) + u * al' := by rw [Nat.mul_add, Nat.mul_left_comm]
  have e2 : v * (K * be + be') = K * (v * be) + v * be' := by rw [Nat.mul_add, Nat.mul_left_comm]
  omega

/-- One round of the loop. -/
theorem sim_step {K a b al be al' be' : Nat} (ha : a = K * al + al') (hb : b = K * be + be') (ha' : al' < K) (hb' : be' < K) (hal : al < 18446744073709551616)
    {ev : Bool} {u0 u1 u2 v0 v1 v2 x1 x2 : Nat} (h : Sim a b al be ev u0 u1 u2 v0 v1 v2 x1 x2) (t1 : v2 ≤ x2) (t2 : v1 + v2 ≤ x1 - x2) :
    Sim a b al be (!ev) u1 u2 (u1 + x1 / x2 * u2) v1 v2 (v1 + x1 / x2 * v2) x2 (x1 % x2) := by
  obtain ⟨hle, hsum, he1, he2, hdet, hc2, hc12, hv2, hpos, hnxt, hu1, hv1, hu0, hv0, hout⟩ := h
  have hx2 : 0 < x2 := by omega
  have hq : 1 ≤ x1 / x2 := (Nat.le_div_iff_mul_le hx2).2 (by omega)
  have hdm := Nat.div_add_mod x1 x2
  have hmod := Nat.mod_lt x1 hx2
  have hv2lt : v2 < 4294967296 := by
    rcases Nat.lt_or_ge v2 4294967296 with g | g
    · exact g
    · have h1 : 4294967296 * 4294967296 ≤ v2 * x1 := Nat.mul_le_mul g (by omega)
      omega
  generalize x1 / x2 = q at *
  generalize x1 % x2 = r at *
  have m1 : (v1 + q * v2) * x2 = v1 * x2 + v2 * (x2 * q) := by rw [Nat.add_mul, Nat.mul_comm q, Nat.mul_assoc, Nat.mul_comm q]
  have m2 : v2 * x1 = v2 * (x2 * q) + v2 * r := by rw [← Nat.mul_add, hdm]
  have hq2 : u2 ≤ q * u2 := Nat.le_mul_of_pos_left _ hq
  have hqv : v2 ≤ q * v2 := Nat.le_mul_of_pos_left _ hq
  have hc : q * u2 + v2 ≤ q * v2 + u2 := by
    obtain ⟨p, rfl⟩ : ∃ p, q = p + 1 := ⟨q - 1, by omega⟩
    have := Nat.mul_le_mul_left p hc2
    rw [Nat.succ_mul, Nat.succ_mul]; omega
  refine ⟨by omega, by omega, ?_, ?_, ?_, by omega, by omega, by omega, by omega, .inr (by omega), by omega, hv2lt, hu1, hv1, ?_⟩
  · cases ev
    · simpa using he2
    · simpa using he2
  · have k1 : (u1 + q * u2) * al = u1 * al + q * (u2 * al) := by rw [Nat.add_mul, Nat.mul_assoc]
    have k2 : (v1 + q * v2) * be = v1 * be + q * (v2 * be) := by rw [Nat.add_mul, Nat.mul_assoc]
    have k3 : x2 * q = q * x2 := Nat.mul_comm _ _
    cases ev
    · simp only [Bool.false_eq_true, if_false] at he1 he2
      simp only [Bool.not_false, if_true]
      rw [k1, k2, ← he2, Nat.mul_add]; omega
    · simp only [if_true] at he1 he2
      simp only [Bool.not_true, Bool.false_eq_true, if_false]
      rw [k1, k2, ← he2, Nat.mul_add]; omega
  · have k1 : (u1 + q * u2) * v2 = u1 * v2 + q * (u2 * v2) := by rw [Nat.add_mul, Nat.mul_assoc]
    have k2 : u2 * (v1 + q * v2) = u2 * v1 + q * (u2 * v2) := by rw [Nat.mul_add, Nat.mul_left_comm]
    cases ev
    · simp only [Bool.false_eq_true, if_false] at hdet
      simp only [Bool.not_false, if_true]
      omega
    · simp only [if_true] at hdet
      simp only [Bool.not_true, Bool.false_eq_true, if_false]
      omega
  · rcases Nat.eq_zero_or_pos v1 with h0 | h0
    · exact .inl h0
    · refine .inr ⟨hu1, by omega, hv1, hv2lt, ?_, ?_, ?_, ?_, by omega⟩
      · cases ev
        · simpa using hdet
        · simpa using hdet
      all_goals
        have y1 : K * x1 = K * x2 + K * (x1 - x2) := by rw [← Nat.mul_add]; congr 1; omega
        have y2 : K * v2 ≤ K * x2 := Nat.mul_le_mul_left _ t1
        have y3 : K * (v1 + v2) ≤ K * (x1 - x2) := Nat.mul_le_mul_left _ t2
        have y4 : K * (u1 + u2) ≤ K * (v1 + v2) := Nat.mul_le_mul_left _ hc12
        have y5 : K * u2 ≤ K * v2 := Nat.mul_le_mul_left _ hc2
        rw [Nat.mul_add] at y3
        rw [Nat.mul_add, Nat.mul_add] at y4
        have z1 : v1 * be' ≤ K * v1 := by rw [Nat.mul_comm K]; exact Nat.mul_le_mul_left _ (Nat.le_of_lt hb')
        have z2 : v2 * be' < K * v2 := by rw [Nat.mul_comm K]; exact Nat.mul_lt_mul_of_pos_left hb' hv2
        have z3 : u1 * al' ≤ K * u1 := by rw [Nat.mul_comm K]; exact Nat.mul_le_mul_left _ (Nat.le_of_lt ha')
        have z4 : u2 * al' ≤ K * u2 := by rw [Nat.mul_comm K]; exact Nat.mul_le_mul_left _ (Nat.le_of_lt ha')
        have z5 : u1 * al' + u2 * al' < K * (u1 + u2) := by rw [← Nat.add_mul, Nat.mul_comm K]; exact Nat.mul_lt_mul_of_pos_left ha' hpos
        rw [Nat.mul_add] at z5
        cases ev
        · simp only [Bool.false_eq_true, if_false] at he1 he2
          have g1 := gap ha hb he1
          have g2 := gap hb ha he2
          simp only [Bool.not_false, if_true]
          omega
        · simp only [if_true] at he1 he2
          have g1 := gap hb ha he1
          have g2 := gap ha hb he2
          simp only [Bool.not_true, Bool.false_eq_true, if_false]
          omega

/-- No overflow in the loop. -/
theorem sim_fits {a b al be : Nat} {ev : Bool} {u0 u1 u2 v0 v1 v2 x1 x2 : Nat} (h : Sim a b al be ev u0 u1 u2 v0 v1 v2 x1 x2) (hal : al < 18446744073709551616) (h2 : 1 ≤ x2) :
    v1 + v2 < 18446744073709551616 ∧ v1 + x1 / x2 * v2 < 18446744073709551616 ∧ u1 + x1 / x2 * u2 < 18446744073709551616 := by
  obtain ⟨hle, hsum, he1, he2, hdet, hc2, hc12, hv2, hpos, hnxt, hu1, hv1, hu0, hv0, hout⟩ := h
  have hq : 1 ≤ x1 / x2 := (Nat.le_div_iff_mul_le h2).2 (by omega)
  have hdm := Nat.div_add_mod x1 x2
  generalize x1 / x2 = q at *
  generalize x1 % x2 = r at *
  have m1 : (v1 + q * v2) * x2 = v1 * x2 + v2 * (x2 * q) := by rw [Nat.add_mul, Nat.mul_comm q, Nat.mul_assoc, Nat.mul_comm q]
  have m2 : v2 * x1 = v2 * (x2 * q) + v2 * r := by rw [← Nat.mul_add, hdm]
  have m3 : v1 + q * v2 ≤ (v1 + q * v2) * x2 := Nat.le_mul_of_pos_right _ h2
  have hqv : v2 ≤ q * v2 := Nat.le_mul_of_pos_left _ hq
  have hc : q * u2 + v2 ≤ q * v2 + u2 := by
    obtain ⟨p, rfl⟩ : ∃ p, q = p + 1 := ⟨q - 1, by omega⟩
    have := Nat.mul_le_mul_left p hc2
    rw [Nat.succ_mul, Nat.succ_mul]; omega
  omega

/-- What the steps leave is smaller, and has the same greatest common divisor. -/
theorem steps_even {a b u0 u1 v0 v1 : Nat} (h : StepsOK a b true u0 u1 v0 v1) : Nat.gcd (u0 * a - v0 * b) (v1 * b - u1 * a) = Nat.gcd a b ∧ v1 * b - u1 * a < b ∧ v1 * b - u1 * a < u0 * a - v0 * b ∧ u0 * a - v0 * b ≤ b := by
  obtain ⟨_, _, _, _, hd, h1, h2, h3, h4⟩ := h
  simp only [if_true] at hd h1 h2 h3
  obtain ⟨A, hA⟩ : ∃ A, A = u0 * a - v0 * b := ⟨_, rfl⟩
  obtain ⟨B, hB⟩ : ∃ B, B = v1 * b - u1 * a := ⟨_, rfl⟩
  have eA : u0 * a = A + v0 * b := by omega
  have eB : v1 * b = B + u1 * a := by omega
  have d1 : v1 * (u0 * a) = v1 * A + v1 * (v0 * b) := by rw [eA, Nat.mul_add]
  have d2 : v0 * (v1 * b) = v0 * B + v0 * (u1 * a) := by rw [eB, Nat.mul_add]
  have d3 : v1 * (u0 * a) = (u1 * v0 + 1) * a := by rw [← hd, ← Nat.mul_assoc, Nat.mul_comm v1]
  have d4 : v0 * (u1 * a) = u1 * v0 * a := by rw [← Nat.mul_assoc, Nat.mul_comm v0]
  have d5 : v1 * (v0 * b) = v0 * (v1 * b) := Nat.mul_left_comm ..
  rw [Nat.add_mul, Nat.one_mul] at d3
  have ea : a = v1 * A + v0 * B := by omega
  have f1 : u1 * (u0 * a) = u1 * A + u1 * (v0 * b) := by rw [eA, Nat.mul_add]
  have f2 : u0 * (v1 * b) = u0 * B + u0 * (u1 * a) := by rw [eB, Nat.mul_add]
  have f3 : u0 * (v1 * b) = (u1 * v0 + 1) * b := by rw [← hd, ← Nat.mul_assoc]
  have f4 : u1 * (v0 * b) = u1 * v0 * b := by rw [← Nat.mul_assoc]
  have f5 : u0 * (u1 * a) = u1 * (u0 * a) := Nat.mul_left_comm ..
  rw [Nat.add_mul, Nat.one_mul] at f3
  have eb : b = u1 * A + u0 * B := by omega
  have hA1 : A ≤ u1 * A := Nat.le_mul_of_pos_left _ h4
  rw [← hA, ← hB]
  refine ⟨Nat.dvd_antisymm (Nat.dvd_gcd ?_ ?_) (Nat.dvd_gcd ?_ ?_), by omega, by omega, by omega⟩
  · rw [ea]; exact Nat.dvd_add (Nat.dvd_mul_left_of_dvd (Nat.gcd_dvd_left _ _) _) (Nat.dvd_mul_left_of_dvd (Nat.gcd_dvd_right _ _) _)
  · rw [eb]; exact Nat.dvd_add (Nat.dvd_mul_left_of_dvd (Nat.gcd_dvd_left _ _) _) (Nat.dvd_mul_left_of_dvd (Nat.gcd_dvd_right _ _) _)
  · rw [hA]; exact Nat.dvd_sub (Nat.dvd_mul_left_of_dvd (Nat.gcd_dvd_left _ _) _) (Nat.dvd_mul_left_of_dvd (Nat.gcd_dvd_right _ _) _)
  · rw [hB]; exact Nat.dvd_sub (Nat.dvd_mul_left_of_dvd (Nat.gcd_dvd_right _ _) _) (Nat.dvd_mul_left_of_dvd (Nat.gcd_dvd_left _ _) _)
theorem steps_odd {a b u0 u1 v0 v1 : Nat} (h : StepsOK a b false u0 u1 v0 v1) : Nat.gcd (v0 * b - u0 * a) (u1 * a - v1 * b) = Nat.gcd a b ∧ u1 * a - v1 * b < b ∧ u1 * a - v1 * b < v0 * b - u0 * a ∧ v0 * b - u0 * a ≤ b := by
  obtain ⟨_, _, _, _, hd, h1, h2, h3, h4⟩ := h
  simp only [Bool.false_eq_true, if_false] at hd h1 h2 h3
  obtain ⟨A, hA⟩ : ∃ A, A = v0 * b - u0 * a := ⟨_, rfl⟩
  obtain ⟨B, hB⟩ : ∃ B, B = u1 * a - v1 * b := ⟨_, rfl⟩
  have eA : v0 * b = A + u0 * a := by omega
  have eB : u1 * a = B + v1 * b := by omega
  have d1 : v1 * (v0 * b) = v1 * A + v1 * (u0 * a) := by rw [eA, Nat.mul_add]
  have d2 : v0 * (u1 * a) = v0 * B + v0 * (v1 * b) := by rw [eB, Nat.mul_add]
  have d3 : v0 * (u1 * a) = (u0 * v1 + 1) * a := by rw [← hd, ← Nat.mul_assoc, Nat.mul_comm v0]
  have d4 : v1 * (u0 * a) = u0 * v1 * a := by rw [← Nat.mul_assoc, Nat.mul_comm v1]
  have d5 : v1 * (v0 * b) = v0 * (v1 * b) := Nat.mul_left_comm ..
  rw [Nat.add_mul, Nat.one_mul] at d3
  have ea : a = v1 * A + v0 * B := by omega
  have f1 : u1 * (v0 * b) = u1 * A + u1 * (u0 * a) := by rw [eA, Nat.mul_add]
  have f2 : u0 * (u1 * a) = u0 * B + u0 * (v1 * b) := by rw [eB, Nat.mul_add]
  have f3 : u1 * (v0 * b) = (u0 * v1 + 1) * b := by rw [← hd, ← Nat.mul_assoc]
  have f4 : u0 * (v1 * b) = u0 * v1 * b := by rw [← Nat.mul_assoc]
  have f5 : u0 * (u1 * a) = u1 * (u0 * a) := Nat.mul_left_comm ..
  rw [Nat.add_mul, Nat.one_mul] at f3
  have eb : b = u1 * A + u0 * B := by omega
  have hA1 : A ≤ u1 * A := Nat.le_mul_of_pos_left _ h4
  rw [← hA, ← hB]
  refine ⟨Nat.dvd_antisymm (Nat.dvd_gcd ?_ ?_) (Nat.dvd_gcd ?_ ?_), by omega, by omega, by omega⟩
  · rw [ea]; exact Nat.dvd_add (Nat.dvd_mul_left_of_dvd (Nat.gcd_dvd_left _ _) _) (Nat.dvd_mul_left_of_dvd (Nat.gcd_dvd_right _ _) _)
  · rw [eb]; exact Nat.dvd_add (Nat.dvd_mul_left_of_dvd (Nat.gcd_dvd_left _ _) _) (Nat.dvd_mul_left_of_dvd (Nat.gcd_dvd_right _ _) _)
  · rw [hA]; exact Nat.dvd_sub (Nat.dvd_mul_left_of_dvd (Nat.gcd_dvd_right _ _) _) (Nat.dvd_mul_left_of_dvd (Nat.gcd_dvd_left _ _) _)
  · rw [hB]; exact Nat.dvd_sub (Nat.dvd_mul_left_of_dvd (Nat.gcd_dvd_left _ _) _) (Nat.dvd_mul_left_of_dvd (Nat.gcd_dvd_right _ _) _)
end Go.Proofs.YtmjlankpihnicaaGreat
namespace Go.Proofs.YtmjlankpihnicaaGreat
open Go.RowKit

theorem head_split {x n : Nat} (hn : 3 ≤ n) (hx : x < b32 ^ n) : x / b32 ^ (n - 3) = (dgt b32 x (n - 1) * 4294967296 + dgt b32 x (n - 2)) * 4294967296 + dgt b32 x (n - 3) := by
  obtain ⟨m, rfl⟩ : ∃ m, n = m + 3 := ⟨n - 3, by omega⟩
  rw [show m + 3 - 1 = m + 2 by omega, show m + 3 - 2 = m + 1 by omega, show m + 3 - 3 = m by omega]
  unfold dgt
  have e1 : x / b32 ^ (m + 1) = x / b32 ^ m / 4294967296 := by rw [Nat.pow_succ, ← Nat.div_div_eq_div_mul]; rfl
  have e2 : x / b32 ^ (m + 2) = x / b32 ^ m / 4294967296 / 4294967296 := by rw [Nat.pow_succ, ← Nat.div_div_eq_div_mul, e1]; rfl
  rw [e1, e2]
  have h3 : x / b32 ^ m < 4294967296 * 4294967296 * 4294967296 := by
    rw [Nat.div_lt_iff_lt_mul (Nat.pow_pos (by decide))]
    have : b32 ^ (m + 3) = 4294967296 * 4294967296 * 4294967296 * b32 ^ m := by
      rw [Nat.pow_add, Nat.mul_comm]; rfl
    rw [← this]; exact hx
  generalize x / b32 ^ m = y at *
  show y = (y / 4294967296 / 4294967296 % 4294967296 * 4294967296 + y / 4294967296 % 4294967296) * 4294967296 + y % 4294967296
  omega
/-- The head of a number: what 'head' returns. -/
def hdv (x n s : Nat) : Nat := x / (b32 ^ (n - 3) * 2 ^ (32 - s))
theorem hdv_aux (P d : Nat) {s : Nat} (hs : s < 32) : (P * 4294967296 + d) / 2 ^ (32 - s) = P * 2 ^ s + d / 2 ^ (32 - s) := by
  have e : 4294967296 = 2 ^ s * 2 ^ (32 - s) := by rw [← Nat.pow_add, show s + (32 - s) = 32 by omega]
  have e' : P * 4294967296 = 2 ^ (32 - s) * (P * 2 ^ s) := by rw [Nat.mul_left_comm, Nat.mul_comm (2 ^ (32 - s)), ← e]
  rw [e', Nat.mul_add_div (Nat.pow_pos (by decide))]
theorem hdv_eq {x n s : Nat} (hn : 3 ≤ n) (hs : s < 32) (hx : x < b32 ^ n) : hdv x n s = (dgt b32 x (n - 1) * 4294967296 + dgt b32 x (n - 2)) * 2 ^ s + dgt b32 x (n - 3) / 2 ^ (32 - s) := by
  unfold hdv
  rw [← Nat.div_div_eq_div_mul, head_split hn hx]
  exact hdv_aux _ _ hs
theorem hdv_lt {x n s : Nat} (hn : 3 ≤ n) (hs : s < 32) (hx : x * 2 ^ s < b32 ^ n) : hdv x n s < 18446744073709551616 := by
  unfold hdv
  rw [Nat.div_lt_iff_lt_mul (Nat.mul_pos (Nat.pow_pos (by decide)) (Nat.pow_pos (by decide)))]
  obtain ⟨m, rfl⟩ : ∃ m, n = m + 3 := ⟨n - 3, by omega⟩
  rw [show m + 3 - 3 = m by omega]
  have e : 4294967296 = 2 ^ (32 - s) * 2 ^ s := by rw [← Nat.pow_add, show 32 - s + s = 32 by omega]
  have e2 : b32 ^ (m + 3) = 18446744073709551616 * (b32 ^ m * 2 ^ (32 - s)) * 2 ^ s := by
    have : b32 ^ (m + 3) = 18446744073709551616 * (b32 ^ m * 4294967296) := by
      rw [Nat.pow_add, Nat.mul_left_comm]; rfl
    rw [this, Nat.mul_assoc, Nat.mul_assoc (b32 ^ m), ← e]
  rw [e2] at hx
  exact Nat.lt_of_mul_lt_mul_right hx
theorem head_or {a b s : Nat} (hb : b < 2 ^ s) (ha : a * 2 ^ s + b < 18446744073709551616) : bits .or .u64 ((a * 2 ^ s : Nat) : Int) (b : Int) = ((a * 2 ^ s + b : Nat) : Int) := by
  rw [u64_or_nat _ _ (by omega) (by omega), Nat.mul_comm a, nat_or_add hb]

theorem head_val {d1 d2 d3 s : Nat} (h1 : d1 < 4294967296) (h2 : d2 < 4294967296) (hl : d3 / 2 ^ (32 - s) < 2 ^ s) (hv : (d1 * 4294967296 + d2) * 2 ^ s + d3 / 2 ^ (32 - s) < 18446744073709551616) :
    bits .or .u64 (IntKind.u64.wrap (bits .or .u64 ((d1 : Int) * 4294967296) (d2 : Int) * 2 ^ s)) ((d3 : Int) / 2 ^ (32 - s)) = (((d1 * 4294967296 + d2) * 2 ^ s + d3 / 2 ^ (32 - s) : Nat) : Int) := by
  have o1 := u64_or_add h1 h2
  rw [show ((4294967296 * d1 : Nat) : Int) = (d1 : Int) * 4294967296 by omega, Nat.mul_comm 4294967296] at o1
  have e1 : ((d1 * 4294967296 + d2 : Nat) : Int) * 2 ^ s = (((d1 * 4294967296 + d2) * 2 ^ s : Nat) : Int) := by rw [Int.natCast_mul, Int.natCast_pow]; rfl
  have e2 : (d3 : Int) / 2 ^ (32 - s) = ((d3 / 2 ^ (32 - s) : Nat) : Int) := by rw [Int.natCast_ediv, Int.natCast_pow]; rfl
  have e3 : IntKind.u64.wrap (((d1 * 4294967296 + d2) * 2 ^ s : Nat) : Int) = (((d1 * 4294967296 + d2) * 2 ^ s : Nat) : Int) := by
    have hY : (d1 * 4294967296 + d2) * 2 ^ s < 18446744073709551616 := Nat.lt_of_le_of_lt (Nat.le_add_right _ _) hv
    rw [IntKind.wrap_u64]
    exact Int.emod_eq_of_lt (Int.natCast_nonneg _) (Int.ofNat_lt.2 hY)
  rw [o1, e1, e3, e2, head_or hl hv]
set_option maxRecDepth 100000 in
theorem head1_any (x i : Nat) (A : Option Addr) (c g : Nat) (w : World) (hx : Num32 w A x) (hg : w.cell? ⟨g, 0, none⟩ = some (.slice A (ln b32 x) c)) (hl : ln b32 x ≤ 1000000) (hi : i ≤ 1000000) :
    Calls Tryz.prog 182 #[.int .i64 (i : Int), .pointer (some ⟨g, 0, none⟩)] w fun e w' => e = .returned (.int .u64 (dgt b32 x i : Nat)) ∧ w = w' := by
  go_enter Tryz.func182, Tryz.ntmps182
  by_cases hlt : i < ln b32 x
  · obtain ⟨b, o, rfl, hb, hc⟩ := hx (by omega)
    have c1 := hc i hlt
    have d1 := dgt32_lt x i
    go_wp2_with fail
    go_ret
    exact ⟨rfl, rfl⟩
  · have h0 : dgt b32 x i = 0 := dgt_of_lt ((ln_le b32_two).1 (by omega))
    have H0 := Lib.hid h0
    clear h0
    go_wp2_with fail
    go_ret
    exact ⟨by rw [H0.out]; rfl, rfl⟩

set_option maxRecDepth 100000 in
set_option maxHeartbeats 1000000 in
theorem head_any (x n s : Nat) (A : Option Addr) (c : Nat) (w : World) (hx : Num32 w A x) (hl : ln b32 x ≤ n) (hn : 3 ≤ n) (hn2 : n ≤ 1000000) (hs : s < 32) (hb : x * 2 ^ s < b32 ^ n) :
    Calls Tryz.prog 176 #[.slice A (ln b32 x) c, .int .i64 (n : Int), .int .i64 (s : Int)] w fun e w' => e = .returned (.int .u64 (hdv x n s : Nat)) ∧ Below w.heap.size w w' := by
  have hxn : x < b32 ^ n := (ln_le b32_two).1 hl
  have hv := hdv_lt hn hs hb
  have he := hdv_eq hn hs hxn
  have d1 := dgt32_lt x (n - 1)
  have d2 := dgt32_lt x (n - 2)
  have d3 := dgt32_lt x (n - 3)
  have hp : 0 < 2 ^ s := Nat.pow_pos (by decide)
  have hlow : dgt b32 x (n - 3) / 2 ^ (32 - s) < 2 ^ s := by
    rw [Nat.div_lt_iff_lt_mul (Nat.pow_pos (by decide)), ← Nat.pow_add, show s + (32 - s) = 32 by omega]
    exact d3
  have hlo := Lib.hid hlow
  have HE := Lib.hid he
  have bl : Below w.heap.size w (w.alloc (.cells #[.slice A (ln b32 x) c] 136)) := (Below.refl _ w).alloc (Nat.le_refl _) _
  have bx := cell_of_one (heap_alloc_new w (.cells #[.slice A (ln b32 x) c] 136))
  have hq : ∀ i m : Nat, i ≤ 1000000 → Calls Tryz.prog 182 #[.int .i64 (i : Int), .pointer (some ⟨w.heap.size, 0, none⟩)] ((w.alloc (.cells #[.slice A (ln b32 x) c] 136)).drewN m) fun e w' => e = .returned (.int .u64 (dgt b32 x i : Nat)) ∧ w' = (w.alloc (.cells #[.slice A (ln b32 x) c] 136)).drewN m := fun i m hi =>
    (head1_any x i A c w.heap.size ((w.alloc (.cells #[.slice A (ln b32 x) c] 136)).drewN m) (Num32.below hx (belowN bl m)) bx (by omega) hi).mono fun _ _ ⟨a, b⟩ => ⟨a, b.symm⟩
  have q1 := fun m => hq (n - 1) m (by omega)
  have q2 := fun m => hq (n - 2) m (by omega)
  have q3 := fun m => hq (n - 3) m (by omega)
  rw [show ((n - 1 : Nat) : Int) = (n : Int) - 1 by omega] at q1
  rw [show ((n - 2 : Nat) : Int) = (n : Int) - 2 by omega] at q2
  rw [show ((n - 3 : Nat) : Int) = (n : Int) - 3 by omega] at q3
  have Q1 := Lib.hid q1
  have Q2 := Lib.hid q2
  have Q3 := Lib.hid q3
  clear q1 q2 q3 hq he hlow hxn hb
  go_enter Tryz.func176, Tryz.ntmps176
  go_wp2_with fail
  go_quiet ((go_at_call 182; first | (with_reducible exact Calls.quiet_of_same (Q1.out _)) | (with_reducible exact Calls.quiet_of_same (Q2.out _)) | (with_reducible exact Calls.quiet_of_same (Q3.out _))))
  clear Q1 Q2 Q3 bx
  go_wp2
  go_ret
  exact ⟨ret_int (by rw [head_val d1 d2 hlo.out (by rw [← HE.out]; exact hv), HE.out]), belowN bl nq⟩
end Go.Proofs.YtmjlankpihnicaaGreat
namespace Go.Proofs.YtmjlankpihnicaaGreat
open Go.RowKit

/-- The words after k rounds. -/
def sst (x n k j : Nat) : Nat := if j < k then dgt b32 (x * 2 ^ n) j else if j = k then shi x n k else 0
theorem or_low {s y n : Nat} (hn : n < 32) (hs : s < 2 ^ n) : bits .or .u32 (s : Int) ((y * 2 ^ n % b32 : Nat) : Int) = ((s + y * 2 ^ n % b32 : Nat) : Int) := by
  have h1 : 2 ^ n ≤ 2 ^ 31 := Nat.pow_le_pow_right (by decide) (by omega)
  have h2 : y * 2 ^ n % b32 < 4294967296 := Nat.mod_lt _ (by decide)
  rw [u32_or_nat _ _ (by omega) h2, low_mult hn, nat_or_add' hs]

set_option maxHeartbeats 400000 in
theorem shifted_any (A : Option Addr) (c x n : Nat) (w : World) (hx : Num32 w A x) (hn : n < 32) (hl : ln b32 x ≤ 1000000) :
    Calls Tryz.prog 172 #[.slice A (ln b32 x) c, .int .i64 (n : Int)] w fun e w' =>
      e = .returned (.slice (some ⟨w.heap.size, 0, none⟩) (ln b32 x + 1) (ln b32 x + 1)) ∧ Row w' w.heap.size 152 .u32 (ln b32 x + 1) (ln b32 x + 1) (dgt b32 (x * 2 ^ n)) ∧ Below w.heap.size w w' := by
  have hmk := mk32 (ln b32 x + 1) (ln b32 x + 1) (Nat.le_refl _) (by omega)
  rw [show ((ln b32 x + 1 : Nat) : Int) = (ln b32 x : Int) + 1 by omega] at hmk
  have hpow : 2 ^ n ≤ 2147483648 := Nat.pow_le_pow_right (by decide) (show n ≤ 31 by omega)
  go_enter Tryz.func172, Tryz.ntmps172
  go_wp2
  clear hmk
  go_loopw [15] (fun i wr => ∃ k : Nat, k ≤ ln b32 x ∧ i = .int .i64 k ∧ Row wr w.heap.size 152 .u32 (ln b32 x + 1) (ln b32 x + 1) (sst x n k) ∧ Below w.heap.size w wr) (fun i _ => ln b32 x - (intOf i).toNat)
  case atStart => exact ⟨0, Nat.zero_le _, rfl, Row.made.congr fun j _ => by simp [sst, shi_zero], (Below.refl _ _).alloc (Nat.le_refl _) _⟩
  case round =>
    obtain ⟨k, hk, rfl, hrow, hbel⟩ := hrel
    by_cases hlt : k < ln b32 x
    · obtain ⟨b, o, rfl, hb, hca⟩ := hx (by omega)
      have c0 := (hbel.cell (p := ⟨b, o + k, none⟩) hb).trans (hca k hlt)
      have c1 := hrow.cell (i := k) (by omega)
      have c2 := hrow.frozen k
      have c3 := hrow.cell (i := k + 1) (by omega)
      have c4 := hrow.frozen (k + 1)
      rw [show sst x n k k = shi x n k by simp [sst]] at c1
      rw [show sst x n k (k + 1) = 0 by simp only [sst]; rw [if_neg (by omega), if_neg (by omega)]] at c3
      have hxk := dgt32_lt x k
      have hsh := shi_lt x n k
      have hm : dgt b32 x k * 2 ^ n ≤ 4294967295 * 2147483648 := Nat.mul_le_mul (by omega) hpow
      have hmI : ((dgt b32 x k : Nat) : Int) * 2 ^ n < 18446744073709551616 := by
        have : ((dgt b32 x k : Nat) : Int) * 2 ^ n = ((dgt b32 x k * 2 ^ n : Nat) : Int) := by rw [Int.natCast_mul, Int.natCast_pow]; rfl
        omega
      have hw : IntKind.u64.wrap (((dgt b32 x k : Nat) : Int) * 2 ^ n) = ((dgt b32 x k * 2 ^ n : Nat) : Int) := by
        have e : ((dgt b32 x k : Nat) : Int) * 2 ^ n = ((dgt b32 x k * 2 ^ n : Nat) : Int) := by rw [Int.natCast_mul, Int.natCast_pow]; rfl
        rw [e, IntKind.wrap_u64]
        omega
      have e1 : bits .or .u32 ((shi x n k : Nat) : Int) (((dgt b32 x k * 2 ^ n : Nat) : Int) % 4294967296) = ((dgt b32 (x * 2 ^ n) k : Nat) : Int) := by
        rw [shift_digit hn, ← or_low hn hsh]; rfl
      have e2 : ((dgt b32 x k * 2 ^ n : Nat) : Int) / 4294967296 % 4294967296 = ((shi x n (k + 1) : Nat) : Int) := by
        have h1 := shi_lt x n (k + 1)
        have h2 : ((dgt b32 x k * 2 ^ n : Nat) : Int) / 4294967296 = ((shi x n (k + 1) : Nat) : Int) := by rw [shi_succ hn]; rfl
        omega
      have HW := Lib.hid hw
      have E1 := Lib.hid e1
      have E2 := Lib.hid e2
      clear hm hpow hw e1 e2 hmI
      go_wp2_with fail
      go_roundw
      case rel =>
        rw [HW.out, E1.out, E2.out]
        refine ⟨k + 1, by omega, by go_num, ?_, (hbel.setCell (Nat.le_refl _) _).setCell (Nat.le_refl _) _⟩
        exact (hrow.set (f' := fun j => if j = k then dgt b32 (x * 2 ^ n) k else sst x n k j) (by simp) fun j _ hj => by simp [hj]).set (by simp [sst]) fun j _ hj => by
          simp only [sst]
          by_cases e : j = k
          · subst e; simp
          · simp only [e, if_false, hj, show j < k + 1 ↔ j < k by omega]
      case measure => simp [intOf]; omega
    · obtain rfl : k = ln b32 x := by omega
      have htop : dgt b32 (x * 2 ^ n) (ln b32 x) = shi x n (ln b32 x) := by
        rw [shift_digit hn, dgt_of_lt (lt_pow_ln b32_two x)]; simp
      have HT := Lib.hid htop
      clear htop
      go_wp2
      go_ret
      refine ⟨rfl, hrow.congr fun j hj => ?_, hbel⟩
      simp only [sst]
      by_cases e : j < ln b32 x
      · rw [if_pos e]
      · obtain rfl : j = ln b32 x := by omega
        rw [if_neg e, if_pos rfl, HT.out]
end Go.Proofs.YtmjlankpihnicaaGreat
namespace Go.Proofs.YtmjlankpihnicaaGreat

/-- The estimate: B a base, E a power of it; V = (top B + sec) E + vl the divisor, U = (head B + u0) E + ul the dividend. A digit with digit top + rest = head whose product with sec is small enough is at most one too great. -/
theorem est_upper {B E top sec vl head u0 ul digit rest V U : Nat} (hV : V = (top * B + sec) * E + vl) (hU : U = (head * B + u0) * E + ul)
    (hvl : vl < E) (htop : 0 < top) (hd : digit < B) (hr : digit * top + rest = head) (ht : digit * sec ≤ rest * B + u0) : digit * V < U + V := by
  have h1 : digit * (top * B + sec) ≤ head * B + u0 := by
    rw [← hr, Nat.mul_add, Nat.add_mul, ← Nat.mul_assoc]
    omega
  have h2 : digit * (top * B + sec) * E ≤ (head * B + u0) * E := Nat.mul_le_mul_right E h1
  have h3 : digit * vl ≤ digit * E := Nat.mul_le_mul_left _ (by omega)
  have h4 : digit * E ≤ (B - 1) * E := Nat.mul_le_mul_right E (by omega)
  have h5 : B * E ≤ (top * B + sec) * E := Nat.mul_le_mul_right E (by
    have : 1 * B ≤ top * B := Nat.mul_le_mul_right B htop
    omega)
  have h6 : (B - 1) * E = B * E - E := Nat.sub_one_mul ..
  have h7 : digit * V = digit * (top * B + sec) * E + digit * vl := by rw [hV, Nat.mul_add, Nat.mul_assoc]
  have h8 : E ≤ B * E := Nat.le_mul_of_pos_left _ (by omega)
  omega
/-- A digit whose product with sec is too great is greater than the quotient. -/
theorem est_down {B E top sec vl head u0 ul digit rest V U : Nat} (hV : V = (top * B + sec) * E + vl) (hU : U = (head * B + u0) * E + ul)
    (hul : ul < E) (hr : digit * top + rest = head) (ht : rest * B + u0 < digit * sec) : U < digit * V := by
  have h1 : head * B + u0 + 1 ≤ digit * (top * B + sec) := by
    rw [← hr, Nat.mul_add, Nat.add_mul, ← Nat.mul_assoc]
    omega
  have h2 : (head * B + u0 + 1) * E ≤ digit * (top * B + sec) * E := Nat.mul_le_mul_right E h1
  have h7 : digit * V = digit * (top * B + sec) * E + digit * vl := by rw [hV, Nat.mul_add, Nat.mul_assoc]
  have h8 : (head * B + u0 + 1) * E = (head * B + u0) * E + E := Nat.succ_mul ..
  omega
/-- The first digits of the dividend are not too great. -/
theorem head_bound {B E top sec vl head u0 ul V U : Nat} (hV : V = (top * B + sec) * E + vl) (hU : U = (head * B + u0) * E + ul) (hvl : vl < E) (hsec : sec < B) (hUV : U < V * B) : head < top * B + B := by
  have h1 : V < (top * B + B) * E := by
    have h2 : (top * B + sec + 1) * E ≤ (top * B + B) * E := Nat.mul_le_mul_right E (by omega)
    have h3 : (top * B + sec + 1) * E = (top * B + sec) * E + E := Nat.succ_mul ..
    omega
  have h4 : head * B * E < (top * B + B) * B * E := by
    have h5 : V * B ≤ (top * B + B) * E * B := Nat.mul_le_mul_right B (by omega)
    have h6 : (head * B + u0) * E = head * B * E + u0 * E := Nat.add_mul ..
    have h7 : (top * B + B) * E * B = (top * B + B) * B * E := Nat.mul_right_comm ..
    have h8 : V * B < (top * B + B) * E * B := by
      rcases Nat.eq_zero_or_pos B with h0 | h0
      · subst h0; omega
      · exact Nat.mul_lt_mul_of_pos_right h1 h0
    omega
  have h9 := Nat.lt_of_mul_lt_mul_right (a := E) h4
  exact Nat.lt_of_mul_lt_mul_right (a := B) h9

/-- The carry and the borrow of a multiplication that is subtracted. -/
def mcr (d : Nat) (v : Nat → Nat) : Nat → Nat
  | 0 => 0
  | k + 1 => (d * v k + mcr d v k) / 4294967296
def mlo (d : Nat) (v : Nat → Nat) (k : Nat) : Nat := (d * v k + mcr d v k) % 4294967296
def mbo (d : Nat) (u v : Nat → Nat) : Nat → Nat
  | 0 => 0
  | k + 1 => subB (u k) (mlo d v k) (mbo d u v k)
def mdi (d : Nat) (u v : Nat → Nat) (k : Nat) : Nat := subD (u k) (mlo d v k) (mbo d u v k)
theorem mcr_lt {d : Nat} {v : Nat → Nat} (hd : d < 4294967296) (hv : ∀ i, v i < 4294967296) (k : Nat) : mcr d v k < 4294967296 := by
  induction k with
  | zero => simp [mcr]
  | succ k ih =>
    have h1 := mul_digit hd (hv k)
    rw [mcr]
    generalize d * v k = z at *
    omega
theorem mlo_lt (d : Nat) (v : Nat → Nat) (k : Nat) : mlo d v k < 4294967296 := Nat.mod_lt _ (by decide)
theorem mbo_le (d : Nat) (u v : Nat → Nat) (k : Nat) : mbo d u v k ≤ 1 := by
  cases k with
  | zero => exact Nat.zero_le _
  | succ k => exact subB_le ..
theorem mdi_lt (d : Nat) (u v : Nat → Nat) (k : Nat) : mdi d u v k < 4294967296 := subD_lt ..
theorem mdi_sum {d : Nat} {u v : Nat → Nat} (hu : ∀ i, u i < 4294967296) (n : Nat) :
    vs b32 (mdi d u v) n + d * vs b32 v n = vs b32 u n + b32 ^ n * (mcr d v n + mbo d u v n) := by
  induction n with
  | zero => simp [vs, mcr, mbo]
  | succ n ih =>
    have h1 := sub_eq (hu n) (mlo_lt d v n) (mbo_le d u v n)
    have h2 : mlo d v n + 4294967296 * mcr d v (n + 1) = d * v n + mcr d v n := Nat.mod_add_div _ _
    have h3 : mdi d u v n + d * v n + (mcr d v n + mbo d u v n) = u n + b32 * (mcr d v (n + 1) + mbo d u v (n + 1)) := by
      have e1 : mbo d u v (n + 1) = subB (u n) (mlo d v n) (mbo d u v n) := rfl
      have e2 : mdi d u v n = subD (u n) (mlo d v n) (mbo d u v n) := rfl
      rw [Nat.mul_add, e1, e2, show b32 = 4294967296 by rfl]
      omega
    have h4 : b32 ^ n * (mdi d u v n + d * v n + (mcr d v n + mbo d u v n)) = b32 ^ n * (u n + b32 * (mcr d v (n + 1) + mbo d u v (n + 1))) := by rw [h3]
    have h5 : d * (vs b32 v n + b32 ^ n * v n) = d * vs b32 v n + b32 ^ n * (d * v n) := by rw [Nat.mul_add, Nat.mul_left_comm]
    rw [vs_succ, vs_succ, vs_succ, h5, Nat.pow_succ, Nat.mul_assoc]
    rw [Nat.mul_add (b32 ^ n) (mdi d u v n + d * v n), Nat.mul_add (b32 ^ n) (mdi d u v n), Nat.mul_add (b32 ^ n) (u n)] at h4
    generalize b32 ^ n * (b32 * (mcr d v (n + 1) + mbo d u v (n + 1))) = z1 at *
    generalize b32 ^ n * (mcr d v n + mbo d u v n) = z2 at *
    generalize b32 ^ n * (d * v n) = z3 at *
    omega

theorem mcr_int (d : Nat) (v : Nat → Nat) (k : Nat) : ((d : Int) * (v k : Nat) + (mcr d v k : Nat)) / 4294967296 = ((mcr d v (k + 1) : Nat) : Int) := by
  rw [mcr, ← Int.natCast_mul, ← Int.natCast_add]; rfl
theorem mlo_int (d : Nat) (v : Nat → Nat) (k : Nat) : ((d : Int) * (v k : Nat) + (mcr d v k : Nat)) % 4294967296 = ((mlo d v k : Nat) : Int) := by
  rw [mlo, ← Int.natCast_mul, ← Int.natCast_add]; rfl
/-- The carry of adding back. -/
def acr (f v : Nat → Nat) : Nat → Nat
  | 0 => 0
  | k + 1 => (f k + v k + acr f v k) / 4294967296
def adg (f v : Nat → Nat) (k : Nat) : Nat := (f k + v k + acr f v k) % 4294967296
theorem acr_le {f v : Nat → Nat} (hf : ∀ i, f i < 4294967296) (hv : ∀ i, v i < 4294967296) (k : Nat) : acr f v k ≤ 1 := by
  induction k with
  | zero => exact Nat.zero_le _
  | succ k ih =>
    have := hf k
    have := hv k
    rw [acr]; omega
theorem adg_lt (f v : Nat → Nat) (k : Nat) : adg f v k < 4294967296 := Nat.mod_lt _ (by decide)
theorem adg_sum (f v : Nat → Nat) (n : Nat) : vs b32 (adg f v) n + b32 ^ n * acr f v n = vs b32 f n + vs b32 v n := by
  induction n with
  | zero => simp [vs, acr]
  | succ n ih =>
    have h := carry_step (t := f n + v n) ih (show adg f v n = (f n + v n + acr f v n) % b32 by rfl)
    rw [Nat.mul_add] at h
    rw [vs_succ b32 f, vs_succ b32 v]
    have e : acr f v (n + 1) = (f n + v n + acr f v n) / b32 := rfl
    rw [e]
    omega

/-- The quotient and remainder of a division step, where the digit is right (no borrow at the end). -/
theorem step_right {d n V : Nat} {u v : Nat → Nat} (hu : ∀ i, u i < 4294967296) (hV : vs b32 v n = V) (hlo : vs b32 u (n + 1) / V ≤ d) (hV0 : 0 < V)
    (hnb : mcr d v n + mbo d u v n ≤ u n) : vs b32 u (n + 1) / V = d ∧ vs b32 u (n + 1) % V = vs b32 (mdi d u v) n + b32 ^ n * (u n - (mcr d v n + mbo d u v n)) := by
  have h1 := mdi_sum (d := d) (v := v) hu n
  rw [hV] at h1
  have h2 := vs_succ b32 u n
  have h3 : b32 ^ n * (u n - (mcr d v n + mbo d u v n)) + b32 ^ n * (mcr d v n + mbo d u v n) = b32 ^ n * u n := by rw [← Nat.mul_add]; congr 1; omega
  have h4 : vs b32 u (n + 1) = d * V + (vs b32 (mdi d u v) n + b32 ^ n * (u n - (mcr d v n + mbo d u v n))) := by omega
  have h5 : d ≤ vs b32 u (n + 1) / V := by rw [Nat.le_div_iff_mul_le hV0]; omega
  have h6 : vs b32 u (n + 1) / V = d := Nat.le_antisymm hlo h5
  refine ⟨h6, ?_⟩
  have h7 := Nat.div_add_mod (vs b32 u (n + 1)) V
  rw [h6, Nat.mul_comm V d] at h7
  omega
/-- Where the digit is one too great, adding the divisor back gives the remainder. -/
theorem step_back {d n V : Nat} {u v : Nat → Nat} (hu : ∀ i, u i < 4294967296) (hv : ∀ i, v i < 4294967296) (hV : vs b32 v n = V) (hup : d * V < vs b32 u (n + 1) + V)
    (hb : u n < mcr d v n + mbo d u v n) (hd : d < 4294967296) :
    0 < d ∧ vs b32 u (n + 1) / V = d - 1 ∧ vs b32 u (n + 1) % V = vs b32 (adg (mdi d u v) v) n + b32 ^ n * ((subD (u n) (mcr d v n) (mbo d u v n) + acr (mdi d u v) v n) % 4294967296) := by
  have hmc := mcr_lt hd hv n
  have hmb := mbo_le d u v n
  have h1 := mdi_sum (d := d) (v := v) hu n
  rw [hV] at h1
  have h2 := vs_succ b32 u n
  have hun := hu n
  have hbig : b32 ^ n * (u n + 1) ≤ b32 ^ n * (mcr d v n + mbo d u v n) := Nat.mul_le_mul_left _ hb
  rw [Nat.mul_add, Nat.mul_one] at hbig
  have hmd : vs b32 (mdi d u v) n < b32 ^ n := vs_lt fun j _ => mdi_lt ..
  have hgt : vs b32 u (n + 1) < d * V := by omega
  have hV0 : 0 < V := by
    rcases Nat.eq_zero_or_pos V with h0 | h0
    · rw [h0] at hgt; omega
    · exact h0
  have hd0 : 0 < d := by
    rcases Nat.eq_zero_or_pos d with h0 | h0
    · rw [h0] at hgt; omega
    · exact h0
  have hdm : d * V = (d - 1) * V + V := by rw [← Nat.succ_mul]; congr 1; omega
  have hq1 : vs b32 u (n + 1) / V < d := by rw [Nat.div_lt_iff_lt_mul hV0]; exact hgt
  have hq2 : d - 1 ≤ vs b32 u (n + 1) / V := by rw [Nat.le_div_iff_mul_le hV0]; omega
  have hq : vs b32 u (n + 1) / V = d - 1 := by omega
  refine ⟨hd0, hq, ?_⟩
  have h7 := Nat.div_add_mod (vs b32 u (n + 1)) V
  rw [hq, Nat.mul_comm V (d - 1)] at h7
  have hmod := Nat.mod_lt (vs b32 u (n + 1)) hV0
  have h8 := adg_sum (mdi d u v) v n
  rw [hV] at h8
  have hac := acr_le (fun i => mdi_lt d u v i) hv n
  have had : vs b32 (adg (mdi d u v) v) n < b32 ^ n := vs_lt fun j _ => adg_lt ..
  have hVn : V < b32 ^ n := by rw [← hV]; exact vs_lt fun j _ => hv j
  -- the remainder R: R + b32 ^ n * (carry + borrow) = (sum) + b32 ^ n * (carry back + u n)
  have h9 : vs b32 u (n + 1) % V + b32 ^ n * (mcr d v n + mbo d u v n) = vs b32 (adg (mdi d u v) v) n + b32 ^ n * (acr (mdi d u v) v n + u n) := by
    rw [Nat.mul_add (b32 ^ n) (acr _ _ _)]
    omega
  -- so the top digit comes to 0
  have h10 : mcr d v n + mbo d u v n = acr (mdi d u v) v n + u n := by
    rcases Nat.lt_trichotomy (mcr d v n + mbo d u v n) (acr (mdi d u v) v n + u n) with h | h | h
    · omega
    · exact h
    · have h11 : b32 ^ n * (acr (mdi d u v) v n + u n + 1) ≤ b32 ^ n * (mcr d v n + mbo d u v n) := Nat.mul_le_mul_left _ h
      rw [Nat.mul_add (b32 ^ n) (acr _ _ _ + _), Nat.mul_one] at h11
      omega
  have h12 : (subD (u n) (mcr d v n) (mbo d u v n) + acr (mdi d u v) v n) % 4294967296 = 0 := by unfold subD; omega
  rw [h12]
  rw [h10] at h9
  omega
theorem dec2 (f : Nat → Nat) (m : Nat) : vs b32 f (m + 2) = (f (m + 1) * b32 + f m) * b32 ^ m + vs b32 f m := by
  rw [vs_succ, vs_succ, Nat.pow_succ, Nat.add_mul]
  have e1 : f (m + 1) * b32 * b32 ^ m = b32 ^ m * b32 * f (m + 1) := by rw [Nat.mul_comm (f (m + 1)) b32, Nat.mul_assoc, Nat.mul_comm (f (m + 1)), ← Nat.mul_assoc, Nat.mul_comm b32]
  have e2 : f m * b32 ^ m = b32 ^ m * f m := Nat.mul_comm ..
  omega
theorem dec3 (f : Nat → Nat) (m : Nat) : vs b32 f (m + 3) = ((4294967296 * f (m + 2) + f (m + 1)) * b32 + f m) * b32 ^ m + vs b32 f m := by
  have h := dec2 f m
  have h2 : vs b32 f (m + 3) = vs b32 f (m + 2) + b32 ^ (m + 2) * f (m + 2) := vs_succ b32 f (m + 2)
  have e : b32 ^ (m + 2) * f (m + 2) = 4294967296 * f (m + 2) * b32 * b32 ^ m := by
    show b32 ^ (m + 2) * f (m + 2) = b32 * f (m + 2) * b32 * b32 ^ m
    rw [Nat.pow_succ, Nat.pow_succ, Nat.mul_right_comm b32 (f (m + 2)) b32, Nat.mul_right_comm (b32 * b32) (f (m + 2)) (b32 ^ m), Nat.mul_assoc (b32 ^ m), Nat.mul_comm (b32 ^ m)]
  have e3 : (4294967296 * f (m + 2) + f (m + 1)) * b32 = 4294967296 * f (m + 2) * b32 + f (m + 1) * b32 := Nat.add_mul ..
  rw [e3, Nat.add_assoc, Nat.add_mul, ← e]
  omega
/-- What the estimate is made of. -/
structure EstCtx (U V top sec HD u0 : Nat) : Prop where
  ex : ∃ E vl ul, V = (top * b32 + sec) * E + vl ∧ U = (HD * b32 + u0) * E + ul ∧ vl < E ∧ ul < E
  lt : U < V * b32
  top : 2147483648 ≤ top
  sec : sec < 4294967296
  u0 : u0 < 4294967296
def EstInv (U V top HD dg rs : Nat) : Prop := dg * top + rs = HD ∧ rs < 4294967296 ∧ U / V ≤ dg
def EstPost (U V dg : Nat) : Prop := U / V ≤ dg ∧ dg * V < U + V ∧ dg < 4294967296
section
variable {U V top sec HD u0 dg rs : Nat}
theorem EstInv.le (h : EstInv U V top HD dg rs) (ht : 0 < top) : dg ≤ HD := by
  have h1 := Nat.le_mul_of_pos_right dg ht
  have h2 := h.1
  omega
theorem EstCtx.pos (h : EstCtx U V top sec HD u0) : 0 < V := by
  have := h.lt
  rcases Nat.eq_zero_or_pos V with e | e
  · rw [e, Nat.zero_mul] at this; omega
  · exact e
theorem EstCtx.q_lt (h : EstCtx U V top sec HD u0) : U / V < 4294967296 := by
  rw [Nat.div_lt_iff_lt_mul h.pos, Nat.mul_comm]; exact h.lt
theorem EstCtx.start (h : EstCtx U V top sec HD u0) (ht : top < 4294967296) : EstInv U V top HD (HD / top) (HD % top) := by
  have h0 := h.top
  have hm := Nat.mod_lt HD (show 0 < top by omega)
  have hdm := Nat.div_add_mod HD top
  obtain ⟨E, vl, ul, hV, hU, hvl, hul⟩ := h.ex
  refine ⟨by rw [Nat.mul_comm]; exact hdm, by omega, ?_⟩
  have h1 : U < (HD / top + 1) * V := by
    have h2 : HD + 1 ≤ (HD / top + 1) * top := by rw [Nat.add_mul, Nat.one_mul, Nat.mul_comm]; omega
    have h3 : (HD * b32 + u0 + 1) * E ≤ ((HD / top + 1) * top * b32) * E := Nat.mul_le_mul_right E (by
      have h4 := Nat.mul_le_mul_right b32 h2
      have h5 : (HD + 1) * b32 = HD * b32 + b32 := Nat.succ_mul ..
      have h6 := h.u0
      have h7 : b32 = 4294967296 := rfl
      omega)
    have h4 : (HD * b32 + u0 + 1) * E = (HD * b32 + u0) * E + E := Nat.succ_mul ..
    have h5 : (HD / top + 1) * (top * b32 * E) ≤ (HD / top + 1) * V := Nat.mul_le_mul_left _ (by
      have : (top * b32 + sec) * E = top * b32 * E + sec * E := Nat.add_mul ..
      omega)
    have h6 : (HD / top + 1) * (top * b32 * E) = (HD / top + 1) * top * b32 * E := by rw [← Nat.mul_assoc, ← Nat.mul_assoc]
    omega
  have h5 : U / V < HD / top + 1 := by rwa [Nat.div_lt_iff_lt_mul h.pos]
  exact Nat.le_of_lt_succ h5
theorem EstCtx.stay (h : EstCtx U V top sec HD u0) (hi : EstInv U V top HD dg rs) (hc : 4294967296 ≤ dg ∨ rs * 4294967296 + u0 < dg * sec) : 0 < dg ∧ (dg - 1) * top + (rs + top) = HD ∧ U / V ≤ dg - 1 := by
  obtain ⟨h1, h2, h3⟩ := hi
  have h0 := h.q_lt
  obtain ⟨E, vl, ul, hV, hU, hvl, hul⟩ := h.ex
  have h4 : U / V < dg := by
    rcases hc with hc | hc
    · exact Nat.lt_of_lt_of_le h0 hc
    · rw [Nat.div_lt_iff_lt_mul h.pos]
      exact est_down hV hU hul h1 hc
  refine ⟨Nat.lt_of_le_of_lt (Nat.zero_le _) h4, ?_, Nat.le_sub_one_of_lt h4⟩
  have h5 : 0 < dg := Nat.lt_of_le_of_lt (Nat.zero_le _) h4
  have : dg * top = (dg - 1) * top + top := by rw [← Nat.succ_mul]; congr 1; omega
  omega
theorem EstCtx.leave (h : EstCtx U V top sec HD u0) (hr : dg * top + rs = HD) (hq : U / V ≤ dg) (hd : dg < 4294967296) (ht : dg * sec ≤ rs * 4294967296 + u0) : EstPost U V dg := by
  obtain ⟨E, vl, ul, hV, hU, hvl, hul⟩ := h.ex
  exact ⟨hq, est_upper hV hU hvl (by have := h.top; omega) hd hr ht, hd⟩
theorem EstCtx.broke (h : EstCtx U V top sec HD u0) (hr : dg * top + rs = HD) (hq : U / V ≤ dg) (hrs : 4294967296 ≤ rs) : EstPost U V dg := by
  obtain ⟨E, vl, ul, hV, hU, hvl, hul⟩ := h.ex
  have h1 := head_bound hV hU hvl h.sec h.lt
  have htop := h.top
  have hd : dg < 4294967296 := by
    have h2 : dg * top < top * 4294967296 := by
      have : top * b32 + b32 = top * 4294967296 + 4294967296 := rfl
      omega
    rw [Nat.mul_comm top] at h2
    exact Nat.lt_of_mul_lt_mul_right h2
  refine h.leave hr hq hd ?_
  have h3 := mul_digit hd h.sec
  omega
end
end Go.Proofs.YtmjlankpihnicaaGreat
namespace Go.Proofs.YtmjlankpihnicaaGreat
open Go.RowKit

theorem grown_drewN {w : World} (n : Nat) (r : Option Nat) : w.grownBy (w.drewN n) r := ⟨rfl, rfl, rfl, Nat.le_refl _, fun _ _ _ => rfl⟩
theorem grown_set {w w' : World} {g : Nat} (h : w.grownBy w' (some g)) (i : Nat) (u : Value) : w.grownBy (w'.setCell ⟨g, i, none⟩ u) (some g) :=
  ⟨h.os, h.tape, h.output, by simpa [World.setCell] using h.size, fun k hk hne => (Below.heap_setCell w' ⟨g, i, none⟩ u k (fun e => hne (by rw [e]))).trans (h.block k hk hne)⟩
theorem est_ctx {F fv : Nat → Nat} {j n : Nat} (hF : ∀ i, F i < 4294967296) (hfv : ∀ i, fv i < 4294967296) (hn : 2 ≤ n) (htop : 2147483648 ≤ fv (n - 1)) (hUV : vs b32 (fun i => F (j + i)) (n + 1) < vs b32 fv n * b32)
    {HD : Nat} (hHD : HD = 4294967296 * F (j + n) + F (j + (n - 1))) : EstCtx (vs b32 (fun i => F (j + i)) (n + 1)) (vs b32 fv n) (fv (n - 1)) (fv (n - 2)) HD (F (j + (n - 2))) := by
  refine ⟨⟨b32 ^ (n - 2), vs b32 fv (n - 2), vs b32 (fun i => F (j + i)) (n - 2), ?_, ?_, vs_lt fun i _ => hfv i, vs_lt fun i _ => hF _⟩, hUV, htop, hfv _, hF _⟩
  · have h := dec2 fv (n - 2)
    rw [show n - 2 + 2 = n by omega, show n - 2 + 1 = n - 1 by omega] at h
    exact h
  · have h := dec3 (fun i => F (j + i)) (n - 2)
    rw [show n - 2 + 3 = n + 1 by omega, show n - 2 + 2 = n by omega, show n - 2 + 1 = n - 1 by omega] at h
    rw [hHD]
    exact h

/-- The dividend's words after k rounds of the subtraction. -/
def fst_ (j dg : Nat) (F fv : Nat → Nat) (k q : Nat) : Nat := if j ≤ q ∧ q < j + k then mdi dg (fun i => F (j + i)) fv (q - j) else F q

theorem sub64_top {x y b : Nat} (hx : x < 4294967296) (hy : y < 4294967296) (hb : b ≤ 1) : IntKind.u64.wrap (IntKind.u64.wrap ((x : Int) - y) - b) / 9223372036854775808 = ((subB x y b : Nat) : Int) := by
  rw [IntKind.wrap_u64, IntKind.wrap_u64]
  unfold subB; split <;> omega
theorem sub64_low {x y b : Nat} (hx : x < 4294967296) (hy : y < 4294967296) (hb : b ≤ 1) : IntKind.u64.wrap (IntKind.u64.wrap ((x : Int) - y) - b) % 4294967296 = ((subD x y b : Nat) : Int) := by
  rw [IntKind.wrap_u64, IntKind.wrap_u64]
  unfold subD; omega

/-- The words behind the subtraction's last step, and behind k rounds of adding back. -/
def fin_ (j n dg : Nat) (F fv : Nat → Nat) (q : Nat) : Nat := if q = j + n then subD (F (j + n)) (mcr dg fv n) (mbo dg (fun i => F (j + i)) fv n) else fst_ j dg F fv n q
def bck_ (j n dg : Nat) (F fv : Nat → Nat) (k q : Nat) : Nat := if j ≤ q ∧ q < j + k then adg (mdi dg (fun i => F (j + i)) fv) fv (q - j) else fin_ j n dg F fv q

theorem bck_lt {j n dg : Nat} {F fv : Nat → Nat} {k : Nat} (hF : ∀ i, F i < 4294967296) (q : Nat) : bck_ j n dg F fv k q < 4294967296 := by
  simp only [bck_, fin_, fst_]
  split
  · exact adg_lt ..
  · split
    · exact subD_lt ..
    · split
      · exact mdi_lt ..
      · exact hF q
/-- The call returned the quotient's digit; the dividend's words now hold the remainder. -/
def DStepPost (gu j n M : Nat) (F : Nat → Nat) (U V : Nat) (w : World) (e : Ending) (w' : World) : Prop :=
  ∃ F' : Nat → Nat, e = .returned (.int .u32 ((U / V : Nat) : Int)) ∧ Row w' gu 152 .u32 M M F' ∧ (∀ i, F' i < 4294967296) ∧ (∀ i, i < j ∨ j + n < i → F' i = F i) ∧
    vs b32 (fun i => F' (j + i)) (n + 1) = U % V ∧ w.grownBy w' (some gu)
set_option maxRecDepth 100000 in
set_option maxHeartbeats 2000000 in
theorem divStep_walk (gu j cu gv cv n M Mv : Nat) (F fv : Nat → Nat) (w : World) (hu : Row w gu 152 .u32 M M F) (hF : ∀ i, F i < 4294967296) (hv : Row w gv 152 .u32 Mv Mv fv) (hfv : ∀ i, fv i < 4294967296)
    (hne : gv ≠ gu) (hn : 2 ≤ n) (hn2 : n ≤ 1000000) (hj : j + n + 1 ≤ M) (hnv : n ≤ Mv) (htop : 2147483648 ≤ fv (n - 1)) (hUV : vs b32 (fun i => F (j + i)) (n + 1) < vs b32 fv n * b32) :
    Calls Tryz.prog 173 #[.slice (some ⟨gu, j, none⟩) (n + 1) cu, .slice (some ⟨gv, 0, none⟩) n cv] w (DStepPost gu j n M F (vs b32 (fun i => F (j + i)) (n + 1)) (vs b32 fv n) w) := by
  have a1 := hu.cell (i := j + n) (by omega)
  have a2 := hu.cell (i := j + (n - 1)) (by omega)
  have a3 := hu.cell (i := j + (n - 2)) (by omega)
  have a4 := hv.cell (i := n - 1) (by omega)
  have a5 := hv.cell (i := n - 2) (by omega)
  have b1 := hF (j + n)
  have b2 := hF (j + (n - 1))
  have b3 := hF (j + (n - 2))
  have b4 := hfv (n - 1)
  have b5 := hfv (n - 2)
  obtain ⟨HD, hHD⟩ : ∃ h, h = 4294967296 * F (j + n) + F (j + (n - 1)) := ⟨_, rfl⟩
  have hctx := est_ctx hF hfv hn htop hUV hHD
  obtain ⟨U, hU⟩ : ∃ U, U = vs b32 (fun i => F (j + i)) (n + 1) := ⟨_, rfl⟩
  obtain ⟨V, hV⟩ : ∃ V, V = vs b32 fv n := ⟨_, rfl⟩
  rw [← hU, ← hV] at hctx
  rw [← hU, ← hV] at hUV
  have o1 := u64_or_add b1 b2
  rw [← hHD, show ((4294967296 * F (j + n) : Nat) : Int) = (F (j + n) : Int) * 4294967296 by omega] at o1
  have hHD64 : HD < 18446744073709551616 := by omega
  have e8 : Value.int .u64 (IntKind.u64.wrap ((HD : Int) / (fv (n - 1) : Nat))) = .int .u64 ((HD / fv (n - 1) : Nat) : Int) := by
    have h1 : (HD : Int) / (fv (n - 1) : Nat) = ((HD / fv (n - 1) : Nat) : Int) := (Int.natCast_ediv ..).symm
    have h2 : HD / fv (n - 1) ≤ HD := Nat.div_le_self ..
    rw [h1, IntKind.wrap_u64]
    generalize HD / fv (n - 1) = z at *
    congr 1
    omega
  have E8 := Lib.hid e8
  have HU := Lib.hid hU
  have HV := Lib.hid hV
  have HHD := Lib.hid hHD
  have HUV := Lib.hid hUV
  have HFv := Lib.hid hfv
  have HF := Lib.hid hF
  have HX := Lib.hid hctx
  clear hHD hUV hfv hF hctx hU hV e8
  go_enter Tryz.func173, Tryz.ntmps173
  go_wp2_with fail
  go_quiet (fail)
  go_wp2_with fail
  go_quiet (fail)
  clear o1
  go_upto_block 0 with (fail)
  go_cut [8, 9] (fun d r wx => ∃ dg : Nat, d = .int .u64 (dg : Int) ∧ EstPost U V dg ∧ ∃ m, wx = w.drewN m)
  case first =>
    go_wp2_with fail
    go_loopw [8, 9] (fun d r wr => ∃ dg rs m : Nat, d = .int .u64 (dg : Int) ∧ r = .int .u64 (rs : Int) ∧ EstInv U V (fv (n - 1)) HD dg rs ∧ wr = w.drewN m) (fun d _ _ => (intOf d).toNat)
    case atStart => exact ⟨HD / fv (n - 1), HD % fv (n - 1), _, E8.out, rfl, HX.out.start b4, by rw [World.drewN_drewN]⟩
    case round =>
      obtain ⟨dg, rs, m, rfl, rfl, hinv, rfl⟩ := hrel
      have hrs := hinv.2.1
      have hdg := hinv.le (by omega)
      have HI := Lib.hid hinv
      clear hinv
      by_cases hD : 4294967296 ≤ dg
      · obtain ⟨s1, s2, s3⟩ := HX.out.stay HI.out (.inl hD)
        have t1 : (4294967296 : Int) ≤ (dg : Int) := by omega
        have S2 := Lib.hid s2
        have S3 := Lib.hid s3
        clear s2 s3
        by_cases hB : 4294967296 ≤ rs + fv (n - 1)
        · have t2 : (4294967296 : Int) ≤ (rs : Int) + (fv (n - 1) : Nat) := by omega
          go_wp2_with fail
          go_quiet (fail)
          go_wp2_with fail
          go_meet
          exact ⟨dg - 1, by congr 1; omega, HX.out.broke S2.out S3.out hB, _, rfl⟩
        · have t2 : decide ((4294967296 : Int) ≤ (rs : Int) + (fv (n - 1) : Nat)) = false := decide_eq_false (by omega)
          go_wp2_with fail
          go_quiet (fail)
          go_wp2_with fail
          go_roundw
          case rel => exact ⟨dg - 1, rs + fv (n - 1), _, by congr 1; omega, by congr 1, ⟨S2.out, by omega, S3.out⟩, rfl⟩
          case measure => simp [intOf]; omega
      · have t1 : ¬ (4294967296 : Int) ≤ (dg : Int) := by omega
        have t1' : decide ((4294967296 : Int) ≤ (dg : Int)) = false := by simpa using t1
        have o2 := u64_or_add hrs b3
        have eo : ((4294967296 * rs : Nat) : Int) = (rs : Int) * 4294967296 := by omega
        rw [eo] at o2
        obtain ⟨RS, hRS⟩ : ∃ h, h = 4294967296 * rs + F (j + (n - 2)) := ⟨_, rfl⟩
        rw [← hRS] at o2
        have hprod := mul_digit (show dg < 4294967296 by omega) b5
        have hpI : (dg : Int) * (fv (n - 2) : Nat) ≤ 18446744065119617025 := by rw [← Int.natCast_mul]; omega
        have hp0 : 0 ≤ (dg : Int) * (fv (n - 2) : Nat) := by rw [← Int.natCast_mul]; omega
        clear eo
        by_cases hT : RS < dg * fv (n - 2)
        · have t3 : (RS : Int) < (dg : Int) * (fv (n - 2) : Nat) := by rw [← Int.natCast_mul]; omega
          obtain ⟨s1, s2, s3⟩ := HX.out.stay HI.out (.inr (by rw [Nat.mul_comm rs, ← hRS]; exact hT))
          have S2 := Lib.hid s2
          have S3 := Lib.hid s3
          clear s2 s3 hRS hprod
          by_cases hB : 4294967296 ≤ rs + fv (n - 1)
          · have t2 : (4294967296 : Int) ≤ (rs : Int) + (fv (n - 1) : Nat) := by omega
            go_wp2_with fail
            go_quiet (fail)
            go_wp2_with fail
            go_meet
            exact ⟨dg - 1, by congr 1; omega, HX.out.broke S2.out S3.out hB, _, rfl⟩
          · have t2 : decide ((4294967296 : Int) ≤ (rs : Int) + (fv (n - 1) : Nat)) = false := decide_eq_false (by omega)
            go_wp2_with fail
            go_quiet (fail)
            go_wp2_with fail
            go_roundw
            case rel => exact ⟨dg - 1, rs + fv (n - 1), _, by congr 1; omega, by congr 1, ⟨S2.out, by omega, S3.out⟩, rfl⟩
            case measure => simp [intOf]; omega
        · have t3 : decide ((RS : Int) < (dg : Int) * (fv (n - 2) : Nat)) = false := decide_eq_false (by rw [← Int.natCast_mul]; omega)
          have hpost := HX.out.leave HI.out.1 HI.out.2.2 (by omega) (by rw [Nat.mul_comm rs, ← hRS]; omega)
          have HP := Lib.hid hpost
          clear hRS hprod hpost
          go_wp2_with fail
          go_quiet (fail)
          go_wp2_with fail
          go_meet
          exact ⟨dg, rfl, HP.out, _, World.drewN_drewN ..⟩
  case rest =>
    obtain ⟨dg, rfl, hpost, m, rfl⟩ := hcut
    have hdg := hpost.2.2
    have HP := Lib.hid hpost
    clear hpost
    go_wp2_with fail
    go_loopw [10, 11, 78] (fun cy bo i wr => ∃ k : Nat, k ≤ n ∧ i = .int .i64 k ∧ cy = .int .u64 (mcr dg fv k : Nat) ∧ bo = .int .u64 (mbo dg (fun i => F (j + i)) fv k : Nat) ∧ Row wr gu 152 .u32 M M (fst_ j dg F fv k) ∧ w.grownBy wr (some gu)) (fun _ _ i _ => n - (intOf i).toNat)
    case atStart => exact ⟨0, Nat.zero_le _, rfl, rfl, rfl, (hu.drewN _).congr fun q _ => by simp only [fst_]; rw [if_neg (by omega)], grown_drewN _ _⟩
    case round =>
      obtain ⟨k, hk, rfl, rfl, rfl, hrow, hgr⟩ := hrel
      have hvr := hv.grown hgr (by simpa using hne)
      by_cases hlt : k < n
      · have c0 := hvr.cell (i := k) (by omega)
        have c1 := hrow.cell (i := j + k) (by omega)
        have c2 := hrow.frozen (j + k)
        rw [show fst_ j dg F fv k (j + k) = F (j + k) by simp [fst_]] at c1
        have d1 := HFv.out k
        have d2 := HF.out (j + k)
        have d3 := mcr_lt hdg HFv.out k
        have d4 := mbo_le dg (fun i => F (j + i)) fv k
        have hprod := mul_digit hdg d1
        have hpI : (dg : Int) * (fv k : Nat) ≤ 18446744065119617025 := by rw [← Int.natCast_mul]; omega
        have hp0 : 0 ≤ (dg : Int) * (fv k : Nat) := by rw [← Int.natCast_mul]; omega
        clear hprod
        go_wp2_with fail
        go_roundw
        case rel =>
          rw [mlo_int, mcr_int, sub64_top d2 (mlo_lt ..) d4, sub64_low d2 (mlo_lt ..) d4]
          refine ⟨k + 1, by omega, by go_num, rfl, rfl, hrow.set ?_ fun q _ hq => ?_, grown_set hgr _ _⟩
          · simp only [fst_]; rw [if_pos (by omega), show j + k - j = k by omega]; rfl
          · simp only [fst_, show (j ≤ q ∧ q < j + (k + 1)) ↔ (j ≤ q ∧ q < j + k) by omega]
        case measure => simp [intOf]; omega
      · obtain rfl : k = n := by omega
        have c1 := hrow.cell (i := j + k) (by omega)
        have c2 := hrow.frozen (j + k)
        rw [show fst_ j dg F fv k (j + k) = F (j + k) by simp [fst_]] at c1
        have d3 := mcr_lt hdg HFv.out k
        have d4 := mbo_le dg (fun i => F (j + i)) fv k
        have l1 := sub64_low b1 d3 d4
        have l2 := sub64_top b1 d3 d4
        obtain ⟨X, hX⟩ : ∃ x : Int, x = IntKind.u64.wrap (IntKind.u64.wrap (((F (j + k) : Nat) : Int) - ((mcr dg fv k : Nat) : Int)) - ((mbo dg (fun i => F (j + i)) fv k : Nat) : Int)) := ⟨_, rfl⟩
        rw [← hX] at l1 l2
        by_cases hbo : F (j + k) < mcr dg fv k + mbo dg (fun i => F (j + i)) fv k
        · have t1 : (X / 9223372036854775808 == 0) = false := by
            rw [l2]; unfold subB; rw [if_pos hbo]; rfl
          rw [hX] at t1 l1
          have L1 := Lib.hid l1
          clear l1 l2 hX
          obtain ⟨hd0, hq, hr⟩ := step_back (d := dg) (n := k) (V := V) (u := fun i => F (j + i)) (fun i => HF.out (j + i)) HFv.out HV.out.symm (by rw [← HU.out]; exact HP.out.2.1) hbo hdg
          have HQ := Lib.hid hq
          have HR := Lib.hid hr
          clear hq hr
          have hrow2 : Row (wr.setCell ⟨gu, j + k, none⟩ (.int .u32 (IntKind.u64.wrap (IntKind.u64.wrap (((F (j + k) : Nat) : Int) - ((mcr dg fv k : Nat) : Int)) - ((mbo dg (fun i => F (j + i)) fv k : Nat) : Int)) % 4294967296))) gu 152 .u32 M M (fin_ j k dg F fv) :=
            hrow.setI (by rw [L1.out]; simp only [fin_, if_true]) fun q _ hq => by simp only [fin_, if_neg hq]
          have hgr2 := grown_set hgr (j + k) (.int .u32 (IntKind.u64.wrap (IntKind.u64.wrap (((F (j + k) : Nat) : Int) - ((mcr dg fv k : Nat) : Int)) - ((mbo dg (fun i => F (j + i)) fv k : Nat) : Int)) % 4294967296))
          have R2 := Lib.hid hrow2
          have G2 := Lib.hid hgr2
          clear hrow2 hgr2
          go_wp2_with fail
          go_loopw [17, 131] (fun up i wx => ∃ q : Nat, q ≤ k ∧ i = .int .i64 q ∧ up = .int .u32 (acr (mdi dg (fun i => F (j + i)) fv) fv q : Nat) ∧ Row wx gu 152 .u32 M M (bck_ j k dg F fv q) ∧ w.grownBy wx (some gu)) (fun _ i _ => k - (intOf i).toNat)
          case atStart => exact ⟨0, Nat.zero_le _, rfl, rfl, R2.out.congr fun q _ => by simp only [bck_]; rw [if_neg (by omega)], G2.out⟩
          case round =>
            obtain ⟨q, hq, rfl, rfl, hrowq, hgrq⟩ := hrel
            have hvrq := hv.grown hgrq (by simpa using hne)
            have f4 := acr_le (fun i => mdi_lt dg (fun i => F (j + i)) fv i) HFv.out q
            by_cases hlq : q < k
            · have c3 := hvrq.cell (i := q) (by omega)
              have c4 := hrowq.cell (i := j + q) (by omega)
              have c5 := hrowq.frozen (j + q)
              have ef : bck_ j k dg F fv q (j + q) = mdi dg (fun i => F (j + i)) fv q := by
                simp only [bck_, fin_, fst_]; rw [if_neg (by omega), if_neg (by omega), if_pos (by omega), show j + q - j = q by omega]
              rw [ef] at c4
              have f1 := HFv.out q
              have f2 := mdi_lt dg (fun i => F (j + i)) fv q
              have hadd := fun w => add32_any _ _ _ w f2 f1 f4
              have HA := Lib.hid hadd
              clear hadd ef
              go_wp2_with fail
              refine (HA.out _).mono ?_
              rintro e w2 ⟨rfl, rfl⟩
              go_wp2_with fail
              go_roundw
              case rel =>
                refine ⟨q + 1, by omega, by go_num, rfl, hrowq.setI ?_ fun p _ hp => ?_, grown_set hgrq _ _⟩
                · simp only [bck_]; rw [if_pos (by omega), show j + q - j = q by omega]; rfl
                · simp only [bck_, show (j ≤ p ∧ p < j + (q + 1)) ↔ (j ≤ p ∧ p < j + q) by omega]
              case measure => simp [intOf]; omega
            · obtain rfl : q = k := by omega
              have c4 := hrowq.cell (i := j + q) (by omega)
              have c5 := hrowq.frozen (j + q)
              have ef : bck_ j q dg F fv q (j + q) = subD (F (j + q)) (mcr dg fv q) (mbo dg (fun i => F (j + i)) fv q) := by
                simp only [bck_, fin_]; rw [if_neg (by omega), if_pos trivial]
              rw [ef] at c4
              have f5 := subD_lt (F (j + q)) (mcr dg fv q) (mbo dg (fun i => F (j + i)) fv q)
              clear ef
              go_wp2_with fail
              go_ret
              refine ⟨fun p => if p = j + q then (subD (F (j + q)) (mcr dg fv q) (mbo dg (fun i => F (j + i)) fv q) + acr (mdi dg (fun i => F (j + i)) fv) fv q) % 4294967296 else bck_ j q dg F fv q p, ret_int ?_, hrowq.setI ?_ fun p _ hp => ?_, fun i => ?_, fun i hi => ?_, ?_, grown_set hgrq _ _⟩
              · rw [← HV.out, HQ.out]; omega
              · rw [if_pos rfl]; omega
              · rw [if_neg hp]
              · show (if i = j + q then _ else _) < _
                split
                · exact Nat.mod_lt _ (by decide)
                · exact bck_lt HF.out i
              · simp only [bck_, fin_, fst_]; rw [if_neg (by omega), if_neg (by omega), if_neg (by omega), if_neg (by omega)]
              · rw [← HV.out, HR.out, vs_succ]
                congr 1
                · exact vs_congr fun i hi => by simp only [bck_]; rw [if_neg (by omega), if_pos (by omega), show j + i - j = i by omega]
                · simp only [if_true]
        · have t1 : (X / 9223372036854775808 == 0) = true := by
            rw [l2]; unfold subB; rw [if_neg hbo]; rfl
          rw [hX] at t1
          obtain ⟨hq, hr⟩ := step_right (d := dg) (n := k) (V := V) (u := fun i => F (j + i)) (fun i => HF.out (j + i)) HV.out.symm (by rw [← HU.out]; exact HP.out.1) HX.out.pos (by omega)
          have HQ := Lib.hid hq
          have HR := Lib.hid hr
          clear l1 l2 hX hq hr
          go_wp2_with fail
          go_ret
          refine ⟨fin_ j k dg F fv, ret_int ?_, hrow.setI ?_ fun q _ hq => ?_, fun i => ?_, fun i hi => ?_, ?_, grown_set hgr _ _⟩
          · rw [← HV.out, HQ.out]
          · simp only [fin_, if_true]; unfold subD; omega
          · simp only [fin_, if_neg hq]
          · simp only [fin_, fst_]
            split
            · exact subD_lt ..
            · split
              · exact mdi_lt ..
              · exact HF.out i
          · simp only [fin_, fst_]; rw [if_neg (by omega), if_neg (by omega)]
          · rw [← HV.out, HR.out, vs_succ]
            congr 1
            · exact vs_congr fun i hi => by simp only [fin_, fst_]; rw [if_neg (by omega), if_pos (by omega), show j + i - j = i by omega]
            · congr 1
              simp only [fin_, if_true]; unfold subD; omega
end Go.Proofs.YtmjlankpihnicaaGreat
