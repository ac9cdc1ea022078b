/-
  The walk of whole.divideShort.
-/
import Derived.Test.YtafglggjncnkkaaDoorTrim
import Derived.Test.YtafglggjncnkkaaDoorBitsW
import Derived.Test.YtafglggjncnkkaaDoorMath1
namespace Go.Proofs.YtafglggjncnkkaaDoor
open Go.RowKit

/-- The quotient's words, in memory; the remainder. -/
def DivShortPost (x d : Nat) (w : World) (e : Ending) (w' : World) : Prop :=
  ∃ A c, e = .returned (.tuple #[.slice A (ln b32 (x / d)) c, .int .u32 ((x % d : Nat) : Int)]) ∧ ln b32 (x / d) ≤ c ∧ Num32 w' A (x / d) ∧ Below w.heap.size w w'
/-- The quotient's words, at the head of a block of the call's own. -/
def DivShortAt (x d : Nat) (w : World) (e : Ending) (w' : World) : Prop :=
  ∃ c, e = .returned (.tuple #[.slice (some ⟨w.heap.size, 0, none⟩) (ln b32 (x / d)) c, .int .u32 ((x % d : Nat) : Int)]) ∧ ln b32 (x / d) ≤ c ∧ Num32 w' (some ⟨w.heap.size, 0, none⟩) (x / d) ∧ Below w.heap.size w w'
/-- The words of the quotient from digit k on. -/
def qst (x d k j : Nat) : Nat := if k ≤ j then dgt b32 (x / d) j else 0
theorem qst_lt (x d k j : Nat) : qst x d k j < 4294967296 := by unfold qst; split; exact dgt32_lt ..; decide
theorem qst_total {n : Nat} (x d : Nat) (h : x < b32 ^ n) : vs b32 (qst x d 0) n = x / d := by
  rw [vs_congr (g := dgt b32 (x / d)) fun j _ => by simp [qst]]
  exact vs_dgt_lt (Nat.lt_of_le_of_lt (Nat.div_le_self ..) h)

set_option maxHeartbeats 400000 in
theorem divShort_at (A : Option Addr) (c x d : Nat) (w : World) (hx : Num32 w A x) (hd : 0 < d) (hd1 : d < 4294967296) (hn : ln b32 x ≤ 1000000) :
    Calls Tryd.prog 44 #[.slice A (ln b32 x) c, .int .u32 (d : Int)] w (DivShortAt x d w) := by
  have hmk := mk32 (ln b32 x) (ln b32 x) (Nat.le_refl _) (by omega)
  have HN := Lib.hid (qst_total x d (lt_pow_ln b32_two x))
  have HL := Lib.hid (lt_pow_ln b32_two x)
  go_enter Tryd.func44, Tryd.ntmps44
  go_wp2
  clear hmk
  go_loopw [7, 8] (fun r i wr => ∃ k : Nat, k ≤ ln b32 x ∧ i = .int .i64 ((k : Int) - 1) ∧ r = .int .u32 ((x / b32 ^ k % d : Nat) : Int) ∧ Row wr w.heap.size 57 .u32 (ln b32 x) (ln b32 x) (qst x d k) ∧ Below w.heap.size w wr) (fun _ i _ => (intOf i + 1).toNat)
  case atStart => exact ⟨ln b32 x, Nat.le_refl _, rfl, by rw [Nat.div_eq_of_lt HL.out]; simp, Row.made.congr fun j hj => by simp only [qst]; rw [if_neg (by omega)], (Below.refl _ _).alloc (Nat.le_refl _) _⟩
  case round =>
    obtain ⟨k, hk, rfl, rfl, hrow, hbel⟩ := hrel
    rcases Nat.eq_zero_or_pos k with rfl | hk0
    · have ht := trim_any (some ⟨w.heap.size, 0, none⟩) (ln b32 x) (ln b32 x) _ wr (hrow.rd (Nat.le_refl _) hrow.lt) (fun i _ => qst_lt ..) (Nat.le_refl _) (by omega)
      rw [HN.out] at ht
      have HT := Lib.hid ht
      clear ht
      go_wp2_with fail
      refine HT.out.mono ?_
      rintro e w3 ⟨rfl, rfl, hnum, hlc⟩
      go_wp2
      go_ret2
      exact ⟨_, rfl, hlc, hnum, hbel⟩
    · obtain ⟨j, rfl⟩ : ∃ j, k = j + 1 := ⟨k - 1, by omega⟩
      have ej : (((j + 1 : Nat) : Int) - 1) = (j : Int) := by omega
      rw [ej]
      obtain ⟨b, o, rfl, hb, hca⟩ := hx (by omega)
      have c0 := (hbel.cell (p := ⟨b, o + j, none⟩) hb).trans (hca j (by omega))
      have c1 := hrow.cell (i := j) (by omega)
      have c2 := hrow.frozen j
      have hr := Nat.mod_lt (x / b32 ^ (j + 1)) hd
      have hl := dgt32_lt x j
      obtain ⟨s1, s2⟩ := short_step (B := b32) (x := x) (k := j) hd
      have hq := div32_lt hr hl
      have hcall := div32_any _ _ _ wr hr hl hd1
      rw [show 4294967296 * (x / b32 ^ (j + 1) % d) + dgt b32 x j = b32 * (x / b32 ^ (j + 1) % d) + dgt b32 x j by rfl] at hcall hq
      rw [Nat.mod_eq_of_lt (show _ < b32 by exact hq)] at s1
      rw [s1, s2] at hcall
      have HC := Lib.hid hcall
      clear hcall hq s1 s2
      go_wp2_with fail
      refine HC.out.mono ?_
      rintro e w2 ⟨rfl, nq, rfl⟩
      go_wp2
      go_roundw
      case rel => exact ⟨j, by omega, by go_num, rfl, (hrow.drewN _).set (by simp [qst]) fun q _ hq => by simp only [qst, show j ≤ q ↔ j + 1 ≤ q by omega], (belowN hbel _).setCell (Nat.le_refl _) _⟩
      case measure => simp [intOf]
theorem divShort_any (A : Option Addr) (c x d : Nat) (w : World) (hx : Num32 w A x) (hd : 0 < d) (hd1 : d < 4294967296) (hn : ln b32 x ≤ 1000000) :
    Calls Tryd.prog 44 #[.slice A (ln b32 x) c, .int .u32 (d : Int)] w (DivShortPost x d w) :=
  (divShort_at A c x d w hx hd hd1 hn).mono fun _ _ ⟨c, h1, h2, h3, h4⟩ => ⟨_, c, h1, h2, h3, h4⟩
end Go.Proofs.YtafglggjncnkkaaDoor
