/-
  The walk of whole.timesShort.
-/
import Derived.Test.YtafglggjncnkkaaDoorTrim
import Derived.Test.YtafglggjncnkkaaDoorCollect
import Derived.Test.YtafglggjncnkkaaDoorMath1
namespace Go.Proofs.YtafglggjncnkkaaDoor
open Go.RowKit

set_option maxHeartbeats 400000 in
theorem timesShort_any (A : Option Addr) (c x m p : Nat) (w : World) (hx : Num32 w A x) (hm : m < 4294967296) (hp : p < 4294967296) (hn : ln b32 x ≤ 1000000) :
    Calls Tryd.prog 47 #[.slice A (ln b32 x) c, .int .u32 (m : Int), .int .u32 (p : Int)] w (W32 w (x * m + p)) := by
  have HN := Lib.hid (@tdg_total x m p hm hp)
  have hmk := mk32 0 (ln b32 x + 1) (by omega) (by omega)
  rw [show ((ln b32 x + 1 : Nat) : Int) = (ln b32 x : Int) + 1 by omega, show ((0 : Nat) : Int) = 0 by rfl] at hmk
  go_enter Tryd.func47, Tryd.ntmps47
  go_wp2_with fail
  refine (collector_any _ _).mono ?_
  rintro e w1 ⟨rfl, rfl⟩
  go_wp2_with fail
  clear hmk
  go_loopw [9, 21] (fun e i wr => ∃ k : Nat, k ≤ ln b32 x ∧ i = .int .i64 k ∧ e = .int .u64 (ex p k : Nat) ∧ Coll w.heap.size (w.heap.size + 1 + 1 + 1) (w.heap.size + 1 + 1) (w.heap.size + 1) w.heap.size (ln b32 x + 1) (tdg (dgt b32 x) m p) wr k (tcry (dgt b32 x) m p k) ∧ Below w.heap.size w wr) (fun _ i _ => ln b32 x - (intOf i).toNat)
  case atStart => exact ⟨0, Nat.zero_le _, rfl, rfl, coll_start _ _ _, coll_below _ _ _ _ _⟩
  case round =>
    obtain ⟨k, hk, rfl, rfl, hcoll, hbel⟩ := hrel
    have hcr := tcry_lt (fun i => dgt32_lt x i) hm hp k
    have hex := ex_lt (k := k) hp
    by_cases hlt : k < ln b32 x
    · have hxk := dgt32_lt x k
      obtain ⟨b, o, rfl, hb, hca⟩ := hx (by omega)
      have c0 := (hbel.cell (p := ⟨b, o + k, none⟩) hb).trans (hca k hlt)
      have hmul := mul_digit hxk hm
      have hmulI : ((dgt b32 x k : Nat) : Int) * (m : Int) ≤ 18446744065119617025 := by rw [← Int.natCast_mul]; omega
      have hmul0 : 0 ≤ ((dgt b32 x k : Nat) : Int) * (m : Int) := by rw [← Int.natCast_mul]; omega
      have hsum : dgt b32 x k * m + ex p k + tcry (dgt b32 x) m p k < 18446744073709551616 := by omega
      have hcol := collect_int _ _ _ _ _ _ _ _ _ (dgt b32 x k * m + ex p k) (((dgt b32 x k : Nat) : Int) * (m : Int) + (ex p k : Nat)) _ hcoll (by omega) hsum rfl (by rw [Int.natCast_add, Int.natCast_mul])
      have HC := Lib.hid hcol
      clear hcol hmul hsum
      go_wp2_with fail
      refine HC.out.mono ?_
      rintro e w2 ⟨rfl, hcoll2, hbel2⟩
      go_wp2
      go_roundw
      case rel => exact ⟨k + 1, by omega, by go_num, rfl, hcoll2, hbel.trans hbel2⟩
      case measure => simp [intOf]; omega
    · obtain rfl : k = ln b32 x := by omega
      have h0 : dgt b32 x (ln b32 x) = 0 := dgt_of_lt (lt_pow_ln b32_two x)
      have hcol := collect_int _ _ _ _ _ _ _ _ _ (ex p (ln b32 x)) ((ex p (ln b32 x) : Nat) : Int) _ hcoll (by omega) (by omega) (by rw [tdg, h0, Nat.zero_mul, Nat.zero_add]) rfl
      have HC := Lib.hid hcol
      clear hcol h0
      go_wp2_with fail
      refine HC.out.mono ?_
      rintro e w2 ⟨rfl, hcoll2, hbel2⟩
      have c3 := cell_of_one hcoll2.var
      have ht := trim_any (some ⟨w.heap.size, 0, none⟩) _ (ln b32 x + 1) _ w2 (hcoll2.row.rd (Nat.le_refl _) hcoll2.row.lt) (fun i _ => tdg_lt ..) (Nat.le_refl _) (by omega)
      rw [HN.out] at ht
      have HT := Lib.hid ht
      clear ht
      go_wp2_with fail
      refine HT.out.mono ?_
      rintro e w3 ⟨rfl, rfl, hnum, hlc⟩
      go_wp2
      go_ret
      exact ⟨_, _, rfl, hlc, hnum, hbel.trans hbel2⟩
end Go.Proofs.YtafglggjncnkkaaDoor
