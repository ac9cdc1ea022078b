/-
  The walk of whole.difference.
-/
import Derived.Test.YtafglggjncnkkaaDoorMinus
import Derived.Test.YtafglggjncnkkaaDoorMath3
import Derived.Laws.Small
namespace Go.Proofs.YtafglggjncnkkaaDoor
open Go.RowKit

theorem mlo_sum (d : Nat) (v : Nat → Nat) (n : Nat) : vs b32 (mlo d v) n + b32 ^ n * mcr d v n = d * vs b32 v n := by
  induction n with
  | zero => simp [vs, mcr]
  | succ n ih =>
    have h := carry_step (t := d * v n) ih (show mlo d v n = (d * v n + mcr d v n) % b32 by rfl)
    rw [vs_succ b32 v, Nat.mul_add, Nat.mul_left_comm d]
    exact h
theorem mlo_total {d x n : Nat} (hd : d < 4294967296) (hn : ln b32 x < n) : vs b32 (mlo d (dgt b32 x)) n = d * x := by
  have h1 := mlo_sum d (dgt b32 x) n
  have hx : x < b32 ^ n := (ln_le b32_two).1 (by omega)
  rw [vs_dgt_lt hx] at h1
  have h2 : d * x < b32 ^ n := by
    obtain ⟨m, rfl⟩ : ∃ m, n = m + 1 := ⟨n - 1, by omega⟩
    have h3 : x < b32 ^ m := (ln_le b32_two).1 (by omega)
    rw [Nat.pow_succ, Nat.mul_comm (b32 ^ m)]
    exact Nat.mul_lt_mul_of_lt_of_le hd (Nat.le_of_lt h3) (Nat.pow_pos (by decide))
  rcases Nat.eq_zero_or_pos (mcr d (dgt b32 x) n) with h0 | h0
  · rw [h0, Nat.mul_zero, Nat.add_zero] at h1; exact h1
  · have h4 : b32 ^ n * 1 ≤ b32 ^ n * mcr d (dgt b32 x) n := Nat.mul_le_mul_left _ h0
    omega
theorem diff_total {u v a b n : Nat} (hu : u < 4294967296) (hv : v < 4294967296) (ha : ln b32 a < n) (hb : ln b32 b < n) (h : v * b ≤ u * a) : vs b32 (dif (mlo u (dgt b32 a)) (mlo v (dgt b32 b))) n = u * a - v * b := by
  have h1 := dif_sum (f := mlo u (dgt b32 a)) (g := mlo v (dgt b32 b)) (fun i => mlo_lt ..) (fun i => mlo_lt ..) n
  rw [mlo_total hu ha, mlo_total hv hb] at h1
  have h2 : vs b32 (dif (mlo u (dgt b32 a)) (mlo v (dgt b32 b))) n < b32 ^ n := vs_lt fun j _ => dif_lt ..
  have h3 : vs b32 (mlo u (dgt b32 a)) n < b32 ^ n := vs_lt fun j _ => mlo_lt ..
  rw [mlo_total hu ha] at h3
  rcases bit_cases (brw_le (mlo u (dgt b32 a)) (mlo v (dgt b32 b)) n) with e | e
  · rw [e] at h1; omega
  · rw [e] at h1; omega
theorem mcr_nul {d k : Nat} {v : Nat → Nat} (h : v k = 0) (hc : mcr d v k < 4294967296) : mlo d v k = mcr d v k ∧ mcr d v (k + 1) = 0 := by
  rw [mlo, mcr, h, Nat.mul_zero, Nat.zero_add]
  exact ⟨Nat.mod_eq_of_lt hc, Nat.div_eq_of_lt hc⟩

/-- The words after k rounds. -/
def dst (f g : Nat → Nat) (k j : Nat) : Nat := if j < k then dif f g j else 0

set_option maxRecDepth 100000 in
set_option maxHeartbeats 2000000 in
theorem difference_any (A B : Option Addr) (c d u v a b : Nat) (w : World) (ha : Num32 w A a) (hb : Num32 w B b) (hu : u < 4294967296) (hv : v < 4294967296) (hab : v * b ≤ u * a) (hn : ln b32 a ≤ 1000000) (hm : ln b32 b ≤ 1000000) :
    Calls Tryd.prog 65 #[.int .u64 (u : Int), .slice A (ln b32 a) c, .int .u64 (v : Int), .slice B (ln b32 b) d] w (W32 w (u * a - v * b)) := by
  obtain ⟨N, hN⟩ : ∃ N, N = max (ln b32 a) (ln b32 b) := ⟨_, rfl⟩
  have hNa : ln b32 a ≤ N := by omega
  have hNb : ln b32 b ≤ N := by omega
  have hN1 : N ≤ 1000000 := by omega
  have htot := diff_total hu hv (show ln b32 a < N + 1 by omega) (show ln b32 b < N + 1 by omega) hab
  have HT0 := Lib.hid htot
  have hmk := mk32 (N + 1) (N + 1) (Nat.le_refl _) (by omega)
  have hmax : ∀ (w : World) (ts : Array TypeId) (t : TypeId), (Builtin.max_ ts t #[.int .i64 (ln b32 a : Int), .int .i64 (ln b32 b : Int)]).run Tryd.prog w = .ok (.int .i64 (N : Int)) w := by
    intro w ts t
    rw [run_max_int2]
    congr 2
    split <;> omega
  rw [show ((N + 1 : Nat) : Int) = (N : Int) + 1 by omega] at hmk
  clear htot hN
  go_enter Tryd.func65, Tryd.ntmps65
  go_wp2_with fail
  clear hmk hmax
  go_loopw [10, 11, 12, 23] (fun x y bo i wr => ∃ k : Nat, k ≤ N + 1 ∧ i = .int .i64 k ∧ x = .int .u64 (mcr u (dgt b32 a) k : Nat) ∧ y = .int .u64 (mcr v (dgt b32 b) k : Nat) ∧ bo = .int .u32 (brw (mlo u (dgt b32 a)) (mlo v (dgt b32 b)) k : Nat) ∧
      Row wr w.heap.size 57 .u32 (N + 1) (N + 1) (dst (mlo u (dgt b32 a)) (mlo v (dgt b32 b)) k) ∧ Below w.heap.size w wr) (fun _ _ _ i _ => N + 1 - (intOf i).toNat)
  case atStart => exact ⟨0, Nat.zero_le _, rfl, rfl, rfl, rfl, Row.made.congr fun j _ => by simp [dst], (Below.refl _ _).alloc (Nat.le_refl _) _⟩
  case round =>
    obtain ⟨k, hk, rfl, rfl, rfl, rfl, hrow, hbel⟩ := hrel
    have hbr := brw_le (mlo u (dgt b32 a)) (mlo v (dgt b32 b)) k
    have m1 := mcr_lt hu (fun i => dgt32_lt a i) k
    have m2 := mcr_lt hv (fun i => dgt32_lt b i) k
    by_cases hlt : k < N + 1
    · have w1 := hrow.cell (i := k) (by omega)
      have w2 := hrow.frozen k
      have hset := fun (p : Int) (hp : p = ((subD (mlo u (dgt b32 a) k) (mlo v (dgt b32 b) k) (brw (mlo u (dgt b32 a)) (mlo v (dgt b32 b)) k) : Nat) : Int)) => hrow.setI (i := k) (x := p) (f' := dst (mlo u (dgt b32 a)) (mlo v (dgt b32 b)) (k + 1)) (by rw [hp]; simp [dst, dif]) fun j _ hj => by simp only [dst, show j < k + 1 ↔ j < k by omega]
      have HSET := Lib.hid hset
      clear hset
      by_cases hak : k < ln b32 a
      · by_cases hbk : k < ln b32 b
        · have ad := dgt32_lt a k
          obtain ⟨pa, qa, rfl, hpa, hca⟩ := ha (by omega)
          have ac := (hbel.cell (p := ⟨pa, qa + k, none⟩) hpa).trans (hca k hak)
          have ap := mul_digit hu ad
          have aI : (u : Int) * (dgt b32 a k : Nat) ≤ 18446744065119617025 := by rw [← Int.natCast_mul]; omega
          have a0 : 0 ≤ (u : Int) * (dgt b32 a k : Nat) := by rw [← Int.natCast_mul]; omega
          have ae1 : (((mcr u (dgt b32 a) k : Nat) : Int) + (u : Int) * (dgt b32 a k : Nat)) % 4294967296 = ((mlo u (dgt b32 a) k : Nat) : Int) := by rw [Int.add_comm]; exact mlo_int ..
          have ae2 : (((mcr u (dgt b32 a) k : Nat) : Int) + (u : Int) * (dgt b32 a k : Nat)) / 4294967296 = ((mcr u (dgt b32 a) (k + 1) : Nat) : Int) := by rw [Int.add_comm]; exact mcr_int ..
          have AE1 := Lib.hid ae1
          have AE2 := Lib.hid ae2
          clear ap ae1 ae2
          have bd := dgt32_lt b k
          obtain ⟨pb, qb, rfl, hpb, hcb⟩ := hb (by omega)
          have bc := (hbel.cell (p := ⟨pb, qb + k, none⟩) hpb).trans (hcb k hbk)
          have bp := mul_digit hv bd
          have bI : (v : Int) * (dgt b32 b k : Nat) ≤ 18446744065119617025 := by rw [← Int.natCast_mul]; omega
          have b0 : 0 ≤ (v : Int) * (dgt b32 b k : Nat) := by rw [← Int.natCast_mul]; omega
          have be1 : (((mcr v (dgt b32 b) k : Nat) : Int) + (v : Int) * (dgt b32 b k : Nat)) % 4294967296 = ((mlo v (dgt b32 b) k : Nat) : Int) := by rw [Int.add_comm]; exact mlo_int ..
          have be2 : (((mcr v (dgt b32 b) k : Nat) : Int) + (v : Int) * (dgt b32 b k : Nat)) / 4294967296 = ((mcr v (dgt b32 b) (k + 1) : Nat) : Int) := by rw [Int.add_comm]; exact mcr_int ..
          have BE1 := Lib.hid be1
          have BE2 := Lib.hid be2
          clear bp be1 be2
          go_wp2_with fail
          refine (sub32_int (Z := brw (mlo u (dgt b32 a)) (mlo v (dgt b32 b)) k) AE1.out BE1.out rfl (mlo_lt ..) (mlo_lt ..) hbr _).mono ?_
          rintro e w3 ⟨rfl, rfl⟩
          go_wp2_with fail
          go_roundw
          case rel => exact ⟨k + 1, by omega, by go_num, (congrArg (Value.int .u64) AE2.out), (congrArg (Value.int .u64) BE2.out), rfl, HSET.out _ rfl, hbel.setCell (Nat.le_refl _) _⟩
          case measure => simp [intOf]; omega
        · have ad := dgt32_lt a k
          obtain ⟨pa, qa, rfl, hpa, hca⟩ := ha (by omega)
          have ac := (hbel.cell (p := ⟨pa, qa + k, none⟩) hpa).trans (hca k hak)
          have ap := mul_digit hu ad
          have aI : (u : Int) * (dgt b32 a k : Nat) ≤ 18446744065119617025 := by rw [← Int.natCast_mul]; omega
          have a0 : 0 ≤ (u : Int) * (dgt b32 a k : Nat) := by rw [← Int.natCast_mul]; omega
          have ae1 : (((mcr u (dgt b32 a) k : Nat) : Int) + (u : Int) * (dgt b32 a k : Nat)) % 4294967296 = ((mlo u (dgt b32 a) k : Nat) : Int) := by rw [Int.add_comm]; exact mlo_int ..
          have ae2 : (((mcr u (dgt b32 a) k : Nat) : Int) + (u : Int) * (dgt b32 a k : Nat)) / 4294967296 = ((mcr u (dgt b32 a) (k + 1) : Nat) : Int) := by rw [Int.add_comm]; exact mcr_int ..
          have AE1 := Lib.hid ae1
          have AE2 := Lib.hid ae2
          clear ap ae1 ae2
          obtain ⟨be1, be2⟩ := mcr_nul (d := v) (v := dgt b32 b) (dgt_of_lt ((ln_le b32_two).1 (show ln b32 b ≤ k by omega))) m2
          have BE1 := Lib.hid be1
          have BE2 := Lib.hid be2
          clear be1 be2
          go_wp2_with fail
          refine (sub32_int (Z := brw (mlo u (dgt b32 a)) (mlo v (dgt b32 b)) k) AE1.out (by rw [BE1.out]) rfl (mlo_lt ..) (mlo_lt ..) hbr _).mono ?_
          rintro e w3 ⟨rfl, rfl⟩
          go_wp2_with fail
          go_roundw
          case rel => exact ⟨k + 1, by omega, by go_num, (congrArg (Value.int .u64) AE2.out), (congrArg (Value.int .u64) (by rw [BE2.out]; omega)), rfl, HSET.out _ rfl, hbel.setCell (Nat.le_refl _) _⟩
          case measure => simp [intOf]; omega
      · by_cases hbk : k < ln b32 b
        · obtain ⟨ae1, ae2⟩ := mcr_nul (d := u) (v := dgt b32 a) (dgt_of_lt ((ln_le b32_two).1 (show ln b32 a ≤ k by omega))) m1
          have AE1 := Lib.hid ae1
          have AE2 := Lib.hid ae2
          clear ae1 ae2
          have bd := dgt32_lt b k
          obtain ⟨pb, qb, rfl, hpb, hcb⟩ := hb (by omega)
          have bc := (hbel.cell (p := ⟨pb, qb + k, none⟩) hpb).trans (hcb k hbk)
          have bp := mul_digit hv bd
          have bI : (v : Int) * (dgt b32 b k : Nat) ≤ 18446744065119617025 := by rw [← Int.natCast_mul]; omega
          have b0 : 0 ≤ (v : Int) * (dgt b32 b k : Nat) := by rw [← Int.natCast_mul]; omega
          have be1 : (((mcr v (dgt b32 b) k : Nat) : Int) + (v : Int) * (dgt b32 b k : Nat)) % 4294967296 = ((mlo v (dgt b32 b) k : Nat) : Int) := by rw [Int.add_comm]; exact mlo_int ..
          have be2 : (((mcr v (dgt b32 b) k : Nat) : Int) + (v : Int) * (dgt b32 b k : Nat)) / 4294967296 = ((mcr v (dgt b32 b) (k + 1) : Nat) : Int) := by rw [Int.add_comm]; exact mcr_int ..
          have BE1 := Lib.hid be1
          have BE2 := Lib.hid be2
          clear bp be1 be2
          go_wp2_with fail
          refine (sub32_int (Z := brw (mlo u (dgt b32 a)) (mlo v (dgt b32 b)) k) (by rw [AE1.out]) BE1.out rfl (mlo_lt ..) (mlo_lt ..) hbr _).mono ?_
          rintro e w3 ⟨rfl, rfl⟩
          go_wp2_with fail
          go_roundw
          case rel => exact ⟨k + 1, by omega, by go_num, (congrArg (Value.int .u64) (by rw [AE2.out]; omega)), (congrArg (Value.int .u64) BE2.out), rfl, HSET.out _ rfl, hbel.setCell (Nat.le_refl _) _⟩
          case measure => simp [intOf]; omega
        · obtain ⟨ae1, ae2⟩ := mcr_nul (d := u) (v := dgt b32 a) (dgt_of_lt ((ln_le b32_two).1 (show ln b32 a ≤ k by omega))) m1
          have AE1 := Lib.hid ae1
          have AE2 := Lib.hid ae2
          clear ae1 ae2
          obtain ⟨be1, be2⟩ := mcr_nul (d := v) (v := dgt b32 b) (dgt_of_lt ((ln_le b32_two).1 (show ln b32 b ≤ k by omega))) m2
          have BE1 := Lib.hid be1
          have BE2 := Lib.hid be2
          clear be1 be2
          go_wp2_with fail
          refine (sub32_int (Z := brw (mlo u (dgt b32 a)) (mlo v (dgt b32 b)) k) (by rw [AE1.out]) (by rw [BE1.out]) rfl (mlo_lt ..) (mlo_lt ..) hbr _).mono ?_
          rintro e w3 ⟨rfl, rfl⟩
          go_wp2_with fail
          go_roundw
          case rel => exact ⟨k + 1, by omega, by go_num, (congrArg (Value.int .u64) (by rw [AE2.out]; omega)), (congrArg (Value.int .u64) (by rw [BE2.out]; omega)), rfl, HSET.out _ rfl, hbel.setCell (Nat.le_refl _) _⟩
          case measure => simp [intOf]; omega
    · obtain rfl : k = N + 1 := by omega
      have hrd := (hrow.rd (Nat.le_refl _) hrow.lt).congr (f' := dif (mlo u (dgt b32 a)) (mlo v (dgt b32 b))) fun j hj => by simp only [dst, if_pos hj]
      have ht := trim_any (some ⟨w.heap.size, 0, none⟩) _ (N + 1) _ wr hrd (fun i _ => dif_lt ..) (Nat.le_refl _) (by omega)
      rw [HT0.out] at ht
      have HT := Lib.hid ht
      clear ht
      go_wp2_with fail
      refine HT.out.mono ?_
      rintro e w3 ⟨rfl, rfl, hnum, hlc⟩
      go_wp2
      go_ret
      exact ⟨_, _, rfl, hlc, hnum, hbel⟩
end Go.Proofs.YtafglggjncnkkaaDoor
