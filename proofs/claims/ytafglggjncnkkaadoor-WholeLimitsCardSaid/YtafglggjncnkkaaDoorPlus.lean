/-
  The walk of whole.plus.
-/
import Derived.Test.YtafglggjncnkkaaDoorTrim
import Derived.Test.YtafglggjncnkkaaDoorCollect
namespace Go.Proofs.YtafglggjncnkkaaDoor
open Go.RowKit

/-- The carry into digit k, and digit k, of a sum. -/
def cry (f g : Nat → Nat) : Nat → Nat
  | 0 => 0
  | k + 1 => (f k + g k + cry f g k) / 4294967296
def sdg (f g : Nat → Nat) (k : Nat) : Nat := (f k + g k + cry f g k) % 4294967296
theorem cry_le {f g : Nat → Nat} (hf : ∀ i, f i < 4294967296) (hg : ∀ i, g i < 4294967296) (k : Nat) : cry f g k ≤ 1 := by
  induction k with
  | zero => exact Nat.zero_le _
  | succ k ih =>
    have := hf k
    have := hg k
    rw [cry]; omega
theorem sdg_lt (f g : Nat → Nat) (k : Nat) : sdg f g k < 4294967296 := Nat.mod_lt _ (by decide)
theorem sdg_sum (f g : Nat → Nat) (n : Nat) : vs b32 (sdg f g) n + b32 ^ n * cry f g n = vs b32 f n + vs b32 g n := by
  induction n with
  | zero => simp [vs, cry]
  | succ n ih =>
    have h := carry_step (t := f n + g n) ih (show sdg f g n = (f n + g n + cry f g n) % b32 by rfl)
    rw [Nat.mul_add] at h
    rw [vs_succ b32 f, vs_succ b32 g]
    have e : cry f g (n + 1) = (f n + g n + cry f g n) / b32 := rfl
    rw [e]
    omega
theorem sdg_total {a b : Nat} (h : ln b32 b ≤ ln b32 a) : vs b32 (sdg (dgt b32 a) (dgt b32 b)) (ln b32 a + 1) = a + b := by
  have h1 := sdg_sum (dgt b32 a) (dgt b32 b) (ln b32 a + 1)
  have h2 : a < b32 ^ (ln b32 a + 1) := (ln_le b32_two).1 (by omega)
  have h3 : b < b32 ^ (ln b32 a + 1) := (ln_le b32_two).1 (by omega)
  have h4 : cry (dgt b32 a) (dgt b32 b) (ln b32 a + 1) = 0 := by
    have hc := cry_le (fun i => dgt32_lt a i) (fun i => dgt32_lt b i) (ln b32 a)
    rw [cry, dgt_of_lt (lt_pow_ln b32_two a), dgt_of_lt ((ln_le b32_two).1 h)]
    omega
  rw [h4, vs_dgt_lt h2, vs_dgt_lt h3, Nat.mul_zero, Nat.add_zero] at h1
  exact h1

set_option maxHeartbeats 400000 in
theorem plus_walk (A B : Option Addr) (c d a b : Nat) (w : World) (ha : Num32 w A a) (hb : Num32 w B b) (hba : ln b32 b ≤ ln b32 a) (hn : ln b32 a ≤ 1000000) :
    Calls Tryd.prog 57 #[.slice A (ln b32 a) c, .slice B (ln b32 b) d] w (W32 w (a + b)) := by
  have HN := Lib.hid (@sdg_total a b hba)
  have hmk := mk32 0 (ln b32 a + 1) (by omega) (by omega)
  rw [show ((ln b32 a + 1 : Nat) : Int) = (ln b32 a : Int) + 1 by omega, show ((0 : Nat) : Int) = 0 by rfl] at hmk
  have k0 : ¬ (ln b32 a : Int) < (ln b32 b : Int) := by omega
  go_enter Tryd.func57, Tryd.ntmps57
  go_wp2_with fail
  refine (collector_any _ _).mono ?_
  rintro e w1 ⟨rfl, rfl⟩
  go_wp2_with fail
  clear hmk
  go_loopw [24] (fun i wr => ∃ k : Nat, k ≤ ln b32 a ∧ i = .int .i64 k ∧ Coll w.heap.size (w.heap.size + 1 + 1 + 1) (w.heap.size + 1 + 1) (w.heap.size + 1) w.heap.size (ln b32 a + 1) (sdg (dgt b32 a) (dgt b32 b)) wr k (cry (dgt b32 a) (dgt b32 b) k) ∧ Below w.heap.size w wr) (fun i _ => ln b32 a - (intOf i).toNat)
  case atStart => exact ⟨0, Nat.zero_le _, rfl, coll_start _ _ _, coll_below _ _ _ _ _⟩
  case round =>
    obtain ⟨k, hk, rfl, hcoll, hbel⟩ := hrel
    have hcr := cry_le (fun i => dgt32_lt a i) (fun i => dgt32_lt b i) k
    by_cases hlt : k < ln b32 a
    · have hx := dgt32_lt a k
      have hy := dgt32_lt b k
      obtain ⟨p, q, rfl, hp, hca⟩ := ha (by omega)
      have c0 := (hbel.cell (p := ⟨p, q + k, none⟩) hp).trans (hca k hlt)
      by_cases hkb : k < ln b32 b
      · obtain ⟨p', q', rfl, hp', hcb⟩ := hb (by omega)
        have c1 := (hbel.cell (p := ⟨p', q' + k, none⟩) hp').trans (hcb k hkb)
        have hcol := collect_int _ _ _ _ _ _ _ _ _ (dgt b32 a k + dgt b32 b k) ((dgt b32 a k : Int) + dgt b32 b k) _ hcoll (by omega) (by omega) rfl (by omega)
        have HC := Lib.hid hcol
        clear hcol
        go_wp2_with fail
        refine HC.out.mono ?_
        rintro e w2 ⟨rfl, hcoll2, hbel2⟩
        go_wp2
        go_roundw
        case rel => exact ⟨k + 1, by omega, by go_num, hcoll2, hbel.trans hbel2⟩
        case measure => simp [intOf]; omega
      · have h0 : dgt b32 b k = 0 := dgt_of_lt ((ln_le b32_two).1 (by omega))
        have hcol := collect_int _ _ _ _ _ _ _ _ _ (dgt b32 a k + dgt b32 b k) (dgt b32 a k : Int) _ hcoll (by omega) (by omega) rfl (by omega)
        have HC := Lib.hid hcol
        clear hcol h0
        go_wp2_with fail
        refine HC.out.mono ?_
        rintro e w2 ⟨rfl, hcoll2, hbel2⟩
        go_wp2
        go_roundw
        case rel => exact ⟨k + 1, by omega, by go_num, hcoll2, hbel.trans hbel2⟩
        case measure => simp [intOf]; omega
    · obtain rfl : k = ln b32 a := by omega
      have h0 : dgt b32 a (ln b32 a) = 0 := dgt_of_lt (lt_pow_ln b32_two a)
      have h1 : dgt b32 b (ln b32 a) = 0 := dgt_of_lt ((ln_le b32_two).1 hba)
      have hcol := collect_int _ _ _ _ _ _ _ _ _ 0 0 _ hcoll (by omega) (by omega) (by rw [sdg, h0, h1]) (by omega)
      have HC := Lib.hid hcol
      clear hcol h0 h1
      go_wp2_with fail
      refine HC.out.mono ?_
      rintro e w2 ⟨rfl, hcoll2, hbel2⟩
      have c3 := cell_of_one hcoll2.var
      have ht := trim_any (some ⟨w.heap.size, 0, none⟩) _ (ln b32 a + 1) _ w2 (hcoll2.row.rd (Nat.le_refl _) hcoll2.row.lt) (fun i _ => sdg_lt ..) (Nat.le_refl _) (by omega)
      rw [HN.out] at ht
      have HT := Lib.hid ht
      clear ht
      go_wp2_with fail
      refine HT.out.mono ?_
      rintro e w3 ⟨rfl, rfl, hnum, hlc⟩
      go_wp2
      go_ret
      exact ⟨_, _, rfl, hlc, hnum, hbel.trans hbel2⟩
set_option maxHeartbeats 400000 in
theorem plus_swap (A B : Option Addr) (c d a b : Nat) (w : World) (ha : Num32 w A a) (hb : Num32 w B b) (hba : ln b32 a < ln b32 b) (hn : ln b32 b ≤ 1000000) :
    Calls Tryd.prog 57 #[.slice A (ln b32 a) c, .slice B (ln b32 b) d] w (W32 w (b + a)) := by
  have HN := Lib.hid (@sdg_total b a (by omega))
  have hmk := mk32 0 (ln b32 b + 1) (by omega) (by omega)
  rw [show ((ln b32 b + 1 : Nat) : Int) = (ln b32 b : Int) + 1 by omega, show ((0 : Nat) : Int) = 0 by rfl] at hmk
  have k0 : (ln b32 a : Int) < (ln b32 b : Int) := by omega
  go_enter Tryd.func57, Tryd.ntmps57
  go_wp2_with fail
  refine (collector_any _ _).mono ?_
  rintro e w1 ⟨rfl, rfl⟩
  go_wp2_with fail
  clear hmk
  go_loopw [24] (fun i wr => ∃ k : Nat, k ≤ ln b32 b ∧ i = .int .i64 k ∧ Coll w.heap.size (w.heap.size + 1 + 1 + 1) (w.heap.size + 1 + 1) (w.heap.size + 1) w.heap.size (ln b32 b + 1) (sdg (dgt b32 b) (dgt b32 a)) wr k (cry (dgt b32 b) (dgt b32 a) k) ∧ Below w.heap.size w wr) (fun i _ => ln b32 b - (intOf i).toNat)
  case atStart => exact ⟨0, Nat.zero_le _, rfl, coll_start _ _ _, coll_below _ _ _ _ _⟩
  case round =>
    obtain ⟨k, hk, rfl, hcoll, hbel⟩ := hrel
    have hcr := cry_le (fun i => dgt32_lt b i) (fun i => dgt32_lt a i) k
    by_cases hlt : k < ln b32 b
    · have hx := dgt32_lt b k
      have hy := dgt32_lt a k
      obtain ⟨p, q, rfl, hp, hca⟩ := hb (by omega)
      have c0 := (hbel.cell (p := ⟨p, q + k, none⟩) hp).trans (hca k hlt)
      by_cases hkb : k < ln b32 a
      · obtain ⟨p', q', rfl, hp', hcb⟩ := ha (by omega)
        have c1 := (hbel.cell (p := ⟨p', q' + k, none⟩) hp').trans (hcb k hkb)
        have hcol := collect_int _ _ _ _ _ _ _ _ _ (dgt b32 b k + dgt b32 a k) ((dgt b32 b k : Int) + dgt b32 a k) _ hcoll (by omega) (by omega) rfl (by omega)
        have HC := Lib.hid hcol
        clear hcol
        go_wp2_with fail
        refine HC.out.mono ?_
        rintro e w2 ⟨rfl, hcoll2, hbel2⟩
        go_wp2
        go_roundw
        case rel => exact ⟨k + 1, by omega, by go_num, hcoll2, hbel.trans hbel2⟩
        case measure => simp [intOf]; omega
      · have h0 : dgt b32 a k = 0 := dgt_of_lt ((ln_le b32_two).1 (by omega))
        have hcol := collect_int _ _ _ _ _ _ _ _ _ (dgt b32 b k + dgt b32 a k) (dgt b32 b k : Int) _ hcoll (by omega) (by omega) rfl (by omega)
        have HC := Lib.hid hcol
        clear hcol h0
        go_wp2_with fail
        refine HC.out.mono ?_
        rintro e w2 ⟨rfl, hcoll2, hbel2⟩
        go_wp2
        go_roundw
        case rel => exact ⟨k + 1, by omega, by go_num, hcoll2, hbel.trans hbel2⟩
        case measure => simp [intOf]; omega
    · obtain rfl : k = ln b32 b := by omega
      have h0 : dgt b32 b (ln b32 b) = 0 := dgt_of_lt (lt_pow_ln b32_two b)
      have h1 : dgt b32 a (ln b32 b) = 0 := dgt_of_lt ((ln_le b32_two).1 (by omega))
      have hcol := collect_int _ _ _ _ _ _ _ _ _ 0 0 _ hcoll (by omega) (by omega) (by rw [sdg, h0, h1]) (by omega)
      have HC := Lib.hid hcol
      clear hcol h0 h1
      go_wp2_with fail
      refine HC.out.mono ?_
      rintro e w2 ⟨rfl, hcoll2, hbel2⟩
      have c3 := cell_of_one hcoll2.var
      have ht := trim_any (some ⟨w.heap.size, 0, none⟩) _ (ln b32 b + 1) _ w2 (hcoll2.row.rd (Nat.le_refl _) hcoll2.row.lt) (fun i _ => sdg_lt ..) (Nat.le_refl _) (by omega)
      rw [HN.out] at ht
      have HT := Lib.hid ht
      clear ht
      go_wp2_with fail
      refine HT.out.mono ?_
      rintro e w3 ⟨rfl, rfl, hnum, hlc⟩
      go_wp2
      go_ret
      exact ⟨_, _, rfl, hlc, hnum, hbel.trans hbel2⟩
theorem plus_any (A B : Option Addr) (c d a b : Nat) (w : World) (ha : Num32 w A a) (hb : Num32 w B b) (hn : ln b32 a ≤ 1000000) (hm : ln b32 b ≤ 1000000) :
    Calls Tryd.prog 57 #[.slice A (ln b32 a) c, .slice B (ln b32 b) d] w (W32 w (a + b)) := by
  by_cases h : ln b32 b ≤ ln b32 a
  · exact plus_walk A B c d a b w ha hb h hn
  · rw [Nat.add_comm a b]
    exact plus_swap A B c d a b w ha hb (by omega) hm
end Go.Proofs.YtafglggjncnkkaaDoor
