/-
  The walk of whole.compare.
-/
import Derived.Test.YtafglggjncnkkaaDoorNum
import Derived.BigQuiet
import Derived.Deep.QuietTactic
namespace Go.Proofs.YtafglggjncnkkaaDoor
open Go.RowKit

def CmpPost (a b : Nat) (w : World) (e : Ending) (w' : World) : Prop := e = .returned (.int .i64 (cmpI a b)) ∧ ∃ n, w' = w.drewN n

set_option maxHeartbeats 400000 in
theorem compare_len (A B : Option Addr) (n m c d : Nat) (w : World) (h : n ≠ m) :
    Calls Tryd.prog 59 #[.slice A n c, .slice B m d] w fun e w' => e = .returned (.int .i64 (cmpI n m)) ∧ w = w' := by
  rcases Nat.lt_or_gt_of_ne h with h1 | h1
  · have k1 : ((n : Int) != m) = true := by simp; omega
    have k2 : (n : Int) < m := by omega
    have k3 := Lib.hid (cmpI_lt h1)
    go_enter Tryd.func59, Tryd.ntmps59
    go_wp2
    go_ret
    exact ⟨ret_int k3.out.symm, rfl⟩
  · have k1 : ((n : Int) != m) = true := by simp; omega
    have k2 : ¬ (n : Int) < m := by omega
    have k3 := Lib.hid (cmpI_gt h1)
    go_enter Tryd.func59, Tryd.ntmps59
    go_wp2
    go_ret
    exact ⟨ret_int k3.out.symm, rfl⟩

set_option maxHeartbeats 400000 in
theorem compare_same (A B : Option Addr) (n c d a b : Nat) (w : World) (ha : Rd w.heap.size .u32 w A n (dgt b32 a)) (hb : Rd w.heap.size .u32 w B n (dgt b32 b)) (hn : n ≤ 100000000) (la : a < b32 ^ n) (lb : b < b32 ^ n) :
    Calls Tryd.prog 59 #[.slice A n c, .slice B n d] w (CmpPost a b w) := by
  have LA := Lib.hid la
  have LB := Lib.hid lb
  clear la lb
  have hcell : ∀ j, j < n → ∃ p q p' q', A = some ⟨p, q, none⟩ ∧ B = some ⟨p', q', none⟩ ∧ (w.cell? ⟨p, q + j, none⟩ = some (.int .u32 (dgt b32 a j : Int))) ∧ (w.cell? ⟨p', q' + j, none⟩ = some (.int .u32 (dgt b32 b j : Int))) := fun j hj => by
    obtain ⟨p, q, e, _, h1⟩ := ha (by omega)
    obtain ⟨p', q', e', _, h2⟩ := hb (by omega)
    exact ⟨p, q, p', q', e, e', h1 j hj, h2 j hj⟩
  have HC := Lib.hid hcell
  clear ha hb hcell
  go_enter Tryd.func59, Tryd.ntmps59
  go_wp2
  go_loopw [5] (fun i wr => ∃ k : Nat, k ≤ n ∧ i = .int .i64 ((k : Int) - 1) ∧ (∀ j, k ≤ j → j < n → dgt b32 a j = dgt b32 b j) ∧ ∃ m, wr = w.drewN m) (fun i _ => (intOf i + 1).toNat)
  case atStart => exact ⟨n, Nat.le_refl _, rfl, fun j h1 h2 => absurd h2 (by omega), 0, rfl⟩
  case round =>
    obtain ⟨k, hk, rfl, he, m, rfl⟩ := hrel
    have HE := Lib.hid he
    clear he
    rcases Nat.eq_zero_or_pos k with rfl | hk0
    · go_wp2
      go_ret
      exact ⟨ret_int (cmpI_eq (eq_of_dgt LA.out LB.out fun j hj => HE.out j (by omega) hj)).symm, m, rfl⟩
    · obtain ⟨p, q, p', q', rfl, rfl, h1, h2⟩ := HC.out (k - 1) (by omega)
      have ek : ((k : Int) - 1).toNat = k - 1 := by omega
      rcases Nat.lt_trichotomy (dgt b32 a (k - 1)) (dgt b32 b (k - 1)) with hlt | heq | hgt
      · have t1 : (((dgt b32 a (k - 1) : Nat) : Int) != ((dgt b32 b (k - 1) : Nat) : Int)) = true := by simp; omega
        have t2 : ((dgt b32 a (k - 1) : Nat) : Int) < ((dgt b32 b (k - 1) : Nat) : Int) := by omega
        have t3 := Lib.hid (cmpI_lt (lt_of_dgt b32_two LA.out LB.out (by omega) (fun j h1 h2 => HE.out j (by omega) h2) hlt))
        go_wp2
        go_quiet (fail)
        go_wp2
        go_quiet (fail)
        go_wp2
        go_ret
        exact ⟨ret_int t3.out.symm, _, by rw [World.drewN_drewN, World.drewN_drewN]⟩
      · have t1 : (((dgt b32 a (k - 1) : Nat) : Int) != ((dgt b32 b (k - 1) : Nat) : Int)) = false := by simp; omega
        go_wp2
        go_quiet (fail)
        go_wp2
        go_roundw
        case rel =>
          refine ⟨k - 1, by omega, by go_num, fun j h1 h2 => ?_, _, rfl⟩
          by_cases e : j = k - 1
          · rw [e]; exact heq
          · exact HE.out j (by omega) h2
        case measure => simp [intOf]; omega
      · have t1 : (((dgt b32 a (k - 1) : Nat) : Int) != ((dgt b32 b (k - 1) : Nat) : Int)) = true := by simp; omega
        have t2 : ¬ ((dgt b32 a (k - 1) : Nat) : Int) < ((dgt b32 b (k - 1) : Nat) : Int) := by omega
        have t3 := Lib.hid (cmpI_gt (lt_of_dgt b32_two LB.out LA.out (by omega) (fun j h1 h2 => (HE.out j (by omega) h2).symm) hgt))
        go_wp2
        go_quiet (fail)
        go_wp2
        go_quiet (fail)
        go_wp2
        go_ret
        exact ⟨ret_int t3.out.symm, _, by rw [World.drewN_drewN, World.drewN_drewN]⟩
theorem compare_any (A B : Option Addr) (c d a b : Nat) (w : World) (ha : Num32 w A a) (hb : Num32 w B b) (la : ln b32 a ≤ 100000000) :
    Calls Tryd.prog 59 #[.slice A (ln b32 a) c, .slice B (ln b32 b) d] w (CmpPost a b w) := by
  by_cases h : ln b32 a = ln b32 b
  · unfold Num32 at ha hb
    have h1 := lt_pow_ln b32_two a
    have h2 := lt_pow_ln b32_two b
    rw [← h] at hb h2 ⊢
    exact compare_same A B _ c d a b w ha hb la h1 h2
  · refine (compare_len A B _ _ c d w h).mono fun e w' ⟨he, hw⟩ => ⟨?_, 0, hw.symm⟩
    rw [he]
    rcases Nat.lt_or_gt_of_ne h with h1 | h1
    · have : a < b := Nat.lt_of_not_le fun hle => by have := ln_mono b32_two hle; omega
      rw [cmpI_lt h1, cmpI_lt this]
    · have : b < a := Nat.lt_of_not_le fun hle => by have := ln_mono b32_two hle; omega
      rw [cmpI_gt h1, cmpI_gt this]
end Go.Proofs.YtafglggjncnkkaaDoor
