/-
  The walk of whole.trim.
-/
import Derived.Test.YtafglggjncnkkaaDoorNum
namespace Go.Proofs.YtafglggjncnkkaaDoor
open Go.RowKit

theorem trim_round {f : Nat → Nat} {k V : Nat} (hk0 : 0 < k) (hv : vs b32 f k = V) (hx : ((f (k - 1) : Nat) : Int) = 0) : vs b32 f (k - 1) = V := by
  have h1 := vs_succ b32 f (k - 1)
  rw [show k - 1 + 1 = k by omega, hv, show f (k - 1) = 0 by omega] at h1
  omega

set_option maxHeartbeats 400000 in
theorem trim_walk (B : Nat) (A : Option Addr) (n c : Nat) (f : Nat → Nat) (w : World) (h : Rd B .u32 w A n f) (hf : ∀ i, i < n → f i < 4294967296) (hc : n ≤ c) (_hn : n ≤ 100000000) :
    Calls Tryd.prog 63 #[.slice A n c] w fun e w' => e = .returned (.slice A (ln b32 (vs b32 f n)) c) ∧ w = w' := by
  have HF := Lib.hid hf
  clear hf
  go_enter Tryd.func63, Tryd.ntmps63
  go_wp2
  go_loop [0] (fun v => ∃ k : Nat, k ≤ n ∧ v = .slice A k c ∧ vs b32 f k = vs b32 f n) (fun v => match v with | .slice _ k _ => k | _ => 0)
  case atStart => exact ⟨n, Nat.le_refl _, rfl, rfl⟩
  case round =>
    obtain ⟨k, hk, rfl, hv⟩ := hrel
    have HV := Lib.hid hv
    clear hv
    rcases Nat.eq_zero_or_pos k with rfl | hk0
    · go_wp2
      go_ret
      exact ⟨ret_slice (by rw [← HV.out, vs_zero, ln_zero]), rfl⟩
    · obtain ⟨b, o, rfl, hb, hcell⟩ := h (by omega)
      have hx := hcell (k - 1) (by omega)
      go_wp2
      · have h0 : (((f (k - 1) : Nat) : Int) == 0) = true := by assumption
        go_round
        case rel => exact ⟨k - 1, by omega, rfl, trim_round hk0 HV.out (by simpa using h0)⟩
        case measure => simp; omega
      · have h0 : (((f (k - 1) : Nat) : Int) == 0) = false := by assumption
        go_ret
        have hne : f (k - 1) ≠ 0 := by
          intro e
          rw [e] at h0
          simp at h0
        exact ⟨ret_slice (by rw [← HV.out, ln_vs b32_two (fun j hj => HF.out j (by omega)) (.inr hne)]), rfl⟩
/-- trim: the words of the number without leading zeros, in the same place. -/
theorem trim_any (A : Option Addr) (n c : Nat) (f : Nat → Nat) (w : World) (h : Rd w.heap.size .u32 w A n f) (hf : ∀ i, i < n → f i < 4294967296) (hc : n ≤ c) (hn : n ≤ 100000000) :
    Calls Tryd.prog 63 #[.slice A n c] w fun e w' => e = .returned (.slice A (ln b32 (vs b32 f n)) c) ∧ w = w' ∧ Num32 w A (vs b32 f n) ∧ ln b32 (vs b32 f n) ≤ c :=
  (trim_walk _ A n c f w h hf hc hn).mono fun _ _ ⟨he, hw⟩ => ⟨he, hw, Num32.of_rd h hf, Nat.le_trans ((ln_le b32_two).2 (vs_lt hf)) hc⟩
theorem trim_num (A : Option Addr) (c x : Nat) (w : World) (h : Num32 w A x) (hc : ln b32 x ≤ c) (hn : ln b32 x ≤ 100000000) :
    Calls Tryd.prog 63 #[.slice A (ln b32 x) c] w fun e w' => e = .returned (.slice A (ln b32 x) c) ∧ w = w' :=
  (trim_walk _ A _ c _ w h (fun i _ => dgt32_lt x i) hc hn).mono fun _ _ ⟨he, hw⟩ => ⟨by rw [he, vs_dgt_ln b32_two], hw⟩
theorem trim_one (H x c : Nat) (w : World) (h : w.cell? ⟨H, 0, none⟩ = some (.int .u32 (x : Int))) (hH : H < w.heap.size) (hx : x < 4294967296) (hc : 1 ≤ c) :
    Calls Tryd.prog 63 #[.slice (some ⟨H, 0, none⟩) 1 c] w fun e w' => e = .returned (.slice (some ⟨H, 0, none⟩) (ln b32 x) c) ∧ w = w' ∧ Num32 w (some ⟨H, 0, none⟩) x ∧ ln b32 x ≤ c := by
  have h1 := trim_any (some ⟨H, 0, none⟩) 1 c (fun _ => x) w (fun _ => ⟨H, 0, rfl, hH, fun i hi => by
    obtain rfl : i = 0 := by omega
    exact h⟩) (fun _ _ => hx) hc (by omega)
  rw [show vs b32 (fun _ => x) 1 = x by simp [vs]] at h1
  exact h1
end Go.Proofs.YtafglggjncnkkaaDoor
