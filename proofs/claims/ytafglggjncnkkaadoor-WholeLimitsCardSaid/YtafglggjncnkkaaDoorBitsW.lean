/-
  The walks of math/bits' Sub32, Add32, Div32.
-/
import Derived.Test.YtafglggjncnkkaaDoorNum
import Derived.Test.YtafglggjncnkkaaDoorBits
import Derived.BigQuiet
import Derived.Deep.QuietTactic
namespace Go.Proofs.YtafglggjncnkkaaDoor
open Go.RowKit

set_option maxHeartbeats 400000 in
theorem sub32_any (x y b : Nat) (w : World) (hx : x < 4294967296) (hy : y < 4294967296) (hb : b ≤ 1) :
    Calls Tryd.prog 82 #[.int .u32 (x : Int), .int .u32 (y : Int), .int .u32 (b : Int)] w fun e w' => e = .returned (.tuple #[.int .u32 (subD x y b : Nat), .int .u32 (subB x y b : Nat)]) ∧ w = w' := by
  have hs : IntKind.u32.signed = false := rfl
  go_enter Tryd.func82, Tryd.ntmps82
  go_wp2
  go_ret2
  exact ⟨ret_ints (by unfold subD; omega) (sub_borrow_walk hx hy hb), rfl⟩
set_option maxHeartbeats 400000 in
theorem add32_any (x y b : Nat) (w : World) (hx : x < 4294967296) (hy : y < 4294967296) (hb : b ≤ 1) :
    Calls Tryd.prog 92 #[.int .u32 (x : Int), .int .u32 (y : Int), .int .u32 (b : Int)] w fun e w' => e = .returned (.tuple #[.int .u32 ((x + y + b) % 4294967296 : Nat), .int .u32 ((x + y + b) / 4294967296 : Nat)]) ∧ w = w' := by
  go_enter Tryd.func92, Tryd.ntmps92
  go_wp2
  go_ret2
  exact ⟨ret_ints (by omega) (by omega), rfl⟩
theorem div32_lt {h l d : Nat} (hh : h < d) (hl : l < 4294967296) : (4294967296 * h + l) / d < 4294967296 := by
  rw [Nat.div_lt_iff_lt_mul (by omega)]
  have : 4294967296 * (h + 1) ≤ 4294967296 * d := Nat.mul_le_mul_left _ hh
  omega
set_option maxHeartbeats 400000 in
theorem div32_any (h l d : Nat) (w : World) (hh : h < d) (hl : l < 4294967296) (hd : d < 4294967296) :
    Calls Tryd.prog 69 #[.int .u32 (h : Int), .int .u32 (l : Int), .int .u32 (d : Int)] w fun e w' => e = .returned (.tuple #[.int .u32 ((4294967296 * h + l) / d : Nat), .int .u32 ((4294967296 * h + l) % d : Nat)]) ∧ ∃ n, w' = w.drewN n := by
  have hd0 : (0 : Int) < d := by omega
  have h1 : ((d : Int) != 0) = true := by simp; omega
  have h2 : ¬ (d : Int) ≤ h := by omega
  have h3 := u64_or_add (a := h) (b := l) (by omega) hl
  rw [show ((4294967296 * h : Nat) : Int) = (h : Int) * 4294967296 by omega] at h3
  go_enter Tryd.func69, Tryd.ntmps69
  go_wp2
  go_quiet (fail)
  go_wp2
  go_ret2
  have hq := div32_lt hh hl
  have hr := Nat.mod_lt (4294967296 * h + l) (show 0 < d by omega)
  have e1 : (4294967296 * (h : Int) + l) / d = ((4294967296 * h + l) / d : Nat) := by rw [show 4294967296 * (h : Int) + l = ((4294967296 * h + l : Nat) : Int) by omega, ← Int.natCast_ediv]
  have e2 : (4294967296 * (h : Int) + l) % d = ((4294967296 * h + l) % d : Nat) := by rw [show 4294967296 * (h : Int) + l = ((4294967296 * h + l : Nat) : Int) by omega, ← Int.natCast_emod]
  exact ⟨ret_ints (by rw [e1]; exact Int.emod_eq_of_lt (Int.natCast_nonneg _) (by omega)) (by rw [e2]; exact Int.emod_eq_of_lt (Int.natCast_nonneg _) (by omega)), nq, rfl⟩
theorem sub32_zero (x b : Nat) (w : World) (hx : x < 4294967296) (hb : b ≤ 1) :
    Calls Tryd.prog 82 #[.int .u32 (x : Int), .int .u32 0, .int .u32 (b : Int)] w fun e w' => e = .returned (.tuple #[.int .u32 (subD x 0 b : Nat), .int .u32 (subB x 0 b : Nat)]) ∧ w = w' :=
  sub32_any x 0 b w hx (by decide) hb
theorem sub32_int {x y b : Int} {X Y Z : Nat} (ex : x = (X : Int)) (ey : y = (Y : Int)) (eb : b = (Z : Int)) (hx : X < 4294967296) (hy : Y < 4294967296) (hb : Z ≤ 1) (w : World) :
    Calls Tryd.prog 82 #[.int .u32 x, .int .u32 y, .int .u32 b] w fun e w' => e = .returned (.tuple #[.int .u32 (subD X Y Z : Nat), .int .u32 (subB X Y Z : Nat)]) ∧ w = w' := by
  subst ex ey eb
  exact sub32_any X Y Z w hx hy hb
end Go.Proofs.YtafglggjncnkkaaDoor
