/-
  The walk of whole.head and its closure.
-/
import Derived.Test.YtafglggjncnkkaaDoorNum
import Derived.Test.YtafglggjncnkkaaDoorBits
import Derived.Test.YtafglggjncnkkaaDoorMath4
import Derived.BigQuiet
import Derived.OneCell
namespace Go.Proofs.YtafglggjncnkkaaDoor
open Go.RowKit

theorem head_split {x n : Nat} (hn : 3 ≤ n) (hx : x < b32 ^ n) : x / b32 ^ (n - 3) = (dgt b32 x (n - 1) * 4294967296 + dgt b32 x (n - 2)) * 4294967296 + dgt b32 x (n - 3) := by
  obtain ⟨m, rfl⟩ : ∃ m, n = m + 3 := ⟨n - 3, by omega⟩
  rw [show m + 3 - 1 = m + 2 by omega, show m + 3 - 2 = m + 1 by omega, show m + 3 - 3 = m by omega]
  unfold dgt
  have e1 : x / b32 ^ (m + 1) = x / b32 ^ m / 4294967296 := by rw [Nat.pow_succ, ← Nat.div_div_eq_div_mul]; rfl
  have e2 : x / b32 ^ (m + 2) = x / b32 ^ m / 4294967296 / 4294967296 := by rw [Nat.pow_succ, ← Nat.div_div_eq_div_mul, e1]; rfl
  rw [e1, e2]
  have h3 : x / b32 ^ m < 4294967296 * 4294967296 * 4294967296 := by
    rw [Nat.div_lt_iff_lt_mul (Nat.pow_pos (by decide))]
    have : b32 ^ (m + 3) = 4294967296 * 4294967296 * 4294967296 * b32 ^ m := by
      rw [Nat.pow_add, Nat.mul_comm]; rfl
    rw [← this]; exact hx
  generalize x / b32 ^ m = y at *
  show y = (y / 4294967296 / 4294967296 % 4294967296 * 4294967296 + y / 4294967296 % 4294967296) * 4294967296 + y % 4294967296
  omega
/-- The head of a number: what 'head' returns. -/
def hdv (x n s : Nat) : Nat := x / (b32 ^ (n - 3) * 2 ^ (32 - s))
theorem hdv_aux (P d : Nat) {s : Nat} (hs : s < 32) : (P * 4294967296 + d) / 2 ^ (32 - s) = P * 2 ^ s + d / 2 ^ (32 - s) := by
  have e : 4294967296 = 2 ^ s * 2 ^ (32 - s) := by rw [← Nat.pow_add, show s + (32 - s) = 32 by omega]
  have e' : P * 4294967296 = 2 ^ (32 - s) * (P * 2 ^ s) := by rw [Nat.mul_left_comm, Nat.mul_comm (2 ^ (32 - s)), ← e]
  rw [e', Nat.mul_add_div (Nat.pow_pos (by decide))]
theorem hdv_eq {x n s : Nat} (hn : 3 ≤ n) (hs : s < 32) (hx : x < b32 ^ n) : hdv x n s = (dgt b32 x (n - 1) * 4294967296 + dgt b32 x (n - 2)) * 2 ^ s + dgt b32 x (n - 3) / 2 ^ (32 - s) := by
  unfold hdv
  rw [← Nat.div_div_eq_div_mul, head_split hn hx]
  exact hdv_aux _ _ hs
theorem hdv_lt {x n s : Nat} (hn : 3 ≤ n) (hs : s < 32) (hx : x * 2 ^ s < b32 ^ n) : hdv x n s < 18446744073709551616 := by
  unfold hdv
  rw [Nat.div_lt_iff_lt_mul (Nat.mul_pos (Nat.pow_pos (by decide)) (Nat.pow_pos (by decide)))]
  obtain ⟨m, rfl⟩ : ∃ m, n = m + 3 := ⟨n - 3, by omega⟩
  rw [show m + 3 - 3 = m by omega]
  have e : 4294967296 = 2 ^ (32 - s) * 2 ^ s := by rw [← Nat.pow_add, show 32 - s + s = 32 by omega]
  have e2 : b32 ^ (m + 3) = 18446744073709551616 * (b32 ^ m * 2 ^ (32 - s)) * 2 ^ s := by
    have : b32 ^ (m + 3) = 18446744073709551616 * (b32 ^ m * 4294967296) := by
      rw [Nat.pow_add, Nat.mul_left_comm]; rfl
    rw [this, Nat.mul_assoc, Nat.mul_assoc (b32 ^ m), ← e]
  rw [e2] at hx
  exact Nat.lt_of_mul_lt_mul_right hx
theorem head_or {a b s : Nat} (hb : b < 2 ^ s) (ha : a * 2 ^ s + b < 18446744073709551616) : bits .or .u64 ((a * 2 ^ s : Nat) : Int) (b : Int) = ((a * 2 ^ s + b : Nat) : Int) := by
  rw [u64_or_nat _ _ (by omega) (by omega), Nat.mul_comm a, nat_or_add hb]

theorem head_val {d1 d2 d3 s : Nat} (h1 : d1 < 4294967296) (h2 : d2 < 4294967296) (hl : d3 / 2 ^ (32 - s) < 2 ^ s) (hv : (d1 * 4294967296 + d2) * 2 ^ s + d3 / 2 ^ (32 - s) < 18446744073709551616) :
    bits .or .u64 (IntKind.u64.wrap (bits .or .u64 ((d1 : Int) * 4294967296) (d2 : Int) * 2 ^ s)) ((d3 : Int) / 2 ^ (32 - s)) = (((d1 * 4294967296 + d2) * 2 ^ s + d3 / 2 ^ (32 - s) : Nat) : Int) := by
  have o1 := u64_or_add h1 h2
  rw [show ((4294967296 * d1 : Nat) : Int) = (d1 : Int) * 4294967296 by omega, Nat.mul_comm 4294967296] at o1
  have e1 : ((d1 * 4294967296 + d2 : Nat) : Int) * 2 ^ s = (((d1 * 4294967296 + d2) * 2 ^ s : Nat) : Int) := by rw [Int.natCast_mul, Int.natCast_pow]; rfl
  have e2 : (d3 : Int) / 2 ^ (32 - s) = ((d3 / 2 ^ (32 - s) : Nat) : Int) := by rw [Int.natCast_ediv, Int.natCast_pow]; rfl
  have e3 : IntKind.u64.wrap (((d1 * 4294967296 + d2) * 2 ^ s : Nat) : Int) = (((d1 * 4294967296 + d2) * 2 ^ s : Nat) : Int) := by
    have hY : (d1 * 4294967296 + d2) * 2 ^ s < 18446744073709551616 := Nat.lt_of_le_of_lt (Nat.le_add_right _ _) hv
    rw [IntKind.wrap_u64]
    exact Int.emod_eq_of_lt (Int.natCast_nonneg _) (Int.ofNat_lt.2 hY)
  rw [o1, e1, e3, e2, head_or hl hv]
set_option maxRecDepth 100000 in
theorem head1_any (x i : Nat) (A : Option Addr) (c g : Nat) (w : World) (hx : Num32 w A x) (hg : w.cell? ⟨g, 0, none⟩ = some (.slice A (ln b32 x) c)) (hl : ln b32 x ≤ 1000000) (hi : i ≤ 1000000) :
    Calls Tryd.prog 93 #[.int .i64 (i : Int), .pointer (some ⟨g, 0, none⟩)] w fun e w' => e = .returned (.int .u64 (dgt b32 x i : Nat)) ∧ w = w' := by
  go_enter Tryd.func93, Tryd.ntmps93
  by_cases hlt : i < ln b32 x
  · obtain ⟨b, o, rfl, hb, hc⟩ := hx (by omega)
    have c1 := hc i hlt
    have d1 := dgt32_lt x i
    go_wp2_with fail
    go_ret
    exact ⟨rfl, rfl⟩
  · have h0 : dgt b32 x i = 0 := dgt_of_lt ((ln_le b32_two).1 (by omega))
    have H0 := Lib.hid h0
    clear h0
    go_wp2_with fail
    go_ret
    exact ⟨by rw [H0.out]; rfl, rfl⟩

set_option maxRecDepth 100000 in
set_option maxHeartbeats 1000000 in
theorem head_any (x n s : Nat) (A : Option Addr) (c : Nat) (w : World) (hx : Num32 w A x) (hl : ln b32 x ≤ n) (hn : 3 ≤ n) (hn2 : n ≤ 1000000) (hs : s < 32) (hb : x * 2 ^ s < b32 ^ n) :
    Calls Tryd.prog 84 #[.slice A (ln b32 x) c, .int .i64 (n : Int), .int .i64 (s : Int)] w fun e w' => e = .returned (.int .u64 (hdv x n s : Nat)) ∧ Below w.heap.size w w' := by
  have hxn : x < b32 ^ n := (ln_le b32_two).1 hl
  have hv := hdv_lt hn hs hb
  have he := hdv_eq hn hs hxn
  have d1 := dgt32_lt x (n - 1)
  have d2 := dgt32_lt x (n - 2)
  have d3 := dgt32_lt x (n - 3)
  have hp : 0 < 2 ^ s := Nat.pow_pos (by decide)
  have hlow : dgt b32 x (n - 3) / 2 ^ (32 - s) < 2 ^ s := by
    rw [Nat.div_lt_iff_lt_mul (Nat.pow_pos (by decide)), ← Nat.pow_add, show s + (32 - s) = 32 by omega]
    exact d3
  have hlo := Lib.hid hlow
  have HE := Lib.hid he
  have bl : Below w.heap.size w (w.alloc (.cells #[.slice A (ln b32 x) c] 54)) := (Below.refl _ w).alloc (Nat.le_refl _) _
  have bx := cell_of_one (heap_alloc_new w (.cells #[.slice A (ln b32 x) c] 54))
  have hq : ∀ i m : Nat, i ≤ 1000000 → Calls Tryd.prog 93 #[.int .i64 (i : Int), .pointer (some ⟨w.heap.size, 0, none⟩)] ((w.alloc (.cells #[.slice A (ln b32 x) c] 54)).drewN m) fun e w' => e = .returned (.int .u64 (dgt b32 x i : Nat)) ∧ w' = (w.alloc (.cells #[.slice A (ln b32 x) c] 54)).drewN m := fun i m hi =>
    (head1_any x i A c w.heap.size ((w.alloc (.cells #[.slice A (ln b32 x) c] 54)).drewN m) (Num32.below hx (belowN bl m)) bx (by omega) hi).mono fun _ _ ⟨a, b⟩ => ⟨a, b.symm⟩
  have q1 := fun m => hq (n - 1) m (by omega)
  have q2 := fun m => hq (n - 2) m (by omega)
  have q3 := fun m => hq (n - 3) m (by omega)
  rw [show ((n - 1 : Nat) : Int) = (n : Int) - 1 by omega] at q1
  rw [show ((n - 2 : Nat) : Int) = (n : Int) - 2 by omega] at q2
  rw [show ((n - 3 : Nat) : Int) = (n : Int) - 3 by omega] at q3
  have Q1 := Lib.hid q1
  have Q2 := Lib.hid q2
  have Q3 := Lib.hid q3
  clear q1 q2 q3 hq he hlow hxn hb
  go_enter Tryd.func84, Tryd.ntmps84
  go_wp2_with fail
  go_quiet ((go_at_call 93; first | (with_reducible exact Calls.quiet_of_same (Q1.out _)) | (with_reducible exact Calls.quiet_of_same (Q2.out _)) | (with_reducible exact Calls.quiet_of_same (Q3.out _))))
  clear Q1 Q2 Q3 bx
  go_wp2
  go_ret
  exact ⟨ret_int (by rw [head_val d1 d2 hlo.out (by rw [← HE.out]; exact hv), HE.out]), belowN bl nq⟩
end Go.Proofs.YtafglggjncnkkaaDoor
