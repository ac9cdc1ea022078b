/-
  The walks of slices.Equal (limbs) and whole.Same.
-/
import Derived.Test.YtafglggjncnkkaaDoorValid
import Derived.Test.YtafglggjncnkkaaDoorResult
import Derived.BigQuiet
namespace Go.Proofs.YtafglggjncnkkaaDoor
open Go.RowKit

/-- Are the first n limbs equal? -/
def eqU (f h : Nat → Nat) : Nat → Bool
  | 0 => true
  | n + 1 => eqU f h n && (f n == h n)
theorem eqU_false {f h : Nat → Nat} {k n : Nat} (hk : k < n) (he : f k ≠ h k) : eqU f h n = false := by
  induction n with
  | zero => omega
  | succ n ih =>
    simp only [eqU]
    by_cases e : k = n
    · subst e; rw [beq_false_of_ne he, Bool.and_false]
    · rw [ih (by omega), Bool.false_and]
theorem eqU_step {f h : Nat → Nat} {k : Nat} (hk : eqU f h k = true) (he : f k = h k) : eqU f h (k + 1) = true := by
  simp only [eqU]; rw [hk, he]; simp
def eqL (n m : Nat) (f h : Nat → Nat) : Bool := (n == m) && eqU f h n

set_option maxRecDepth 100000 in
set_option maxHeartbeats 1000000 in
theorem equal16_any (A B : Option Addr) (n m c d : Nat) (f h : Nat → Nat) (w : World) (hA : Rd w.heap.size .u16 w A n f) (hB : Rd w.heap.size .u16 w B m h)
    (hn : n ≤ 1000000) (hm : m ≤ 1000000) :
    Calls Tryd.prog 62 #[.slice A n c, .slice B m d] w fun e w' => e = .returned (.bool (eqL n m f h)) ∧ ∃ q, w' = w.drewN q := by
  go_enter Tryd.func62, Tryd.ntmps62
  by_cases hl : n = m
  · subst hl
    have t0 : ((n : Int) != (n : Int)) = false := by simp
    go_wp2_with fail
    go_loopw [13] (fun i wr => ∃ k : Nat, k ≤ n ∧ i = .int .i64 (k : Int) ∧ eqU f h k = true ∧ ∃ q, wr = w.drewN q) (fun i _ => n - (intOf i).toNat)
    case atStart => exact ⟨0, Nat.zero_le _, rfl, rfl, 0, rfl⟩
    case round =>
      obtain ⟨k, hk, rfl, hok, q, rfl⟩ := hrel
      have HOK := Lib.hid hok
      clear hok
      by_cases hlt : k < n
      · obtain ⟨pa, qa, rfl, hpa, hca⟩ := hA (by omega)
        obtain ⟨pb, qb, rfl, hpb, hcb⟩ := hB (by omega)
        have c1 := hca k hlt
        have c2 := hcb k hlt
        clear hca hcb
        by_cases he : f k = h k
        · have t1 : (((f k : Nat) : Int) != ((h k : Nat) : Int)) = false := by rw [he]; simp
          have HE := Lib.hid he
          clear he
          go_wp2_with fail
          go_quiet (fail)
          go_wp2
          go_roundw
          case rel => exact ⟨k + 1, by omega, by go_num, eqU_step HOK.out HE.out, q + nq, rfl⟩
          case measure => simp [intOf]; omega
        · have t1 : (((f k : Nat) : Int) != ((h k : Nat) : Int)) = true := bne_iff_ne.2 (by omega)
          have hfin : eqL n n f h = false := by unfold eqL; rw [eqU_false hlt he, Bool.and_false]
          have HF := Lib.hid hfin
          clear hfin he
          go_wp2_with fail
          go_quiet (fail)
          go_wp2
          go_ret
          exact ⟨ret_bool HF.out.symm, q + nq, World.drewN_drewN ..⟩
      · obtain rfl : k = n := by omega
        have hfin : eqL k k f h = true := by unfold eqL; rw [HOK.out]; simp
        have HF := Lib.hid hfin
        clear hfin
        go_wp2_with fail
        go_ret
        exact ⟨ret_bool HF.out.symm, q, rfl⟩
  · have t0 : ((n : Int) != (m : Int)) = true := bne_iff_ne.2 (by omega)
    have hfin : eqL n m f h = false := by unfold eqL; rw [beq_false_of_ne hl, Bool.false_and]
    have HF := Lib.hid hfin
    clear hfin
    go_wp2_with fail
    go_ret
    exact ⟨ret_bool HF.out.symm, 0, rfl⟩

/-- Are two numbers the same? -/
def sameW (s t : Bool) (n m : Nat) (f h : Nat → Nat) : Bool := (s == t) && eqL n m f h
set_option maxRecDepth 100000 in
set_option maxHeartbeats 1000000 in
theorem same_any (s t : Bool) (A B : Option Addr) (n m c d : Nat) (f h : Nat → Nat) (w : World) (hA : Rd w.heap.size .u16 w A n f) (hB : Rd w.heap.size .u16 w B m h) (hn : n ≤ 1000000) (hm : m ≤ 1000000) :
    Calls Tryd.prog 37 #[.agg #[.bool s, .slice A n c], .agg #[.bool t, .slice B m d]] w fun e w' => e = .returned (.bool (sameW s t n m f h)) ∧ Below w.heap.size w w' := by
  have b1 : Below w.heap.size w (w.alloc (.cells #[.bool s, .slice A n c] 24)) := (Below.refl _ w).alloc (Nat.le_refl _) _
  have b2 := b1.alloc b1.size (.cells #[.bool t, .slice B m d] 24)
  go_enter Tryd.func37, Tryd.ntmps37
  by_cases hst : s = t
  · subst hst
    have t0 : (s == s) = true := by simp
    go_wp2_with fail
    refine (equal16_any A B n m c d f h _ ((hA.below b2).more b2.size) ((hB.below b2).more b2.size) hn hm).mono ?_
    rintro e w3 ⟨rfl, q, rfl⟩
    go_wp2_with fail
    go_ret
    exact ⟨ret_bool (by simp [sameW]), belowN b2 q⟩
  · have t0 : (s == t) = false := by simp [hst]
    have hfin : sameW s t n m f h = false := by unfold sameW; rw [t0, Bool.false_and]
    have HF := Lib.hid hfin
    clear hfin
    go_wp2_with fail
    go_ret
    exact ⟨ret_bool HF.out.symm, b2⟩
end Go.Proofs.YtafglggjncnkkaaDoor
