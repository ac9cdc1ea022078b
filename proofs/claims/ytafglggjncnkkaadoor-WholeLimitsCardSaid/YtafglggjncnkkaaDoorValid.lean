/-
  The walks of whole.Valid and whole.allValid.
-/
import Derived.Test.YtafglggjncnkkaaDoorNum
import Derived.OneCell
namespace Go.Proofs.YtafglggjncnkkaaDoor
open Go.RowKit

theorem ret_bool {a b : Bool} (h : a = b) : Ending.returned (.bool a) = .returned (.bool b) := by rw [h]
/-- Is a number of n limbs valid? -/
def okW (s : Bool) (n : Nat) (f : Nat → Nat) : Bool := if n = 0 then !s else decide (n ≤ 1024) && (f (n - 1) != 0)
def okAll (ok : Nat → Bool) : Nat → Bool
  | 0 => true
  | k + 1 => okAll ok k && ok k
theorem okAll_false {ok : Nat → Bool} {k n : Nat} (h : k < n) (hk : ok k = false) : okAll ok n = false := by
  induction n with
  | zero => omega
  | succ n ih =>
    simp only [okAll]
    by_cases e : k = n
    · subst e; rw [hk, Bool.and_false]
    · rw [ih (by omega), Bool.false_and]
/-- The sign and the limbs of a number. -/
theorem okW_num {z : Int} (h : ln b16 z.natAbs ≤ 1024) : okW (decide (z < 0)) (ln b16 z.natAbs) (dgt b16 z.natAbs) = true := by
  unfold okW
  by_cases h0 : ln b16 z.natAbs = 0
  · have := (ln_eq_zero b16_two).1 h0
    rw [if_pos h0]
    simp; omega
  · have hp : 0 < z.natAbs := (ln_pos b16_two).1 (by omega)
    have ht := dgt_top b16_two hp
    rw [if_neg h0]
    simp [h, ht]

set_option maxRecDepth 100000 in
theorem valid_any (s : Bool) (A : Option Addr) (n c : Nat) (f : Nat → Nat) (w : World) (h : Rd w.heap.size .u16 w A n f) (hf : ∀ i, i < n → f i < 65536) (hn : n ≤ 1000000) :
    Calls Tryd.prog 15 #[.agg #[.bool s, .slice A n c]] w fun e w' => e = .returned (.bool (okW s n f)) ∧ Below w.heap.size w w' := by
  go_enter Tryd.func15, Tryd.ntmps15
  by_cases h0 : n = 0
  · subst h0
    go_wp2_with fail
    go_ret
    exact ⟨by simp [okW], (Below.refl _ _).alloc (Nat.le_refl _) _⟩
  · obtain ⟨b, o, rfl, hb, hc⟩ := h (by omega)
    have c1 := hc (n - 1) (by omega)
    have f1 := hf (n - 1) (by omega)
    have hi1 : 0 ≤ (n : Int) - 1 := by omega
    have hi2 : (n : Int) - 1 < (n : Int) := by omega
    have hi3 : ((n : Int) - 1).toNat = n - 1 := by omega
    have t0 : ((n : Int) == 0) = false := by simp; omega
    have ho : okW s n f = (decide (n ≤ 1024) && (f (n - 1) != 0)) := by unfold okW; rw [if_neg h0]
    have HO := Lib.hid ho
    clear hc hf ho
    by_cases h1 : n ≤ 1024
    · have t1 : (n : Int) ≤ 1024 := by omega
      go_wp2_with fail
      go_ret
      refine ⟨?_, (Below.refl _ _).alloc (Nat.le_refl _) _⟩
      rw [HO.out]
      show Ending.returned (.bool (((f (n - 1) : Nat) : Int) != 0)) = _
      have e : (((f (n - 1) : Nat) : Int) != 0) = (f (n - 1) != 0) := by
        by_cases e : f (n - 1) = 0
        · rw [e]; rfl
        · rw [bne_iff_ne.2 e, bne_iff_ne.2 (by omega)]
      rw [e, decide_eq_true h1, Bool.true_and]
    · have t1 : decide ((n : Int) ≤ 1024) = false := decide_eq_false (by omega)
      go_wp2_with fail
      go_ret
      refine ⟨?_, (Below.refl _ _).alloc (Nat.le_refl _) _⟩
      rw [HO.out]
      simp [h1]

/-- n numbers in a row of memory (as a variadic call lays them). -/
def Nums (w : World) (p : Addr) (n : Nat) (s : Nat → Bool) (A : Nat → Option Addr) (m c : Nat → Nat) (f : Nat → Nat → Nat) : Prop :=
  ∀ i, i < n → w.cell? ⟨p.block, p.off + i * 2, none⟩ = some (.bool (s i)) ∧ w.cell? ⟨p.block, p.off + i * 2 + 1, none⟩ = some (.slice (A i) (m i) (c i)) ∧ Rd w.heap.size .u16 w (A i) (m i) (f i) ∧ (∀ j, j < m i → f i j < 65536) ∧ m i ≤ 1000000
theorem Nums.below {w w' : World} {p : Addr} {n : Nat} {s : Nat → Bool} {A : Nat → Option Addr} {m c : Nat → Nat} {f : Nat → Nat → Nat} (h : Nums w p n s A m c f) (hp : p.block < w.heap.size) (hb : Below w.heap.size w w') : Nums w' p n s A m c f := fun i hi =>
  have ⟨h1, h2, h3, h4⟩ := h i hi
  ⟨(hb.cell (p := ⟨p.block, p.off + i * 2, none⟩) hp).trans h1, (hb.cell (p := ⟨p.block, p.off + i * 2 + 1, none⟩) hp).trans h2, (h3.below hb).more hb.size, h4⟩

set_option maxRecDepth 100000 in
set_option maxHeartbeats 1000000 in
theorem allValid_any (b o n : Nat) (s : Nat → Bool) (A : Nat → Option Addr) (m c : Nat → Nat) (f : Nat → Nat → Nat) (w : World) (h : Nums w ⟨b, o, none⟩ n s A m c f) (hb : b < w.heap.size) (hn : n ≤ 1000) :
    Calls Tryd.prog 38 #[.slice (some ⟨b, o, none⟩) n n] w fun e w' => e = .returned (.bool (okAll (fun i => okW (s i) (m i) (f i)) n)) ∧ Below w.heap.size w w' := by
  go_enter Tryd.func38, Tryd.ntmps38
  go_wp2_with fail
  go_loopw [7] (fun i wr => ∃ k : Nat, k ≤ n ∧ i = .int .i64 (k : Int) ∧ okAll (fun i => okW (s i) (m i) (f i)) k = true ∧ Below w.heap.size w wr) (fun i _ => n - (intOf i).toNat)
  case atStart => exact ⟨0, Nat.zero_le _, rfl, rfl, Below.refl _ _⟩
  case round =>
    obtain ⟨k, hk, rfl, hok, hbel⟩ := hrel
    by_cases hlt : k < n
    · obtain ⟨c1, c2, hrd, hf, hm⟩ := h k hlt
      have d1 := (hbel.cell (p := ⟨b, o + k * 2, none⟩) hb).trans c1
      have d2 := (hbel.cell (p := ⟨b, o + k * 2 + 1, none⟩) hb).trans c2
      have hv := fun w' (hw' : Below w.heap.size w w') => valid_any (s k) (A k) (m k) (c k) (f k) w' ((hrd.below hw').more hw'.size) hf hm
      have HV := Lib.hid hv
      have HOK := Lib.hid hok
      clear hv c1 c2 hok h hf
      go_wp2_with fail
      refine (HV.out _ (hbel.alloc hbel.size _)).mono ?_
      rintro e w2 ⟨rfl, hb2⟩
      have hbel2 := (hbel.alloc hbel.size (.cells #[.bool (s k), .slice (A k) (m k) (c k)] 24)).trans (hb2.mono (by simp; have := hbel.size; omega))
      cases hok : okW (s k) (m k) (f k)
      · go_wp2_with fail
        go_ret
        exact ⟨ret_bool (okAll_false hlt hok).symm, hbel2⟩
      · go_wp2_with fail
        go_roundw
        case rel => exact ⟨k + 1, by omega, by go_num, by simp only [okAll]; rw [HOK.out, hok]; rfl, hbel2⟩
        case measure => simp [intOf]; omega
    · obtain rfl : k = n := by omega
      clear h
      go_wp2_with fail
      go_ret
      exact ⟨ret_bool hok.symm, hbel⟩
end Go.Proofs.YtafglggjncnkkaaDoor
