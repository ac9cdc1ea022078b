/-
  The walk of whole.times.
-/
import Derived.Test.YtafglggjncnkkaaDoorTrim
import Derived.Test.YtafglggjncnkkaaDoorMath1
namespace Go.Proofs.YtafglggjncnkkaaDoor
open Go.RowKit

/-- After the first i digits of a: the words are those of their product with b. -/
def MulSt (H a b m i : Nat) (wr : World) : Prop := ∃ f : Nat → Nat, Row wr H 57 .u32 m m f ∧ (∀ j, f j < 4294967296) ∧ vs b32 f m = vs b32 (dgt b32 a) i * b ∧ ∀ j, i + ln b32 b ≤ j → f j = 0
/-- Within digit i: k digits of b done, the carry c. -/
def MulIn (H a b m i k c : Nat) (wr : World) : Prop := ∃ f : Nat → Nat, Row wr H 57 .u32 m m f ∧ (∀ j, f j < 4294967296) ∧ vs b32 f m + b32 ^ (i + k) * c = vs b32 (dgt b32 a) i * b + b32 ^ i * (dgt b32 a i * vs b32 (dgt b32 b) k) ∧ c < 4294967296 ∧ ∀ j, i + ln b32 b ≤ j → f j = 0

theorem MulSt.inner {H a b m i : Nat} {wr : World} (h : MulSt H a b m i wr) : MulIn H a b m i 0 0 wr := by
  obtain ⟨f, h1, h2, h3, h4⟩ := h
  exact ⟨f, h1, h2, by simpa [vs] using h3, by decide, h4⟩
theorem MulIn.step {H a b m i k c : Nat} {wr : World} {f : Nat → Nat} (h1 : Row wr H 57 .u32 m m f) (h2 : ∀ j, f j < 4294967296)
    (h3 : vs b32 f m + b32 ^ (i + k) * c = vs b32 (dgt b32 a) i * b + b32 ^ i * (dgt b32 a i * vs b32 (dgt b32 b) k)) (h4 : c < 4294967296) (h5 : ∀ j, i + ln b32 b ≤ j → f j = 0)
    (hk : k < ln b32 b) (hm : i + ln b32 b < m) {u v : Int} (hu : u = ((dgt b32 a i : Nat) : Int) * (dgt b32 b k : Nat) + (f (i + k) : Nat) + (c : Nat)) (hv : v = u % 4294967296) :
    MulIn H a b m i (k + 1) ((u / 4294967296).toNat) (wr.setCell ⟨H, i + k, none⟩ (.int .u32 v)) := by
  have e : u = ((dgt b32 a i * dgt b32 b k + f (i + k) + c : Nat) : Int) := by rw [hu, Int.natCast_add, Int.natCast_add, Int.natCast_mul]
  have hp := mul_digit (dgt32_lt a i) (dgt32_lt b k)
  have hf := h2 (i + k)
  have ev : v = (((dgt b32 a i * dgt b32 b k + f (i + k) + c) % b32 : Nat) : Int) := by rw [hv, e]; rfl
  have et : (u / 4294967296).toNat = (dgt b32 a i * dgt b32 b k + f (i + k) + c) / b32 := by rw [e]; rfl
  rw [ev, et]
  refine ⟨fun j => if j = i + k then (dgt b32 a i * dgt b32 b k + f (i + k) + c) % b32 else f j, h1.set (by simp) fun j _ hj => by simp [hj], fun j => ?_, ?_, ?_, fun j hj => ?_⟩
  · by_cases hj : j = i + k
    · simp only [hj, if_true]; exact Nat.mod_lt _ (by decide)
    · simp only [hj, if_false]; exact h2 j
  · rw [vs_succ b32 (dgt b32 b) k]
    exact mul_step (by omega) (fun j _ hj => by simp [hj]) (by simp) h3
  · rw [Nat.div_lt_iff_lt_mul (by decide)]
    show _ < 4294967296 * 4294967296
    omega
  · simp only [show ¬ j = i + k by omega, if_false]; exact h5 j hj
theorem MulIn.done {H a b m i c : Nat} {wr : World} (h : MulIn H a b m i (ln b32 b) c wr) (hm : i + ln b32 b < m) : MulSt H a b m (i + 1) (wr.setCell ⟨H, i + ln b32 b, none⟩ (.int .u32 (c : Int))) := by
  obtain ⟨f, h1, h2, h3, h4, h5⟩ := h
  refine ⟨fun j => if j = i + ln b32 b then c else f j, h1.set (by simp) fun j _ hj => by simp [hj], fun j => ?_, ?_, fun j hj => ?_⟩
  · by_cases hj : j = i + ln b32 b
    · simp only [hj, if_true]; exact h4
    · simp only [hj, if_false]; exact h2 j
  · have hs := vs_set (B := b32) (f := f) (g := fun j => if j = i + ln b32 b then c else f j) hm fun j _ hj => by simp [hj]
    rw [vs_dgt_ln b32_two] at h3
    rw [h5 _ (Nat.le_refl _)] at hs
    simp only [if_true] at hs
    rw [vs_succ, Nat.add_mul, Nat.mul_assoc, ← h3]
    omega
  · simp only [show ¬ j = i + ln b32 b by omega, if_false]; exact h5 j (by omega)

set_option maxHeartbeats 1000000 in
theorem times_any (A B : Option Addr) (c d a b : Nat) (w : World) (ha : Num32 w A a) (hb : Num32 w B b) (hn : ln b32 a ≤ 1000000) (hm : ln b32 b ≤ 1000000) :
    Calls Tryd.prog 50 #[.slice A (ln b32 a) c, .slice B (ln b32 b) d] w (W32 w (a * b)) := by
  have hmk := mk32 (ln b32 a + ln b32 b) (ln b32 a + ln b32 b) (Nat.le_refl _) (by omega)
  rw [show ((ln b32 a + ln b32 b : Nat) : Int) = (ln b32 a : Int) + ln b32 b by omega] at hmk
  go_enter Tryd.func50, Tryd.ntmps50
  go_wp2
  clear hmk
  go_loopw [20] (fun i wr => ∃ k : Nat, k ≤ ln b32 a ∧ i = .int .i64 k ∧ MulSt w.heap.size a b (ln b32 a + ln b32 b) k wr ∧ Below w.heap.size w wr) (fun i _ => ln b32 a - (intOf i).toNat)
  case atStart => exact ⟨0, Nat.zero_le _, rfl, ⟨fun _ => 0, Row.made, fun _ => by show (0 : Nat) < 4294967296; decide, by rw [vs_zeros fun _ _ => rfl]; simp [vs], fun _ _ => rfl⟩, (Below.refl _ _).alloc (Nat.le_refl _) _⟩
  case round =>
    obtain ⟨i, hi, rfl, hst, hbel⟩ := hrel
    by_cases hlt : i < ln b32 a
    · obtain ⟨p, q, rfl, hp, hca⟩ := ha (by omega)
      have c0 := (hbel.cell (p := ⟨p, q + i, none⟩) hp).trans (hca i hlt)
      have hxi := dgt32_lt a i
      obtain ⟨wo, rfl⟩ : ∃ wo : World, wo = wr := ⟨_, rfl⟩
      go_wp2_with fail
      go_loopw [8, 27] (fun cy j wr => ∃ k y : Nat, k ≤ ln b32 b ∧ j = .int .i64 k ∧ cy = .int .u64 (y : Int) ∧ MulIn w.heap.size a b (ln b32 a + ln b32 b) i k y wr ∧ Below w.heap.size w wr) (fun _ j _ => ln b32 b - (intOf j).toNat)
      case atStart => exact ⟨0, 0, Nat.zero_le _, rfl, rfl, hst.inner, hbel⟩
      case round =>
        obtain ⟨k, y, hk, rfl, rfl, hin, hbel2⟩ := hrel
        by_cases hkt : k < ln b32 b
        · obtain ⟨p', q', rfl, hp', hcb⟩ := hb (by omega)
          have c1 := (hbel2.cell (p := ⟨p', q' + k, none⟩) hp').trans (hcb k hkt)
          obtain ⟨f, h1, h2, h3, h4, h5⟩ := hin
          have c2 := h1.cell (i := i + k) (by omega)
          have c3 := h1.frozen (i + k)
          have hyk := dgt32_lt b k
          have hf := h2 (i + k)
          have hmul := mul_digit hxi hyk
          have hmulI : ((dgt b32 a i : Nat) : Int) * (dgt b32 b k : Nat) ≤ 18446744065119617025 := by rw [← Int.natCast_mul]; omega
          have hmul0 : 0 ≤ ((dgt b32 a i : Nat) : Int) * (dgt b32 b k : Nat) := by rw [← Int.natCast_mul]; omega
          have H2 := Lib.hid h2
          have H3 := Lib.hid h3
          have H5 := Lib.hid h5
          clear hmul h2 h3 h5
          go_wp2_with fail
          go_roundw
          case rel =>
            exact ⟨k + 1, _, by omega, by go_num, int_toNat (Int.ediv_nonneg (by omega) (by decide)), MulIn.step h1 H2.out H3.out h4 H5.out hkt (by omega) rfl rfl, hbel2.setCell (Nat.le_refl _) _⟩
          case measure => simp [intOf]; omega
        · obtain rfl : k = ln b32 b := by omega
          obtain ⟨f, h1, h2, h3, h4, h5⟩ := hin
          have c2 := h1.cell (i := i + ln b32 b) (by omega)
          have c3 := h1.frozen (i + ln b32 b)
          have hdone := MulIn.done (H := w.heap.size) (a := a) (b := b) (m := ln b32 a + ln b32 b) (i := i) (c := y) (wr := wr) ⟨f, h1, h2, h3, h4, h5⟩ (by omega)
          have HD := Lib.hid hdone
          clear h2 h3 h5 hdone
          go_wp2_with fail
          go_roundw
          case rel => exact ⟨i + 1, by omega, by go_num, HD.out, hbel2.setCell (Nat.le_refl _) _⟩
          case measure => simp [intOf]; omega
    · obtain rfl : i = ln b32 a := by omega
      obtain ⟨f, h1, h2, h3, h4⟩ := hst
      have ht := trim_any (some ⟨w.heap.size, 0, none⟩) _ (ln b32 a + ln b32 b) _ wr (h1.rd (Nat.le_refl _) h1.lt) (fun i _ => h2 i) (Nat.le_refl _) (by omega)
      rw [h3, vs_dgt_ln b32_two] at ht
      have HT := Lib.hid ht
      clear ht h2 h3 h4
      go_wp2_with fail
      refine HT.out.mono ?_
      rintro e w3 ⟨rfl, rfl, hnum, hlc⟩
      go_wp2
      go_ret
      exact ⟨_, _, rfl, hlc, hnum, hbel⟩
end Go.Proofs.YtafglggjncnkkaaDoor
