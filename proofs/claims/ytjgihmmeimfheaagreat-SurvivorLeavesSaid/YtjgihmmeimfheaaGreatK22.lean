/-
  Several texts in one: The walk of the reference's Common: the greatest common divisor of absolute values.
-/
import Derived.Test.YtjgihmmeimfheaaGreatK19
namespace Go.Proofs.YtjgihmmeimfheaaGreat
open Go.RowKit

theorem rdivided_any (A B : Option Addr) (c d x y : Nat) (w : World) (hA : Num16 w A x) (hB : Num16 w B y) (hy : 0 < y) (la : ln b16 x ≤ 900000) (lb : ln b16 y ≤ 900000) :
  Calls Tryz.prog 108 #[.slice A (ln b16 x) c, .slice B (ln b16 y) d] w (RDivW x y w) := by
 by_cases h : ln b16 y = 1
 · exact rdivided_one A B c d x y w hA hB h (by omega)
 · exact rdivided_many A B c d x y w hA hB h hy la lb
/-- The number that a slice value of limbs stands for, read from memory. -/
def valOf16 (w : World) : Value → Nat
 | .slice (some p) n _ => vs b16 (fun i => match w.cell? ⟨p.block, p.off + i, none⟩ with | some (.int _ z) => z.toNat | _ => 0) n
 | _ => 0
theorem valOf16_num {w : World} {A : Option Addr} {x c : Nat} (h : Num16 w A x) : valOf16 w (.slice A (ln b16 x) c) = x := by
 rcases Nat.eq_zero_or_pos (ln b16 x) with h0 | h0
 ·
  have hx : x = 0 := by
   rcases Nat.eq_zero_or_pos x with e | e
   · exact e
   · have := (ln_pos b16_two).2 e; omega
  subst hx
  cases A <;> simp [valOf16, ln_zero, vs]
 ·
  obtain ⟨b, o, rfl, hb, hc⟩ := h h0
  have h1 : vs b16 (fun i => match w.cell? ⟨b, o + i, none⟩ with | some (.int _ z) => z.toNat | _ => 0) (ln b16 x) = vs b16 (dgt b16 x) (ln b16 x) := vs_congr fun i hi => by rw [hc i hi]; simp
  show vs b16 (fun i => match w.cell? ⟨b, o + i, none⟩ with | some (.int _ z) => z.toNat | _ => 0) (ln b16 x) = x
  rw [h1, vs_dgt_ln b16_two]
/-- The two slices of the loop. -/
def ComSt (G : Nat) (w0 : World) (a b : Value) (wr : World) (y : Nat) : Prop :=
 ∃ A c B d x, a = .slice A (ln b16 x) c ∧ b = .slice B (ln b16 y) d ∧ Num16 wr A x ∧ Num16 wr B y ∧ Nat.gcd x y = G ∧ ln b16 x ≤ 900000 ∧ ln b16 y ≤ 900000 ∧ Below w0.heap.size w0 wr
set_option linter.unusedSimpArgs false in
set_option maxRecDepth 100000 in
set_option maxHeartbeats 4000000 in
theorem rcommon_any (A B : Option Addr) (c d x y : Nat) (w : World) (hA : Num16 w A x) (hB : Num16 w B y) (la : ln b16 x ≤ 900000) (lb : ln b16 y ≤ 900000) :
  Calls Tryz.prog 97 #[.slice A (ln b16 x) c, .slice B (ln b16 y) d] w fun e w' => ∃ A' c', e = .returned (.slice A' (ln b16 (Nat.gcd x y)) c') ∧ Num16 w' A' (Nat.gcd x y) ∧ Below w.heap.size w w' := by
 obtain ⟨G, hG⟩ : ∃ G, Nat.gcd x y = G := ⟨_, rfl⟩
 rw [hG]
 have HG := Lib.hid hG
 clear hG
 go_enter Tryz.func97, Tryz.ntmps97
 go_wp2_with fail
 go_loopw [0, 1] (fun a b wr => ∃ v, ComSt G w a b wr v) (fun _ b wr => valOf16 wr b)
 case atStart => exact ⟨y, A, c, B, d, x, rfl, rfl, hA, hB, HG.out, la, lb, Below.refl _ _⟩
 case round =>
  obtain ⟨y', A, c, B, d, x', rfl, rfl, hA, hB, hg, la, lb, hbel⟩ := hrel
  have hval := valOf16_num (c := d) hB
  by_cases h0 : 0 < y'
  ·
   have t1 : 0 < ln b16 y' := (ln_pos b16_two).2 h0
   have hlr : ln b16 (x' % y') ≤ 900000 := Nat.le_trans (ln_mono b16_two (Nat.le_of_lt (Nat.mod_lt _ h0))) lb
   have hmod := Nat.mod_lt x' h0
   have HV := Lib.hid hval
   have HG2 := Lib.hid hg
   clear hval hg
   go_wp2_with fail
   refine (rdivided_any A B c d x' y' wr hA hB h0 la lb).mono ?_
   rintro e w2 ⟨Q, cq, R, cr, rfl, -, hR, hb2⟩
   have hval2 := valOf16_num (c := cr) hR
   have HV2 := Lib.hid hval2
   clear hval2
   go_wp2_with fail
   go_roundw
   case rel => exact ⟨x' % y', B, d, R, cr, y', rfl, rfl, Num16.below hB hb2, hR, by rw [Nat.gcd_comm, ← Nat.gcd_rec, Nat.gcd_comm]; exact HG2.out, lb, hlr, hbel.trans (hb2.mono hbel.size)⟩
   case measure => rw [HV.out, HV2.out]; exact hmod
  ·
   obtain rfl : y' = 0 := by omega
   have hx' : x' = G := by rw [← hg, Nat.gcd_zero_right]
   have t1 : decide (0 < ln b16 0) = false := by rw [ln_zero]; rfl
   have HX := Lib.hid hx'
   clear hval hx' hg
   go_wp2_with fail
   go_ret
   exact ⟨A, c, by rw [HX.out]; rfl, by rw [← HX.out]; exact hA, hbel⟩
end Go.Proofs.YtjgihmmeimfheaaGreat
