/-
  Several texts in one: The walk of whole.commonDivisor. The walks of whole.Add, Sub, Mul and Gcd.
-/
import Derived.Test.YtjgihmmeimfheaaGreatK10
import Derived.Test.YtjgihmmeimfheaaGreatK7
import Derived.Test.YtjgihmmeimfheaaGreatK4
import Derived.Test.YtjgihmmeimfheaaGreatK9
import Derived.Deep.RegionHeld3
import Derived.Deep.CutBlock
import Derived.Deep.DeepCutAuto
namespace Go.Proofs.YtjgihmmeimfheaaGreat
open Go.RowKit

/-- The number that a slice value of words stands for, read from memory. -/
def valOf (w : World) : Value → Nat
 | .slice (some p) n _ => vs b32 (fun i => match w.cell? ⟨p.block, p.off + i, none⟩ with | some (.int _ z) => z.toNat | _ => 0) n
 | _ => 0
theorem valOf_num {w : World} {A : Option Addr} {x c : Nat} (h : Num32 w A x) : valOf w (.slice A (ln b32 x) c) = x := by
 rcases Nat.eq_zero_or_pos (ln b32 x) with h0 | h0
 ·
  have hx : x = 0 := by
   rcases Nat.eq_zero_or_pos x with e | e
   · exact e
   · have := (ln_pos b32_two).2 e; omega
  subst hx
  cases A <;> simp [valOf, ln_zero, vs]
 ·
  obtain ⟨b, o, rfl, hb, hc⟩ := h h0
  have h1 : vs b32 (fun i => match w.cell? ⟨b, o + i, none⟩ with | some (.int _ z) => z.toNat | _ => 0) (ln b32 x) = vs b32 (dgt b32 x) (ln b32 x) := vs_congr fun i hi => by rw [hc i hi]; simp
  show vs b32 (fun i => match w.cell? ⟨b, o + i, none⟩ with | some (.int _ z) => z.toNat | _ => 0) (ln b32 x) = x
  rw [h1, vs_dgt_ln b32_two]

/-- The two slices a and b of the loop. -/
def Pair (w0 : World) (G : Nat) (x y : Value) (wr : World) (b' : Nat) : Prop :=
 ∃ A c B d a', x = .slice A (ln b32 a') c ∧ y = .slice B (ln b32 b') d ∧ Num32 wr A a' ∧ Num32 wr B b' ∧ b' ≤ a' ∧ Nat.gcd a' b' = G ∧ ln b32 a' ≤ 1000000 ∧ ln b32 a' ≤ c ∧ ln b32 b' ≤ d ∧ Below w0.heap.size w0 wr

theorem gcd_swap {a b G : Nat} (h : Nat.gcd a b = G) : Nat.gcd b a = G := by rw [Nat.gcd_comm]; exact h
theorem cmp_neg {a b : Nat} : cmpI a b < 0 ↔ a < b := by
 unfold cmpI; split <;> (try split) <;> omega
set_option maxRecDepth 100000 in
set_option maxHeartbeats 4000000 in
theorem commonDivisor_any (A B : Option Addr) (c d a b : Nat) (w : World) (ha : Num32 w A a) (hb : Num32 w B b) (hn : ln b32 a ≤ 1000000) (hm : ln b32 b ≤ 1000000) (hac : ln b32 a ≤ c) (hbd : ln b32 b ≤ d) :
  Calls Tryz.prog 146 #[.slice A (ln b32 a) c, .slice B (ln b32 b) d] w (W32 w (Nat.gcd a b)) := by
 obtain ⟨G, hG⟩ : ∃ G, Nat.gcd a b = G := ⟨_, rfl⟩
 rw [hG]
 have HG := Lib.hid hG
 clear hG
 go_enter Tryz.func146, Tryz.ntmps146
 go_wp2_with fail
 refine (compare_any A B c d a b w ha hb (by omega)).mono ?_
 rintro e w1 ⟨rfl, n, rfl⟩
 go_upto_if 15 with (fail)
 go_cut [0, 1] (fun x y wx => ∃ b', Pair w G x y wx b')
 case first =>
  by_cases hlt : a < b
  ·
   have h1 := cmp_neg.2 hlt
   go_wp2_with fail
   go_meet
   exact ⟨a, B, d, A, c, b, rfl, rfl, hb, ha, Nat.le_of_lt hlt, gcd_swap HG.out, hm, hbd, hac, belowN (Below.refl _ _) n⟩
  ·
   have h1 : ¬ cmpI a b < 0 := fun h => hlt (cmp_neg.1 h)
   go_wp2_with fail
   go_meet
   exact ⟨b, A, c, B, d, a, rfl, rfl, ha, hb, by omega, HG.out, hn, hac, hbd, belowN (Below.refl _ _) n⟩
 case rest =>
  obtain ⟨b0, hP⟩ := hcut
  go_wp2_with fail
  go_loopw [0, 1] (fun x y wr => ∃ b', Pair w G x y wr b') (fun _ y wr => valOf wr y)
  case atStart => exact ⟨b0, hP⟩
  case round =>
   obtain ⟨b', hP⟩ := hrel
   obtain ⟨A, c, B, d, a', rfl, rfl, ha, hb, hba, hg, hn, hc, hd, hbel⟩ := hP
   by_cases h3 : 3 ≤ ln b32 b'
   ·
    have t3 : (2 : Int) < (ln b32 b' : Int) := by omega
    go_wp2_with fail
    refine (simulate_any A B c d a' b' wr ha hb hba hn h3).mono ?_
    rintro e w2 ⟨ev, u0, u1, v0, v1, rfl, hst, hb2⟩
    have hbS : Below wr.heap.size wr (w2.alloc (.cells #[.int .u64 (u0 : Int), .int .u64 (u1 : Int), .int .u64 (v0 : Int), .int .u64 (v1 : Int), .bool ev] 167)) := hb2.alloc hb2.size _
    have hS : StepsAt (w2.alloc (.cells #[.int .u64 (u0 : Int), .int .u64 (u1 : Int), .int .u64 (v0 : Int), .int .u64 (v1 : Int), .bool ev] 167)) w2.heap.size ev u0 u1 v0 v1 := heap_alloc_new _ _
    have haS := Num32.below ha hbS
    have hbS' := Num32.below hb hbS
    have hbelS := hbel.trans (hbS.mono hbel.size)
    have hbm : ln b32 b' ≤ 1000000 := Nat.le_trans ((ln_le b32_two).2 (Nat.lt_of_le_of_lt hba (lt_pow_ln b32_two a'))) hn
    have hval := valOf_num (c := d) hb
    obtain ⟨s0, s1, s2, s3, s4⟩ := hS.cells
    have hSlt := hS.lt
    by_cases hv : v0 = 0
    ·
     subst hv
     have hb0 : 0 < b' := (ln_pos b32_two).1 (by omega)
     go_wp2_with fail
     refine (divide_any A B c d a' b' _ haS hbS' hb0 hn).mono ?_
     rintro e w3 ⟨Aq, cq, Ar, cr, rfl, hq1, hr1, hq, hr, hb3⟩
     have hmod := Nat.mod_lt a' hb0
     have hlr : ln b32 (a' % b') ≤ 1000000 := Nat.le_trans ((ln_le b32_two).2 (Nat.lt_trans hmod (lt_pow_ln b32_two b'))) hbm
     have hval2 := valOf_num (c := cr) hr
     go_wp2_with fail
     go_roundw
     case rel => exact ⟨a' % b', B, d, Ar, cr, b', rfl, rfl, Num32.below hbS' hb3, hr, Nat.le_of_lt hmod, by rw [Nat.gcd_comm, ← Nat.gcd_rec, Nat.gcd_comm]; exact hg, hbm, hd, hr1, hbelS.trans (hb3.mono hbelS.size)⟩
     case measure => rw [hval, hval2]; exact hmod
    ·
     have hv0 : ((v0 : Int) == 0) = false := by simpa using hv
     have hok := hst.resolve_left hv
     cases ev
     ·
      obtain ⟨k1, k2, k3, k4⟩ := steps_odd hok
      have la := hok.le0
      have lb := hok.le1
      simp only [Bool.false_eq_true, if_false] at la lb
      have D1 := Lib.hid fun (w' : World) (hw' : Below (w2.alloc (.cells #[.int .u64 (u0 : Int), .int .u64 (u1 : Int), .int .u64 (v0 : Int), .int .u64 (v1 : Int), .bool false] 167)).heap.size (w2.alloc (.cells #[.int .u64 (u0 : Int), .int .u64 (u1 : Int), .int .u64 (v0 : Int), .int .u64 (v1 : Int), .bool false] 167)) w') => difference_any B A d c v0 u0 b' a' w' (Num32.below hbS' hw') (Num32.below haS hw') hok.v0lt hok.u0lt la hbm hn
      have D2 := Lib.hid fun (w' : World) (hw' : Below (w2.alloc (.cells #[.int .u64 (u0 : Int), .int .u64 (u1 : Int), .int .u64 (v0 : Int), .int .u64 (v1 : Int), .bool false] 167)).heap.size (w2.alloc (.cells #[.int .u64 (u0 : Int), .int .u64 (u1 : Int), .int .u64 (v0 : Int), .int .u64 (v1 : Int), .bool false] 167)) w') => difference_any A B c d u1 v1 a' b' w' (Num32.below haS hw') (Num32.below hbS' hw') hok.u1lt hok.v1lt lb hn hbm
      have KS := Lib.hid fun (w' w'' : World) (h : Below (w2.alloc (.cells #[.int .u64 (u0 : Int), .int .u64 (u1 : Int), .int .u64 (v0 : Int), .int .u64 (v1 : Int), .bool false] 167)).heap.size (w2.alloc (.cells #[.int .u64 (u0 : Int), .int .u64 (u1 : Int), .int .u64 (v0 : Int), .int .u64 (v1 : Int), .bool false] 167)) w') (h2 : Below w'.heap.size w' w'') => (show w''.cell? ⟨w2.heap.size, 0, none⟩ = some (.int .u64 (u0 : Int)) ∧ w''.cell? ⟨w2.heap.size, 1, none⟩ = some (.int .u64 (u1 : Int)) ∧ w''.cell? ⟨w2.heap.size, 2, none⟩ = some (.int .u64 (v0 : Int)) ∧ w''.cell? ⟨w2.heap.size, 3, none⟩ = some (.int .u64 (v1 : Int)) ∧ Below (w2.alloc (.cells #[.int .u64 (u0 : Int), .int .u64 (u1 : Int), .int .u64 (v0 : Int), .int .u64 (v1 : Int), .bool false] 167)).heap.size (w2.alloc (.cells #[.int .u64 (u0 : Int), .int .u64 (u1 : Int), .int .u64 (v0 : Int), .int .u64 (v1 : Int), .bool false] 167)) w'' from
       have h3 := h.trans (h2.mono h.size)
       ⟨(h3.cell (p := ⟨w2.heap.size, 0, none⟩) hSlt).trans s0, (h3.cell (p := ⟨w2.heap.size, 1, none⟩) hSlt).trans s1, (h3.cell (p := ⟨w2.heap.size, 2, none⟩) hSlt).trans s2, (h3.cell (p := ⟨w2.heap.size, 3, none⟩) hSlt).trans s3, h3⟩)
      have hrefl := Below.refl (w2.alloc (.cells #[.int .u64 (u0 : Int), .int .u64 (u1 : Int), .int .u64 (v0 : Int), .int .u64 (v1 : Int), .bool false] 167)).heap.size (w2.alloc (.cells #[.int .u64 (u0 : Int), .int .u64 (u1 : Int), .int .u64 (v0 : Int), .int .u64 (v1 : Int), .bool false] 167))
      go_wp2_with fail
      go_region_held3? (fun w' => w'.cell? ⟨w2.heap.size, 0, none⟩ = some (.int .u64 (u0 : Int)) ∧ w'.cell? ⟨w2.heap.size, 1, none⟩ = some (.int .u64 (u1 : Int)) ∧ w'.cell? ⟨w2.heap.size, 2, none⟩ = some (.int .u64 (v0 : Int)) ∧ w'.cell? ⟨w2.heap.size, 3, none⟩ = some (.int .u64 (v1 : Int)) ∧ Below (w2.alloc (.cells #[.int .u64 (u0 : Int), .int .u64 (u1 : Int), .int .u64 (v0 : Int), .int .u64 (v1 : Int), .bool false] 167)).heap.size (w2.alloc (.cells #[.int .u64 (u0 : Int), .int .u64 (u1 : Int), .int .u64 (v0 : Int), .int .u64 (v1 : Int), .bool false] 167)) w') (first | exact ⟨s0, s1, s2, s3, hrefl.drew⟩ | with_reducible exact KS.out _ _ hrefl.drew hb1 | with_reducible exact KS.out _ _ hrefl.drew hb2 | exact KS.out _ _ (hrefl.drew.trans hb1) hb2 | exact KS.out _ _ (hrefl.drew.trans hb2) hb1)
       (first | (go_at_call_of 161 (Value.int .u64 (v0 : Int)); refine (D1.out _ (by first | exact hrefl.drew | exact (hrefl.drew.trans hb2))).mono ?_; rintro e w'' ⟨A1, c1, rfl, hc1, hn1, hb1⟩) | (go_at_call_of 161 (Value.int .u64 (u1 : Int)); refine (D2.out _ (by first | exact hrefl.drew | exact (hrefl.drew.trans hb1))).mono ?_; rintro e w'' ⟨A2, c2, rfl, hc2, hn2, hb2⟩))
      have hval2 := valOf_num (c := c2) hn2
      have hbl : Below wr.heap.size wr w'' := hbS.trans (((hrefl.drew.trans hb1).trans (hb2.mono (hrefl.drew.trans hb1).size)).mono hbS.size)
      have hl1 : ln b32 (v0 * b' - u0 * a') ≤ 1000000 := Nat.le_trans ((ln_le b32_two).2 (Nat.lt_of_le_of_lt k4 (lt_pow_ln b32_two b'))) hbm
      go_wp2
      go_roundw
      case rel => exact ⟨_, A1, c1, A2, c2, _, rfl, rfl, Num32.below hn1 hb2, hn2, Nat.le_of_lt k3, k1.trans hg, hl1, hc1, hc2, hbel.trans (hbl.mono hbel.size)⟩
      case measure => rw [hval, hval2]; exact k2
     ·
      obtain ⟨k1, k2, k3, k4⟩ := steps_even hok
      have la := hok.le0
      have lb := hok.le1
      simp only [if_true] at la lb
      have D1 := Lib.hid fun (w' : World) (hw' : Below (w2.alloc (.cells #[.int .u64 (u0 : Int), .int .u64 (u1 : Int), .int .u64 (v0 : Int), .int .u64 (v1 : Int), .bool true] 167)).heap.size (w2.alloc (.cells #[.int .u64 (u0 : Int), .int .u64 (u1 : Int), .int .u64 (v0 : Int), .int .u64 (v1 : Int), .bool true] 167)) w') => difference_any A B c d u0 v0 a' b' w' (Num32.below haS hw') (Num32.below hbS' hw') hok.u0lt hok.v0lt la hn hbm
      have D2 := Lib.hid fun (w' : World) (hw' : Below (w2.alloc (.cells #[.int .u64 (u0 : Int), .int .u64 (u1 : Int), .int .u64 (v0 : Int), .int .u64 (v1 : Int), .bool true] 167)).heap.size (w2.alloc (.cells #[.int .u64 (u0 : Int), .int .u64 (u1 : Int), .int .u64 (v0 : Int), .int .u64 (v1 : Int), .bool true] 167)) w') => difference_any B A d c v1 u1 b' a' w' (Num32.below hbS' hw') (Num32.below haS hw') hok.v1lt hok.u1lt lb hbm hn
      have KS := Lib.hid fun (w' w'' : World) (h : Below (w2.alloc (.cells #[.int .u64 (u0 : Int), .int .u64 (u1 : Int), .int .u64 (v0 : Int), .int .u64 (v1 : Int), .bool true] 167)).heap.size (w2.alloc (.cells #[.int .u64 (u0 : Int), .int .u64 (u1 : Int), .int .u64 (v0 : Int), .int .u64 (v1 : Int), .bool true] 167)) w') (h2 : Below w'.heap.size w' w'') => (show w''.cell? ⟨w2.heap.size, 0, none⟩ = some (.int .u64 (u0 : Int)) ∧ w''.cell? ⟨w2.heap.size, 1, none⟩ = some (.int .u64 (u1 : Int)) ∧ w''.cell? ⟨w2.heap.size, 2, none⟩ = some (.int .u64 (v0 : Int)) ∧ w''.cell? ⟨w2.heap.size, 3, none⟩ = some (.int .u64 (v1 : Int)) ∧ Below (w2.alloc (.cells #[.int .u64 (u0 : Int), .int .u64 (u1 : Int), .int .u64 (v0 : Int), .int .u64 (v1 : Int), .bool true] 167)).heap.size (w2.alloc (.cells #[.int .u64 (u0 : Int), .int .u64 (u1 : Int), .int .u64 (v0 : Int), .int .u64 (v1 : Int), .bool true] 167)) w'' from
       have h3 := h.trans (h2.mono h.size)
       ⟨(h3.cell (p := ⟨w2.heap.size, 0, none⟩) hSlt).trans s0, (h3.cell (p := ⟨w2.heap.size, 1, none⟩) hSlt).trans s1, (h3.cell (p := ⟨w2.heap.size, 2, none⟩) hSlt).trans s2, (h3.cell (p := ⟨w2.heap.size, 3, none⟩) hSlt).trans s3, h3⟩)
      have hrefl := Below.refl (w2.alloc (.cells #[.int .u64 (u0 : Int), .int .u64 (u1 : Int), .int .u64 (v0 : Int), .int .u64 (v1 : Int), .bool true] 167)).heap.size (w2.alloc (.cells #[.int .u64 (u0 : Int), .int .u64 (u1 : Int), .int .u64 (v0 : Int), .int .u64 (v1 : Int), .bool true] 167))
      go_wp2_with fail
      go_region_held3? (fun w' => w'.cell? ⟨w2.heap.size, 0, none⟩ = some (.int .u64 (u0 : Int)) ∧ w'.cell? ⟨w2.heap.size, 1, none⟩ = some (.int .u64 (u1 : Int)) ∧ w'.cell? ⟨w2.heap.size, 2, none⟩ = some (.int .u64 (v0 : Int)) ∧ w'.cell? ⟨w2.heap.size, 3, none⟩ = some (.int .u64 (v1 : Int)) ∧ Below (w2.alloc (.cells #[.int .u64 (u0 : Int), .int .u64 (u1 : Int), .int .u64 (v0 : Int), .int .u64 (v1 : Int), .bool true] 167)).heap.size (w2.alloc (.cells #[.int .u64 (u0 : Int), .int .u64 (u1 : Int), .int .u64 (v0 : Int), .int .u64 (v1 : Int), .bool true] 167)) w') (first | exact ⟨s0, s1, s2, s3, hrefl.drew⟩ | with_reducible exact KS.out _ _ hrefl.drew hb1 | with_reducible exact KS.out _ _ hrefl.drew hb2 | exact KS.out _ _ (hrefl.drew.trans hb1) hb2 | exact KS.out _ _ (hrefl.drew.trans hb2) hb1)
       (first | (go_at_call_of 161 (Value.int .u64 (u0 : Int)); refine (D1.out _ (by first | exact hrefl.drew | exact (hrefl.drew.trans hb2))).mono ?_; rintro e w'' ⟨A1, c1, rfl, hc1, hn1, hb1⟩) | (go_at_call_of 161 (Value.int .u64 (v1 : Int)); refine (D2.out _ (by first | exact hrefl.drew | exact (hrefl.drew.trans hb1))).mono ?_; rintro e w'' ⟨A2, c2, rfl, hc2, hn2, hb2⟩))
      have hval2 := valOf_num (c := c2) hn2
      have hbl : Below wr.heap.size wr w'' := hbS.trans (((hrefl.drew.trans hb1).trans (hb2.mono (hrefl.drew.trans hb1).size)).mono hbS.size)
      have hl1 : ln b32 (u0 * a' - v0 * b') ≤ 1000000 := Nat.le_trans ((ln_le b32_two).2 (Nat.lt_of_le_of_lt k4 (lt_pow_ln b32_two b'))) hbm
      go_wp2
      go_roundw
      case rel => exact ⟨_, A1, c1, A2, c2, _, rfl, rfl, Num32.below hn1 hb2, hn2, Nat.le_of_lt k3, k1.trans hg, hl1, hc1, hc2, hbel.trans (hbl.mono hbel.size)⟩
      case measure => rw [hval, hval2]; exact k2
   ·
    have t3 : ¬ ((2 : Int) < (ln b32 b' : Int)) := by omega
    by_cases hz : b' = 0
    ·
     subst hz
     rw [ln_zero] at *
     go_wp2_with fail
     go_ret
     rw [Nat.gcd_zero_right] at hg
     subst hg
     exact ⟨A, c, rfl, hc, ha, hbel⟩
    ·
     have hbl : ln b32 b' ≠ 0 := by have := (ln_pos b32_two).2 (show 0 < b' by omega); omega
     have hb0 : 0 < b' := by omega
     have tz : ((ln b32 b' : Int) == 0) = false := by simp; omega
     go_upto_if 71 with (fail)
     have hval := hz
     go_cut [0, 1] (fun x y wx => ∃ A c B d a'' b'', x = .slice A (ln b32 a'') c ∧ y = .slice B (ln b32 b'') d ∧ ln b32 a'' ≤ 2 ∧ ln b32 b'' ≤ 2 ∧ Num32 wx A a'' ∧ Num32 wx B b'' ∧ Nat.gcd a'' b'' = G ∧ Below w.heap.size w wx)
     case first =>
      by_cases ht : 3 ≤ ln b32 a'
      ·
       have t4 : (2 : Int) < (ln b32 a' : Int) := by omega
       go_wp2_with fail
       refine (divide_any A B c d a' b' _ ha hb hb0 hn).mono ?_
       rintro e w3 ⟨Aq, cq, Ar, cr, rfl, hq1, hr1, hq, hr, hb3⟩
       have hmod := Nat.mod_lt a' hb0
       have hlr : ln b32 (a' % b') ≤ 2 := Nat.le_trans ((ln_le b32_two).2 (Nat.lt_trans hmod (lt_pow_ln b32_two b'))) (by omega)
       go_wp2_with fail
       go_meet
       exact ⟨B, d, Ar, cr, b', a' % b', rfl, rfl, by omega, hlr, Num32.below hb hb3, hr, by rw [Nat.gcd_comm, ← Nat.gcd_rec, Nat.gcd_comm]; exact hg, hbel.trans (hb3.mono hbel.size)⟩
      ·
       have t4 : ¬ ((2 : Int) < (ln b32 a' : Int)) := by omega
       go_wp2_with fail
       go_meet
       exact ⟨A, c, B, d, a', b', rfl, rfl, by omega, by omega, ha, hb, hg, hbel⟩
     case rest =>
      obtain ⟨A, c, B, d, x, y, rfl, rfl, hx2, hy2, hnx, hny, hg, hbel⟩ := hcut
      have hx64 : x < 18446744073709551616 := Nat.lt_of_lt_of_le ((ln_le b32_two).1 hx2) (Nat.le_refl _)
      have hy64 : y < 18446744073709551616 := Nat.lt_of_lt_of_le ((ln_le b32_two).1 hy2) (Nat.le_refl _)
      go_wp2_with fail
      refine (long_any A c x _ hnx hx2).mono ?_
      rintro e w3 ⟨rfl, hb3⟩
      go_wp2_with fail
      refine (long_any B d y _ (Num32.below hny hb3) hy2).mono ?_
      rintro e w4 ⟨rfl, hb4⟩
      have hb34 := hbel.trans ((hb3.trans (hb4.mono hb3.size)).mono hbel.size)
      go_wp2_with fail
      go_loopw [10, 11] (fun p q wr => ∃ X Y : Nat, p = .int .u64 (X : Int) ∧ q = .int .u64 (Y : Int) ∧ X < 18446744073709551616 ∧ Y < 18446744073709551616 ∧ Nat.gcd X Y = G ∧ Below w.heap.size w wr) (fun _ q _ => (intOf q).toNat)
      case atStart => exact ⟨x, y, rfl, rfl, hx64, hy64, hg, hb34⟩
      case round =>
       obtain ⟨X, Y, rfl, rfl, hX, hY, hg, hbel⟩ := hrel
       by_cases hY0 : Y = 0
       ·
        subst hY0
        go_wp2_with fail
        refine (short_any X _ hX).mono ?_
        rintro e w5 ⟨A5, c5, rfl, hc5, hn5, hb5⟩
        rw [Nat.gcd_zero_right] at hg
        subst hg
        go_wp2_with fail
        go_ret
        exact ⟨A5, c5, rfl, hc5, hn5, hbel.trans (hb5.mono hbel.size)⟩
       ·
        have t5 : ((Y : Int) != 0) = true := by simp; omega
        have t6 : (Y : Int) ≠ 0 := by omega
        have hmod := Nat.mod_lt X (show 0 < Y by omega)
        go_wp2_with fail
        go_quiet (fail)
        go_wp2
        go_roundw
        case rel => exact ⟨Y, X % Y, rfl, rfl, hY, by omega, by rw [Nat.gcd_comm, ← Nat.gcd_rec, Nat.gcd_comm]; exact hg, belowN hbel nq⟩
        case measure => simp [intOf]; omega
end Go.Proofs.YtjgihmmeimfheaaGreat
namespace Go.Proofs.YtjgihmmeimfheaaGreat
open Go.RowKit

theorem allValid_two (g : Nat) (s t : Bool) (A B : Option Addr) (n m c d : Nat) (f h : Nat → Nat) (w : World)
  (hg : w.heap[g]? = some (.cells #[.bool s, .slice A n c, .bool t, .slice B m d] 27 (0, 0)))
  (hA : Rd w.heap.size .u16 w A n f) (hB : Rd w.heap.size .u16 w B m h) (hf : ∀ i, f i < 65536) (hh : ∀ i, h i < 65536) (hn : n ≤ 1000000) (hm : m ≤ 1000000) :
  Calls Tryz.prog 85 #[.slice (some ⟨g, 0, none⟩) 2 2] w fun e w' => e = .returned (.bool (okW s n f && okW t m h)) ∧ Below w.heap.size w w' := by
 refine (allValid_any g 0 2 (fun i => if i = 0 then s else t) (fun i => if i = 0 then A else B) (fun i => if i = 0 then n else m) (fun i => if i = 0 then c else d) (fun i => if i = 0 then f else h) w ?_ (heap_lt hg) (by omega)).mono ?_
 ·
  intro i hi
  match i, hi with
  | 0, _ => exact ⟨(cell_of_row w g 0 _ _ (0, 0) hg).trans rfl, (cell_of_row w g 1 _ _ (0, 0) hg).trans rfl, hA, fun j _ => hf j, hn⟩
  | 1, _ => exact ⟨(cell_of_row w g 2 _ _ (0, 0) hg).trans rfl, (cell_of_row w g 3 _ _ (0, 0) hg).trans rfl, hB, fun j _ => hh j, hm⟩
 ·
  rintro e w' ⟨rfl, hb⟩
  exact ⟨ret_bool (by simp [okAll]), hb⟩

/-- The boxes of the two arguments and the result's variable. -/
structure Two (w : World) (s t : Bool) (A B : Option Addr) (n m c d : Nat) (w' : World) : Prop where
 p0 : WholeAt w' w.heap.size s (.slice A n c)
 p1 : WholeAt w' (w.heap.size + 1) t (.slice B m d)
 r : WholeAt w' (w.heap.size + 1 + 1) false (.slice none 0 0)
 bel : Below w.heap.size w w'
theorem two_call (s t : Bool) (A B : Option Addr) (n m c d : Nat) (f h : Nat → Nat) (w : World)
  (hA : Rd w.heap.size .u16 w A n f) (hB : Rd w.heap.size .u16 w B m h) (hf : ∀ i, f i < 65536) (hh : ∀ i, h i < 65536) (hn : n ≤ 1000000) (hm : m ≤ 1000000) :
  Calls Tryz.prog 85 #[.slice (some ⟨w.heap.size + 1 + 1 + 1, 0, none⟩) 2 2]
   ((((w.alloc (.cells #[.bool s, .slice A n c] 27)).alloc (.cells #[.bool t, .slice B m d] 27)).alloc (.cells #[.bool false, .slice none 0 0] 27)).alloc (.cells #[.bool s, .slice A n c, .bool t, .slice B m d] 27))
   fun e w' => e = .returned (.bool (okW s n f && okW t m h)) ∧ Two w s t A B n m c d w' := by
 have b1 : Below w.heap.size w (w.alloc (.cells #[.bool s, .slice A n c] 27)) := (Below.refl _ w).alloc (Nat.le_refl _) _
 have b2 := b1.alloc (by simp) (.cells #[.bool t, .slice B m d] 27)
 have b3 := b2.alloc (by first | (simp; done) | (simp; omega)) (.cells #[.bool false, .slice none 0 0] 27)
 have b4 := b3.alloc (by first | (simp; done) | (simp; omega)) (.cells #[.bool s, .slice A n c, .bool t, .slice B m d] 27)
 have q0 := WholeAt.new w s (.slice A n c)
 have q1 := WholeAt.new (w.alloc (.cells #[.bool s, .slice A n c] 27)) t (.slice B m d)
 have q2 := WholeAt.new ((w.alloc (.cells #[.bool s, .slice A n c] 27)).alloc (.cells #[.bool t, .slice B m d] 27)) false (.slice none 0 0)
 have q3 := heap_alloc_new (((w.alloc (.cells #[.bool s, .slice A n c] 27)).alloc (.cells #[.bool t, .slice B m d] 27)).alloc (.cells #[.bool false, .slice none 0 0] 27)) (.cells #[.bool s, .slice A n c, .bool t, .slice B m d] 27)
 simp only [World.size_alloc] at q1 q2 q3
 refine (allValid_two (w.heap.size + 1 + 1 + 1) s t A B n m c d f h _ q3 ((hA.below b4).more b4.size) ((hB.below b4).more b4.size) hf hh hn hm).mono ?_
 rintro e w' ⟨rfl, hb⟩
 refine ⟨rfl, ?_, ?_, ?_, b4.trans (hb.mono b4.size)⟩
 ·
  refine WholeAt.below ?_ hb (by first | (simp; done) | (simp; omega))
  exact (Below.heap_alloc _ _ _ (by first | (simp; done) | (simp; omega))).trans ((Below.heap_alloc _ _ _ (by first | (simp; done) | (simp; omega))).trans ((Below.heap_alloc _ _ _ (by simp)).trans q0))
 ·
  refine WholeAt.below ?_ hb (by first | (simp; done) | (simp; omega))
  exact (Below.heap_alloc _ _ _ (by first | (simp; done) | (simp; omega))).trans ((Below.heap_alloc _ _ _ (by simp)).trans q1)
 ·
  refine WholeAt.below ?_ hb (by simp)
  exact (Below.heap_alloc _ _ _ (by simp)).trans q2

/-- The call returned zero values and ErrArg. -/
def ErrArgW (w : World) (e : Ending) (w' : World) : Prop := e = .returned (.tuple #[.agg #[.bool false, .slice none 0 0], .int .i64 2]) ∧ Below w.heap.size w w'

set_option maxRecDepth 100000 in
set_option maxHeartbeats 1000000 in
theorem add_bad (s t : Bool) (A B : Option Addr) (n m c d : Nat) (f h : Nat → Nat) (w : World)
  (hA : Rd w.heap.size .u16 w A n f) (hB : Rd w.heap.size .u16 w B m h) (hf : ∀ i, f i < 65536) (hh : ∀ i, h i < 65536) (hn : n ≤ 1000000) (hm : m ≤ 1000000)
  (hok : (okW s n f && okW t m h) = false) :
  Calls Tryz.prog 90 #[.agg #[.bool s, .slice A n c], .agg #[.bool t, .slice B m d]] w (ErrArgW w) := by
 go_enter Tryz.func90, Tryz.ntmps90
 go_wp2_with fail
 refine (two_call s t A B n m c d f h w hA hB hf hh hn hm).mono ?_
 rintro e w1 ⟨rfl, ht⟩
 rw [hok]
 obtain ⟨r0, r1⟩ := ht.r.cells
 have g0 := ht.r.frozen 0
 have g1 := ht.r.frozen 1
 obtain ⟨hW, hbW⟩ := store_whole ht.r ht.bel (by omega) false (.slice none 0 0)
 have HW := Lib.hid hW
 clear hW
 go_wp2_with fail
 have hW := HW.out
 clear HW ht r0 r1
 generalize ((w1.setCell ⟨w.heap.size + 1 + 1, 0, none⟩ (.bool false)).setCell ⟨w.heap.size + 1 + 1, 1, none⟩ (.slice none 0 0)) = WW at *
 obtain ⟨k0, k1⟩ := hW.cells
 refine bodyPost_ret (v := .tuple #[.agg #[.bool false, .slice none 0 0], .int .i64 2]) (by simp [results, Tryz.results90, go_sem, k0, k1]) rfl ?_
 exact ⟨rfl, hbW⟩

/-- The boxes of the two arguments. -/
structure TwoP (w : World) (s t : Bool) (A B : Option Addr) (n m c d : Nat) (w' : World) : Prop where
 p0 : WholeAt w' w.heap.size s (.slice A n c)
 p1 : WholeAt w' (w.heap.size + 1) t (.slice B m d)
 bel : Below w.heap.size w w'
theorem TwoP.below {w : World} {s t : Bool} {A B : Option Addr} {n m c d : Nat} {w' w'' : World} (h : TwoP w s t A B n m c d w') (h2 : Below w'.heap.size w' w'') : TwoP w s t A B n m c d w'' :=
 ⟨h.p0.below h2 h.p0.lt, h.p1.below h2 h.p1.lt, h.bel.trans (h2.mono h.bel.size)⟩
theorem TwoP.store {w : World} {s t : Bool} {A B : Option Addr} {n m c d : Nat} {w' : World} (h : TwoP w s t A B n m c d w') (s' : Bool) (v' : Value) :
  TwoP w s t A B n m c d ((w'.setCell ⟨w.heap.size + 1 + 1, 0, none⟩ (.bool s')).setCell ⟨w.heap.size + 1 + 1, 1, none⟩ v') :=
 have e0 : w.heap.size ≠ w.heap.size + 1 + 1 := by omega
 have e1 : w.heap.size + 1 ≠ w.heap.size + 1 + 1 := by omega
 have e2 : w.heap.size ≤ w.heap.size + 1 + 1 := by omega
 ⟨(Below.heap_setCell _ _ _ _ e0).trans ((Below.heap_setCell _ _ _ _ e0).trans h.p0), (Below.heap_setCell _ _ _ _ e1).trans ((Below.heap_setCell _ _ _ _ e1).trans h.p1),
  (h.bel.setCell (p := ⟨w.heap.size + 1 + 1, 0, none⟩) e2 _).setCell (p := ⟨w.heap.size + 1 + 1, 1, none⟩) e2 _⟩
theorem TwoP.s {w : World} {s t : Bool} {A B : Option Addr} {n m c d : Nat} {w' : World} (h : TwoP w s t A B n m c d w') :
  w'.cell? ⟨w.heap.size, 0, none⟩ = some (.bool s) ∧ w'.cell? ⟨w.heap.size, 1, none⟩ = some (.slice A n c) ∧ w'.cell? ⟨w.heap.size + 1, 0, none⟩ = some (.bool t) ∧ w'.cell? ⟨w.heap.size + 1, 1, none⟩ = some (.slice B m d) ∧ TwoP w s t A B n m c d w' := ⟨h.p0.cells.1, h.p0.cells.2, h.p1.cells.1, h.p1.cells.2, h⟩
theorem okW_two {a b : Int} (ha : ln b16 a.natAbs ≤ 1024) (hb : ln b16 b.natAbs ≤ 1024) : (okW (decide (a < 0)) (ln b16 a.natAbs) (dgt b16 a.natAbs) && okW (decide (b < 0)) (ln b16 b.natAbs) (dgt b16 b.natAbs)) = true := by
 rw [okW_num ha, okW_num hb]; rfl
theorem ln32_short {x : Nat} (h : ln b16 x ≤ 1024) : ln b32 x ≤ 512 := by rw [ln32_two]; omega

set_option maxRecDepth 100000 in
set_option maxHeartbeats 4000000 in
theorem add_any (a b : Int) (A B : Option Addr) (c d : Nat) (w : World) (hA : Num16 w A a.natAbs) (hB : Num16 w B b.natAbs) (ha : ln b16 a.natAbs ≤ 1024) (hb : ln b16 b.natAbs ≤ 1024) :
  Calls Tryz.prog 90 #[.agg #[.bool (decide (a < 0)), .slice A (ln b16 a.natAbs) c], .agg #[.bool (decide (b < 0)), .slice B (ln b16 b.natAbs) d]] w (RI w (a + b)) := by
 have htwo := two_call (decide (a < 0)) (decide (b < 0)) A B (ln b16 a.natAbs) (ln b16 b.natAbs) c d _ _ w hA hB (fun i => dgt16_lt _ i) (fun i => dgt16_lt _ i) (by omega) (by omega)
 rw [okW_two ha hb] at htwo
 have la := ln32_short ha
 have lb := ln32_short hb
 have hsum : toI (decide (a < 0)) a.natAbs + toI (decide (b < 0)) b.natAbs = a + b := by rw [toI_int, toI_int]
 have HSUM := Lib.hid hsum
 clear hsum
 obtain ⟨s, hs⟩ : ∃ s, s = decide (a < 0) := ⟨_, rfl⟩
 obtain ⟨t, ht⟩ : ∃ t, t = decide (b < 0) := ⟨_, rfl⟩
 rw [← hs, ← ht] at htwo HSUM ⊢
 clear hs ht
 go_enter Tryz.func90, Tryz.ntmps90
 go_wp2_with fail
 refine htwo.mono ?_
 rintro e w1 ⟨rfl, ht⟩
 have D1 := Lib.hid fun (w' : World) (hw' : Below w.heap.size w w') => pack_any A c a.natAbs w' (Num16.below hA hw') (by omega)
 have D2 := Lib.hid fun (w' : World) (hw' : Below w.heap.size w w') => pack_any B d b.natAbs w' (Num16.below hB hw') (by omega)
 have hT0 : TwoP w s t A B (ln b16 a.natAbs) (ln b16 b.natAbs) c d w1.drew := ⟨ht.p0, ht.p1, ht.bel.drew⟩
 have hR0 : WholeAt w1.drew (w.heap.size + 1 + 1) false (.slice none 0 0) := ht.r
 have HT := Lib.hid ht
 clear ht
 go_wp2_with fail
 go_region_held3 (fun w' => w'.cell? ⟨w.heap.size, 0, none⟩ = some (.bool s) ∧ w'.cell? ⟨w.heap.size, 1, none⟩ = some (.slice A (ln b16 a.natAbs) c) ∧ w'.cell? ⟨w.heap.size + 1, 0, none⟩ = some (.bool t) ∧ w'.cell? ⟨w.heap.size + 1, 1, none⟩ = some (.slice B (ln b16 b.natAbs) d) ∧ TwoP w s t A B (ln b16 a.natAbs) (ln b16 b.natAbs) c d w')
  (first | with_reducible exact hT4.s | with_reducible exact hT3.s | with_reducible exact hT2.s | with_reducible exact hT1.s | with_reducible exact hT0.s)
  (first
   | (go_at_call_of 87 (Value.slice A (ln b16 a.natAbs) c); refine (D1.out _ hT0.bel).mono ?_; rintro e w2 ⟨A1, c1, rfl, hc1, hn1, hb1⟩; have hT1 := hT0.below hb1)
   | (go_at_call_of 87 (Value.slice B (ln b16 b.natAbs) d); refine (D2.out _ hT1.bel).mono ?_; rintro e w3 ⟨A2, c2, rfl, hc2, hn2, hb2⟩; have hT2 := hT1.below hb2)
   | (go_at_call 124; refine (sum_any s t A1 A2 c1 c2 a.natAbs b.natAbs _ (Num32.below hn1 hb2) hn2 (by omega) (by omega)).mono ?_; rintro e w4 hri; obtain ⟨s', A', n', c', k, rfl, hv, hb3⟩ := hri.vals; have hT3 := hT2.below hb3; have hR1 := hR0.below hb1 hR0.lt; have hR2 := hR1.below hb2 hR1.lt; have hR3 := hR2.below hb3 hR2.lt; obtain ⟨r0, r1⟩ := hR3.cells; have g0 := hR3.frozen 0; have g1 := hR3.frozen 1; have hT4 := hT3.store s' (.slice A' n' c')))
 obtain ⟨hW, hbW⟩ := store_whole hR3 hT3.bel (show w.heap.size ≤ w.heap.size + 1 + 1 by omega) s' (.slice A' n' c')
 have hsz := hT2.bel.size
 have hv2 := (hv.store hR2.lt s' (.slice A' n' c')).lower hsz
 rw [HSUM.out] at hv2
 clear hv hT0 hT1 hT2 hT3 hT4 hR0 hR1 hR2 hR3 r0 r1 g0 g1 hri
 go_wp2
 generalize ((w4.setCell ⟨w.heap.size + 1 + 1, 0, none⟩ (.bool s')).setCell ⟨w.heap.size + 1 + 1, 1, none⟩ (.slice A' n' c')) = WW at *
 obtain ⟨k0, k1⟩ := hW.cells
 refine bodyPost_ret (v := .tuple #[.agg #[.bool s', .slice A' n' c'], .int .i64 k]) (by simp [results, Tryz.results90, go_sem, k0, k1]) rfl ?_
 exact hv2.ri hbW
end Go.Proofs.YtjgihmmeimfheaaGreat
