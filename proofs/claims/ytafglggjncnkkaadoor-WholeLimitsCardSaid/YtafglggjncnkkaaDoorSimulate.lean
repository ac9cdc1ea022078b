/-
  The walk of whole.simulate.
-/
import Derived.Test.YtafglggjncnkkaaDoorHead
import Derived.Test.YtafglggjncnkkaaDoorMath4
import Derived.Test.YtafglggjncnkkaaDoorDivide
namespace Go.Proofs.YtafglggjncnkkaaDoor
open Go.RowKit

/-- The variable s: the steps so far. -/
def StepsAt (w : World) (g : Nat) (ev : Bool) (u0 u1 v0 v1 : Nat) : Prop :=
  w.heap[g]? = some (.cells #[.int .u64 (u0 : Int), .int .u64 (u1 : Int), .int .u64 (v0 : Int), .int .u64 (v1 : Int), .bool ev] 80 (0, 0))

theorem StepsAt.cells {w : World} {g : Nat} {ev : Bool} {u0 u1 v0 v1 : Nat} (h : StepsAt w g ev u0 u1 v0 v1) :
    w.cell? ⟨g, 0, none⟩ = some (.int .u64 (u0 : Int)) ∧ w.cell? ⟨g, 1, none⟩ = some (.int .u64 (u1 : Int)) ∧ w.cell? ⟨g, 2, none⟩ = some (.int .u64 (v0 : Int)) ∧ w.cell? ⟨g, 3, none⟩ = some (.int .u64 (v1 : Int)) ∧ w.cell? ⟨g, 4, none⟩ = some (.bool ev) := by
  refine ⟨?_, ?_, ?_, ?_, ?_⟩ <;> exact (cell_of_row w g _ _ _ (0, 0) h).trans rfl
theorem StepsAt.frozen {w : World} {g : Nat} {ev : Bool} {u0 u1 v0 v1 : Nat} (h : StepsAt w g ev u0 u1 v0 v1) (i : Nat) : w.frozen? ⟨g, i, none⟩ = false := by
  simp [World.frozen?, show w.heap[g]? = _ from h]
theorem StepsAt.lt {w : World} {g : Nat} {ev : Bool} {u0 u1 v0 v1 : Nat} (h : StepsAt w g ev u0 u1 v0 v1) : g < w.heap.size := heap_lt h
theorem StepsAt.far {w : World} {g : Nat} {ev : Bool} {u0 u1 v0 v1 : Nat} (h : StepsAt w g ev u0 u1 v0 v1) {p : Addr} (hp : g ≠ p.block) (u : Value) : StepsAt (w.setCell p u) g ev u0 u1 v0 v1 :=
  (Below.heap_setCell w p u g hp).trans h
theorem StepsAt.set {w : World} {g : Nat} {ev : Bool} {u0 u1 v0 v1 : Nat} (h : StepsAt w g ev u0 u1 v0 v1) (u0' u1' v0' v1' : Nat) (ev' : Bool) :
    StepsAt (((((w.setCell ⟨g, 0, none⟩ (.int .u64 (u0' : Int))).setCell ⟨g, 1, none⟩ (.int .u64 (u1' : Int))).setCell ⟨g, 2, none⟩ (.int .u64 (v0' : Int))).setCell ⟨g, 3, none⟩ (.int .u64 (v1' : Int))).setCell ⟨g, 4, none⟩ (.bool ev')) g ev' u0' u1' v0' v1' := by
  unfold StepsAt at h ⊢
  simp [World.setCell, Array.getElem?_modify, h]

def SimPost (a b : Nat) (w : World) (e : Ending) (w' : World) : Prop :=
  ∃ ev u0 u1 v0 v1, e = .returned (.agg #[.int .u64 ((u0 : Nat) : Int), .int .u64 ((u1 : Nat) : Int), .int .u64 ((v0 : Nat) : Int), .int .u64 ((v1 : Nat) : Int), .bool ev]) ∧ (v0 = 0 ∨ StepsOK a b ev u0 u1 v0 v1) ∧ Below w.heap.size w w'

set_option maxRecDepth 100000 in
set_option maxHeartbeats 2000000 in
theorem simulate_any (A B : Option Addr) (c d a b : Nat) (w : World) (ha : Num32 w A a) (hb : Num32 w B b) (hba : b ≤ a) (hn : ln b32 a ≤ 1000000) (h3 : 3 ≤ ln b32 b) :
    Calls Tryd.prog 64 #[.slice A (ln b32 a) c, .slice B (ln b32 b) d] w (SimPost a b w) := by
  have hlb : ln b32 b ≤ ln b32 a := (ln_le b32_two).2 (Nat.lt_of_le_of_lt hba (lt_pow_ln b32_two a))
  have ha0 : 0 < a := (ln_pos b32_two).1 (by omega)
  have htop := dgt_top b32_two ha0
  have htlt := dgt32_lt a (ln b32 a - 1)
  obtain ⟨s, hs⟩ : ∃ s, s = lz (dgt b32 a (ln b32 a - 1)) := ⟨_, rfl⟩
  obtain ⟨hs32, han, _, _⟩ := norm_div rfl ha0 hs
  have hbn : b * 2 ^ s < b32 ^ ln b32 a := Nat.lt_of_le_of_lt (Nat.mul_le_mul_right _ hba) han
  obtain ⟨pa, qa, rfl, hpa, hca⟩ := ha (by omega)
  have c1 := hca (ln b32 a - 1) (by omega)
  have HAN := Lib.hid han
  have HBN := Lib.hid hbn
  have HS := Lib.hid hs
  have hi1 : 0 ≤ (ln b32 a : Int) - 1 := by omega
  have hi2 : (ln b32 a : Int) - 1 < (ln b32 a : Int) := by omega
  have hi3 : ((ln b32 a : Int) - 1).toNat = ln b32 a - 1 := by omega
  clear han hbn hs hca
  go_enter Tryd.func64, Tryd.ntmps64
  go_wp2_with fail
  refine (lz_any (dgt b32 a (ln b32 a - 1)) _ (by omega) htlt).mono ?_
  rintro e w1 ⟨rfl, rfl⟩
  rw [← HS.out]
  go_wp2_with fail
  have bl0 : Below w.heap.size w (w.alloc (.cells #[.int .u64 0, .int .u64 0, .int .u64 0, .int .u64 0, .bool false] 80)) := (Below.refl _ w).alloc (Nat.le_refl _) _
  refine (head_any a (ln b32 a) s _ c _ (Num32.below ha bl0) (Nat.le_refl _) (by omega) hn hs32 HAN.out).mono ?_
  rintro e w1 ⟨rfl, hw1⟩
  go_wp2_with fail
  refine (head_any b (ln b32 a) s _ d _ (Num32.below (Num32.below hb bl0) hw1) hlb (by omega) hn hs32 HBN.out).mono ?_
  rintro e w2 ⟨rfl, hw2⟩
  go_wp2_with fail
  have hR : StepsAt (w.alloc (.cells #[.int .u64 0, .int .u64 0, .int .u64 0, .int .u64 0, .bool false] 80)) w.heap.size false 0 0 0 0 := heap_alloc_new _ _
  have hR2 : StepsAt w2 w.heap.size false 0 0 0 0 := (hw2.block _ (Nat.lt_of_lt_of_le hR.lt hw1.size)).trans ((hw1.block _ hR.lt).trans hR)
  have hbl2 : Below w.heap.size w w2 := (bl0.trans (hw1.mono (by simp))).trans (hw2.mono (by have := hw1.size; simp at this; omega))
  have hlt2 := hR2.lt
  have hal := hdv_lt (show 3 ≤ ln b32 a by omega) hs32 HAN.out
  have hle : hdv b (ln b32 a) s ≤ hdv a (ln b32 a) s := Nat.div_le_div_right hba
  have hKpos : 0 < b32 ^ (ln b32 a - 3) * 2 ^ (32 - s) := Nat.mul_pos (Nat.pow_pos (by decide)) (Nat.pow_pos (by decide))
  have hea : a = b32 ^ (ln b32 a - 3) * 2 ^ (32 - s) * hdv a (ln b32 a) s + a % (b32 ^ (ln b32 a - 3) * 2 ^ (32 - s)) := (Nat.div_add_mod _ _).symm
  have heb : b = b32 ^ (ln b32 a - 3) * 2 ^ (32 - s) * hdv b (ln b32 a) s + b % (b32 ^ (ln b32 a - 3) * 2 ^ (32 - s)) := (Nat.div_add_mod _ _).symm
  have hma := Nat.mod_lt a hKpos
  have hmb := Nat.mod_lt b hKpos
  have STEP := Lib.hid fun (ev : Bool) (u0 u1 u2 v0 v1 v2 x1 x2 : Nat) (h : Sim a b (hdv a (ln b32 a) s) (hdv b (ln b32 a) s) ev u0 u1 u2 v0 v1 v2 x1 x2) => sim_step hea heb hma hmb hal h
  clear hea heb hma hmb hKpos hR
  generalize hdv a (ln b32 a) s = al at *
  generalize hdv b (ln b32 a) s = be at *
  go_loopw [7, 8, 10, 11] (fun x1 x2 u2 v2 wr => ∃ ev U0 U1 U2 V0 V1 V2 X1 X2, x1 = .int .u64 ((X1 : Nat) : Int) ∧ x2 = .int .u64 ((X2 : Nat) : Int) ∧ u2 = .int .u64 ((U2 : Nat) : Int) ∧ v2 = .int .u64 ((V2 : Nat) : Int) ∧ Sim a b al be ev U0 U1 U2 V0 V1 V2 X1 X2 ∧
      StepsAt wr w2.heap.size ev U0 U1 V0 V1 ∧ StepsAt wr w.heap.size false 0 0 0 0 ∧ Below w.heap.size w wr) (fun _ x2 _ _ _ => (intOf x2).toNat)
  case atStart => exact ⟨false, 0, 1, 0, 0, 0, 1, _, _, rfl, rfl, rfl, rfl, sim_start hle, heap_alloc_new _ _, (Below.heap_alloc _ _ _ hlt2).trans hR2, hbl2.alloc hbl2.size _⟩
  case round =>
    obtain ⟨ev, U0, U1, U2, V0, V1, V2, X1, X2, rfl, rfl, rfl, rfl, hsim, hS, hR, hbel⟩ := hrel
    obtain ⟨s0, s1, s2, s3, s4⟩ := hS.cells
    have f0 := hS.frozen 0
    have f1 := hS.frozen 1
    have f2 := hS.frozen 2
    have f3 := hS.frozen 3
    have f4 := hS.frozen 4
    have hSlt := hS.lt
    have hle12 := hsim.le
    have hv2p := hsim.v2pos
    have HSIM := Lib.hid hsim
    have hx1lt : X1 < 18446744073709551616 := by
      have h1 := hsim.sum
      have h2 : X1 ≤ V2 * X1 := Nat.le_mul_of_pos_left _ hv2p
      omega
    have hr0 := hR.cells
    have hg0 := hR.frozen 0
    have hg1 := hR.frozen 1
    have hg2 := hR.frozen 2
    have hg3 := hR.frozen 3
    have hg4 := hR.frozen 4
    obtain ⟨r0, r1, r2, r3, r4⟩ := hr0
    by_cases t1 : V2 ≤ X2
    · obtain ⟨fa, fb, fc⟩ := sim_fits hsim hal (show 1 ≤ X2 by omega)
      have hx0 : ((X2 : Nat) : Int) ≠ 0 := by omega
      by_cases t2 : V1 + V2 ≤ X1 - X2
      · obtain ⟨Q, hQ⟩ : ∃ Q, Q = X1 / X2 := ⟨_, rfl⟩
        obtain ⟨R, hR'⟩ : ∃ R, R = X1 % X2 := ⟨_, rfl⟩
        have h64 : X1 / X2 ≤ X1 := Nat.div_le_self _ _
        have hq64 : Q < 18446744073709551616 := by rw [hQ]; omega
        have hr64 : R < 18446744073709551616 := by have := Nat.mod_lt X1 (show 0 < X2 by omega); omega
        rw [← hQ] at fb fc
        have q1 : (0 : Int) ≤ (Q : Int) * (V2 : Int) := by rw [← Int.natCast_mul]; omega
        have q2 : (0 : Int) ≤ (Q : Int) * (U2 : Int) := by rw [← Int.natCast_mul]; omega
        have q3 : (V1 : Int) + (Q : Int) * (V2 : Int) < 18446744073709551616 := by rw [← Int.natCast_mul]; omega
        have q4 : (U1 : Int) + (Q : Int) * (U2 : Int) < 18446744073709551616 := by rw [← Int.natCast_mul]; omega
        have T2 : (V1 : Int) + (V2 : Int) ≤ (X1 : Int) - (X2 : Int) := by omega
        have e1 : (X1 : Int) / (X2 : Int) = (Q : Int) := by rw [hQ]; rfl
        have e2 : (X1 : Int) % (X2 : Int) = (R : Int) := by rw [hR']; rfl
        have E1 := Lib.hid e1
        have E2 := Lib.hid e2
        have HQ := Lib.hid hQ
        have HR := Lib.hid hR'
        clear hsim e1 e2 hQ hR' fb fc t2 h64
        go_wp2_with fail
        go_quiet (fail)
        rw [E1.out, E2.out]
        go_wp2_with fail
        go_roundw
        case rel =>
          have hst := STEP.out _ _ _ _ _ _ _ _ _ HSIM.out t1 (by omega)
          rw [← HQ.out, ← HR.out] at hst
          refine ⟨!ev, U1, U2, U1 + Q * U2, V1, V2, V1 + Q * V2, X2, R, rfl, rfl, rfl, rfl, hst, ?_, ?_, ?_⟩
          · exact hS.set U1 U2 V1 V2 (!ev)
          · have h1 := (((hR.far (p := ⟨w2.heap.size, 0, none⟩) (by simp; omega) (.int .u64 (U1 : Int))).far (p := ⟨w2.heap.size, 1, none⟩) (by simp; omega) (.int .u64 (U2 : Int))).far (p := ⟨w2.heap.size, 2, none⟩) (by simp; omega) (.int .u64 (V1 : Int))).far (p := ⟨w2.heap.size, 3, none⟩) (by simp; omega) (.int .u64 (V2 : Int))
            exact h1.far (p := ⟨w2.heap.size, 4, none⟩) (by simp; omega) _
          · have hb1 := ((((belowN hbel nq).setCell (p := ⟨w2.heap.size, 0, none⟩) (Nat.le_of_lt hlt2) (.int .u64 (U1 : Int))).setCell (p := ⟨w2.heap.size, 1, none⟩) (Nat.le_of_lt hlt2) (.int .u64 (U2 : Int))).setCell (p := ⟨w2.heap.size, 2, none⟩) (Nat.le_of_lt hlt2) (.int .u64 (V1 : Int))).setCell (p := ⟨w2.heap.size, 3, none⟩) (Nat.le_of_lt hlt2) (.int .u64 (V2 : Int))
            exact hb1.setCell (p := ⟨w2.heap.size, 4, none⟩) (Nat.le_of_lt hlt2) _
        case measure =>
          have hm := Nat.mod_lt X1 (show 0 < X2 by omega)
          rw [← HR.out] at hm
          simp [intOf]; omega
      · have T2 : decide ((X1 : Int) - (X2 : Int) ≥ (V1 : Int) + (V2 : Int)) = false := decide_eq_false (by omega)
        clear hsim t2
        go_wp2_with fail
        have hW := hR.set U0 U1 V0 V1 ev
        have hb1 := ((((hbel.setCell (p := ⟨w.heap.size, 0, none⟩) (Nat.le_refl _) (.int .u64 (U0 : Int))).setCell (p := ⟨w.heap.size, 1, none⟩) (Nat.le_refl _) (.int .u64 (U1 : Int))).setCell (p := ⟨w.heap.size, 2, none⟩) (Nat.le_refl _) (.int .u64 (V0 : Int))).setCell (p := ⟨w.heap.size, 3, none⟩) (Nat.le_refl _) (.int .u64 (V1 : Int))).setCell (p := ⟨w.heap.size, 4, none⟩) (Nat.le_refl _) (.bool ev)
        clear hR r0 r1 r2 r3 r4
        generalize (((((wr.setCell ⟨w.heap.size, 0, none⟩ (.int .u64 (U0 : Int))).setCell ⟨w.heap.size, 1, none⟩ (.int .u64 (U1 : Int))).setCell ⟨w.heap.size, 2, none⟩ (.int .u64 (V0 : Int))).setCell ⟨w.heap.size, 3, none⟩ (.int .u64 (V1 : Int))).setCell ⟨w.heap.size, 4, none⟩ (.bool ev)) = WW at *
        obtain ⟨k0, k1, k2, k3, k4⟩ := hW.cells
        refine bodyPost_ret (v := .agg #[.int .u64 (U0 : Int), .int .u64 (U1 : Int), .int .u64 (V0 : Int), .int .u64 (V1 : Int), .bool ev]) (by simp [results, Tryd.results64, go_sem, k0, k1, k2, k3, k4]) rfl ?_
        exact ⟨ev, U0, U1, V0, V1, rfl, HSIM.out.out, hb1⟩
    · have T1 : decide ((X2 : Int) ≥ (V2 : Int)) = false := decide_eq_false (by omega)
      clear hsim
      go_wp2_with fail
      have hW := hR.set U0 U1 V0 V1 ev
      have hb1 := ((((hbel.setCell (p := ⟨w.heap.size, 0, none⟩) (Nat.le_refl _) (.int .u64 (U0 : Int))).setCell (p := ⟨w.heap.size, 1, none⟩) (Nat.le_refl _) (.int .u64 (U1 : Int))).setCell (p := ⟨w.heap.size, 2, none⟩) (Nat.le_refl _) (.int .u64 (V0 : Int))).setCell (p := ⟨w.heap.size, 3, none⟩) (Nat.le_refl _) (.int .u64 (V1 : Int))).setCell (p := ⟨w.heap.size, 4, none⟩) (Nat.le_refl _) (.bool ev)
      clear hR r0 r1 r2 r3 r4
      generalize (((((wr.setCell ⟨w.heap.size, 0, none⟩ (.int .u64 (U0 : Int))).setCell ⟨w.heap.size, 1, none⟩ (.int .u64 (U1 : Int))).setCell ⟨w.heap.size, 2, none⟩ (.int .u64 (V0 : Int))).setCell ⟨w.heap.size, 3, none⟩ (.int .u64 (V1 : Int))).setCell ⟨w.heap.size, 4, none⟩ (.bool ev)) = WW at *
      obtain ⟨k0, k1, k2, k3, k4⟩ := hW.cells
      refine bodyPost_ret (v := .agg #[.int .u64 (U0 : Int), .int .u64 (U1 : Int), .int .u64 (V0 : Int), .int .u64 (V1 : Int), .bool ev]) (by simp [results, Tryd.results64, go_sem, k0, k1, k2, k3, k4]) rfl ?_
      exact ⟨ev, U0, U1, V0, V1, rfl, HSIM.out.out, hb1⟩
end Go.Proofs.YtafglggjncnkkaaDoor
