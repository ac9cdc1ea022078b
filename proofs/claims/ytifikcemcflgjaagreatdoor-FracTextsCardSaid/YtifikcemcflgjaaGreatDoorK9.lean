/-
  Several texts in one: The walks of the functions that frac.upwards returns: whether rounding goes up. The walks of frac.power and Pow. The walks of frac.Pow. The order of upwards; what frac.Round asks. The walks of the laws' helpers over fractions: quick, is, sum, product, less, over, equal. The laws' short and usable of layer 02. Lengths of sums and products; usable at one, two and three fractions. The order of fractions, in plain words. The value of a decimal numeral.
-/
import Derived.Test.YtifikcemcflgjaaGreatDoorK8
import Derived.Lib.Zigzag
import Derived.Deep.CutRange
import Derived.Test.YtifikcemcflgjaaGreatDoorK1
import Derived.Lib.ItoaNum
namespace Go.Proofs.YtifikcemcflgjaaGreatDoor
open Go.RowKit

/-- Whether rounding goes up: the value is negative, k is odd, the side of the middle. -/
def upB (m : Nat) (ng od : Bool) (h : Int) : Bool :=
  if m = 1 then ng else if m = 2 then !ng else if m = 3 then false else if m = 4 then true else if m = 5 then decide (0 < h) || (decide (h = 0) && !ng) else decide (0 < h) || (decide (h = 0) && od)
set_option linter.unusedSimpArgs false in
set_option maxRecDepth 100000 in
theorem up1_v (ng od : Bool) (h : Int) (w : World) :
    Calls Tryz.prog 99 #[.agg #[.bool ng, .bool od, .int .i64 h]] w fun e w' => e = .returned (.bool (upB 1 ng od h)) ∧ Below w.heap.size w w' := by
  have hE := (Env.start w).blk 76 #[.bool ng, .bool od, .int .i64 h] (g := w.heap.size) rfl
  obtain ⟨W0, hW0⟩ : ∃ W0, W0 = (w.alloc (.cells #[.bool ng, .bool od, .int .i64 h] 76)) := ⟨_, rfl⟩
  rw [← hW0] at hE
  have HW0 := Lib.hid hW0
  clear hW0
  go_enter Tryz.func99, Tryz.ntmps99
  go_upto_region 1 with (fail)
  rw [← HW0.out]
  obtain ⟨k1, k2, k3⟩ := (hE.here.2).c3
  go_wp2_with fail
  go_ret
  exact ⟨(by first | rfl | (unfold upB; simp [*])), hE.bel⟩
set_option linter.unusedSimpArgs false in
set_option maxRecDepth 100000 in
theorem up2_v (ng od : Bool) (h : Int) (w : World) :
    Calls Tryz.prog 100 #[.agg #[.bool ng, .bool od, .int .i64 h]] w fun e w' => e = .returned (.bool (upB 2 ng od h)) ∧ Below w.heap.size w w' := by
  have hE := (Env.start w).blk 76 #[.bool ng, .bool od, .int .i64 h] (g := w.heap.size) rfl
  obtain ⟨W0, hW0⟩ : ∃ W0, W0 = (w.alloc (.cells #[.bool ng, .bool od, .int .i64 h] 76)) := ⟨_, rfl⟩
  rw [← hW0] at hE
  have HW0 := Lib.hid hW0
  clear hW0
  go_enter Tryz.func100, Tryz.ntmps100
  go_upto_region 1 with (fail)
  rw [← HW0.out]
  obtain ⟨k1, k2, k3⟩ := (hE.here.2).c3
  go_wp2_with fail
  go_ret
  exact ⟨(by first | rfl | (unfold upB; simp [*])), hE.bel⟩
set_option linter.unusedSimpArgs false in
set_option maxRecDepth 100000 in
theorem up3_v (ng od : Bool) (h : Int) (w : World) :
    Calls Tryz.prog 101 #[.agg #[.bool ng, .bool od, .int .i64 h]] w fun e w' => e = .returned (.bool (upB 3 ng od h)) ∧ Below w.heap.size w w' := by
  have hE := (Env.start w).blk 76 #[.bool ng, .bool od, .int .i64 h] (g := w.heap.size) rfl
  obtain ⟨W0, hW0⟩ : ∃ W0, W0 = (w.alloc (.cells #[.bool ng, .bool od, .int .i64 h] 76)) := ⟨_, rfl⟩
  rw [← hW0] at hE
  have HW0 := Lib.hid hW0
  clear hW0
  go_enter Tryz.func101, Tryz.ntmps101
  go_upto_region 1 with (fail)
  rw [← HW0.out]
  obtain ⟨k1, k2, k3⟩ := (hE.here.2).c3
  go_wp2_with fail
  go_ret
  exact ⟨(by first | rfl | (unfold upB; simp [*])), hE.bel⟩
set_option linter.unusedSimpArgs false in
set_option maxRecDepth 100000 in
theorem up4_v (ng od : Bool) (h : Int) (w : World) :
    Calls Tryz.prog 102 #[.agg #[.bool ng, .bool od, .int .i64 h]] w fun e w' => e = .returned (.bool (upB 4 ng od h)) ∧ Below w.heap.size w w' := by
  have hE := (Env.start w).blk 76 #[.bool ng, .bool od, .int .i64 h] (g := w.heap.size) rfl
  obtain ⟨W0, hW0⟩ : ∃ W0, W0 = (w.alloc (.cells #[.bool ng, .bool od, .int .i64 h] 76)) := ⟨_, rfl⟩
  rw [← hW0] at hE
  have HW0 := Lib.hid hW0
  clear hW0
  go_enter Tryz.func102, Tryz.ntmps102
  go_upto_region 1 with (fail)
  rw [← HW0.out]
  obtain ⟨k1, k2, k3⟩ := (hE.here.2).c3
  go_wp2_with fail
  go_ret
  exact ⟨(by first | rfl | (unfold upB; simp [*])), hE.bel⟩
set_option linter.unusedSimpArgs false in
set_option maxRecDepth 100000 in
theorem up5_v (ng od : Bool) (h : Int) (w : World) :
    Calls Tryz.prog 103 #[.agg #[.bool ng, .bool od, .int .i64 h]] w fun e w' => e = .returned (.bool (upB 5 ng od h)) ∧ Below w.heap.size w w' := by
  by_cases h1 : 0 < h
  · have t1 : decide (0 < h) = true := decide_eq_true h1
    have hE := (Env.start w).blk 76 #[.bool ng, .bool od, .int .i64 h] (g := w.heap.size) rfl
    obtain ⟨W0, hW0⟩ : ∃ W0, W0 = (w.alloc (.cells #[.bool ng, .bool od, .int .i64 h] 76)) := ⟨_, rfl⟩
    rw [← hW0] at hE
    have HW0 := Lib.hid hW0
    clear hW0
    go_enter Tryz.func103, Tryz.ntmps103
    go_upto_region 1 with (fail)
    rw [← HW0.out]
    obtain ⟨k1, k2, k3⟩ := (hE.here.2).c3
    go_wp2_with fail
    go_ret
    exact ⟨(by first | rfl | (unfold upB; simp [*])), hE.bel⟩
  · have t1 : decide (0 < h) = false := decide_eq_false h1
    by_cases h2 : h = 0
    · subst h2
      clear h1 t1
      cases ng
      · skip
        have hE := (Env.start w).blk 76 #[.bool false, .bool od, .int .i64 0] (g := w.heap.size) rfl
        obtain ⟨W0, hW0⟩ : ∃ W0, W0 = (w.alloc (.cells #[.bool false, .bool od, .int .i64 0] 76)) := ⟨_, rfl⟩
        rw [← hW0] at hE
        have HW0 := Lib.hid hW0
        clear hW0
        go_enter Tryz.func103, Tryz.ntmps103
        go_upto_region 1 with (fail)
        rw [← HW0.out]
        obtain ⟨k1, k2, k3⟩ := (hE.here.2).c3
        go_wp2_with fail
        go_ret
        exact ⟨(by first | rfl | (unfold upB; simp [*])), hE.bel⟩
      · skip
        have hE := (Env.start w).blk 76 #[.bool true, .bool od, .int .i64 0] (g := w.heap.size) rfl
        obtain ⟨W0, hW0⟩ : ∃ W0, W0 = (w.alloc (.cells #[.bool true, .bool od, .int .i64 0] 76)) := ⟨_, rfl⟩
        rw [← hW0] at hE
        have HW0 := Lib.hid hW0
        clear hW0
        go_enter Tryz.func103, Tryz.ntmps103
        go_upto_region 1 with (fail)
        rw [← HW0.out]
        obtain ⟨k1, k2, k3⟩ := (hE.here.2).c3
        go_wp2_with fail
        go_ret
        exact ⟨(by first | rfl | (unfold upB; simp [*])), hE.bel⟩
    · have t2 : (h == 0) = false := beq_eq_false_iff_ne.2 h2
      have hE := (Env.start w).blk 76 #[.bool ng, .bool od, .int .i64 h] (g := w.heap.size) rfl
      obtain ⟨W0, hW0⟩ : ∃ W0, W0 = (w.alloc (.cells #[.bool ng, .bool od, .int .i64 h] 76)) := ⟨_, rfl⟩
      rw [← hW0] at hE
      have HW0 := Lib.hid hW0
      clear hW0
      go_enter Tryz.func103, Tryz.ntmps103
      go_upto_region 1 with (fail)
      rw [← HW0.out]
      obtain ⟨k1, k2, k3⟩ := (hE.here.2).c3
      go_wp2_with fail
      go_ret
      exact ⟨(by first | rfl | (unfold upB; simp [*])), hE.bel⟩
set_option linter.unusedSimpArgs false in
set_option maxRecDepth 100000 in
theorem up6_v (ng od : Bool) (h : Int) (w : World) :
    Calls Tryz.prog 104 #[.agg #[.bool ng, .bool od, .int .i64 h]] w fun e w' => e = .returned (.bool (upB 6 ng od h)) ∧ Below w.heap.size w w' := by
  by_cases h1 : 0 < h
  · have t1 : decide (0 < h) = true := decide_eq_true h1
    have hE := (Env.start w).blk 76 #[.bool ng, .bool od, .int .i64 h] (g := w.heap.size) rfl
    obtain ⟨W0, hW0⟩ : ∃ W0, W0 = (w.alloc (.cells #[.bool ng, .bool od, .int .i64 h] 76)) := ⟨_, rfl⟩
    rw [← hW0] at hE
    have HW0 := Lib.hid hW0
    clear hW0
    go_enter Tryz.func104, Tryz.ntmps104
    go_upto_region 1 with (fail)
    rw [← HW0.out]
    obtain ⟨k1, k2, k3⟩ := (hE.here.2).c3
    go_wp2_with fail
    go_ret
    exact ⟨(by first | rfl | (unfold upB; simp [*])), hE.bel⟩
  · have t1 : decide (0 < h) = false := decide_eq_false h1
    by_cases h2 : h = 0
    · subst h2
      clear h1 t1
      cases od
      · skip
        have hE := (Env.start w).blk 76 #[.bool ng, .bool false, .int .i64 0] (g := w.heap.size) rfl
        obtain ⟨W0, hW0⟩ : ∃ W0, W0 = (w.alloc (.cells #[.bool ng, .bool false, .int .i64 0] 76)) := ⟨_, rfl⟩
        rw [← hW0] at hE
        have HW0 := Lib.hid hW0
        clear hW0
        go_enter Tryz.func104, Tryz.ntmps104
        go_upto_region 1 with (fail)
        rw [← HW0.out]
        obtain ⟨k1, k2, k3⟩ := (hE.here.2).c3
        go_wp2_with fail
        go_ret
        exact ⟨(by first | rfl | (unfold upB; simp [*])), hE.bel⟩
      · skip
        have hE := (Env.start w).blk 76 #[.bool ng, .bool true, .int .i64 0] (g := w.heap.size) rfl
        obtain ⟨W0, hW0⟩ : ∃ W0, W0 = (w.alloc (.cells #[.bool ng, .bool true, .int .i64 0] 76)) := ⟨_, rfl⟩
        rw [← hW0] at hE
        have HW0 := Lib.hid hW0
        clear hW0
        go_enter Tryz.func104, Tryz.ntmps104
        go_upto_region 1 with (fail)
        rw [← HW0.out]
        obtain ⟨k1, k2, k3⟩ := (hE.here.2).c3
        go_wp2_with fail
        go_ret
        exact ⟨(by first | rfl | (unfold upB; simp [*])), hE.bel⟩
    · have t2 : (h == 0) = false := beq_eq_false_iff_ne.2 h2
      have hE := (Env.start w).blk 76 #[.bool ng, .bool od, .int .i64 h] (g := w.heap.size) rfl
      obtain ⟨W0, hW0⟩ : ∃ W0, W0 = (w.alloc (.cells #[.bool ng, .bool od, .int .i64 h] 76)) := ⟨_, rfl⟩
      rw [← hW0] at hE
      have HW0 := Lib.hid hW0
      clear hW0
      go_enter Tryz.func104, Tryz.ntmps104
      go_upto_region 1 with (fail)
      rw [← HW0.out]
      obtain ⟨k1, k2, k3⟩ := (hE.here.2).c3
      go_wp2_with fail
      go_ret
      exact ⟨(by first | rfl | (unfold upB; simp [*])), hE.bel⟩
end Go.Proofs.YtifikcemcflgjaaGreatDoor
namespace Go.Proofs.YtifikcemcflgjaaGreatDoor
open Go.RowKit

/-- The call returned the whole number z, and true. -/
def WT (z : Int) (w : World) (e : Ending) (w' : World) : Prop := ∃ s A n c, e = .returned (.tuple #[.agg #[.bool s, .slice A n c], .bool true]) ∧ WV w' z s A n ∧ Below w.heap.size w w'
theorem pow_le {a : Int} (h : a ≠ 0) {i j : Nat} (hij : i ≤ j) : ln b16 (a ^ i).natAbs ≤ ln b16 (a ^ j).natAbs := by
  refine ln_mono b16_two ?_
  rw [Int.natAbs_pow, Int.natAbs_pow]
  exact Nat.pow_le_pow_right (by omega) hij
theorem half_twice (n j : Nat) : n / 2 ^ j = 2 * (n / 2 ^ (j + 1)) + n / 2 ^ j % 2 := by
  rw [Nat.pow_succ, ← Nat.div_div_eq_div_mul]
  omega
theorem pow_step (a : Int) (n j : Nat) (h : n / 2 ^ j % 2 = 0) : a ^ (n / 2 ^ (j + 1)) * a ^ (n / 2 ^ (j + 1)) = a ^ (n / 2 ^ j) := by
  rw [← Int.pow_add]
  congr 1
  have := half_twice n j
  omega
theorem pow_step1 (a : Int) (n j : Nat) (h : n / 2 ^ j % 2 = 1) : a ^ (n / 2 ^ (j + 1)) * a ^ (n / 2 ^ (j + 1)) * a = a ^ (n / 2 ^ j) := by
  rw [← Int.pow_add, ← Int.pow_succ]
  congr 1
  have := half_twice n j
  omega
/-- A cell of a block. -/
def At (b o : Nat) (v : Value) (V : World) : Prop := b < V.heap.size ∧ V.cell? ⟨b, o, none⟩ = some v
theorem At.stable (b o : Nat) (v : Value) : Stable (At b o v) := fun _ _ hb h => ⟨Nat.lt_of_lt_of_le h.1 hb.size, (hb.cell (p := ⟨b, o, none⟩) h.1).trans h.2⟩
theorem Env.at_ {w W : World} {P : World → Prop} {b o : Nat} {v : Value} (h : Env w P W) (hb : b < W.heap.size) (hc : W.cell? ⟨b, o, none⟩ = some v) : Env w (fun V => P V ∧ At b o v V) W := h.and (At.stable b o v) ⟨hb, hc⟩
theorem limb_one {w : World} {z : Int} {s : Bool} {A : Option Addr} (h : WV w z s A 1) : ∃ b o, A = some ⟨b, o, none⟩ ∧ b < w.heap.size ∧ w.cell? ⟨b, o, none⟩ = some (.int .u16 ((z.natAbs : Nat) : Int)) := by
  obtain ⟨hs, hl, hr⟩ := h
  obtain ⟨b, o, e, hb, hc⟩ := hr (by omega)
  have c1 := hc 0 (by omega)
  have hv : dgt b16 z.natAbs 0 = z.natAbs := by
    have h := vs_dgt_ln b16_two (x := z.natAbs)
    rw [← hl, vs_succ, vs_zero] at h
    simpa using h
  rw [hv, Nat.add_zero] at c1
  exact ⟨b, o, e, hb, c1⟩
set_option linter.unusedSimpArgs false in
set_option maxRecDepth 100000 in
set_option maxHeartbeats 8000000 in
theorem fpower_big {a : Int} {sa : Bool} {Aa : Option Addr} {na ca : Nat} {w : World} (ha : WV w a sa Aa na) (n : Nat) (hn : n ≤ 18446744073709551615) (ha2 : 2 ≤ a.natAbs) (hl : ln b16 (a ^ n).natAbs ≤ 256) (la : na ≤ 256) :
    Calls Tryz.prog 47 #[.agg #[.bool sa, .slice Aa na ca], .int .u64 (n : Int)] w (WT (a ^ n) w) := by
  have ha0 : a ≠ 0 := by omega
  have hp : 0 < na := by rw [ha.len]; exact (ln_pos b16_two).2 (by omega)
  by_cases hna : na = 1
  · skip
    obtain rfl : na = 1 := hna
    obtain ⟨b, o, rfl, hbl, hcell⟩ := limb_one ha
    have t3 : (((a.natAbs : Nat) : Int) == 1) = false := beq_eq_false_iff_ne.2 (by omega)
    obtain ⟨d, hd⟩ : ∃ d, d = ((a.natAbs : Nat) : Int) := ⟨_, rfl⟩
    rw [← hd] at t3 hcell
    clear hd
    have hE := (((Env.start w).wv ha).at_ hbl hcell).blk 24 #[.bool sa, .slice (some ⟨b, o, none⟩) 1 ca] (g := w.heap.size) rfl
    have hE := hE.blk 24 #[.bool false, .slice none 0 0] (g := w.heap.size + 1) (by simp)
    obtain ⟨W0, hW0⟩ : ∃ W0, W0 = ((w.alloc (.cells #[.bool sa, .slice (some ⟨b, o, none⟩) 1 ca] 24)).alloc (.cells #[.bool false, .slice none 0 0] 24)) := ⟨_, rfl⟩
    rw [← hW0] at hE
    have HW0 := Lib.hid hW0
    clear hW0
    go_enter Tryz.func47, Tryz.ntmps47
    go_upto_region 1 with (fail)
    rw [← HW0.out]
    go_wp2_with fail
    have hc := fromInt_v 1 W0 (by decide) (by decide)
    refine hc.mono ?_
    clear hc
    rintro e w1 ⟨so, Ao, no, co, rfl, ho, hb⟩
    replace hE := hE.step hb
    clear hb
    replace hE := hE.wv ho
    clear ho
    go_upto_region 2 with (fail)
    obtain ⟨g2, hg2⟩ : ∃ g2, g2 = w1.heap.size := ⟨_, rfl⟩
    have hl2_2 : w.heap.size < g2 := by rw [hg2]; exact (hE.here.1.1.2).lt
    have hl2_3 : w.heap.size + 1 < g2 := by rw [hg2]; exact (hE.here.1.2).lt
    replace hE := hE.blk 24 #[.bool so, .slice Ao no co] (g := g2) hg2.symm
    generalize w1.alloc (.cells #[.bool so, .slice Ao no co] 24) = W2 at hE ⊢
    rw [← hg2]
    clear hg2
    obtain ⟨k3, k4⟩ := (hE.here.1.1.1.2).c2
    obtain ⟨k5, k6⟩ := (hE.here.2).c2
    have k7 := (hE.here.1.1.1.1.2).2
    go_upto_region 8 with (fail)
    clear k3 k4 k5 k6 k7
    obtain ⟨g8, hg8⟩ : ∃ g8, g8 = W2.heap.size := ⟨_, rfl⟩
    have hl8_2 : w.heap.size < g8 := by rw [hg8]; exact (hE.here.1.1.1.2).lt
    have hl8_3 : w.heap.size + 1 < g8 := by rw [hg8]; exact (hE.here.1.1.2).lt
    have hl8_5 : g2 < g8 := by rw [hg8]; exact (hE.here.2).lt
    replace hE := hE.blk 24 #[.bool so, .slice Ao no co] (g := g8) hg8.symm
    generalize W2.alloc (.cells #[.bool so, .slice Ao no co] 24) = W8 at hE ⊢
    rw [← hg8]
    clear hg8
    have hGl : w.heap.size + 1 < g8 := by omega
    go_wp2_with fail
    go_loopw [8] (fun x wr => ∃ i : Nat, ∃ sv Av nv cv, i ≤ 64 ∧ x = .int .i64 ((i : Int) - 1) ∧ Env w (fun V => (((((True ∧ WV V a sa (some ⟨b, o, none⟩) 1) ∧ Blk 24 (w.heap.size) #[.bool sa, .slice (some ⟨b, o, none⟩) 1 ca] V) ∧ Blk 24 (w.heap.size + 1) #[.bool false, .slice none 0 0] V) ∧ WV V (a ^ (n / 2 ^ i)) sv Av nv) ∧ Blk 24 (g8) #[.bool sv, .slice Av nv cv] V)) wr) (fun x _ => (intOf x + 1).toNat)
    case atStart =>
      have hv := hE.here.1.1.2
      rw [show (1 : Int) = a ^ (n / 2 ^ 64) by rw [Nat.div_eq_of_lt (by omega), Int.pow_zero]] at hv
      exact ⟨64, so, Ao, no, co, Nat.le_refl _, rfl, ((((Env.again hE.bel).wv (hE.here.1.1.1.1.1.1.2)).blkI (hE.here.1.1.1.1.2)).blkI (hE.here.1.1.1.2)).wv hv |>.blkI (hE.here.2)⟩
    case round =>
      clear hE
      obtain ⟨i, sv, Av, nv, cv, hi, rfl, hE⟩ := hrel
      by_cases h0 : i = 0
      · subst h0
        have u1 : decide ((0 : Int) ≤ ((0 : Nat) : Int) - 1) = false := decide_eq_false (by omega)
        rw [Nat.pow_zero, Nat.div_one] at hE
        obtain ⟨k9, k10⟩ := (hE.here.2).c2
        have hRl : w.heap.size ≤ w.heap.size + 1 := by omega
        obtain ⟨WW, hWW, hB, hV, hBel⟩ := ret_whole hE hE.here.1.1.2 hRl hE.here.1.2 cv
        obtain ⟨x0, x1⟩ := (hE.here.1.1.2).c2
        obtain ⟨fz0, fz1⟩ := hE.here.1.1.2.f2
        have HWW := Lib.hid hWW
        clear hWW
        go_wp2_with fail
        clear x0 x1
        rw [← HWW.out]
        obtain ⟨y0, y1⟩ := hB.c2
        refine bodyPost_ret (v := .tuple #[.agg #[.bool sv, .slice Av nv cv], .bool true]) (by simp [results, Tryz.results47, go_sem, y0, y1]) rfl ?_
        exact ⟨sv, Av, nv, cv, rfl, hV, hBel⟩
      · obtain ⟨j, rfl⟩ : ∃ j, i = j + 1 := ⟨i - 1, by omega⟩
        have e1 : ((j + 1 : Nat) : Int) - 1 = (j : Int) := by omega
        rw [e1]
        clear e1 h0
        have hx := hl
        have l1 : ln b16 (a ^ (n / 2 ^ (j + 1))).natAbs ≤ 256 := Nat.le_trans (pow_le ha0 (Nat.div_le_self _ _)) hl
        have lj : ln b16 (a ^ (n / 2 ^ j)).natAbs ≤ 256 := Nat.le_trans (pow_le ha0 (Nat.div_le_self _ _)) hl
        have l2 : ln b16 (a ^ (n / 2 ^ (j + 1)) * a ^ (n / 2 ^ (j + 1))).natAbs ≤ 256 := by rw [← Int.pow_add]; exact Nat.le_trans (pow_le ha0 (show _ ≤ n by have := half_twice n j; have := Nat.div_le_self n (2 ^ j); omega)) hl
        have lv : nv ≤ 256 := by rw [(hE.here.1.2).len]; exact l1
        obtain ⟨bit, hbit⟩ : ∃ b, b = n / 2 ^ j % 2 := ⟨_, rfl⟩
        have HB := Lib.hid hbit
        have HL := Lib.hid (And.intro l1 (And.intro l2 lj))
        clear hx hbit l1 l2 lj
        obtain ⟨k11, k12⟩ := (hE.here.1.1.1.2).c2
        obtain ⟨k13, k14⟩ := (hE.here.2).c2
        go_wp2_with fail
        have hc := ftimes_v (ca := cv) (cb := cv) hE.here.1.2 hE.here.1.2 (Nat.le_trans lv (by decide)) (Nat.le_trans lv (by decide)) (Nat.le_trans HL.out.2.1 (by decide))
        refine hc.mono ?_
        clear hc
        clear k11 k12 k13 k14
        rintro e w15 ⟨sq, Aq, nq, cq, rfl, hq, hb⟩
        replace hE := hE.step hb
        clear hb
        replace hE := hE.wv hq
        clear hq
        have hgl16 : w.heap.size ≤ g8 := by omega
        obtain ⟨x16_0, x16_1⟩ := (hE.here.1.2).c2
        obtain ⟨f16_0, f16_1⟩ := hE.here.1.2.f2
        replace hE := (((((((Env.again (bel2 hE.bel hgl16 (.bool sq) (.slice Aq nq cq))).wv ((hE.here.1.1.1.1.1.2).sep2 hE.here.1.2 rfl (.bool sq) (.slice Aq nq cq) rfl)).blkI ((hE.here.1.1.1.1.2).far2 (R := g8) (by omega) (.bool sq) (.slice Aq nq cq))).blkI ((hE.here.1.1.1.2).far2 (R := g8) (by omega) (.bool sq) (.slice Aq nq cq))).wv ((hE.here.1.1.2).sep2 hE.here.1.2 rfl (.bool sq) (.slice Aq nq cq) rfl)).blkI ((hE.here.1.2).s2 (.bool sq) (.slice Aq nq cq))).wv ((hE.here.2).sep2 hE.here.1.2 rfl (.bool sq) (.slice Aq nq cq) rfl))
        go_upto_region 12 with (fail)
        clear x16_0 x16_1 f16_0 f16_1 hgl16
        generalize ((w15.setCell ⟨g8, 0, none⟩ (.bool sq)).setCell ⟨g8, 1, none⟩ (.slice Aq nq cq)) = W16 at hE ⊢
        have hb2 : bit = 0 ∨ bit = 1 := by have := HB.out; omega
        have e9 : (n : Int) / 2 ^ j = ((n / 2 ^ j : Nat) : Int) := by simp
        have HE9 := Lib.hid e9
        clear e9
        rcases hb2 with rfl | rfl
        · have hb9 := HB.out
          have hd9 := Nat.div_le_self n (2 ^ j)
          have o3 : (bits .and .u64 ((n : Int) / 2 ^ j) 1 == 1) = false := by
            rw [HE9.out]
            generalize n / 2 ^ j = X at hb9 hd9 ⊢
            rw [Lib.u64_and1 _ (by omega) (by omega)]
            rw [beq_eq_false_iff_ne]; omega
          clear hd9
          clear hb9
          go_upto_region 14 with (fail)
          have hv := hE.here.2
          rw [pow_step a n j HB.out.symm] at hv
          have ll : nq ≤ 256 := by rw [hv.len]; exact HL.out.2.2
          have t8 : decide (256 < (nq : Int)) = false := decide_eq_false (by omega)
          have t9 : decide (256 < nq) = false := decide_eq_false (by omega)
          have HV := Lib.hid hv
          clear hv ll
          obtain ⟨k17, k18⟩ := (hE.here.1.2).c2
          go_wp2_with fail
          clear k17 k18
          go_roundw
          case rel => exact ⟨j, sq, Aq, nq, cq, by omega, by go_num, ((((Env.again hE.bel).wv (hE.here.1.1.1.1.1.2)).blkI (hE.here.1.1.1.1.2)).blkI (hE.here.1.1.1.2)).wv HV.out |>.blkI (hE.here.1.2)⟩
          case measure => (simp [intOf]) <;> omega
        · have hb9 := HB.out
          have hd9 := Nat.div_le_self n (2 ^ j)
          have o3 : (bits .and .u64 ((n : Int) / 2 ^ j) 1 == 1) = true := by
            rw [HE9.out]
            generalize n / 2 ^ j = X at hb9 hd9 ⊢
            rw [Lib.u64_and1 _ (by omega) (by omega)]
            rw [beq_iff_eq]; omega
          clear hd9
          clear hb9
          have lq : nq ≤ 256 := by rw [(hE.here.2).len]; exact HL.out.2.1
          obtain ⟨k19, k20⟩ := (hE.here.1.1.1.1.2).c2
          obtain ⟨k21, k22⟩ := (hE.here.1.2).c2
          go_wp2_with fail
          have hc := ftimes_v (ca := cq) (cb := ca) hE.here.2 hE.here.1.1.1.1.1.2 (Nat.le_trans lq (by decide)) (by omega) (by rw [pow_step1 a n j HB.out.symm]; exact Nat.le_trans HL.out.2.2 (by decide))
          refine hc.mono ?_
          clear hc
          clear k19 k20 k21 k22
          rintro e w23 ⟨sp, Ap, np, cp, rfl, hp, hb⟩
          replace hE := hE.step hb
          clear hb
          replace hE := hE.wv hp
          clear hp
          have hgl24 : w.heap.size ≤ g8 := by omega
          obtain ⟨x24_0, x24_1⟩ := (hE.here.1.1.2).c2
          obtain ⟨f24_0, f24_1⟩ := hE.here.1.1.2.f2
          replace hE := ((((((((Env.again (bel2 hE.bel hgl24 (.bool sp) (.slice Ap np cp))).wv ((hE.here.1.1.1.1.1.1.2).sep2 hE.here.1.1.2 rfl (.bool sp) (.slice Ap np cp) rfl)).blkI ((hE.here.1.1.1.1.1.2).far2 (R := g8) (by omega) (.bool sp) (.slice Ap np cp))).blkI ((hE.here.1.1.1.1.2).far2 (R := g8) (by omega) (.bool sp) (.slice Ap np cp))).wv ((hE.here.1.1.1.2).sep2 hE.here.1.1.2 rfl (.bool sp) (.slice Ap np cp) rfl)).blkI ((hE.here.1.1.2).s2 (.bool sp) (.slice Ap np cp))).wv ((hE.here.1.2).sep2 hE.here.1.1.2 rfl (.bool sp) (.slice Ap np cp) rfl)).wv ((hE.here.2).sep2 hE.here.1.1.2 rfl (.bool sp) (.slice Ap np cp) rfl))
          go_upto_region 14 with (fail)
          clear x24_0 x24_1 f24_0 f24_1 hgl24
          generalize ((w23.setCell ⟨g8, 0, none⟩ (.bool sp)).setCell ⟨g8, 1, none⟩ (.slice Ap np cp)) = W24 at hE ⊢
          have hv := hE.here.2
          rw [pow_step1 a n j HB.out.symm] at hv
          have ll : np ≤ 256 := by rw [hv.len]; exact HL.out.2.2
          have t8 : decide (256 < (np : Int)) = false := decide_eq_false (by omega)
          have t9 : decide (256 < np) = false := decide_eq_false (by omega)
          have HV := Lib.hid hv
          clear hv ll
          obtain ⟨k25, k26⟩ := (hE.here.1.1.2).c2
          go_wp2_with fail
          clear k25 k26
          go_roundw
          case rel => exact ⟨j, sp, Ap, np, cp, by omega, by go_num, ((((Env.again hE.bel).wv (hE.here.1.1.1.1.1.1.2)).blkI (hE.here.1.1.1.1.1.2)).blkI (hE.here.1.1.1.1.2)).wv HV.out |>.blkI (hE.here.1.1.2)⟩
          case measure => (simp [intOf]) <;> omega
  · skip
    have t1 : ((na : Int) == 0) = false := beq_eq_false_iff_ne.2 (by omega)
    have t2 : (na == 0) = false := beq_eq_false_iff_ne.2 (by omega)
    have t3 : ((na : Int) == 1) = false := beq_eq_false_iff_ne.2 (by omega)
    have t4 : (na == 1) = false := beq_eq_false_iff_ne.2 (by omega)
    have hE := ((Env.start w).wv ha).blk 24 #[.bool sa, .slice Aa na ca] (g := w.heap.size) rfl
    have hE := hE.blk 24 #[.bool false, .slice none 0 0] (g := w.heap.size + 1) (by simp)
    obtain ⟨W0, hW0⟩ : ∃ W0, W0 = ((w.alloc (.cells #[.bool sa, .slice Aa na ca] 24)).alloc (.cells #[.bool false, .slice none 0 0] 24)) := ⟨_, rfl⟩
    rw [← hW0] at hE
    have HW0 := Lib.hid hW0
    clear hW0
    go_enter Tryz.func47, Tryz.ntmps47
    go_upto_region 1 with (fail)
    rw [← HW0.out]
    go_wp2_with fail
    have hc := fromInt_v 1 W0 (by decide) (by decide)
    refine hc.mono ?_
    clear hc
    rintro e w1 ⟨so, Ao, no, co, rfl, ho, hb⟩
    replace hE := hE.step hb
    clear hb
    replace hE := hE.wv ho
    clear ho
    go_upto_region 2 with (fail)
    obtain ⟨g2, hg2⟩ : ∃ g2, g2 = w1.heap.size := ⟨_, rfl⟩
    have hl2_1 : w.heap.size < g2 := by rw [hg2]; exact (hE.here.1.1.2).lt
    have hl2_2 : w.heap.size + 1 < g2 := by rw [hg2]; exact (hE.here.1.2).lt
    replace hE := hE.blk 24 #[.bool so, .slice Ao no co] (g := g2) hg2.symm
    generalize w1.alloc (.cells #[.bool so, .slice Ao no co] 24) = W2 at hE ⊢
    rw [← hg2]
    clear hg2
    obtain ⟨k3, k4⟩ := (hE.here.1.1.1.2).c2
    obtain ⟨k5, k6⟩ := (hE.here.2).c2
    go_upto_region 8 with (fail)
    clear k3 k4 k5 k6
    obtain ⟨g7, hg7⟩ : ∃ g7, g7 = W2.heap.size := ⟨_, rfl⟩
    have hl7_1 : w.heap.size < g7 := by rw [hg7]; exact (hE.here.1.1.1.2).lt
    have hl7_2 : w.heap.size + 1 < g7 := by rw [hg7]; exact (hE.here.1.1.2).lt
    have hl7_4 : g2 < g7 := by rw [hg7]; exact (hE.here.2).lt
    replace hE := hE.blk 24 #[.bool so, .slice Ao no co] (g := g7) hg7.symm
    generalize W2.alloc (.cells #[.bool so, .slice Ao no co] 24) = W7 at hE ⊢
    rw [← hg7]
    clear hg7
    have hGl : w.heap.size + 1 < g7 := by omega
    go_wp2_with fail
    go_loopw [8] (fun x wr => ∃ i : Nat, ∃ sv Av nv cv, i ≤ 64 ∧ x = .int .i64 ((i : Int) - 1) ∧ Env w (fun V => (((((True ∧ WV V a sa Aa na) ∧ Blk 24 (w.heap.size) #[.bool sa, .slice Aa na ca] V) ∧ Blk 24 (w.heap.size + 1) #[.bool false, .slice none 0 0] V) ∧ WV V (a ^ (n / 2 ^ i)) sv Av nv) ∧ Blk 24 (g7) #[.bool sv, .slice Av nv cv] V)) wr) (fun x _ => (intOf x + 1).toNat)
    case atStart =>
      have hv := hE.here.1.1.2
      rw [show (1 : Int) = a ^ (n / 2 ^ 64) by rw [Nat.div_eq_of_lt (by omega), Int.pow_zero]] at hv
      exact ⟨64, so, Ao, no, co, Nat.le_refl _, rfl, ((((Env.again hE.bel).wv (hE.here.1.1.1.1.1.2)).blkI (hE.here.1.1.1.1.2)).blkI (hE.here.1.1.1.2)).wv hv |>.blkI (hE.here.2)⟩
    case round =>
      clear hE
      obtain ⟨i, sv, Av, nv, cv, hi, rfl, hE⟩ := hrel
      by_cases h0 : i = 0
      · subst h0
        have u1 : decide ((0 : Int) ≤ ((0 : Nat) : Int) - 1) = false := decide_eq_false (by omega)
        rw [Nat.pow_zero, Nat.div_one] at hE
        obtain ⟨k8, k9⟩ := (hE.here.2).c2
        have hRl : w.heap.size ≤ w.heap.size + 1 := by omega
        obtain ⟨WW, hWW, hB, hV, hBel⟩ := ret_whole hE hE.here.1.1.2 hRl hE.here.1.2 cv
        obtain ⟨x0, x1⟩ := (hE.here.1.1.2).c2
        obtain ⟨fz0, fz1⟩ := hE.here.1.1.2.f2
        have HWW := Lib.hid hWW
        clear hWW
        go_wp2_with fail
        clear x0 x1
        rw [← HWW.out]
        obtain ⟨y0, y1⟩ := hB.c2
        refine bodyPost_ret (v := .tuple #[.agg #[.bool sv, .slice Av nv cv], .bool true]) (by simp [results, Tryz.results47, go_sem, y0, y1]) rfl ?_
        exact ⟨sv, Av, nv, cv, rfl, hV, hBel⟩
      · obtain ⟨j, rfl⟩ : ∃ j, i = j + 1 := ⟨i - 1, by omega⟩
        have e1 : ((j + 1 : Nat) : Int) - 1 = (j : Int) := by omega
        rw [e1]
        clear e1 h0
        have hx := hl
        have l1 : ln b16 (a ^ (n / 2 ^ (j + 1))).natAbs ≤ 256 := Nat.le_trans (pow_le ha0 (Nat.div_le_self _ _)) hl
        have lj : ln b16 (a ^ (n / 2 ^ j)).natAbs ≤ 256 := Nat.le_trans (pow_le ha0 (Nat.div_le_self _ _)) hl
        have l2 : ln b16 (a ^ (n / 2 ^ (j + 1)) * a ^ (n / 2 ^ (j + 1))).natAbs ≤ 256 := by rw [← Int.pow_add]; exact Nat.le_trans (pow_le ha0 (show _ ≤ n by have := half_twice n j; have := Nat.div_le_self n (2 ^ j); omega)) hl
        have lv : nv ≤ 256 := by rw [(hE.here.1.2).len]; exact l1
        obtain ⟨bit, hbit⟩ : ∃ b, b = n / 2 ^ j % 2 := ⟨_, rfl⟩
        have HB := Lib.hid hbit
        have HL := Lib.hid (And.intro l1 (And.intro l2 lj))
        clear hx hbit l1 l2 lj
        obtain ⟨k10, k11⟩ := (hE.here.1.1.1.2).c2
        obtain ⟨k12, k13⟩ := (hE.here.2).c2
        go_wp2_with fail
        have hc := ftimes_v (ca := cv) (cb := cv) hE.here.1.2 hE.here.1.2 (Nat.le_trans lv (by decide)) (Nat.le_trans lv (by decide)) (Nat.le_trans HL.out.2.1 (by decide))
        refine hc.mono ?_
        clear hc
        clear k10 k11 k12 k13
        rintro e w14 ⟨sq, Aq, nq, cq, rfl, hq, hb⟩
        replace hE := hE.step hb
        clear hb
        replace hE := hE.wv hq
        clear hq
        have hgl15 : w.heap.size ≤ g7 := by omega
        obtain ⟨x15_0, x15_1⟩ := (hE.here.1.2).c2
        obtain ⟨f15_0, f15_1⟩ := hE.here.1.2.f2
        replace hE := (((((((Env.again (bel2 hE.bel hgl15 (.bool sq) (.slice Aq nq cq))).wv ((hE.here.1.1.1.1.1.2).sep2 hE.here.1.2 rfl (.bool sq) (.slice Aq nq cq) rfl)).blkI ((hE.here.1.1.1.1.2).far2 (R := g7) (by omega) (.bool sq) (.slice Aq nq cq))).blkI ((hE.here.1.1.1.2).far2 (R := g7) (by omega) (.bool sq) (.slice Aq nq cq))).wv ((hE.here.1.1.2).sep2 hE.here.1.2 rfl (.bool sq) (.slice Aq nq cq) rfl)).blkI ((hE.here.1.2).s2 (.bool sq) (.slice Aq nq cq))).wv ((hE.here.2).sep2 hE.here.1.2 rfl (.bool sq) (.slice Aq nq cq) rfl))
        go_upto_region 12 with (fail)
        clear x15_0 x15_1 f15_0 f15_1 hgl15
        generalize ((w14.setCell ⟨g7, 0, none⟩ (.bool sq)).setCell ⟨g7, 1, none⟩ (.slice Aq nq cq)) = W15 at hE ⊢
        have hb2 : bit = 0 ∨ bit = 1 := by have := HB.out; omega
        have e9 : (n : Int) / 2 ^ j = ((n / 2 ^ j : Nat) : Int) := by simp
        have HE9 := Lib.hid e9
        clear e9
        rcases hb2 with rfl | rfl
        · have hb9 := HB.out
          have hd9 := Nat.div_le_self n (2 ^ j)
          have o3 : (bits .and .u64 ((n : Int) / 2 ^ j) 1 == 1) = false := by
            rw [HE9.out]
            generalize n / 2 ^ j = X at hb9 hd9 ⊢
            rw [Lib.u64_and1 _ (by omega) (by omega)]
            rw [beq_eq_false_iff_ne]; omega
          clear hd9
          clear hb9
          go_upto_region 14 with (fail)
          have hv := hE.here.2
          rw [pow_step a n j HB.out.symm] at hv
          have ll : nq ≤ 256 := by rw [hv.len]; exact HL.out.2.2
          have t8 : decide (256 < (nq : Int)) = false := decide_eq_false (by omega)
          have t9 : decide (256 < nq) = false := decide_eq_false (by omega)
          have HV := Lib.hid hv
          clear hv ll
          obtain ⟨k16, k17⟩ := (hE.here.1.2).c2
          go_wp2_with fail
          clear k16 k17
          go_roundw
          case rel => exact ⟨j, sq, Aq, nq, cq, by omega, by go_num, ((((Env.again hE.bel).wv (hE.here.1.1.1.1.1.2)).blkI (hE.here.1.1.1.1.2)).blkI (hE.here.1.1.1.2)).wv HV.out |>.blkI (hE.here.1.2)⟩
          case measure => (simp [intOf]) <;> omega
        · have hb9 := HB.out
          have hd9 := Nat.div_le_self n (2 ^ j)
          have o3 : (bits .and .u64 ((n : Int) / 2 ^ j) 1 == 1) = true := by
            rw [HE9.out]
            generalize n / 2 ^ j = X at hb9 hd9 ⊢
            rw [Lib.u64_and1 _ (by omega) (by omega)]
            rw [beq_iff_eq]; omega
          clear hd9
          clear hb9
          have lq : nq ≤ 256 := by rw [(hE.here.2).len]; exact HL.out.2.1
          obtain ⟨k18, k19⟩ := (hE.here.1.1.1.1.2).c2
          obtain ⟨k20, k21⟩ := (hE.here.1.2).c2
          go_wp2_with fail
          have hc := ftimes_v (ca := cq) (cb := ca) hE.here.2 hE.here.1.1.1.1.1.2 (Nat.le_trans lq (by decide)) (by omega) (by rw [pow_step1 a n j HB.out.symm]; exact Nat.le_trans HL.out.2.2 (by decide))
          refine hc.mono ?_
          clear hc
          clear k18 k19 k20 k21
          rintro e w22 ⟨sp, Ap, np, cp, rfl, hp, hb⟩
          replace hE := hE.step hb
          clear hb
          replace hE := hE.wv hp
          clear hp
          have hgl23 : w.heap.size ≤ g7 := by omega
          obtain ⟨x23_0, x23_1⟩ := (hE.here.1.1.2).c2
          obtain ⟨f23_0, f23_1⟩ := hE.here.1.1.2.f2
          replace hE := ((((((((Env.again (bel2 hE.bel hgl23 (.bool sp) (.slice Ap np cp))).wv ((hE.here.1.1.1.1.1.1.2).sep2 hE.here.1.1.2 rfl (.bool sp) (.slice Ap np cp) rfl)).blkI ((hE.here.1.1.1.1.1.2).far2 (R := g7) (by omega) (.bool sp) (.slice Ap np cp))).blkI ((hE.here.1.1.1.1.2).far2 (R := g7) (by omega) (.bool sp) (.slice Ap np cp))).wv ((hE.here.1.1.1.2).sep2 hE.here.1.1.2 rfl (.bool sp) (.slice Ap np cp) rfl)).blkI ((hE.here.1.1.2).s2 (.bool sp) (.slice Ap np cp))).wv ((hE.here.1.2).sep2 hE.here.1.1.2 rfl (.bool sp) (.slice Ap np cp) rfl)).wv ((hE.here.2).sep2 hE.here.1.1.2 rfl (.bool sp) (.slice Ap np cp) rfl))
          go_upto_region 14 with (fail)
          clear x23_0 x23_1 f23_0 f23_1 hgl23
          generalize ((w22.setCell ⟨g7, 0, none⟩ (.bool sp)).setCell ⟨g7, 1, none⟩ (.slice Ap np cp)) = W23 at hE ⊢
          have hv := hE.here.2
          rw [pow_step1 a n j HB.out.symm] at hv
          have ll : np ≤ 256 := by rw [hv.len]; exact HL.out.2.2
          have t8 : decide (256 < (np : Int)) = false := decide_eq_false (by omega)
          have t9 : decide (256 < np) = false := decide_eq_false (by omega)
          have HV := Lib.hid hv
          clear hv ll
          obtain ⟨k24, k25⟩ := (hE.here.1.1.2).c2
          go_wp2_with fail
          clear k24 k25
          go_roundw
          case rel => exact ⟨j, sp, Ap, np, cp, by omega, by go_num, ((((Env.again hE.bel).wv (hE.here.1.1.1.1.1.1.2)).blkI (hE.here.1.1.1.1.1.2)).blkI (hE.here.1.1.1.1.2)).wv HV.out |>.blkI (hE.here.1.1.2)⟩
          case measure => (simp [intOf]) <;> omega
theorem wv_neg1 {w : World} {s : Bool} {A : Option Addr} {n : Nat} (h : WV w 1 s A n) : WV w (-1) true A n := ⟨rfl, h.2.1, h.2.2⟩
theorem wv_pos1 {w : World} {s : Bool} {A : Option Addr} {n : Nat} (h : WV w 1 s A n) : WV w 1 false A n := ⟨rfl, h.2.1, h.2.2⟩
set_option linter.unusedSimpArgs false in
set_option maxRecDepth 100000 in
set_option maxHeartbeats 2000000 in
theorem fpower_zero {Aa : Option Addr} {ca : Nat} {w : World} (ha : WV w 0 false Aa 0) (n : Nat) (h0 : 0 < n) :
    Calls Tryz.prog 47 #[.agg #[.bool false, .slice Aa 0 ca], .int .u64 (n : Int)] w (WT 0 w) := by
  have u1 : decide (0 < (n : Int)) = true := decide_eq_true (by omega)
  have u2 : decide (0 < n) = true := decide_eq_true h0
  have hE := ((Env.start w).wv ha).blk 24 #[.bool false, .slice Aa 0 ca] (g := w.heap.size) rfl
  have hE := hE.blk 24 #[.bool false, .slice none 0 0] (g := w.heap.size + 1) (by simp)
  obtain ⟨W0, hW0⟩ : ∃ W0, W0 = ((w.alloc (.cells #[.bool false, .slice Aa 0 ca] 24)).alloc (.cells #[.bool false, .slice none 0 0] 24)) := ⟨_, rfl⟩
  rw [← hW0] at hE
  have HW0 := Lib.hid hW0
  clear hW0
  go_enter Tryz.func47, Tryz.ntmps47
  go_upto_region 1 with (fail)
  rw [← HW0.out]
  go_wp2_with fail
  have hc := fromInt_v 1 W0 (by decide) (by decide)
  refine hc.mono ?_
  clear hc
  rintro e w1 ⟨so, Ao, no, co, rfl, ho, hb⟩
  replace hE := hE.step hb
  clear hb
  replace hE := hE.wv ho
  clear ho
  go_upto_region 2 with (fail)
  obtain ⟨g2, hg2⟩ : ∃ g2, g2 = w1.heap.size := ⟨_, rfl⟩
  have hl2_1 : w.heap.size < g2 := by rw [hg2]; exact (hE.here.1.1.2).lt
  have hl2_2 : w.heap.size + 1 < g2 := by rw [hg2]; exact (hE.here.1.2).lt
  replace hE := hE.blk 24 #[.bool so, .slice Ao no co] (g := g2) hg2.symm
  generalize w1.alloc (.cells #[.bool so, .slice Ao no co] 24) = W2 at hE ⊢
  rw [← hg2]
  clear hg2
  have hz := zero_wv W2
  replace hE := hE.wv hz
  clear hz
  obtain ⟨k3, k4⟩ := (hE.here.1.1.1.1.2).c2
  have hRl : w.heap.size ≤ w.heap.size + 1 := by omega
  obtain ⟨WW, hWW, hB, hV, hBel⟩ := ret_whole hE hE.here.1.1.1.2 hRl hE.here.2 0
  obtain ⟨x0, x1⟩ := (hE.here.1.1.1.2).c2
  obtain ⟨fz0, fz1⟩ := hE.here.1.1.1.2.f2
  have HWW := Lib.hid hWW
  clear hWW
  go_wp2_with fail
  clear x0 x1
  rw [← HWW.out]
  obtain ⟨y0, y1⟩ := hB.c2
  refine bodyPost_ret (v := .tuple #[.agg #[.bool false, .slice none 0 0], .bool true]) (by simp [results, Tryz.results47, go_sem, y0, y1]) rfl ?_
  exact ⟨false, none, 0, 0, rfl, hV, hBel⟩
set_option linter.unusedSimpArgs false in
set_option maxRecDepth 100000 in
set_option maxHeartbeats 2000000 in
theorem fpower_00 {Aa : Option Addr} {ca : Nat} {w : World} (ha : WV w 0 false Aa 0) :
    Calls Tryz.prog 47 #[.agg #[.bool false, .slice Aa 0 ca], .int .u64 0] w (WT 1 w) := by
  have hE := ((Env.start w).wv ha).blk 24 #[.bool false, .slice Aa 0 ca] (g := w.heap.size) rfl
  have hE := hE.blk 24 #[.bool false, .slice none 0 0] (g := w.heap.size + 1) (by simp)
  obtain ⟨W0, hW0⟩ : ∃ W0, W0 = ((w.alloc (.cells #[.bool false, .slice Aa 0 ca] 24)).alloc (.cells #[.bool false, .slice none 0 0] 24)) := ⟨_, rfl⟩
  rw [← hW0] at hE
  have HW0 := Lib.hid hW0
  clear hW0
  go_enter Tryz.func47, Tryz.ntmps47
  go_upto_region 1 with (fail)
  rw [← HW0.out]
  go_wp2_with fail
  have hc := fromInt_v 1 W0 (by decide) (by decide)
  refine hc.mono ?_
  clear hc
  rintro e w1 ⟨so, Ao, no, co, rfl, ho, hb⟩
  replace hE := hE.step hb
  clear hb
  replace hE := hE.wv ho
  clear ho
  go_upto_region 2 with (fail)
  obtain ⟨g2, hg2⟩ : ∃ g2, g2 = w1.heap.size := ⟨_, rfl⟩
  have hl2_1 : w.heap.size < g2 := by rw [hg2]; exact (hE.here.1.1.2).lt
  have hl2_2 : w.heap.size + 1 < g2 := by rw [hg2]; exact (hE.here.1.2).lt
  replace hE := hE.blk 24 #[.bool so, .slice Ao no co] (g := g2) hg2.symm
  generalize w1.alloc (.cells #[.bool so, .slice Ao no co] 24) = W2 at hE ⊢
  rw [← hg2]
  clear hg2
  have hgl : w.heap.size ≤ g2 := by omega
  have hF := ((hE.here.1.2).sep (i := 0) (hE.here.2) rfl (.bool false))
  have hF2 := wv_pos1 hF
  have hBk : Blk 24 g2 #[.bool false, .slice Ao no co] (W2.setCell ⟨g2, 0, none⟩ (.bool false)) := by simpa using (hE.here.2).set_ 0 (.bool false)
  have hE2 := (((Env.again (hE.bel.setCell (p := ⟨g2, 0, none⟩) hgl (.bool false))).blkI ((hE.here.1.1.2).far (p := ⟨g2, 0, none⟩) (by simp; omega) (.bool false))).blkI hBk).wv hF2
  obtain ⟨k3, k4⟩ := (hE.here.1.1.1.2).c2
  obtain ⟨k5, k6⟩ := (hE.here.2).c2
  have z0 := (hE.here.2).frozen 0
  clear hF hF2 hBk hE
  go_upto_region 6 with (fail)
  clear k3 k4 k5 k6
  clear z0 hgl
  have hE := hE2
  clear hE2
  generalize W2.setCell ⟨g2, 0, none⟩ (.bool false) = v1 at hE ⊢
  obtain ⟨k7, k8⟩ := (hE.here.1.2).c2
  have hRl : w.heap.size ≤ w.heap.size + 1 := by omega
  obtain ⟨WW, hWW, hB, hV, hBel⟩ := ret_whole hE hE.here.1.1.2 hRl hE.here.2 co
  obtain ⟨x0, x1⟩ := (hE.here.1.1.2).c2
  obtain ⟨fz0, fz1⟩ := hE.here.1.1.2.f2
  have HWW := Lib.hid hWW
  clear hWW
  go_wp2_with fail
  clear x0 x1
  rw [← HWW.out]
  obtain ⟨y0, y1⟩ := hB.c2
  refine bodyPost_ret (v := .tuple #[.agg #[.bool false, .slice Ao no co], .bool true]) (by simp [results, Tryz.results47, go_sem, y0, y1]) rfl ?_
  exact ⟨false, Ao, no, co, rfl, hV, hBel⟩
set_option linter.unusedSimpArgs false in
set_option maxRecDepth 100000 in
set_option maxHeartbeats 2000000 in
theorem fpower_1 {Aa : Option Addr} {ca : Nat} {w : World} (ha : WV w 1 false Aa 1) (n : Nat) :
    Calls Tryz.prog 47 #[.agg #[.bool false, .slice Aa 1 ca], .int .u64 (n : Int)] w (WT 1 w) := by
  obtain ⟨b, o, rfl, hbl, hcell⟩ := limb_one ha
  have hcell2 : w.cell? ⟨b, o, none⟩ = some (.int .u16 1) := hcell
  clear hcell
  have hE := (((Env.start w).wv ha).at_ hbl hcell2).blk 24 #[.bool false, .slice (some ⟨b, o, none⟩) 1 ca] (g := w.heap.size) rfl
  have hE := hE.blk 24 #[.bool false, .slice none 0 0] (g := w.heap.size + 1) (by simp)
  obtain ⟨W0, hW0⟩ : ∃ W0, W0 = ((w.alloc (.cells #[.bool false, .slice (some ⟨b, o, none⟩) 1 ca] 24)).alloc (.cells #[.bool false, .slice none 0 0] 24)) := ⟨_, rfl⟩
  rw [← hW0] at hE
  have HW0 := Lib.hid hW0
  clear hW0
  go_enter Tryz.func47, Tryz.ntmps47
  go_upto_region 1 with (fail)
  rw [← HW0.out]
  go_wp2_with fail
  have hc := fromInt_v 1 W0 (by decide) (by decide)
  refine hc.mono ?_
  clear hc
  rintro e w1 ⟨so, Ao, no, co, rfl, ho, hb⟩
  replace hE := hE.step hb
  clear hb
  replace hE := hE.wv ho
  clear ho
  go_upto_region 2 with (fail)
  obtain ⟨g2, hg2⟩ : ∃ g2, g2 = w1.heap.size := ⟨_, rfl⟩
  have hl2_2 : w.heap.size < g2 := by rw [hg2]; exact (hE.here.1.1.2).lt
  have hl2_3 : w.heap.size + 1 < g2 := by rw [hg2]; exact (hE.here.1.2).lt
  replace hE := hE.blk 24 #[.bool so, .slice Ao no co] (g := g2) hg2.symm
  generalize w1.alloc (.cells #[.bool so, .slice Ao no co] 24) = W2 at hE ⊢
  rw [← hg2]
  clear hg2
  have hgl : w.heap.size ≤ g2 := by omega
  have hF := ((hE.here.1.2).sep (i := 0) (hE.here.2) rfl (.bool false))
  have hF2 := wv_pos1 hF
  have hBk : Blk 24 g2 #[.bool false, .slice Ao no co] (W2.setCell ⟨g2, 0, none⟩ (.bool false)) := by simpa using (hE.here.2).set_ 0 (.bool false)
  have hE2 := (((Env.again (hE.bel.setCell (p := ⟨g2, 0, none⟩) hgl (.bool false))).blkI ((hE.here.1.1.2).far (p := ⟨g2, 0, none⟩) (by simp; omega) (.bool false))).blkI hBk).wv hF2
  obtain ⟨k3, k4⟩ := (hE.here.1.1.1.2).c2
  obtain ⟨k5, k6⟩ := (hE.here.2).c2
  have k7 := (hE.here.1.1.1.1.2).2
  have z0 := (hE.here.2).frozen 0
  clear hF hF2 hBk hE
  go_upto_region 6 with (fail)
  clear k3 k4 k5 k6 k7
  clear z0 hgl
  have hE := hE2
  clear hE2
  generalize W2.setCell ⟨g2, 0, none⟩ (.bool false) = v1 at hE ⊢
  obtain ⟨k8, k9⟩ := (hE.here.1.2).c2
  have hRl : w.heap.size ≤ w.heap.size + 1 := by omega
  obtain ⟨WW, hWW, hB, hV, hBel⟩ := ret_whole hE hE.here.1.1.2 hRl hE.here.2 co
  obtain ⟨x0, x1⟩ := (hE.here.1.1.2).c2
  obtain ⟨fz0, fz1⟩ := hE.here.1.1.2.f2
  have HWW := Lib.hid hWW
  clear hWW
  go_wp2_with fail
  clear x0 x1
  rw [← HWW.out]
  obtain ⟨y0, y1⟩ := hB.c2
  refine bodyPost_ret (v := .tuple #[.agg #[.bool false, .slice Ao no co], .bool true]) (by simp [results, Tryz.results47, go_sem, y0, y1]) rfl ?_
  exact ⟨false, Ao, no, co, rfl, hV, hBel⟩
set_option linter.unusedSimpArgs false in
set_option maxRecDepth 100000 in
set_option maxHeartbeats 2000000 in
theorem fpower_e {Aa : Option Addr} {ca : Nat} {w : World} (ha : WV w (-1) true Aa 1) (n : Nat) (hn : n % 2 = 0) :
    Calls Tryz.prog 47 #[.agg #[.bool true, .slice Aa 1 ca], .int .u64 (n : Int)] w (WT 1 w) := by
  obtain ⟨b, o, rfl, hbl, hcell⟩ := limb_one ha
  have hcell2 : w.cell? ⟨b, o, none⟩ = some (.int .u16 1) := hcell
  clear hcell
  have t1 : ((n : Int) % 2 == 1) = false := beq_eq_false_iff_ne.2 (by omega)
  have hE := (((Env.start w).wv ha).at_ hbl hcell2).blk 24 #[.bool true, .slice (some ⟨b, o, none⟩) 1 ca] (g := w.heap.size) rfl
  have hE := hE.blk 24 #[.bool false, .slice none 0 0] (g := w.heap.size + 1) (by simp)
  obtain ⟨W0, hW0⟩ : ∃ W0, W0 = ((w.alloc (.cells #[.bool true, .slice (some ⟨b, o, none⟩) 1 ca] 24)).alloc (.cells #[.bool false, .slice none 0 0] 24)) := ⟨_, rfl⟩
  rw [← hW0] at hE
  have HW0 := Lib.hid hW0
  clear hW0
  go_enter Tryz.func47, Tryz.ntmps47
  go_upto_region 1 with (fail)
  rw [← HW0.out]
  go_wp2_with fail
  have hc := fromInt_v 1 W0 (by decide) (by decide)
  refine hc.mono ?_
  clear hc
  rintro e w1 ⟨so, Ao, no, co, rfl, ho, hb⟩
  replace hE := hE.step hb
  clear hb
  replace hE := hE.wv ho
  clear ho
  go_upto_region 2 with (fail)
  obtain ⟨g2, hg2⟩ : ∃ g2, g2 = w1.heap.size := ⟨_, rfl⟩
  have hl2_2 : w.heap.size < g2 := by rw [hg2]; exact (hE.here.1.1.2).lt
  have hl2_3 : w.heap.size + 1 < g2 := by rw [hg2]; exact (hE.here.1.2).lt
  replace hE := hE.blk 24 #[.bool so, .slice Ao no co] (g := g2) hg2.symm
  generalize w1.alloc (.cells #[.bool so, .slice Ao no co] 24) = W2 at hE ⊢
  rw [← hg2]
  clear hg2
  have hgl : w.heap.size ≤ g2 := by omega
  have hF := ((hE.here.1.2).sep (i := 0) (hE.here.2) rfl (.bool false))
  have hF2 := wv_pos1 hF
  have hBk : Blk 24 g2 #[.bool false, .slice Ao no co] (W2.setCell ⟨g2, 0, none⟩ (.bool false)) := by simpa using (hE.here.2).set_ 0 (.bool false)
  have hE2 := (((Env.again (hE.bel.setCell (p := ⟨g2, 0, none⟩) hgl (.bool false))).blkI ((hE.here.1.1.2).far (p := ⟨g2, 0, none⟩) (by simp; omega) (.bool false))).blkI hBk).wv hF2
  obtain ⟨k3, k4⟩ := (hE.here.1.1.1.2).c2
  obtain ⟨k5, k6⟩ := (hE.here.2).c2
  have k7 := (hE.here.1.1.1.1.2).2
  have z0 := (hE.here.2).frozen 0
  clear hF hF2 hBk hE
  go_upto_region 6 with (fail)
  clear k3 k4 k5 k6 k7
  clear z0 hgl
  have hE := hE2
  clear hE2
  generalize W2.setCell ⟨g2, 0, none⟩ (.bool false) = v1 at hE ⊢
  obtain ⟨k8, k9⟩ := (hE.here.1.2).c2
  have hRl : w.heap.size ≤ w.heap.size + 1 := by omega
  obtain ⟨WW, hWW, hB, hV, hBel⟩ := ret_whole hE hE.here.1.1.2 hRl hE.here.2 co
  obtain ⟨x0, x1⟩ := (hE.here.1.1.2).c2
  obtain ⟨fz0, fz1⟩ := hE.here.1.1.2.f2
  have HWW := Lib.hid hWW
  clear hWW
  go_wp2_with fail
  clear x0 x1
  rw [← HWW.out]
  obtain ⟨y0, y1⟩ := hB.c2
  refine bodyPost_ret (v := .tuple #[.agg #[.bool false, .slice Ao no co], .bool true]) (by simp [results, Tryz.results47, go_sem, y0, y1]) rfl ?_
  exact ⟨false, Ao, no, co, rfl, hV, hBel⟩
set_option linter.unusedSimpArgs false in
set_option maxRecDepth 100000 in
set_option maxHeartbeats 2000000 in
theorem fpower_o {Aa : Option Addr} {ca : Nat} {w : World} (ha : WV w (-1) true Aa 1) (n : Nat) (hn : n % 2 = 1) :
    Calls Tryz.prog 47 #[.agg #[.bool true, .slice Aa 1 ca], .int .u64 (n : Int)] w (WT (-1) w) := by
  obtain ⟨b, o, rfl, hbl, hcell⟩ := limb_one ha
  have hcell2 : w.cell? ⟨b, o, none⟩ = some (.int .u16 1) := hcell
  clear hcell
  have t1 : ((n : Int) % 2 == 1) = true := beq_iff_eq.2 (by omega)
  have hE := (((Env.start w).wv ha).at_ hbl hcell2).blk 24 #[.bool true, .slice (some ⟨b, o, none⟩) 1 ca] (g := w.heap.size) rfl
  have hE := hE.blk 24 #[.bool false, .slice none 0 0] (g := w.heap.size + 1) (by simp)
  obtain ⟨W0, hW0⟩ : ∃ W0, W0 = ((w.alloc (.cells #[.bool true, .slice (some ⟨b, o, none⟩) 1 ca] 24)).alloc (.cells #[.bool false, .slice none 0 0] 24)) := ⟨_, rfl⟩
  rw [← hW0] at hE
  have HW0 := Lib.hid hW0
  clear hW0
  go_enter Tryz.func47, Tryz.ntmps47
  go_upto_region 1 with (fail)
  rw [← HW0.out]
  go_wp2_with fail
  have hc := fromInt_v 1 W0 (by decide) (by decide)
  refine hc.mono ?_
  clear hc
  rintro e w1 ⟨so, Ao, no, co, rfl, ho, hb⟩
  replace hE := hE.step hb
  clear hb
  replace hE := hE.wv ho
  clear ho
  go_upto_region 2 with (fail)
  obtain ⟨g2, hg2⟩ : ∃ g2, g2 = w1.heap.size := ⟨_, rfl⟩
  have hl2_2 : w.heap.size < g2 := by rw [hg2]; exact (hE.here.1.1.2).lt
  have hl2_3 : w.heap.size + 1 < g2 := by rw [hg2]; exact (hE.here.1.2).lt
  replace hE := hE.blk 24 #[.bool so, .slice Ao no co] (g := g2) hg2.symm
  generalize w1.alloc (.cells #[.bool so, .slice Ao no co] 24) = W2 at hE ⊢
  rw [← hg2]
  clear hg2
  have hgl : w.heap.size ≤ g2 := by omega
  have hF := ((hE.here.1.2).sep (i := 0) (hE.here.2) rfl (.bool true))
  have hF2 := wv_neg1 hF
  have hBk : Blk 24 g2 #[.bool true, .slice Ao no co] (W2.setCell ⟨g2, 0, none⟩ (.bool true)) := by simpa using (hE.here.2).set_ 0 (.bool true)
  have hE2 := (((Env.again (hE.bel.setCell (p := ⟨g2, 0, none⟩) hgl (.bool true))).blkI ((hE.here.1.1.2).far (p := ⟨g2, 0, none⟩) (by simp; omega) (.bool true))).blkI hBk).wv hF2
  obtain ⟨k3, k4⟩ := (hE.here.1.1.1.2).c2
  obtain ⟨k5, k6⟩ := (hE.here.2).c2
  have k7 := (hE.here.1.1.1.1.2).2
  have z0 := (hE.here.2).frozen 0
  clear hF hF2 hBk hE
  go_upto_region 6 with (fail)
  clear k3 k4 k5 k6 k7
  clear z0 hgl
  have hE := hE2
  clear hE2
  generalize W2.setCell ⟨g2, 0, none⟩ (.bool true) = v1 at hE ⊢
  obtain ⟨k8, k9⟩ := (hE.here.1.2).c2
  have hRl : w.heap.size ≤ w.heap.size + 1 := by omega
  obtain ⟨WW, hWW, hB, hV, hBel⟩ := ret_whole hE hE.here.1.1.2 hRl hE.here.2 co
  obtain ⟨x0, x1⟩ := (hE.here.1.1.2).c2
  obtain ⟨fz0, fz1⟩ := hE.here.1.1.2.f2
  have HWW := Lib.hid hWW
  clear hWW
  go_wp2_with fail
  clear x0 x1
  rw [← HWW.out]
  obtain ⟨y0, y1⟩ := hB.c2
  refine bodyPost_ret (v := .tuple #[.agg #[.bool true, .slice Ao no co], .bool true]) (by simp [results, Tryz.results47, go_sem, y0, y1]) rfl ?_
  exact ⟨true, Ao, no, co, rfl, hV, hBel⟩
/-- power: a to the power n, where it is not too long. -/
theorem fpower_v {a : Int} {sa : Bool} {Aa : Option Addr} {na ca : Nat} {w : World} (ha : WV w a sa Aa na) (n : Nat) (hn : n ≤ 18446744073709551615) (hl : ln b16 (a ^ n).natAbs ≤ 256) (la : na ≤ 256) :
    Calls Tryz.prog 47 #[.agg #[.bool sa, .slice Aa na ca], .int .u64 (n : Int)] w (WT (a ^ n) w) := by
  by_cases h0 : a = 0
  · subst h0
    obtain rfl : na = 0 := by rw [ha.len]; exact ln_zero
    obtain rfl : sa = false := ha.sgn
    rcases Nat.eq_zero_or_pos n with rfl | hp
    · exact fpower_00 ha
    · rw [Int.zero_pow (by omega)]
      exact fpower_zero ha n hp
  · by_cases h1 : a = 1
    · subst h1
      obtain rfl : na = 1 := by rw [ha.len]; decide
      obtain rfl : sa = false := ha.sgn
      rw [Int.one_pow]
      exact fpower_1 ha n
    · by_cases h2 : a = -1
      · subst h2
        obtain rfl : na = 1 := by rw [ha.len]; decide
        obtain rfl : sa = true := ha.sgn
        have e1 : ∀ m : Nat, (-1 : Int) ^ (2 * m) = 1 := fun m => by rw [Int.pow_mul]; exact Int.one_pow
        rcases Nat.mod_two_eq_zero_or_one n with h | h
        · have e2 : (-1 : Int) ^ n = 1 := by rw [show n = 2 * (n / 2) by omega]; exact e1 _
          rw [e2]
          exact fpower_e ha n h
        · have e2 : (-1 : Int) ^ n = -1 := by rw [show n = 2 * (n / 2) + 1 by omega, Int.pow_succ, e1]; rfl
          rw [e2]
          exact fpower_o ha n h
      · exact fpower_big ha n hn (by omega) hl la
end Go.Proofs.YtifikcemcflgjaaGreatDoor
namespace Go.Proofs.YtifikcemcflgjaaGreatDoor
open Go.RowKit

theorem fv_pow {w : World} {q : Rat} {n : Nat} {s t : Bool} {A B : Option Addr} {k m : Nat} (h1 : WV w (q.num ^ n) s A k) (h2 : WV w (((q.den : Nat) : Int) ^ n) t B m) : FV w (q ^ n) s A k t B m :=
  ⟨by rw [Rat.num_pow]; exact h1, by rw [Rat.den_pow, Int.natCast_pow]; exact h2⟩
theorem fl_pow {q : Rat} {n : Nat} (h : fl (q ^ n) ≤ 256) : ln b16 (q.num ^ n).natAbs ≤ 256 ∧ ln b16 (((q.den : Nat) : Int) ^ n).natAbs ≤ 256 := by
  obtain ⟨h1, h2⟩ := fl_le.1 h
  rw [Rat.num_pow] at h1
  rw [Rat.den_pow] at h2
  exact ⟨h1, by rw [← Int.natCast_pow, Int.natAbs_natCast]; exact h2⟩
theorem inv_low (a : Rat) : Rat.divInt (a.den : Int) a.num = a⁻¹ := (Rat.inv_def a).symm
set_option linter.unusedSimpArgs false in
set_option maxRecDepth 100000 in
set_option maxHeartbeats 4000000 in
theorem fpow_pos {a : Rat} {sa ta : Bool} {Aa Ba : Option Addr} {na ca ma da : Nat} {w : World} (ha : FV w a sa Aa na ta Ba ma) (la : fl a ≤ 256) (n : Nat) (hn : n ≤ 9223372036854775807) (lr : fl (a ^ n) ≤ 256) :
    Calls Tryz.prog 14 #[.agg #[.bool sa, .slice Aa na ca, .bool ta, .slice Ba ma da], .int .i64 (n : Int)] w (FOK (a ^ n) w) := by
  have t1 : decide ((n : Int) < 0) = false := decide_eq_false (by omega)
  have t2 : ¬ (n : Int) < 0 := by omega
  have o1 : IntKind.u64.wrap (n : Int) = (n : Int) := by rw [IntKind.wrap_u64]; omega
  obtain ⟨hk1, hk2⟩ := ha.ln la
  obtain ⟨hp1, hp2⟩ := fl_pow lr
  have hn64 : n ≤ 18446744073709551615 := by omega
  have hE := ((Env.start w).fv ha).blk 26 #[.bool sa, .slice Aa na ca, .bool ta, .slice Ba ma da] (g := w.heap.size) rfl
  have hE := hE.blk 26 #[.bool false, .slice none 0 0, .bool false, .slice none 0 0] (g := w.heap.size + 1) (by simp)
  obtain ⟨W0, hW0⟩ : ∃ W0, W0 = ((w.alloc (.cells #[.bool sa, .slice Aa na ca, .bool ta, .slice Ba ma da] 26)).alloc (.cells #[.bool false, .slice none 0 0, .bool false, .slice none 0 0] 26)) := ⟨_, rfl⟩
  rw [← hW0] at hE
  have HW0 := Lib.hid hW0
  clear hW0
  go_enter Tryz.func14, Tryz.ntmps14
  go_upto_region 1 with (fail)
  rw [← HW0.out]
  obtain ⟨k1, k2, k3, k4⟩ := (hE.here.1.2).c4
  go_wp2_with fail
  have hc := fvalid_v0 (c := ca) (d := da) hE.here.1.1.2 la
  refine hc.mono ?_
  clear hc
  clear k1 k2 k3 k4
  rintro e w5 ⟨rfl, hb⟩
  replace hE := hE.step hb
  clear hb
  obtain ⟨k6, k7, k8, k9⟩ := (hE.here.1.2).c4
  go_wp2_with fail
  have hc := fpower_v (ca := ca) (hE.here.1.1.2).1 n hn64 hp1 (hk1)
  refine hc.mono ?_
  clear hc
  clear k6 k7 k8 k9
  rintro e w10 ⟨sx, Ax, nx, cx, rfl, hx, hb⟩
  replace hE := hE.step hb
  clear hb
  replace hE := hE.wv hx
  clear hx
  go_upto_region 10 with (fail)
  obtain ⟨g11, hg11⟩ : ∃ g11, g11 = w10.heap.size := ⟨_, rfl⟩
  have hl11_1 : w.heap.size < g11 := by rw [hg11]; exact (hE.here.1.1.2).lt
  have hl11_2 : w.heap.size + 1 < g11 := by rw [hg11]; exact (hE.here.1.2).lt
  replace hE := hE.blk 24 #[.bool sx, .slice Ax nx cx] (g := g11) hg11.symm
  generalize w10.alloc (.cells #[.bool sx, .slice Ax nx cx] 24) = W11 at hE ⊢
  rw [← hg11]
  clear hg11
  obtain ⟨k12, k13, k14, k15⟩ := (hE.here.1.1.1.2).c4
  go_wp2_with fail
  have hc := fpower_v (ca := da) (hE.here.1.1.1.1.2).2 n hn64 hp2 (hk2)
  refine hc.mono ?_
  clear hc
  clear k12 k13 k14 k15
  rintro e w16 ⟨sy, Ay, ny, cy, rfl, hy, hb⟩
  replace hE := hE.step hb
  clear hb
  replace hE := hE.wv hy
  clear hy
  go_upto_region 11 with (fail)
  obtain ⟨g17, hg17⟩ : ∃ g17, g17 = w16.heap.size := ⟨_, rfl⟩
  have hl17_1 : w.heap.size < g17 := by rw [hg17]; exact (hE.here.1.1.1.1.2).lt
  have hl17_2 : w.heap.size + 1 < g17 := by rw [hg17]; exact (hE.here.1.1.1.2).lt
  have hl17_4 : g11 < g17 := by rw [hg17]; exact (hE.here.1.2).lt
  replace hE := hE.blk 24 #[.bool sy, .slice Ay ny cy] (g := g17) hg17.symm
  generalize w16.alloc (.cells #[.bool sy, .slice Ay ny cy] 24) = W17 at hE ⊢
  rw [← hg17]
  clear hg17
  have hfv := fv_pow (q := a) (hE.here.1.1.1.2) (hE.here.1.2)
  replace hE := hE.fv hfv
  clear hfv
  obtain ⟨k18, k19⟩ := (hE.here.1.1.1.2).c2
  obtain ⟨k20, k21⟩ := (hE.here.1.2).c2
  have hRl : w.heap.size ≤ w.heap.size + 1 := by omega
  obtain ⟨WW, hWW, hB, hV, hBel⟩ := ret_frac hE hE.here.1.1.1.1.1.2 hRl hE.here.2 cx cy
  obtain ⟨x0, x1, x2, x3⟩ := (hE.here.1.1.1.1.1.2).c4
  obtain ⟨fz0, fz1, fz2, fz3⟩ := hE.here.1.1.1.1.1.2.f4
  have HWW := Lib.hid hWW
  clear hWW
  go_wp2_with fail
  clear x0 x1 x2 x3
  rw [← HWW.out]
  obtain ⟨y0, y1, y2, y3⟩ := hB.c4
  refine bodyPost_ret (v := .tuple #[.agg #[.bool sx, .slice Ax nx cx, .bool sy, .slice Ay ny cy], .int .i64 0]) (by simp [results, Tryz.results14, go_sem, y0, y1, y2, y3]) rfl ?_
  exact ⟨sx, Ax, nx, cx, sy, Ay, ny, cy, rfl, hV, hBel⟩
set_option linter.unusedSimpArgs false in
set_option maxRecDepth 100000 in
set_option maxHeartbeats 4000000 in
theorem fpow_neg {a : Rat} {sa ta : Bool} {Aa Ba : Option Addr} {na ca ma da : Nat} {w : World} (ha : FV w a sa Aa na ta Ba ma) (la : fl a ≤ 256) (ha0 : a.num ≠ 0) (li : fl a⁻¹ ≤ 256) (n : Nat) (h1n : 1 ≤ n) (hn : n ≤ 9223372036854775808) (lr : fl (a⁻¹ ^ n) ≤ 256) :
    Calls Tryz.prog 14 #[.agg #[.bool sa, .slice Aa na ca, .bool ta, .slice Ba ma da], .int .i64 (-(n : Int))] w (FOK (a⁻¹ ^ n) w) := by
  have t1 : decide (-(n : Int) < 0) = true := decide_eq_true (by omega)
  have t2 : -(n : Int) < 0 := by omega
  have o1 : IntKind.u64.wrap (-(n : Int)) = 18446744073709551616 - (n : Int) := by rw [IntKind.wrap_u64]; omega
  have o2 : IntKind.u64.wrap (-(18446744073709551616 - (n : Int))) = (n : Int) := by rw [IntKind.wrap_u64]; omega
  have o3 : IntKind.u64.wrap ((n : Int) - 18446744073709551616) = (n : Int) := by rw [IntKind.wrap_u64]; omega
  have hfd : ∀ (s t : Bool) (A B : Option Addr) (p q p2 q2 : Nat) (W : World), (Instr.field 63 (.agg #[.bool s, .slice A p q, .bool t, .slice B p2 q2]) 0).run Tryz.prog W = .ok (.agg #[.bool s, .slice A p q, .bool t, .slice B p2 q2]) W := fun _ _ _ _ _ _ _ _ _ => by kernel_rfl
  obtain ⟨ka1, ka2⟩ := ha.ln la
  obtain ⟨hp1, hp2⟩ := fl_pow lr
  have hn64 : n ≤ 18446744073709551615 := by omega
  have hE := ((Env.start w).fv ha).blk 26 #[.bool sa, .slice Aa na ca, .bool ta, .slice Ba ma da] (g := w.heap.size) rfl
  have hE := hE.blk 26 #[.bool false, .slice none 0 0, .bool false, .slice none 0 0] (g := w.heap.size + 1) (by simp)
  obtain ⟨W0, hW0⟩ : ∃ W0, W0 = ((w.alloc (.cells #[.bool sa, .slice Aa na ca, .bool ta, .slice Ba ma da] 26)).alloc (.cells #[.bool false, .slice none 0 0, .bool false, .slice none 0 0] 26)) := ⟨_, rfl⟩
  rw [← hW0] at hE
  have HW0 := Lib.hid hW0
  clear hW0
  go_enter Tryz.func14, Tryz.ntmps14
  go_upto_region 1 with (fail)
  rw [← HW0.out]
  obtain ⟨k1, k2, k3, k4⟩ := (hE.here.1.2).c4
  go_wp2_with fail
  have hc := fvalid_v0 (c := ca) (d := da) hE.here.1.1.2 la
  refine hc.mono ?_
  clear hc
  clear k1 k2 k3 k4
  rintro e w5 ⟨rfl, hb⟩
  replace hE := hE.step hb
  clear hb
  obtain ⟨k6, k7, k8, k9⟩ := (hE.here.1.2).c4
  go_wp2_with fail
  have hc := ftzero_v (c := ca) (d := da) hE.here.1.1.2 false (decide_eq_false ha0)
  refine hc.mono ?_
  clear hc
  clear k6 k7 k8 k9
  rintro e w10 ⟨rfl, hb⟩
  replace hE := hE.step hb
  clear hb
  obtain ⟨k11, k12, k13, k14⟩ := (hE.here.1.2).c4
  go_wp2_with fail
  have hc := flowest_v (ca := da) (cb := ca) (hE.here.1.1.2).2 (hE.here.1.1.2).1 (Nat.le_trans ka2 (by decide)) (Nat.le_trans ka1 (by decide)) ha0
  rw [inv_low] at hc
  refine hc.mono ?_
  clear hc
  clear k11 k12 k13 k14
  rintro e w9 ⟨sf, Af, nf, cf, tf, Bf, mf, df, rfl, hf, hb⟩
  replace hE := hE.step hb
  clear hb
  replace hE := hE.fv hf
  clear hf
  obtain ⟨hk1, hk2⟩ := (hE.here.2).ln li
  have hgl15 : w.heap.size ≤ w.heap.size := by omega
  obtain ⟨x15_0, x15_1, x15_2, x15_3⟩ := (hE.here.1.1.2).c4
  obtain ⟨f15_0, f15_1, f15_2, f15_3⟩ := hE.here.1.1.2.f4
  replace hE := (((((Env.again (bel4 hE.bel hgl15 (.bool sf) (.slice Af nf cf) (.bool tf) (.slice Bf mf df))).fv ((hE.here.1.1.1.2).sep4 hE.here.1.1.2 rfl (.bool sf) (.slice Af nf cf) (.bool tf) (.slice Bf mf df) rfl rfl rfl)).blkI ((hE.here.1.1.2).s4 (.bool sf) (.slice Af nf cf) (.bool tf) (.slice Bf mf df))).blkI ((hE.here.1.2).far4 (R := w.heap.size) (by omega) (.bool sf) (.slice Af nf cf) (.bool tf) (.slice Bf mf df))).fv ((hE.here.2).sep4 hE.here.1.1.2 rfl (.bool sf) (.slice Af nf cf) (.bool tf) (.slice Bf mf df) rfl rfl rfl))
  go_upto_region 9 with (fail)
  clear x15_0 x15_1 x15_2 x15_3 f15_0 f15_1 f15_2 f15_3 hgl15
  generalize ((((w9.setCell ⟨w.heap.size, 0, none⟩ (.bool sf)).setCell ⟨w.heap.size, 1, none⟩ (.slice Af nf cf)).setCell ⟨w.heap.size, 2, none⟩ (.bool tf)).setCell ⟨w.heap.size, 3, none⟩ (.slice Bf mf df)) = W15 at hE ⊢
  obtain ⟨k16, k17, k18, k19⟩ := (hE.here.1.1.2).c4
  go_wp2_with fail
  have hc := fpower_v (ca := cf) (hE.here.2).1 n hn64 hp1 (hk1)
  refine hc.mono ?_
  clear hc
  clear k16 k17 k18 k19
  rintro e w20 ⟨sx, Ax, nx, cx, rfl, hx, hb⟩
  replace hE := hE.step hb
  clear hb
  replace hE := hE.wv hx
  clear hx
  go_upto_region 10 with (fail)
  obtain ⟨g21, hg21⟩ : ∃ g21, g21 = w20.heap.size := ⟨_, rfl⟩
  have hl21_1 : w.heap.size < g21 := by rw [hg21]; exact (hE.here.1.1.1.2).lt
  have hl21_2 : w.heap.size + 1 < g21 := by rw [hg21]; exact (hE.here.1.1.2).lt
  replace hE := hE.blk 24 #[.bool sx, .slice Ax nx cx] (g := g21) hg21.symm
  generalize w20.alloc (.cells #[.bool sx, .slice Ax nx cx] 24) = W21 at hE ⊢
  rw [← hg21]
  clear hg21
  obtain ⟨k22, k23, k24, k25⟩ := (hE.here.1.1.1.1.2).c4
  go_wp2_with fail
  have hc := fpower_v (ca := df) (hE.here.1.1.2).2 n hn64 hp2 (hk2)
  refine hc.mono ?_
  clear hc
  clear k22 k23 k24 k25
  rintro e w26 ⟨sy, Ay, ny, cy, rfl, hy, hb⟩
  replace hE := hE.step hb
  clear hb
  replace hE := hE.wv hy
  clear hy
  go_upto_region 11 with (fail)
  obtain ⟨g27, hg27⟩ : ∃ g27, g27 = w26.heap.size := ⟨_, rfl⟩
  have hl27_1 : w.heap.size < g27 := by rw [hg27]; exact (hE.here.1.1.1.1.1.2).lt
  have hl27_2 : w.heap.size + 1 < g27 := by rw [hg27]; exact (hE.here.1.1.1.1.2).lt
  have hl27_5 : g21 < g27 := by rw [hg27]; exact (hE.here.1.2).lt
  replace hE := hE.blk 24 #[.bool sy, .slice Ay ny cy] (g := g27) hg27.symm
  generalize w26.alloc (.cells #[.bool sy, .slice Ay ny cy] 24) = W27 at hE ⊢
  rw [← hg27]
  clear hg27
  have hfv := fv_pow (q := a⁻¹) (hE.here.1.1.1.2) (hE.here.1.2)
  replace hE := hE.fv hfv
  clear hfv
  obtain ⟨k28, k29⟩ := (hE.here.1.1.1.2).c2
  obtain ⟨k30, k31⟩ := (hE.here.1.2).c2
  have hRl : w.heap.size ≤ w.heap.size + 1 := by omega
  obtain ⟨WW, hWW, hB, hV, hBel⟩ := ret_frac hE hE.here.1.1.1.1.1.1.2 hRl hE.here.2 cx cy
  obtain ⟨x0, x1, x2, x3⟩ := (hE.here.1.1.1.1.1.1.2).c4
  obtain ⟨fz0, fz1, fz2, fz3⟩ := hE.here.1.1.1.1.1.1.2.f4
  have HWW := Lib.hid hWW
  clear hWW
  go_wp2_with fail
  clear x0 x1 x2 x3
  rw [← HWW.out]
  obtain ⟨y0, y1, y2, y3⟩ := hB.c4
  refine bodyPost_ret (v := .tuple #[.agg #[.bool sx, .slice Ax nx cx, .bool sy, .slice Ay ny cy], .int .i64 0]) (by simp [results, Tryz.results14, go_sem, y0, y1, y2, y3]) rfl ?_
  exact ⟨sx, Ax, nx, cx, sy, Ay, ny, cy, rfl, hV, hBel⟩
end Go.Proofs.YtifikcemcflgjaaGreatDoor
namespace Go.Proofs.YtifikcemcflgjaaGreatDoor
open Go.RowKit

def botQ (a b : Rat) : Int := (a.den : Int) * b.num
def topQ (a b : Rat) : Int := a.num * (b.den : Int)
def kQ (a b : Rat) : Int := (topQ a b).fdiv (botQ a b)
def rQ (a b : Rat) : Int := (topQ a b).fmod (botQ a b)
def oddQ (a b : Rat) : Bool := (kQ a b).natAbs % 2 == 1
/-- Whether a is rounded up in the unit b. -/
def upQ (m : Nat) (a b : Rat) : Bool := upB m (decide (a.num < 0)) (oddQ a b) (cmpZ (rQ a b + rQ a b) (botQ a b))
/-- The number of units to which a is rounded. -/
def roundZ (m : Nat) (a b : Rat) : Int := if rQ a b = 0 then kQ a b else if upQ m a b then kQ a b + 1 else kQ a b
theorem fmod_len {a b : Int} {k : Nat} (hb : ln b16 b.natAbs ≤ k) (h0 : 0 < b) : ln b16 (a.fmod b).natAbs ≤ k := by
  refine Nat.le_trans (ln_mono b16_two ?_) hb
  have h1 := Int.fmod_nonneg_of_pos a h0
  have h2 := Int.fmod_lt_of_pos a h0
  omega
theorem fdiv_len2 {a b : Int} {k : Nat} (ha : ln b16 a.natAbs ≤ k) (hk : 1 ≤ k) : ln b16 (a.fdiv b).natAbs ≤ k + 1 := by
  refine Nat.le_trans (ln_mono b16_two (show (a.fdiv b).natAbs ≤ a.natAbs + 1 from ?_)) (ln_add b16_two (m := k) ha ((ln_le b16_two).2 (Nat.lt_of_lt_of_le (by decide) (Nat.pow_le_pow_right (by decide) hk))))
  have h1 := Int.natAbs_ediv_le_natAbs a b
  rw [Int.fdiv_eq_ediv]
  split <;> omega
theorem limb_zero {w : World} {z : Int} {s : Bool} {A : Option Addr} {n : Nat} (h : WV w z s A n) (h0 : 0 < n) : ∃ b o d, A = some ⟨b, o, none⟩ ∧ b < w.heap.size ∧ w.cell? ⟨b, o, none⟩ = some (.int .u16 ((d : Nat) : Int)) ∧ d % 2 = z.natAbs % 2 := by
  obtain ⟨hs, hl, hr⟩ := h
  obtain ⟨b, o, e, hb, hc⟩ := hr (by omega)
  have c1 := hc 0 (by omega)
  rw [Nat.add_zero] at c1
  refine ⟨b, o, dgt b16 z.natAbs 0, e, hb, c1, ?_⟩
  unfold dgt
  rw [Nat.pow_zero, Nat.div_one]
  exact Nat.mod_mod_of_dvd _ (by decide)
set_option linter.unusedSimpArgs false in
set_option maxRecDepth 100000 in
set_option maxHeartbeats 2000000 in
theorem ftneg_v {q : Rat} {s t : Bool} {A B : Option Addr} {n m c d : Nat} {w : World} (ha : FV w q s A n t B m) :
    Calls Tryz.prog 48 #[.agg #[.bool s, .slice A n c, .bool t, .slice B m d]] w (fun e w' => e = .returned (.bool s) ∧ Below w.heap.size w w') := by
  have hE := ((Env.start w).fv ha).blk 63 #[.bool s, .slice A n c, .bool t, .slice B m d] (g := w.heap.size) rfl
  obtain ⟨W0, hW0⟩ : ∃ W0, W0 = (w.alloc (.cells #[.bool s, .slice A n c, .bool t, .slice B m d] 63)) := ⟨_, rfl⟩
  rw [← hW0] at hE
  have HW0 := Lib.hid hW0
  clear hW0
  go_enter Tryz.func48, Tryz.ntmps48
  go_upto_region 1 with (fail)
  rw [← HW0.out]
  obtain ⟨k1, k2, k3, k4⟩ := (hE.here.2).c4
  go_wp2_with fail
  go_ret
  exact ⟨rfl, hE.bel⟩
theorem run_store_fn {P : Program} {w : World} {a : Addr} {m : Mode} (f : Fn) (x y : Array Value) : (store a (.func f x y) m).run P w = stored P w a (.func f x y) m := run_store P w a _ m rfl
attribute [local go_sem] run_store_fn
set_option linter.unusedSimpArgs false in
set_option maxRecDepth 100000 in
theorem upwards_v (w : World) : Calls Tryz.prog 51 #[] w fun e w' => e = .returned (.agg #[.func (.func 99) #[] #[], .func (.func 100) #[] #[], .func (.func 101) #[] #[], .func (.func 102) #[] #[], .func (.func 103) #[] #[], .func (.func 104) #[] #[]]) ∧ Below w.heap.size w w' := by
  have hB := Blk.new w 78 #[.nilFunc, .nilFunc, .nilFunc, .nilFunc, .nilFunc, .nilFunc]
  have hb : Below w.heap.size w (w.alloc (.cells #[.nilFunc, .nilFunc, .nilFunc, .nilFunc, .nilFunc, .nilFunc] 78)) := (Below.refl _ w).alloc (Nat.le_refl _) _
  obtain ⟨W0, hW0⟩ : ∃ W0, W0 = w.alloc (.cells #[.nilFunc, .nilFunc, .nilFunc, .nilFunc, .nilFunc, .nilFunc] 78) := ⟨_, rfl⟩
  rw [← hW0] at hB hb
  have HW0 := Lib.hid hW0
  clear hW0
  go_enter Tryz.func51, Tryz.ntmps51
  go_upto_region 1 with (fail)
  rw [← HW0.out]
  have k0 := hB.cell 0
  have z0 := hB.frozen 0
  have k1 := hB.cell 1
  have z1 := hB.frozen 1
  have k2 := hB.cell 2
  have z2 := hB.frozen 2
  have k3 := hB.cell 3
  have z3 := hB.frozen 3
  have k4 := hB.cell 4
  have z4 := hB.frozen 4
  have k5 := hB.cell 5
  have z5 := hB.frozen 5
  go_wp2_with fail
  have hB2 := ((((((hB.set_ 0 (.func (.func 99) #[] #[])).set_ 1 (.func (.func 100) #[] #[])).set_ 2 (.func (.func 101) #[] #[])).set_ 3 (.func (.func 102) #[] #[])).set_ 4 (.func (.func 103) #[] #[])).set_ 5 (.func (.func 104) #[] #[]))
  clear k0 z0 k1 z1 k2 z2 k3 z3 k4 z4 k5 z5
  have y0 := hB2.cell 0
  have y1 := hB2.cell 1
  have y2 := hB2.cell 2
  have y3 := hB2.cell 3
  have y4 := hB2.cell 4
  have y5 := hB2.cell 5
  simp at y0 y1 y2 y3 y4 y5
  refine bodyPost_ret (v := .agg #[.func (.func 99) #[] #[], .func (.func 100) #[] #[], .func (.func 101) #[] #[], .func (.func 102) #[] #[], .func (.func 103) #[] #[], .func (.func 104) #[] #[]]) (by simp [results, Tryz.results51, go_sem, y0, y1, y2, y3, y4, y5]) rfl ?_
  exact ⟨rfl, ((((((hb.setCell (p := ⟨w.heap.size, 0, none⟩) (Nat.le_refl _) (.func (.func 99) #[] #[])).setCell (p := ⟨w.heap.size, 1, none⟩) (Nat.le_refl _) (.func (.func 100) #[] #[])).setCell (p := ⟨w.heap.size, 2, none⟩) (Nat.le_refl _) (.func (.func 101) #[] #[])).setCell (p := ⟨w.heap.size, 3, none⟩) (Nat.le_refl _) (.func (.func 102) #[] #[])).setCell (p := ⟨w.heap.size, 4, none⟩) (Nat.le_refl _) (.func (.func 103) #[] #[])).setCell (p := ⟨w.heap.size, 5, none⟩) (Nat.le_refl _) (.func (.func 104) #[] #[]))⟩
theorem Blk.s3 {w : World} {t : TypeId} {g : Nat} {a b c : Value} (h : Blk t g #[a, b, c] w) (a' b' c' : Value) : Blk t g #[a', b', c'] (((w.setCell ⟨g, 0, none⟩ a').setCell ⟨g, 1, none⟩ b').setCell ⟨g, 2, none⟩ c') := by
  have := ((h.set_ 0 a').set_ 1 b').set_ 2 c'
  simpa using this
theorem At.off {w : World} {b o : Nat} {v : Value} (h : At b o v w) {p : Addr} (hp : b ≠ p.block) (u : Value) : At b o v (w.setCell p u) := by
  refine ⟨?_, ?_⟩
  · rw [World.size_setCell]; exact h.1
  · rw [World.cell?_setCell_other w _ _ u (fun e => hp (congrArg Addr.block e).symm)]; exact h.2
theorem At.far2 {w : World} {b o R : Nat} {v : Value} (h : At b o v w) (hp : b ≠ R) (a c : Value) : At b o v ((w.setCell ⟨R, 0, none⟩ a).setCell ⟨R, 1, none⟩ c) := (h.off (p := ⟨R, 0, none⟩) hp a).off (p := ⟨R, 1, none⟩) hp c
theorem At.far3 {w : World} {b o R : Nat} {v : Value} (h : At b o v w) (hp : b ≠ R) (a c d : Value) : At b o v (((w.setCell ⟨R, 0, none⟩ a).setCell ⟨R, 1, none⟩ c).setCell ⟨R, 2, none⟩ d) := (h.far2 hp a c).off (p := ⟨R, 2, none⟩) hp d
theorem At.far4 {w : World} {b o R : Nat} {v : Value} (h : At b o v w) (hp : b ≠ R) (a c d e : Value) : At b o v ((((w.setCell ⟨R, 0, none⟩ a).setCell ⟨R, 1, none⟩ c).setCell ⟨R, 2, none⟩ d).setCell ⟨R, 3, none⟩ e) := (h.far3 hp a c d).off (p := ⟨R, 3, none⟩) hp e
theorem At.apart {w : World} {b o g : Nat} {T : TypeId} {cs : Array Value} {d : Int} (h : At b o (.int .u16 d) w) (hW : Blk T g cs w) (hn : cs.toList.all noLimb = true) : b ≠ g := fun e => by
  subst e
  have h1 := h.2
  rw [hW.cell] at h1
  have h2 := List.all_eq_true.1 hn _ (Array.mem_toList_iff.2 (Array.mem_of_getElem? h1))
  cases h2
theorem Env.atI {w W : World} {P : World → Prop} {b o : Nat} {v : Value} (h : Env w P W) (ha : At b o v W) : Env w (fun V => P V ∧ At b o v V) W := h.and (At.stable b o v) ha
theorem Blk.far3 {w : World} {t : TypeId} {g R : Nat} {cs : Array Value} (h : Blk t g cs w) (hp : g ≠ R) (a b c : Value) : Blk t g cs (((w.setCell ⟨R, 0, none⟩ a).setCell ⟨R, 1, none⟩ b).setCell ⟨R, 2, none⟩ c) := (h.far2 hp a b).far (p := ⟨R, 2, none⟩) hp c
theorem WV.sep3 {w : World} {z : Int} {s : Bool} {A : Option Addr} {n g : Nat} {T : TypeId} {x y u : Value} (h : WV w z s A n) (hW : Blk T g #[x, y, u] w) (hn : [x, y, u].all noLimb = true) (a b c : Value) (ha : noLimb a = true) (hb : noLimb b = true) :
    WV (((w.setCell ⟨g, 0, none⟩ a).setCell ⟨g, 1, none⟩ b).setCell ⟨g, 2, none⟩ c) z s A n := by
  simp only [List.all_cons, List.all_nil, Bool.and_true, Bool.and_eq_true] at hn
  refine ((h.sep hW ?_ a).sep (hW.set_ 0 a) ?_ b).sep ((hW.set_ 0 a).set_ 1 b) ?_ c
  · show (noLimb x && (noLimb y && (noLimb u && true))) = true
    rw [hn.1, hn.2.1, hn.2.2]; rfl
  · show (noLimb a && (noLimb y && (noLimb u && true))) = true
    rw [ha, hn.2.1, hn.2.2]; rfl
  · show (noLimb a && (noLimb b && (noLimb u && true))) = true
    rw [ha, hb, hn.2.2]; rfl
theorem FV.sep3 {w : World} {q : Rat} {s t : Bool} {A B : Option Addr} {n m g : Nat} {T : TypeId} {x y u : Value} (h : FV w q s A n t B m) (hW : Blk T g #[x, y, u] w) (hn : [x, y, u].all noLimb = true) (a b c : Value) (ha : noLimb a = true) (hb : noLimb b = true) :
    FV (((w.setCell ⟨g, 0, none⟩ a).setCell ⟨g, 1, none⟩ b).setCell ⟨g, 2, none⟩ c) q s A n t B m := ⟨h.1.sep3 hW hn a b c ha hb, h.2.sep3 hW hn a b c ha hb⟩
theorem bel3 {w W : World} {g : Nat} (h : Below w.heap.size w W) (hg : w.heap.size ≤ g) (a b c : Value) : Below w.heap.size w (((W.setCell ⟨g, 0, none⟩ a).setCell ⟨g, 1, none⟩ b).setCell ⟨g, 2, none⟩ c) := (bel2 h hg a b).setCell (p := ⟨g, 2, none⟩) hg _
end Go.Proofs.YtifikcemcflgjaaGreatDoor
namespace Go.Proofs.YtifikcemcflgjaaGreatDoor
open Go.RowKit

theorem fl_one2 : fl 1 ≤ 256 := by rw [fl_le]; exact ⟨by decide, by decide⟩
set_option linter.unusedSimpArgs false in
set_option maxRecDepth 100000 in
set_option maxHeartbeats 2000000 in
theorem law_quick (n d : Int) (w : World) (h1 : -9223372036854775808 ≤ n) (h2 : n ≤ 9223372036854775807) (h3 : -9223372036854775808 ≤ d) (h4 : d ≤ 9223372036854775807) (hd : d ≠ 0) :
    Calls Tryz.prog 35 #[.int .i64 n, .int .i64 d] w (FR (Rat.divInt n d) w) := by
  have hE := Env.start w
  have hE := hE.blk 26 #[.bool false, .slice none 0 0, .bool false, .slice none 0 0] (g := w.heap.size) rfl
  obtain ⟨W0, hW0⟩ : ∃ W0, W0 = (w.alloc (.cells #[.bool false, .slice none 0 0, .bool false, .slice none 0 0] 26)) := ⟨_, rfl⟩
  rw [← hW0] at hE
  have HW0 := Lib.hid hW0
  clear hW0
  go_enter Tryz.func35, Tryz.ntmps35
  go_upto_region 1 with (fail)
  rw [← HW0.out]
  go_wp2_with fail
  have hc := rquick_v n d W0 h1 h2 h3 h4 hd
  refine hc.mono ?_
  clear hc
  rintro e w1 ⟨sf, Af, nf, cf, tf, Bf, mf, df, rfl, hf, hb⟩
  replace hE := hE.step hb
  clear hb
  replace hE := hE.fv hf
  clear hf
  have hRl : w.heap.size ≤ w.heap.size := by omega
  obtain ⟨WW, hWW, hB, hV, hBel⟩ := ret_frac hE hE.here.1.2 hRl hE.here.2 cf df
  obtain ⟨x0, x1, x2, x3⟩ := (hE.here.1.2).c4
  obtain ⟨fz0, fz1, fz2, fz3⟩ := hE.here.1.2.f4
  have HWW := Lib.hid hWW
  clear hWW
  go_wp2_with fail
  rw [← HWW.out]
  obtain ⟨y0, y1, y2, y3⟩ := hB.c4
  refine bodyPost_ret (v := .agg #[.bool sf, .slice Af nf cf, .bool tf, .slice Bf mf df]) (by simp [results, Tryz.results35, go_sem, y0, y1, y2, y3]) rfl ?_
  exact ⟨sf, Af, nf, cf, tf, Bf, mf, df, rfl, hV, hBel⟩
set_option linter.unusedSimpArgs false in
set_option maxRecDepth 100000 in
set_option maxHeartbeats 2000000 in
theorem lw_equal {a b : Rat} {v : Bool} {sa ta sb tb : Bool} {Aa Ba Ab Bb : Option Addr} {na ca ma da nb cb mb db : Nat} {w : World} (ha : FV w a sa Aa na ta Ba ma) (hb : FV w b sb Ab nb tb Bb mb) (la : fl a ≤ 256) (lb : fl b ≤ 256) (h : decide (a = b) = v) :
    Calls Tryz.prog 33 #[.agg #[.bool sa, .slice Aa na ca, .bool ta, .slice Ba ma da], .agg #[.bool sb, .slice Ab nb cb, .bool tb, .slice Bb mb db]] w (fun e w' => e = .returned (.bool v) ∧ Below w.heap.size w w') := by
  have hE := ((((Env.start w).fv ha).fv hb).blk 26 #[.bool sa, .slice Aa na ca, .bool ta, .slice Ba ma da] (g := w.heap.size) rfl).blk 26 #[.bool sb, .slice Ab nb cb, .bool tb, .slice Bb mb db] (g := w.heap.size + 1) (by simp)
  obtain ⟨W0, hW0⟩ : ∃ W0, W0 = ((w.alloc (.cells #[.bool sa, .slice Aa na ca, .bool ta, .slice Ba ma da] 26)).alloc (.cells #[.bool sb, .slice Ab nb cb, .bool tb, .slice Bb mb db] 26)) := ⟨_, rfl⟩
  rw [← hW0] at hE
  have HW0 := Lib.hid hW0
  clear hW0
  go_enter Tryz.func33, Tryz.ntmps33
  go_upto_region 1 with (fail)
  rw [← HW0.out]
  have l1 := (hE.here.1.1.1.2).ln la
  have l2 := (hE.here.1.1.2).ln lb
  obtain ⟨k1, k2, k3, k4⟩ := (hE.here.1.2).c4
  obtain ⟨k5, k6, k7, k8⟩ := (hE.here.2).c4
  go_wp2_with fail
  have hc := fvalid_v0 (c := ca) (d := da) hE.here.1.1.1.2 la
  refine hc.mono ?_
  clear hc
  clear k1 k2 k3 k4 k5 k6 k7 k8
  rintro e w9 ⟨rfl, hb⟩
  replace hE := hE.step hb
  clear hb
  obtain ⟨k10, k11, k12, k13⟩ := (hE.here.1.2).c4
  obtain ⟨k14, k15, k16, k17⟩ := (hE.here.2).c4
  go_wp2_with fail
  have hc := fvalid_v0 (c := cb) (d := db) hE.here.1.1.2 lb
  refine hc.mono ?_
  clear hc
  clear k10 k11 k12 k13 k14 k15 k16 k17
  rintro e w18 ⟨rfl, hb⟩
  replace hE := hE.step hb
  clear hb
  obtain ⟨k19, k20, k21, k22⟩ := (hE.here.1.2).c4
  obtain ⟨k23, k24, k25, k26⟩ := (hE.here.2).c4
  go_wp2_with fail
  have hc := frsame_v (ca := ca) (da := da) (cb := cb) (db := db) hE.here.1.1.1.2 hE.here.1.1.2 (by omega) (by omega) (by omega) (by omega)
  rw [h] at hc
  refine hc.mono ?_
  clear hc
  clear k19 k20 k21 k22 k23 k24 k25 k26
  rintro e w9 ⟨rfl, hb⟩
  replace hE := hE.step hb
  go_wp2_with fail
  go_ret
  exact ⟨rfl, hE.bel⟩
set_option linter.unusedSimpArgs false in
set_option maxRecDepth 100000 in
set_option maxHeartbeats 2000000 in
theorem law_is {a : Rat} {sa ta : Bool} {Aa Ba : Option Addr} {na ca ma da : Nat} {w : World} {n d : Int} (ha : FV w a sa Aa na ta Ba ma) (la : fl a ≤ 256) (h1 : -9223372036854775808 ≤ n) (h2 : n ≤ 9223372036854775807) (h3 : -9223372036854775808 ≤ d) (h4 : d ≤ 9223372036854775807) (hd : d ≠ 0) (h : a = Rat.divInt n d) :
    Calls Tryz.prog 36 #[.agg #[.bool sa, .slice Aa na ca, .bool ta, .slice Ba ma da], .int .i64 0, .int .i64 n, .int .i64 d] w (fun e w' => e = .returned (.bool true) ∧ Below w.heap.size w w') := by
  have hE := ((Env.start w).fv ha).blk 26 #[.bool sa, .slice Aa na ca, .bool ta, .slice Ba ma da] (g := w.heap.size) rfl
  obtain ⟨W0, hW0⟩ : ∃ W0, W0 = (w.alloc (.cells #[.bool sa, .slice Aa na ca, .bool ta, .slice Ba ma da] 26)) := ⟨_, rfl⟩
  rw [← hW0] at hE
  have HW0 := Lib.hid hW0
  clear hW0
  go_enter Tryz.func36, Tryz.ntmps36
  go_upto_region 1 with (fail)
  rw [← HW0.out]
  have l1 := (hE.here.1.2).ln la
  replace hE := hE.drew
  refine wp_region_held_drew (S := fun w' => w'.cell? ⟨w.heap.size, 0, none⟩ = some (.bool sa) ∧ w'.cell? ⟨w.heap.size, 1, none⟩ = some (.slice Aa na ca) ∧ w'.cell? ⟨w.heap.size, 2, none⟩ = some (.bool ta) ∧ w'.cell? ⟨w.heap.size, 3, none⟩ = some (.slice Ba ma da)) (by kernel_rfl) (hE.here.2.c4) (fun hHeld => ?_)
  refine tk 0 ?_
  try simp only [PL]
  refine tk 1 ?_
  try simp only [PL]
  refine tk 2 ?_
  try simp only [PL]
  refine tk 3 ?_
  try simp only [PL]
  refine tk 4 ?_
  try simp only [PL]
  refine tk 5 ?_
  try simp only [PL]
  refine r1 6 (fun K hK => ?_)
  go_simp
  have hc := law_quick n d W0.drew h1 h2 h3 h4 hd
  refine hc.mono ?_
  clear hc
  rintro e w1 ⟨sf, Af, nf, cf, tf, Bf, mf, df, rfl, hf, hb⟩
  replace hE := hE.step hb
  clear hb
  replace hE := hE.fv hf
  clear hf
  go_wp2_with fail
  refine hK.out _ _ (hE.here.1.2.c4) (fun hHeld => ?_)
  clear hK K
  try simp only [PL]
  refine r1 7 (fun K hK => ?_)
  go_simp
  have l2 := (hE.here.2).ln (by rw [← h]; exact la)
  have hc := frsame_v (ca := ca) (da := da) (cb := cf) (db := df) hE.here.1.1.2 hE.here.2 (by omega) (by omega) (by omega) (by omega)
  rw [decide_eq_true h] at hc
  refine hc.mono ?_
  clear hc
  rintro e w9 ⟨rfl, hb⟩
  replace hE := hE.step hb
  clear hb
  go_wp2_with fail
  refine hK.out _ _ (hE.here.1.2.c4) (fun hHeld => ?_)
  clear hK K
  try simp only [PL]
  refine tk 8 ?_
  try simp only [PL]
  refine tk 9 ?_
  try simp only [PL]
  refine wpAnyH_done (by kernel_rfl) ?_ _
  go_wp2_with fail
  go_ret
  exact ⟨rfl, hE.bel⟩
end Go.Proofs.YtifikcemcflgjaaGreatDoor
namespace Go.Proofs.YtifikcemcflgjaaGreatDoor
open Go.RowKit

/-- A fraction as it lies in memory, right or not. -/
structure Fc where
  s : Bool
  A : Option Addr
  n : Nat
  c : Nat
  f : Nat → Nat
  t : Bool
  B : Option Addr
  m : Nat
  d : Nat
  g : Nat → Nat
def Fc.cells (h : Fc) (w : World) (b o : Nat) : Prop := w.cell? ⟨b, o, none⟩ = some (.bool h.s) ∧ w.cell? ⟨b, o + 1, none⟩ = some (.slice h.A h.n h.c) ∧ w.cell? ⟨b, o + 2, none⟩ = some (.bool h.t) ∧ w.cell? ⟨b, o + 3, none⟩ = some (.slice h.B h.m h.d)
def Fc.rd (h : Fc) (w : World) : Prop := FRd w h.A h.n h.f h.B h.m h.g
def Fc.ok (h : Fc) : Bool := okF h.s h.n h.f h.t h.m h.g
theorem Fc.cells_below {h : Fc} {w w' : World} {b o : Nat} (hc : h.cells w b o) (hb : Below w.heap.size w w') (hlt : b < w.heap.size) : h.cells w' b o :=
  ⟨(hb.cell (p := ⟨b, o, none⟩) hlt).trans hc.1, (hb.cell (p := ⟨b, o + 1, none⟩) hlt).trans hc.2.1, (hb.cell (p := ⟨b, o + 2, none⟩) hlt).trans hc.2.2.1, (hb.cell (p := ⟨b, o + 3, none⟩) hlt).trans hc.2.2.2⟩
/-- A row of fractions in the block b. -/
def RowC (b o n : Nat) (h : Nat → Fc) (w : World) : Prop := b < w.heap.size ∧ ∀ k, k < n → (h k).cells w b (o + k * 4) ∧ (h k).rd w
theorem RowC.stable (b o n : Nat) (h : Nat → Fc) : Stable (RowC b o n h) := fun _ _ hb hr =>
  ⟨Nat.lt_of_lt_of_le hr.1 hb.size, fun k hk => ⟨Fc.cells_below (hr.2 k hk).1 hb hr.1, FRd.below (hr.2 k hk).2 hb⟩⟩
def Fc.sh (h : Fc) (most : Int) : Prop := (h.n : Int) ≤ most ∧ (h.m : Int) ≤ most
def ShortP (n : Nat) (h : Nat → Fc) (most : Int) (w : World) (e : Ending) (w' : World) : Prop := ∃ v, e = .returned (.bool v) ∧ (v = true → ∀ k, k < n → (h k).sh most) ∧ Below w.heap.size w w'
theorem no_false {P : Prop} : (false = true → P) := fun h => by cases h
set_option linter.unusedSimpArgs false in
set_option maxRecDepth 100000 in
set_option maxHeartbeats 2000000 in
theorem short_v (b o n c : Nat) (h : Nat → Fc) (w : World) (most : Int) (hn9 : n ≤ 1000000) (hr : RowC b o n h w) :
    Calls Tryz.prog 7 #[.int .i64 most, .slice (some ⟨b, o, none⟩) n c] w (ShortP n h most w) := by
  have hE := (Env.start w).and (RowC.stable b o n h) hr
  clear hr
  go_enter Tryz.func7, Tryz.ntmps7
  go_wp2_with fail
  go_loopw [5] (fun x wr => ∃ k : Nat, k ≤ n ∧ x = .int .i64 (k : Int) ∧ Hid (∀ j, j < k → (h j).sh most) ∧ Env w (fun V => True ∧ RowC b o n h V) wr) (fun x _ => n - (intOf x).toNat)
  case atStart => exact ⟨0, Nat.zero_le _, rfl, Lib.hid (fun j hj => absurd hj (by omega)), hE⟩
  case round =>
    clear hE
    obtain ⟨k, hk, rfl, HK, hE⟩ := hrel
    by_cases hlt : k < n
    · obtain ⟨H, hH⟩ : ∃ H, H = h k := ⟨_, rfl⟩
      obtain ⟨hbl, hcs⟩ := hE.here.2
      obtain ⟨hcl, -⟩ := hcs k hlt
      rw [← hH] at hcl
      have HH := Lib.hid hH
      clear hH hcs
      obtain ⟨hs, hA, hn, hc, hf, ht, hD, hm, hd, hg⟩ := H
      obtain ⟨d0, d1, d2, d3⟩ := hcl
      dsimp only at d0 d1 d2 d3
      have t1 : decide ((k : Int) < (n : Int)) = true := decide_eq_true (by omega)
      have t2 : (k : Int) < (n : Int) := by omega
      by_cases hl1 : most < (hn : Int)
      · have u4 : decide (most < (hn : Int)) = true := decide_eq_true hl1
        clear hl1
        go_wp2_with fail
        go_ret
        exact ⟨false, rfl, no_false, hE.bel⟩
      · have u4 : decide (most < (hn : Int)) = false := decide_eq_false hl1
        have HL1 := Lib.hid hl1
        clear hl1
        by_cases hl2 : most < (hm : Int)
        · have u5 : decide (most < (hm : Int)) = true := decide_eq_true hl2
          clear hl2
          go_wp2_with fail
          go_ret
          exact ⟨false, rfl, no_false, hE.bel⟩
        · have u5 : decide (most < (hm : Int)) = false := decide_eq_false hl2
          have HL2 := Lib.hid hl2
          clear hl2
          have hk9 : k < 1000000 := by omega
          go_wp2_with fail
          go_roundw
          case rel =>
            refine ⟨k + 1, by omega, by go_num, Lib.hid (fun j hj => ?_), hE⟩
            rcases Nat.lt_or_ge j k with h9 | h9
            · exact HK.out j h9
            · obtain rfl : j = k := by omega
              rw [← HH.out]
              have a1 := HL1.out
              have a2 := HL2.out
              exact ⟨by dsimp only; omega, by dsimp only; omega⟩
          case measure => (simp [intOf]) <;> omega
    · obtain rfl : k = n := by omega
      have u1 : decide ((k : Int) < (k : Int)) = false := decide_eq_false (by omega)
      go_wp2_with fail
      go_ret
      exact ⟨true, rfl, fun _ => HK.out, hE.bel⟩
/-- What usable says of a fraction. -/
def Fc.us (h : Fc) : Prop := h.sh 40 ∧ h.ok = true
def UsableP (n : Nat) (h : Nat → Fc) (w : World) (e : Ending) (w' : World) : Prop := ∃ v, e = .returned (.bool v) ∧ (v = true → ∀ k, k < n → (h k).us) ∧ Below w.heap.size w w'
set_option linter.unusedSimpArgs false in
set_option maxRecDepth 100000 in
set_option maxHeartbeats 2000000 in
theorem usable_v2 (b o n c : Nat) (h : Nat → Fc) (w : World) (hn9 : n ≤ 1000000) (hr : RowC b o n h w) :
    Calls Tryz.prog 31 #[.slice (some ⟨b, o, none⟩) n c] w (UsableP n h w) := by
  have hE := (Env.start w).and (RowC.stable b o n h) hr
  clear hr
  go_enter Tryz.func31, Tryz.ntmps31
  go_wp2_with fail
  go_loopw [3] (fun x wr => ∃ k : Nat, k ≤ n ∧ x = .int .i64 (k : Int) ∧ Hid (∀ j, j < k → (h j).us) ∧ Env w (fun V => True ∧ RowC b o n h V) wr) (fun x _ => n - (intOf x).toNat)
  case atStart => exact ⟨0, Nat.zero_le _, rfl, Lib.hid (fun j hj => absurd hj (by omega)), hE⟩
  case round =>
    clear hE
    obtain ⟨k, hk, rfl, HK, hE⟩ := hrel
    by_cases hlt : k < n
    · obtain ⟨H, hH⟩ : ∃ H, H = h k := ⟨_, rfl⟩
      obtain ⟨hbl, hcs⟩ := hE.here.2
      obtain ⟨hcl, hrd⟩ := hcs k hlt
      rw [← hH] at hcl hrd
      have HH := Lib.hid hH
      clear hH hcs
      obtain ⟨hs, hA, hn, hc, hf, ht, hD, hm, hd, hg⟩ := H
      obtain ⟨d0, d1, d2, d3⟩ := hcl
      dsimp only at d0 d1 d2 d3
      unfold Fc.rd at hrd
      dsimp only at hrd
      have t1 : decide ((k : Int) < (n : Int)) = true := decide_eq_true (by omega)
      have t2 : (k : Int) < (n : Int) := by omega
      replace hE := hE.blk 26 #[.bool hs, .slice hA hn hc, .bool ht, .slice hD hm hd] (g := wr.heap.size) rfl
      have hrd2 := hrd.below ((Below.refl wr.heap.size wr).alloc (Nat.le_refl _) (.cells #[.bool hs, .slice hA hn hc, .bool ht, .slice hD hm hd] 26))
      go_wp2_with fail
      refine (short_v wr.heap.size 0 1 1 (fun _ => ⟨hs, hA, hn, hc, hf, ht, hD, hm, hd, hg⟩) _ 40 (by decide) ⟨hE.here.2.lt, fun j hj => ?_⟩).mono ?_
      · obtain rfl : j = 0 := by omega
        exact ⟨hE.here.2.c4, hrd2⟩
      clear hrd2 d0 d1 d2 d3
      rintro e w1 ⟨v, rfl, hv, hb⟩
      replace hE := hE.step hb
      clear hb
      cases v with
      | false =>
        clear hv
        go_wp2_with fail
        go_ret
        exact ⟨false, rfl, no_false, hE.bel⟩
      | true =>
        have HS := Lib.hid (hv rfl 0 (by decide))
        clear hv
        obtain ⟨hbl2, hcs⟩ := hE.here.1.2
        obtain ⟨hcl, hrd2⟩ := hcs k hlt
        rw [← HH.out] at hcl hrd2
        unfold Fc.rd at hrd2
        dsimp only at hrd2
        obtain ⟨d0, d1, d2, d3⟩ := hcl
        dsimp only at d0 d1 d2 d3
        clear hcs
        obtain ⟨r, hr⟩ : ∃ r, okF hs hn hf ht hm hg = r := ⟨_, rfl⟩
        go_wp2_with fail
        refine (fvalid_r hs ht hA hD hn hm hc hd hf hg w1 hrd2 (by have := HS.out.1; dsimp only at this; omega) (by have := HS.out.2; dsimp only at this; omega) r hr).mono ?_
        clear d0 d1 d2 d3
        rintro e w2 ⟨rfl, hb⟩
        replace hE := hE.step hb
        clear hb
        have HR := Lib.hid hr
        clear hr hrd2
        cases r with
        | false =>
          go_wp2_with fail
          go_ret
          exact ⟨false, rfl, no_false, hE.bel⟩
        | true =>
          have hk9 : k < 1000000 := by omega
          go_wp2_with fail
          go_roundw
          case rel =>
            refine ⟨k + 1, by omega, by go_num, Lib.hid (fun j hj => ?_), (Env.again hE.bel).and (RowC.stable b o n h) hE.here.1.2⟩
            rcases Nat.lt_or_ge j k with h9 | h9
            · exact HK.out j h9
            · obtain rfl : j = k := by omega
              rw [← HH.out]
              exact ⟨HS.out, HR.out⟩
          case measure => (simp [intOf]) <;> omega
    · obtain rfl : k = n := by omega
      have u1 : decide ((k : Int) < (k : Int)) = false := decide_eq_false (by omega)
      go_wp2_with fail
      go_ret
      exact ⟨true, rfl, fun _ => HK.out, hE.bel⟩
end Go.Proofs.YtifikcemcflgjaaGreatDoor
namespace Go.Proofs.YtifikcemcflgjaaGreatDoor
open Go.RowKit

theorem fl_div {N D : Int} {k : Nat} (h : 0 < D) (h1 : ln b16 N.natAbs ≤ k) (h2 : ln b16 D.natAbs ≤ k) : fl (Rat.divInt N D) ≤ k := by
  obtain ⟨e1, e2⟩ := low_num (n := N) h
  rw [fl_le]
  refine ⟨?_, ?_⟩
  · rw [e1]; exact Nat.le_trans (ln_mono b16_two (Int.natAbs_ediv_le_natAbs _ _)) h1
  · have e3 : (Rat.divInt N D).den = (D / ((Nat.gcd N.natAbs D.natAbs : Nat) : Int)).natAbs := by omega
    rw [e3]; exact Nat.le_trans (ln_mono b16_two (Int.natAbs_ediv_le_natAbs _ _)) h2
theorem fl_z {a : Rat} {i : Nat} (ha : fl a ≤ i) : ln b16 a.num.natAbs ≤ i ∧ ln b16 ((a.den : Int)).natAbs ≤ i := by
  rw [Int.natAbs_natCast]; exact fl_le.1 ha
theorem den_posZ (a : Rat) : 0 < (a.den : Int) := by have := a.den_pos; omega
theorem fl_plus {a b : Rat} {i j : Nat} (ha : fl a ≤ i) (hb : fl b ≤ j) : fl (a + b) ≤ i + j + 1 := by
  obtain ⟨a1, a2⟩ := fl_z ha
  obtain ⟨b1, b2⟩ := fl_z hb
  rw [← add_low]
  refine fl_div (Int.mul_pos (den_posZ a) (den_posZ b)) (ln_addZ (m := i + j) (ln_mulZ a1 b2) (Nat.le_trans (ln_mulZ b1 a2) (by omega))) (Nat.le_trans (ln_mulZ a2 b2) (by omega))
theorem fl_minus {a b : Rat} {i j : Nat} (ha : fl a ≤ i) (hb : fl b ≤ j) : fl (a - b) ≤ i + j + 1 := by
  obtain ⟨a1, a2⟩ := fl_z ha
  obtain ⟨b1, b2⟩ := fl_z hb
  rw [← sub_low]
  refine fl_div (Int.mul_pos (den_posZ a) (den_posZ b)) (ln_addZ (m := i + j) (ln_mulZ a1 b2) (by rw [Int.natAbs_neg]; exact Nat.le_trans (ln_mulZ b1 a2) (by omega))) (Nat.le_trans (ln_mulZ a2 b2) (by omega))
theorem fl_times {a b : Rat} {i j : Nat} (ha : fl a ≤ i) (hb : fl b ≤ j) : fl (a * b) ≤ i + j := by
  obtain ⟨a1, a2⟩ := fl_z ha
  obtain ⟨b1, b2⟩ := fl_z hb
  rw [← mul_low]
  exact fl_div (Int.mul_pos (den_posZ a) (den_posZ b)) (ln_mulZ a1 b1) (ln_mulZ a2 b2)
theorem fl_over {a b : Rat} {i j : Nat} (ha : fl a ≤ i) (hb : fl b ≤ j) (h0 : b.num ≠ 0) : fl (a / b) ≤ i + j := by
  obtain ⟨a1, a2⟩ := fl_z ha
  obtain ⟨b1, b2⟩ := fl_z hb
  rw [← div_low]
  rcases Int.lt_trichotomy b.num 0 with h | h | h
  · rw [← low_neg]
    refine fl_div ?_ (by rw [Int.natAbs_neg]; exact ln_mulZ a1 b2) (by rw [Int.natAbs_neg]; exact ln_mulZ a2 b1)
    rw [← Int.mul_neg]
    exact Int.mul_pos (den_posZ a) (by omega)
  · exact absurd h h0
  · exact fl_div (Int.mul_pos (den_posZ a) h) (ln_mulZ a1 b2) (ln_mulZ a2 b1)
theorem fl_le2 {a : Rat} {i j : Nat} (h : fl a ≤ i) (h2 : i ≤ j) : fl a ≤ j := Nat.le_trans h h2
/-- Three fractions in a row. -/
def sel3 (a b c : Fc) (k : Nat) : Fc := if k = 0 then a else if k = 1 then b else c
theorem rowC3 {w : World} {T : TypeId} {g n : Nat} {a b c : Fc} {cs : Array Value} (hB : Blk T g cs w)
    (hc : ∀ k, k < n → cs[k * 4]? = some (.bool (sel3 a b c k).s) ∧ cs[k * 4 + 1]? = some (.slice (sel3 a b c k).A (sel3 a b c k).n (sel3 a b c k).c) ∧ cs[k * 4 + 2]? = some (.bool (sel3 a b c k).t) ∧ cs[k * 4 + 3]? = some (.slice (sel3 a b c k).B (sel3 a b c k).m (sel3 a b c k).d))
    (hr : ∀ k, k < n → (sel3 a b c k).rd w) : RowC g 0 n (sel3 a b c) w := ⟨hB.lt, fun k hk => by
  obtain ⟨h1, h2, h3, h4⟩ := hc k hk
  refine ⟨?_, hr k hk⟩
  unfold Fc.cells
  simp only [Nat.zero_add]
  exact ⟨(hB.cell _).trans h1, (hB.cell _).trans h2, (hB.cell _).trans h3, (hB.cell _).trans h4⟩⟩
def UseC (P : Prop) (w : World) (e : Ending) (w' : World) : Prop := ∃ v, e = .returned (.bool v) ∧ (v = true → P) ∧ Below w.heap.size w w'
theorem usable3 (a b c : Fc) (w : World) (ra : a.rd w) (rb : b.rd w) (rc : c.rd w) :
    Calls Tryz.prog 31 #[.slice (some ⟨w.heap.size, 0, none⟩) 3 3] (w.alloc (.cells #[.bool a.s, .slice a.A a.n a.c, .bool a.t, .slice a.B a.m a.d, .bool b.s, .slice b.A b.n b.c, .bool b.t, .slice b.B b.m b.d, .bool c.s, .slice c.A c.n c.c, .bool c.t, .slice c.B c.m c.d] 26)) (UseC (a.us ∧ b.us ∧ c.us) w) := by
  have hb : ∀ o, Below w.heap.size w (w.alloc o) := fun o => (Below.refl _ _).alloc (Nat.le_refl _) _
  refine (usable_v2 w.heap.size 0 3 3 (sel3 a b c) _ (by decide) (rowC3 (Blk.new w 26 _) ?_ ?_)).mono ?_
  · intro k hk
    rcases (show k = 0 ∨ k = 1 ∨ k = 2 by omega) with rfl | rfl | rfl <;> exact ⟨rfl, rfl, rfl, rfl⟩
  · intro k hk
    rcases (show k = 0 ∨ k = 1 ∨ k = 2 by omega) with rfl | rfl | rfl
    · exact FRd.below ra (hb _)
    · exact FRd.below rb (hb _)
    · exact FRd.below rc (hb _)
  · rintro e w' ⟨v, rfl, hv, hbb⟩
    exact ⟨v, rfl, fun h => ⟨hv h 0 (by decide), hv h 1 (by decide), hv h 2 (by decide)⟩, (hb _).trans (hbb.mono (hb _).size)⟩
theorem usable2 (a b : Fc) (w : World) (ra : a.rd w) (rb : b.rd w) :
    Calls Tryz.prog 31 #[.slice (some ⟨w.heap.size, 0, none⟩) 2 2] (w.alloc (.cells #[.bool a.s, .slice a.A a.n a.c, .bool a.t, .slice a.B a.m a.d, .bool b.s, .slice b.A b.n b.c, .bool b.t, .slice b.B b.m b.d] 26)) (UseC (a.us ∧ b.us) w) := by
  have hb : ∀ o, Below w.heap.size w (w.alloc o) := fun o => (Below.refl _ _).alloc (Nat.le_refl _) _
  refine (usable_v2 w.heap.size 0 2 2 (sel3 a b b) _ (by decide) (rowC3 (Blk.new w 26 _) ?_ ?_)).mono ?_
  · intro k hk
    rcases (show k = 0 ∨ k = 1 by omega) with rfl | rfl <;> exact ⟨rfl, rfl, rfl, rfl⟩
  · intro k hk
    rcases (show k = 0 ∨ k = 1 by omega) with rfl | rfl
    · exact FRd.below ra (hb _)
    · exact FRd.below rb (hb _)
  · rintro e w' ⟨v, rfl, hv, hbb⟩
    exact ⟨v, rfl, fun h => ⟨hv h 0 (by decide), hv h 1 (by decide)⟩, (hb _).trans (hbb.mono (hb _).size)⟩
theorem usable1 (a : Fc) (w : World) (ra : a.rd w) :
    Calls Tryz.prog 31 #[.slice (some ⟨w.heap.size, 0, none⟩) 1 1] (w.alloc (.cells #[.bool a.s, .slice a.A a.n a.c, .bool a.t, .slice a.B a.m a.d] 26)) (UseC a.us w) := by
  have hb : ∀ o, Below w.heap.size w (w.alloc o) := fun o => (Below.refl _ _).alloc (Nat.le_refl _) _
  refine (usable_v2 w.heap.size 0 1 1 (sel3 a a a) _ (by decide) (rowC3 (Blk.new w 26 _) ?_ ?_)).mono ?_
  · intro k hk
    obtain rfl : k = 0 := by omega
    exact ⟨rfl, rfl, rfl, rfl⟩
  · intro k hk
    obtain rfl : k = 0 := by omega
    exact FRd.below ra (hb _)
  · rintro e w' ⟨v, rfl, hv, hbb⟩
    exact ⟨v, rfl, fun h => hv h 0 (by decide), (hb _).trans (hbb.mono (hb _).size)⟩
theorem short2 (a b : Fc) (most : Int) (w : World) (ra : a.rd w) (rb : b.rd w) :
    Calls Tryz.prog 7 #[.int .i64 most, .slice (some ⟨w.heap.size, 0, none⟩) 2 2] (w.alloc (.cells #[.bool a.s, .slice a.A a.n a.c, .bool a.t, .slice a.B a.m a.d, .bool b.s, .slice b.A b.n b.c, .bool b.t, .slice b.B b.m b.d] 26)) (UseC (a.sh most ∧ b.sh most) w) := by
  have hb : ∀ o, Below w.heap.size w (w.alloc o) := fun o => (Below.refl _ _).alloc (Nat.le_refl _) _
  refine (short_v w.heap.size 0 2 2 (sel3 a b b) _ most (by decide) (rowC3 (Blk.new w 26 _) ?_ ?_)).mono ?_
  · intro k hk
    rcases (show k = 0 ∨ k = 1 by omega) with rfl | rfl <;> exact ⟨rfl, rfl, rfl, rfl⟩
  · intro k hk
    rcases (show k = 0 ∨ k = 1 by omega) with rfl | rfl
    · exact FRd.below ra (hb _)
    · exact FRd.below rb (hb _)
  · rintro e w' ⟨v, rfl, hv, hbb⟩
    exact ⟨v, rfl, fun h => ⟨hv h 0 (by decide), hv h 1 (by decide)⟩, (hb _).trans (hbb.mono (hb _).size)⟩
/-- A usable fraction is a number with parts of at most 40 limbs. -/
theorem us_fv {s t : Bool} {A B : Option Addr} {n c m d : Nat} {f g : Nat → Nat} {w : World} (h : (Fc.mk s A n c f t B m d g).us) (hr : FRd w A n f B m g) : ∃ q : Rat, FV w q s A n t B m ∧ fl q ≤ 40 := by
  obtain ⟨⟨h1, h2⟩, h3⟩ := h
  dsimp only at h1 h2
  obtain ⟨q, hq, -, -, -⟩ := okF_fv hr h3
  refine ⟨q, hq, fl_le.2 ⟨?_, ?_⟩⟩
  · rw [← hq.1.len]; omega
  · have := hq.2.len
    rw [Int.natAbs_natCast] at this
    rw [← this]; omega
theorem FRd.stable (A : Option Addr) (n : Nat) (f : Nat → Nat) (B : Option Addr) (m : Nat) (g : Nat → Nat) : Stable (fun w => FRd w A n f B m g) := fun _ _ hb h => h.below hb
theorem Env.frd {w W : World} {P : World → Prop} {A B : Option Addr} {n m : Nat} {f g : Nat → Nat} (h : Env w P W) (hr : FRd W A n f B m g) : Env w (fun V => P V ∧ FRd V A n f B m g) W := h.and (FRd.stable A n f B m g) hr
end Go.Proofs.YtifikcemcflgjaaGreatDoor
namespace Go.Proofs.YtifikcemcflgjaaGreatDoor
open Go.RowKit

theorem cmpQ_val (a b : Rat) : cmpQ a b = if a < b then -1 else if a = b then 0 else 1 := by
  unfold cmpQ cmpZ
  simp only [← cmp_lt, ← cmp_eq]
  generalize a.num * (b.den : Int) = x
  generalize b.num * (a.den : Int) = y
  grind
theorem cmpQ_b (a b : Rat) : -1 ≤ cmpQ a b ∧ cmpQ a b ≤ 1 := by
  rw [cmpQ_val]; split
  · omega
  · split <;> omega
theorem cmpQ_swap (a b : Rat) : cmpQ b a = -cmpQ a b := by
  rw [cmpQ_val, cmpQ_val]
  split <;> split <;> (try split) <;> first | rfl | grind
theorem cmpQ_less (a b : Rat) : cmpQ (a - b) ((0 : Int) : Rat) = cmpQ a b := by
  rw [cmpQ_val, cmpQ_val]
  have h0 : ((0 : Int) : Rat) = 0 := rfl
  rw [h0]
  split <;> split <;> (try split) <;> (try split) <;> first | rfl | grind
theorem cmpQ_plus (a b c : Rat) : cmpQ (a + c) (b + c) = cmpQ a b := by
  rw [cmpQ_val, cmpQ_val]
  split <;> split <;> (try split) <;> (try split) <;> first | rfl | grind
theorem cmpQ_trans {a b c : Rat} (h : cmpQ a b = cmpQ b c) : cmpQ a c = cmpQ a b := by
  rw [cmpQ_val, cmpQ_val] at h
  rw [cmpQ_val, cmpQ_val]
  grind
theorem cmpQ_times (a b c : Rat) : cmpQ (a * c) (b * c) = cmpQ a b * cmpQ c ((0 : Int) : Rat) := by
  have h0 : ((0 : Int) : Rat) = 0 := rfl
  rw [h0, cmpQ_val, cmpQ_val, cmpQ_val]
  rcases (show a < b ∨ a = b ∨ b < a by grind) with h | rfl | h <;> rcases (show c < 0 ∨ c = 0 ∨ 0 < c by grind) with k | rfl | k
  · have := Rat.mul_pos (show (0 : Rat) < b - a by grind) (show (0 : Rat) < -c by grind)
    grind
  · grind
  · have := Rat.mul_pos (show (0 : Rat) < b - a by grind) k
    grind
  · grind
  · grind
  · grind
  · have := Rat.mul_pos (show (0 : Rat) < a - b by grind) (show (0 : Rat) < -c by grind)
    grind
  · grind
  · have := Rat.mul_pos (show (0 : Rat) < a - b by grind) k
    grind
end Go.Proofs.YtifikcemcflgjaaGreatDoor
namespace Go.Proofs.YtifikcemcflgjaaGreatDoor

/-- The value of a list of digits. -/
def pv (l : List UInt8) : Nat := l.foldl (fun s c => s * 10 + (c.toNat - 48)) 0
def isDg (c : UInt8) : Bool := decide (48 ≤ c.toNat) && decide (c.toNat ≤ 57)
theorem pv_nil : pv [] = 0 := rfl
theorem pv_snoc (l : List UInt8) (c : UInt8) : pv (l ++ [c]) = pv l * 10 + (c.toNat - 48) := by simp [pv]
theorem pv_append (l m : List UInt8) : pv (l ++ m) = pv l * 10 ^ m.length + pv m := by
  rw [← List.reverse_reverse m]
  generalize m.reverse = r
  induction r with
  | nil => simp [pv]
  | cons c r ih =>
    rw [List.reverse_cons, ← List.append_assoc, pv_snoc, pv_snoc, ih, List.length_append, List.length_singleton, Nat.pow_succ, Nat.add_mul, ← Nat.mul_assoc, Nat.add_assoc]
theorem pv_lt (l : List UInt8) (h : ∀ c ∈ l, c.toNat ≤ 57) : pv l < 10 ^ l.length := by
  rw [← List.reverse_reverse l] at h ⊢
  generalize l.reverse = r at h ⊢
  induction r with
  | nil => simp [pv]
  | cons c r ih =>
    rw [List.reverse_cons] at h ⊢
    have h1 := ih fun d hd => h d (by simp [List.mem_reverse.1 hd])
    have h2 := h c (by simp)
    rw [pv_snoc, List.length_append, List.length_singleton, Nat.pow_succ]
    have h3 : (pv r.reverse + 1) * 10 ≤ 10 ^ r.reverse.length * 10 := Nat.mul_le_mul_right _ h1
    omega
theorem ofNat_dg {k : Nat} (h : k < 10) : (UInt8.ofNat (48 + k)).toNat = 48 + k := by rw [UInt8.toNat_ofNat']; omega
theorem dec_dg (u : Nat) : ∀ c ∈ Lib.decDigits u, 48 ≤ c.toNat ∧ c.toNat ≤ 57 := by
  intro c hc
  rw [Lib.decDigits_eq] at hc
  obtain ⟨t, -, rfl⟩ := List.mem_map.1 hc
  unfold Lib.dg
  rw [ofNat_dg (Nat.mod_lt _ (by decide))]
  have := Nat.mod_lt (u / 10 ^ (Lib.nDigits u - 1 - t)) (show 0 < 10 by decide)
  omega
theorem pv_dec (u : Nat) : pv (Lib.decDigits u) = u := by
  induction u using Nat.strongRecOn with
  | _ u ih =>
    rw [Lib.decDigits]
    by_cases h : u < 10
    · rw [dif_pos h]
      show 0 * 10 + _ = _
      rw [ofNat_dg h]; omega
    · rw [dif_neg h, pv_snoc, ih (u / 10) (by omega), ofNat_dg (Nat.mod_lt _ (by decide))]; omega
theorem dec_head_pos {u : Nat} (h : 0 < u) : (Lib.decDigits u).head? ≠ some 48 := by
  induction u using Nat.strongRecOn with
  | _ u ih =>
    rw [Lib.decDigits]
    by_cases h10 : u < 10
    · rw [dif_pos h10]
      simp only [List.head?_cons, ne_eq, Option.some.injEq]
      intro e
      have := congrArg UInt8.toNat e
      rw [ofNat_dg h10] at this
      have e48 : (48 : UInt8).toNat = 48 := rfl
      omega
    · rw [dif_neg h10, List.head?_append]
      have := ih (u / 10) (by omega) (by omega)
      cases hd : (Lib.decDigits (u / 10)).head? with
      | none => have h0 : Lib.decDigits (u / 10) = [] := by simpa using hd
                have := Lib.nDigits_pos (u / 10); rw [← Lib.decDigits_length, h0] at this; simp at this
      | some c => rw [hd] at this; simpa using this
theorem u8_of {c : UInt8} (h1 : 48 ≤ c.toNat) (h2 : c.toNat ≤ 57) : UInt8.ofNat (48 + (c.toNat - 48)) = c := by
  apply UInt8.toNat.inj
  rw [ofNat_dg (by omega)]; omega
/-- A text without a leading zero is the numeral of its value. -/
theorem dec_pv (l : List UInt8) (hd : ∀ c ∈ l, 48 ≤ c.toNat ∧ c.toNat ≤ 57) (h0 : l.head? ≠ some 48) (hl : l ≠ []) : Lib.decDigits (pv l) = l ∧ 0 < pv l := by
  rw [← List.reverse_reverse l] at hd h0 hl ⊢
  generalize l.reverse = r at hd h0 hl ⊢
  induction r with
  | nil => simp at hl
  | cons c r ih =>
    rw [List.reverse_cons] at hd h0 ⊢
    have hc := hd c (by simp)
    rw [pv_snoc]
    by_cases hr : r.reverse = []
    · rw [hr] at h0 ⊢
      have hne : c ≠ 48 := by simpa using h0
      have hp : c.toNat ≠ 48 := fun e => hne (UInt8.toNat.inj e)
      have e0 : pv [] * 10 + (c.toNat - 48) = c.toNat - 48 := by simp [pv]
      rw [e0, Lib.decDigits_one (by omega), u8_of hc.1 hc.2]
      exact ⟨rfl, by omega⟩
    · obtain ⟨h1, h2⟩ := ih (fun d hd' => hd d (by simp [List.mem_reverse.1 hd'])) (by
        rw [List.head?_append] at h0
        cases hh : r.reverse.head? with
        | none => simp at hh hr; exact absurd hh hr
        | some d => rw [hh] at h0; simpa using h0) hr
      refine ⟨?_, by omega⟩
      rw [Lib.decDigits, dif_neg (by omega), show (pv r.reverse * 10 + (c.toNat - 48)) / 10 = pv r.reverse by omega, show (pv r.reverse * 10 + (c.toNat - 48)) % 10 = c.toNat - 48 by omega, h1, u8_of hc.1 hc.2]
end Go.Proofs.YtifikcemcflgjaaGreatDoor
