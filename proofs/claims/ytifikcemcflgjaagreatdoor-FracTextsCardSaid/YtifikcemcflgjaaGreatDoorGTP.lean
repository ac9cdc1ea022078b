/-
  The walk of frac.Parse at any text of at most 1020 bytes.
-/
import Derived.Test.YtifikcemcflgjaaGreatDoorK10
import Derived.Test.YtifikcemcflgjaaGreatDoorGTM
namespace Go.Proofs.YtifikcemcflgjaaGreatDoor
open Go.RowKit

theorem pow_b2 (k : Nat) (hk : k ≤ 4 * 256) : 10 ^ k ≤ b16 ^ 256 := pow_dn (t := 10) (j := 4) (B := b16) (m := 1) (n := 256) (by decide) (by decide) hk
theorem ln_text2 {l : List UInt8} (h : numOK l) (hk : l.length ≤ 1020) : ln b16 (valT l).natAbs ≤ 256 := by
  unfold valT
  rw [toI_abs]
  exact (ln_le b16_two).2 (Nat.lt_of_lt_of_le (pv_len h (Nat.le_refl _)) (pow_b2 _ (by omega)))
/-- What whole.Parse says of a text: an error or its number. -/
def PK (l : List UInt8) (k z : Int) : Prop := (k = 0 ∧ numOK l ∧ z = valT l) ∨ (k = 10 ∧ ¬ numOK l ∧ z = 0)
theorem parse_p (l : List UInt8) (w : World) (hl : l.length ≤ 1020) :
    Calls Tryz.prog 60 #[.string (str l)] w fun e w' => ∃ k z s A n c, e = .returned (.tuple #[.agg #[.bool s, .slice A n c], .int .i64 k]) ∧ PK l k z ∧ n ≤ 256 ∧ WV w' z s A n ∧ Below w.heap.size w w' := by
  have hb : (bodyT l).length ≤ l.length := by
    unfold bodyT
    split
    · rw [List.length_drop]; omega
    · exact Nat.le_refl _
  refine (parse_walk l w (by omega)).mono ?_
  rintro e w' (⟨h, rfl, hw⟩ | ⟨_, h, _⟩ | ⟨hok, _, h⟩)
  · exact ⟨10, 0, false, none, 0, 0, rfl, Or.inr ⟨rfl, h, rfl⟩, Nat.zero_le _, ⟨rfl, ln_zero.symm, fun h => absurd h (by rw [show (0 : Int).natAbs = 0 from rfl, ln_zero]; exact Nat.lt_irrefl 0)⟩, hw⟩
  · omega
  · have hn := ln_text2 hok hl
    rcases h with ⟨_, A, c, he, ho, hw⟩ | ⟨h, _⟩
    · exact ⟨0, _, _, A, _, c, he, Or.inl ⟨rfl, hok, rfl⟩, hn, ⟨rfl, rfl, ho.num⟩, hw⟩
    · unfold valT at hn; omega
theorem cut_len {l a b : List UInt8} {s : Bool} (h : Lib.cut l [47] = (a, b, s)) : a.length ≤ l.length ∧ b.length ≤ l.length := by
  unfold Lib.cut at h
  split at h
  · injection h with e1 e2
    injection e2 with e2 _
    rw [← e1, ← e2, List.length_take, List.length_drop]
    omega
  · injection h with e1 e2
    injection e2 with e2 _
    rw [← e1, ← e2]
    simp
theorem okF_gcd {s t : Bool} {n m : Nat} {y z : Int} (hn : n = ln b16 y.natAbs) (hm : m = ln b16 z.natAbs) (h : Nat.gcd y.natAbs z.natAbs ≠ 1) : okF s n (dgt b16 y.natAbs) t m (dgt b16 z.natAbs) = false := by
  unfold okF
  rw [hn, hm, vs_dgt_ln b16_two, vs_dgt_ln b16_two, beq_eq_false_iff_ne.2 h]
  simp only [Bool.and_false]
theorem one_eq (c d : UInt8) (r : List UInt8) : (c == d && r.isEmpty) = decide (c :: r = [d]) := by
  rw [Bool.eq_iff_iff]
  simp
/-- What frac.Parse returns. -/
def FP (l : List UInt8) (w : World) (e : Ending) (w' : World) : Prop :=
  ((∀ q, ftext q ≠ l) ∧ FErr 21 w e w') ∨ (∃ q, ftext q = l ∧ fl q ≤ 256 ∧ ∃ s A n c t B m d, e = .returned (.tuple #[.agg #[.bool s, .slice A n c, .bool t, .slice B m d], .int .i64 0]) ∧ FV w' q s A n t B m ∧ Below w.heap.size w w')
set_option linter.unusedSimpArgs false in
set_option maxRecDepth 100000 in
set_option maxHeartbeats 4000000 in
theorem fparse_v (l : List UInt8) (w : World) {k : Int} (hl : l.length ≤ 1020) (hm : w.cell? ⟨1, 0, none⟩ = some (.int .i64 k)) (hlt : 1 < w.heap.size) :
    Calls Tryz.prog 24 #[.string (str l)] w (FP l w) := by
  obtain ⟨a, b, s, hcut⟩ : ∃ a b s, Lib.cut l [47] = (a, b, s) := ⟨_, _, _, rfl⟩
  obtain ⟨la, lb⟩ := cut_len hcut
  have hE := (Env.start w).blk 26 #[.bool false, .slice none 0 0, .bool false, .slice none 0 0] (g := w.heap.size) rfl
  have hm0 : (w.alloc (.cells #[.bool false, .slice none 0 0, .bool false, .slice none 0 0] 26)).cell? ⟨1, 0, none⟩ = some (.int .i64 k) := (((Below.refl _ w).alloc (Nat.le_refl _) _).cell (p := ⟨1, 0, none⟩) hlt).trans hm
  obtain ⟨W0, hW0⟩ : ∃ W0, W0 = w.alloc (.cells #[.bool false, .slice none 0 0, .bool false, .slice none 0 0] 26) := ⟨_, rfl⟩
  rw [← hW0] at hE hm0
  have HW0 := Lib.hid hW0
  clear hW0 hm hlt
  go_enter Tryz.func24, Tryz.ntmps24
  go_upto_region 1 with (fail)
  rw [← HW0.out]
  go_wp2_with fail
  have hc := Tryz.strings_Cut (str l) ⟨#[47]⟩ k W0 (by rw [str_size]; omega) hm0
  rw [show Lib.cut (str l).data.toList (ByteArray.mk #[47]).data.toList = (a, b, s) from hcut] at hc
  refine hc.mono ?_
  clear hc hm0
  rintro e w1 ⟨rfl, j, rfl⟩
  replace hE := hE.step (below_drewN _ j W0)
  generalize W0.drewN j = w1 at hE ⊢
  go_wp2_with fail
  refine (parse_p a w1 (by omega)).mono ?_
  rintro e w1 ⟨kx, zx, sx, Ax, nx, cx, rfl, pkx, bdx, hx, hb⟩
  replace hE := hE.step hb
  clear hb
  replace hE := hE.wv hx
  clear hx
  go_upto_region 3 with (fail)
  obtain ⟨g2, hg2⟩ : ∃ g2, g2 = w1.heap.size := ⟨_, rfl⟩
  have hl2_0 : w.heap.size < g2 := by rw [hg2]; exact (hE.here.1.2).lt
  replace hE := hE.blk 24 #[.bool sx, .slice Ax nx cx] (g := g2) hg2.symm
  generalize w1.alloc (.cells #[.bool sx, .slice Ax nx cx] 24) = W2 at hE ⊢
  rw [← hg2]
  clear hg2
  go_wp2_with fail
  have hc := fromInt_v 1 W2 (by decide) (by decide)
  refine hc.mono ?_
  clear hc
  rintro e w3 ⟨so, Ao, no, co, rfl, ho, hb⟩
  replace hE := hE.step hb
  clear hb
  replace hE := hE.wv ho
  clear ho
  have lo : no ≤ 256 := by rw [(hE.here.2).len]; decide
  go_upto_region 4 with (fail)
  obtain ⟨g4, hg4⟩ : ∃ g4, g4 = w3.heap.size := ⟨_, rfl⟩
  have hl4_0 : w.heap.size < g4 := by rw [hg4]; exact (hE.here.1.1.1.2).lt
  have hl4_2 : g2 < g4 := by rw [hg4]; exact (hE.here.1.2).lt
  replace hE := hE.blk 24 #[.bool so, .slice Ao no co] (g := g4) hg4.symm
  generalize w3.alloc (.cells #[.bool so, .slice Ao no co] 24) = W4 at hE ⊢
  rw [← hg4]
  clear hg4
  cases s
  · skip
    rcases pkx with ⟨rfl, okx, vx⟩ | ⟨rfl, nox, _⟩
    · skip
      go_upto_region 10 with (fail)
      obtain ⟨k5, k6⟩ := (hE.here.1.1.2).c2
      obtain ⟨k7, k8⟩ := (hE.here.2).c2
      go_upto_region 11 with (fail)
      clear k5 k6 k7 k8
      obtain ⟨g9, hg9⟩ : ∃ g9, g9 = W4.heap.size := ⟨_, rfl⟩
      have hl9_0 : w.heap.size < g9 := by rw [hg9]; exact (hE.here.1.1.1.1.2).lt
      have hl9_2 : g2 < g9 := by rw [hg9]; exact (hE.here.1.1.2).lt
      have hl9_4 : g4 < g9 := by rw [hg9]; exact (hE.here.2).lt
      replace hE := hE.blk 63 #[.bool sx, .slice Ax nx cx, .bool so, .slice Ao no co] (g := g9) hg9.symm
      generalize W4.alloc (.cells #[.bool sx, .slice Ax nx cx, .bool so, .slice Ao no co] 63) = W9 at hE ⊢
      rw [← hg9]
      clear hg9
      obtain ⟨k10, k11, k12, k13⟩ := (hE.here.2).c4
      go_wp2_with fail
      refine (flong_r sx so Ax Ao nx no cx co _ false (by rw [decide_eq_false (show ¬ 256 < nx by omega), decide_eq_false (show ¬ 256 < no by omega)]; rfl)).mono ?_
      clear k10 k11 k12 k13
      rintro e w14 ⟨rfl, hb⟩
      replace hE := hE.step hb
      clear hb
      obtain ⟨q, hn, hd⟩ : ∃ q : Rat, q.num = zx ∧ ((q.den : Nat) : Int) = 1 := ⟨(zx : Rat), by simp, by simp⟩
      have hq : FV w14 q sx Ax nx so Ao no := ⟨by rw [hn]; exact hE.here.1.1.1.1.2, by rw [hd]; exact hE.here.1.1.2⟩
      have lq : fl q ≤ 256 := fl_le.2 ⟨by rw [← hq.1.len]; omega, by have := hq.2.len; rw [Int.natAbs_natCast] at this; omega⟩
      obtain ⟨k16, k17, k18, k19⟩ := (hE.here.2).c4
      go_wp2_with fail
      refine (ftvalid_r sx so Ax Ao nx no cx co _ _ _ hq.rd (by omega) (by omega) true (okF_of hq lq)).mono ?_
      clear k16 k17 k18 k19
      rintro e w15 ⟨rfl, hb⟩
      replace hE := (hE.fv hq).step hb
      clear hb hq
      obtain ⟨k20, k21, k22, k23⟩ := (hE.here.1.2).c4
      go_upto_region 15 with (fail)
      have hRl : w.heap.size ≤ w.heap.size := Nat.le_refl _
      obtain ⟨WW, hWW, hB, hV, hBel⟩ := ret_frac hE hE.here.1.1.1.1.1.1.2 hRl hE.here.2 cx co
      obtain ⟨x0, x1, x2, x3⟩ := (hE.here.1.1.1.1.1.1.2).c4
      obtain ⟨fz0, fz1, fz2, fz3⟩ := hE.here.1.1.1.1.1.1.2.f4
      have HWW := Lib.hid hWW
      clear hWW
      go_wp2_with fail
      clear k20 k21 k22 k23
      clear x0 x1 x2 x3
      rw [← HWW.out]
      obtain ⟨y0, y1, y2, y3⟩ := hB.c4
      refine bodyPost_ret (v := .tuple #[.agg #[.bool sx, .slice Ax nx cx, .bool so, .slice Ao no co], .int .i64 0]) (by simp [results, Tryz.results24, go_sem, y0, y1, y2, y3]) rfl ?_
      exact Or.inr ⟨q, yes_whole hcut okx (hn.trans vx) (by omega), lq, sx, Ax, nx, cx, so, Ao, no, co, rfl, hV, hBel⟩
    · skip
      go_upto_region 7 with (fail)
      have hRl : w.heap.size ≤ w.heap.size := by omega
      have hB := (hE.here.1.1.1.1.2).s4 (.bool false) (.slice none 0 0) (.bool false) (.slice none 0 0)
      have hBel := bel4 hE.bel hRl (.bool false) (.slice none 0 0) (.bool false) (.slice none 0 0)
      obtain ⟨WW, hWW⟩ : ∃ x, x = ((((W4.setCell ⟨w.heap.size, 0, none⟩ (.bool false)).setCell ⟨w.heap.size, 1, none⟩ (.slice none 0 0)).setCell ⟨w.heap.size, 2, none⟩ (.bool false)).setCell ⟨w.heap.size, 3, none⟩ (.slice none 0 0)) := ⟨_, rfl⟩
      rw [← hWW] at hB hBel
      obtain ⟨x0, x1, x2, x3⟩ := (hE.here.1.1.1.1.2).c4
      obtain ⟨fz0, fz1, fz2, fz3⟩ := (hE.here.1.1.1.1.2).f4
      have HWW := Lib.hid hWW
      clear hWW
      go_wp2_with fail
      clear x0 x1 x2 x3
      rw [← HWW.out]
      obtain ⟨y0, y1, y2, y3⟩ := hB.c4
      refine bodyPost_ret (v := .tuple #[.agg #[.bool false, .slice none 0 0, .bool false, .slice none 0 0], .int .i64 21]) (by simp [results, Tryz.results24, go_sem, y0, y1, y2, y3]) rfl ?_
      exact Or.inl ⟨no_first hcut nox, rfl, hBel⟩
  · skip
    go_wp2_with fail
    refine (parse_p b W4 (by omega)).mono ?_
    rintro e w5 ⟨ky, zy, sy, Ay, ny, cy, rfl, pky, bdy, hy, hb⟩
    replace hE := hE.step hb
    clear hb
    replace hE := hE.wv hy
    clear hy
    have hgl6 : w.heap.size ≤ g4 := by omega
    obtain ⟨x6_0, x6_1⟩ := (hE.here.1.2).c2
    obtain ⟨f6_0, f6_1⟩ := hE.here.1.2.f2
    replace hE := (((((((Env.again (bel2 hE.bel hgl6 (.bool sy) (.slice Ay ny cy))).blkI ((hE.here.1.1.1.1.1.2).far2 (R := g4) (by omega) (.bool sy) (.slice Ay ny cy))).wv ((hE.here.1.1.1.1.2).sep2 hE.here.1.2 rfl (.bool sy) (.slice Ay ny cy) rfl)).blkI ((hE.here.1.1.1.2).far2 (R := g4) (by omega) (.bool sy) (.slice Ay ny cy))).wv ((hE.here.1.1.2).sep2 hE.here.1.2 rfl (.bool sy) (.slice Ay ny cy) rfl)).blkI ((hE.here.1.2).s2 (.bool sy) (.slice Ay ny cy))).wv ((hE.here.2).sep2 hE.here.1.2 rfl (.bool sy) (.slice Ay ny cy) rfl))
    go_upto_region 6 with (fail)
    clear x6_0 x6_1 f6_0 f6_1 hgl6
    generalize ((w5.setCell ⟨g4, 0, none⟩ (.bool sy)).setCell ⟨g4, 1, none⟩ (.slice Ay ny cy)) = W6 at hE ⊢
    rcases pkx with ⟨rfl, okx, vx⟩ | ⟨rfl, nox, _⟩
    · skip
      rcases pky with ⟨rfl, oky, vy⟩ | ⟨rfl, noy, _⟩
      · skip
        obtain ⟨c, r, rfl⟩ : ∃ c r, b = c :: r := by
          cases b with
          | nil => exact absurd oky.1 (by decide)
          | cons c r => exact ⟨c, r, rfl⟩
        have hi : ∀ W, (Instr.index 9 (.string ⟨(c :: r).toArray⟩) (.int .i64 0)).run Tryz.prog W = .ok (.int .u8 ((c.toNat : Nat) : Int)) W := fun W => idx_at (l := c :: r) (k := 0) (by simp) W
        have h45 : (((c.toNat : Nat) : Int) == 45) = (c == 45) := u8_eq c 45
        have h48 : (c == 48 && r.isEmpty) = decide (c :: r = [48]) := one_eq _ _ _
        have h49 : (c == 49 && r.isEmpty) = decide (c :: r = [49]) := one_eq _ _ _
        by_cases c45 : c = 45
        · subst c45
          have t1 : (((45 : UInt8).toNat : Nat) : Int) = 45 := rfl
          go_upto_region 9 with (fail)
          have hRl : w.heap.size ≤ w.heap.size := by omega
          have hB := (hE.here.1.1.1.1.1.2).s4 (.bool false) (.slice none 0 0) (.bool false) (.slice none 0 0)
          have hBel := bel4 hE.bel hRl (.bool false) (.slice none 0 0) (.bool false) (.slice none 0 0)
          obtain ⟨WW, hWW⟩ : ∃ x, x = ((((W6.setCell ⟨w.heap.size, 0, none⟩ (.bool false)).setCell ⟨w.heap.size, 1, none⟩ (.slice none 0 0)).setCell ⟨w.heap.size, 2, none⟩ (.bool false)).setCell ⟨w.heap.size, 3, none⟩ (.slice none 0 0)) := ⟨_, rfl⟩
          rw [← hWW] at hB hBel
          obtain ⟨x0, x1, x2, x3⟩ := (hE.here.1.1.1.1.1.2).c4
          obtain ⟨fz0, fz1, fz2, fz3⟩ := (hE.here.1.1.1.1.1.2).f4
          have HWW := Lib.hid hWW
          clear hWW
          go_wp2_with fail
          clear x0 x1 x2 x3
          rw [← HWW.out]
          obtain ⟨y0, y1, y2, y3⟩ := hB.c4
          refine bodyPost_ret (v := .tuple #[.agg #[.bool false, .slice none 0 0, .bool false, .slice none 0 0], .int .i64 21]) (by simp [results, Tryz.results24, go_sem, y0, y1, y2, y3]) rfl ?_
          exact Or.inl ⟨no_minus hcut rfl, rfl, hBel⟩
        · rw [beq_eq_false_iff_ne.2 c45] at h45
          by_cases c48 : c :: r = [48]
          · rw [decide_eq_true c48] at h48
            go_upto_region 9 with (fail)
            have hRl : w.heap.size ≤ w.heap.size := by omega
            have hB := (hE.here.1.1.1.1.1.2).s4 (.bool false) (.slice none 0 0) (.bool false) (.slice none 0 0)
            have hBel := bel4 hE.bel hRl (.bool false) (.slice none 0 0) (.bool false) (.slice none 0 0)
            obtain ⟨WW, hWW⟩ : ∃ x, x = ((((W6.setCell ⟨w.heap.size, 0, none⟩ (.bool false)).setCell ⟨w.heap.size, 1, none⟩ (.slice none 0 0)).setCell ⟨w.heap.size, 2, none⟩ (.bool false)).setCell ⟨w.heap.size, 3, none⟩ (.slice none 0 0)) := ⟨_, rfl⟩
            rw [← hWW] at hB hBel
            obtain ⟨x0, x1, x2, x3⟩ := (hE.here.1.1.1.1.1.2).c4
            obtain ⟨fz0, fz1, fz2, fz3⟩ := (hE.here.1.1.1.1.1.2).f4
            have HWW := Lib.hid hWW
            clear hWW
            go_wp2_with fail
            clear x0 x1 x2 x3
            rw [← HWW.out]
            obtain ⟨y0, y1, y2, y3⟩ := hB.c4
            refine bodyPost_ret (v := .tuple #[.agg #[.bool false, .slice none 0 0, .bool false, .slice none 0 0], .int .i64 21]) (by simp [results, Tryz.results24, go_sem, y0, y1, y2, y3]) rfl ?_
            exact Or.inl ⟨no_zero hcut c48, rfl, hBel⟩
          · rw [decide_eq_false c48] at h48
            by_cases c49 : c :: r = [49]
            · rw [decide_eq_true c49] at h49
              go_upto_region 9 with (fail)
              have hRl : w.heap.size ≤ w.heap.size := by omega
              have hB := (hE.here.1.1.1.1.1.2).s4 (.bool false) (.slice none 0 0) (.bool false) (.slice none 0 0)
              have hBel := bel4 hE.bel hRl (.bool false) (.slice none 0 0) (.bool false) (.slice none 0 0)
              obtain ⟨WW, hWW⟩ : ∃ x, x = ((((W6.setCell ⟨w.heap.size, 0, none⟩ (.bool false)).setCell ⟨w.heap.size, 1, none⟩ (.slice none 0 0)).setCell ⟨w.heap.size, 2, none⟩ (.bool false)).setCell ⟨w.heap.size, 3, none⟩ (.slice none 0 0)) := ⟨_, rfl⟩
              rw [← hWW] at hB hBel
              obtain ⟨x0, x1, x2, x3⟩ := (hE.here.1.1.1.1.1.2).c4
              obtain ⟨fz0, fz1, fz2, fz3⟩ := (hE.here.1.1.1.1.1.2).f4
              have HWW := Lib.hid hWW
              clear hWW
              go_wp2_with fail
              clear x0 x1 x2 x3
              rw [← HWW.out]
              obtain ⟨y0, y1, y2, y3⟩ := hB.c4
              refine bodyPost_ret (v := .tuple #[.agg #[.bool false, .slice none 0 0, .bool false, .slice none 0 0], .int .i64 21]) (by simp [results, Tryz.results24, go_sem, y0, y1, y2, y3]) rfl ?_
              exact Or.inl ⟨no_one hcut c49, rfl, hBel⟩
            · rw [decide_eq_false c49] at h49
              have hpos := val_pos oky (by simpa using c45) c48
              go_upto_region 10 with (fail)
              obtain ⟨k7, k8⟩ := (hE.here.1.1.1.2).c2
              obtain ⟨k9, k10⟩ := (hE.here.1.2).c2
              go_upto_region 11 with (fail)
              clear k7 k8 k9 k10
              obtain ⟨g11, hg11⟩ : ∃ g11, g11 = W6.heap.size := ⟨_, rfl⟩
              have hl11_0 : w.heap.size < g11 := by rw [hg11]; exact (hE.here.1.1.1.1.1.2).lt
              have hl11_2 : g2 < g11 := by rw [hg11]; exact (hE.here.1.1.1.2).lt
              have hl11_4 : g4 < g11 := by rw [hg11]; exact (hE.here.1.2).lt
              replace hE := hE.blk 63 #[.bool sx, .slice Ax nx cx, .bool sy, .slice Ay ny cy] (g := g11) hg11.symm
              generalize W6.alloc (.cells #[.bool sx, .slice Ax nx cx, .bool sy, .slice Ay ny cy] 63) = W11 at hE ⊢
              rw [← hg11]
              clear hg11
              obtain ⟨k12, k13, k14, k15⟩ := (hE.here.2).c4
              go_wp2_with fail
              refine (flong_r sx sy Ax Ay nx ny cx cy _ false (by rw [decide_eq_false (show ¬ 256 < nx by omega), decide_eq_false (show ¬ 256 < ny by omega)]; rfl)).mono ?_
              clear k12 k13 k14 k15
              rintro e w16 ⟨rfl, hb⟩
              replace hE := hE.step hb
              clear hb
              by_cases hg : Nat.gcd zx.natAbs zy.natAbs = 1
              · skip
                obtain ⟨q, hn, hd⟩ : ∃ q : Rat, q.num = zx ∧ ((q.den : Nat) : Int) = zy := ⟨⟨zx, zy.natAbs, by omega, hg⟩, rfl, by show ((zy.natAbs : Nat) : Int) = zy; omega⟩
                have hq : FV w16 q sx Ax nx sy Ay ny := ⟨by rw [hn]; exact hE.here.1.1.1.1.1.2, by rw [hd]; exact hE.here.1.2⟩
                have lq : fl q ≤ 256 := fl_le.2 ⟨by rw [← hq.1.len]; omega, by have := hq.2.len; rw [Int.natAbs_natCast] at this; omega⟩
                obtain ⟨k18, k19, k20, k21⟩ := (hE.here.2).c4
                go_wp2_with fail
                refine (ftvalid_r sx sy Ax Ay nx ny cx cy _ _ _ hq.rd (by omega) (by omega) true (okF_of hq lq)).mono ?_
                clear k18 k19 k20 k21
                rintro e w17 ⟨rfl, hb⟩
                replace hE := (hE.fv hq).step hb
                clear hb hq
                obtain ⟨k22, k23, k24, k25⟩ := (hE.here.1.2).c4
                go_upto_region 15 with (fail)
                have hRl : w.heap.size ≤ w.heap.size := Nat.le_refl _
                obtain ⟨WW, hWW, hB, hV, hBel⟩ := ret_frac hE hE.here.1.1.1.1.1.1.1.2 hRl hE.here.2 cx cy
                obtain ⟨x0, x1, x2, x3⟩ := (hE.here.1.1.1.1.1.1.1.2).c4
                obtain ⟨fz0, fz1, fz2, fz3⟩ := hE.here.1.1.1.1.1.1.1.2.f4
                have HWW := Lib.hid hWW
                clear hWW
                go_wp2_with fail
                clear k22 k23 k24 k25
                clear x0 x1 x2 x3
                rw [← HWW.out]
                obtain ⟨y0, y1, y2, y3⟩ := hB.c4
                refine bodyPost_ret (v := .tuple #[.agg #[.bool sx, .slice Ax nx cx, .bool sy, .slice Ay ny cy], .int .i64 0]) (by simp [results, Tryz.results24, go_sem, y0, y1, y2, y3]) rfl ?_
                exact Or.inr ⟨q, yes_slash hcut okx oky c49 (hn.trans vx) (hd.trans vy), lq, sx, Ax, nx, cx, sy, Ay, ny, cy, rfl, hV, hBel⟩
              · skip
                have hx := hE.here.1.1.1.1.1.2
                have hy := hE.here.1.2
                have hok : okF sx nx (dgt b16 zx.natAbs) sy ny (dgt b16 zy.natAbs) = false := okF_gcd hx.len hy.len hg
                have hrd : FRd w16 Ax nx (dgt b16 zx.natAbs) Ay ny (dgt b16 zy.natAbs) := ⟨by have := hx.2.2; unfold Num16 at this; rw [← hx.2.1] at this; exact this, by have := hy.2.2; unfold Num16 at this; rw [← hy.2.1] at this; exact this, fun j _ => dgt16_lt _ j, fun j _ => dgt16_lt _ j⟩
                obtain ⟨k17, k18, k19, k20⟩ := (hE.here.2).c4
                go_wp2_with fail
                refine (ftvalid_r sx sy Ax Ay nx ny cx cy _ _ _ hrd (by omega) (by omega) false hok).mono ?_
                clear k17 k18 k19 k20
                clear hx hy hok hrd
                rintro e w21 ⟨rfl, hb⟩
                replace hE := hE.step hb
                clear hb
                go_upto_region 14 with (fail)
                have hRl : w.heap.size ≤ w.heap.size := by omega
                have hB := (hE.here.1.1.1.1.1.1.2).s4 (.bool false) (.slice none 0 0) (.bool false) (.slice none 0 0)
                have hBel := bel4 hE.bel hRl (.bool false) (.slice none 0 0) (.bool false) (.slice none 0 0)
                obtain ⟨WW, hWW⟩ : ∃ x, x = ((((w21.setCell ⟨w.heap.size, 0, none⟩ (.bool false)).setCell ⟨w.heap.size, 1, none⟩ (.slice none 0 0)).setCell ⟨w.heap.size, 2, none⟩ (.bool false)).setCell ⟨w.heap.size, 3, none⟩ (.slice none 0 0)) := ⟨_, rfl⟩
                rw [← hWW] at hB hBel
                obtain ⟨x0, x1, x2, x3⟩ := (hE.here.1.1.1.1.1.1.2).c4
                obtain ⟨fz0, fz1, fz2, fz3⟩ := (hE.here.1.1.1.1.1.1.2).f4
                have HWW := Lib.hid hWW
                clear hWW
                go_wp2_with fail
                clear x0 x1 x2 x3
                rw [← HWW.out]
                obtain ⟨y0, y1, y2, y3⟩ := hB.c4
                refine bodyPost_ret (v := .tuple #[.agg #[.bool false, .slice none 0 0, .bool false, .slice none 0 0], .int .i64 21]) (by simp [results, Tryz.results24, go_sem, y0, y1, y2, y3]) rfl ?_
                exact Or.inl ⟨no_gcd hcut (by rw [← vx, ← vy]; exact hg), rfl, hBel⟩
      · skip
        go_upto_region 7 with (fail)
        have hRl : w.heap.size ≤ w.heap.size := by omega
        have hB := (hE.here.1.1.1.1.1.2).s4 (.bool false) (.slice none 0 0) (.bool false) (.slice none 0 0)
        have hBel := bel4 hE.bel hRl (.bool false) (.slice none 0 0) (.bool false) (.slice none 0 0)
        obtain ⟨WW, hWW⟩ : ∃ x, x = ((((W6.setCell ⟨w.heap.size, 0, none⟩ (.bool false)).setCell ⟨w.heap.size, 1, none⟩ (.slice none 0 0)).setCell ⟨w.heap.size, 2, none⟩ (.bool false)).setCell ⟨w.heap.size, 3, none⟩ (.slice none 0 0)) := ⟨_, rfl⟩
        rw [← hWW] at hB hBel
        obtain ⟨x0, x1, x2, x3⟩ := (hE.here.1.1.1.1.1.2).c4
        obtain ⟨fz0, fz1, fz2, fz3⟩ := (hE.here.1.1.1.1.1.2).f4
        have HWW := Lib.hid hWW
        clear hWW
        go_wp2_with fail
        clear x0 x1 x2 x3
        rw [← HWW.out]
        obtain ⟨y0, y1, y2, y3⟩ := hB.c4
        refine bodyPost_ret (v := .tuple #[.agg #[.bool false, .slice none 0 0, .bool false, .slice none 0 0], .int .i64 21]) (by simp [results, Tryz.results24, go_sem, y0, y1, y2, y3]) rfl ?_
        exact Or.inl ⟨no_second hcut noy, rfl, hBel⟩
    · skip
      clear pky
      go_upto_region 7 with (fail)
      have hRl : w.heap.size ≤ w.heap.size := by omega
      have hB := (hE.here.1.1.1.1.1.2).s4 (.bool false) (.slice none 0 0) (.bool false) (.slice none 0 0)
      have hBel := bel4 hE.bel hRl (.bool false) (.slice none 0 0) (.bool false) (.slice none 0 0)
      obtain ⟨WW, hWW⟩ : ∃ x, x = ((((W6.setCell ⟨w.heap.size, 0, none⟩ (.bool false)).setCell ⟨w.heap.size, 1, none⟩ (.slice none 0 0)).setCell ⟨w.heap.size, 2, none⟩ (.bool false)).setCell ⟨w.heap.size, 3, none⟩ (.slice none 0 0)) := ⟨_, rfl⟩
      rw [← hWW] at hB hBel
      obtain ⟨x0, x1, x2, x3⟩ := (hE.here.1.1.1.1.1.2).c4
      obtain ⟨fz0, fz1, fz2, fz3⟩ := (hE.here.1.1.1.1.1.2).f4
      have HWW := Lib.hid hWW
      clear hWW
      go_wp2_with fail
      clear x0 x1 x2 x3
      rw [← HWW.out]
      obtain ⟨y0, y1, y2, y3⟩ := hB.c4
      refine bodyPost_ret (v := .tuple #[.agg #[.bool false, .slice none 0 0, .bool false, .slice none 0 0], .int .i64 21]) (by simp [results, Tryz.results24, go_sem, y0, y1, y2, y3]) rfl ?_
      exact Or.inl ⟨no_first hcut nox, rfl, hBel⟩
end Go.Proofs.YtifikcemcflgjaaGreatDoor
