/-
  Several texts in one: The walk of life.person's rate. The walks of the laws' helpers over fractions: quick, is, sum, product, not, equal, chance. A range over a function where each value that is yielded is known to fit the world at hand. The range-function of life.person's years. The probability of being alive after some years as a product: bounds, denominators, lengths. The rates of a right life: from 0 to 1, denominators of one limb. What stays where memory grows and blocks that are no cells are turned. What a round of a range over the years keeps; the books of alive, dies and Expect. The probability of dying in a year: life.person.dies. The probability of being alive: life.person.alive. The plain laws of lives: products of probabilities, sums of them. Probabilities whose denominators are short: products, complements. The laws' Large and usable: what a table that is not large has.
-/
import Derived.Test.YtmjlankpihnicaaGreatK1
import Derived.Test.YtmjlankpihnicaaGreatK7
import Derived.RangeFuncNested
import Derived.RangeFuncBound
import Derived.RangeFuncCalls
import Derived.RangeFuncLeaves
import Derived.RangeFuncBox
import Derived.Shelf.Abstract
import Derived.Shelf.RegionOpen
import Derived.OwnWalkIn
import Derived.TacticsInMore
import Derived.LoopNIn
import Derived.LoopIn
import Derived.Test.YtmjlankpihnicaaGreatK3
import Derived.Test.YtmjlankpihnicaaGreatK4
namespace Go.Proofs.YtmjlankpihnicaaGreat
open Go.RowKit

theorem At.far4 {b o R : Nat} {v : Value} {w : World} (h : At b o v w) (hb : b ≠ R) (x y z u : Value) : At b o v ((((w.setCell ⟨R, 0, none⟩ x).setCell ⟨R, 1, none⟩ y).setCell ⟨R, 2, none⟩ z).setCell ⟨R, 3, none⟩ u) := by
  have step : ∀ (W : World) (i : Nat) (x : Value), At b o v W → At b o v (W.setCell ⟨R, i, none⟩ x) := fun W i x h => ⟨by rw [World.size_setCell]; exact h.1, by rw [World.cell?_setCell_other W _ _ x (fun e => hb (congrArg Addr.block e).symm)]; exact h.2⟩
  exact step _ _ _ (step _ _ _ (step _ _ _ (step _ _ _ h)))
theorem Blk.c5 {t : TypeId} {g : Nat} {w : World} {a b c d e : Value} (h : Blk t g #[a, b, c, d, e] w) : w.cell? ⟨g, 0, none⟩ = some a ∧ w.cell? ⟨g, 1, none⟩ = some b ∧ w.cell? ⟨g, 2, none⟩ = some c ∧ w.cell? ⟨g, 3, none⟩ = some d ∧ w.cell? ⟨g, 4, none⟩ = some e := ⟨h.cell 0, h.cell 1, h.cell 2, h.cell 3, h.cell 4⟩
/-- The rate of a life k years from now on. -/
def rt (F S : Int) (n : Nat) (r : Nat → RH) (E Y k : Int) : Rat :=
  if F + (n : Int) - 1 < E + (Y + k) then 1 else if Y + k < S then ((r (E - F).toNat).h (Y + k).toNat).q else ((r (E + (Y + k) - F).toNat).h S.toNat).q
/-- A rate of a valid table: where it lies. -/
theorem rate_at {F S : Int} {A : Option Addr} {n : Nat} {r : Nat → RH} {w : World} (hT : TabM w A n r) (ht : TOK F S n r) {i k : Int} (h1 : 0 ≤ i) (h2 : i < n) (_ : 0 ≤ k) (h4 : k ≤ S) :
    ∃ b o b2 o2 ni ci, A = some ⟨b, o, none⟩ ∧ b < w.heap.size ∧ w.cell? ⟨b, o + i.toNat, none⟩ = some (.slice (some ⟨b2, o2, none⟩) ni ci) ∧ b2 < w.heap.size ∧ k < (ni : Int) ∧ ((r i.toNat).h k.toNat).cells w b2 (o2 + k.toNat * 4) ∧ FV w ((r i.toNat).h k.toNat).q ((r i.toNat).h k.toNat).s ((r i.toNat).h k.toNat).A ((r i.toNat).h k.toNat).n ((r i.toNat).h k.toNat).t ((r i.toNat).h k.toNat).B ((r i.toNat).h k.toNat).m := by
  obtain ⟨b, o, e, hb, hc⟩ := hT (by omega)
  obtain ⟨c0, hrow⟩ := hc i.toNat (by omega)
  obtain ⟨l1, l2⟩ := ht.2.2.1 i.toNat (by omega)
  have hS := ht.1.2.1
  obtain ⟨b2, o2, e2, hb2, hc2⟩ := hrow (by omega)
  obtain ⟨hcl, hrd⟩ := hc2 k.toNat (by omega)
  rw [e2] at c0
  exact ⟨b, o, b2, o2, _, _, e, hb, c0, hb2, by omega, hcl, (FH.fv (l2 k.toNat (by omega)) hrd).1⟩
set_option linter.unusedSimpArgs false in
set_option maxRecDepth 100000 in
set_option maxHeartbeats 4000000 in
theorem lrate_v {F S E Y k : Int} {A : Option Addr} {n c : Nat} {r : Nat → RH} {w : World} (hT : TabM w A n r) (hR : RightP F S n r E Y) (hk : 0 ≤ k) (hk2 : k ≤ 1000000) :
    Calls Tryz.prog 112 #[.agg #[.int .i64 F, .int .i64 S, .slice A n c, .int .i64 E, .int .i64 Y], .int .i64 k] w (FR (rt F S n r E Y k) w) := by
  obtain ⟨ht, hr1, hr2, hr3, hr4⟩ := hR
  obtain ⟨f1, f2, s1, s2, n1, n2⟩ : 0 ≤ F ∧ F ≤ 150 ∧ 0 ≤ S ∧ S ≤ 5 ∧ 1 ≤ n ∧ n ≤ 111 := ⟨ht.1.1.1, ht.1.1.2, ht.1.2.1, ht.1.2.2, ht.2.1.1, ht.2.1.2⟩
  obtain ⟨v, hv⟩ : ∃ v, v = rt F S n r E Y k := ⟨_, rfl⟩
  rw [← hv]
  unfold rt at hv
  by_cases h1 : F + (n : Int) - 1 < E + (Y + k)
  · have t1 := decide_eq_true h1
    rw [if_pos h1] at hv
    have HQ := Lib.hid hv
    clear hv h1
    have hE := (Env.start w).blk 99 #[.int .i64 F, .int .i64 S, .slice A n c, .int .i64 E, .int .i64 Y] (g := w.heap.size) rfl
    have hE := hE.blk 29 #[.bool false, .slice none 0 0, .bool false, .slice none 0 0] (g := w.heap.size + 1) (by simp)
    obtain ⟨W0, hW0⟩ : ∃ W0, W0 = ((w.alloc (.cells #[.int .i64 F, .int .i64 S, .slice A n c, .int .i64 E, .int .i64 Y] 99)).alloc (.cells #[.bool false, .slice none 0 0, .bool false, .slice none 0 0] 29)) := ⟨_, rfl⟩
    rw [← hW0] at hE
    have HW0 := Lib.hid hW0
    clear hW0
    go_enter Tryz.func112, Tryz.ntmps112
    go_upto_region 1 with (fail)
    rw [← HW0.out]
    obtain ⟨k1, k2, k3, k4, k5⟩ := (hE.here.1.2).c5
    go_wp2_with fail
    refine (llast_v F S A n c _ f1 (by omega) (by omega)).mono ?_
    clear k1 k2 k3 k4 k5
    rintro e w1 ⟨rfl, hb⟩
    replace hE := hE.step hb
    clear hb
    go_wp2_with fail
    have hc := ffromInt_v 1 w1 (by decide) (by decide)
    refine hc.mono ?_
    clear hc
    rintro e w6 ⟨sp, Ap, np, cp, tp, Bp, mp, dp, rfl, hp, hb⟩
    replace hE := hE.step hb
    clear hb
    replace hE := hE.fv hp
    clear hp
    have hRl : w.heap.size ≤ w.heap.size + 1 := by omega
    obtain ⟨WW, hWW, hB, hV, hBel⟩ := ret_frac hE hE.here.1.2 hRl hE.here.2 cp dp
    obtain ⟨x0, x1, x2, x3⟩ := (hE.here.1.2).c4
    obtain ⟨fz0, fz1, fz2, fz3⟩ := hE.here.1.2.f4
    have HWW := Lib.hid hWW
    clear hWW
    go_wp2_with fail
    rw [← HWW.out]
    rw [show (((1 : Int) : Rat)) = 1 from rfl, ← HQ.out] at hV
    obtain ⟨y0, y1, y2, y3⟩ := hB.c4
    refine bodyPost_ret (v := .agg #[.bool sp, .slice Ap np cp, .bool tp, .slice Bp mp dp]) (by simp [results, Tryz.results112, go_sem, y0, y1, y2, y3]) rfl ?_
    exact ⟨sp, Ap, np, cp, tp, Bp, mp, dp, rfl, hV, hBel⟩
  · have t1 := decide_eq_false h1
    rw [if_neg h1] at hv
    by_cases h2 : Y + k < S
    · have t2 := decide_eq_true h2
      rw [if_pos h2] at hv
      have HQ := Lib.hid hv
      have i1 : F ≤ E := hr1
      have i2 : E - F < (n : Int) := by omega
      have i3 : 0 ≤ Y + k := by omega
      clear hv
      obtain ⟨b, o, b2, o2, ni, ci, rfl, hb, c0, hb2, hK, hcl, hh⟩ := rate_at hT ht (i := E - F) (k := Y + k) (by omega) (by omega) (by omega) (by omega)
      obtain ⟨Q, hQ⟩ : ∃ Q, Q = ((r (E - F).toNat).h (Y + k).toNat).q := ⟨_, rfl⟩
      rw [← hQ] at hh
      have HQ2 := Lib.hid hQ
      clear hQ
      obtain ⟨H, hH⟩ : ∃ H, H = (r (E - F).toNat).h (Y + k).toNat := ⟨_, rfl⟩
      rw [← hH] at hh hcl
      clear hH
      obtain ⟨hs, hA, hn, hc, hf, ht_, hD, hm, hd, hg⟩ := H
      obtain ⟨d0, d1, d2, d3⟩ := hcl
      dsimp only at d0 d1 d2 d3 hh
      have hE := (((((((Env.start w).fv hh).at_ hb c0).at_ hb2 d0).at_ hb2 d1).at_ hb2 d2).at_ hb2 d3).blk 99 #[.int .i64 F, .int .i64 S, .slice (some ⟨b, o, none⟩) n c, .int .i64 E, .int .i64 Y] (g := w.heap.size) rfl
      have hE := hE.blk 29 #[.bool false, .slice none 0 0, .bool false, .slice none 0 0] (g := w.heap.size + 1) (by simp)
      obtain ⟨W0, hW0⟩ : ∃ W0, W0 = ((w.alloc (.cells #[.int .i64 F, .int .i64 S, .slice (some ⟨b, o, none⟩) n c, .int .i64 E, .int .i64 Y] 99)).alloc (.cells #[.bool false, .slice none 0 0, .bool false, .slice none 0 0] 29)) := ⟨_, rfl⟩
      rw [← hW0] at hE
      have HW0 := Lib.hid hW0
      clear hW0
      go_enter Tryz.func112, Tryz.ntmps112
      go_upto_region 1 with (fail)
      rw [← HW0.out]
      clear c0 d0 d1 d2 d3
      obtain ⟨k1, k2, k3, k4, k5⟩ := (hE.here.1.2).c5
      go_wp2_with fail
      refine (llast_v F S (some ⟨b, o, none⟩) n c _ f1 (by omega) (by omega)).mono ?_
      clear k1 k2 k3 k4 k5
      rintro e w1 ⟨rfl, hb1⟩
      replace hE := hE.step hb1
      clear hb1
      obtain ⟨k6, k7, k8, k9, k10⟩ := (hE.here.1.2).c5
      have k11 := (hE.here.1.1.1.1.1.1.2).2
      have k12 := (hE.here.1.1.1.1.1.2).2
      have k13 := (hE.here.1.1.1.1.2).2
      have k14 := (hE.here.1.1.1.2).2
      have k15 := (hE.here.1.1.2).2
      have hRl : w.heap.size ≤ w.heap.size + 1 := by omega
      obtain ⟨WW, hWW, hB, hV, hBel⟩ := ret_frac hE hE.here.2 hRl hE.here.1.1.1.1.1.1.1.2 hc hd
      obtain ⟨x0, x1, x2, x3⟩ := (hE.here.2).c4
      obtain ⟨fz0, fz1, fz2, fz3⟩ := hE.here.2.f4
      have HWW := Lib.hid hWW
      clear hWW
      go_wp2_with fail
      clear k6 k7 k8 k9 k10 k11 k12 k13 k14 k15
      rw [← HWW.out]
      rw [HQ2.out, ← HQ.out] at hV
      obtain ⟨y0, y1, y2, y3⟩ := hB.c4
      refine bodyPost_ret (v := .agg #[.bool hs, .slice hA hn hc, .bool ht_, .slice hD hm hd]) (by simp [results, Tryz.results112, go_sem, y0, y1, y2, y3]) rfl ?_
      exact ⟨hs, hA, hn, hc, ht_, hD, hm, hd, rfl, hV, hBel⟩
    · have t2 := decide_eq_false h2
      rw [if_neg h2] at hv
      have HQ := Lib.hid hv
      have i1 : F ≤ E + (Y + k) := by omega
      have i2 : E + (Y + k) - F < (n : Int) := by omega
      have i3 : 0 ≤ E + (Y + k) - F := by omega
      have o1 : IntKind.i64.wrap (E + (Y + k) - F) = E + (Y + k) - F := by rw [IntKind.wrap_i64]; omega
      clear hv
      obtain ⟨b, o, b2, o2, ni, ci, rfl, hb, c0, hb2, hK, hcl, hh⟩ := rate_at hT ht (i := E + (Y + k) - F) (k := S) (by omega) (by omega) (by omega) (by omega)
      obtain ⟨Q, hQ⟩ : ∃ Q, Q = ((r (E + (Y + k) - F).toNat).h (S).toNat).q := ⟨_, rfl⟩
      rw [← hQ] at hh
      have HQ2 := Lib.hid hQ
      clear hQ
      obtain ⟨H, hH⟩ : ∃ H, H = (r (E + (Y + k) - F).toNat).h (S).toNat := ⟨_, rfl⟩
      rw [← hH] at hh hcl
      clear hH
      obtain ⟨hs, hA, hn, hc, hf, ht_, hD, hm, hd, hg⟩ := H
      obtain ⟨d0, d1, d2, d3⟩ := hcl
      dsimp only at d0 d1 d2 d3 hh
      have hE := (((((((Env.start w).fv hh).at_ hb c0).at_ hb2 d0).at_ hb2 d1).at_ hb2 d2).at_ hb2 d3).blk 99 #[.int .i64 F, .int .i64 S, .slice (some ⟨b, o, none⟩) n c, .int .i64 E, .int .i64 Y] (g := w.heap.size) rfl
      have hE := hE.blk 29 #[.bool false, .slice none 0 0, .bool false, .slice none 0 0] (g := w.heap.size + 1) (by simp)
      obtain ⟨W0, hW0⟩ : ∃ W0, W0 = ((w.alloc (.cells #[.int .i64 F, .int .i64 S, .slice (some ⟨b, o, none⟩) n c, .int .i64 E, .int .i64 Y] 99)).alloc (.cells #[.bool false, .slice none 0 0, .bool false, .slice none 0 0] 29)) := ⟨_, rfl⟩
      rw [← hW0] at hE
      have HW0 := Lib.hid hW0
      clear hW0
      go_enter Tryz.func112, Tryz.ntmps112
      go_upto_region 1 with (fail)
      rw [← HW0.out]
      clear c0 d0 d1 d2 d3
      obtain ⟨k1, k2, k3, k4, k5⟩ := (hE.here.1.2).c5
      go_wp2_with fail
      refine (llast_v F S (some ⟨b, o, none⟩) n c _ f1 (by omega) (by omega)).mono ?_
      clear k1 k2 k3 k4 k5
      rintro e w1 ⟨rfl, hb1⟩
      replace hE := hE.step hb1
      clear hb1
      obtain ⟨k6, k7, k8, k9, k10⟩ := (hE.here.1.2).c5
      go_upto_region 7 with (fail)
      clear k6 k7 k8 k9 k10
      replace hE := hE.drew
      refine wp_region_held_drew (S := fun w' => w'.cell? ⟨w.heap.size, 0, none⟩ = some (.int .i64 F) ∧ w'.cell? ⟨w.heap.size, 1, none⟩ = some (.int .i64 S) ∧ w'.cell? ⟨w.heap.size, 2, none⟩ = some (.slice (some ⟨b, o, none⟩) n c) ∧ w'.cell? ⟨w.heap.size, 3, none⟩ = some (.int .i64 E) ∧ w'.cell? ⟨w.heap.size, 4, none⟩ = some (.int .i64 Y) ∧ w'.cell? ⟨b, o + (E + (Y + k) - F).toNat, none⟩ = some (.slice (some ⟨b2, o2, none⟩) ni ci) ∧ w'.cell? ⟨b2, o2 + (S).toNat * 4, none⟩ = some (.bool hs) ∧ w'.cell? ⟨b2, o2 + (S).toNat * 4 + 1, none⟩ = some (.slice hA hn hc) ∧ w'.cell? ⟨b2, o2 + (S).toNat * 4 + 2, none⟩ = some (.bool ht_) ∧ w'.cell? ⟨b2, o2 + (S).toNat * 4 + 3, none⟩ = some (.slice hD hm hd)) (by kernel_rfl) (⟨(hE.here.1.2).c5.1, (hE.here.1.2).c5.2.1, (hE.here.1.2).c5.2.2.1, (hE.here.1.2).c5.2.2.2.1, (hE.here.1.2).c5.2.2.2.2, (hE.here.1.1.1.1.1.1.2).2, (hE.here.1.1.1.1.1.2).2, (hE.here.1.1.1.1.2).2, (hE.here.1.1.1.2).2, (hE.here.1.1.2).2⟩) (fun hHeld => ?_)
      generalize w1.drew = wd at *
      refine tk 0 ?_
      try simp only [PL]
      refine tk 1 ?_
      try simp only [PL]
      refine tk 2 ?_
      try simp only [PL]
      refine tk 3 ?_
      try simp only [PL]
      refine tk 4 ?_
      try simp only [PL]
      refine tk 5 ?_
      try simp only [PL]
      refine tk 6 ?_
      try simp only [PL]
      refine tk 7 ?_
      try simp only [PL]
      refine tk 8 ?_
      try simp only [PL]
      refine tk 9 ?_
      try simp only [PL]
      refine tk 10 ?_
      try simp only [PL]
      refine tk 11 ?_
      try simp only [PL]
      refine tk 12 ?_
      try simp only [PL]
      refine tk 13 ?_
      try simp only [PL]
      refine tk 14 ?_
      try simp only [PL]
      refine r1 15 (fun K hK => ?_)
      have hRl : w.heap.size ≤ w.heap.size + 1 := by omega
      obtain ⟨WW, hWW, hB, hV, hBel⟩ := ret_frac hE hE.here.2 hRl hE.here.1.1.1.1.1.1.1.2 hc hd
      obtain ⟨x0, x1, x2, x3⟩ := (hE.here.2).c4
      obtain ⟨fz0, fz1, fz2, fz3⟩ := hE.here.2.f4
      have HWW := Lib.hid hWW
      clear hWW
      have q11 := (hE.here.1.2).far4 (R := w.heap.size + 1) (by omega) (.bool hs) (.slice hA hn hc) (.bool ht_) (.slice hD hm hd)
      rw [← HWW.out] at q11
      have q12 := (hE.here.1.1.1.1.1.1.2).far4 (R := w.heap.size + 1) (by omega) (.bool hs) (.slice hA hn hc) (.bool ht_) (.slice hD hm hd)
      rw [← HWW.out] at q12
      have q13 := (hE.here.1.1.1.1.1.2).far4 (R := w.heap.size + 1) (by omega) (.bool hs) (.slice hA hn hc) (.bool ht_) (.slice hD hm hd)
      rw [← HWW.out] at q13
      have q14 := (hE.here.1.1.1.1.2).far4 (R := w.heap.size + 1) (by omega) (.bool hs) (.slice hA hn hc) (.bool ht_) (.slice hD hm hd)
      rw [← HWW.out] at q14
      have q15 := (hE.here.1.1.1.2).far4 (R := w.heap.size + 1) (by omega) (.bool hs) (.slice hA hn hc) (.bool ht_) (.slice hD hm hd)
      rw [← HWW.out] at q15
      have q16 := (hE.here.1.1.2).far4 (R := w.heap.size + 1) (by omega) (.bool hs) (.slice hA hn hc) (.bool ht_) (.slice hD hm hd)
      rw [← HWW.out] at q16
      go_simp
      rw [← HWW.out]
      refine hK.out _ _ (⟨(q11).c5.1, (q11).c5.2.1, (q11).c5.2.2.1, (q11).c5.2.2.2.1, (q11).c5.2.2.2.2, (q12).2, (q13).2, (q14).2, (q15).2, (q16).2⟩) (fun hHeld => ?_)
      clear hK K
      try simp only [PL]
      refine wpAnyH_done (by kernel_rfl) ?_ _
      go_wp2_with fail
      rw [HQ2.out, ← HQ.out] at hV
      obtain ⟨y0, y1, y2, y3⟩ := hB.c4
      refine bodyPost_ret (v := .agg #[.bool hs, .slice hA hn hc, .bool ht_, .slice hD hm hd]) (by simp [results, Tryz.results112, go_sem, y0, y1, y2, y3]) rfl ?_
      exact ⟨hs, hA, hn, hc, ht_, hD, hm, hd, rfl, hV, hBel⟩
end Go.Proofs.YtmjlankpihnicaaGreat
namespace Go.Proofs.YtmjlankpihnicaaGreat
open Go.RowKit

theorem fvalid_v {q : Rat} {s t : Bool} {A B : Option Addr} {n m c d : Nat} {w : World} (h : FV w q s A n t B m) (l : fl q ≤ 256) :
    Calls Tryz.prog 30 #[.agg #[.bool s, .slice A n c, .bool t, .slice B m d]] w fun e w' => e = .returned (.bool true) ∧ Below w.heap.size w w' := by
  have := h.ln l
  exact fvalid_r s t A B n m c d _ _ w h.rd (by omega) (by omega) true (okF_of h l)
theorem cmpZ_le {x y : Int} : cmpZ x y ≤ 0 ↔ x ≤ y := by unfold cmpZ; split <;> (try split) <;> omega
theorem cmpQ_le {a b : Rat} : cmpQ a b ≤ 0 ↔ a ≤ b := by unfold cmpQ; rw [cmpZ_le, ← Rat.le_iff]
end Go.Proofs.YtmjlankpihnicaaGreat
namespace Go.Proofs.YtmjlankpihnicaaGreat
open Go.RowKit

/-- The word of an iterator: each value that it yields is V in the world in which it is yielded. -/
def SeqV {α : Type} (F : Fence) (n : Nat) (P : Program) (g : Nat) (lb : Array Value) (encs : α → Array Value) (Kp : World → World → Prop) (V : List α → α → World → Prop) (S Sp : List α → Prop) (N : Nat) (w : World) : Prop :=
  ∀ (l : Nat) (J Jx : List α → World → Prop) (W : World), Below w.heap.size w W → AbidesFrom W.heap.size J → AbidesFrom W.heap.size Jx →
    (∀ pre x W1, J pre W1 → V pre x W1 → pre.length < N → YieldAt F (n - 1) P l (encs x) W1 fun e W' =>
      (e = .returned (.bool true) ∧ J (pre ++ [x]) W' ∧ Kp W1 W') ∨ (e = .returned (.bool false) ∧ Jx (pre ++ [x]) W')) →
    J [] W →
    CallsIn F n P g (#[.func (.yield l) #[] #[]] ++ lb) W fun e W' => (∃ v, e = .returned v) ∧ ((∃ xs, S xs ∧ J xs W') ∨ (∃ pre, Sp pre ∧ Jx pre W'))

/-- The two blocks that a loop keeps its books in: for deferred calls at D, its record behind it. -/
structure Books (D : Nat) (r : Loop) (W : World) : Prop where
  dfr : W.heap[D]? = some (.deferred (some []))
  lp : W.heap[D + 1]? = some (.loop r)
section
variable {D : Nat} {r r' : Loop} {W W' : World}
theorem Books.lt (h : Books D r W) : D + 1 < W.heap.size := (Array.getElem?_eq_some_iff.1 h.lp).1
theorem Books.keeps (h : Books D r W) (hk : KeepsFrom D W W') : Books D r W' := ⟨hk.same _ _ (Nat.le_refl _) h.dfr rfl, hk.same _ _ (by omega) h.lp rfl⟩
theorem Books.turn (h : Books D r W) (r' : Loop) : Books D r' (W.putObj (D + 1) (.loop r')) := ⟨(World.putObj_heap_other (by omega)).trans h.dfr, World.putObj_heap_same h.lt⟩
theorem Books.abides (h : Books D r W) {row : Option Nat} (hg : W.grownBy W' row) (hr : ∀ q, row = some q → ∃ o : Obj, W.heap[q]? = some o ∧ o.isWalk = true) : Books D r W' :=
  ⟨(grownBy_keeps hg hr h.dfr rfl).trans h.dfr, (grownBy_keeps hg hr h.lp rfl).trans h.lp⟩
theorem Books.start (w : World) (r : Loop) : Books w.heap.size r ((w.alloc (.deferred (some []))).alloc (.loop r)) := by
  have h := World.alloc_heap_new (w.alloc (.deferred (some []))) (.loop r)
  rw [World.size_alloc] at h
  exact ⟨(Below.heap_alloc _ _ _ (by simp)).trans (World.alloc_heap_new w _), h⟩
end

theorem rangeV {F : Fence} {n : Nat} {P : Program} {α : Type} {g : Operand} {ps : Array Tmp} {assign body : Code} {Q : Exit → Act → World → Prop} {a : Act} {w : World}
    (hro : F.round = none) (h1 : 1 ≤ n) {gf : Nat} {lb : Array Value} (hg : a.eval g = .func (.func gf) #[] lb) (hFg : F.fn gf) (eg : ∀ args w, (callFunc gf args).run P w = .ok (.enter gf args) w)
    {encs : α → Array Value} {Kp : World → World → Prop} {V : List α → α → World → Prop} {S Sp : List α → Prop} {N : Nat} {w0 : World} (hseq : SeqV F (n - 1) P gf lb encs Kp V S Sp N w0)
    (hKt : ∀ {A B C : World}, Kp A B → Kp B C → Kp A C) (hKb : ∀ (W : World) (l : Nat) (o o' : Obj), w.heap.size ≤ l → W.heap[l]? = some o → o.isCells = false → o.isWalk = false → Kp W (W.putObj l o'))
    (hb0 : Below w0.heap.size w0 w) (hps : ∀ x, (encs x).size = ps.size)
    (I : List α → World → Prop) (Ix : Code → List α → World → Prop) (hI : OwnFrom w.heap.size I) (hIx : ∀ c, OwnFrom w.heap.size (Ix c)) (h0 : I [] w)
    (Ax : List α → α → Act → World → Prop) (hAx : ∀ pre x a', OwnFrom w.heap.size (fun (_ : Unit) W => Ax pre x a' W))
    (hassign : ∀ (l : Nat) (pre : List α) (x : α) (W : World) (K : Act → World → Prop), I pre W → V pre x W → (∀ a' W', KeepsFrom w.heap.size W W' → Kp W W' → I pre W' → Ax pre x a' W' → K a' W') →
      assign.wpIn (F.inRound l) (n - 1 - 1) P (Exit.then K (fun _ _ _ => False)) { tmps := (ps.zip (encs x)).foldl (fun t (p, v) => t.setIfInBounds p v) a.tmps, defers := [] } W)
    (hbody : ∀ (l : Nat) (pre : List α) (x : α) (a' : Act) (W : World), I pre W → Ax pre x a' W → pre.length < N → body.wpIn (F.inRound l) (n - 1 - 1) P (ownPostG w.heap.size Kp I Ix (pre ++ [x]) W) a' W)
    (hdone : ∀ (D : Nat) (xs : List α) (W : World), w.heap.size ≤ D → S xs → I xs W → W.heap[D]? = some (.deferred (some [])) → Q .normal { a with defers := { target := .collected D, args := #[] } :: a.defers } W)
    (hstop : ∀ (D : Nat) (c : Code) (pre : List α) (W : World), w.heap.size ≤ D → Sp pre → Ix c pre W → W.heap[D]? = some (.deferred (some [])) → c.wpIn F n P Q { a with defers := { target := .collected D, args := #[] } :: a.defers } W) :
    (Code.rangeFunc g ps assign body).wpIn F n P Q a w := by
  refine wpIn_rangeFunc fun fn hfn => ?_
  rw [hro]
  obtain ⟨bk, hbk⟩ : ∃ bk : LoopState → Option Code → Loop, bk = fun st pe => { state := st, pending := pe, fn, tmps := a.tmps, params := ps, assign, body, defers := w.heap.size } := ⟨_, rfl⟩
  have hB1 := Books.start w (bk .ready none)
  have hI1 : I [] ((w.alloc (.deferred (some []))).alloc (.loop (bk .ready none))) := hI.alloc _ (hI.alloc _ h0)
  have hb1 : Below w0.heap.size w0 ((w.alloc (.deferred (some []))).alloc (.loop (bk .ready none))) := hb0.trans ((((Below.refl _ w).alloc (Nat.le_refl _) _).alloc (by simp) _).mono hb0.size)
  have hz : ((w.alloc (.deferred (some []))).alloc (.loop (bk .ready none))).heap.size = w.heap.size + 1 + 1 := by simp
  have hent := run_enterLoop_outer (P := P) (w := w) fn a.tmps ps assign body
  have hent2 : (Instr.enterLoop fn a.tmps ps assign body none).run P w = .ok (w.heap.size + 1, [{ target := .collected w.heap.size, args := #[] }]) ((w.alloc (.deferred (some []))).alloc (.loop (bk .ready none))) := by rw [hbk]; exact hent
  clear hent
  generalize (w.alloc (.deferred (some []))).alloc (.loop (bk .ready none)) = W1 at *
  refine ⟨w.heap.size + 1, [{ target := .collected w.heap.size, args := #[] }], W1, { target := .fn (.func gf) lb, args := #[.func (.yield (w.heap.size + 1)) #[] #[]] }, W1, gf,
    #[.func (.yield (w.heap.size + 1)) #[] #[]] ++ lb, W1, hent2, ?_, ?_, ?_, fun _ => h1, ?_⟩
  · simp only [resolve, hg]
    simp [go_sem]
  · intro f' hf'
    simp [Target.leads] at hf'
    subst hf'
    exact hFg
  · simp [invoke, go_sem, eg]
  · have far : ∀ {A : World} {row : Option Nat}, (∀ q, row = some q → W1.heap.size ≤ q ∧ ∃ o : Obj, A.heap[q]? = some o ∧ o.isWalk = true) → ∀ q, row = some q → w.heap.size ≤ q ∧ ∃ o : Obj, A.heap[q]? = some o ∧ o.isCells = false :=
      fun hr q e => by
        obtain ⟨hq, o, ho, hw⟩ := hr q e
        exact ⟨by omega, o, ho, Obj.not_cells_of_walk hw⟩
    refine (hseq (w.heap.size + 1) (fun pre W => I pre W ∧ Books w.heap.size (bk .ready none) W) (fun pre W => ∃ c, Ix c pre W ∧ Books w.heap.size (bk .done (some c)) W) W1 hb1
      (fun s A B row hs hg' hr => ⟨hI s A B row hs.1 hg' (far hr), hs.2.abides hg' fun q e => (hr q e).2⟩)
      (fun s A B row hs hg' hr => by
        obtain ⟨c, hc, hB⟩ := hs
        exact ⟨c, hIx c s A B row hc hg' (far hr), hB.abides hg' fun q e => (hr q e).2⟩) ?_ ⟨hI1, hB1⟩).mono ?_
    · rintro pre x W ⟨hi, hB⟩ hv hlen
      have hy := run_yield (P := P) (args := encs x) hB.lp (by rw [hbk]; exact hps x)
      rw [hbk] at hy
      refine ⟨fn, _, assign, body, hy, roundIn_of_wpIn hfn (hassign _ pre x W _ hi hv ?_)⟩
      clear hy
      intro a' X hkf hkp hix hax
      have hBX := hB.keeps hkf
      refine ⟨_, run_beginRound hBX.lp (by rw [hbk]), ?_⟩
      have hturn := hBX.turn { bk .ready none with state := .busy }
      have hfw := hBX.lp
      refine wpIn_mono (hbody _ pre x a' _ (hI.putObj _ hix (by omega) hfw rfl) ((hAx pre x a').putObj (s := ()) _ hax (by omega) hfw rfl) hlen) ?_
      have hkq : Kp W (X.putObj (w.heap.size + 1) (.loop { bk .ready none with state := .busy })) := hKt hkp (hKb _ _ _ _ (by omega) hfw rfl rfl)
      generalize X.putObj (w.heap.size + 1) (.loop { bk .ready none with state := .busy }) = Y at *
      have fin : ∀ (jump : Option Code) (Z : World), KeepsFrom w.heap.size Y Z →
          (Instr.endRound (w.heap.size + 1) jump).run P Z = .ok (.bool jump.isNone) (Z.putObj (w.heap.size + 1) (.loop (bk (if jump.isNone then .ready else .done) jump))) ∧
          Z.heap[w.heap.size + 1]? = some (.loop { bk .ready none with state := .busy }) ∧ Books w.heap.size (bk (if jump.isNone then .ready else .done) jump) (Z.putObj (w.heap.size + 1) (.loop (bk (if jump.isNone then .ready else .done) jump))) := fun jump Z hk => by
        have hBZ := hturn.keeps hk
        have h := run_endRound (P := P) jump hBZ.lp
        have ht := hBZ.turn (bk (if jump.isNone then .ready else .done) jump)
        refine ⟨?_, hBZ.lp, ht⟩
        rw [hbk] at h ⊢
        exact h
      have leave : ∀ (c : Code) (Z : World), KeepsFrom w.heap.size Y Z ∧ Ix c (pre ++ [x]) Z → ∃ v Z', (Instr.endRound (w.heap.size + 1) (some c)).run P Z = .ok v Z' ∧ v = .bool false ∧ ∃ c', Ix c' (pre ++ [x]) Z' ∧ Books w.heap.size (bk .done (some c')) Z' := fun c Z ⟨hk, hx⟩ => by
        obtain ⟨hr, hl, hBZ⟩ := fin (some c) Z hk
        exact ⟨_, _, hr, rfl, c, (hIx c).putObj _ hx (by omega) hl rfl, hBZ⟩
      rintro e a3 Z hp
      cases e with
      | normal =>
        obtain ⟨hk, hkp3, hi3⟩ := hp
        obtain ⟨hr, hl, hBZ⟩ := fin none Z hk
        exact ⟨_, _, hr, .inl ⟨rfl, ⟨hI.putObj _ hi3 (by omega) hl rfl, hBZ⟩, hKt (hKt hkq hkp3) (hKb _ _ _ _ (by omega) hl rfl rfl)⟩⟩
      | ret =>
        obtain ⟨v, Z', hr, rfl, hc⟩ := leave .ret Z hp
        exact ⟨_, _, hr, .inr ⟨rfl, hc⟩⟩
      | exit id =>
        obtain ⟨v, Z', hr, rfl, hc⟩ := leave (.exit id) Z hp
        exact ⟨_, _, hr, .inr ⟨rfl, hc⟩⟩
      | goto t =>
        obtain ⟨v, Z', hr, rfl, hc⟩ := leave (.goto t) Z hp
        exact ⟨_, _, hr, .inr ⟨rfl, hc⟩⟩
      | panic ch => exact hp.elim
      | outgrown => exact hp.elim
    · rintro e Z ⟨⟨v, rfl⟩, (⟨xs, hS, hi, hB⟩ | ⟨pre, hSp, c, hi, hB⟩)⟩
      · have h := run_endLoop (P := P) hB.lp (by rw [hbk]; simp)
        exact ⟨none, _, by rw [hbk] at h; exact h, hdone _ xs _ (Nat.le_refl _) hS (hI.putObj _ hi (by omega) hB.lp rfl) ((World.putObj_heap_other (by omega)).trans hB.dfr)⟩
      · have h := run_endLoop (P := P) hB.lp (by rw [hbk]; simp)
        exact ⟨some c, _, by rw [hbk] at h; exact h, hstop _ c pre _ (Nat.le_refl _) hSp ((hIx c).putObj _ hi (by omega) hB.lp rfl) ((World.putObj_heap_other (by omega)).trans hB.dfr)⟩
end Go.Proofs.YtmjlankpihnicaaGreat
namespace Go.Proofs.YtmjlankpihnicaaGreat
open Go.RowKit Go.Shelf
attribute [local go_sem] Oper.semAt_some

/-- A year with its rate, as it is yielded. -/
structure Yr where
  k : Nat
  s : Bool
  A : Option Addr
  n : Nat
  c : Nat
  t : Bool
  B : Option Addr
  m : Nat
  d : Nat
def Yr.vals (x : Yr) : Array Value := #[.int .i64 (x.k : Int), .agg #[.bool x.s, .slice x.A x.n x.c, .bool x.t, .slice x.B x.m x.d]]
def Yr.fit (q : Nat → Rat) (pre : List Yr) (x : Yr) (W : World) : Prop := x.k = pre.length ∧ FV W (q x.k) x.s x.A x.n x.t x.B x.m
/-- The years 0, 1, .., j - 1. -/
def Yrs (l : List Yr) (j : Nat) : Prop := l.map Yr.k = List.range j
theorem Yrs.nil : Yrs [] 0 := rfl
theorem Yrs.snoc {l : List Yr} {j : Nat} {x : Yr} (h : Yrs l j) (hx : x.k = j) : Yrs (l ++ [x]) (j + 1) := by
  unfold Yrs at *
  rw [List.map_append, h, List.range_succ, ← hx]
  rfl
theorem Yrs.length {l : List Yr} {j : Nat} (h : Yrs l j) : l.length = j := by
  have := congrArg List.length h
  simpa using this
theorem KpB.blk {n₀ Bs : Nat} {t : TypeId} {cs : Array Value} {W W' : World} (h : KpB n₀ Bs W W') (hb : Blk t Bs cs W) : Blk t Bs cs W' := h.2.trans hb

/-- What stays as memory grows. -/
theorem AbidesFrom_below {β : Type} {B : Nat} {J : β → World → Prop} (h : AbidesFrom B J) {s : β} {W W' : World} (hs : J s W) (hb : Below W.heap.size W W') : J s W' :=
  h s W W' none hs ⟨hb.os, hb.tape, hb.output, hb.size, fun k hk _ => hb.block k hk⟩ (fun _ e => by cases e)

end Go.Proofs.YtmjlankpihnicaaGreat
namespace Go.Proofs.YtmjlankpihnicaaGreat

/-- The product of 1 - f i, i < k. -/
def pr (f : Nat → Rat) : Nat → Rat
  | 0 => 1
  | k + 1 => pr f k * (1 - f k)
/-- Rates: from 0 to 1, denominators of one limb. -/
def Rts (f : Nat → Rat) (n : Nat) : Prop := ∀ i, i < n → 0 ≤ f i ∧ f i ≤ 1 ∧ (f i).den < b16
theorem fl_of {q : Rat} {D k : Nat} (hD : 0 < D) (hd : Dv q D) (h1 : 0 ≤ q) (h2 : q ≤ 1) (hk : D ≤ b16 ^ k) : fl q ≤ k + 1 := by
  refine fl_bound hD hd (M := 1) (by grind) (by grind) (by decide) ((ln_le b16_two).2 ?_)
  rw [Nat.one_mul, Nat.pow_succ]
  have hp : 0 < b16 ^ k := Nat.pow_pos (by decide)
  have h2 : b16 ^ k * 2 ≤ b16 ^ k * b16 := Nat.mul_le_mul_left _ b16_two
  omega
theorem rate_fl {f : Nat → Rat} {n k : Nat} (h : Rts f n) (hk : k < n) : fl (f k) ≤ 2 := by
  obtain ⟨h3, h4, h5⟩ := h k hk
  exact fl_of (k := 1) (f k).den_pos (Dv.self (f k)) h3 h4 (by rw [Nat.pow_one]; omega)
end Go.Proofs.YtmjlankpihnicaaGreat
namespace Go.Proofs.YtmjlankpihnicaaGreat

theorem FH.rates {h : FH} {w : World} (hr : h.isRate = true) (hd : h.rd w) : 0 ≤ h.q ∧ h.q ≤ 1 ∧ h.q.den < b16 := by
  obtain ⟨hv, _⟩ := FH.fv hr hd
  unfold FH.isRate rateB at hr
  simp only [Bool.and_eq_true, Bool.not_eq_true', decide_eq_true_eq] at hr
  obtain ⟨_, h2, h3, h4, h5⟩ := hr
  refine ⟨?_, cmpQ_le.1 h5, ?_⟩
  · have := hv.1.sgn
    rw [h2] at this
    have := of_decide_eq_false this.symm
    exact Rat.num_nonneg.1 (by omega)
  · have := hv.2.len
    have h6 : ln b16 h.q.den ≤ 1 := by
      simp only [Int.natAbs_natCast] at this
      omega
    simpa using (ln_le b16_two).1 h6

theorem rt_rates {F S E Y : Int} {A : Option Addr} {n : Nat} {r : Nat → RH} {w : World} (hT : TabM w A n r) (hR : RightP F S n r E Y) (N : Nat) : Rts (fun k => rt F S n r E Y (k : Int)) N := fun i _ => by
  obtain ⟨ht, r1, r2, r3, r4⟩ := hR
  have hS := ht.1.2
  have row : ∀ (a b : Nat), a < n → b ≤ S.toNat → 0 ≤ ((r a).h b).q ∧ ((r a).h b).q ≤ 1 ∧ ((r a).h b).q.den < b16 := fun a b ha hb => by
    obtain ⟨l1, l2⟩ := ht.2.2.1 a ha
    obtain ⟨b2, o2, e2, hb2, hc2⟩ := hT.row ha (by omega)
    exact FH.rates (l2 b (by omega)) (hc2 b (by omega)).2
  show 0 ≤ rt F S n r E Y (i : Int) ∧ rt F S n r E Y (i : Int) ≤ 1 ∧ (rt F S n r E Y (i : Int)).den < b16
  unfold rt
  by_cases h1 : F + (n : Int) - 1 < E + (Y + i)
  · rw [if_pos h1]
    exact ⟨by decide, by decide, by decide⟩
  · rw [if_neg h1]
    by_cases h2 : Y + (i : Int) < S
    · rw [if_pos h2]
      exact row _ _ (by omega) (by omega)
    · rw [if_neg h2]
      exact row _ _ (by omega) (by omega)
end Go.Proofs.YtmjlankpihnicaaGreat
namespace Go.Proofs.YtmjlankpihnicaaGreat
open Go.RowKit

/-- P stays where a block that is no cells and lies from B on is turned. -/
def Grown (B : Nat) (P : World → Prop) : Prop := ∀ (W W' : World) (row : Option Nat), P W → W.grownBy W' row → (∀ q, row = some q → B ≤ q ∧ ∃ o : Obj, W.heap[q]? = some o ∧ o.isCells = false) → P W'
theorem Grown.tt (B : Nat) : Grown B (fun _ => True) := fun _ _ _ _ _ _ => trivial
theorem Grown.pure (B : Nat) (p : Prop) : Grown B (fun _ => p) := fun _ _ _ h _ _ => h
theorem Grown.and {B : Nat} {P Q : World → Prop} (hP : Grown B P) (hQ : Grown B Q) : Grown B (fun W => P W ∧ Q W) := fun _ _ _ h hg hr => ⟨hP _ _ _ h.1 hg hr, hQ _ _ _ h.2 hg hr⟩
theorem Grown.ex {B : Nat} {α : Type} {P : α → World → Prop} (hP : ∀ x, Grown B (P x)) : Grown B (fun W => ∃ x, P x W) := fun _ _ _ ⟨x, h⟩ hg hr => ⟨x, hP x _ _ _ h hg hr⟩
theorem Grown.blk (B : Nat) (t : TypeId) (g : Nat) (cs : Array Value) : Grown B (Blk t g cs) := fun W W' row h hg hr =>
  (hg.block g h.lt fun e => by
    obtain ⟨_, o, ho, hc⟩ := hr g e.symm
    have h2 : W.heap[g]? = some (.cells cs t (0, 0)) := h
    rw [h2] at ho
    cases ho
    cases hc).trans h
theorem Grown.rd (B : Nat) (k : IntKind) (A : Option Addr) (n : Nat) (f : Nat → Nat) : Grown B (fun W => Rd W.heap.size k W A n f) := fun _ _ _ h hg hr h0 => by
  obtain ⟨b, o, e, hb, hc⟩ := h h0
  exact ⟨b, o, e, Nat.lt_of_lt_of_le hb hg.size, fun i hi => cell_kept (hc i hi) hg fun q e => (hr q e).2⟩
theorem Grown.wv (B : Nat) (z : Int) (s : Bool) (A : Option Addr) (n : Nat) : Grown B (fun W => WV W z s A n) := fun W W' row h hg hr => ⟨h.1, h.2.1, Grown.rd B .u16 A _ _ W W' row h.2.2 hg hr⟩
theorem Grown.fv (B : Nat) (q : Rat) (s : Bool) (A : Option Addr) (n : Nat) (t : Bool) (C : Option Addr) (m : Nat) : Grown B (fun W => FV W q s A n t C m) := (Grown.wv B _ _ _ _).and (Grown.wv B _ _ _ _)
theorem Grown.bel {B : Nat} {w : World} (hB : w.heap.size ≤ B) : Grown B (Below w.heap.size w) := fun _ _ _ h hg hr => h.grown hg h.size fun q e => Nat.le_trans hB (hr q e).1
theorem Grown.env {B : Nat} {w : World} {P : World → Prop} (hB : w.heap.size ≤ B) (hP : Grown B P) : Grown B (Env w P) := fun W W' row h hg hr => ⟨Grown.bel hB W W' row h.bel hg hr, h.st, hP W W' row h.here hg hr⟩
theorem Grown.size (B j : Nat) : Grown B (fun W => j < W.heap.size) := fun _ _ _ h hg _ => Nat.lt_of_lt_of_le h hg.size
theorem Grown.drew {B : Nat} {P : World → Prop} (hP : Grown B P) {W : World} (h : P W) : P W.drew := hP W W.drew none h ⟨rfl, rfl, rfl, Nat.le_refl _, fun _ _ _ => rfl⟩ (fun _ e => by cases e)
end Go.Proofs.YtmjlankpihnicaaGreat
namespace Go.Proofs.YtmjlankpihnicaaGreat
open Go.RowKit

theorem grown_of_below {W W' : World} (hb : Below W.heap.size W W') : W.grownBy W' none := ⟨hb.os, hb.tape, hb.output, hb.size, fun k hk _ => hb.block k hk⟩
theorem grownBy_setCellI (W : World) (g i : Nat) (u : Value) : W.grownBy (W.setCell ⟨g, i, none⟩ u) (some g) :=
  ⟨rfl, rfl, rfl, by rw [World.size_setCell]; exact Nat.le_refl _, fun k _ hne => Below.heap_setCell W ⟨g, i, none⟩ u k (fun e => hne (congrArg some e))⟩
theorem KpB.grown {n₀ Bs : Nat} {W W' : World} {row : Option Nat} (hn : n₀ ≤ W.heap.size) (hs : Bs < W.heap.size) (hg : W.grownBy W' row) (hr : ∀ q, row = some q → n₀ ≤ q ∧ q ≠ Bs) : KpB n₀ Bs W W' :=
  ⟨(Below.refl _ W).grown hg hn fun q e => (hr q e).1, hg.block Bs hs fun e => (hr Bs e.symm).2 rfl⟩
/-- What a round has kept since W0: blocks that are no cells from B on, all below n₀, and the block Bs. -/
structure Trail (B n₀ Bs : Nat) (W0 V : World) : Prop where
  keeps : KeepsFrom B W0 V
  kp : KpB n₀ Bs W0 V
  hs : Bs < V.heap.size
  hn : n₀ ≤ V.heap.size
section
variable {B n₀ Bs : Nat} {W0 V V' : World}
theorem Trail.refl (W0 : World) (hs : Bs < W0.heap.size) (hn : n₀ ≤ W0.heap.size) : Trail B n₀ Bs W0 W0 := ⟨KeepsFrom.refl _ _, ⟨Below.refl _ _, rfl⟩, hs, hn⟩
theorem Trail.grown (h : Trail B n₀ Bs W0 V) {row : Option Nat} (hg : V.grownBy V' row) (hr : ∀ q, row = some q → n₀ ≤ q ∧ q ≠ Bs ∧ q < B) : Trail B n₀ Bs W0 V' :=
  ⟨h.keeps.trans (KeepsFrom.of_grownBy hg fun q e => (hr q e).2.2), h.kp.t (KpB.grown h.hn h.hs hg fun q e => ⟨(hr q e).1, (hr q e).2.1⟩), Nat.lt_of_lt_of_le h.hs hg.size, Nat.le_trans h.hn hg.size⟩
theorem Trail.step (h : Trail B n₀ Bs W0 V) (hb : Below V.heap.size V V') : Trail B n₀ Bs W0 V' := h.grown (grown_of_below hb) (fun _ e => by cases e)
theorem Trail.stable (B n₀ Bs : Nat) (W0 : World) : Stable (Trail B n₀ Bs W0) := fun _ _ hb h => h.step hb
theorem Trail.set (h : Trail B n₀ Bs W0 V) {P : Nat} (hp : n₀ ≤ P ∧ P ≠ Bs ∧ P < B) (i : Nat) (u : Value) : Trail B n₀ Bs W0 (V.setCell ⟨P, i, none⟩ u) := h.grown (grownBy_setCellI V P i u) (fun q e => by cases e; exact hp)
theorem Trail.set4 (h : Trail B n₀ Bs W0 V) {P : Nat} (hp : n₀ ≤ P ∧ P ≠ Bs ∧ P < B) (a b c d : Value) : Trail B n₀ Bs W0 ((((V.setCell ⟨P, 0, none⟩ a).setCell ⟨P, 1, none⟩ b).setCell ⟨P, 2, none⟩ c).setCell ⟨P, 3, none⟩ d) :=
  (((h.set hp 0 a).set hp 1 b).set hp 2 c).set hp 3 d
end
theorem Env.trail {w W W0 : World} {P : World → Prop} {B n₀ Bs : Nat} (h : Env w P W) (ht : Trail B n₀ Bs W0 W) : Env w (fun V => P V ∧ Trail B n₀ Bs W0 V) W := h.and (Trail.stable _ _ _ _) ht
theorem last_year {F S E Y : Int} {n : Nat} {r : Nat → RH} (hR : RightP F S n r E Y) : ∃ M : Nat, M ≤ 111 ∧ (∀ k : Nat, k < M → E + Y + (k : Int) ≤ F + (n : Int) - 1) ∧ F + (n : Int) - 1 < E + Y + (M : Int) ∧ rt F S n r E Y (M : Int) = 1 := by
  obtain ⟨ht, r1, r2, r3, r4⟩ := hR
  obtain ⟨n1, n2⟩ : 1 ≤ n ∧ n ≤ 111 := ⟨ht.2.1.1, ht.2.1.2⟩
  refine ⟨(F + n - (E + Y)).toNat, by omega, fun k hk => by omega, by omega, ?_⟩
  unfold rt
  rw [if_pos (by omega)]
theorem Blk.c1 {w : World} {g : Nat} {t : TypeId} {a : Value} (h : Blk t g #[a] w) : w.cell? ⟨g, 0, none⟩ = some a := h.cell 0
/-- The books: the number of years in block Pn, the result in Pr, the number q in Pp. -/
def AInv (w : World) (k : Nat) (Pn Pr Pp : Nat) (q : Rat) (W : World) : Prop :=
  ∃ s A n c t C m d, Env w (fun V => (((True ∧ Blk 3 Pn #[.int .i64 (k : Int)] V) ∧ Blk 29 Pr #[.bool false, .slice none 0 0, .bool false, .slice none 0 0] V) ∧ FV V q s A n t C m) ∧ Blk 29 Pp #[.bool s, .slice A n c, .bool t, .slice C m d] V) W
theorem AInv.grown {w : World} {B : Nat} (hB : w.heap.size ≤ B) (k Pn Pr Pp : Nat) (q : Rat) : Grown B (AInv w k Pn Pr Pp q) := fun W W' row ⟨s, A, n, c, t, C, m, d, h⟩ hg hr =>
  ⟨s, A, n, c, t, C, m, d, Grown.env hB ((((Grown.tt B).and (Grown.blk _ _ _ _)).and (Grown.blk _ _ _ _)).and (Grown.fv _ _ _ _ _ _ _ _) |>.and (Grown.blk _ _ _ _)) W W' row h hg hr⟩
theorem AInv.step {w W W' : World} {k Pn Pr Pp : Nat} {q : Rat} (h : AInv w k Pn Pr Pp q W) (hb : Below W.heap.size W W') : AInv w k Pn Pr Pp q W' := by
  obtain ⟨s, A, n, c, t, C, m, d, h⟩ := h
  exact ⟨s, A, n, c, t, C, m, d, h.step hb⟩
/-- A round's own variables: the year, and the rate in a block of its own. -/
def AAx (f : Nat → Rat) (Pp : Nat) (mk : Nat → Value → Value → Act) (pre : List Yr) (x : Yr) (a : Act) (W : World) : Prop :=
  x.k = pre.length ∧ ∃ g, a = mk g (.int .i64 (x.k : Int)) (.agg #[.bool x.s, .slice x.A x.n x.c, .bool x.t, .slice x.B x.m x.d]) ∧ Pp < g ∧ g < W.heap.size ∧ FV W (f x.k) x.s x.A x.n x.t x.B x.m ∧ Blk 29 g #[.bool x.s, .slice x.A x.n x.c, .bool x.t, .slice x.B x.m x.d] W
theorem AAx.grown {B Pp : Nat} {f : Nat → Rat} {mk : Nat → Value → Value → Act} {pre : List Yr} {x : Yr} {a : Act} : Grown B (fun W => AAx f Pp mk pre x a W) :=
  (Grown.pure B _).and (Grown.ex fun g => (Grown.pure B _).and ((Grown.pure B _).and ((Grown.size B g).and ((Grown.fv B _ _ _ _ _ _ _).and (Grown.blk B _ _ _)))))
/-- The result q in block Pr. -/
def RInv (w : World) (Pr : Nat) (q : Rat) (W : World) : Prop :=
  ∃ s A n c t C m d, Env w (fun V => (True ∧ FV V q s A n t C m) ∧ Blk 29 Pr #[.bool s, .slice A n c, .bool t, .slice C m d] V) W
theorem RInv.grown {w : World} {B : Nat} (hB : w.heap.size ≤ B) (Pr : Nat) (q : Rat) : Grown B (RInv w Pr q) := fun W W' row ⟨s, A, n, c, t, C, m, d, h⟩ hg hr =>
  ⟨s, A, n, c, t, C, m, d, Grown.env hB (((Grown.tt B).and (Grown.fv _ _ _ _ _ _ _ _)).and (Grown.blk _ _ _ _)) W W' row h hg hr⟩
theorem heap_set4 {W : World} {R D : Nat} (h : D ≠ R) (a b c d : Value) : ((((W.setCell ⟨R, 0, none⟩ a).setCell ⟨R, 1, none⟩ b).setCell ⟨R, 2, none⟩ c).setCell ⟨R, 3, none⟩ d).heap[D]? = W.heap[D]? :=
  (((Below.heap_setCell _ ⟨R, 3, none⟩ d D h).trans (Below.heap_setCell _ ⟨R, 2, none⟩ c D h)).trans (Below.heap_setCell _ ⟨R, 1, none⟩ b D h)).trans (Below.heap_setCell _ ⟨R, 0, none⟩ a D h)
/-- A block of deferred calls. -/
def Dfr (D : Nat) (W : World) : Prop := W.heap[D]? = some (.deferred (some []))
theorem Dfr.stable (D : Nat) : Stable (Dfr D) := fun _ _ hb h => (hb.block D (Array.getElem?_eq_some_iff.1 h).1).trans h
theorem Env.def_ {w W : World} {P : World → Prop} {D : Nat} (h : Env w P W) (hD : W.heap[D]? = some (.deferred (some []))) : Env w (fun V => P V ∧ Dfr D V) W := h.and (Dfr.stable D) hD
theorem leave_frac {w V : World} {R D : Nat} {T : TypeId} {q : Rat} {s t : Bool} {A C : Option Addr} {n c m d : Nat} (hB : Blk T R #[.bool s, .slice A n c, .bool t, .slice C m d] V) (hV : FV V q s A n t C m) (hb : Below w.heap.size w V) (hD : w.heap.size ≤ D) (hne : D ≠ R) (hK : V.heap[D]? = some (.deferred (some []))) (o' : Obj) :
    Blk T R #[.bool s, .slice A n c, .bool t, .slice C m d] (V.putObj D o') ∧ FV (V.putObj D o') q s A n t C m ∧ Below w.heap.size w (V.putObj D o') :=
  ⟨(World.putObj_heap_other (Ne.symm hne)).trans hB, Grown.fv 0 _ _ _ _ _ _ _ V _ (some D) hV (grownBy_putObj' V D o') (fun q e => by cases e; exact ⟨Nat.zero_le _, _, hK, rfl⟩), hb.trans (belowK_b (w := w) (Nat.le_refl _) V D _ _ hD hK rfl rfl)⟩
end Go.Proofs.YtmjlankpihnicaaGreat
namespace Go.Proofs.YtmjlankpihnicaaGreat
open Go.RowKit Go.Shelf
attribute [local go_sem] Oper.semAt_some

end Go.Proofs.YtmjlankpihnicaaGreat
namespace Go.Proofs.YtmjlankpihnicaaGreat
open Go.RowKit Go.Shelf
attribute [local go_sem] Oper.semAt_some

end Go.Proofs.YtmjlankpihnicaaGreat
namespace Go.Proofs.YtmjlankpihnicaaGreat

/-- The rates of a life some years later. -/
theorem rt_later (F S : Int) (n : Nat) (r : Nat → RH) (E Y : Int) (m k : Nat) : rt F S n r E (Y + (m : Int)) (k : Int) = rt F S n r E Y ((m + k : Nat) : Int) := by
  unfold rt
  rw [show Y + (m : Int) + (k : Int) = Y + ((m + k : Nat) : Int) by omega]
end Go.Proofs.YtmjlankpihnicaaGreat
namespace Go.Proofs.YtmjlankpihnicaaGreat

/-- A probability with a denominator of at most j limbs and one more. -/
def Sm (q : Rat) (j : Nat) : Prop := 0 ≤ q ∧ q ≤ 1 ∧ ∃ D, 0 < D ∧ Dv q D ∧ D ≤ b16 ^ j
theorem Sm.fl {q : Rat} {j : Nat} (h : Sm q j) : fl q ≤ j + 1 := by
  obtain ⟨h1, h2, D, h3, h4, h5⟩ := h
  exact fl_of h3 h4 h1 h2 h5
theorem Sm.l {q : Rat} {j : Nat} (h : Sm q j) (hj : j ≤ 255) : Go.Proofs.YtmjlankpihnicaaGreat.fl q ≤ 256 := Nat.le_trans h.fl (by omega)
theorem Sm.mul {p q : Rat} {i j : Nat} (h : Sm p i) (k : Sm q j) : Sm (p * q) (i + j) := by
  obtain ⟨h1, h2, D, h3, h4, h5⟩ := h
  obtain ⟨k1, k2, E, k3, k4, k5⟩ := k
  refine ⟨Rat.mul_nonneg h1 k1, ?_, D * E, Nat.mul_pos h3 k3, h4.mul k4, ?_⟩
  · have := Rat.mul_nonneg h1 (show 0 ≤ 1 - q by grind)
    grind
  · rw [Nat.pow_add]
    exact Nat.mul_le_mul h5 k5
theorem Sm.no {q : Rat} {j : Nat} (h : Sm q j) : Sm (1 - q) j := by
  obtain ⟨h1, h2, D, h3, h4, h5⟩ := h
  exact ⟨by grind, by grind, D, h3, ((Dv.int 1).more (Nat.one_dvd _)).sub h4, h5⟩
theorem Sm.more {q : Rat} {i j : Nat} (h : Sm q i) (hij : i ≤ j) : Sm q j := by
  obtain ⟨h1, h2, D, h3, h4, h5⟩ := h
  exact ⟨h1, h2, D, h3, h4, Nat.le_trans h5 (Nat.pow_le_pow_right (by decide) hij)⟩
theorem Sm.zero : Sm 0 0 := ⟨by decide, by decide, 1, by decide, Dv.int 0, by decide⟩
theorem Sm.one : Sm 1 0 := ⟨by decide, by decide, 1, by decide, Dv.int 1, by decide⟩
end Go.Proofs.YtmjlankpihnicaaGreat
namespace Go.Proofs.YtmjlankpihnicaaGreat
open Go.RowKit

/-- A table that is not large. -/
def RowS (R : RH) (Wd L : Int) : Prop := (R.n : Int) ≤ Wd ∧ ∀ k, k < R.n → ((R.h k).n : Int) ≤ L ∧ ((R.h k).m : Int) ≤ L
def TabS (n : Nat) (r : Nat → RH) (N Wd L : Int) : Prop := (n : Int) ≤ N ∧ ∀ i, i < n → RowS (r i) Wd L
theorem TabS.b {n : Nat} {r : Nat → RH} {N Wd L : Int} (h : TabS n r N Wd L) (h1 : N ≤ 1000000) (h2 : Wd ≤ 1000000) (h3 : L ≤ 1000000) : TabB n r :=
  ⟨by have := h.1; omega, fun i hi => ⟨by have := (h.2 i hi).1; omega, fun k hk => by have := (h.2 i hi).2 k hk; omega⟩⟩
end Go.Proofs.YtmjlankpihnicaaGreat
