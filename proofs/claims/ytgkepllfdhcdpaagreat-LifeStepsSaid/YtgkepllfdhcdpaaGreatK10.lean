/-
  Several texts in one: The walk of life.person's rate. The walks of the laws' helpers over fractions: quick, is, sum, product, not, equal, chance. A range over a function where each value that is yielded is known to fit the world at hand.
-/
import Derived.Test.YtgkepllfdhcdpaaGreatK9
import Derived.RangeFuncNested
import Derived.RangeFuncBound
namespace Go.Proofs.YtgkepllfdhcdpaaGreat
open Go.RowKit

theorem At.far4 {b o R : Nat} {v : Value} {w : World} (h : At b o v w) (hb : b ≠ R) (x y z u : Value) : At b o v ((((w.setCell ⟨R, 0, none⟩ x).setCell ⟨R, 1, none⟩ y).setCell ⟨R, 2, none⟩ z).setCell ⟨R, 3, none⟩ u) := by
  have step : ∀ (W : World) (i : Nat) (x : Value), At b o v W → At b o v (W.setCell ⟨R, i, none⟩ x) := fun W i x h => ⟨by rw [World.size_setCell]; exact h.1, by rw [World.cell?_setCell_other W _ _ x (fun e => hb (congrArg Addr.block e).symm)]; exact h.2⟩
  exact step _ _ _ (step _ _ _ (step _ _ _ (step _ _ _ h)))
theorem Blk.c5 {t : TypeId} {g : Nat} {w : World} {a b c d e : Value} (h : Blk t g #[a, b, c, d, e] w) : w.cell? ⟨g, 0, none⟩ = some a ∧ w.cell? ⟨g, 1, none⟩ = some b ∧ w.cell? ⟨g, 2, none⟩ = some c ∧ w.cell? ⟨g, 3, none⟩ = some d ∧ w.cell? ⟨g, 4, none⟩ = some e := ⟨h.cell 0, h.cell 1, h.cell 2, h.cell 3, h.cell 4⟩
/-- The rate of a life k years from now on. -/
def rt (F S : Int) (n : Nat) (r : Nat → RH) (E Y k : Int) : Rat :=
  if F + (n : Int) - 1 < E + (Y + k) then 1 else if Y + k < S then ((r (E - F).toNat).h (Y + k).toNat).q else ((r (E + (Y + k) - F).toNat).h S.toNat).q
/-- A rate of a valid table: where it lies. -/
theorem rate_at {F S : Int} {A : Option Addr} {n : Nat} {r : Nat → RH} {w : World} (hT : TabM w A n r) (ht : TOK F S n r) {i k : Int} (h1 : 0 ≤ i) (h2 : i < n) (_ : 0 ≤ k) (h4 : k ≤ S) :
    ∃ b o b2 o2 ni ci, A = some ⟨b, o, none⟩ ∧ b < w.heap.size ∧ w.cell? ⟨b, o + i.toNat, none⟩ = some (.slice (some ⟨b2, o2, none⟩) ni ci) ∧ b2 < w.heap.size ∧ k < (ni : Int) ∧ ((r i.toNat).h k.toNat).cells w b2 (o2 + k.toNat * 4) ∧ FV w ((r i.toNat).h k.toNat).q ((r i.toNat).h k.toNat).s ((r i.toNat).h k.toNat).A ((r i.toNat).h k.toNat).n ((r i.toNat).h k.toNat).t ((r i.toNat).h k.toNat).B ((r i.toNat).h k.toNat).m := by
  obtain ⟨b, o, e, hb, hc⟩ := hT (by omega)
  obtain ⟨c0, hrow⟩ := hc i.toNat (by omega)
  obtain ⟨l1, l2⟩ := ht.2.2.1 i.toNat (by omega)
  have hS := ht.1.2.1
  obtain ⟨b2, o2, e2, hb2, hc2⟩ := hrow (by omega)
  obtain ⟨hcl, hrd⟩ := hc2 k.toNat (by omega)
  rw [e2] at c0
  exact ⟨b, o, b2, o2, _, _, e, hb, c0, hb2, by omega, hcl, (FH.fv (l2 k.toNat (by omega)) hrd).1⟩
set_option linter.unusedSimpArgs false in
set_option maxRecDepth 100000 in
set_option maxHeartbeats 4000000 in
theorem lrate_v {F S E Y k : Int} {A : Option Addr} {n c : Nat} {r : Nat → RH} {w : World} (hT : TabM w A n r) (hR : RightP F S n r E Y) (hk : 0 ≤ k) (hk2 : k ≤ 1000000) :
    Calls Tryz.prog 60 #[.agg #[.int .i64 F, .int .i64 S, .slice A n c, .int .i64 E, .int .i64 Y], .int .i64 k] w (FR (rt F S n r E Y k) w) := by
  obtain ⟨ht, r1, r2, r3, r4⟩ := hR
  obtain ⟨f1, f2, s1, s2, n1, n2⟩ : 0 ≤ F ∧ F ≤ 150 ∧ 0 ≤ S ∧ S ≤ 5 ∧ 1 ≤ n ∧ n ≤ 111 := ⟨ht.1.1.1, ht.1.1.2, ht.1.2.1, ht.1.2.2, ht.2.1.1, ht.2.1.2⟩
  obtain ⟨v, hv⟩ : ∃ v, v = rt F S n r E Y k := ⟨_, rfl⟩
  rw [← hv]
  unfold rt at hv
  by_cases h1 : F + (n : Int) - 1 < E + (Y + k)
  · have t1 := decide_eq_true h1
    rw [if_pos h1] at hv
    have HQ := Lib.hid hv
    clear hv h1
    have hE := (Env.start w).blk 75 #[.int .i64 F, .int .i64 S, .slice A n c, .int .i64 E, .int .i64 Y] (g := w.heap.size) rfl
    have hE := hE.blk 40 #[.bool false, .slice none 0 0, .bool false, .slice none 0 0] (g := w.heap.size + 1) (by simp)
    obtain ⟨W0, hW0⟩ : ∃ W0, W0 = ((w.alloc (.cells #[.int .i64 F, .int .i64 S, .slice A n c, .int .i64 E, .int .i64 Y] 75)).alloc (.cells #[.bool false, .slice none 0 0, .bool false, .slice none 0 0] 40)) := ⟨_, rfl⟩
    rw [← hW0] at hE
    have HW0 := Lib.hid hW0
    clear hW0
    go_enter Tryz.func60, Tryz.ntmps60
    go_upto_region 1 with (fail)
    rw [← HW0.out]
    obtain ⟨k1, k2, k3, k4, k5⟩ := (hE.here.1.2).c5
    go_wp2_with fail
    refine (llast_v F S A n c _ f1 (by omega) (by omega)).mono ?_
    clear k1 k2 k3 k4 k5
    rintro e w1 ⟨rfl, hb⟩
    replace hE := hE.step hb
    clear hb
    go_wp2_with fail
    have hc := ffromInt_v 1 w1 (by decide) (by decide)
    refine hc.mono ?_
    clear hc
    rintro e w6 ⟨sp, Ap, np, cp, tp, Bp, mp, dp, rfl, hp, hb⟩
    replace hE := hE.step hb
    clear hb
    replace hE := hE.fv hp
    clear hp
    have hRl : w.heap.size ≤ w.heap.size + 1 := by omega
    obtain ⟨WW, hWW, hB, hV, hBel⟩ := ret_frac hE hE.here.1.2 hRl hE.here.2 cp dp
    obtain ⟨x0, x1, x2, x3⟩ := (hE.here.1.2).c4
    have fz := fun i => (hE.here.1.2).frozen i
    have fz0 := fz 0
    have fz1 := fz 1
    have fz2 := fz 2
    have fz3 := fz 3
    clear fz
    have HWW := Lib.hid hWW
    clear hWW
    go_wp2_with fail
    rw [← HWW.out]
    rw [show (((1 : Int) : Rat)) = 1 from rfl, ← HQ.out] at hV
    obtain ⟨y0, y1, y2, y3⟩ := hB.c4
    refine bodyPost_ret (v := .agg #[.bool sp, .slice Ap np cp, .bool tp, .slice Bp mp dp]) (by simp [results, Tryz.results60, go_sem, y0, y1, y2, y3]) rfl ?_
    exact ⟨sp, Ap, np, cp, tp, Bp, mp, dp, rfl, hV, hBel⟩
  · have t1 := decide_eq_false h1
    rw [if_neg h1] at hv
    by_cases h2 : Y + k < S
    · have t2 := decide_eq_true h2
      rw [if_pos h2] at hv
      have HQ := Lib.hid hv
      have i1 : F ≤ E := r1
      have i2 : E - F < (n : Int) := by omega
      have i3 : 0 ≤ Y + k := by omega
      clear hv
      obtain ⟨b, o, b2, o2, ni, ci, rfl, hb, c0, hb2, hK, hcl, hh⟩ := rate_at hT ht (i := E - F) (k := Y + k) (by omega) (by omega) (by omega) (by omega)
      obtain ⟨Q, hQ⟩ : ∃ Q, Q = ((r (E - F).toNat).h (Y + k).toNat).q := ⟨_, rfl⟩
      rw [← hQ] at hh
      have HQ2 := Lib.hid hQ
      clear hQ
      obtain ⟨H, hH⟩ : ∃ H, H = (r (E - F).toNat).h (Y + k).toNat := ⟨_, rfl⟩
      rw [← hH] at hh hcl
      clear hH
      obtain ⟨hs, hA, hn, hc, hf, ht_, hD, hm, hd, hg⟩ := H
      obtain ⟨d0, d1, d2, d3⟩ := hcl
      dsimp only at d0 d1 d2 d3 hh
      have hE := (((((((Env.start w).fv hh).at_ hb c0).at_ hb2 d0).at_ hb2 d1).at_ hb2 d2).at_ hb2 d3).blk 75 #[.int .i64 F, .int .i64 S, .slice (some ⟨b, o, none⟩) n c, .int .i64 E, .int .i64 Y] (g := w.heap.size) rfl
      have hE := hE.blk 40 #[.bool false, .slice none 0 0, .bool false, .slice none 0 0] (g := w.heap.size + 1) (by simp)
      obtain ⟨W0, hW0⟩ : ∃ W0, W0 = ((w.alloc (.cells #[.int .i64 F, .int .i64 S, .slice (some ⟨b, o, none⟩) n c, .int .i64 E, .int .i64 Y] 75)).alloc (.cells #[.bool false, .slice none 0 0, .bool false, .slice none 0 0] 40)) := ⟨_, rfl⟩
      rw [← hW0] at hE
      have HW0 := Lib.hid hW0
      clear hW0
      go_enter Tryz.func60, Tryz.ntmps60
      go_upto_region 1 with (fail)
      rw [← HW0.out]
      clear c0 d0 d1 d2 d3
      obtain ⟨k1, k2, k3, k4, k5⟩ := (hE.here.1.2).c5
      go_wp2_with fail
      refine (llast_v F S (some ⟨b, o, none⟩) n c _ f1 (by omega) (by omega)).mono ?_
      clear k1 k2 k3 k4 k5
      rintro e w1 ⟨rfl, hb1⟩
      replace hE := hE.step hb1
      clear hb1
      obtain ⟨k6, k7, k8, k9, k10⟩ := (hE.here.1.2).c5
      have k11 := (hE.here.1.1.1.1.1.1.2).2
      have k12 := (hE.here.1.1.1.1.1.2).2
      have k13 := (hE.here.1.1.1.1.2).2
      have k14 := (hE.here.1.1.1.2).2
      have k15 := (hE.here.1.1.2).2
      have hRl : w.heap.size ≤ w.heap.size + 1 := by omega
      obtain ⟨WW, hWW, hB, hV, hBel⟩ := ret_frac hE hE.here.2 hRl hE.here.1.1.1.1.1.1.1.2 hc hd
      obtain ⟨x0, x1, x2, x3⟩ := (hE.here.2).c4
      have fz := fun i => (hE.here.2).frozen i
      have fz0 := fz 0
      have fz1 := fz 1
      have fz2 := fz 2
      have fz3 := fz 3
      clear fz
      have HWW := Lib.hid hWW
      clear hWW
      go_wp2_with fail
      clear k6 k7 k8 k9 k10 k11 k12 k13 k14 k15
      rw [← HWW.out]
      rw [HQ2.out, ← HQ.out] at hV
      obtain ⟨y0, y1, y2, y3⟩ := hB.c4
      refine bodyPost_ret (v := .agg #[.bool hs, .slice hA hn hc, .bool ht_, .slice hD hm hd]) (by simp [results, Tryz.results60, go_sem, y0, y1, y2, y3]) rfl ?_
      exact ⟨hs, hA, hn, hc, ht_, hD, hm, hd, rfl, hV, hBel⟩
    · have t2 := decide_eq_false h2
      rw [if_neg h2] at hv
      have HQ := Lib.hid hv
      have i1 : F ≤ E + (Y + k) := by omega
      have i2 : E + (Y + k) - F < (n : Int) := by omega
      have i3 : 0 ≤ E + (Y + k) - F := by omega
      have o1 : IntKind.i64.wrap (E + (Y + k) - F) = E + (Y + k) - F := by rw [IntKind.wrap_i64]; omega
      clear hv
      obtain ⟨b, o, b2, o2, ni, ci, rfl, hb, c0, hb2, hK, hcl, hh⟩ := rate_at hT ht (i := E + (Y + k) - F) (k := S) (by omega) (by omega) (by omega) (by omega)
      obtain ⟨Q, hQ⟩ : ∃ Q, Q = ((r (E + (Y + k) - F).toNat).h (S).toNat).q := ⟨_, rfl⟩
      rw [← hQ] at hh
      have HQ2 := Lib.hid hQ
      clear hQ
      obtain ⟨H, hH⟩ : ∃ H, H = (r (E + (Y + k) - F).toNat).h (S).toNat := ⟨_, rfl⟩
      rw [← hH] at hh hcl
      clear hH
      obtain ⟨hs, hA, hn, hc, hf, ht_, hD, hm, hd, hg⟩ := H
      obtain ⟨d0, d1, d2, d3⟩ := hcl
      dsimp only at d0 d1 d2 d3 hh
      have hE := (((((((Env.start w).fv hh).at_ hb c0).at_ hb2 d0).at_ hb2 d1).at_ hb2 d2).at_ hb2 d3).blk 75 #[.int .i64 F, .int .i64 S, .slice (some ⟨b, o, none⟩) n c, .int .i64 E, .int .i64 Y] (g := w.heap.size) rfl
      have hE := hE.blk 40 #[.bool false, .slice none 0 0, .bool false, .slice none 0 0] (g := w.heap.size + 1) (by simp)
      obtain ⟨W0, hW0⟩ : ∃ W0, W0 = ((w.alloc (.cells #[.int .i64 F, .int .i64 S, .slice (some ⟨b, o, none⟩) n c, .int .i64 E, .int .i64 Y] 75)).alloc (.cells #[.bool false, .slice none 0 0, .bool false, .slice none 0 0] 40)) := ⟨_, rfl⟩
      rw [← hW0] at hE
      have HW0 := Lib.hid hW0
      clear hW0
      go_enter Tryz.func60, Tryz.ntmps60
      go_upto_region 1 with (fail)
      rw [← HW0.out]
      clear c0 d0 d1 d2 d3
      obtain ⟨k1, k2, k3, k4, k5⟩ := (hE.here.1.2).c5
      go_wp2_with fail
      refine (llast_v F S (some ⟨b, o, none⟩) n c _ f1 (by omega) (by omega)).mono ?_
      clear k1 k2 k3 k4 k5
      rintro e w1 ⟨rfl, hb1⟩
      replace hE := hE.step hb1
      clear hb1
      obtain ⟨k6, k7, k8, k9, k10⟩ := (hE.here.1.2).c5
      go_upto_region 7 with (fail)
      clear k6 k7 k8 k9 k10
      replace hE := hE.drew
      refine wp_region_held_drew (S := fun w' => w'.cell? ⟨w.heap.size, 0, none⟩ = some (.int .i64 F) ∧ w'.cell? ⟨w.heap.size, 1, none⟩ = some (.int .i64 S) ∧ w'.cell? ⟨w.heap.size, 2, none⟩ = some (.slice (some ⟨b, o, none⟩) n c) ∧ w'.cell? ⟨w.heap.size, 3, none⟩ = some (.int .i64 E) ∧ w'.cell? ⟨w.heap.size, 4, none⟩ = some (.int .i64 Y) ∧ w'.cell? ⟨b, o + (E + (Y + k) - F).toNat, none⟩ = some (.slice (some ⟨b2, o2, none⟩) ni ci) ∧ w'.cell? ⟨b2, o2 + (S).toNat * 4, none⟩ = some (.bool hs) ∧ w'.cell? ⟨b2, o2 + (S).toNat * 4 + 1, none⟩ = some (.slice hA hn hc) ∧ w'.cell? ⟨b2, o2 + (S).toNat * 4 + 2, none⟩ = some (.bool ht_) ∧ w'.cell? ⟨b2, o2 + (S).toNat * 4 + 3, none⟩ = some (.slice hD hm hd)) (by kernel_rfl) (⟨(hE.here.1.2).c5.1, (hE.here.1.2).c5.2.1, (hE.here.1.2).c5.2.2.1, (hE.here.1.2).c5.2.2.2.1, (hE.here.1.2).c5.2.2.2.2, (hE.here.1.1.1.1.1.1.2).2, (hE.here.1.1.1.1.1.2).2, (hE.here.1.1.1.1.2).2, (hE.here.1.1.1.2).2, (hE.here.1.1.2).2⟩) (fun hHeld => ?_)
      generalize w1.drew = wd at *
      refine wpAnyH_take (i := 0) (v := ?v1_0_1) rfl (by kernel_rfl) (by kernel_rfl) (by kernel_rfl) (fun _ _ _ h => h) (Or.inl ⟨by rfl, ?hy1_0_1⟩) (by assumption) ?rest1_0_1
      case hy1_0_1 => intro w hSw; (try dsimp only at hSw); first | (go_simp; done) | (go_simp; with_reducible rfl)
      try simp only [Act.put, List.setIfInBounds_toArray, List.set_cons_zero, List.set_cons_succ, List.getElem_toArray, List.getElem_cons_succ, List.getElem_cons_zero]
      refine wpAnyH_take (i := 1) (v := ?v1_1_2) rfl (by kernel_rfl) (by kernel_rfl) (by kernel_rfl) (fun _ _ _ h => h) (Or.inl ⟨by rfl, ?hy1_1_2⟩) (by assumption) ?rest1_1_2
      case hy1_1_2 => intro w hSw; (try dsimp only at hSw); first | (go_simp; done) | (go_simp; with_reducible rfl)
      try simp only [Act.put, List.setIfInBounds_toArray, List.set_cons_zero, List.set_cons_succ, List.getElem_toArray, List.getElem_cons_succ, List.getElem_cons_zero]
      refine wpAnyH_take (i := 2) (v := ?v1_2_3) rfl (by kernel_rfl) (by kernel_rfl) (by kernel_rfl) (fun _ _ _ h => h) (Or.inl ⟨by rfl, ?hy1_2_3⟩) (by assumption) ?rest1_2_3
      case hy1_2_3 => intro w hSw; (try dsimp only at hSw); first | (go_simp; done) | (go_simp; with_reducible rfl)
      try simp only [Act.put, List.setIfInBounds_toArray, List.set_cons_zero, List.set_cons_succ, List.getElem_toArray, List.getElem_cons_succ, List.getElem_cons_zero]
      refine wpAnyH_take (i := 3) (v := ?v1_3_4) rfl (by kernel_rfl) (by kernel_rfl) (by kernel_rfl) (fun _ _ _ h => h) (Or.inl ⟨by rfl, ?hy1_3_4⟩) (by assumption) ?rest1_3_4
      case hy1_3_4 => intro w hSw; (try dsimp only at hSw); first | (go_simp; done) | (go_simp; with_reducible rfl)
      try simp only [Act.put, List.setIfInBounds_toArray, List.set_cons_zero, List.set_cons_succ, List.getElem_toArray, List.getElem_cons_succ, List.getElem_cons_zero]
      refine wpAnyH_take (i := 4) (v := ?v1_4_5) rfl (by kernel_rfl) (by kernel_rfl) (by kernel_rfl) (fun _ _ _ h => h) (Or.inl ⟨by rfl, ?hy1_4_5⟩) (by assumption) ?rest1_4_5
      case hy1_4_5 => intro w hSw; (try dsimp only at hSw); first | (go_simp; done) | (go_simp; with_reducible rfl)
      try simp only [Act.put, List.setIfInBounds_toArray, List.set_cons_zero, List.set_cons_succ, List.getElem_toArray, List.getElem_cons_succ, List.getElem_cons_zero]
      refine wpAnyH_take (i := 5) (v := ?v1_5_6) rfl (by kernel_rfl) (by kernel_rfl) (by kernel_rfl) (fun _ _ _ h => h) (Or.inl ⟨by rfl, ?hy1_5_6⟩) (by assumption) ?rest1_5_6
      case hy1_5_6 => intro w hSw; (try dsimp only at hSw); first | (go_simp; done) | (go_simp; with_reducible rfl)
      try simp only [Act.put, List.setIfInBounds_toArray, List.set_cons_zero, List.set_cons_succ, List.getElem_toArray, List.getElem_cons_succ, List.getElem_cons_zero]
      refine wpAnyH_take (i := 6) (v := ?v1_6_7) rfl (by kernel_rfl) (by kernel_rfl) (by kernel_rfl) (fun _ _ _ h => h) (Or.inl ⟨by rfl, ?hy1_6_7⟩) (by assumption) ?rest1_6_7
      case hy1_6_7 => intro w hSw; (try dsimp only at hSw); first | (go_simp; done) | (go_simp; with_reducible rfl)
      try simp only [Act.put, List.setIfInBounds_toArray, List.set_cons_zero, List.set_cons_succ, List.getElem_toArray, List.getElem_cons_succ, List.getElem_cons_zero]
      refine wpAnyH_take (i := 7) (v := ?v1_7_8) rfl (by kernel_rfl) (by kernel_rfl) (by kernel_rfl) (fun _ _ _ h => h) (Or.inl ⟨by rfl, ?hy1_7_8⟩) (by assumption) ?rest1_7_8
      case hy1_7_8 => intro w hSw; (try dsimp only at hSw); first | (go_simp; done) | (go_simp; with_reducible rfl)
      try simp only [Act.put, List.setIfInBounds_toArray, List.set_cons_zero, List.set_cons_succ, List.getElem_toArray, List.getElem_cons_succ, List.getElem_cons_zero]
      refine wpAnyH_take (i := 8) (v := ?v1_8_9) rfl (by kernel_rfl) (by kernel_rfl) (by kernel_rfl) (fun _ _ _ h => h) (Or.inl ⟨by rfl, ?hy1_8_9⟩) (by assumption) ?rest1_8_9
      case hy1_8_9 => intro w hSw; (try dsimp only at hSw); first | (go_simp; done) | (go_simp; with_reducible rfl)
      try simp only [Act.put, List.setIfInBounds_toArray, List.set_cons_zero, List.set_cons_succ, List.getElem_toArray, List.getElem_cons_succ, List.getElem_cons_zero]
      refine wpAnyH_take (i := 9) (v := ?v1_9_10) rfl (by kernel_rfl) (by kernel_rfl) (by kernel_rfl) (fun _ _ _ h => h) (Or.inl ⟨by rfl, ?hy1_9_10⟩) (by assumption) ?rest1_9_10
      case hy1_9_10 => intro w hSw; (try dsimp only at hSw); first | (go_simp; done) | (go_simp; with_reducible rfl)
      try simp only [Act.put, List.setIfInBounds_toArray, List.set_cons_zero, List.set_cons_succ, List.getElem_toArray, List.getElem_cons_succ, List.getElem_cons_zero]
      refine wpAnyH_take (i := 10) (v := ?v1_10_11) rfl (by kernel_rfl) (by kernel_rfl) (by kernel_rfl) (fun _ _ _ h => h) (Or.inl ⟨by rfl, ?hy1_10_11⟩) (by assumption) ?rest1_10_11
      case hy1_10_11 => intro w hSw; (try dsimp only at hSw); first | (go_simp; done) | (go_simp; with_reducible rfl)
      try simp only [Act.put, List.setIfInBounds_toArray, List.set_cons_zero, List.set_cons_succ, List.getElem_toArray, List.getElem_cons_succ, List.getElem_cons_zero]
      refine wpAnyH_take (i := 11) (v := ?v1_11_12) rfl (by kernel_rfl) (by kernel_rfl) (by kernel_rfl) (fun _ _ _ h => h) (Or.inl ⟨by rfl, ?hy1_11_12⟩) (by assumption) ?rest1_11_12
      case hy1_11_12 => intro w hSw; (try dsimp only at hSw); first | (go_simp; done) | (go_simp; with_reducible rfl)
      try simp only [Act.put, List.setIfInBounds_toArray, List.set_cons_zero, List.set_cons_succ, List.getElem_toArray, List.getElem_cons_succ, List.getElem_cons_zero]
      refine wpAnyH_take (i := 12) (v := ?v1_12_13) rfl (by kernel_rfl) (by kernel_rfl) (by kernel_rfl) (fun _ _ _ h => h) (Or.inl ⟨by rfl, ?hy1_12_13⟩) (by assumption) ?rest1_12_13
      case hy1_12_13 => intro w hSw; (try dsimp only at hSw); first | (go_simp; done) | (go_simp; with_reducible rfl)
      try simp only [Act.put, List.setIfInBounds_toArray, List.set_cons_zero, List.set_cons_succ, List.getElem_toArray, List.getElem_cons_succ, List.getElem_cons_zero]
      refine wpAnyH_take (i := 13) (v := ?v1_13_14) rfl (by kernel_rfl) (by kernel_rfl) (by kernel_rfl) (fun _ _ _ h => h) (Or.inl ⟨by rfl, ?hy1_13_14⟩) (by assumption) ?rest1_13_14
      case hy1_13_14 => intro w hSw; (try dsimp only at hSw); first | (go_simp; done) | (go_simp; with_reducible rfl)
      try simp only [Act.put, List.setIfInBounds_toArray, List.set_cons_zero, List.set_cons_succ, List.getElem_toArray, List.getElem_cons_succ, List.getElem_cons_zero]
      refine wpAnyH_take (i := 14) (v := ?v1_14_15) rfl (by kernel_rfl) (by kernel_rfl) (by kernel_rfl) (fun _ _ _ h => h) (Or.inl ⟨by rfl, ?hy1_14_15⟩) (by assumption) ?rest1_14_15
      case hy1_14_15 => intro w hSw; (try dsimp only at hSw); first | (go_simp; done) | (go_simp; with_reducible rfl)
      try simp only [Act.put, List.setIfInBounds_toArray, List.set_cons_zero, List.set_cons_succ, List.getElem_toArray, List.getElem_cons_succ, List.getElem_cons_zero]
      refine wpAnyH_ready (rs := [15]) (by kernel_rfl) (by simp) (AllReadyH.cons rfl (fun K hK => ?_) (AllReadyH.nil))
      have hRl : w.heap.size ≤ w.heap.size + 1 := by omega
      obtain ⟨WW, hWW, hB, hV, hBel⟩ := ret_frac hE hE.here.2 hRl hE.here.1.1.1.1.1.1.1.2 hc hd
      obtain ⟨x0, x1, x2, x3⟩ := (hE.here.2).c4
      have fz := fun i => (hE.here.2).frozen i
      have fz0 := fz 0
      have fz1 := fz 1
      have fz2 := fz 2
      have fz3 := fz 3
      clear fz
      have HWW := Lib.hid hWW
      clear hWW
      have q11 := (hE.here.1.2).far4 (R := w.heap.size + 1) (by omega) (.bool hs) (.slice hA hn hc) (.bool ht_) (.slice hD hm hd)
      rw [← HWW.out] at q11
      have q12 := (hE.here.1.1.1.1.1.1.2).far4 (R := w.heap.size + 1) (by omega) (.bool hs) (.slice hA hn hc) (.bool ht_) (.slice hD hm hd)
      rw [← HWW.out] at q12
      have q13 := (hE.here.1.1.1.1.1.2).far4 (R := w.heap.size + 1) (by omega) (.bool hs) (.slice hA hn hc) (.bool ht_) (.slice hD hm hd)
      rw [← HWW.out] at q13
      have q14 := (hE.here.1.1.1.1.2).far4 (R := w.heap.size + 1) (by omega) (.bool hs) (.slice hA hn hc) (.bool ht_) (.slice hD hm hd)
      rw [← HWW.out] at q14
      have q15 := (hE.here.1.1.1.2).far4 (R := w.heap.size + 1) (by omega) (.bool hs) (.slice hA hn hc) (.bool ht_) (.slice hD hm hd)
      rw [← HWW.out] at q15
      have q16 := (hE.here.1.1.2).far4 (R := w.heap.size + 1) (by omega) (.bool hs) (.slice hA hn hc) (.bool ht_) (.slice hD hm hd)
      rw [← HWW.out] at q16
      go_simp
      rw [← HWW.out]
      refine hK.out _ _ (⟨(q11).c5.1, (q11).c5.2.1, (q11).c5.2.2.1, (q11).c5.2.2.2.1, (q11).c5.2.2.2.2, (q12).2, (q13).2, (q14).2, (q15).2, (q16).2⟩) (fun hHeld => ?_)
      clear hK K
      try simp only [Act.put, List.setIfInBounds_toArray, List.set_cons_zero, List.set_cons_succ, List.getElem_toArray, List.getElem_cons_succ, List.getElem_cons_zero]
      refine wpAnyH_done (by kernel_rfl) ?_ _
      go_wp2_with fail
      rw [HQ2.out, ← HQ.out] at hV
      obtain ⟨y0, y1, y2, y3⟩ := hB.c4
      refine bodyPost_ret (v := .agg #[.bool hs, .slice hA hn hc, .bool ht_, .slice hD hm hd]) (by simp [results, Tryz.results60, go_sem, y0, y1, y2, y3]) rfl ?_
      exact ⟨hs, hA, hn, hc, ht_, hD, hm, hd, rfl, hV, hBel⟩
end Go.Proofs.YtgkepllfdhcdpaaGreat
namespace Go.Proofs.YtgkepllfdhcdpaaGreat
open Go.RowKit

theorem fvalid_v {q : Rat} {s t : Bool} {A B : Option Addr} {n m c d : Nat} {w : World} (h : FV w q s A n t B m) (l : fl q ≤ 256) :
    Calls Tryz.prog 76 #[.agg #[.bool s, .slice A n c, .bool t, .slice B m d]] w fun e w' => e = .returned (.bool true) ∧ Below w.heap.size w w' := by
  have := h.ln l
  exact fvalid_r s t A B n m c d _ _ w h.rd (by omega) (by omega) true (okF_of h l)
set_option linter.unusedSimpArgs false in
set_option maxRecDepth 100000 in
set_option maxHeartbeats 2000000 in
theorem lw_sum {a b : Rat} {sa ta sb tb : Bool} {Aa Ba Ab Bb : Option Addr} {na ca ma da nb cb mb db : Nat} {w : World} (ha : FV w a sa Aa na ta Ba ma) (hb : FV w b sb Ab nb tb Bb mb) (la : fl a ≤ 256) (lb : fl b ≤ 256) (lr : fl (a + b) ≤ 256) :
    Calls Tryz.prog 40 #[.agg #[.bool sa, .slice Aa na ca, .bool ta, .slice Ba ma da], .agg #[.bool sb, .slice Ab nb cb, .bool tb, .slice Bb mb db]] w (FR (a + b) w) := by
  have hE := ((((Env.start w).fv ha).fv hb).blk 40 #[.bool sa, .slice Aa na ca, .bool ta, .slice Ba ma da] (g := w.heap.size) rfl).blk 40 #[.bool sb, .slice Ab nb cb, .bool tb, .slice Bb mb db] (g := w.heap.size + 1) (by simp)
  have hE := hE.blk 40 #[.bool false, .slice none 0 0, .bool false, .slice none 0 0] (g := w.heap.size + 1 + 1) (by simp)
  obtain ⟨W0, hW0⟩ : ∃ W0, W0 = (((w.alloc (.cells #[.bool sa, .slice Aa na ca, .bool ta, .slice Ba ma da] 40)).alloc (.cells #[.bool sb, .slice Ab nb cb, .bool tb, .slice Bb mb db] 40)).alloc (.cells #[.bool false, .slice none 0 0, .bool false, .slice none 0 0] 40)) := ⟨_, rfl⟩
  rw [← hW0] at hE
  have HW0 := Lib.hid hW0
  clear hW0
  go_enter Tryz.func40, Tryz.ntmps40
  go_upto_region 1 with (fail)
  rw [← HW0.out]
  obtain ⟨k1, k2, k3, k4⟩ := (hE.here.1.1.2).c4
  obtain ⟨k5, k6, k7, k8⟩ := (hE.here.1.2).c4
  go_wp2_with fail
  have hc := fadd_v (ca := ca) (da := da) (cb := cb) (db := db) hE.here.1.1.1.1.2 hE.here.1.1.1.2 la lb lr
  refine hc.mono ?_
  clear hc
  clear k1 k2 k3 k4 k5 k6 k7 k8
  rintro e w9 ⟨sr, Ar, nr, cr, tr, Br, mr, dr, rfl, hr, hb⟩
  replace hE := hE.step hb
  clear hb
  replace hE := hE.fv hr
  clear hr
  go_upto_region 2 with (fail)
  obtain ⟨g10, hg10⟩ : ∃ g10, g10 = w9.heap.size := ⟨_, rfl⟩
  have hl10_2 : w.heap.size < g10 := by rw [hg10]; exact (hE.here.1.1.1.2).lt
  have hl10_3 : w.heap.size + 1 < g10 := by rw [hg10]; exact (hE.here.1.1.2).lt
  have hl10_4 : w.heap.size + 1 + 1 < g10 := by rw [hg10]; exact (hE.here.1.2).lt
  replace hE := hE.blk 40 #[.bool sr, .slice Ar nr cr, .bool tr, .slice Br mr dr] (g := g10) hg10.symm
  generalize w9.alloc (.cells #[.bool sr, .slice Ar nr cr, .bool tr, .slice Br mr dr] 40) = W10 at hE ⊢
  rw [← hg10]
  clear hg10
  obtain ⟨k11, k12, k13, k14⟩ := (hE.here.2).c4
  have hRl : w.heap.size ≤ w.heap.size + 1 + 1 := by omega
  obtain ⟨WW, hWW, hB, hV, hBel⟩ := ret_frac hE hE.here.1.1.2 hRl hE.here.1.2 cr dr
  obtain ⟨x0, x1, x2, x3⟩ := (hE.here.1.1.2).c4
  have fz := fun i => (hE.here.1.1.2).frozen i
  have fz0 := fz 0
  have fz1 := fz 1
  have fz2 := fz 2
  have fz3 := fz 3
  clear fz
  have HWW := Lib.hid hWW
  clear hWW
  go_wp2_with fail
  clear k11 k12 k13 k14
  rw [← HWW.out]
  obtain ⟨y0, y1, y2, y3⟩ := hB.c4
  refine bodyPost_ret (v := .agg #[.bool sr, .slice Ar nr cr, .bool tr, .slice Br mr dr]) (by simp [results, Tryz.results40, go_sem, y0, y1, y2, y3]) rfl ?_
  exact ⟨sr, Ar, nr, cr, tr, Br, mr, dr, rfl, hV, hBel⟩
set_option linter.unusedSimpArgs false in
set_option maxRecDepth 100000 in
set_option maxHeartbeats 2000000 in
theorem lw_product {a b : Rat} {sa ta sb tb : Bool} {Aa Ba Ab Bb : Option Addr} {na ca ma da nb cb mb db : Nat} {w : World} (ha : FV w a sa Aa na ta Ba ma) (hb : FV w b sb Ab nb tb Bb mb) (la : fl a ≤ 256) (lb : fl b ≤ 256) (lr : fl (a * b) ≤ 256) :
    Calls Tryz.prog 38 #[.agg #[.bool sa, .slice Aa na ca, .bool ta, .slice Ba ma da], .agg #[.bool sb, .slice Ab nb cb, .bool tb, .slice Bb mb db]] w (FR (a * b) w) := by
  have hE := ((((Env.start w).fv ha).fv hb).blk 40 #[.bool sa, .slice Aa na ca, .bool ta, .slice Ba ma da] (g := w.heap.size) rfl).blk 40 #[.bool sb, .slice Ab nb cb, .bool tb, .slice Bb mb db] (g := w.heap.size + 1) (by simp)
  have hE := hE.blk 40 #[.bool false, .slice none 0 0, .bool false, .slice none 0 0] (g := w.heap.size + 1 + 1) (by simp)
  obtain ⟨W0, hW0⟩ : ∃ W0, W0 = (((w.alloc (.cells #[.bool sa, .slice Aa na ca, .bool ta, .slice Ba ma da] 40)).alloc (.cells #[.bool sb, .slice Ab nb cb, .bool tb, .slice Bb mb db] 40)).alloc (.cells #[.bool false, .slice none 0 0, .bool false, .slice none 0 0] 40)) := ⟨_, rfl⟩
  rw [← hW0] at hE
  have HW0 := Lib.hid hW0
  clear hW0
  go_enter Tryz.func38, Tryz.ntmps38
  go_upto_region 1 with (fail)
  rw [← HW0.out]
  obtain ⟨k1, k2, k3, k4⟩ := (hE.here.1.1.2).c4
  obtain ⟨k5, k6, k7, k8⟩ := (hE.here.1.2).c4
  go_wp2_with fail
  have hc := fmul_v (ca := ca) (da := da) (cb := cb) (db := db) hE.here.1.1.1.1.2 hE.here.1.1.1.2 la lb lr
  refine hc.mono ?_
  clear hc
  clear k1 k2 k3 k4 k5 k6 k7 k8
  rintro e w9 ⟨sr, Ar, nr, cr, tr, Br, mr, dr, rfl, hr, hb⟩
  replace hE := hE.step hb
  clear hb
  replace hE := hE.fv hr
  clear hr
  go_upto_region 2 with (fail)
  obtain ⟨g10, hg10⟩ : ∃ g10, g10 = w9.heap.size := ⟨_, rfl⟩
  have hl10_2 : w.heap.size < g10 := by rw [hg10]; exact (hE.here.1.1.1.2).lt
  have hl10_3 : w.heap.size + 1 < g10 := by rw [hg10]; exact (hE.here.1.1.2).lt
  have hl10_4 : w.heap.size + 1 + 1 < g10 := by rw [hg10]; exact (hE.here.1.2).lt
  replace hE := hE.blk 40 #[.bool sr, .slice Ar nr cr, .bool tr, .slice Br mr dr] (g := g10) hg10.symm
  generalize w9.alloc (.cells #[.bool sr, .slice Ar nr cr, .bool tr, .slice Br mr dr] 40) = W10 at hE ⊢
  rw [← hg10]
  clear hg10
  obtain ⟨k11, k12, k13, k14⟩ := (hE.here.2).c4
  have hRl : w.heap.size ≤ w.heap.size + 1 + 1 := by omega
  obtain ⟨WW, hWW, hB, hV, hBel⟩ := ret_frac hE hE.here.1.1.2 hRl hE.here.1.2 cr dr
  obtain ⟨x0, x1, x2, x3⟩ := (hE.here.1.1.2).c4
  have fz := fun i => (hE.here.1.1.2).frozen i
  have fz0 := fz 0
  have fz1 := fz 1
  have fz2 := fz 2
  have fz3 := fz 3
  clear fz
  have HWW := Lib.hid hWW
  clear hWW
  go_wp2_with fail
  clear k11 k12 k13 k14
  rw [← HWW.out]
  obtain ⟨y0, y1, y2, y3⟩ := hB.c4
  refine bodyPost_ret (v := .agg #[.bool sr, .slice Ar nr cr, .bool tr, .slice Br mr dr]) (by simp [results, Tryz.results38, go_sem, y0, y1, y2, y3]) rfl ?_
  exact ⟨sr, Ar, nr, cr, tr, Br, mr, dr, rfl, hV, hBel⟩
set_option linter.unusedSimpArgs false in
set_option maxRecDepth 100000 in
set_option maxHeartbeats 2000000 in
theorem law_quick (n d : Int) (w : World) (h1 : -9223372036854775808 ≤ n) (h2 : n ≤ 9223372036854775807) (h3 : -9223372036854775808 ≤ d) (h4 : d ≤ 9223372036854775807) (hd : d ≠ 0) :
    Calls Tryz.prog 30 #[.int .i64 n, .int .i64 d] w (FR (Rat.divInt n d) w) := by
  have hE := Env.start w
  have hE := hE.blk 40 #[.bool false, .slice none 0 0, .bool false, .slice none 0 0] (g := w.heap.size) rfl
  obtain ⟨W0, hW0⟩ : ∃ W0, W0 = (w.alloc (.cells #[.bool false, .slice none 0 0, .bool false, .slice none 0 0] 40)) := ⟨_, rfl⟩
  rw [← hW0] at hE
  have HW0 := Lib.hid hW0
  clear hW0
  go_enter Tryz.func30, Tryz.ntmps30
  go_upto_region 1 with (fail)
  rw [← HW0.out]
  go_wp2_with fail
  have hc := rquick_v n d W0 h1 h2 h3 h4 hd
  refine hc.mono ?_
  clear hc
  rintro e w1 ⟨sf, Af, nf, cf, tf, Bf, mf, df, rfl, hf, hb⟩
  replace hE := hE.step hb
  clear hb
  replace hE := hE.fv hf
  clear hf
  have hRl : w.heap.size ≤ w.heap.size := by omega
  obtain ⟨WW, hWW, hB, hV, hBel⟩ := ret_frac hE hE.here.1.2 hRl hE.here.2 cf df
  obtain ⟨x0, x1, x2, x3⟩ := (hE.here.1.2).c4
  have fz := fun i => (hE.here.1.2).frozen i
  have fz0 := fz 0
  have fz1 := fz 1
  have fz2 := fz 2
  have fz3 := fz 3
  clear fz
  have HWW := Lib.hid hWW
  clear hWW
  go_wp2_with fail
  rw [← HWW.out]
  obtain ⟨y0, y1, y2, y3⟩ := hB.c4
  refine bodyPost_ret (v := .agg #[.bool sf, .slice Af nf cf, .bool tf, .slice Bf mf df]) (by simp [results, Tryz.results30, go_sem, y0, y1, y2, y3]) rfl ?_
  exact ⟨sf, Af, nf, cf, tf, Bf, mf, df, rfl, hV, hBel⟩
set_option linter.unusedSimpArgs false in
set_option maxRecDepth 100000 in
set_option maxHeartbeats 2000000 in
theorem lw_equal {a b : Rat} {v : Bool} {sa ta sb tb : Bool} {Aa Ba Ab Bb : Option Addr} {na ca ma da nb cb mb db : Nat} {w : World} (ha : FV w a sa Aa na ta Ba ma) (hb : FV w b sb Ab nb tb Bb mb) (la : fl a ≤ 256) (lb : fl b ≤ 256) (h : decide (a = b) = v) :
    Calls Tryz.prog 34 #[.agg #[.bool sa, .slice Aa na ca, .bool ta, .slice Ba ma da], .agg #[.bool sb, .slice Ab nb cb, .bool tb, .slice Bb mb db]] w (fun e w' => e = .returned (.bool v) ∧ Below w.heap.size w w') := by
  have hE := ((((Env.start w).fv ha).fv hb).blk 40 #[.bool sa, .slice Aa na ca, .bool ta, .slice Ba ma da] (g := w.heap.size) rfl).blk 40 #[.bool sb, .slice Ab nb cb, .bool tb, .slice Bb mb db] (g := w.heap.size + 1) (by simp)
  obtain ⟨W0, hW0⟩ : ∃ W0, W0 = ((w.alloc (.cells #[.bool sa, .slice Aa na ca, .bool ta, .slice Ba ma da] 40)).alloc (.cells #[.bool sb, .slice Ab nb cb, .bool tb, .slice Bb mb db] 40)) := ⟨_, rfl⟩
  rw [← hW0] at hE
  have HW0 := Lib.hid hW0
  clear hW0
  go_enter Tryz.func34, Tryz.ntmps34
  go_upto_region 1 with (fail)
  rw [← HW0.out]
  have l1 := (hE.here.1.1.1.2).ln la
  have l2 := (hE.here.1.1.2).ln lb
  obtain ⟨k1, k2, k3, k4⟩ := (hE.here.1.2).c4
  obtain ⟨k5, k6, k7, k8⟩ := (hE.here.2).c4
  go_wp2_with fail
  have hc := fvalid_v (c := ca) (d := da) hE.here.1.1.1.2 la
  refine hc.mono ?_
  clear hc
  clear k1 k2 k3 k4 k5 k6 k7 k8
  rintro e w9 ⟨rfl, hb⟩
  replace hE := hE.step hb
  clear hb
  obtain ⟨k10, k11, k12, k13⟩ := (hE.here.1.2).c4
  obtain ⟨k14, k15, k16, k17⟩ := (hE.here.2).c4
  go_wp2_with fail
  have hc := fvalid_v (c := cb) (d := db) hE.here.1.1.2 lb
  refine hc.mono ?_
  clear hc
  clear k10 k11 k12 k13 k14 k15 k16 k17
  rintro e w18 ⟨rfl, hb⟩
  replace hE := hE.step hb
  clear hb
  obtain ⟨k19, k20, k21, k22⟩ := (hE.here.1.2).c4
  obtain ⟨k23, k24, k25, k26⟩ := (hE.here.2).c4
  go_wp2_with fail
  have hc := frsame_v (ca := ca) (da := da) (cb := cb) (db := db) hE.here.1.1.1.2 hE.here.1.1.2 (by omega) (by omega) (by omega) (by omega)
  rw [h] at hc
  refine hc.mono ?_
  clear hc
  clear k19 k20 k21 k22 k23 k24 k25 k26
  rintro e w9 ⟨rfl, hb⟩
  replace hE := hE.step hb
  go_wp2_with fail
  go_ret
  exact ⟨rfl, hE.bel⟩
set_option linter.unusedSimpArgs false in
set_option maxRecDepth 100000 in
set_option maxHeartbeats 2000000 in
theorem law_is {a : Rat} {sa ta : Bool} {Aa Ba : Option Addr} {na ca ma da : Nat} {w : World} {n d : Int} (ha : FV w a sa Aa na ta Ba ma) (la : fl a ≤ 256) (h1 : -9223372036854775808 ≤ n) (h2 : n ≤ 9223372036854775807) (h3 : -9223372036854775808 ≤ d) (h4 : d ≤ 9223372036854775807) (hd : d ≠ 0) (h : a = Rat.divInt n d) :
    Calls Tryz.prog 42 #[.agg #[.bool sa, .slice Aa na ca, .bool ta, .slice Ba ma da], .int .i64 0, .int .i64 n, .int .i64 d] w (fun e w' => e = .returned (.bool true) ∧ Below w.heap.size w w') := by
  have hE := ((Env.start w).fv ha).blk 40 #[.bool sa, .slice Aa na ca, .bool ta, .slice Ba ma da] (g := w.heap.size) rfl
  obtain ⟨W0, hW0⟩ : ∃ W0, W0 = (w.alloc (.cells #[.bool sa, .slice Aa na ca, .bool ta, .slice Ba ma da] 40)) := ⟨_, rfl⟩
  rw [← hW0] at hE
  have HW0 := Lib.hid hW0
  clear hW0
  go_enter Tryz.func42, Tryz.ntmps42
  go_upto_region 1 with (fail)
  rw [← HW0.out]
  have l1 := (hE.here.1.2).ln la
  replace hE := hE.drew
  refine wp_region_held_drew (S := fun w' => w'.cell? ⟨w.heap.size, 0, none⟩ = some (.bool sa) ∧ w'.cell? ⟨w.heap.size, 1, none⟩ = some (.slice Aa na ca) ∧ w'.cell? ⟨w.heap.size, 2, none⟩ = some (.bool ta) ∧ w'.cell? ⟨w.heap.size, 3, none⟩ = some (.slice Ba ma da)) (by kernel_rfl) (⟨(hE.here.2).c4.1, (hE.here.2).c4.2.1, (hE.here.2).c4.2.2.1, (hE.here.2).c4.2.2.2⟩) (fun hHeld => ?_)
  refine wpAnyH_take (i := 0) (v := ?v1_0_1) rfl (by kernel_rfl) (by kernel_rfl) (by kernel_rfl) (fun _ _ _ h => h) (Or.inl ⟨by rfl, ?hy1_0_1⟩) (by assumption) ?rest1_0_1
  case hy1_0_1 => intro w hSw; (try dsimp only at hSw); first | (go_simp; done) | (go_simp; with_reducible rfl)
  try simp only [Act.put, List.setIfInBounds_toArray, List.set_cons_zero, List.set_cons_succ, List.getElem_toArray, List.getElem_cons_succ, List.getElem_cons_zero]
  refine wpAnyH_take (i := 1) (v := ?v1_1_2) rfl (by kernel_rfl) (by kernel_rfl) (by kernel_rfl) (fun _ _ _ h => h) (Or.inl ⟨by rfl, ?hy1_1_2⟩) (by assumption) ?rest1_1_2
  case hy1_1_2 => intro w hSw; (try dsimp only at hSw); first | (go_simp; done) | (go_simp; with_reducible rfl)
  try simp only [Act.put, List.setIfInBounds_toArray, List.set_cons_zero, List.set_cons_succ, List.getElem_toArray, List.getElem_cons_succ, List.getElem_cons_zero]
  refine wpAnyH_take (i := 2) (v := ?v1_2_3) rfl (by kernel_rfl) (by kernel_rfl) (by kernel_rfl) (fun _ _ _ h => h) (Or.inl ⟨by rfl, ?hy1_2_3⟩) (by assumption) ?rest1_2_3
  case hy1_2_3 => intro w hSw; (try dsimp only at hSw); first | (go_simp; done) | (go_simp; with_reducible rfl)
  try simp only [Act.put, List.setIfInBounds_toArray, List.set_cons_zero, List.set_cons_succ, List.getElem_toArray, List.getElem_cons_succ, List.getElem_cons_zero]
  refine wpAnyH_take (i := 3) (v := ?v1_3_4) rfl (by kernel_rfl) (by kernel_rfl) (by kernel_rfl) (fun _ _ _ h => h) (Or.inl ⟨by rfl, ?hy1_3_4⟩) (by assumption) ?rest1_3_4
  case hy1_3_4 => intro w hSw; (try dsimp only at hSw); first | (go_simp; done) | (go_simp; with_reducible rfl)
  try simp only [Act.put, List.setIfInBounds_toArray, List.set_cons_zero, List.set_cons_succ, List.getElem_toArray, List.getElem_cons_succ, List.getElem_cons_zero]
  refine wpAnyH_take (i := 4) (v := ?v1_4_5) rfl (by kernel_rfl) (by kernel_rfl) (by kernel_rfl) (fun _ _ _ h => h) (Or.inl ⟨by rfl, ?hy1_4_5⟩) (by assumption) ?rest1_4_5
  case hy1_4_5 => intro w hSw; (try dsimp only at hSw); first | (go_simp; done) | (go_simp; with_reducible rfl)
  try simp only [Act.put, List.setIfInBounds_toArray, List.set_cons_zero, List.set_cons_succ, List.getElem_toArray, List.getElem_cons_succ, List.getElem_cons_zero]
  refine wpAnyH_take (i := 5) (v := ?v1_5_6) rfl (by kernel_rfl) (by kernel_rfl) (by kernel_rfl) (fun _ _ _ h => h) (Or.inl ⟨by rfl, ?hy1_5_6⟩) (by assumption) ?rest1_5_6
  case hy1_5_6 => intro w hSw; (try dsimp only at hSw); first | (go_simp; done) | (go_simp; with_reducible rfl)
  try simp only [Act.put, List.setIfInBounds_toArray, List.set_cons_zero, List.set_cons_succ, List.getElem_toArray, List.getElem_cons_succ, List.getElem_cons_zero]
  refine wpAnyH_ready (rs := [6]) (by kernel_rfl) (by simp) (AllReadyH.cons rfl (fun K hK => ?_) (AllReadyH.nil))
  go_simp
  have hc := law_quick n d W0.drew h1 h2 h3 h4 hd
  refine hc.mono ?_
  clear hc
  rintro e w1 ⟨sf, Af, nf, cf, tf, Bf, mf, df, rfl, hf, hb⟩
  replace hE := hE.step hb
  clear hb
  replace hE := hE.fv hf
  clear hf
  go_wp2_with fail
  refine hK.out _ _ (⟨(hE.here.1.2).c4.1, (hE.here.1.2).c4.2.1, (hE.here.1.2).c4.2.2.1, (hE.here.1.2).c4.2.2.2⟩) (fun hHeld => ?_)
  clear hK K
  try simp only [Act.put, List.setIfInBounds_toArray, List.set_cons_zero, List.set_cons_succ, List.getElem_toArray, List.getElem_cons_succ, List.getElem_cons_zero]
  refine wpAnyH_ready (rs := [7]) (by kernel_rfl) (by simp) (AllReadyH.cons rfl (fun K hK => ?_) (AllReadyH.nil))
  go_simp
  have l2 := (hE.here.2).ln (by rw [← h]; exact la)
  have hc := frsame_v (ca := ca) (da := da) (cb := cf) (db := df) hE.here.1.1.2 hE.here.2 (by omega) (by omega) (by omega) (by omega)
  rw [decide_eq_true h] at hc
  refine hc.mono ?_
  clear hc
  rintro e w9 ⟨rfl, hb⟩
  replace hE := hE.step hb
  clear hb
  go_wp2_with fail
  refine hK.out _ _ (⟨(hE.here.1.2).c4.1, (hE.here.1.2).c4.2.1, (hE.here.1.2).c4.2.2.1, (hE.here.1.2).c4.2.2.2⟩) (fun hHeld => ?_)
  clear hK K
  try simp only [Act.put, List.setIfInBounds_toArray, List.set_cons_zero, List.set_cons_succ, List.getElem_toArray, List.getElem_cons_succ, List.getElem_cons_zero]
  refine wpAnyH_take (i := 8) (v := ?v1_8_7) rfl (by kernel_rfl) (by kernel_rfl) (by kernel_rfl) (fun _ _ _ h => h) (Or.inl ⟨by rfl, ?hy1_8_7⟩) (by assumption) ?rest1_8_7
  case hy1_8_7 => intro w hSw; (try dsimp only at hSw); first | (go_simp; done) | (go_simp; with_reducible rfl)
  try simp only [Act.put, List.setIfInBounds_toArray, List.set_cons_zero, List.set_cons_succ, List.getElem_toArray, List.getElem_cons_succ, List.getElem_cons_zero]
  refine wpAnyH_take (i := 9) (v := ?v1_9_8) rfl (by kernel_rfl) (by kernel_rfl) (by kernel_rfl) (fun _ _ _ h => h) (Or.inl ⟨by rfl, ?hy1_9_8⟩) (by assumption) ?rest1_9_8
  case hy1_9_8 => intro w hSw; (try dsimp only at hSw); first | (go_simp; done) | (go_simp; with_reducible rfl)
  try simp only [Act.put, List.setIfInBounds_toArray, List.set_cons_zero, List.set_cons_succ, List.getElem_toArray, List.getElem_cons_succ, List.getElem_cons_zero]
  refine wpAnyH_done (by kernel_rfl) ?_ _
  go_wp2_with fail
  go_ret
  exact ⟨rfl, hE.bel⟩
set_option linter.unusedSimpArgs false in
set_option maxRecDepth 100000 in
set_option maxHeartbeats 2000000 in
theorem law_chance0 {a : Rat} {ta : Bool} {Aa Ba : Option Addr} {na ca ma da : Nat} {w : World} (ha : FV w a false Aa na ta Ba ma) (la : fl a ≤ 256) (hc1 : cmpQ a 1 ≤ 0) :
    Calls Tryz.prog 33 #[.agg #[.bool false, .slice Aa na ca, .bool ta, .slice Ba ma da]] w (fun e w' => e = .returned (.bool true) ∧ Below w.heap.size w w') := by
  have hE := ((Env.start w).fv ha).blk 40 #[.bool false, .slice Aa na ca, .bool ta, .slice Ba ma da] (g := w.heap.size) rfl
  obtain ⟨W0, hW0⟩ : ∃ W0, W0 = (w.alloc (.cells #[.bool false, .slice Aa na ca, .bool ta, .slice Ba ma da] 40)) := ⟨_, rfl⟩
  rw [← hW0] at hE
  have HW0 := Lib.hid hW0
  clear hW0
  go_enter Tryz.func33, Tryz.ntmps33
  go_upto_region 1 with (fail)
  rw [← HW0.out]
  obtain ⟨v, hv⟩ : ∃ v, v = cmpQ a 1 := ⟨_, rfl⟩
  have HV := Lib.hid hv
  rw [← hv] at hc1
  clear hv
  have t1 : decide (v ≤ 0) = true := decide_eq_true hc1
  replace hE := hE.drew
  refine wp_region_held_drew (S := fun w' => w'.cell? ⟨w.heap.size, 0, none⟩ = some (.bool false) ∧ w'.cell? ⟨w.heap.size, 1, none⟩ = some (.slice Aa na ca) ∧ w'.cell? ⟨w.heap.size, 2, none⟩ = some (.bool ta) ∧ w'.cell? ⟨w.heap.size, 3, none⟩ = some (.slice Ba ma da)) (by kernel_rfl) (⟨(hE.here.2).c4.1, (hE.here.2).c4.2.1, (hE.here.2).c4.2.2.1, (hE.here.2).c4.2.2.2⟩) (fun hHeld => ?_)
  refine wpAnyH_take (i := 0) (v := ?v2_0_1) rfl (by kernel_rfl) (by kernel_rfl) (by kernel_rfl) (fun _ _ _ h => h) (Or.inl ⟨by rfl, ?hy2_0_1⟩) (by assumption) ?rest2_0_1
  case hy2_0_1 => intro w hSw; (try dsimp only at hSw); first | (go_simp; done) | (go_simp; with_reducible rfl)
  try simp only [Act.put, List.setIfInBounds_toArray, List.set_cons_zero, List.set_cons_succ, List.getElem_toArray, List.getElem_cons_succ, List.getElem_cons_zero]
  refine wpAnyH_ready (rs := [1]) (by kernel_rfl) (by simp) (AllReadyH.cons rfl (fun K hK => ?_) (AllReadyH.nil))
  go_simp
  have hc := fvalid_v (c := ca) (d := da) hE.here.1.2 la
  refine hc.mono ?_
  clear hc
  rintro e w1 ⟨rfl, hb⟩
  replace hE := hE.step hb
  clear hb
  go_wp2_with fail
  refine hK.out _ _ (⟨(hE.here.2).c4.1, (hE.here.2).c4.2.1, (hE.here.2).c4.2.2.1, (hE.here.2).c4.2.2.2⟩) (fun hHeld => ?_)
  clear hK K
  try simp only [Act.put, List.setIfInBounds_toArray, List.set_cons_zero, List.set_cons_succ, List.getElem_toArray, List.getElem_cons_succ, List.getElem_cons_zero]
  refine wpAnyH_take (i := 2) (v := ?v2_2_2) rfl (by kernel_rfl) (by kernel_rfl) (by kernel_rfl) (fun _ _ _ h => h) (Or.inl ⟨by rfl, ?hy2_2_2⟩) (by assumption) ?rest2_2_2
  case hy2_2_2 => intro w hSw; (try dsimp only at hSw); first | (go_simp; done) | (go_simp; with_reducible rfl)
  try simp only [Act.put, List.setIfInBounds_toArray, List.set_cons_zero, List.set_cons_succ, List.getElem_toArray, List.getElem_cons_succ, List.getElem_cons_zero]
  refine wpAnyH_take (i := 3) (v := ?v2_3_3) rfl (by kernel_rfl) (by kernel_rfl) (by kernel_rfl) (fun _ _ _ h => h) (Or.inl ⟨by rfl, ?hy2_3_3⟩) (by assumption) ?rest2_3_3
  case hy2_3_3 => intro w hSw; (try dsimp only at hSw); first | (go_simp; done) | (go_simp; with_reducible rfl)
  try simp only [Act.put, List.setIfInBounds_toArray, List.set_cons_zero, List.set_cons_succ, List.getElem_toArray, List.getElem_cons_succ, List.getElem_cons_zero]
  refine wpAnyH_take (i := 4) (v := ?v2_4_4) rfl (by kernel_rfl) (by kernel_rfl) (by kernel_rfl) (fun _ _ _ h => h) (Or.inl ⟨by rfl, ?hy2_4_4⟩) (by assumption) ?rest2_4_4
  case hy2_4_4 => intro w hSw; (try dsimp only at hSw); first | (go_simp; done) | (go_simp; with_reducible rfl)
  try simp only [Act.put, List.setIfInBounds_toArray, List.set_cons_zero, List.set_cons_succ, List.getElem_toArray, List.getElem_cons_succ, List.getElem_cons_zero]
  refine wpAnyH_take (i := 5) (v := ?v2_5_5) rfl (by kernel_rfl) (by kernel_rfl) (by kernel_rfl) (fun _ _ _ h => h) (Or.inl ⟨by rfl, ?hy2_5_5⟩) (by assumption) ?rest2_5_5
  case hy2_5_5 => intro w hSw; (try dsimp only at hSw); first | (go_simp; done) | (go_simp; with_reducible rfl)
  try simp only [Act.put, List.setIfInBounds_toArray, List.set_cons_zero, List.set_cons_succ, List.getElem_toArray, List.getElem_cons_succ, List.getElem_cons_zero]
  refine wpAnyH_take (i := 6) (v := ?v2_6_6) rfl (by kernel_rfl) (by kernel_rfl) (by kernel_rfl) (fun _ _ _ h => h) (Or.inl ⟨by rfl, ?hy2_6_6⟩) (by assumption) ?rest2_6_6
  case hy2_6_6 => intro w hSw; (try dsimp only at hSw); first | (go_simp; done) | (go_simp; with_reducible rfl)
  try simp only [Act.put, List.setIfInBounds_toArray, List.set_cons_zero, List.set_cons_succ, List.getElem_toArray, List.getElem_cons_succ, List.getElem_cons_zero]
  refine wpAnyH_take (i := 7) (v := ?v2_7_7) rfl (by kernel_rfl) (by kernel_rfl) (by kernel_rfl) (fun _ _ _ h => h) (Or.inl ⟨by rfl, ?hy2_7_7⟩) (by assumption) ?rest2_7_7
  case hy2_7_7 => intro w hSw; (try dsimp only at hSw); first | (go_simp; done) | (go_simp; with_reducible rfl)
  try simp only [Act.put, List.setIfInBounds_toArray, List.set_cons_zero, List.set_cons_succ, List.getElem_toArray, List.getElem_cons_succ, List.getElem_cons_zero]
  refine wpAnyH_take (i := 8) (v := ?v2_8_8) rfl (by kernel_rfl) (by kernel_rfl) (by kernel_rfl) (fun _ _ _ h => h) (Or.inl ⟨by rfl, ?hy2_8_8⟩) (by assumption) ?rest2_8_8
  case hy2_8_8 => intro w hSw; (try dsimp only at hSw); first | (go_simp; done) | (go_simp; with_reducible rfl)
  try simp only [Act.put, List.setIfInBounds_toArray, List.set_cons_zero, List.set_cons_succ, List.getElem_toArray, List.getElem_cons_succ, List.getElem_cons_zero]
  refine wpAnyH_take (i := 9) (v := ?v2_9_9) rfl (by kernel_rfl) (by kernel_rfl) (by kernel_rfl) (fun _ _ _ h => h) (Or.inl ⟨by rfl, ?hy2_9_9⟩) (by assumption) ?rest2_9_9
  case hy2_9_9 => intro w hSw; (try dsimp only at hSw); first | (go_simp; done) | (go_simp; with_reducible rfl)
  try simp only [Act.put, List.setIfInBounds_toArray, List.set_cons_zero, List.set_cons_succ, List.getElem_toArray, List.getElem_cons_succ, List.getElem_cons_zero]
  refine wpAnyH_ready (rs := [10]) (by kernel_rfl) (by simp) (AllReadyH.cons rfl (fun K hK => ?_) (AllReadyH.nil))
  go_simp
  have hc := ffromInt_v 1 w1 (by decide) (by decide)
  refine hc.mono ?_
  clear hc
  rintro e w2 ⟨sp, Ap, np, cp, tp, Bp, mp, dp, rfl, hp, hb⟩
  replace hE := hE.step hb
  clear hb
  replace hE := hE.fv hp
  clear hp
  go_wp2_with fail
  refine hK.out _ _ (⟨(hE.here.1.2).c4.1, (hE.here.1.2).c4.2.1, (hE.here.1.2).c4.2.2.1, (hE.here.1.2).c4.2.2.2⟩) (fun hHeld => ?_)
  clear hK K
  try simp only [Act.put, List.setIfInBounds_toArray, List.set_cons_zero, List.set_cons_succ, List.getElem_toArray, List.getElem_cons_succ, List.getElem_cons_zero]
  refine wpAnyH_ready (rs := [11]) (by kernel_rfl) (by simp) (AllReadyH.cons rfl (fun K hK => ?_) (AllReadyH.nil))
  go_simp
  have hc := fcmp_v (ca := ca) (da := da) (cb := cp) (db := dp) hE.here.1.1.2 hE.here.2 la fl_one
  rw [show (((1 : Int) : Rat)) = 1 from rfl, ← HV.out] at hc
  refine hc.mono ?_
  clear hc
  rintro e w9 ⟨rfl, hb⟩
  replace hE := hE.step hb
  clear hb
  go_wp2_with fail
  refine hK.out _ _ (⟨(hE.here.1.2).c4.1, (hE.here.1.2).c4.2.1, (hE.here.1.2).c4.2.2.1, (hE.here.1.2).c4.2.2.2⟩) (fun hHeld => ?_)
  clear hK K
  try simp only [Act.put, List.setIfInBounds_toArray, List.set_cons_zero, List.set_cons_succ, List.getElem_toArray, List.getElem_cons_succ, List.getElem_cons_zero]
  refine wpAnyH_take (i := 12) (v := ?v2_12_10) rfl (by kernel_rfl) (by kernel_rfl) (by kernel_rfl) (fun _ _ _ h => h) (Or.inl ⟨by rfl, ?hy2_12_10⟩) (by assumption) ?rest2_12_10
  case hy2_12_10 => intro w hSw; (try dsimp only at hSw); first | (go_simp; done) | (go_simp; with_reducible rfl)
  try simp only [Act.put, List.setIfInBounds_toArray, List.set_cons_zero, List.set_cons_succ, List.getElem_toArray, List.getElem_cons_succ, List.getElem_cons_zero]
  refine wpAnyH_take (i := 13) (v := ?v2_13_11) rfl (by kernel_rfl) (by kernel_rfl) (by kernel_rfl) (fun _ _ _ h => h) (Or.inl ⟨by rfl, ?hy2_13_11⟩) (by assumption) ?rest2_13_11
  case hy2_13_11 => intro w hSw; (try dsimp only at hSw); first | (go_simp; done) | (go_simp; with_reducible rfl)
  try simp only [Act.put, List.setIfInBounds_toArray, List.set_cons_zero, List.set_cons_succ, List.getElem_toArray, List.getElem_cons_succ, List.getElem_cons_zero]
  refine wpAnyH_take (i := 14) (v := ?v2_14_12) rfl (by kernel_rfl) (by kernel_rfl) (by kernel_rfl) (fun _ _ _ h => h) (Or.inl ⟨by rfl, ?hy2_14_12⟩) (by assumption) ?rest2_14_12
  case hy2_14_12 => intro w hSw; (try dsimp only at hSw); first | (go_simp; done) | (go_simp; with_reducible rfl)
  try simp only [Act.put, List.setIfInBounds_toArray, List.set_cons_zero, List.set_cons_succ, List.getElem_toArray, List.getElem_cons_succ, List.getElem_cons_zero]
  refine wpAnyH_done (by kernel_rfl) ?_ _
  go_wp2_with fail
  go_ret
  exact ⟨rfl, hE.bel⟩
theorem cmpZ_le {x y : Int} : cmpZ x y ≤ 0 ↔ x ≤ y := by unfold cmpZ; split <;> (try split) <;> omega
theorem cmpQ_le {a b : Rat} : cmpQ a b ≤ 0 ↔ a ≤ b := by unfold cmpQ; rw [cmpZ_le, ← Rat.le_iff]
theorem law_chance {a : Rat} {sa ta : Bool} {Aa Ba : Option Addr} {na ca ma da : Nat} {w : World} (ha : FV w a sa Aa na ta Ba ma) (la : fl a ≤ 256) (h0 : 0 ≤ a) (h1 : a ≤ 1) :
    Calls Tryz.prog 33 #[.agg #[.bool sa, .slice Aa na ca, .bool ta, .slice Ba ma da]] w (fun e w' => e = .returned (.bool true) ∧ Below w.heap.size w w') := by
  obtain rfl : sa = false := by rw [ha.1.sgn]; exact decide_eq_false (by have := Rat.num_nonneg.2 h0; omega)
  exact law_chance0 ha la (cmpQ_le.2 h1)
set_option linter.unusedSimpArgs false in
set_option maxRecDepth 100000 in
set_option maxHeartbeats 2000000 in
theorem law_not {a : Rat} {sa ta : Bool} {Aa Ba : Option Addr} {na ca ma da : Nat} {w : World} (ha : FV w a sa Aa na ta Ba ma) (la : fl a ≤ 256) (lr : fl (1 - a) ≤ 256) :
    Calls Tryz.prog 39 #[.agg #[.bool sa, .slice Aa na ca, .bool ta, .slice Ba ma da]] w (FR (1 - a) w) := by
  have hE := ((Env.start w).fv ha).blk 40 #[.bool sa, .slice Aa na ca, .bool ta, .slice Ba ma da] (g := w.heap.size) rfl
  have hE := hE.blk 40 #[.bool false, .slice none 0 0, .bool false, .slice none 0 0] (g := w.heap.size + 1) (by simp)
  obtain ⟨W0, hW0⟩ : ∃ W0, W0 = ((w.alloc (.cells #[.bool sa, .slice Aa na ca, .bool ta, .slice Ba ma da] 40)).alloc (.cells #[.bool false, .slice none 0 0, .bool false, .slice none 0 0] 40)) := ⟨_, rfl⟩
  rw [← hW0] at hE
  have HW0 := Lib.hid hW0
  clear hW0
  go_enter Tryz.func39, Tryz.ntmps39
  go_upto_region 1 with (fail)
  rw [← HW0.out]
  replace hE := hE.drew
  refine wp_region_held_drew (S := fun w' => w'.cell? ⟨w.heap.size, 0, none⟩ = some (.bool sa) ∧ w'.cell? ⟨w.heap.size, 1, none⟩ = some (.slice Aa na ca) ∧ w'.cell? ⟨w.heap.size, 2, none⟩ = some (.bool ta) ∧ w'.cell? ⟨w.heap.size, 3, none⟩ = some (.slice Ba ma da)) (by kernel_rfl) (⟨(hE.here.1.2).c4.1, (hE.here.1.2).c4.2.1, (hE.here.1.2).c4.2.2.1, (hE.here.1.2).c4.2.2.2⟩) (fun hHeld => ?_)
  generalize W0.drew = wd at *
  refine wpAnyH_take (i := 1) (v := ?v3_1_1) rfl (by kernel_rfl) (by kernel_rfl) (by kernel_rfl) (fun _ _ _ h => h) (Or.inl ⟨by rfl, ?hy3_1_1⟩) (by assumption) ?rest3_1_1
  case hy3_1_1 => intro w hSw; (try dsimp only at hSw); first | (go_simp; done) | (go_simp; with_reducible rfl)
  try simp only [Act.put, List.setIfInBounds_toArray, List.set_cons_zero, List.set_cons_succ, List.getElem_toArray, List.getElem_cons_succ, List.getElem_cons_zero]
  refine wpAnyH_ready (rs := [0, 6]) (by kernel_rfl) (by simp) (AllReadyH.cons rfl (fun K hK => ?_) (AllReadyH.cons rfl (fun K hK => ?_) (AllReadyH.nil)))
  · skip
    go_simp
    have hc := ffromInt_v 1 wd (by decide) (by decide)
    refine hc.mono ?_
    clear hc
    rintro e w1 ⟨sp, Ap, np, cp, tp, Bp, mp, dp, rfl, hp, hb⟩
    replace hE := hE.step hb
    clear hb
    replace hE := hE.fv hp
    clear hp
    go_wp2_with fail
    refine hK.out _ _ (⟨(hE.here.1.1.2).c4.1, (hE.here.1.1.2).c4.2.1, (hE.here.1.1.2).c4.2.2.1, (hE.here.1.1.2).c4.2.2.2⟩) (fun hHeld => ?_)
    clear hK K
    try simp only [Act.put, List.setIfInBounds_toArray, List.set_cons_zero, List.set_cons_succ, List.getElem_toArray, List.getElem_cons_succ, List.getElem_cons_zero]
    refine wpAnyH_ready (rs := [2, 6]) (by kernel_rfl) (by simp) (AllReadyH.cons rfl (fun K hK => ?_) (AllReadyH.cons rfl (fun K hK => ?_) (AllReadyH.nil)))
    · skip
      go_simp
      have hc := fsub_v (ca := cp) (da := dp) (cb := ca) (db := da) hE.here.2 hE.here.1.1.1.2 fl_one la lr
      rw [show (((1 : Int) : Rat)) = 1 from rfl] at hc
      refine hc.mono ?_
      clear hc
      rintro e w2 ⟨sr, Ar, nr, cr, tr, Br, mr, dr, rfl, hr, hb⟩
      replace hE := hE.step hb
      clear hb
      replace hE := hE.fv hr
      clear hr
      go_wp2_with fail
      refine hK.out _ _ (⟨(hE.here.1.1.1.2).c4.1, (hE.here.1.1.1.2).c4.2.1, (hE.here.1.1.1.2).c4.2.2.1, (hE.here.1.1.1.2).c4.2.2.2⟩) (fun hHeld => ?_)
      clear hK K
      try simp only [Act.put, List.setIfInBounds_toArray, List.set_cons_zero, List.set_cons_succ, List.getElem_toArray, List.getElem_cons_succ, List.getElem_cons_zero]
      refine wpAnyH_take (i := 3) (v := ?v3_3_2) rfl (by kernel_rfl) (by kernel_rfl) (by kernel_rfl) (fun _ _ _ h => h) (Or.inl ⟨by rfl, ?hy3_3_2⟩) (by assumption) ?rest3_3_2
      case hy3_3_2 => intro w hSw; (try dsimp only at hSw); first | (go_simp; done) | (go_simp; with_reducible rfl)
      try simp only [Act.put, List.setIfInBounds_toArray, List.set_cons_zero, List.set_cons_succ, List.getElem_toArray, List.getElem_cons_succ, List.getElem_cons_zero]
      refine wpAnyH_take (i := 4) (v := ?v3_4_3) rfl (by kernel_rfl) (by kernel_rfl) (by kernel_rfl) (fun _ _ _ h => h) (Or.inl ⟨by rfl, ?hy3_4_3⟩) (by assumption) ?rest3_4_3
      case hy3_4_3 => intro w hSw; (try dsimp only at hSw); first | (go_simp; done) | (go_simp; with_reducible rfl)
      try simp only [Act.put, List.setIfInBounds_toArray, List.set_cons_zero, List.set_cons_succ, List.getElem_toArray, List.getElem_cons_succ, List.getElem_cons_zero]
      refine wpAnyH_take (i := 5) (v := ?v3_5_4) rfl (by kernel_rfl) (by kernel_rfl) (by kernel_rfl) (fun _ _ _ h => h) (Or.inl ⟨by rfl, ?hy3_5_4⟩) (by assumption) ?rest3_5_4
      case hy3_5_4 => intro w hSw; (try dsimp only at hSw); first | (go_simp; done) | (go_simp; with_reducible rfl)
      try simp only [Act.put, List.setIfInBounds_toArray, List.set_cons_zero, List.set_cons_succ, List.getElem_toArray, List.getElem_cons_succ, List.getElem_cons_zero]
      refine wpAnyH_ready (rs := [6]) (by kernel_rfl) (by simp) (AllReadyH.cons rfl (fun K hK => ?_) (AllReadyH.nil))
      go_simp
      obtain ⟨g3, hg3⟩ : ∃ g3, g3 = w2.heap.size := ⟨_, rfl⟩
      have hl3_1 : w.heap.size < g3 := by rw [hg3]; exact (hE.here.1.1.1.2).lt
      have hl3_2 : w.heap.size + 1 < g3 := by rw [hg3]; exact (hE.here.1.1.2).lt
      replace hE := hE.blk 40 #[.bool false, .slice none 0 0, .bool false, .slice none 0 0] (g := g3) hg3.symm
      generalize w2.alloc (.cells #[.bool false, .slice none 0 0, .bool false, .slice none 0 0] 40) = W3 at hE ⊢
      rw [← hg3]
      clear hg3
      refine hK.out _ _ (⟨(hE.here.1.1.1.1.2).c4.1, (hE.here.1.1.1.1.2).c4.2.1, (hE.here.1.1.1.1.2).c4.2.2.1, (hE.here.1.1.1.1.2).c4.2.2.2⟩) (fun hHeld => ?_)
      clear hK K
      try simp only [Act.put, List.setIfInBounds_toArray, List.set_cons_zero, List.set_cons_succ, List.getElem_toArray, List.getElem_cons_succ, List.getElem_cons_zero]
      refine wpAnyH_ready (rs := [7]) (by kernel_rfl) (by simp) (AllReadyH.cons rfl (fun K hK => ?_) (AllReadyH.nil))
      have hgl4 : w.heap.size ≤ g3 := by omega
      obtain ⟨x4_0, x4_1, x4_2, x4_3⟩ := (hE.here.2).c4
      have f4_0 := (hE.here.2).frozen 0
      have f4_1 := (hE.here.2).frozen 1
      have f4_2 := (hE.here.2).frozen 2
      have f4_3 := (hE.here.2).frozen 3
      replace hE := (((((((Env.again (bel4 hE.bel hgl4 (.bool sr) (.slice Ar nr cr) (.bool tr) (.slice Br mr dr))).fv ((hE.here.1.1.1.1.1.2).sep4 hE.here.2 rfl (.bool sr) (.slice Ar nr cr) (.bool tr) (.slice Br mr dr) rfl rfl rfl)).blkI ((hE.here.1.1.1.1.2).far4 (R := g3) (by omega) (.bool sr) (.slice Ar nr cr) (.bool tr) (.slice Br mr dr))).blkI ((hE.here.1.1.1.2).far4 (R := g3) (by omega) (.bool sr) (.slice Ar nr cr) (.bool tr) (.slice Br mr dr))).fv ((hE.here.1.1.2).sep4 hE.here.2 rfl (.bool sr) (.slice Ar nr cr) (.bool tr) (.slice Br mr dr) rfl rfl rfl)).fv ((hE.here.1.2).sep4 hE.here.2 rfl (.bool sr) (.slice Ar nr cr) (.bool tr) (.slice Br mr dr) rfl rfl rfl)).blkI ((hE.here.2).s4 (.bool sr) (.slice Ar nr cr) (.bool tr) (.slice Br mr dr)))
      go_simp
      clear x4_0 x4_1 x4_2 x4_3 f4_0 f4_1 f4_2 f4_3 hgl4
      generalize ((((W3.setCell ⟨g3, 0, none⟩ (.bool sr)).setCell ⟨g3, 1, none⟩ (.slice Ar nr cr)).setCell ⟨g3, 2, none⟩ (.bool tr)).setCell ⟨g3, 3, none⟩ (.slice Br mr dr)) = W4 at hE ⊢
      refine hK.out _ _ (⟨(hE.here.1.1.1.1.2).c4.1, (hE.here.1.1.1.1.2).c4.2.1, (hE.here.1.1.1.1.2).c4.2.2.1, (hE.here.1.1.1.1.2).c4.2.2.2⟩) (fun hHeld => ?_)
      clear hK K
      try simp only [Act.put, List.setIfInBounds_toArray, List.set_cons_zero, List.set_cons_succ, List.getElem_toArray, List.getElem_cons_succ, List.getElem_cons_zero]
      refine wpAnyH_take (i := 8) (v := ?v3_8_5) rfl (by kernel_rfl) (by kernel_rfl) (by kernel_rfl) (fun _ _ _ h => h) (Or.inl ⟨by rfl, ?hy3_8_5⟩) (by assumption) ?rest3_8_5
      case hy3_8_5 => intro w hSw; (try dsimp only at hSw); first | (go_simp; done) | (go_simp; with_reducible rfl)
      try simp only [Act.put, List.setIfInBounds_toArray, List.set_cons_zero, List.set_cons_succ, List.getElem_toArray, List.getElem_cons_succ, List.getElem_cons_zero]
      refine wpAnyH_done (by kernel_rfl) ?_ _
      obtain ⟨k5, k6, k7, k8⟩ := (hE.here.2).c4
      have hRl : w.heap.size ≤ w.heap.size + 1 := by omega
      obtain ⟨WW, hWW, hB, hV, hBel⟩ := ret_frac hE hE.here.1.1.1.2 hRl hE.here.1.2 cr dr
      obtain ⟨x0, x1, x2, x3⟩ := (hE.here.1.1.1.2).c4
      have fz := fun i => (hE.here.1.1.1.2).frozen i
      have fz0 := fz 0
      have fz1 := fz 1
      have fz2 := fz 2
      have fz3 := fz 3
      clear fz
      have HWW := Lib.hid hWW
      clear hWW
      go_wp2_with fail
      clear k5 k6 k7 k8
      rw [← HWW.out]
      obtain ⟨y0, y1, y2, y3⟩ := hB.c4
      refine bodyPost_ret (v := .agg #[.bool sr, .slice Ar nr cr, .bool tr, .slice Br mr dr]) (by simp [results, Tryz.results39, go_sem, y0, y1, y2, y3]) rfl ?_
      exact ⟨sr, Ar, nr, cr, tr, Br, mr, dr, rfl, hV, hBel⟩
    · skip
      go_simp
      obtain ⟨g9, hg9⟩ : ∃ g9, g9 = w1.heap.size := ⟨_, rfl⟩
      have hl9_1 : w.heap.size < g9 := by rw [hg9]; exact (hE.here.1.1.2).lt
      have hl9_2 : w.heap.size + 1 < g9 := by rw [hg9]; exact (hE.here.1.2).lt
      replace hE := hE.blk 40 #[.bool false, .slice none 0 0, .bool false, .slice none 0 0] (g := g9) hg9.symm
      generalize w1.alloc (.cells #[.bool false, .slice none 0 0, .bool false, .slice none 0 0] 40) = W9 at hE ⊢
      rw [← hg9]
      clear hg9
      refine hK.out _ _ (⟨(hE.here.1.1.1.2).c4.1, (hE.here.1.1.1.2).c4.2.1, (hE.here.1.1.1.2).c4.2.2.1, (hE.here.1.1.1.2).c4.2.2.2⟩) (fun hHeld => ?_)
      clear hK K
      try simp only [Act.put, List.setIfInBounds_toArray, List.set_cons_zero, List.set_cons_succ, List.getElem_toArray, List.getElem_cons_succ, List.getElem_cons_zero]
      refine wpAnyH_ready (rs := [2]) (by kernel_rfl) (by simp) (AllReadyH.cons rfl (fun K hK => ?_) (AllReadyH.nil))
      go_simp
      have hc := fsub_v (ca := cp) (da := dp) (cb := ca) (db := da) hE.here.1.2 hE.here.1.1.1.1.2 fl_one la lr
      rw [show (((1 : Int) : Rat)) = 1 from rfl] at hc
      refine hc.mono ?_
      clear hc
      rintro e w10 ⟨sr, Ar, nr, cr, tr, Br, mr, dr, rfl, hr, hb⟩
      replace hE := hE.step hb
      clear hb
      replace hE := hE.fv hr
      clear hr
      go_wp2_with fail
      refine hK.out _ _ (⟨(hE.here.1.1.1.1.2).c4.1, (hE.here.1.1.1.1.2).c4.2.1, (hE.here.1.1.1.1.2).c4.2.2.1, (hE.here.1.1.1.1.2).c4.2.2.2⟩) (fun hHeld => ?_)
      clear hK K
      try simp only [Act.put, List.setIfInBounds_toArray, List.set_cons_zero, List.set_cons_succ, List.getElem_toArray, List.getElem_cons_succ, List.getElem_cons_zero]
      refine wpAnyH_take (i := 3) (v := ?v3_3_6) rfl (by kernel_rfl) (by kernel_rfl) (by kernel_rfl) (fun _ _ _ h => h) (Or.inl ⟨by rfl, ?hy3_3_6⟩) (by assumption) ?rest3_3_6
      case hy3_3_6 => intro w hSw; (try dsimp only at hSw); first | (go_simp; done) | (go_simp; with_reducible rfl)
      try simp only [Act.put, List.setIfInBounds_toArray, List.set_cons_zero, List.set_cons_succ, List.getElem_toArray, List.getElem_cons_succ, List.getElem_cons_zero]
      refine wpAnyH_take (i := 4) (v := ?v3_4_7) rfl (by kernel_rfl) (by kernel_rfl) (by kernel_rfl) (fun _ _ _ h => h) (Or.inl ⟨by rfl, ?hy3_4_7⟩) (by assumption) ?rest3_4_7
      case hy3_4_7 => intro w hSw; (try dsimp only at hSw); first | (go_simp; done) | (go_simp; with_reducible rfl)
      try simp only [Act.put, List.setIfInBounds_toArray, List.set_cons_zero, List.set_cons_succ, List.getElem_toArray, List.getElem_cons_succ, List.getElem_cons_zero]
      refine wpAnyH_take (i := 5) (v := ?v3_5_8) rfl (by kernel_rfl) (by kernel_rfl) (by kernel_rfl) (fun _ _ _ h => h) (Or.inl ⟨by rfl, ?hy3_5_8⟩) (by assumption) ?rest3_5_8
      case hy3_5_8 => intro w hSw; (try dsimp only at hSw); first | (go_simp; done) | (go_simp; with_reducible rfl)
      try simp only [Act.put, List.setIfInBounds_toArray, List.set_cons_zero, List.set_cons_succ, List.getElem_toArray, List.getElem_cons_succ, List.getElem_cons_zero]
      refine wpAnyH_ready (rs := [7]) (by kernel_rfl) (by simp) (AllReadyH.cons rfl (fun K hK => ?_) (AllReadyH.nil))
      have hgl11 : w.heap.size ≤ g9 := by omega
      obtain ⟨x11_0, x11_1, x11_2, x11_3⟩ := (hE.here.1.2).c4
      have f11_0 := (hE.here.1.2).frozen 0
      have f11_1 := (hE.here.1.2).frozen 1
      have f11_2 := (hE.here.1.2).frozen 2
      have f11_3 := (hE.here.1.2).frozen 3
      replace hE := (((((((Env.again (bel4 hE.bel hgl11 (.bool sr) (.slice Ar nr cr) (.bool tr) (.slice Br mr dr))).fv ((hE.here.1.1.1.1.1.2).sep4 hE.here.1.2 rfl (.bool sr) (.slice Ar nr cr) (.bool tr) (.slice Br mr dr) rfl rfl rfl)).blkI ((hE.here.1.1.1.1.2).far4 (R := g9) (by omega) (.bool sr) (.slice Ar nr cr) (.bool tr) (.slice Br mr dr))).blkI ((hE.here.1.1.1.2).far4 (R := g9) (by omega) (.bool sr) (.slice Ar nr cr) (.bool tr) (.slice Br mr dr))).fv ((hE.here.1.1.2).sep4 hE.here.1.2 rfl (.bool sr) (.slice Ar nr cr) (.bool tr) (.slice Br mr dr) rfl rfl rfl)).blkI ((hE.here.1.2).s4 (.bool sr) (.slice Ar nr cr) (.bool tr) (.slice Br mr dr))).fv ((hE.here.2).sep4 hE.here.1.2 rfl (.bool sr) (.slice Ar nr cr) (.bool tr) (.slice Br mr dr) rfl rfl rfl))
      go_simp
      clear x11_0 x11_1 x11_2 x11_3 f11_0 f11_1 f11_2 f11_3 hgl11
      generalize ((((w10.setCell ⟨g9, 0, none⟩ (.bool sr)).setCell ⟨g9, 1, none⟩ (.slice Ar nr cr)).setCell ⟨g9, 2, none⟩ (.bool tr)).setCell ⟨g9, 3, none⟩ (.slice Br mr dr)) = W11 at hE ⊢
      refine hK.out _ _ (⟨(hE.here.1.1.1.1.2).c4.1, (hE.here.1.1.1.1.2).c4.2.1, (hE.here.1.1.1.1.2).c4.2.2.1, (hE.here.1.1.1.1.2).c4.2.2.2⟩) (fun hHeld => ?_)
      clear hK K
      try simp only [Act.put, List.setIfInBounds_toArray, List.set_cons_zero, List.set_cons_succ, List.getElem_toArray, List.getElem_cons_succ, List.getElem_cons_zero]
      refine wpAnyH_take (i := 8) (v := ?v3_8_9) rfl (by kernel_rfl) (by kernel_rfl) (by kernel_rfl) (fun _ _ _ h => h) (Or.inl ⟨by rfl, ?hy3_8_9⟩) (by assumption) ?rest3_8_9
      case hy3_8_9 => intro w hSw; (try dsimp only at hSw); first | (go_simp; done) | (go_simp; with_reducible rfl)
      try simp only [Act.put, List.setIfInBounds_toArray, List.set_cons_zero, List.set_cons_succ, List.getElem_toArray, List.getElem_cons_succ, List.getElem_cons_zero]
      refine wpAnyH_done (by kernel_rfl) ?_ _
      obtain ⟨k12, k13, k14, k15⟩ := (hE.here.1.2).c4
      have hRl : w.heap.size ≤ w.heap.size + 1 := by omega
      obtain ⟨WW, hWW, hB, hV, hBel⟩ := ret_frac hE hE.here.1.1.1.2 hRl hE.here.2 cr dr
      obtain ⟨x0, x1, x2, x3⟩ := (hE.here.1.1.1.2).c4
      have fz := fun i => (hE.here.1.1.1.2).frozen i
      have fz0 := fz 0
      have fz1 := fz 1
      have fz2 := fz 2
      have fz3 := fz 3
      clear fz
      have HWW := Lib.hid hWW
      clear hWW
      go_wp2_with fail
      clear k12 k13 k14 k15
      rw [← HWW.out]
      obtain ⟨y0, y1, y2, y3⟩ := hB.c4
      refine bodyPost_ret (v := .agg #[.bool sr, .slice Ar nr cr, .bool tr, .slice Br mr dr]) (by simp [results, Tryz.results39, go_sem, y0, y1, y2, y3]) rfl ?_
      exact ⟨sr, Ar, nr, cr, tr, Br, mr, dr, rfl, hV, hBel⟩
  · skip
    go_simp
    obtain ⟨g16, hg16⟩ : ∃ g16, g16 = wd.heap.size := ⟨_, rfl⟩
    have hl16_1 : w.heap.size < g16 := by rw [hg16]; exact (hE.here.1.2).lt
    have hl16_2 : w.heap.size + 1 < g16 := by rw [hg16]; exact (hE.here.2).lt
    replace hE := hE.blk 40 #[.bool false, .slice none 0 0, .bool false, .slice none 0 0] (g := g16) hg16.symm
    generalize wd.alloc (.cells #[.bool false, .slice none 0 0, .bool false, .slice none 0 0] 40) = W16 at hE ⊢
    rw [← hg16]
    clear hg16
    refine hK.out _ _ (⟨(hE.here.1.1.2).c4.1, (hE.here.1.1.2).c4.2.1, (hE.here.1.1.2).c4.2.2.1, (hE.here.1.1.2).c4.2.2.2⟩) (fun hHeld => ?_)
    clear hK K
    try simp only [Act.put, List.setIfInBounds_toArray, List.set_cons_zero, List.set_cons_succ, List.getElem_toArray, List.getElem_cons_succ, List.getElem_cons_zero]
    refine wpAnyH_ready (rs := [0]) (by kernel_rfl) (by simp) (AllReadyH.cons rfl (fun K hK => ?_) (AllReadyH.nil))
    go_simp
    have hc := ffromInt_v 1 W16 (by decide) (by decide)
    refine hc.mono ?_
    clear hc
    rintro e w17 ⟨sp, Ap, np, cp, tp, Bp, mp, dp, rfl, hp, hb⟩
    replace hE := hE.step hb
    clear hb
    replace hE := hE.fv hp
    clear hp
    go_wp2_with fail
    refine hK.out _ _ (⟨(hE.here.1.1.1.2).c4.1, (hE.here.1.1.1.2).c4.2.1, (hE.here.1.1.1.2).c4.2.2.1, (hE.here.1.1.1.2).c4.2.2.2⟩) (fun hHeld => ?_)
    clear hK K
    try simp only [Act.put, List.setIfInBounds_toArray, List.set_cons_zero, List.set_cons_succ, List.getElem_toArray, List.getElem_cons_succ, List.getElem_cons_zero]
    refine wpAnyH_ready (rs := [2]) (by kernel_rfl) (by simp) (AllReadyH.cons rfl (fun K hK => ?_) (AllReadyH.nil))
    go_simp
    have hc := fsub_v (ca := cp) (da := dp) (cb := ca) (db := da) hE.here.2 hE.here.1.1.1.1.2 fl_one la lr
    rw [show (((1 : Int) : Rat)) = 1 from rfl] at hc
    refine hc.mono ?_
    clear hc
    rintro e w18 ⟨sr, Ar, nr, cr, tr, Br, mr, dr, rfl, hr, hb⟩
    replace hE := hE.step hb
    clear hb
    replace hE := hE.fv hr
    clear hr
    go_wp2_with fail
    refine hK.out _ _ (⟨(hE.here.1.1.1.1.2).c4.1, (hE.here.1.1.1.1.2).c4.2.1, (hE.here.1.1.1.1.2).c4.2.2.1, (hE.here.1.1.1.1.2).c4.2.2.2⟩) (fun hHeld => ?_)
    clear hK K
    try simp only [Act.put, List.setIfInBounds_toArray, List.set_cons_zero, List.set_cons_succ, List.getElem_toArray, List.getElem_cons_succ, List.getElem_cons_zero]
    refine wpAnyH_take (i := 3) (v := ?v3_3_10) rfl (by kernel_rfl) (by kernel_rfl) (by kernel_rfl) (fun _ _ _ h => h) (Or.inl ⟨by rfl, ?hy3_3_10⟩) (by assumption) ?rest3_3_10
    case hy3_3_10 => intro w hSw; (try dsimp only at hSw); first | (go_simp; done) | (go_simp; with_reducible rfl)
    try simp only [Act.put, List.setIfInBounds_toArray, List.set_cons_zero, List.set_cons_succ, List.getElem_toArray, List.getElem_cons_succ, List.getElem_cons_zero]
    refine wpAnyH_take (i := 4) (v := ?v3_4_11) rfl (by kernel_rfl) (by kernel_rfl) (by kernel_rfl) (fun _ _ _ h => h) (Or.inl ⟨by rfl, ?hy3_4_11⟩) (by assumption) ?rest3_4_11
    case hy3_4_11 => intro w hSw; (try dsimp only at hSw); first | (go_simp; done) | (go_simp; with_reducible rfl)
    try simp only [Act.put, List.setIfInBounds_toArray, List.set_cons_zero, List.set_cons_succ, List.getElem_toArray, List.getElem_cons_succ, List.getElem_cons_zero]
    refine wpAnyH_take (i := 5) (v := ?v3_5_12) rfl (by kernel_rfl) (by kernel_rfl) (by kernel_rfl) (fun _ _ _ h => h) (Or.inl ⟨by rfl, ?hy3_5_12⟩) (by assumption) ?rest3_5_12
    case hy3_5_12 => intro w hSw; (try dsimp only at hSw); first | (go_simp; done) | (go_simp; with_reducible rfl)
    try simp only [Act.put, List.setIfInBounds_toArray, List.set_cons_zero, List.set_cons_succ, List.getElem_toArray, List.getElem_cons_succ, List.getElem_cons_zero]
    refine wpAnyH_ready (rs := [7]) (by kernel_rfl) (by simp) (AllReadyH.cons rfl (fun K hK => ?_) (AllReadyH.nil))
    have hgl19 : w.heap.size ≤ g16 := by omega
    obtain ⟨x19_0, x19_1, x19_2, x19_3⟩ := (hE.here.1.1.2).c4
    have f19_0 := (hE.here.1.1.2).frozen 0
    have f19_1 := (hE.here.1.1.2).frozen 1
    have f19_2 := (hE.here.1.1.2).frozen 2
    have f19_3 := (hE.here.1.1.2).frozen 3
    replace hE := (((((((Env.again (bel4 hE.bel hgl19 (.bool sr) (.slice Ar nr cr) (.bool tr) (.slice Br mr dr))).fv ((hE.here.1.1.1.1.1.2).sep4 hE.here.1.1.2 rfl (.bool sr) (.slice Ar nr cr) (.bool tr) (.slice Br mr dr) rfl rfl rfl)).blkI ((hE.here.1.1.1.1.2).far4 (R := g16) (by omega) (.bool sr) (.slice Ar nr cr) (.bool tr) (.slice Br mr dr))).blkI ((hE.here.1.1.1.2).far4 (R := g16) (by omega) (.bool sr) (.slice Ar nr cr) (.bool tr) (.slice Br mr dr))).blkI ((hE.here.1.1.2).s4 (.bool sr) (.slice Ar nr cr) (.bool tr) (.slice Br mr dr))).fv ((hE.here.1.2).sep4 hE.here.1.1.2 rfl (.bool sr) (.slice Ar nr cr) (.bool tr) (.slice Br mr dr) rfl rfl rfl)).fv ((hE.here.2).sep4 hE.here.1.1.2 rfl (.bool sr) (.slice Ar nr cr) (.bool tr) (.slice Br mr dr) rfl rfl rfl))
    go_simp
    clear x19_0 x19_1 x19_2 x19_3 f19_0 f19_1 f19_2 f19_3 hgl19
    generalize ((((w18.setCell ⟨g16, 0, none⟩ (.bool sr)).setCell ⟨g16, 1, none⟩ (.slice Ar nr cr)).setCell ⟨g16, 2, none⟩ (.bool tr)).setCell ⟨g16, 3, none⟩ (.slice Br mr dr)) = W19 at hE ⊢
    refine hK.out _ _ (⟨(hE.here.1.1.1.1.2).c4.1, (hE.here.1.1.1.1.2).c4.2.1, (hE.here.1.1.1.1.2).c4.2.2.1, (hE.here.1.1.1.1.2).c4.2.2.2⟩) (fun hHeld => ?_)
    clear hK K
    try simp only [Act.put, List.setIfInBounds_toArray, List.set_cons_zero, List.set_cons_succ, List.getElem_toArray, List.getElem_cons_succ, List.getElem_cons_zero]
    refine wpAnyH_take (i := 8) (v := ?v3_8_13) rfl (by kernel_rfl) (by kernel_rfl) (by kernel_rfl) (fun _ _ _ h => h) (Or.inl ⟨by rfl, ?hy3_8_13⟩) (by assumption) ?rest3_8_13
    case hy3_8_13 => intro w hSw; (try dsimp only at hSw); first | (go_simp; done) | (go_simp; with_reducible rfl)
    try simp only [Act.put, List.setIfInBounds_toArray, List.set_cons_zero, List.set_cons_succ, List.getElem_toArray, List.getElem_cons_succ, List.getElem_cons_zero]
    refine wpAnyH_done (by kernel_rfl) ?_ _
    obtain ⟨k20, k21, k22, k23⟩ := (hE.here.1.1.2).c4
    have hRl : w.heap.size ≤ w.heap.size + 1 := by omega
    obtain ⟨WW, hWW, hB, hV, hBel⟩ := ret_frac hE hE.here.1.1.1.2 hRl hE.here.2 cr dr
    obtain ⟨x0, x1, x2, x3⟩ := (hE.here.1.1.1.2).c4
    have fz := fun i => (hE.here.1.1.1.2).frozen i
    have fz0 := fz 0
    have fz1 := fz 1
    have fz2 := fz 2
    have fz3 := fz 3
    clear fz
    have HWW := Lib.hid hWW
    clear hWW
    go_wp2_with fail
    clear k20 k21 k22 k23
    rw [← HWW.out]
    obtain ⟨y0, y1, y2, y3⟩ := hB.c4
    refine bodyPost_ret (v := .agg #[.bool sr, .slice Ar nr cr, .bool tr, .slice Br mr dr]) (by simp [results, Tryz.results39, go_sem, y0, y1, y2, y3]) rfl ?_
    exact ⟨sr, Ar, nr, cr, tr, Br, mr, dr, rfl, hV, hBel⟩
end Go.Proofs.YtgkepllfdhcdpaaGreat
namespace Go.Proofs.YtgkepllfdhcdpaaGreat
open Go.RowKit

/-- The word of an iterator: each value that it yields is V in the world in which it is yielded. -/
def SeqV {α : Type} (F : Fence) (n : Nat) (P : Program) (g : Nat) (lb : Array Value) (encs : α → Array Value) (Kp : World → World → Prop) (V : List α → α → World → Prop) (S Sp : List α → Prop) (N : Nat) (w : World) : Prop :=
  ∀ (l : Nat) (J Jx : List α → World → Prop) (W : World), Below w.heap.size w W → AbidesFrom W.heap.size J → AbidesFrom W.heap.size Jx →
    (∀ pre x W1, J pre W1 → V pre x W1 → pre.length < N → YieldAt F (n - 1) P l (encs x) W1 fun e W' =>
      (e = .returned (.bool true) ∧ J (pre ++ [x]) W' ∧ Kp W1 W') ∨ (e = .returned (.bool false) ∧ Jx (pre ++ [x]) W')) →
    J [] W →
    CallsIn F n P g (#[.func (.yield l) #[] #[]] ++ lb) W fun e W' => (∃ v, e = .returned v) ∧ ((∃ xs, S xs ∧ J xs W') ∨ (∃ pre, Sp pre ∧ Jx pre W'))

/-- The two blocks that a loop keeps its books in: for deferred calls at D, its record behind it. -/
structure Books (D : Nat) (r : Loop) (W : World) : Prop where
  dfr : W.heap[D]? = some (.deferred (some []))
  lp : W.heap[D + 1]? = some (.loop r)
section
variable {D : Nat} {r r' : Loop} {W W' : World}
theorem Books.lt (h : Books D r W) : D + 1 < W.heap.size := (Array.getElem?_eq_some_iff.1 h.lp).1
theorem Books.keeps (h : Books D r W) (hk : KeepsFrom D W W') : Books D r W' := ⟨hk.same _ _ (Nat.le_refl _) h.dfr rfl, hk.same _ _ (by omega) h.lp rfl⟩
theorem Books.turn (h : Books D r W) (r' : Loop) : Books D r' (W.putObj (D + 1) (.loop r')) := ⟨(World.putObj_heap_other (by omega)).trans h.dfr, World.putObj_heap_same h.lt⟩
theorem Books.abides (h : Books D r W) {row : Option Nat} (hg : W.grownBy W' row) (hr : ∀ q, row = some q → ∃ o : Obj, W.heap[q]? = some o ∧ o.isWalk = true) : Books D r W' :=
  ⟨(grownBy_keeps hg hr h.dfr rfl).trans h.dfr, (grownBy_keeps hg hr h.lp rfl).trans h.lp⟩
theorem Books.start (w : World) (r : Loop) : Books w.heap.size r ((w.alloc (.deferred (some []))).alloc (.loop r)) := by
  have h := World.alloc_heap_new (w.alloc (.deferred (some []))) (.loop r)
  rw [World.size_alloc] at h
  exact ⟨(Below.heap_alloc _ _ _ (by simp)).trans (World.alloc_heap_new w _), h⟩
end

theorem rangeV {F : Fence} {n : Nat} {P : Program} {α : Type} {g : Operand} {ps : Array Tmp} {assign body : Code} {Q : Exit → Act → World → Prop} {a : Act} {w : World}
    (hro : F.round = none) (h1 : 1 ≤ n) {gf : Nat} {lb : Array Value} (hg : a.eval g = .func (.func gf) #[] lb) (hFg : F.fn gf) (eg : ∀ args w, (callFunc gf args).run P w = .ok (.enter gf args) w)
    {encs : α → Array Value} {Kp : World → World → Prop} {V : List α → α → World → Prop} {S Sp : List α → Prop} {N : Nat} {w0 : World} (hseq : SeqV F (n - 1) P gf lb encs Kp V S Sp N w0)
    (hKt : ∀ {A B C : World}, Kp A B → Kp B C → Kp A C) (hKb : ∀ (W : World) (l : Nat) (o o' : Obj), w.heap.size ≤ l → W.heap[l]? = some o → o.isCells = false → o.isWalk = false → Kp W (W.putObj l o'))
    (hb0 : Below w0.heap.size w0 w) (hps : ∀ x, (encs x).size = ps.size)
    (I : List α → World → Prop) (Ix : Code → List α → World → Prop) (hI : OwnFrom w.heap.size I) (hIx : ∀ c, OwnFrom w.heap.size (Ix c)) (h0 : I [] w)
    (Ax : List α → α → Act → World → Prop) (hAx : ∀ pre x a', OwnFrom w.heap.size (fun (_ : Unit) W => Ax pre x a' W))
    (hassign : ∀ (l : Nat) (pre : List α) (x : α) (W : World) (K : Act → World → Prop), I pre W → V pre x W → (∀ a' W', KeepsFrom w.heap.size W W' → Kp W W' → I pre W' → Ax pre x a' W' → K a' W') →
      assign.wpIn (F.inRound l) (n - 1 - 1) P (Exit.then K (fun _ _ _ => False)) { tmps := (ps.zip (encs x)).foldl (fun t (p, v) => t.setIfInBounds p v) a.tmps, defers := [] } W)
    (hbody : ∀ (l : Nat) (pre : List α) (x : α) (a' : Act) (W : World), I pre W → Ax pre x a' W → pre.length < N → body.wpIn (F.inRound l) (n - 1 - 1) P (ownPostG w.heap.size Kp I Ix (pre ++ [x]) W) a' W)
    (hdone : ∀ (D : Nat) (xs : List α) (W : World), w.heap.size ≤ D → S xs → I xs W → W.heap[D]? = some (.deferred (some [])) → Q .normal { a with defers := { target := .collected D, args := #[] } :: a.defers } W)
    (hstop : ∀ (D : Nat) (c : Code) (pre : List α) (W : World), w.heap.size ≤ D → Sp pre → Ix c pre W → W.heap[D]? = some (.deferred (some [])) → c.wpIn F n P Q { a with defers := { target := .collected D, args := #[] } :: a.defers } W) :
    (Code.rangeFunc g ps assign body).wpIn F n P Q a w := by
  refine wpIn_rangeFunc fun fn hfn => ?_
  rw [hro]
  obtain ⟨bk, hbk⟩ : ∃ bk : LoopState → Option Code → Loop, bk = fun st pe => { state := st, pending := pe, fn, tmps := a.tmps, params := ps, assign, body, defers := w.heap.size } := ⟨_, rfl⟩
  have hB1 := Books.start w (bk .ready none)
  have hI1 : I [] ((w.alloc (.deferred (some []))).alloc (.loop (bk .ready none))) := hI.alloc _ (hI.alloc _ h0)
  have hb1 : Below w0.heap.size w0 ((w.alloc (.deferred (some []))).alloc (.loop (bk .ready none))) := hb0.trans ((((Below.refl _ w).alloc (Nat.le_refl _) _).alloc (by simp) _).mono hb0.size)
  have hz : ((w.alloc (.deferred (some []))).alloc (.loop (bk .ready none))).heap.size = w.heap.size + 1 + 1 := by simp
  have hent := run_enterLoop_outer (P := P) (w := w) fn a.tmps ps assign body
  have hent2 : (Instr.enterLoop fn a.tmps ps assign body none).run P w = .ok (w.heap.size + 1, [{ target := .collected w.heap.size, args := #[] }]) ((w.alloc (.deferred (some []))).alloc (.loop (bk .ready none))) := by rw [hbk]; exact hent
  clear hent
  generalize (w.alloc (.deferred (some []))).alloc (.loop (bk .ready none)) = W1 at *
  refine ⟨w.heap.size + 1, [{ target := .collected w.heap.size, args := #[] }], W1, { target := .fn (.func gf) lb, args := #[.func (.yield (w.heap.size + 1)) #[] #[]] }, W1, gf,
    #[.func (.yield (w.heap.size + 1)) #[] #[]] ++ lb, W1, hent2, ?_, ?_, ?_, fun _ => h1, ?_⟩
  · simp only [resolve, hg]
    simp [go_sem]
  · intro f' hf'
    simp [Target.leads] at hf'
    subst hf'
    exact hFg
  · simp [invoke, go_sem, eg]
  · have far : ∀ {A : World} {row : Option Nat}, (∀ q, row = some q → W1.heap.size ≤ q ∧ ∃ o : Obj, A.heap[q]? = some o ∧ o.isWalk = true) → ∀ q, row = some q → w.heap.size ≤ q ∧ ∃ o : Obj, A.heap[q]? = some o ∧ o.isCells = false :=
      fun hr q e => by
        obtain ⟨hq, o, ho, hw⟩ := hr q e
        exact ⟨by omega, o, ho, Obj.not_cells_of_walk hw⟩
    refine (hseq (w.heap.size + 1) (fun pre W => I pre W ∧ Books w.heap.size (bk .ready none) W) (fun pre W => ∃ c, Ix c pre W ∧ Books w.heap.size (bk .done (some c)) W) W1 hb1
      (fun s A B row hs hg' hr => ⟨hI s A B row hs.1 hg' (far hr), hs.2.abides hg' fun q e => (hr q e).2⟩)
      (fun s A B row hs hg' hr => by
        obtain ⟨c, hc, hB⟩ := hs
        exact ⟨c, hIx c s A B row hc hg' (far hr), hB.abides hg' fun q e => (hr q e).2⟩) ?_ ⟨hI1, hB1⟩).mono ?_
    · rintro pre x W ⟨hi, hB⟩ hv hlen
      have hy := run_yield (P := P) (args := encs x) hB.lp (by rw [hbk]; exact hps x)
      rw [hbk] at hy
      refine ⟨fn, _, assign, body, hy, roundIn_of_wpIn hfn (hassign _ pre x W _ hi hv ?_)⟩
      clear hy
      intro a' X hkf hkp hix hax
      have hBX := hB.keeps hkf
      refine ⟨_, run_beginRound hBX.lp (by rw [hbk]), ?_⟩
      have hturn := hBX.turn { bk .ready none with state := .busy }
      have hfw := hBX.lp
      refine wpIn_mono (hbody _ pre x a' _ (hI.putObj _ hix (by omega) hfw rfl) ((hAx pre x a').putObj (s := ()) _ hax (by omega) hfw rfl) hlen) ?_
      have hkq : Kp W (X.putObj (w.heap.size + 1) (.loop { bk .ready none with state := .busy })) := hKt hkp (hKb _ _ _ _ (by omega) hfw rfl rfl)
      generalize X.putObj (w.heap.size + 1) (.loop { bk .ready none with state := .busy }) = Y at *
      have fin : ∀ (jump : Option Code) (Z : World), KeepsFrom w.heap.size Y Z →
          (Instr.endRound (w.heap.size + 1) jump).run P Z = .ok (.bool jump.isNone) (Z.putObj (w.heap.size + 1) (.loop (bk (if jump.isNone then .ready else .done) jump))) ∧
          Z.heap[w.heap.size + 1]? = some (.loop { bk .ready none with state := .busy }) ∧ Books w.heap.size (bk (if jump.isNone then .ready else .done) jump) (Z.putObj (w.heap.size + 1) (.loop (bk (if jump.isNone then .ready else .done) jump))) := fun jump Z hk => by
        have hBZ := hturn.keeps hk
        have h := run_endRound (P := P) jump hBZ.lp
        have ht := hBZ.turn (bk (if jump.isNone then .ready else .done) jump)
        refine ⟨?_, hBZ.lp, ht⟩
        rw [hbk] at h ⊢
        exact h
      have leave : ∀ (c : Code) (Z : World), KeepsFrom w.heap.size Y Z ∧ Ix c (pre ++ [x]) Z → ∃ v Z', (Instr.endRound (w.heap.size + 1) (some c)).run P Z = .ok v Z' ∧ v = .bool false ∧ ∃ c', Ix c' (pre ++ [x]) Z' ∧ Books w.heap.size (bk .done (some c')) Z' := fun c Z ⟨hk, hx⟩ => by
        obtain ⟨hr, hl, hBZ⟩ := fin (some c) Z hk
        exact ⟨_, _, hr, rfl, c, (hIx c).putObj _ hx (by omega) hl rfl, hBZ⟩
      rintro e a3 Z hp
      cases e with
      | normal =>
        obtain ⟨hk, hkp3, hi3⟩ := hp
        obtain ⟨hr, hl, hBZ⟩ := fin none Z hk
        exact ⟨_, _, hr, .inl ⟨rfl, ⟨hI.putObj _ hi3 (by omega) hl rfl, hBZ⟩, hKt (hKt hkq hkp3) (hKb _ _ _ _ (by omega) hl rfl rfl)⟩⟩
      | ret =>
        obtain ⟨v, Z', hr, rfl, hc⟩ := leave .ret Z hp
        exact ⟨_, _, hr, .inr ⟨rfl, hc⟩⟩
      | exit id =>
        obtain ⟨v, Z', hr, rfl, hc⟩ := leave (.exit id) Z hp
        exact ⟨_, _, hr, .inr ⟨rfl, hc⟩⟩
      | goto t =>
        obtain ⟨v, Z', hr, rfl, hc⟩ := leave (.goto t) Z hp
        exact ⟨_, _, hr, .inr ⟨rfl, hc⟩⟩
      | panic ch => exact hp.elim
      | outgrown => exact hp.elim
    · rintro e Z ⟨⟨v, rfl⟩, (⟨xs, hS, hi, hB⟩ | ⟨pre, hSp, c, hi, hB⟩)⟩
      · have h := run_endLoop (P := P) hB.lp (by rw [hbk]; simp)
        exact ⟨none, _, by rw [hbk] at h; exact h, hdone _ xs _ (Nat.le_refl _) hS (hI.putObj _ hi (by omega) hB.lp rfl) ((World.putObj_heap_other (by omega)).trans hB.dfr)⟩
      · have h := run_endLoop (P := P) hB.lp (by rw [hbk]; simp)
        exact ⟨some c, _, by rw [hbk] at h; exact h, hstop _ c pre _ (Nat.le_refl _) hSp ((hIx c).putObj _ hi (by omega) hB.lp rfl) ((World.putObj_heap_other (by omega)).trans hB.dfr)⟩
end Go.Proofs.YtgkepllfdhcdpaaGreat
