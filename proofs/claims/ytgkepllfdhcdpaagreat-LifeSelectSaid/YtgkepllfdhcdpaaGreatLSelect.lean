/-
  The walk of LifeSelect.
-/
import Derived.Test.YtgkepllfdhcdpaaGreatK14
namespace Go.Proofs.YtgkepllfdhcdpaaGreat
open Go.RowKit


/-- The plain law of LifeSelect: behind the select period the rate depends on the age alone. -/
theorem select_law {F S : Int} {n : Nat} {r : Nat → RH} {E Y : Int} (m : Int) (h1 : ¬ F + (n : Int) - 1 < E + Y) (h2 : ¬ Y < S) (h3 : ¬ Y - m < S) : fr F S n r E Y 0 = fr F S n r (E + m) (Y - m) 0 := by
  show rt F S n r E Y 0 = rt F S n r (E + m) (Y - m) 0
  unfold rt
  rw [if_neg (by omega), if_neg (by omega), if_neg (by omega), if_neg (by omega), show E + m + (Y - m + 0) - F = E + (Y + 0) - F by omega]
theorem select_one {F S : Int} {n : Nat} {r : Nat → RH} {E Y : Int} (h1 : F + (n : Int) - 1 < E + Y) : fr F S n r E Y 0 = 1 := by
  show rt F S n r E Y 0 = 1
  unfold rt
  rw [if_pos (by omega)]
theorem select_row {F S : Int} {n : Nat} {r : Nat → RH} {E Y : Int} (h1 : ¬ F + (n : Int) - 1 < E + Y) (h2 : Y < S) : fr F S n r E Y 0 = ((r (E - F).toNat).h Y.toNat).q := by
  show rt F S n r E Y 0 = _
  unfold rt
  rw [if_neg (by omega), if_pos (by omega), show Y + 0 = Y by omega]
set_option linter.unusedSimpArgs false in
set_option maxRecDepth 100000 in
set_option maxHeartbeats 16000000 in
theorem lselect_walk (F S E Y : Int) (A : Option Addr) (n c : Nat) (r : Nat → RH) (w : World) (hT : TabM w A n r) (m : Int) (hm1 : 0 ≤ m) (hm2 : m ≤ 255) :
    Calls Tryz.prog 8 #[.agg #[.int .i64 F, .int .i64 S, .slice A n c], .agg #[.int .i64 E, .int .i64 Y], .int .u8 m] w fun e w' => e = .returned (.bool true) ∧ Below w.heap.size w w' := by
  have HT := Lib.hid hT
  clear hT
  by_cases hU : TabS n r 25 8 2 ∧ RightP F S n r E Y
  · have HU := Lib.hid hU
    have HB := Lib.hid (hU.1.b (by decide) (by decide) (by decide))
    obtain ⟨ht, r1, r2, r3, r4⟩ := hU.2
    obtain ⟨f1, f2, s1, s2, n1, n2⟩ : 0 ≤ F ∧ F ≤ 150 ∧ 0 ≤ S ∧ S ≤ 5 ∧ 1 ≤ n ∧ n ≤ 111 := ⟨ht.1.1.1, ht.1.1.2, ht.1.2.1, ht.1.2.2, ht.2.1.1, ht.2.1.2⟩
    clear hU ht
    have o1 : IntKind.i64.wrap (F + (n : Int)) = F + (n : Int) := by rw [IntKind.wrap_i64]; omega
    have o2' : IntKind.i64.wrap (F + (n : Int) - 1) = F + (n : Int) - 1 := by rw [IntKind.wrap_i64]; omega
    have o3 : IntKind.i64.wrap m = m := by rw [IntKind.wrap_i64]; omega
    have o4 : IntKind.i64.wrap (E + m) = E + m := by rw [IntKind.wrap_i64]; omega
    have o5 : IntKind.i64.wrap (Y - m) = Y - m := by rw [IntKind.wrap_i64]; omega
    have o6 : IntKind.i64.wrap (E + Y) = E + Y := by rw [IntKind.wrap_i64]; omega
    have o7 : IntKind.i64.wrap (E - F) = E - F := by rw [IntKind.wrap_i64]; omega
    obtain ⟨QQ, hQ⟩ : ∃ q, q = fr F S n r E Y 0 := ⟨_, rfl⟩
    have hlQ : fl QQ ≤ 256 := by rw [hQ]; exact (((rt_rates HT.out HU.out.2 200).sm (show 0 < 200 by decide))).l (by decide)
    have hcQ := fun w (h : TabM w A n r) => lRate_v (c := c) h HB.out HU.out.2
    rw [← hQ] at hcQ
    have HcQ := Lib.hid hcQ
    have HlQ := Lib.hid hlQ
    clear hcQ hlQ
    by_cases h1 : F + (n : Int) - 1 < E + Y
    · have t1 : decide (F + (n : Int) - 1 < E + Y) = true := decide_eq_true h1
      have HgA : Hid (QQ = ((1 : Int) : Rat)) := Lib.hid (by rw [hQ, select_one h1]; rfl)
      clear hQ h1
      have hE := ((Env.start w).blk 24 #[.int .i64 F, .int .i64 S, .slice A n c] (g := w.heap.size) rfl).blk 26 #[.int .i64 E, .int .i64 Y] (g := w.heap.size + 1) (by simp)
      obtain ⟨W0, hW0⟩ : ∃ W0, W0 = ((w.alloc (.cells #[.int .i64 F, .int .i64 S, .slice A n c] 24)).alloc (.cells #[.int .i64 E, .int .i64 Y] 26)) := ⟨_, rfl⟩
      rw [← hW0] at hE
      have HW0 := Lib.hid hW0
      clear hW0
      go_enter Tryz.func8, Tryz.ntmps8
      go_upto_region 1 with (fail)
      rw [← HW0.out]
      go_wp2_with fail
      refine (awake_t _).mono ?_
      rintro e w1 ⟨rfl, hb⟩
      replace hE := hE.step hb
      clear hb
      obtain ⟨k2, k3, k4⟩ := (hE.here.1.2).c3
      obtain ⟨k5, k6⟩ := (hE.here.2).c2
      go_wp2_with fail
      refine (usable_t (HT.out.below hE.bel) HU.out).mono ?_
      clear k2 k3 k4 k5 k6
      rintro e w7 ⟨rfl, hb⟩
      replace hE := hE.step hb
      clear hb
      obtain ⟨k8, k9, k10⟩ := (hE.here.1.2).c3
      obtain ⟨k11, k12⟩ := (hE.here.2).c2
      go_wp2_with fail
      refine (HcQ.out _ (HT.out.below hE.bel)).mono ?_
      clear k8 k9 k10 k11 k12
      rintro e w13 ⟨sq, Aq, nq, cq, tq, Bq, mq, dq, rfl, hq, hb⟩
      replace hE := hE.step hb
      clear hb
      replace hE := hE.fv hq
      clear hq
      go_upto_region 6 with (fail)
      obtain ⟨g14, hg14⟩ : ∃ g14, g14 = w13.heap.size := ⟨_, rfl⟩
      have hl14_0 : w.heap.size < g14 := by rw [hg14]; exact (hE.here.1.1.2).lt
      have hl14_1 : w.heap.size + 1 < g14 := by rw [hg14]; exact (hE.here.1.2).lt
      replace hE := hE.blk 40 #[.bool sq, .slice Aq nq cq, .bool tq, .slice Bq mq dq] (g := g14) hg14.symm
      generalize w13.alloc (.cells #[.bool sq, .slice Aq nq cq, .bool tq, .slice Bq mq dq] 40) = W14 at hE ⊢
      rw [← hg14]
      clear hg14
      obtain ⟨k15, k16, k17⟩ := (hE.here.1.1.1.2).c3
      obtain ⟨k18, k19⟩ := (hE.here.1.1.2).c2
      go_upto_region 10 with (fail)
      clear k15 k16 k17 k18 k19
      obtain ⟨g20, hg20⟩ : ∃ g20, g20 = W14.heap.size := ⟨_, rfl⟩
      have hl20_0 : w.heap.size < g20 := by rw [hg20]; exact (hE.here.1.1.1.2).lt
      have hl20_1 : w.heap.size + 1 < g20 := by rw [hg20]; exact (hE.here.1.1.2).lt
      have hl20_3 : g14 < g20 := by rw [hg20]; exact (hE.here.2).lt
      replace hE := hE.blk 26 #[.int .i64 (E + m), .int .i64 (Y - m)] (g := g20) hg20.symm
      generalize W14.alloc (.cells #[.int .i64 (E + m), .int .i64 (Y - m)] 26) = W20 at hE ⊢
      rw [← hg20]
      clear hg20
      obtain ⟨k21, k22, k23⟩ := (hE.here.1.1.1.1.2).c3
      obtain ⟨k24, k25⟩ := (hE.here.1.1.1.2).c2
      go_upto_region 11 with (fail)
      clear k21 k22 k23 k24 k25
      replace hE := hE.drew
      refine wp_region_held_drew (S := fun w' => w'.cell? ⟨g14, 0, none⟩ = some (.bool sq) ∧ w'.cell? ⟨g14, 1, none⟩ = some (.slice Aq nq cq) ∧ w'.cell? ⟨g14, 2, none⟩ = some (.bool tq) ∧ w'.cell? ⟨g14, 3, none⟩ = some (.slice Bq mq dq)) (by kernel_rfl) (⟨(hE.here.1.2).c4.1, (hE.here.1.2).c4.2.1, (hE.here.1.2).c4.2.2.1, (hE.here.1.2).c4.2.2.2⟩) (fun hHeld => ?_)
      refine wpAnyH_take (i := 0) (v := ?v1_0_1) rfl (by kernel_rfl) (by kernel_rfl) (by kernel_rfl) (fun _ _ _ h => h) (Or.inl ⟨by rfl, ?hy1_0_1⟩) (by assumption) ?rest1_0_1
      case hy1_0_1 => intro w hSw; (try dsimp only at hSw); first | (go_simp; done) | (go_simp; with_reducible rfl)
      try simp only [Act.put, List.setIfInBounds_toArray, List.set_cons_zero, List.set_cons_succ, List.getElem_toArray, List.getElem_cons_succ, List.getElem_cons_zero]
      refine wpAnyH_ready (rs := [1]) (by kernel_rfl) (by simp) (AllReadyH.cons rfl (fun K hK => ?_) (AllReadyH.nil))
      go_simp
      refine (ffromInt_v 1 _ (by decide) (by decide)).mono ?_
      rintro e w26 ⟨sp, Ap, np, cp, tp, Bp, mp, dp, rfl, hp, hb⟩
      replace hE := hE.step hb
      clear hb
      replace hE := hE.fv hp
      clear hp
      go_wp2_with fail
      refine hK.out _ _ (⟨(hE.here.1.1.2).c4.1, (hE.here.1.1.2).c4.2.1, (hE.here.1.1.2).c4.2.2.1, (hE.here.1.1.2).c4.2.2.2⟩) (fun hHeld => ?_)
      clear hK K
      try simp only [Act.put, List.setIfInBounds_toArray, List.set_cons_zero, List.set_cons_succ, List.getElem_toArray, List.getElem_cons_succ, List.getElem_cons_zero]
      refine wpAnyH_ready (rs := [2]) (by kernel_rfl) (by simp) (AllReadyH.cons rfl (fun K hK => ?_) (AllReadyH.nil))
      go_simp
      refine (lw_equal (v := true) (ca := cq) (da := dq) (cb := cp) (db := dp) hE.here.1.1.1.2 hE.here.2 (HlQ.out) fl_one (decide_eq_true HgA.out)).mono ?_
      rintro e w27 ⟨rfl, hb⟩
      replace hE := hE.step hb
      clear hb
      go_wp2_with fail
      refine hK.out _ _ (⟨(hE.here.1.1.2).c4.1, (hE.here.1.1.2).c4.2.1, (hE.here.1.1.2).c4.2.2.1, (hE.here.1.1.2).c4.2.2.2⟩) (fun hHeld => ?_)
      clear hK K
      try simp only [Act.put, List.setIfInBounds_toArray, List.set_cons_zero, List.set_cons_succ, List.getElem_toArray, List.getElem_cons_succ, List.getElem_cons_zero]
      refine wpAnyH_take (i := 3) (v := ?v1_3_2) rfl (by kernel_rfl) (by kernel_rfl) (by kernel_rfl) (fun _ _ _ h => h) (Or.inl ⟨by rfl, ?hy1_3_2⟩) (by assumption) ?rest1_3_2
      case hy1_3_2 => intro w hSw; (try dsimp only at hSw); first | (go_simp; done) | (go_simp; with_reducible rfl)
      try simp only [Act.put, List.setIfInBounds_toArray, List.set_cons_zero, List.set_cons_succ, List.getElem_toArray, List.getElem_cons_succ, List.getElem_cons_zero]
      refine wpAnyH_done (by kernel_rfl) ?_ _
      go_wp2_with fail
      go_ret
      exact ⟨rfl, hE.bel⟩
    · have t1 : decide (F + (n : Int) - 1 < E + Y) = false := decide_eq_false h1
      by_cases h2 : Y < S
      · have t2 : decide (Y < S) = true := decide_eq_true h2
        have HgB : Hid (QQ = ((r (E - F).toNat).h Y.toNat).q) := Lib.hid (by rw [hQ, select_row h1 h2])
        have i2 : E - F < (n : Int) := by omega
        have i3 : 0 ≤ E - F := by omega
        clear hQ h1
        obtain ⟨b, o, b2, o2, ni, ci, rfl, hb, c0, hb2, hK, hcl, hh⟩ := rate_at HT.out HU.out.2.1 (i := E - F) (k := Y) (by omega) (by omega) (by omega) (by omega)
        rw [← HgB.out] at hh
        obtain ⟨H, hH⟩ : ∃ H, H = (r (E - F).toNat).h Y.toNat := ⟨_, rfl⟩
        rw [← hH] at hh hcl
        clear hH
        obtain ⟨hs, hA, hn, hc, hf, ht_, hD, hm, hd, hg⟩ := H
        obtain ⟨d0, d1, d2, d3⟩ := hcl
        dsimp only at d0 d1 d2 d3 hh
        have hE := ((((((((Env.start w).fv hh).at_ hb c0).at_ hb2 d0).at_ hb2 d1).at_ hb2 d2).at_ hb2 d3).blk 24 #[.int .i64 F, .int .i64 S, .slice (some ⟨b, o, none⟩) n c] (g := w.heap.size) rfl).blk 26 #[.int .i64 E, .int .i64 Y] (g := w.heap.size + 1) (by simp)
        obtain ⟨W0, hW0⟩ : ∃ W0, W0 = ((w.alloc (.cells #[.int .i64 F, .int .i64 S, .slice (some ⟨b, o, none⟩) n c] 24)).alloc (.cells #[.int .i64 E, .int .i64 Y] 26)) := ⟨_, rfl⟩
        rw [← hW0] at hE
        have HW0 := Lib.hid hW0
        clear hW0
        go_enter Tryz.func8, Tryz.ntmps8
        go_upto_region 1 with (fail)
        rw [← HW0.out]
        go_wp2_with fail
        refine (awake_t _).mono ?_
        rintro e w1 ⟨rfl, hb⟩
        replace hE := hE.step hb
        clear hb
        obtain ⟨k2, k3, k4⟩ := (hE.here.1.2).c3
        obtain ⟨k5, k6⟩ := (hE.here.2).c2
        go_wp2_with fail
        refine (usable_t (HT.out.below hE.bel) HU.out).mono ?_
        clear k2 k3 k4 k5 k6
        rintro e w7 ⟨rfl, hb⟩
        replace hE := hE.step hb
        clear hb
        obtain ⟨k8, k9, k10⟩ := (hE.here.1.2).c3
        obtain ⟨k11, k12⟩ := (hE.here.2).c2
        go_wp2_with fail
        refine (HcQ.out _ (HT.out.below hE.bel)).mono ?_
        clear k8 k9 k10 k11 k12
        rintro e w13 ⟨sq, Aq, nq, cq, tq, Bq, mq, dq, rfl, hq, hb⟩
        replace hE := hE.step hb
        clear hb
        replace hE := hE.fv hq
        clear hq
        go_upto_region 6 with (fail)
        obtain ⟨g14, hg14⟩ : ∃ g14, g14 = w13.heap.size := ⟨_, rfl⟩
        have hl14_6 : w.heap.size < g14 := by rw [hg14]; exact (hE.here.1.1.2).lt
        have hl14_7 : w.heap.size + 1 < g14 := by rw [hg14]; exact (hE.here.1.2).lt
        replace hE := hE.blk 40 #[.bool sq, .slice Aq nq cq, .bool tq, .slice Bq mq dq] (g := g14) hg14.symm
        generalize w13.alloc (.cells #[.bool sq, .slice Aq nq cq, .bool tq, .slice Bq mq dq] 40) = W14 at hE ⊢
        rw [← hg14]
        clear hg14
        obtain ⟨k15, k16, k17⟩ := (hE.here.1.1.1.2).c3
        obtain ⟨k18, k19⟩ := (hE.here.1.1.2).c2
        go_upto_region 10 with (fail)
        clear k15 k16 k17 k18 k19
        obtain ⟨g20, hg20⟩ : ∃ g20, g20 = W14.heap.size := ⟨_, rfl⟩
        have hl20_6 : w.heap.size < g20 := by rw [hg20]; exact (hE.here.1.1.1.2).lt
        have hl20_7 : w.heap.size + 1 < g20 := by rw [hg20]; exact (hE.here.1.1.2).lt
        have hl20_9 : g14 < g20 := by rw [hg20]; exact (hE.here.2).lt
        replace hE := hE.blk 26 #[.int .i64 (E + m), .int .i64 (Y - m)] (g := g20) hg20.symm
        generalize W14.alloc (.cells #[.int .i64 (E + m), .int .i64 (Y - m)] 26) = W20 at hE ⊢
        rw [← hg20]
        clear hg20
        obtain ⟨k21, k22, k23⟩ := (hE.here.1.1.1.1.2).c3
        obtain ⟨k24, k25⟩ := (hE.here.1.1.1.2).c2
        go_upto_region 13 with (fail)
        clear k21 k22 k23 k24 k25
        replace hE := hE.drew
        refine wp_region_held_drew (S := fun w' => w'.cell? ⟨g14, 0, none⟩ = some (.bool sq) ∧ w'.cell? ⟨g14, 1, none⟩ = some (.slice Aq nq cq) ∧ w'.cell? ⟨g14, 2, none⟩ = some (.bool tq) ∧ w'.cell? ⟨g14, 3, none⟩ = some (.slice Bq mq dq) ∧ w'.cell? ⟨w.heap.size, 0, none⟩ = some (.int .i64 F) ∧ w'.cell? ⟨w.heap.size, 1, none⟩ = some (.int .i64 S) ∧ w'.cell? ⟨w.heap.size, 2, none⟩ = some (.slice (some ⟨b, o, none⟩) n c) ∧ w'.cell? ⟨w.heap.size + 1, 0, none⟩ = some (.int .i64 E) ∧ w'.cell? ⟨w.heap.size + 1, 1, none⟩ = some (.int .i64 Y) ∧ w'.cell? ⟨b, o + (E - F).toNat, none⟩ = some (.slice (some ⟨b2, o2, none⟩) ni ci) ∧ w'.cell? ⟨b2, o2 + Y.toNat * 4, none⟩ = some (.bool hs) ∧ w'.cell? ⟨b2, o2 + Y.toNat * 4 + 1, none⟩ = some (.slice hA hn hc) ∧ w'.cell? ⟨b2, o2 + Y.toNat * 4 + 2, none⟩ = some (.bool ht_) ∧ w'.cell? ⟨b2, o2 + Y.toNat * 4 + 3, none⟩ = some (.slice hD hm hd)) (by kernel_rfl) (⟨(hE.here.1.2).c4.1, (hE.here.1.2).c4.2.1, (hE.here.1.2).c4.2.2.1, (hE.here.1.2).c4.2.2.2, (hE.here.1.1.1.1.2).c3.1, (hE.here.1.1.1.1.2).c3.2.1, (hE.here.1.1.1.1.2).c3.2.2, (hE.here.1.1.1.2).c2.1, (hE.here.1.1.1.2).c2.2, (hE.here.1.1.1.1.1.1.1.1.1.2).2, (hE.here.1.1.1.1.1.1.1.1.2).2, (hE.here.1.1.1.1.1.1.1.2).2, (hE.here.1.1.1.1.1.1.2).2, (hE.here.1.1.1.1.1.2).2⟩) (fun hHeld => ?_)
        refine wpAnyH_take (i := 0) (v := ?v2_0_1) rfl (by kernel_rfl) (by kernel_rfl) (by kernel_rfl) (fun _ _ _ h => h) (Or.inl ⟨by rfl, ?hy2_0_1⟩) (by assumption) ?rest2_0_1
        case hy2_0_1 => intro w hSw; (try dsimp only at hSw); first | (go_simp; done) | (go_simp; with_reducible rfl)
        try simp only [Act.put, List.setIfInBounds_toArray, List.set_cons_zero, List.set_cons_succ, List.getElem_toArray, List.getElem_cons_succ, List.getElem_cons_zero]
        refine wpAnyH_take (i := 1) (v := ?v2_1_2) rfl (by kernel_rfl) (by kernel_rfl) (by kernel_rfl) (fun _ _ _ h => h) (Or.inl ⟨by rfl, ?hy2_1_2⟩) (by assumption) ?rest2_1_2
        case hy2_1_2 => intro w hSw; (try dsimp only at hSw); first | (go_simp; done) | (go_simp; with_reducible rfl)
        try simp only [Act.put, List.setIfInBounds_toArray, List.set_cons_zero, List.set_cons_succ, List.getElem_toArray, List.getElem_cons_succ, List.getElem_cons_zero]
        refine wpAnyH_take (i := 2) (v := ?v2_2_3) rfl (by kernel_rfl) (by kernel_rfl) (by kernel_rfl) (fun _ _ _ h => h) (Or.inl ⟨by rfl, ?hy2_2_3⟩) (by assumption) ?rest2_2_3
        case hy2_2_3 => intro w hSw; (try dsimp only at hSw); first | (go_simp; done) | (go_simp; with_reducible rfl)
        try simp only [Act.put, List.setIfInBounds_toArray, List.set_cons_zero, List.set_cons_succ, List.getElem_toArray, List.getElem_cons_succ, List.getElem_cons_zero]
        refine wpAnyH_take (i := 3) (v := ?v2_3_4) rfl (by kernel_rfl) (by kernel_rfl) (by kernel_rfl) (fun _ _ _ h => h) (Or.inl ⟨by rfl, ?hy2_3_4⟩) (by assumption) ?rest2_3_4
        case hy2_3_4 => intro w hSw; (try dsimp only at hSw); first | (go_simp; done) | (go_simp; with_reducible rfl)
        try simp only [Act.put, List.setIfInBounds_toArray, List.set_cons_zero, List.set_cons_succ, List.getElem_toArray, List.getElem_cons_succ, List.getElem_cons_zero]
        refine wpAnyH_take (i := 4) (v := ?v2_4_5) rfl (by kernel_rfl) (by kernel_rfl) (by kernel_rfl) (fun _ _ _ h => h) (Or.inl ⟨by rfl, ?hy2_4_5⟩) (by assumption) ?rest2_4_5
        case hy2_4_5 => intro w hSw; (try dsimp only at hSw); first | (go_simp; done) | (go_simp; with_reducible rfl)
        try simp only [Act.put, List.setIfInBounds_toArray, List.set_cons_zero, List.set_cons_succ, List.getElem_toArray, List.getElem_cons_succ, List.getElem_cons_zero]
        refine wpAnyH_take (i := 5) (v := ?v2_5_6) rfl (by kernel_rfl) (by kernel_rfl) (by kernel_rfl) (fun _ _ _ h => h) (Or.inl ⟨by rfl, ?hy2_5_6⟩) (by assumption) ?rest2_5_6
        case hy2_5_6 => intro w hSw; (try dsimp only at hSw); first | (go_simp; done) | (go_simp; with_reducible rfl)
        try simp only [Act.put, List.setIfInBounds_toArray, List.set_cons_zero, List.set_cons_succ, List.getElem_toArray, List.getElem_cons_succ, List.getElem_cons_zero]
        refine wpAnyH_take (i := 6) (v := ?v2_6_7) rfl (by kernel_rfl) (by kernel_rfl) (by kernel_rfl) (fun _ _ _ h => h) (Or.inl ⟨by rfl, ?hy2_6_7⟩) (by assumption) ?rest2_6_7
        case hy2_6_7 => intro w hSw; (try dsimp only at hSw); first | (go_simp; done) | (go_simp; with_reducible rfl)
        try simp only [Act.put, List.setIfInBounds_toArray, List.set_cons_zero, List.set_cons_succ, List.getElem_toArray, List.getElem_cons_succ, List.getElem_cons_zero]
        refine wpAnyH_take (i := 7) (v := ?v2_7_8) rfl (by kernel_rfl) (by kernel_rfl) (by kernel_rfl) (fun _ _ _ h => h) (Or.inl ⟨by rfl, ?hy2_7_8⟩) (by assumption) ?rest2_7_8
        case hy2_7_8 => intro w hSw; (try dsimp only at hSw); first | (go_simp; done) | (go_simp; with_reducible rfl)
        try simp only [Act.put, List.setIfInBounds_toArray, List.set_cons_zero, List.set_cons_succ, List.getElem_toArray, List.getElem_cons_succ, List.getElem_cons_zero]
        refine wpAnyH_take (i := 8) (v := ?v2_8_9) rfl (by kernel_rfl) (by kernel_rfl) (by kernel_rfl) (fun _ _ _ h => h) (Or.inl ⟨by rfl, ?hy2_8_9⟩) (by assumption) ?rest2_8_9
        case hy2_8_9 => intro w hSw; (try dsimp only at hSw); first | (go_simp; done) | (go_simp; with_reducible rfl)
        try simp only [Act.put, List.setIfInBounds_toArray, List.set_cons_zero, List.set_cons_succ, List.getElem_toArray, List.getElem_cons_succ, List.getElem_cons_zero]
        refine wpAnyH_take (i := 9) (v := ?v2_9_10) rfl (by kernel_rfl) (by kernel_rfl) (by kernel_rfl) (fun _ _ _ h => h) (Or.inl ⟨by rfl, ?hy2_9_10⟩) (by assumption) ?rest2_9_10
        case hy2_9_10 => intro w hSw; (try dsimp only at hSw); first | (go_simp; done) | (go_simp; with_reducible rfl)
        try simp only [Act.put, List.setIfInBounds_toArray, List.set_cons_zero, List.set_cons_succ, List.getElem_toArray, List.getElem_cons_succ, List.getElem_cons_zero]
        refine wpAnyH_take (i := 10) (v := ?v2_10_11) rfl (by kernel_rfl) (by kernel_rfl) (by kernel_rfl) (fun _ _ _ h => h) (Or.inl ⟨by rfl, ?hy2_10_11⟩) (by assumption) ?rest2_10_11
        case hy2_10_11 => intro w hSw; (try dsimp only at hSw); first | (go_simp; done) | (go_simp; with_reducible rfl)
        try simp only [Act.put, List.setIfInBounds_toArray, List.set_cons_zero, List.set_cons_succ, List.getElem_toArray, List.getElem_cons_succ, List.getElem_cons_zero]
        refine wpAnyH_take (i := 11) (v := ?v2_11_12) rfl (by kernel_rfl) (by kernel_rfl) (by kernel_rfl) (fun _ _ _ h => h) (Or.inl ⟨by rfl, ?hy2_11_12⟩) (by assumption) ?rest2_11_12
        case hy2_11_12 => intro w hSw; (try dsimp only at hSw); first | (go_simp; done) | (go_simp; with_reducible rfl)
        try simp only [Act.put, List.setIfInBounds_toArray, List.set_cons_zero, List.set_cons_succ, List.getElem_toArray, List.getElem_cons_succ, List.getElem_cons_zero]
        refine wpAnyH_take (i := 12) (v := ?v2_12_13) rfl (by kernel_rfl) (by kernel_rfl) (by kernel_rfl) (fun _ _ _ h => h) (Or.inl ⟨by rfl, ?hy2_12_13⟩) (by assumption) ?rest2_12_13
        case hy2_12_13 => intro w hSw; (try dsimp only at hSw); first | (go_simp; done) | (go_simp; with_reducible rfl)
        try simp only [Act.put, List.setIfInBounds_toArray, List.set_cons_zero, List.set_cons_succ, List.getElem_toArray, List.getElem_cons_succ, List.getElem_cons_zero]
        refine wpAnyH_take (i := 13) (v := ?v2_13_14) rfl (by kernel_rfl) (by kernel_rfl) (by kernel_rfl) (fun _ _ _ h => h) (Or.inl ⟨by rfl, ?hy2_13_14⟩) (by assumption) ?rest2_13_14
        case hy2_13_14 => intro w hSw; (try dsimp only at hSw); first | (go_simp; done) | (go_simp; with_reducible rfl)
        try simp only [Act.put, List.setIfInBounds_toArray, List.set_cons_zero, List.set_cons_succ, List.getElem_toArray, List.getElem_cons_succ, List.getElem_cons_zero]
        refine wpAnyH_ready (rs := [14]) (by kernel_rfl) (by simp) (AllReadyH.cons rfl (fun K hK => ?_) (AllReadyH.nil))
        go_simp
        refine (lw_equal (v := true) (ca := cq) (da := dq) (cb := hc) (db := hd) hE.here.1.1.2 hE.here.1.1.1.1.1.1.1.1.1.1.2 (HlQ.out) (HlQ.out) (decide_eq_true rfl)).mono ?_
        rintro e w26 ⟨rfl, hb⟩
        replace hE := hE.step hb
        clear hb
        go_wp2_with fail
        refine hK.out _ _ (⟨(hE.here.1.2).c4.1, (hE.here.1.2).c4.2.1, (hE.here.1.2).c4.2.2.1, (hE.here.1.2).c4.2.2.2, (hE.here.1.1.1.1.2).c3.1, (hE.here.1.1.1.1.2).c3.2.1, (hE.here.1.1.1.1.2).c3.2.2, (hE.here.1.1.1.2).c2.1, (hE.here.1.1.1.2).c2.2, (hE.here.1.1.1.1.1.1.1.1.1.2).2, (hE.here.1.1.1.1.1.1.1.1.2).2, (hE.here.1.1.1.1.1.1.1.2).2, (hE.here.1.1.1.1.1.1.2).2, (hE.here.1.1.1.1.1.2).2⟩) (fun hHeld => ?_)
        clear hK K
        try simp only [Act.put, List.setIfInBounds_toArray, List.set_cons_zero, List.set_cons_succ, List.getElem_toArray, List.getElem_cons_succ, List.getElem_cons_zero]
        refine wpAnyH_take (i := 15) (v := ?v2_15_15) rfl (by kernel_rfl) (by kernel_rfl) (by kernel_rfl) (fun _ _ _ h => h) (Or.inl ⟨by rfl, ?hy2_15_15⟩) (by assumption) ?rest2_15_15
        case hy2_15_15 => intro w hSw; (try dsimp only at hSw); first | (go_simp; done) | (go_simp; with_reducible rfl)
        try simp only [Act.put, List.setIfInBounds_toArray, List.set_cons_zero, List.set_cons_succ, List.getElem_toArray, List.getElem_cons_succ, List.getElem_cons_zero]
        refine wpAnyH_done (by kernel_rfl) ?_ _
        go_wp2_with fail
        go_ret
        exact ⟨rfl, hE.bel⟩
      · have t2 : decide (Y < S) = false := decide_eq_false h2
        by_cases h3 : Y - m < S
        · have t3 : decide (Y - m < S) = true := decide_eq_true h3
          clear hQ h1 h2 h3
          have hE := ((Env.start w).blk 24 #[.int .i64 F, .int .i64 S, .slice A n c] (g := w.heap.size) rfl).blk 26 #[.int .i64 E, .int .i64 Y] (g := w.heap.size + 1) (by simp)
          obtain ⟨W0, hW0⟩ : ∃ W0, W0 = ((w.alloc (.cells #[.int .i64 F, .int .i64 S, .slice A n c] 24)).alloc (.cells #[.int .i64 E, .int .i64 Y] 26)) := ⟨_, rfl⟩
          rw [← hW0] at hE
          have HW0 := Lib.hid hW0
          clear hW0
          go_enter Tryz.func8, Tryz.ntmps8
          go_upto_region 1 with (fail)
          rw [← HW0.out]
          go_wp2_with fail
          refine (awake_t _).mono ?_
          rintro e w1 ⟨rfl, hb⟩
          replace hE := hE.step hb
          clear hb
          obtain ⟨k2, k3, k4⟩ := (hE.here.1.2).c3
          obtain ⟨k5, k6⟩ := (hE.here.2).c2
          go_wp2_with fail
          refine (usable_t (HT.out.below hE.bel) HU.out).mono ?_
          clear k2 k3 k4 k5 k6
          rintro e w7 ⟨rfl, hb⟩
          replace hE := hE.step hb
          clear hb
          obtain ⟨k8, k9, k10⟩ := (hE.here.1.2).c3
          obtain ⟨k11, k12⟩ := (hE.here.2).c2
          go_wp2_with fail
          refine (HcQ.out _ (HT.out.below hE.bel)).mono ?_
          clear k8 k9 k10 k11 k12
          rintro e w13 ⟨sq, Aq, nq, cq, tq, Bq, mq, dq, rfl, hq, hb⟩
          replace hE := hE.step hb
          clear hb
          replace hE := hE.fv hq
          clear hq
          go_upto_region 6 with (fail)
          obtain ⟨g14, hg14⟩ : ∃ g14, g14 = w13.heap.size := ⟨_, rfl⟩
          have hl14_0 : w.heap.size < g14 := by rw [hg14]; exact (hE.here.1.1.2).lt
          have hl14_1 : w.heap.size + 1 < g14 := by rw [hg14]; exact (hE.here.1.2).lt
          replace hE := hE.blk 40 #[.bool sq, .slice Aq nq cq, .bool tq, .slice Bq mq dq] (g := g14) hg14.symm
          generalize w13.alloc (.cells #[.bool sq, .slice Aq nq cq, .bool tq, .slice Bq mq dq] 40) = W14 at hE ⊢
          rw [← hg14]
          clear hg14
          obtain ⟨k15, k16, k17⟩ := (hE.here.1.1.1.2).c3
          obtain ⟨k18, k19⟩ := (hE.here.1.1.2).c2
          go_upto_region 10 with (fail)
          clear k15 k16 k17 k18 k19
          obtain ⟨g20, hg20⟩ : ∃ g20, g20 = W14.heap.size := ⟨_, rfl⟩
          have hl20_0 : w.heap.size < g20 := by rw [hg20]; exact (hE.here.1.1.1.2).lt
          have hl20_1 : w.heap.size + 1 < g20 := by rw [hg20]; exact (hE.here.1.1.2).lt
          have hl20_3 : g14 < g20 := by rw [hg20]; exact (hE.here.2).lt
          replace hE := hE.blk 26 #[.int .i64 (E + m), .int .i64 (Y - m)] (g := g20) hg20.symm
          generalize W14.alloc (.cells #[.int .i64 (E + m), .int .i64 (Y - m)] 26) = W20 at hE ⊢
          rw [← hg20]
          clear hg20
          obtain ⟨k21, k22, k23⟩ := (hE.here.1.1.1.1.2).c3
          obtain ⟨k24, k25⟩ := (hE.here.1.1.1.2).c2
          go_upto_region 14 with (fail)
          clear k21 k22 k23 k24 k25
          obtain ⟨k26, k27, k28⟩ := (hE.here.1.1.1.1.2).c3
          obtain ⟨k29, k30⟩ := (hE.here.2).c2
          go_wp2_with fail
          go_ret
          exact ⟨rfl, hE.bel⟩
        · have t3 : decide (Y - m < S) = false := decide_eq_false h3
          by_cases hR2 : RightP F S n r (E + m) (Y - m)
          · have HR2 := Lib.hid hR2
            have hcR := fun w (h : TabM w A n r) => lRate_v (c := c) h HB.out hR2
            rw [← select_law m h1 h2 h3, ← hQ] at hcR
            have HcR := Lib.hid hcR
            clear hR2 hcR hQ h1 h2 h3
            have hE := ((Env.start w).blk 24 #[.int .i64 F, .int .i64 S, .slice A n c] (g := w.heap.size) rfl).blk 26 #[.int .i64 E, .int .i64 Y] (g := w.heap.size + 1) (by simp)
            obtain ⟨W0, hW0⟩ : ∃ W0, W0 = ((w.alloc (.cells #[.int .i64 F, .int .i64 S, .slice A n c] 24)).alloc (.cells #[.int .i64 E, .int .i64 Y] 26)) := ⟨_, rfl⟩
            rw [← hW0] at hE
            have HW0 := Lib.hid hW0
            clear hW0
            go_enter Tryz.func8, Tryz.ntmps8
            go_upto_region 1 with (fail)
            rw [← HW0.out]
            go_wp2_with fail
            refine (awake_t _).mono ?_
            rintro e w1 ⟨rfl, hb⟩
            replace hE := hE.step hb
            clear hb
            obtain ⟨k2, k3, k4⟩ := (hE.here.1.2).c3
            obtain ⟨k5, k6⟩ := (hE.here.2).c2
            go_wp2_with fail
            refine (usable_t (HT.out.below hE.bel) HU.out).mono ?_
            clear k2 k3 k4 k5 k6
            rintro e w7 ⟨rfl, hb⟩
            replace hE := hE.step hb
            clear hb
            obtain ⟨k8, k9, k10⟩ := (hE.here.1.2).c3
            obtain ⟨k11, k12⟩ := (hE.here.2).c2
            go_wp2_with fail
            refine (HcQ.out _ (HT.out.below hE.bel)).mono ?_
            clear k8 k9 k10 k11 k12
            rintro e w13 ⟨sq, Aq, nq, cq, tq, Bq, mq, dq, rfl, hq, hb⟩
            replace hE := hE.step hb
            clear hb
            replace hE := hE.fv hq
            clear hq
            go_upto_region 6 with (fail)
            obtain ⟨g14, hg14⟩ : ∃ g14, g14 = w13.heap.size := ⟨_, rfl⟩
            have hl14_0 : w.heap.size < g14 := by rw [hg14]; exact (hE.here.1.1.2).lt
            have hl14_1 : w.heap.size + 1 < g14 := by rw [hg14]; exact (hE.here.1.2).lt
            replace hE := hE.blk 40 #[.bool sq, .slice Aq nq cq, .bool tq, .slice Bq mq dq] (g := g14) hg14.symm
            generalize w13.alloc (.cells #[.bool sq, .slice Aq nq cq, .bool tq, .slice Bq mq dq] 40) = W14 at hE ⊢
            rw [← hg14]
            clear hg14
            obtain ⟨k15, k16, k17⟩ := (hE.here.1.1.1.2).c3
            obtain ⟨k18, k19⟩ := (hE.here.1.1.2).c2
            go_upto_region 10 with (fail)
            clear k15 k16 k17 k18 k19
            obtain ⟨g20, hg20⟩ : ∃ g20, g20 = W14.heap.size := ⟨_, rfl⟩
            have hl20_0 : w.heap.size < g20 := by rw [hg20]; exact (hE.here.1.1.1.2).lt
            have hl20_1 : w.heap.size + 1 < g20 := by rw [hg20]; exact (hE.here.1.1.2).lt
            have hl20_3 : g14 < g20 := by rw [hg20]; exact (hE.here.2).lt
            replace hE := hE.blk 26 #[.int .i64 (E + m), .int .i64 (Y - m)] (g := g20) hg20.symm
            generalize W14.alloc (.cells #[.int .i64 (E + m), .int .i64 (Y - m)] 26) = W20 at hE ⊢
            rw [← hg20]
            clear hg20
            obtain ⟨k21, k22, k23⟩ := (hE.here.1.1.1.1.2).c3
            obtain ⟨k24, k25⟩ := (hE.here.1.1.1.2).c2
            go_upto_region 14 with (fail)
            clear k21 k22 k23 k24 k25
            obtain ⟨k26, k27, k28⟩ := (hE.here.1.1.1.1.2).c3
            obtain ⟨k29, k30⟩ := (hE.here.2).c2
            go_wp2_with fail
            refine (lright_t (HT.out.below hE.bel) HB.out HR2.out).mono ?_
            clear k26 k27 k28 k29 k30
            rintro e w31 ⟨rfl, hb⟩
            replace hE := hE.step hb
            clear hb
            obtain ⟨k32, k33, k34⟩ := (hE.here.1.1.1.1.2).c3
            obtain ⟨k35, k36⟩ := (hE.here.2).c2
            go_wp2_with fail
            refine (HcR.out _ (HT.out.below hE.bel)).mono ?_
            clear k32 k33 k34 k35 k36
            rintro e w37 ⟨sv, Av, nv, cv, tv, Bv, mv, dv, rfl, hv, hb⟩
            replace hE := hE.step hb
            clear hb
            replace hE := hE.fv hv
            clear hv
            go_upto_region 17 with (fail)
            obtain ⟨g38, hg38⟩ : ∃ g38, g38 = w37.heap.size := ⟨_, rfl⟩
            have hl38_0 : w.heap.size < g38 := by rw [hg38]; exact (hE.here.1.1.1.1.1.2).lt
            have hl38_1 : w.heap.size + 1 < g38 := by rw [hg38]; exact (hE.here.1.1.1.1.2).lt
            have hl38_3 : g14 < g38 := by rw [hg38]; exact (hE.here.1.1.2).lt
            have hl38_4 : g20 < g38 := by rw [hg38]; exact (hE.here.1.2).lt
            replace hE := hE.blk 40 #[.bool sv, .slice Av nv cv, .bool tv, .slice Bv mv dv] (g := g38) hg38.symm
            generalize w37.alloc (.cells #[.bool sv, .slice Av nv cv, .bool tv, .slice Bv mv dv] 40) = W38 at hE ⊢
            rw [← hg38]
            clear hg38
            obtain ⟨k39, k40, k41, k42⟩ := (hE.here.1.1.1.2).c4
            obtain ⟨k43, k44, k45, k46⟩ := (hE.here.2).c4
            go_wp2_with fail
            refine (lw_equal (v := true) (ca := cq) (da := dq) (cb := cv) (db := dv) hE.here.1.1.1.1.2 hE.here.1.2 (HlQ.out) (HlQ.out) (decide_eq_true rfl)).mono ?_
            clear k39 k40 k41 k42 k43 k44 k45 k46
            rintro e w47 ⟨rfl, hb⟩
            replace hE := hE.step hb
            clear hb
            go_wp2_with fail
            go_ret
            exact ⟨rfl, hE.bel⟩
          · have HR2 := Lib.hid hR2
            clear hR2 hQ h1 h2 h3
            have hE := ((Env.start w).blk 24 #[.int .i64 F, .int .i64 S, .slice A n c] (g := w.heap.size) rfl).blk 26 #[.int .i64 E, .int .i64 Y] (g := w.heap.size + 1) (by simp)
            obtain ⟨W0, hW0⟩ : ∃ W0, W0 = ((w.alloc (.cells #[.int .i64 F, .int .i64 S, .slice A n c] 24)).alloc (.cells #[.int .i64 E, .int .i64 Y] 26)) := ⟨_, rfl⟩
            rw [← hW0] at hE
            have HW0 := Lib.hid hW0
            clear hW0
            go_enter Tryz.func8, Tryz.ntmps8
            go_upto_region 1 with (fail)
            rw [← HW0.out]
            go_wp2_with fail
            refine (awake_t _).mono ?_
            rintro e w1 ⟨rfl, hb⟩
            replace hE := hE.step hb
            clear hb
            obtain ⟨k2, k3, k4⟩ := (hE.here.1.2).c3
            obtain ⟨k5, k6⟩ := (hE.here.2).c2
            go_wp2_with fail
            refine (usable_t (HT.out.below hE.bel) HU.out).mono ?_
            clear k2 k3 k4 k5 k6
            rintro e w7 ⟨rfl, hb⟩
            replace hE := hE.step hb
            clear hb
            obtain ⟨k8, k9, k10⟩ := (hE.here.1.2).c3
            obtain ⟨k11, k12⟩ := (hE.here.2).c2
            go_wp2_with fail
            refine (HcQ.out _ (HT.out.below hE.bel)).mono ?_
            clear k8 k9 k10 k11 k12
            rintro e w13 ⟨sq, Aq, nq, cq, tq, Bq, mq, dq, rfl, hq, hb⟩
            replace hE := hE.step hb
            clear hb
            replace hE := hE.fv hq
            clear hq
            go_upto_region 6 with (fail)
            obtain ⟨g14, hg14⟩ : ∃ g14, g14 = w13.heap.size := ⟨_, rfl⟩
            have hl14_0 : w.heap.size < g14 := by rw [hg14]; exact (hE.here.1.1.2).lt
            have hl14_1 : w.heap.size + 1 < g14 := by rw [hg14]; exact (hE.here.1.2).lt
            replace hE := hE.blk 40 #[.bool sq, .slice Aq nq cq, .bool tq, .slice Bq mq dq] (g := g14) hg14.symm
            generalize w13.alloc (.cells #[.bool sq, .slice Aq nq cq, .bool tq, .slice Bq mq dq] 40) = W14 at hE ⊢
            rw [← hg14]
            clear hg14
            obtain ⟨k15, k16, k17⟩ := (hE.here.1.1.1.2).c3
            obtain ⟨k18, k19⟩ := (hE.here.1.1.2).c2
            go_upto_region 10 with (fail)
            clear k15 k16 k17 k18 k19
            obtain ⟨g20, hg20⟩ : ∃ g20, g20 = W14.heap.size := ⟨_, rfl⟩
            have hl20_0 : w.heap.size < g20 := by rw [hg20]; exact (hE.here.1.1.1.2).lt
            have hl20_1 : w.heap.size + 1 < g20 := by rw [hg20]; exact (hE.here.1.1.2).lt
            have hl20_3 : g14 < g20 := by rw [hg20]; exact (hE.here.2).lt
            replace hE := hE.blk 26 #[.int .i64 (E + m), .int .i64 (Y - m)] (g := g20) hg20.symm
            generalize W14.alloc (.cells #[.int .i64 (E + m), .int .i64 (Y - m)] 26) = W20 at hE ⊢
            rw [← hg20]
            clear hg20
            obtain ⟨k21, k22, k23⟩ := (hE.here.1.1.1.1.2).c3
            obtain ⟨k24, k25⟩ := (hE.here.1.1.1.2).c2
            go_upto_region 14 with (fail)
            clear k21 k22 k23 k24 k25
            obtain ⟨k26, k27, k28⟩ := (hE.here.1.1.1.1.2).c3
            obtain ⟨k29, k30⟩ := (hE.here.2).c2
            go_wp2_with fail
            refine (lright_f (HT.out.below hE.bel) HB.out HR2.out).mono ?_
            clear k26 k27 k28 k29 k30
            rintro e w31 ⟨rfl, hb⟩
            replace hE := hE.step hb
            clear hb
            go_wp2_with fail
            go_ret
            exact ⟨rfl, hE.bel⟩
  · have HU := Lib.hid hU
    clear hU
    have hE := ((Env.start w).blk 24 #[.int .i64 F, .int .i64 S, .slice A n c] (g := w.heap.size) rfl).blk 26 #[.int .i64 E, .int .i64 Y] (g := w.heap.size + 1) (by simp)
    obtain ⟨W0, hW0⟩ : ∃ W0, W0 = ((w.alloc (.cells #[.int .i64 F, .int .i64 S, .slice A n c] 24)).alloc (.cells #[.int .i64 E, .int .i64 Y] 26)) := ⟨_, rfl⟩
    rw [← hW0] at hE
    have HW0 := Lib.hid hW0
    clear hW0
    go_enter Tryz.func8, Tryz.ntmps8
    go_upto_region 1 with (fail)
    rw [← HW0.out]
    go_wp2_with fail
    refine (awake_t _).mono ?_
    rintro e w1 ⟨rfl, hb⟩
    replace hE := hE.step hb
    clear hb
    obtain ⟨k2, k3, k4⟩ := (hE.here.1.2).c3
    obtain ⟨k5, k6⟩ := (hE.here.2).c2
    go_wp2_with fail
    refine (usable_f (HT.out.below hE.bel) HU.out).mono ?_
    clear k2 k3 k4 k5 k6
    rintro e w7 ⟨rfl, hb⟩
    replace hE := hE.step hb
    clear hb
    go_wp2_with fail
    go_ret
    exact ⟨rfl, hE.bel⟩
end Go.Proofs.YtgkepllfdhcdpaaGreat
