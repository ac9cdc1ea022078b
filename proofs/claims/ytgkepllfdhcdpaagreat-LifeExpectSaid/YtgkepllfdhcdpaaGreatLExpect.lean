/-
  The walk of LifeExpect.
-/
import Derived.Test.YtgkepllfdhcdpaaGreatK14
namespace Go.Proofs.YtgkepllfdhcdpaaGreat
open Go.RowKit


theorem smr1_fl {f : Nat → Rat} {n k : Nat} (h : Rts f n) (hk : k ≤ n) (h9 : k ≤ 900) : fl (1 + smr f k) ≤ k + 1 := by
  obtain ⟨h1, h2⟩ := smr_01 h k hk
  refine fl_bound (dpr_pos f k) (((Dv.int 1).more (Nat.one_dvd _)).add (smr_dv f k)) (M := 1001) (by grind) ?_ (by decide) ((ln_le b16_two).2 ?_)
  · have : (k : Rat) ≤ (900 : Rat) := by exact_mod_cast (show k ≤ 900 by omega)
    grind
  · rw [Nat.pow_succ]
    have h3 := dpr_lt h k hk
    have hp : 0 < b16 ^ k := Nat.pow_pos (by decide)
    have h4 : b16 ^ k * 1002 ≤ b16 ^ k * b16 := Nat.mul_le_mul_left _ (by decide)
    omega
theorem fr_later (F S : Int) (n : Nat) (r : Nat → RH) (E Y : Int) (m : Nat) : fr F S n r E (Y + (m : Int)) = fun i => fr F S n r E Y (m + i) := by
  funext i
  exact rt_later F S n r E Y m i
/-- The plain law of LifeExpect. -/
theorem expect_law {F S E Y : Int} {A : Option Addr} {n : Nat} {r : Nat → RH} {w : World} (hT : TabM w A n r) (hR : RightP F S n r E Y) (hR2 : RightP F S n r E (Y + 1)) :
    smr (fr F S n r E Y) 112 = pr (fr F S n r E Y) 1 * (1 + smr (fr F S n r E (Y + 1)) 111) ∧ fl (smr (fr F S n r E Y) 112) ≤ 256 ∧ fl (smr (fr F S n r E (Y + 1)) 111) ≤ 256 ∧ fl (pr (fr F S n r E Y) 1) ≤ 256 ∧ fl (1 + smr (fr F S n r E (Y + 1)) 111) ≤ 256 := by
  have h1 := rt_rates hT hR 200
  have h2 := rt_rates hT hR2 200
  refine ⟨?_, Nat.le_trans (smr_fl h1 (k := 112) (by decide) (by decide)) (by decide), Nat.le_trans (smr_fl h2 (k := 111) (by decide) (by decide)) (by decide), Nat.le_trans (pr_fl h1 (k := 1) (by decide)) (by decide), Nat.le_trans (smr1_fl h2 (k := 111) (by decide) (by decide)) (by decide)⟩
  have h3 := smr_first (fr F S n r E Y) 111
  have h4 := fr_later F S n r E Y 1
  rw [show Y + ((1 : Nat) : Int) = Y + 1 from rfl] at h4
  rw [h4]
  exact h3
set_option linter.unusedSimpArgs false in
set_option maxRecDepth 100000 in
set_option maxHeartbeats 8000000 in
theorem lexpect_walk (F S E Y : Int) (A : Option Addr) (n c : Nat) (r : Nat → RH) (w : World) (hT : TabM w A n r) :
    Calls Tryz.prog 9 #[.agg #[.int .i64 F, .int .i64 S, .slice A n c], .agg #[.int .i64 E, .int .i64 Y]] w fun e w' => e = .returned (.bool true) ∧ Below w.heap.size w w' := by
  have HT := Lib.hid hT
  clear hT
  by_cases hU : TabS n r 25 8 2 ∧ RightP F S n r E Y
  · have HU := Lib.hid hU
    have HB := Lib.hid (hU.1.b (by decide) (by decide) (by decide))
    clear hU
    by_cases hR2 : RightP F S n r E (Y + 1)
    · have HR2 := Lib.hid hR2
      clear hR2
      have hE := ((Env.start w).blk 24 #[.int .i64 F, .int .i64 S, .slice A n c] (g := w.heap.size) rfl).blk 26 #[.int .i64 E, .int .i64 Y] (g := w.heap.size + 1) (by simp)
      obtain ⟨W0, hW0⟩ : ∃ W0, W0 = ((w.alloc (.cells #[.int .i64 F, .int .i64 S, .slice A n c] 24)).alloc (.cells #[.int .i64 E, .int .i64 Y] 26)) := ⟨_, rfl⟩
      rw [← hW0] at hE
      have HW0 := Lib.hid hW0
      clear hW0
      go_enter Tryz.func9, Tryz.ntmps9
      go_upto_region 1 with (fail)
      rw [← HW0.out]
      go_wp2_with fail
      refine (awake_t _).mono ?_
      rintro e w1 ⟨rfl, hb⟩
      replace hE := hE.step hb
      clear hb
      go_upto_region 3 with (fail)
      obtain ⟨QA, hQA⟩ : ∃ q, q = smr (fr F S n r E Y) 112 := ⟨_, rfl⟩
      obtain ⟨QB, hQB⟩ : ∃ q, q = smr (fr F S n r E (Y + 1)) 111 := ⟨_, rfl⟩
      obtain ⟨QP, hQP⟩ : ∃ q, q = pr (fr F S n r E Y) 1 := ⟨_, rfl⟩
      obtain ⟨heq, la, lb, lp, ls⟩ := expect_law HT.out HU.out.2 HR2.out
      rw [← hQA, ← hQB, ← hQP] at heq
      rw [← hQA] at la
      rw [← hQB] at lb ls
      rw [← hQP] at lp
      have lm : fl (QP * (1 + QB)) ≤ 256 := by rw [← heq]; exact la
      have HhQA := Lib.hid hQA
      clear hQA
      have HhQB := Lib.hid hQB
      clear hQB
      have HhQP := Lib.hid hQP
      clear hQP
      have Hheq := Lib.hid heq
      clear heq
      have Hla := Lib.hid la
      clear la
      have Hlb := Lib.hid lb
      clear lb
      have Hlp := Lib.hid lp
      clear lp
      have Hls := Lib.hid ls
      clear ls
      have Hlm := Lib.hid lm
      clear lm
      replace hE := hE.drew
      refine wp_region_held_drew (S := fun w' => w'.cell? ⟨w.heap.size, 0, none⟩ = some (.int .i64 F) ∧ w'.cell? ⟨w.heap.size, 1, none⟩ = some (.int .i64 S) ∧ w'.cell? ⟨w.heap.size, 2, none⟩ = some (.slice A n c) ∧ w'.cell? ⟨w.heap.size + 1, 0, none⟩ = some (.int .i64 E) ∧ w'.cell? ⟨w.heap.size + 1, 1, none⟩ = some (.int .i64 Y)) (by kernel_rfl) (⟨(hE.here.1.2).c3.1, (hE.here.1.2).c3.2.1, (hE.here.1.2).c3.2.2, (hE.here.2).c2.1, (hE.here.2).c2.2⟩) (fun hHeld => ?_)
      refine wpAnyH_take (i := 0) (v := ?v3_0_1) rfl (by kernel_rfl) (by kernel_rfl) (by kernel_rfl) (fun _ _ _ h => h) (Or.inl ⟨by rfl, ?hy3_0_1⟩) (by assumption) ?rest3_0_1
      case hy3_0_1 => intro w hSw; (try dsimp only at hSw); first | (go_simp; done) | (go_simp; with_reducible rfl)
      try simp only [Act.put, List.setIfInBounds_toArray, List.set_cons_zero, List.set_cons_succ, List.getElem_toArray, List.getElem_cons_succ, List.getElem_cons_zero]
      refine wpAnyH_take (i := 1) (v := ?v3_1_2) rfl (by kernel_rfl) (by kernel_rfl) (by kernel_rfl) (fun _ _ _ h => h) (Or.inl ⟨by rfl, ?hy3_1_2⟩) (by assumption) ?rest3_1_2
      case hy3_1_2 => intro w hSw; (try dsimp only at hSw); first | (go_simp; done) | (go_simp; with_reducible rfl)
      try simp only [Act.put, List.setIfInBounds_toArray, List.set_cons_zero, List.set_cons_succ, List.getElem_toArray, List.getElem_cons_succ, List.getElem_cons_zero]
      refine wpAnyH_ready (rs := [2]) (by kernel_rfl) (by simp) (AllReadyH.cons rfl (fun K hK => ?_) (AllReadyH.nil))
      go_simp
      refine (usable_t (HT.out.below hE.bel) HU.out).mono ?_
      rintro e w2 ⟨rfl, hb⟩
      replace hE := hE.step hb
      clear hb
      go_wp2_with fail
      refine hK.out _ _ (⟨(hE.here.1.2).c3.1, (hE.here.1.2).c3.2.1, (hE.here.1.2).c3.2.2, (hE.here.2).c2.1, (hE.here.2).c2.2⟩) (fun hHeld => ?_)
      clear hK K
      try simp only [Act.put, List.setIfInBounds_toArray, List.set_cons_zero, List.set_cons_succ, List.getElem_toArray, List.getElem_cons_succ, List.getElem_cons_zero]
      refine wpAnyH_take (i := 3) (v := ?v3_3_3) rfl (by kernel_rfl) (by kernel_rfl) (by kernel_rfl) (fun _ _ _ h => h) (Or.inl ⟨by rfl, ?hy3_3_3⟩) (by assumption) ?rest3_3_3
      case hy3_3_3 => intro w hSw; (try dsimp only at hSw); first | (go_simp; done) | (go_simp; with_reducible rfl)
      try simp only [Act.put, List.setIfInBounds_toArray, List.set_cons_zero, List.set_cons_succ, List.getElem_toArray, List.getElem_cons_succ, List.getElem_cons_zero]
      refine wpAnyH_take (i := 4) (v := ?v3_4_4) rfl (by kernel_rfl) (by kernel_rfl) (by kernel_rfl) (fun _ _ _ h => h) (Or.inl ⟨by rfl, ?hy3_4_4⟩) (by assumption) ?rest3_4_4
      case hy3_4_4 => intro w hSw; (try dsimp only at hSw); first | (go_simp; done) | (go_simp; with_reducible rfl)
      try simp only [Act.put, List.setIfInBounds_toArray, List.set_cons_zero, List.set_cons_succ, List.getElem_toArray, List.getElem_cons_succ, List.getElem_cons_zero]
      refine wpAnyH_take (i := 5) (v := ?v3_5_5) rfl (by kernel_rfl) (by kernel_rfl) (by kernel_rfl) (fun _ _ _ h => h) (Or.inl ⟨by rfl, ?hy3_5_5⟩) (by assumption) ?rest3_5_5
      case hy3_5_5 => intro w hSw; (try dsimp only at hSw); first | (go_simp; done) | (go_simp; with_reducible rfl)
      try simp only [Act.put, List.setIfInBounds_toArray, List.set_cons_zero, List.set_cons_succ, List.getElem_toArray, List.getElem_cons_succ, List.getElem_cons_zero]
      refine wpAnyH_take (i := 6) (v := ?v3_6_6) rfl (by kernel_rfl) (by kernel_rfl) (by kernel_rfl) (fun _ _ _ h => h) (Or.inl ⟨by rfl, ?hy3_6_6⟩) (by assumption) ?rest3_6_6
      case hy3_6_6 => intro w hSw; (try dsimp only at hSw); first | (go_simp; done) | (go_simp; with_reducible rfl)
      try simp only [Act.put, List.setIfInBounds_toArray, List.set_cons_zero, List.set_cons_succ, List.getElem_toArray, List.getElem_cons_succ, List.getElem_cons_zero]
      refine wpAnyH_ready (rs := [7]) (by kernel_rfl) (by simp) (AllReadyH.cons rfl (fun K hK => ?_) (AllReadyH.nil))
      go_simp
      obtain ⟨y0, y300⟩ : 0 ≤ Y ∧ Y ≤ 300 := HU.out.2.2.2.2
      refine (later_v E Y 1 _ y0 (by omega) (by decide) (by decide)).mono ?_
      rintro e w3 ⟨rfl, hb⟩
      replace hE := hE.step hb
      clear hb
      clear y0 y300
      go_wp2_with fail
      refine hK.out _ _ (⟨(hE.here.1.2).c3.1, (hE.here.1.2).c3.2.1, (hE.here.1.2).c3.2.2, (hE.here.2).c2.1, (hE.here.2).c2.2⟩) (fun hHeld => ?_)
      clear hK K
      try simp only [Act.put, List.setIfInBounds_toArray, List.set_cons_zero, List.set_cons_succ, List.getElem_toArray, List.getElem_cons_succ, List.getElem_cons_zero]
      refine wpAnyH_ready (rs := [8]) (by kernel_rfl) (by simp) (AllReadyH.cons rfl (fun K hK => ?_) (AllReadyH.nil))
      go_simp
      refine (lright_t (HT.out.below hE.bel) HB.out HR2.out).mono ?_
      rintro e w4 ⟨rfl, hb⟩
      replace hE := hE.step hb
      clear hb
      go_wp2_with fail
      refine hK.out _ _ (⟨(hE.here.1.2).c3.1, (hE.here.1.2).c3.2.1, (hE.here.1.2).c3.2.2, (hE.here.2).c2.1, (hE.here.2).c2.2⟩) (fun hHeld => ?_)
      clear hK K
      try simp only [Act.put, List.setIfInBounds_toArray, List.set_cons_zero, List.set_cons_succ, List.getElem_toArray, List.getElem_cons_succ, List.getElem_cons_zero]
      refine wpAnyH_take (i := 9) (v := ?v3_9_7) rfl (by kernel_rfl) (by kernel_rfl) (by kernel_rfl) (fun _ _ _ h => h) (Or.inl ⟨by rfl, ?hy3_9_7⟩) (by assumption) ?rest3_9_7
      case hy3_9_7 => intro w hSw; (try dsimp only at hSw); first | (go_simp; done) | (go_simp; with_reducible rfl)
      try simp only [Act.put, List.setIfInBounds_toArray, List.set_cons_zero, List.set_cons_succ, List.getElem_toArray, List.getElem_cons_succ, List.getElem_cons_zero]
      refine wpAnyH_take (i := 10) (v := ?v3_10_8) rfl (by kernel_rfl) (by kernel_rfl) (by kernel_rfl) (fun _ _ _ h => h) (Or.inl ⟨by rfl, ?hy3_10_8⟩) (by assumption) ?rest3_10_8
      case hy3_10_8 => intro w hSw; (try dsimp only at hSw); first | (go_simp; done) | (go_simp; with_reducible rfl)
      try simp only [Act.put, List.setIfInBounds_toArray, List.set_cons_zero, List.set_cons_succ, List.getElem_toArray, List.getElem_cons_succ, List.getElem_cons_zero]
      refine wpAnyH_done (by kernel_rfl) ?_ _
      go_upto_region 5 with (fail)
      obtain ⟨k5, k6, k7⟩ := (hE.here.1.2).c3
      obtain ⟨k8, k9⟩ := (hE.here.2).c2
      go_wp2_with fail
      refine ((HhQA.out ▸ lExpect_v (HT.out.below hE.bel) HB.out HU.out.2 112 (by decide) : Calls _ _ _ _ (FOK QA _))).mono ?_
      clear k5 k6 k7 k8 k9
      rintro e w10 ⟨sa, Aa, na, ca, ta, Ba, ma, da, rfl, ha, hb⟩
      replace hE := hE.step hb
      clear hb
      replace hE := hE.fv ha
      clear ha
      go_upto_region 6 with (fail)
      obtain ⟨g11, hg11⟩ : ∃ g11, g11 = w10.heap.size := ⟨_, rfl⟩
      have hl11_0 : w.heap.size < g11 := by rw [hg11]; exact (hE.here.1.1.2).lt
      have hl11_1 : w.heap.size + 1 < g11 := by rw [hg11]; exact (hE.here.1.2).lt
      replace hE := hE.blk 40 #[.bool sa, .slice Aa na ca, .bool ta, .slice Ba ma da] (g := g11) hg11.symm
      generalize w10.alloc (.cells #[.bool sa, .slice Aa na ca, .bool ta, .slice Ba ma da] 40) = W11 at hE ⊢
      rw [← hg11]
      clear hg11
      go_cut [7, 8] from 30 to 36 (fun p q wx => ∃ G6 sb Ab nb cb tb Bb mb db, p = .pointer (some ⟨G6, 0, none⟩) ∧ q = .int .i64 0 ∧ Env w (fun V => ((((((True ∧ Blk 24 (w.heap.size) #[.int .i64 F, .int .i64 S, .slice A n c] V) ∧ Blk 26 (w.heap.size + 1) #[.int .i64 E, .int .i64 Y] V) ∧ FV V QA sa Aa na ta Ba ma) ∧ Blk 40 (g11) #[.bool sa, .slice Aa na ca, .bool ta, .slice Ba ma da] V) ∧ FV V QB sb Ab nb tb Bb mb) ∧ Blk 40 (G6) #[.bool sb, .slice Ab nb cb, .bool tb, .slice Bb mb db] V)) wx)
      case first =>
        replace hE := hE.drew
        refine wp_region_held_drew (S := fun w' => w'.cell? ⟨w.heap.size, 0, none⟩ = some (.int .i64 F) ∧ w'.cell? ⟨w.heap.size, 1, none⟩ = some (.int .i64 S) ∧ w'.cell? ⟨w.heap.size, 2, none⟩ = some (.slice A n c) ∧ w'.cell? ⟨w.heap.size + 1, 0, none⟩ = some (.int .i64 E) ∧ w'.cell? ⟨w.heap.size + 1, 1, none⟩ = some (.int .i64 Y)) (by kernel_rfl) (⟨(hE.here.1.1.1.2).c3.1, (hE.here.1.1.1.2).c3.2.1, (hE.here.1.1.1.2).c3.2.2, (hE.here.1.1.2).c2.1, (hE.here.1.1.2).c2.2⟩) (fun hHeld => ?_)
        generalize W11.drew = wd at *
        refine wpAnyH_take (i := 0) (v := ?v4_0_1) rfl (by kernel_rfl) (by kernel_rfl) (by kernel_rfl) (fun _ _ _ h => h) (Or.inl ⟨by rfl, ?hy4_0_1⟩) (by assumption) ?rest4_0_1
        case hy4_0_1 => intro w hSw; (try dsimp only at hSw); first | (go_simp; done) | (go_simp; with_reducible rfl)
        try simp only [Act.put, List.setIfInBounds_toArray, List.set_cons_zero, List.set_cons_succ, List.getElem_toArray, List.getElem_cons_succ, List.getElem_cons_zero]
        refine wpAnyH_take (i := 1) (v := ?v4_1_2) rfl (by kernel_rfl) (by kernel_rfl) (by kernel_rfl) (fun _ _ _ h => h) (Or.inl ⟨by rfl, ?hy4_1_2⟩) (by assumption) ?rest4_1_2
        case hy4_1_2 => intro w hSw; (try dsimp only at hSw); first | (go_simp; done) | (go_simp; with_reducible rfl)
        try simp only [Act.put, List.setIfInBounds_toArray, List.set_cons_zero, List.set_cons_succ, List.getElem_toArray, List.getElem_cons_succ, List.getElem_cons_zero]
        refine wpAnyH_ready (rs := [2, 7]) (by kernel_rfl) (by simp) (AllReadyH.cons rfl (fun K hK => ?_) (AllReadyH.cons rfl (fun K hK => ?_) (AllReadyH.nil)))
        · skip
          go_simp
          obtain ⟨y0, y300⟩ : 0 ≤ Y ∧ Y ≤ 300 := HU.out.2.2.2.2
          refine (later_v E Y 1 _ y0 (by omega) (by decide) (by decide)).mono ?_
          rintro e w12 ⟨rfl, hb⟩
          replace hE := hE.step hb
          clear hb
          clear y0 y300
          go_wp2_with fail
          refine hK.out _ _ (⟨(hE.here.1.1.1.2).c3.1, (hE.here.1.1.1.2).c3.2.1, (hE.here.1.1.1.2).c3.2.2, (hE.here.1.1.2).c2.1, (hE.here.1.1.2).c2.2⟩) (fun hHeld => ?_)
          clear hK K
          try simp only [Act.put, List.setIfInBounds_toArray, List.set_cons_zero, List.set_cons_succ, List.getElem_toArray, List.getElem_cons_succ, List.getElem_cons_zero]
          refine wpAnyH_ready (rs := [3, 7]) (by kernel_rfl) (by simp) (AllReadyH.cons rfl (fun K hK => ?_) (AllReadyH.cons rfl (fun K hK => ?_) (AllReadyH.nil)))
          · skip
            go_simp
            refine ((HhQB.out ▸ lExpect_v (HT.out.below hE.bel) HB.out HR2.out 111 (by decide) : Calls _ _ _ _ (FOK QB _))).mono ?_
            rintro e w13 ⟨sb, Ab, nb, cb, tb, Bb, mb, db, rfl, hb, hb⟩
            replace hE := hE.step hb
            clear hb
            replace hE := hE.fv hb
            clear hb
            go_wp2_with fail
            refine hK.out _ _ (⟨(hE.here.1.1.1.1.2).c3.1, (hE.here.1.1.1.1.2).c3.2.1, (hE.here.1.1.1.1.2).c3.2.2, (hE.here.1.1.1.2).c2.1, (hE.here.1.1.1.2).c2.2⟩) (fun hHeld => ?_)
            clear hK K
            try simp only [Act.put, List.setIfInBounds_toArray, List.set_cons_zero, List.set_cons_succ, List.getElem_toArray, List.getElem_cons_succ, List.getElem_cons_zero]
            refine wpAnyH_take (i := 4) (v := ?v4_4_3) rfl (by kernel_rfl) (by kernel_rfl) (by kernel_rfl) (fun _ _ _ h => h) (Or.inl ⟨by rfl, ?hy4_4_3⟩) (by assumption) ?rest4_4_3
            case hy4_4_3 => intro w hSw; (try dsimp only at hSw); first | (go_simp; done) | (go_simp; with_reducible rfl)
            try simp only [Act.put, List.setIfInBounds_toArray, List.set_cons_zero, List.set_cons_succ, List.getElem_toArray, List.getElem_cons_succ, List.getElem_cons_zero]
            refine wpAnyH_take (i := 5) (v := ?v4_5_4) rfl (by kernel_rfl) (by kernel_rfl) (by kernel_rfl) (fun _ _ _ h => h) (Or.inl ⟨by rfl, ?hy4_5_4⟩) (by assumption) ?rest4_5_4
            case hy4_5_4 => intro w hSw; (try dsimp only at hSw); first | (go_simp; done) | (go_simp; with_reducible rfl)
            try simp only [Act.put, List.setIfInBounds_toArray, List.set_cons_zero, List.set_cons_succ, List.getElem_toArray, List.getElem_cons_succ, List.getElem_cons_zero]
            refine wpAnyH_take (i := 6) (v := ?v4_6_5) rfl (by kernel_rfl) (by kernel_rfl) (by kernel_rfl) (fun _ _ _ h => h) (Or.inl ⟨by rfl, ?hy4_6_5⟩) (by assumption) ?rest4_6_5
            case hy4_6_5 => intro w hSw; (try dsimp only at hSw); first | (go_simp; done) | (go_simp; with_reducible rfl)
            try simp only [Act.put, List.setIfInBounds_toArray, List.set_cons_zero, List.set_cons_succ, List.getElem_toArray, List.getElem_cons_succ, List.getElem_cons_zero]
            refine wpAnyH_ready (rs := [7]) (by kernel_rfl) (by simp) (AllReadyH.cons rfl (fun K hK => ?_) (AllReadyH.nil))
            go_simp
            obtain ⟨g14, hg14⟩ : ∃ g14, g14 = w13.heap.size := ⟨_, rfl⟩
            have hl14_0 : w.heap.size < g14 := by rw [hg14]; exact (hE.here.1.1.1.1.2).lt
            have hl14_1 : w.heap.size + 1 < g14 := by rw [hg14]; exact (hE.here.1.1.1.2).lt
            have hl14_3 : g11 < g14 := by rw [hg14]; exact (hE.here.1.2).lt
            replace hE := hE.blk 40 #[.bool false, .slice none 0 0, .bool false, .slice none 0 0] (g := g14) hg14.symm
            generalize w13.alloc (.cells #[.bool false, .slice none 0 0, .bool false, .slice none 0 0] 40) = W14 at hE ⊢
            rw [← hg14]
            clear hg14
            refine hK.out _ _ (⟨(hE.here.1.1.1.1.1.2).c3.1, (hE.here.1.1.1.1.1.2).c3.2.1, (hE.here.1.1.1.1.1.2).c3.2.2, (hE.here.1.1.1.1.2).c2.1, (hE.here.1.1.1.1.2).c2.2⟩) (fun hHeld => ?_)
            clear hK K
            try simp only [Act.put, List.setIfInBounds_toArray, List.set_cons_zero, List.set_cons_succ, List.getElem_toArray, List.getElem_cons_succ, List.getElem_cons_zero]
            refine wpAnyH_ready (rs := [8]) (by kernel_rfl) (by simp) (AllReadyH.cons rfl (fun K hK => ?_) (AllReadyH.nil))
            have hgl15 : w.heap.size ≤ g14 := by omega
            obtain ⟨x15_0, x15_1, x15_2, x15_3⟩ := (hE.here.2).c4
            have f15_0 := (hE.here.2).frozen 0
            have f15_1 := (hE.here.2).frozen 1
            have f15_2 := (hE.here.2).frozen 2
            have f15_3 := (hE.here.2).frozen 3
            replace hE := (((((((Env.again (bel4 hE.bel hgl15 (.bool sb) (.slice Ab nb cb) (.bool tb) (.slice Bb mb db))).blkI ((hE.here.1.1.1.1.1.2).far4 (R := g14) (by omega) (.bool sb) (.slice Ab nb cb) (.bool tb) (.slice Bb mb db))).blkI ((hE.here.1.1.1.1.2).far4 (R := g14) (by omega) (.bool sb) (.slice Ab nb cb) (.bool tb) (.slice Bb mb db))).fv ((hE.here.1.1.1.2).sep4 hE.here.2 rfl (.bool sb) (.slice Ab nb cb) (.bool tb) (.slice Bb mb db) rfl rfl rfl)).blkI ((hE.here.1.1.2).far4 (R := g14) (by omega) (.bool sb) (.slice Ab nb cb) (.bool tb) (.slice Bb mb db))).fv ((hE.here.1.2).sep4 hE.here.2 rfl (.bool sb) (.slice Ab nb cb) (.bool tb) (.slice Bb mb db) rfl rfl rfl)).blkI ((hE.here.2).s4 (.bool sb) (.slice Ab nb cb) (.bool tb) (.slice Bb mb db)))
            go_simp
            clear x15_0 x15_1 x15_2 x15_3 f15_0 f15_1 f15_2 f15_3 hgl15
            generalize ((((W14.setCell ⟨g14, 0, none⟩ (.bool sb)).setCell ⟨g14, 1, none⟩ (.slice Ab nb cb)).setCell ⟨g14, 2, none⟩ (.bool tb)).setCell ⟨g14, 3, none⟩ (.slice Bb mb db)) = W15 at hE ⊢
            refine hK.out _ _ (⟨(hE.here.1.1.1.1.1.2).c3.1, (hE.here.1.1.1.1.1.2).c3.2.1, (hE.here.1.1.1.1.1.2).c3.2.2, (hE.here.1.1.1.1.2).c2.1, (hE.here.1.1.1.1.2).c2.2⟩) (fun hHeld => ?_)
            clear hK K
            try simp only [Act.put, List.setIfInBounds_toArray, List.set_cons_zero, List.set_cons_succ, List.getElem_toArray, List.getElem_cons_succ, List.getElem_cons_zero]
            refine wpAnyH_take (i := 9) (v := ?v4_9_6) rfl (by kernel_rfl) (by kernel_rfl) (by kernel_rfl) (fun _ _ _ h => h) (Or.inl ⟨by rfl, ?hy4_9_6⟩) (by assumption) ?rest4_9_6
            case hy4_9_6 => intro w hSw; (try dsimp only at hSw); first | (go_simp; done) | (go_simp; with_reducible rfl)
            try simp only [Act.put, List.setIfInBounds_toArray, List.set_cons_zero, List.set_cons_succ, List.getElem_toArray, List.getElem_cons_succ, List.getElem_cons_zero]
            refine wpAnyH_done (by kernel_rfl) ?_ _
            go_wp2_with fail
            go_meet
            exact ⟨g14, sb, Ab, nb, cb, tb, Bb, mb, db, rfl, rfl, (((((((Env.again hE.bel).blkI (hE.here.1.1.1.1.1.2)).blkI (hE.here.1.1.1.1.2)).fv (hE.here.1.1.1.2)).blkI (hE.here.1.1.2)).fv (hE.here.1.2)).blkI (hE.here.2))⟩
          · skip
            go_simp
            obtain ⟨g16, hg16⟩ : ∃ g16, g16 = w12.heap.size := ⟨_, rfl⟩
            have hl16_0 : w.heap.size < g16 := by rw [hg16]; exact (hE.here.1.1.1.2).lt
            have hl16_1 : w.heap.size + 1 < g16 := by rw [hg16]; exact (hE.here.1.1.2).lt
            have hl16_3 : g11 < g16 := by rw [hg16]; exact (hE.here.2).lt
            replace hE := hE.blk 40 #[.bool false, .slice none 0 0, .bool false, .slice none 0 0] (g := g16) hg16.symm
            generalize w12.alloc (.cells #[.bool false, .slice none 0 0, .bool false, .slice none 0 0] 40) = W16 at hE ⊢
            rw [← hg16]
            clear hg16
            refine hK.out _ _ (⟨(hE.here.1.1.1.1.2).c3.1, (hE.here.1.1.1.1.2).c3.2.1, (hE.here.1.1.1.1.2).c3.2.2, (hE.here.1.1.1.2).c2.1, (hE.here.1.1.1.2).c2.2⟩) (fun hHeld => ?_)
            clear hK K
            try simp only [Act.put, List.setIfInBounds_toArray, List.set_cons_zero, List.set_cons_succ, List.getElem_toArray, List.getElem_cons_succ, List.getElem_cons_zero]
            refine wpAnyH_ready (rs := [3]) (by kernel_rfl) (by simp) (AllReadyH.cons rfl (fun K hK => ?_) (AllReadyH.nil))
            go_simp
            refine ((HhQB.out ▸ lExpect_v (HT.out.below hE.bel) HB.out HR2.out 111 (by decide) : Calls _ _ _ _ (FOK QB _))).mono ?_
            rintro e w17 ⟨sb, Ab, nb, cb, tb, Bb, mb, db, rfl, hb, hb⟩
            replace hE := hE.step hb
            clear hb
            replace hE := hE.fv hb
            clear hb
            go_wp2_with fail
            refine hK.out _ _ (⟨(hE.here.1.1.1.1.1.2).c3.1, (hE.here.1.1.1.1.1.2).c3.2.1, (hE.here.1.1.1.1.1.2).c3.2.2, (hE.here.1.1.1.1.2).c2.1, (hE.here.1.1.1.1.2).c2.2⟩) (fun hHeld => ?_)
            clear hK K
            try simp only [Act.put, List.setIfInBounds_toArray, List.set_cons_zero, List.set_cons_succ, List.getElem_toArray, List.getElem_cons_succ, List.getElem_cons_zero]
            refine wpAnyH_take (i := 4) (v := ?v4_4_7) rfl (by kernel_rfl) (by kernel_rfl) (by kernel_rfl) (fun _ _ _ h => h) (Or.inl ⟨by rfl, ?hy4_4_7⟩) (by assumption) ?rest4_4_7
            case hy4_4_7 => intro w hSw; (try dsimp only at hSw); first | (go_simp; done) | (go_simp; with_reducible rfl)
            try simp only [Act.put, List.setIfInBounds_toArray, List.set_cons_zero, List.set_cons_succ, List.getElem_toArray, List.getElem_cons_succ, List.getElem_cons_zero]
            refine wpAnyH_take (i := 5) (v := ?v4_5_8) rfl (by kernel_rfl) (by kernel_rfl) (by kernel_rfl) (fun _ _ _ h => h) (Or.inl ⟨by rfl, ?hy4_5_8⟩) (by assumption) ?rest4_5_8
            case hy4_5_8 => intro w hSw; (try dsimp only at hSw); first | (go_simp; done) | (go_simp; with_reducible rfl)
            try simp only [Act.put, List.setIfInBounds_toArray, List.set_cons_zero, List.set_cons_succ, List.getElem_toArray, List.getElem_cons_succ, List.getElem_cons_zero]
            refine wpAnyH_take (i := 6) (v := ?v4_6_9) rfl (by kernel_rfl) (by kernel_rfl) (by kernel_rfl) (fun _ _ _ h => h) (Or.inl ⟨by rfl, ?hy4_6_9⟩) (by assumption) ?rest4_6_9
            case hy4_6_9 => intro w hSw; (try dsimp only at hSw); first | (go_simp; done) | (go_simp; with_reducible rfl)
            try simp only [Act.put, List.setIfInBounds_toArray, List.set_cons_zero, List.set_cons_succ, List.getElem_toArray, List.getElem_cons_succ, List.getElem_cons_zero]
            refine wpAnyH_ready (rs := [8]) (by kernel_rfl) (by simp) (AllReadyH.cons rfl (fun K hK => ?_) (AllReadyH.nil))
            have hgl18 : w.heap.size ≤ g16 := by omega
            obtain ⟨x18_0, x18_1, x18_2, x18_3⟩ := (hE.here.1.2).c4
            have f18_0 := (hE.here.1.2).frozen 0
            have f18_1 := (hE.here.1.2).frozen 1
            have f18_2 := (hE.here.1.2).frozen 2
            have f18_3 := (hE.here.1.2).frozen 3
            replace hE := (((((((Env.again (bel4 hE.bel hgl18 (.bool sb) (.slice Ab nb cb) (.bool tb) (.slice Bb mb db))).blkI ((hE.here.1.1.1.1.1.2).far4 (R := g16) (by omega) (.bool sb) (.slice Ab nb cb) (.bool tb) (.slice Bb mb db))).blkI ((hE.here.1.1.1.1.2).far4 (R := g16) (by omega) (.bool sb) (.slice Ab nb cb) (.bool tb) (.slice Bb mb db))).fv ((hE.here.1.1.1.2).sep4 hE.here.1.2 rfl (.bool sb) (.slice Ab nb cb) (.bool tb) (.slice Bb mb db) rfl rfl rfl)).blkI ((hE.here.1.1.2).far4 (R := g16) (by omega) (.bool sb) (.slice Ab nb cb) (.bool tb) (.slice Bb mb db))).blkI ((hE.here.1.2).s4 (.bool sb) (.slice Ab nb cb) (.bool tb) (.slice Bb mb db))).fv ((hE.here.2).sep4 hE.here.1.2 rfl (.bool sb) (.slice Ab nb cb) (.bool tb) (.slice Bb mb db) rfl rfl rfl))
            go_simp
            clear x18_0 x18_1 x18_2 x18_3 f18_0 f18_1 f18_2 f18_3 hgl18
            generalize ((((w17.setCell ⟨g16, 0, none⟩ (.bool sb)).setCell ⟨g16, 1, none⟩ (.slice Ab nb cb)).setCell ⟨g16, 2, none⟩ (.bool tb)).setCell ⟨g16, 3, none⟩ (.slice Bb mb db)) = W18 at hE ⊢
            refine hK.out _ _ (⟨(hE.here.1.1.1.1.1.2).c3.1, (hE.here.1.1.1.1.1.2).c3.2.1, (hE.here.1.1.1.1.1.2).c3.2.2, (hE.here.1.1.1.1.2).c2.1, (hE.here.1.1.1.1.2).c2.2⟩) (fun hHeld => ?_)
            clear hK K
            try simp only [Act.put, List.setIfInBounds_toArray, List.set_cons_zero, List.set_cons_succ, List.getElem_toArray, List.getElem_cons_succ, List.getElem_cons_zero]
            refine wpAnyH_take (i := 9) (v := ?v4_9_10) rfl (by kernel_rfl) (by kernel_rfl) (by kernel_rfl) (fun _ _ _ h => h) (Or.inl ⟨by rfl, ?hy4_9_10⟩) (by assumption) ?rest4_9_10
            case hy4_9_10 => intro w hSw; (try dsimp only at hSw); first | (go_simp; done) | (go_simp; with_reducible rfl)
            try simp only [Act.put, List.setIfInBounds_toArray, List.set_cons_zero, List.set_cons_succ, List.getElem_toArray, List.getElem_cons_succ, List.getElem_cons_zero]
            refine wpAnyH_done (by kernel_rfl) ?_ _
            go_wp2_with fail
            go_meet
            exact ⟨g16, sb, Ab, nb, cb, tb, Bb, mb, db, rfl, rfl, (((((((Env.again hE.bel).blkI (hE.here.1.1.1.1.1.2)).blkI (hE.here.1.1.1.1.2)).fv (hE.here.1.1.1.2)).blkI (hE.here.1.1.2)).fv (hE.here.2)).blkI (hE.here.1.2))⟩
        · skip
          go_simp
          obtain ⟨g19, hg19⟩ : ∃ g19, g19 = wd.heap.size := ⟨_, rfl⟩
          have hl19_0 : w.heap.size < g19 := by rw [hg19]; exact (hE.here.1.1.1.2).lt
          have hl19_1 : w.heap.size + 1 < g19 := by rw [hg19]; exact (hE.here.1.1.2).lt
          have hl19_3 : g11 < g19 := by rw [hg19]; exact (hE.here.2).lt
          replace hE := hE.blk 40 #[.bool false, .slice none 0 0, .bool false, .slice none 0 0] (g := g19) hg19.symm
          generalize wd.alloc (.cells #[.bool false, .slice none 0 0, .bool false, .slice none 0 0] 40) = W19 at hE ⊢
          rw [← hg19]
          clear hg19
          refine hK.out _ _ (⟨(hE.here.1.1.1.1.2).c3.1, (hE.here.1.1.1.1.2).c3.2.1, (hE.here.1.1.1.1.2).c3.2.2, (hE.here.1.1.1.2).c2.1, (hE.here.1.1.1.2).c2.2⟩) (fun hHeld => ?_)
          clear hK K
          try simp only [Act.put, List.setIfInBounds_toArray, List.set_cons_zero, List.set_cons_succ, List.getElem_toArray, List.getElem_cons_succ, List.getElem_cons_zero]
          refine wpAnyH_ready (rs := [2]) (by kernel_rfl) (by simp) (AllReadyH.cons rfl (fun K hK => ?_) (AllReadyH.nil))
          go_simp
          obtain ⟨y0, y300⟩ : 0 ≤ Y ∧ Y ≤ 300 := HU.out.2.2.2.2
          refine (later_v E Y 1 _ y0 (by omega) (by decide) (by decide)).mono ?_
          rintro e w20 ⟨rfl, hb⟩
          replace hE := hE.step hb
          clear hb
          clear y0 y300
          go_wp2_with fail
          refine hK.out _ _ (⟨(hE.here.1.1.1.1.2).c3.1, (hE.here.1.1.1.1.2).c3.2.1, (hE.here.1.1.1.1.2).c3.2.2, (hE.here.1.1.1.2).c2.1, (hE.here.1.1.1.2).c2.2⟩) (fun hHeld => ?_)
          clear hK K
          try simp only [Act.put, List.setIfInBounds_toArray, List.set_cons_zero, List.set_cons_succ, List.getElem_toArray, List.getElem_cons_succ, List.getElem_cons_zero]
          refine wpAnyH_ready (rs := [3]) (by kernel_rfl) (by simp) (AllReadyH.cons rfl (fun K hK => ?_) (AllReadyH.nil))
          go_simp
          refine ((HhQB.out ▸ lExpect_v (HT.out.below hE.bel) HB.out HR2.out 111 (by decide) : Calls _ _ _ _ (FOK QB _))).mono ?_
          rintro e w21 ⟨sb, Ab, nb, cb, tb, Bb, mb, db, rfl, hb, hb⟩
          replace hE := hE.step hb
          clear hb
          replace hE := hE.fv hb
          clear hb
          go_wp2_with fail
          refine hK.out _ _ (⟨(hE.here.1.1.1.1.1.2).c3.1, (hE.here.1.1.1.1.1.2).c3.2.1, (hE.here.1.1.1.1.1.2).c3.2.2, (hE.here.1.1.1.1.2).c2.1, (hE.here.1.1.1.1.2).c2.2⟩) (fun hHeld => ?_)
          clear hK K
          try simp only [Act.put, List.setIfInBounds_toArray, List.set_cons_zero, List.set_cons_succ, List.getElem_toArray, List.getElem_cons_succ, List.getElem_cons_zero]
          refine wpAnyH_take (i := 4) (v := ?v4_4_11) rfl (by kernel_rfl) (by kernel_rfl) (by kernel_rfl) (fun _ _ _ h => h) (Or.inl ⟨by rfl, ?hy4_4_11⟩) (by assumption) ?rest4_4_11
          case hy4_4_11 => intro w hSw; (try dsimp only at hSw); first | (go_simp; done) | (go_simp; with_reducible rfl)
          try simp only [Act.put, List.setIfInBounds_toArray, List.set_cons_zero, List.set_cons_succ, List.getElem_toArray, List.getElem_cons_succ, List.getElem_cons_zero]
          refine wpAnyH_take (i := 5) (v := ?v4_5_12) rfl (by kernel_rfl) (by kernel_rfl) (by kernel_rfl) (fun _ _ _ h => h) (Or.inl ⟨by rfl, ?hy4_5_12⟩) (by assumption) ?rest4_5_12
          case hy4_5_12 => intro w hSw; (try dsimp only at hSw); first | (go_simp; done) | (go_simp; with_reducible rfl)
          try simp only [Act.put, List.setIfInBounds_toArray, List.set_cons_zero, List.set_cons_succ, List.getElem_toArray, List.getElem_cons_succ, List.getElem_cons_zero]
          refine wpAnyH_take (i := 6) (v := ?v4_6_13) rfl (by kernel_rfl) (by kernel_rfl) (by kernel_rfl) (fun _ _ _ h => h) (Or.inl ⟨by rfl, ?hy4_6_13⟩) (by assumption) ?rest4_6_13
          case hy4_6_13 => intro w hSw; (try dsimp only at hSw); first | (go_simp; done) | (go_simp; with_reducible rfl)
          try simp only [Act.put, List.setIfInBounds_toArray, List.set_cons_zero, List.set_cons_succ, List.getElem_toArray, List.getElem_cons_succ, List.getElem_cons_zero]
          refine wpAnyH_ready (rs := [8]) (by kernel_rfl) (by simp) (AllReadyH.cons rfl (fun K hK => ?_) (AllReadyH.nil))
          have hgl22 : w.heap.size ≤ g19 := by omega
          obtain ⟨x22_0, x22_1, x22_2, x22_3⟩ := (hE.here.1.2).c4
          have f22_0 := (hE.here.1.2).frozen 0
          have f22_1 := (hE.here.1.2).frozen 1
          have f22_2 := (hE.here.1.2).frozen 2
          have f22_3 := (hE.here.1.2).frozen 3
          replace hE := (((((((Env.again (bel4 hE.bel hgl22 (.bool sb) (.slice Ab nb cb) (.bool tb) (.slice Bb mb db))).blkI ((hE.here.1.1.1.1.1.2).far4 (R := g19) (by omega) (.bool sb) (.slice Ab nb cb) (.bool tb) (.slice Bb mb db))).blkI ((hE.here.1.1.1.1.2).far4 (R := g19) (by omega) (.bool sb) (.slice Ab nb cb) (.bool tb) (.slice Bb mb db))).fv ((hE.here.1.1.1.2).sep4 hE.here.1.2 rfl (.bool sb) (.slice Ab nb cb) (.bool tb) (.slice Bb mb db) rfl rfl rfl)).blkI ((hE.here.1.1.2).far4 (R := g19) (by omega) (.bool sb) (.slice Ab nb cb) (.bool tb) (.slice Bb mb db))).blkI ((hE.here.1.2).s4 (.bool sb) (.slice Ab nb cb) (.bool tb) (.slice Bb mb db))).fv ((hE.here.2).sep4 hE.here.1.2 rfl (.bool sb) (.slice Ab nb cb) (.bool tb) (.slice Bb mb db) rfl rfl rfl))
          go_simp
          clear x22_0 x22_1 x22_2 x22_3 f22_0 f22_1 f22_2 f22_3 hgl22
          generalize ((((w21.setCell ⟨g19, 0, none⟩ (.bool sb)).setCell ⟨g19, 1, none⟩ (.slice Ab nb cb)).setCell ⟨g19, 2, none⟩ (.bool tb)).setCell ⟨g19, 3, none⟩ (.slice Bb mb db)) = W22 at hE ⊢
          refine hK.out _ _ (⟨(hE.here.1.1.1.1.1.2).c3.1, (hE.here.1.1.1.1.1.2).c3.2.1, (hE.here.1.1.1.1.1.2).c3.2.2, (hE.here.1.1.1.1.2).c2.1, (hE.here.1.1.1.1.2).c2.2⟩) (fun hHeld => ?_)
          clear hK K
          try simp only [Act.put, List.setIfInBounds_toArray, List.set_cons_zero, List.set_cons_succ, List.getElem_toArray, List.getElem_cons_succ, List.getElem_cons_zero]
          refine wpAnyH_take (i := 9) (v := ?v4_9_14) rfl (by kernel_rfl) (by kernel_rfl) (by kernel_rfl) (fun _ _ _ h => h) (Or.inl ⟨by rfl, ?hy4_9_14⟩) (by assumption) ?rest4_9_14
          case hy4_9_14 => intro w hSw; (try dsimp only at hSw); first | (go_simp; done) | (go_simp; with_reducible rfl)
          try simp only [Act.put, List.setIfInBounds_toArray, List.set_cons_zero, List.set_cons_succ, List.getElem_toArray, List.getElem_cons_succ, List.getElem_cons_zero]
          refine wpAnyH_done (by kernel_rfl) ?_ _
          go_wp2_with fail
          go_meet
          exact ⟨g19, sb, Ab, nb, cb, tb, Bb, mb, db, rfl, rfl, (((((((Env.again hE.bel).blkI (hE.here.1.1.1.1.1.2)).blkI (hE.here.1.1.1.1.2)).fv (hE.here.1.1.1.2)).blkI (hE.here.1.1.2)).fv (hE.here.2)).blkI (hE.here.1.2))⟩
      case rest =>
      clear hE
      obtain ⟨G6, sb, Ab, nb, cb, tb, Bb, mb, db, rfl, rfl, hE⟩ := hcut
      generalize wc = wk6 at hE ⊢
      go_upto_region 7 with (fail)
      obtain ⟨k23, k24, k25⟩ := (hE.here.1.1.1.1.1.2).c3
      obtain ⟨k26, k27⟩ := (hE.here.1.1.1.1.2).c2
      go_wp2_with fail
      refine ((HhQP.out ▸ lAlive_v (HT.out.below hE.bel) HB.out HU.out.2 1 (by decide) : Calls _ _ _ _ (FOK QP _))).mono ?_
      clear k23 k24 k25 k26 k27
      rintro e w28 ⟨sp, Ap, np, cp, tp, Bp, mp, dp, rfl, hp, hb⟩
      replace hE := hE.step hb
      clear hb
      replace hE := hE.fv hp
      clear hp
      go_upto_region 8 with (fail)
      obtain ⟨g29, hg29⟩ : ∃ g29, g29 = w28.heap.size := ⟨_, rfl⟩
      have hl29_0 : w.heap.size < g29 := by rw [hg29]; exact (hE.here.1.1.1.1.1.1.2).lt
      have hl29_1 : w.heap.size + 1 < g29 := by rw [hg29]; exact (hE.here.1.1.1.1.1.2).lt
      have hl29_3 : g11 < g29 := by rw [hg29]; exact (hE.here.1.1.1.2).lt
      have hl29_5 : G6 < g29 := by rw [hg29]; exact (hE.here.1.2).lt
      replace hE := hE.blk 40 #[.bool sp, .slice Ap np cp, .bool tp, .slice Bp mp dp] (g := g29) hg29.symm
      generalize w28.alloc (.cells #[.bool sp, .slice Ap np cp, .bool tp, .slice Bp mp dp] 40) = W29 at hE ⊢
      rw [← hg29]
      clear hg29
      replace hE := hE.drew
      refine wp_region_held_drew (S := fun w' => w'.cell? ⟨g11, 0, none⟩ = some (.bool sa) ∧ w'.cell? ⟨g11, 1, none⟩ = some (.slice Aa na ca) ∧ w'.cell? ⟨g11, 2, none⟩ = some (.bool ta) ∧ w'.cell? ⟨g11, 3, none⟩ = some (.slice Ba ma da) ∧ w'.cell? ⟨g29, 0, none⟩ = some (.bool sp) ∧ w'.cell? ⟨g29, 1, none⟩ = some (.slice Ap np cp) ∧ w'.cell? ⟨g29, 2, none⟩ = some (.bool tp) ∧ w'.cell? ⟨g29, 3, none⟩ = some (.slice Bp mp dp) ∧ w'.cell? ⟨G6, 0, none⟩ = some (.bool sb) ∧ w'.cell? ⟨G6, 1, none⟩ = some (.slice Ab nb cb) ∧ w'.cell? ⟨G6, 2, none⟩ = some (.bool tb) ∧ w'.cell? ⟨G6, 3, none⟩ = some (.slice Bb mb db)) (by kernel_rfl) (⟨(hE.here.1.1.1.1.2).c4.1, (hE.here.1.1.1.1.2).c4.2.1, (hE.here.1.1.1.1.2).c4.2.2.1, (hE.here.1.1.1.1.2).c4.2.2.2, (hE.here.2).c4.1, (hE.here.2).c4.2.1, (hE.here.2).c4.2.2.1, (hE.here.2).c4.2.2.2, (hE.here.1.1.2).c4.1, (hE.here.1.1.2).c4.2.1, (hE.here.1.1.2).c4.2.2.1, (hE.here.1.1.2).c4.2.2.2⟩) (fun hHeld => ?_)
      refine wpAnyH_take (i := 0) (v := ?v5_0_1) rfl (by kernel_rfl) (by kernel_rfl) (by kernel_rfl) (fun _ _ _ h => h) (Or.inl ⟨by rfl, ?hy5_0_1⟩) (by assumption) ?rest5_0_1
      case hy5_0_1 => intro w hSw; (try dsimp only at hSw); first | (go_simp; done) | (go_simp; with_reducible rfl)
      try simp only [Act.put, List.setIfInBounds_toArray, List.set_cons_zero, List.set_cons_succ, List.getElem_toArray, List.getElem_cons_succ, List.getElem_cons_zero]
      refine wpAnyH_take (i := 1) (v := ?v5_1_2) rfl (by kernel_rfl) (by kernel_rfl) (by kernel_rfl) (fun _ _ _ h => h) (Or.inl ⟨by rfl, ?hy5_1_2⟩) (by assumption) ?rest5_1_2
      case hy5_1_2 => intro w hSw; (try dsimp only at hSw); first | (go_simp; done) | (go_simp; with_reducible rfl)
      try simp only [Act.put, List.setIfInBounds_toArray, List.set_cons_zero, List.set_cons_succ, List.getElem_toArray, List.getElem_cons_succ, List.getElem_cons_zero]
      refine wpAnyH_take (i := 2) (v := ?v5_2_3) rfl (by kernel_rfl) (by kernel_rfl) (by kernel_rfl) (fun _ _ _ h => h) (Or.inl ⟨by rfl, ?hy5_2_3⟩) (by assumption) ?rest5_2_3
      case hy5_2_3 => intro w hSw; (try dsimp only at hSw); first | (go_simp; done) | (go_simp; with_reducible rfl)
      try simp only [Act.put, List.setIfInBounds_toArray, List.set_cons_zero, List.set_cons_succ, List.getElem_toArray, List.getElem_cons_succ, List.getElem_cons_zero]
      refine wpAnyH_take (i := 3) (v := ?v5_3_4) rfl (by kernel_rfl) (by kernel_rfl) (by kernel_rfl) (fun _ _ _ h => h) (Or.inl ⟨by rfl, ?hy5_3_4⟩) (by assumption) ?rest5_3_4
      case hy5_3_4 => intro w hSw; (try dsimp only at hSw); first | (go_simp; done) | (go_simp; with_reducible rfl)
      try simp only [Act.put, List.setIfInBounds_toArray, List.set_cons_zero, List.set_cons_succ, List.getElem_toArray, List.getElem_cons_succ, List.getElem_cons_zero]
      refine wpAnyH_take (i := 4) (v := ?v5_4_5) rfl (by kernel_rfl) (by kernel_rfl) (by kernel_rfl) (fun _ _ _ h => h) (Or.inl ⟨by rfl, ?hy5_4_5⟩) (by assumption) ?rest5_4_5
      case hy5_4_5 => intro w hSw; (try dsimp only at hSw); first | (go_simp; done) | (go_simp; with_reducible rfl)
      try simp only [Act.put, List.setIfInBounds_toArray, List.set_cons_zero, List.set_cons_succ, List.getElem_toArray, List.getElem_cons_succ, List.getElem_cons_zero]
      refine wpAnyH_take (i := 5) (v := ?v5_5_6) rfl (by kernel_rfl) (by kernel_rfl) (by kernel_rfl) (fun _ _ _ h => h) (Or.inl ⟨by rfl, ?hy5_5_6⟩) (by assumption) ?rest5_5_6
      case hy5_5_6 => intro w hSw; (try dsimp only at hSw); first | (go_simp; done) | (go_simp; with_reducible rfl)
      try simp only [Act.put, List.setIfInBounds_toArray, List.set_cons_zero, List.set_cons_succ, List.getElem_toArray, List.getElem_cons_succ, List.getElem_cons_zero]
      refine wpAnyH_take (i := 6) (v := ?v5_6_7) rfl (by kernel_rfl) (by kernel_rfl) (by kernel_rfl) (fun _ _ _ h => h) (Or.inl ⟨by rfl, ?hy5_6_7⟩) (by assumption) ?rest5_6_7
      case hy5_6_7 => intro w hSw; (try dsimp only at hSw); first | (go_simp; done) | (go_simp; with_reducible rfl)
      try simp only [Act.put, List.setIfInBounds_toArray, List.set_cons_zero, List.set_cons_succ, List.getElem_toArray, List.getElem_cons_succ, List.getElem_cons_zero]
      refine wpAnyH_take (i := 7) (v := ?v5_7_8) rfl (by kernel_rfl) (by kernel_rfl) (by kernel_rfl) (fun _ _ _ h => h) (Or.inl ⟨by rfl, ?hy5_7_8⟩) (by assumption) ?rest5_7_8
      case hy5_7_8 => intro w hSw; (try dsimp only at hSw); first | (go_simp; done) | (go_simp; with_reducible rfl)
      try simp only [Act.put, List.setIfInBounds_toArray, List.set_cons_zero, List.set_cons_succ, List.getElem_toArray, List.getElem_cons_succ, List.getElem_cons_zero]
      refine wpAnyH_take (i := 8) (v := ?v5_8_9) rfl (by kernel_rfl) (by kernel_rfl) (by kernel_rfl) (fun _ _ _ h => h) (Or.inl ⟨by rfl, ?hy5_8_9⟩) (by assumption) ?rest5_8_9
      case hy5_8_9 => intro w hSw; (try dsimp only at hSw); first | (go_simp; done) | (go_simp; with_reducible rfl)
      try simp only [Act.put, List.setIfInBounds_toArray, List.set_cons_zero, List.set_cons_succ, List.getElem_toArray, List.getElem_cons_succ, List.getElem_cons_zero]
      refine wpAnyH_take (i := 9) (v := ?v5_9_10) rfl (by kernel_rfl) (by kernel_rfl) (by kernel_rfl) (fun _ _ _ h => h) (Or.inl ⟨by rfl, ?hy5_9_10⟩) (by assumption) ?rest5_9_10
      case hy5_9_10 => intro w hSw; (try dsimp only at hSw); first | (go_simp; done) | (go_simp; with_reducible rfl)
      try simp only [Act.put, List.setIfInBounds_toArray, List.set_cons_zero, List.set_cons_succ, List.getElem_toArray, List.getElem_cons_succ, List.getElem_cons_zero]
      refine wpAnyH_take (i := 10) (v := ?v5_10_11) rfl (by kernel_rfl) (by kernel_rfl) (by kernel_rfl) (fun _ _ _ h => h) (Or.inl ⟨by rfl, ?hy5_10_11⟩) (by assumption) ?rest5_10_11
      case hy5_10_11 => intro w hSw; (try dsimp only at hSw); first | (go_simp; done) | (go_simp; with_reducible rfl)
      try simp only [Act.put, List.setIfInBounds_toArray, List.set_cons_zero, List.set_cons_succ, List.getElem_toArray, List.getElem_cons_succ, List.getElem_cons_zero]
      refine wpAnyH_take (i := 11) (v := ?v5_11_12) rfl (by kernel_rfl) (by kernel_rfl) (by kernel_rfl) (fun _ _ _ h => h) (Or.inl ⟨by rfl, ?hy5_11_12⟩) (by assumption) ?rest5_11_12
      case hy5_11_12 => intro w hSw; (try dsimp only at hSw); first | (go_simp; done) | (go_simp; with_reducible rfl)
      try simp only [Act.put, List.setIfInBounds_toArray, List.set_cons_zero, List.set_cons_succ, List.getElem_toArray, List.getElem_cons_succ, List.getElem_cons_zero]
      refine wpAnyH_take (i := 12) (v := ?v5_12_13) rfl (by kernel_rfl) (by kernel_rfl) (by kernel_rfl) (fun _ _ _ h => h) (Or.inl ⟨by rfl, ?hy5_12_13⟩) (by assumption) ?rest5_12_13
      case hy5_12_13 => intro w hSw; (try dsimp only at hSw); first | (go_simp; done) | (go_simp; with_reducible rfl)
      try simp only [Act.put, List.setIfInBounds_toArray, List.set_cons_zero, List.set_cons_succ, List.getElem_toArray, List.getElem_cons_succ, List.getElem_cons_zero]
      refine wpAnyH_take (i := 14) (v := ?v5_14_14) rfl (by kernel_rfl) (by kernel_rfl) (by kernel_rfl) (fun _ _ _ h => h) (Or.inl ⟨by rfl, ?hy5_14_14⟩) (by assumption) ?rest5_14_14
      case hy5_14_14 => intro w hSw; (try dsimp only at hSw); first | (go_simp; done) | (go_simp; with_reducible rfl)
      try simp only [Act.put, List.setIfInBounds_toArray, List.set_cons_zero, List.set_cons_succ, List.getElem_toArray, List.getElem_cons_succ, List.getElem_cons_zero]
      refine wpAnyH_ready (rs := [13]) (by kernel_rfl) (by simp) (AllReadyH.cons rfl (fun K hK => ?_) (AllReadyH.nil))
      go_simp
      refine (ffromInt_v 1 _ (by decide) (by decide)).mono ?_
      rintro e w30 ⟨so, Ao, no, co, ti, Bo, mo, dob, rfl, ho, hb⟩
      replace hE := hE.step hb
      clear hb
      replace hE := hE.fv ho
      clear ho
      go_wp2_with fail
      refine hK.out _ _ (⟨(hE.here.1.1.1.1.1.2).c4.1, (hE.here.1.1.1.1.1.2).c4.2.1, (hE.here.1.1.1.1.1.2).c4.2.2.1, (hE.here.1.1.1.1.1.2).c4.2.2.2, (hE.here.1.2).c4.1, (hE.here.1.2).c4.2.1, (hE.here.1.2).c4.2.2.1, (hE.here.1.2).c4.2.2.2, (hE.here.1.1.1.2).c4.1, (hE.here.1.1.1.2).c4.2.1, (hE.here.1.1.1.2).c4.2.2.1, (hE.here.1.1.1.2).c4.2.2.2⟩) (fun hHeld => ?_)
      clear hK K
      try simp only [Act.put, List.setIfInBounds_toArray, List.set_cons_zero, List.set_cons_succ, List.getElem_toArray, List.getElem_cons_succ, List.getElem_cons_zero]
      refine wpAnyH_ready (rs := [15]) (by kernel_rfl) (by simp) (AllReadyH.cons rfl (fun K hK => ?_) (AllReadyH.nil))
      go_simp
      refine (lw_sum (a := 1) (ca := co) (da := dob) (cb := cb) (db := db) hE.here.2 hE.here.1.1.1.1.2 fl_one Hlb.out Hls.out).mono ?_
      rintro e w31 ⟨ss, As, ns, cs, ts, Bs, ms, ds, rfl, hs, hb⟩
      replace hE := hE.step hb
      clear hb
      replace hE := hE.fv hs
      clear hs
      go_wp2_with fail
      refine hK.out _ _ (⟨(hE.here.1.1.1.1.1.1.2).c4.1, (hE.here.1.1.1.1.1.1.2).c4.2.1, (hE.here.1.1.1.1.1.1.2).c4.2.2.1, (hE.here.1.1.1.1.1.1.2).c4.2.2.2, (hE.here.1.1.2).c4.1, (hE.here.1.1.2).c4.2.1, (hE.here.1.1.2).c4.2.2.1, (hE.here.1.1.2).c4.2.2.2, (hE.here.1.1.1.1.2).c4.1, (hE.here.1.1.1.1.2).c4.2.1, (hE.here.1.1.1.1.2).c4.2.2.1, (hE.here.1.1.1.1.2).c4.2.2.2⟩) (fun hHeld => ?_)
      clear hK K
      try simp only [Act.put, List.setIfInBounds_toArray, List.set_cons_zero, List.set_cons_succ, List.getElem_toArray, List.getElem_cons_succ, List.getElem_cons_zero]
      refine wpAnyH_ready (rs := [16]) (by kernel_rfl) (by simp) (AllReadyH.cons rfl (fun K hK => ?_) (AllReadyH.nil))
      go_simp
      refine (lw_product (ca := cp) (da := dp) (cb := cs) (db := ds) hE.here.1.1.1.2 hE.here.2 Hlp.out Hls.out Hlm.out).mono ?_
      rintro e w32 ⟨sm, Am, nm, cm, tm, Bm, mm, dm, rfl, hm, hb⟩
      replace hE := hE.step hb
      clear hb
      replace hE := hE.fv hm
      clear hm
      go_wp2_with fail
      refine hK.out _ _ (⟨(hE.here.1.1.1.1.1.1.1.2).c4.1, (hE.here.1.1.1.1.1.1.1.2).c4.2.1, (hE.here.1.1.1.1.1.1.1.2).c4.2.2.1, (hE.here.1.1.1.1.1.1.1.2).c4.2.2.2, (hE.here.1.1.1.2).c4.1, (hE.here.1.1.1.2).c4.2.1, (hE.here.1.1.1.2).c4.2.2.1, (hE.here.1.1.1.2).c4.2.2.2, (hE.here.1.1.1.1.1.2).c4.1, (hE.here.1.1.1.1.1.2).c4.2.1, (hE.here.1.1.1.1.1.2).c4.2.2.1, (hE.here.1.1.1.1.1.2).c4.2.2.2⟩) (fun hHeld => ?_)
      clear hK K
      try simp only [Act.put, List.setIfInBounds_toArray, List.set_cons_zero, List.set_cons_succ, List.getElem_toArray, List.getElem_cons_succ, List.getElem_cons_zero]
      refine wpAnyH_ready (rs := [17]) (by kernel_rfl) (by simp) (AllReadyH.cons rfl (fun K hK => ?_) (AllReadyH.nil))
      go_simp
      refine (lw_equal (v := true) (ca := ca) (da := da) (cb := cm) (db := dm) hE.here.1.1.1.1.1.1.1.1.2 hE.here.2 Hla.out Hlm.out (decide_eq_true Hheq.out)).mono ?_
      rintro e w33 ⟨rfl, hb⟩
      replace hE := hE.step hb
      clear hb
      go_wp2_with fail
      refine hK.out _ _ (⟨(hE.here.1.1.1.1.1.1.1.2).c4.1, (hE.here.1.1.1.1.1.1.1.2).c4.2.1, (hE.here.1.1.1.1.1.1.1.2).c4.2.2.1, (hE.here.1.1.1.1.1.1.1.2).c4.2.2.2, (hE.here.1.1.1.2).c4.1, (hE.here.1.1.1.2).c4.2.1, (hE.here.1.1.1.2).c4.2.2.1, (hE.here.1.1.1.2).c4.2.2.2, (hE.here.1.1.1.1.1.2).c4.1, (hE.here.1.1.1.1.1.2).c4.2.1, (hE.here.1.1.1.1.1.2).c4.2.2.1, (hE.here.1.1.1.1.1.2).c4.2.2.2⟩) (fun hHeld => ?_)
      clear hK K
      try simp only [Act.put, List.setIfInBounds_toArray, List.set_cons_zero, List.set_cons_succ, List.getElem_toArray, List.getElem_cons_succ, List.getElem_cons_zero]
      refine wpAnyH_take (i := 18) (v := ?v5_18_15) rfl (by kernel_rfl) (by kernel_rfl) (by kernel_rfl) (fun _ _ _ h => h) (Or.inl ⟨by rfl, ?hy5_18_15⟩) (by assumption) ?rest5_18_15
      case hy5_18_15 => intro w hSw; (try dsimp only at hSw); first | (go_simp; done) | (go_simp; with_reducible rfl)
      try simp only [Act.put, List.setIfInBounds_toArray, List.set_cons_zero, List.set_cons_succ, List.getElem_toArray, List.getElem_cons_succ, List.getElem_cons_zero]
      refine wpAnyH_take (i := 19) (v := ?v5_19_16) rfl (by kernel_rfl) (by kernel_rfl) (by kernel_rfl) (fun _ _ _ h => h) (Or.inl ⟨by rfl, ?hy5_19_16⟩) (by assumption) ?rest5_19_16
      case hy5_19_16 => intro w hSw; (try dsimp only at hSw); first | (go_simp; done) | (go_simp; with_reducible rfl)
      try simp only [Act.put, List.setIfInBounds_toArray, List.set_cons_zero, List.set_cons_succ, List.getElem_toArray, List.getElem_cons_succ, List.getElem_cons_zero]
      refine wpAnyH_done (by kernel_rfl) ?_ _
      go_wp2_with fail
      go_ret
      exact ⟨rfl, hE.bel⟩
    · have HR2 := Lib.hid hR2
      clear hR2
      have hE := ((Env.start w).blk 24 #[.int .i64 F, .int .i64 S, .slice A n c] (g := w.heap.size) rfl).blk 26 #[.int .i64 E, .int .i64 Y] (g := w.heap.size + 1) (by simp)
      obtain ⟨W0, hW0⟩ : ∃ W0, W0 = ((w.alloc (.cells #[.int .i64 F, .int .i64 S, .slice A n c] 24)).alloc (.cells #[.int .i64 E, .int .i64 Y] 26)) := ⟨_, rfl⟩
      rw [← hW0] at hE
      have HW0 := Lib.hid hW0
      clear hW0
      go_enter Tryz.func9, Tryz.ntmps9
      go_upto_region 1 with (fail)
      rw [← HW0.out]
      go_wp2_with fail
      refine (awake_t _).mono ?_
      rintro e w1 ⟨rfl, hb⟩
      replace hE := hE.step hb
      clear hb
      go_upto_region 3 with (fail)
      replace hE := hE.drew
      refine wp_region_held_drew (S := fun w' => w'.cell? ⟨w.heap.size, 0, none⟩ = some (.int .i64 F) ∧ w'.cell? ⟨w.heap.size, 1, none⟩ = some (.int .i64 S) ∧ w'.cell? ⟨w.heap.size, 2, none⟩ = some (.slice A n c) ∧ w'.cell? ⟨w.heap.size + 1, 0, none⟩ = some (.int .i64 E) ∧ w'.cell? ⟨w.heap.size + 1, 1, none⟩ = some (.int .i64 Y)) (by kernel_rfl) (⟨(hE.here.1.2).c3.1, (hE.here.1.2).c3.2.1, (hE.here.1.2).c3.2.2, (hE.here.2).c2.1, (hE.here.2).c2.2⟩) (fun hHeld => ?_)
      refine wpAnyH_take (i := 0) (v := ?v2_0_1) rfl (by kernel_rfl) (by kernel_rfl) (by kernel_rfl) (fun _ _ _ h => h) (Or.inl ⟨by rfl, ?hy2_0_1⟩) (by assumption) ?rest2_0_1
      case hy2_0_1 => intro w hSw; (try dsimp only at hSw); first | (go_simp; done) | (go_simp; with_reducible rfl)
      try simp only [Act.put, List.setIfInBounds_toArray, List.set_cons_zero, List.set_cons_succ, List.getElem_toArray, List.getElem_cons_succ, List.getElem_cons_zero]
      refine wpAnyH_take (i := 1) (v := ?v2_1_2) rfl (by kernel_rfl) (by kernel_rfl) (by kernel_rfl) (fun _ _ _ h => h) (Or.inl ⟨by rfl, ?hy2_1_2⟩) (by assumption) ?rest2_1_2
      case hy2_1_2 => intro w hSw; (try dsimp only at hSw); first | (go_simp; done) | (go_simp; with_reducible rfl)
      try simp only [Act.put, List.setIfInBounds_toArray, List.set_cons_zero, List.set_cons_succ, List.getElem_toArray, List.getElem_cons_succ, List.getElem_cons_zero]
      refine wpAnyH_ready (rs := [2]) (by kernel_rfl) (by simp) (AllReadyH.cons rfl (fun K hK => ?_) (AllReadyH.nil))
      go_simp
      refine (usable_t (HT.out.below hE.bel) HU.out).mono ?_
      rintro e w2 ⟨rfl, hb⟩
      replace hE := hE.step hb
      clear hb
      go_wp2_with fail
      refine hK.out _ _ (⟨(hE.here.1.2).c3.1, (hE.here.1.2).c3.2.1, (hE.here.1.2).c3.2.2, (hE.here.2).c2.1, (hE.here.2).c2.2⟩) (fun hHeld => ?_)
      clear hK K
      try simp only [Act.put, List.setIfInBounds_toArray, List.set_cons_zero, List.set_cons_succ, List.getElem_toArray, List.getElem_cons_succ, List.getElem_cons_zero]
      refine wpAnyH_take (i := 3) (v := ?v2_3_3) rfl (by kernel_rfl) (by kernel_rfl) (by kernel_rfl) (fun _ _ _ h => h) (Or.inl ⟨by rfl, ?hy2_3_3⟩) (by assumption) ?rest2_3_3
      case hy2_3_3 => intro w hSw; (try dsimp only at hSw); first | (go_simp; done) | (go_simp; with_reducible rfl)
      try simp only [Act.put, List.setIfInBounds_toArray, List.set_cons_zero, List.set_cons_succ, List.getElem_toArray, List.getElem_cons_succ, List.getElem_cons_zero]
      refine wpAnyH_take (i := 4) (v := ?v2_4_4) rfl (by kernel_rfl) (by kernel_rfl) (by kernel_rfl) (fun _ _ _ h => h) (Or.inl ⟨by rfl, ?hy2_4_4⟩) (by assumption) ?rest2_4_4
      case hy2_4_4 => intro w hSw; (try dsimp only at hSw); first | (go_simp; done) | (go_simp; with_reducible rfl)
      try simp only [Act.put, List.setIfInBounds_toArray, List.set_cons_zero, List.set_cons_succ, List.getElem_toArray, List.getElem_cons_succ, List.getElem_cons_zero]
      refine wpAnyH_take (i := 5) (v := ?v2_5_5) rfl (by kernel_rfl) (by kernel_rfl) (by kernel_rfl) (fun _ _ _ h => h) (Or.inl ⟨by rfl, ?hy2_5_5⟩) (by assumption) ?rest2_5_5
      case hy2_5_5 => intro w hSw; (try dsimp only at hSw); first | (go_simp; done) | (go_simp; with_reducible rfl)
      try simp only [Act.put, List.setIfInBounds_toArray, List.set_cons_zero, List.set_cons_succ, List.getElem_toArray, List.getElem_cons_succ, List.getElem_cons_zero]
      refine wpAnyH_take (i := 6) (v := ?v2_6_6) rfl (by kernel_rfl) (by kernel_rfl) (by kernel_rfl) (fun _ _ _ h => h) (Or.inl ⟨by rfl, ?hy2_6_6⟩) (by assumption) ?rest2_6_6
      case hy2_6_6 => intro w hSw; (try dsimp only at hSw); first | (go_simp; done) | (go_simp; with_reducible rfl)
      try simp only [Act.put, List.setIfInBounds_toArray, List.set_cons_zero, List.set_cons_succ, List.getElem_toArray, List.getElem_cons_succ, List.getElem_cons_zero]
      refine wpAnyH_ready (rs := [7]) (by kernel_rfl) (by simp) (AllReadyH.cons rfl (fun K hK => ?_) (AllReadyH.nil))
      go_simp
      obtain ⟨y0, y300⟩ : 0 ≤ Y ∧ Y ≤ 300 := HU.out.2.2.2.2
      refine (later_v E Y 1 _ y0 (by omega) (by decide) (by decide)).mono ?_
      rintro e w3 ⟨rfl, hb⟩
      replace hE := hE.step hb
      clear hb
      clear y0 y300
      go_wp2_with fail
      refine hK.out _ _ (⟨(hE.here.1.2).c3.1, (hE.here.1.2).c3.2.1, (hE.here.1.2).c3.2.2, (hE.here.2).c2.1, (hE.here.2).c2.2⟩) (fun hHeld => ?_)
      clear hK K
      try simp only [Act.put, List.setIfInBounds_toArray, List.set_cons_zero, List.set_cons_succ, List.getElem_toArray, List.getElem_cons_succ, List.getElem_cons_zero]
      refine wpAnyH_ready (rs := [8]) (by kernel_rfl) (by simp) (AllReadyH.cons rfl (fun K hK => ?_) (AllReadyH.nil))
      go_simp
      refine (lright_f (HT.out.below hE.bel) HB.out HR2.out).mono ?_
      rintro e w4 ⟨rfl, hb⟩
      replace hE := hE.step hb
      clear hb
      go_wp2_with fail
      refine hK.out _ _ (⟨(hE.here.1.2).c3.1, (hE.here.1.2).c3.2.1, (hE.here.1.2).c3.2.2, (hE.here.2).c2.1, (hE.here.2).c2.2⟩) (fun hHeld => ?_)
      clear hK K
      try simp only [Act.put, List.setIfInBounds_toArray, List.set_cons_zero, List.set_cons_succ, List.getElem_toArray, List.getElem_cons_succ, List.getElem_cons_zero]
      refine wpAnyH_take (i := 9) (v := ?v2_9_7) rfl (by kernel_rfl) (by kernel_rfl) (by kernel_rfl) (fun _ _ _ h => h) (Or.inl ⟨by rfl, ?hy2_9_7⟩) (by assumption) ?rest2_9_7
      case hy2_9_7 => intro w hSw; (try dsimp only at hSw); first | (go_simp; done) | (go_simp; with_reducible rfl)
      try simp only [Act.put, List.setIfInBounds_toArray, List.set_cons_zero, List.set_cons_succ, List.getElem_toArray, List.getElem_cons_succ, List.getElem_cons_zero]
      refine wpAnyH_take (i := 10) (v := ?v2_10_8) rfl (by kernel_rfl) (by kernel_rfl) (by kernel_rfl) (fun _ _ _ h => h) (Or.inl ⟨by rfl, ?hy2_10_8⟩) (by assumption) ?rest2_10_8
      case hy2_10_8 => intro w hSw; (try dsimp only at hSw); first | (go_simp; done) | (go_simp; with_reducible rfl)
      try simp only [Act.put, List.setIfInBounds_toArray, List.set_cons_zero, List.set_cons_succ, List.getElem_toArray, List.getElem_cons_succ, List.getElem_cons_zero]
      refine wpAnyH_done (by kernel_rfl) ?_ _
      go_wp2_with fail
      go_ret
      exact ⟨rfl, hE.bel⟩
  · have HU := Lib.hid hU
    clear hU
    have hE := ((Env.start w).blk 24 #[.int .i64 F, .int .i64 S, .slice A n c] (g := w.heap.size) rfl).blk 26 #[.int .i64 E, .int .i64 Y] (g := w.heap.size + 1) (by simp)
    obtain ⟨W0, hW0⟩ : ∃ W0, W0 = ((w.alloc (.cells #[.int .i64 F, .int .i64 S, .slice A n c] 24)).alloc (.cells #[.int .i64 E, .int .i64 Y] 26)) := ⟨_, rfl⟩
    rw [← hW0] at hE
    have HW0 := Lib.hid hW0
    clear hW0
    go_enter Tryz.func9, Tryz.ntmps9
    go_upto_region 1 with (fail)
    rw [← HW0.out]
    go_wp2_with fail
    refine (awake_t _).mono ?_
    rintro e w1 ⟨rfl, hb⟩
    replace hE := hE.step hb
    clear hb
    go_upto_region 3 with (fail)
    replace hE := hE.drew
    refine wp_region_held_drew (S := fun w' => w'.cell? ⟨w.heap.size, 0, none⟩ = some (.int .i64 F) ∧ w'.cell? ⟨w.heap.size, 1, none⟩ = some (.int .i64 S) ∧ w'.cell? ⟨w.heap.size, 2, none⟩ = some (.slice A n c) ∧ w'.cell? ⟨w.heap.size + 1, 0, none⟩ = some (.int .i64 E) ∧ w'.cell? ⟨w.heap.size + 1, 1, none⟩ = some (.int .i64 Y)) (by kernel_rfl) (⟨(hE.here.1.2).c3.1, (hE.here.1.2).c3.2.1, (hE.here.1.2).c3.2.2, (hE.here.2).c2.1, (hE.here.2).c2.2⟩) (fun hHeld => ?_)
    refine wpAnyH_take (i := 0) (v := ?v1_0_1) rfl (by kernel_rfl) (by kernel_rfl) (by kernel_rfl) (fun _ _ _ h => h) (Or.inl ⟨by rfl, ?hy1_0_1⟩) (by assumption) ?rest1_0_1
    case hy1_0_1 => intro w hSw; (try dsimp only at hSw); first | (go_simp; done) | (go_simp; with_reducible rfl)
    try simp only [Act.put, List.setIfInBounds_toArray, List.set_cons_zero, List.set_cons_succ, List.getElem_toArray, List.getElem_cons_succ, List.getElem_cons_zero]
    refine wpAnyH_take (i := 1) (v := ?v1_1_2) rfl (by kernel_rfl) (by kernel_rfl) (by kernel_rfl) (fun _ _ _ h => h) (Or.inl ⟨by rfl, ?hy1_1_2⟩) (by assumption) ?rest1_1_2
    case hy1_1_2 => intro w hSw; (try dsimp only at hSw); first | (go_simp; done) | (go_simp; with_reducible rfl)
    try simp only [Act.put, List.setIfInBounds_toArray, List.set_cons_zero, List.set_cons_succ, List.getElem_toArray, List.getElem_cons_succ, List.getElem_cons_zero]
    refine wpAnyH_ready (rs := [2]) (by kernel_rfl) (by simp) (AllReadyH.cons rfl (fun K hK => ?_) (AllReadyH.nil))
    go_simp
    refine (usable_f (HT.out.below hE.bel) HU.out).mono ?_
    rintro e w2 ⟨rfl, hb⟩
    replace hE := hE.step hb
    clear hb
    go_wp2_with fail
    refine hK.out _ _ (⟨(hE.here.1.2).c3.1, (hE.here.1.2).c3.2.1, (hE.here.1.2).c3.2.2, (hE.here.2).c2.1, (hE.here.2).c2.2⟩) (fun hHeld => ?_)
    clear hK K
    try simp only [Act.put, List.setIfInBounds_toArray, List.set_cons_zero, List.set_cons_succ, List.getElem_toArray, List.getElem_cons_succ, List.getElem_cons_zero]
    refine wpAnyH_take (i := 3) (v := ?v1_3_3) rfl (by kernel_rfl) (by kernel_rfl) (by kernel_rfl) (fun _ _ _ h => h) (Or.inl ⟨by rfl, ?hy1_3_3⟩) (by assumption) ?rest1_3_3
    case hy1_3_3 => intro w hSw; (try dsimp only at hSw); first | (go_simp; done) | (go_simp; with_reducible rfl)
    try simp only [Act.put, List.setIfInBounds_toArray, List.set_cons_zero, List.set_cons_succ, List.getElem_toArray, List.getElem_cons_succ, List.getElem_cons_zero]
    refine wpAnyH_take (i := 4) (v := ?v1_4_4) rfl (by kernel_rfl) (by kernel_rfl) (by kernel_rfl) (fun _ _ _ h => h) (Or.inl ⟨by rfl, ?hy1_4_4⟩) (by assumption) ?rest1_4_4
    case hy1_4_4 => intro w hSw; (try dsimp only at hSw); first | (go_simp; done) | (go_simp; with_reducible rfl)
    try simp only [Act.put, List.setIfInBounds_toArray, List.set_cons_zero, List.set_cons_succ, List.getElem_toArray, List.getElem_cons_succ, List.getElem_cons_zero]
    refine wpAnyH_take (i := 5) (v := undef) rfl (by kernel_rfl) (by kernel_rfl) (by kernel_rfl) (fun _ _ _ h => h) (Or.inr ⟨by rfl, rfl⟩) (by assumption) ?rest1_5_5
    try simp only [Act.put, List.setIfInBounds_toArray, List.set_cons_zero, List.set_cons_succ, List.getElem_toArray, List.getElem_cons_succ, List.getElem_cons_zero]
    refine wpAnyH_take (i := 6) (v := undef) rfl (by kernel_rfl) (by kernel_rfl) (by kernel_rfl) (fun _ _ _ h => h) (Or.inr ⟨by rfl, rfl⟩) (by assumption) ?rest1_6_6
    try simp only [Act.put, List.setIfInBounds_toArray, List.set_cons_zero, List.set_cons_succ, List.getElem_toArray, List.getElem_cons_succ, List.getElem_cons_zero]
    refine wpAnyH_take (i := 7) (v := undef) rfl (by kernel_rfl) (by kernel_rfl) (by kernel_rfl) (fun _ _ _ h => h) (Or.inr ⟨by rfl, rfl⟩) (by assumption) ?rest1_7_7
    try simp only [Act.put, List.setIfInBounds_toArray, List.set_cons_zero, List.set_cons_succ, List.getElem_toArray, List.getElem_cons_succ, List.getElem_cons_zero]
    refine wpAnyH_take (i := 8) (v := undef) rfl (by kernel_rfl) (by kernel_rfl) (by kernel_rfl) (fun _ _ _ h => h) (Or.inr ⟨by rfl, rfl⟩) (by assumption) ?rest1_8_8
    try simp only [Act.put, List.setIfInBounds_toArray, List.set_cons_zero, List.set_cons_succ, List.getElem_toArray, List.getElem_cons_succ, List.getElem_cons_zero]
    refine wpAnyH_take (i := 9) (v := undef) rfl (by kernel_rfl) (by kernel_rfl) (by kernel_rfl) (fun _ _ _ h => h) (Or.inr ⟨by rfl, rfl⟩) (by assumption) ?rest1_9_9
    try simp only [Act.put, List.setIfInBounds_toArray, List.set_cons_zero, List.set_cons_succ, List.getElem_toArray, List.getElem_cons_succ, List.getElem_cons_zero]
    refine wpAnyH_take (i := 10) (v := ?v1_10_10) rfl (by kernel_rfl) (by kernel_rfl) (by kernel_rfl) (fun _ _ _ h => h) (Or.inl ⟨by rfl, ?hy1_10_10⟩) (by assumption) ?rest1_10_10
    case hy1_10_10 => intro w hSw; (try dsimp only at hSw); first | (go_simp; done) | (go_simp; with_reducible rfl)
    try simp only [Act.put, List.setIfInBounds_toArray, List.set_cons_zero, List.set_cons_succ, List.getElem_toArray, List.getElem_cons_succ, List.getElem_cons_zero]
    refine wpAnyH_done (by kernel_rfl) ?_ _
    go_wp2_with fail
    go_ret
    exact ⟨rfl, hE.bel⟩
end Go.Proofs.YtgkepllfdhcdpaaGreat
