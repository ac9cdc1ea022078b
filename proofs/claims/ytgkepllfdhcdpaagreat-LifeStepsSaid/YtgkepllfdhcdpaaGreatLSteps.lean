/-
  The walk of LifeSteps.
-/
import Derived.Test.YtgkepllfdhcdpaaGreatK14
namespace Go.Proofs.YtgkepllfdhcdpaaGreat
open Go.RowKit


theorem fr_moved (F S : Int) (n : Nat) (r : Nat → RH) (E Y : Int) (m : Nat) : fr F S n r E (Y + (m : Int)) = fun i => fr F S n r E Y (m + i) := by
  funext i
  exact rt_later F S n r E Y m i
/-- The plain law of LifeSteps. -/
theorem steps_law (F S : Int) (n : Nat) (r : Nat → RH) (E Y : Int) (m k : Nat) :
    pr (fr F S n r E Y) m * pr (fr F S n r E (Y + (m : Int))) k = pr (fr F S n r E Y) (m + k) ∧
    pr (fr F S n r E Y) m * (pr (fr F S n r E (Y + (m : Int))) k * fr F S n r E (Y + (m : Int)) k) = pr (fr F S n r E Y) (m + k) * fr F S n r E Y (m + k) ∧
    fr F S n r E Y 0 = pr (fr F S n r E Y) 0 * fr F S n r E Y 0 ∧ pr (fr F S n r E Y) 1 = 1 - fr F S n r E Y 0 := by
  have h1 := pr_more (fr F S n r E Y) m k
  rw [fr_moved]
  refine ⟨h1.symm, ?_, ?_, ?_⟩
  · rw [h1]; grind
  · simp only [pr]; grind
  · simp only [pr]; grind
set_option linter.unusedSimpArgs false in
set_option maxRecDepth 100000 in
set_option maxHeartbeats 16000000 in
theorem lsteps_walk0 (F S E Y : Int) (A : Option Addr) (n c : Nat) (r : Nat → RH) (w : World) (hT : TabM w A n r) (m k : Nat) (hm : m ≤ 255) (hn : k ≤ 255) :
    Calls Tryz.prog 7 #[.agg #[.int .i64 F, .int .i64 S, .slice A n c], .agg #[.int .i64 E, .int .i64 Y], .int .u8 (m : Int), .int .u8 (k : Int)] w fun e w' => e = .returned (.bool true) ∧ Below w.heap.size w w' := by
  have HT := Lib.hid hT
  clear hT
  have o1 : IntKind.i64.wrap (m : Int) = (m : Int) := by rw [IntKind.wrap_i64]; omega
  have o2 : IntKind.i64.wrap (k : Int) = (k : Int) := by rw [IntKind.wrap_i64]; omega
  have Hhm := Lib.hid hm
  have Hhn := Lib.hid hn
  clear hm hn
  by_cases hU : TabS n r 25 8 2 ∧ RightP F S n r E Y
  · have HU := Lib.hid hU
    have HB := Lib.hid (hU.1.b (by decide) (by decide) (by decide))
    clear hU
    by_cases hR2 : RightP F S n r E (Y + (m : Int))
    · have HR2 := Lib.hid hR2
      clear hR2
      have hm := Hhm.out
      have hn := Hhn.out
      have o3 : IntKind.i64.wrap ((m : Int) + (k : Int)) = ((m + k : Nat) : Int) := by rw [IntKind.wrap_i64]; omega
      obtain ⟨g1, g2, g3, g4⟩ := steps_law F S n r E Y m k
      have sQA : Sm (pr (fr F S n r E Y) m) 113 := (life_sm HT.out HU.out.2 m).more (by decide)
      have sQB : Sm (pr (fr F S n r E (Y + (m : Int))) k) 113 := (life_sm HT.out HR2.out k).more (by decide)
      have sQC : Sm (pr (fr F S n r E Y) (m + k)) 113 := (life_sm HT.out HU.out.2 (m + k)).more (by decide)
      have sQD : Sm (pr (fr F S n r E Y) (m + k) * fr F S n r E Y (m + k)) 113 := life_smd HT.out HU.out.2 (m + k)
      have sQI : Sm (pr (fr F S n r E (Y + (m : Int))) k * fr F S n r E (Y + (m : Int)) k) 113 := life_smd HT.out HR2.out k
      have sQL : Sm (pr (fr F S n r E Y) 0 * fr F S n r E Y 0) 113 := life_smd HT.out HU.out.2 0
      have sQQ : Sm (fr F S n r E Y 0) 113 := ((rt_rates HT.out HU.out.2 200).sm (show 0 < 200 by decide)).more (by decide)
      have sQP : Sm (pr (fr F S n r E Y) 1) 113 := (life_sm HT.out HU.out.2 1).more (by decide)
      have cQA := fun w (h : TabM w A n r) => lAlive_v (c := c) h HB.out HU.out.2 m (by omega)
      have cQB := fun w (h : TabM w A n r) => lAlive_v (c := c) h HB.out HR2.out k (by omega)
      have cQC := fun w (h : TabM w A n r) => lAlive_v (c := c) h HB.out HU.out.2 (m + k) (by omega)
      have cQD := fun w (h : TabM w A n r) => lDies_v (c := c) h HB.out HU.out.2 (m + k) (by omega)
      have cQI := fun w (h : TabM w A n r) => lDies_v (c := c) h HB.out HR2.out k (by omega)
      have cQQ := fun w (h : TabM w A n r) => lRate_v (c := c) h HB.out HU.out.2
      have cQL := fun w (h : TabM w A n r) => lDies_v (c := c) h HB.out HU.out.2 0 (by omega)
      have cQP := fun w (h : TabM w A n r) => lAlive_v (c := c) h HB.out HU.out.2 1 (by omega)
      obtain ⟨QD, hQD⟩ : ∃ q, q = pr (fr F S n r E Y) (m + k) * fr F S n r E Y (m + k) := ⟨_, rfl⟩
      obtain ⟨QI, hQI⟩ : ∃ q, q = pr (fr F S n r E (Y + (m : Int))) k * fr F S n r E (Y + (m : Int)) k := ⟨_, rfl⟩
      obtain ⟨QL, hQL⟩ : ∃ q, q = pr (fr F S n r E Y) 0 * fr F S n r E Y 0 := ⟨_, rfl⟩
      rw [← hQI, ← hQD] at g2
      rw [← hQL] at g3
      rw [← hQD] at sQD cQD
      rw [← hQI] at sQI cQI
      rw [← hQL] at sQL cQL
      obtain ⟨QA, hQA⟩ : ∃ q, q = pr (fr F S n r E Y) m := ⟨_, rfl⟩
      rw [← hQA] at sQA cQA
      obtain ⟨QB, hQB⟩ : ∃ q, q = pr (fr F S n r E (Y + (m : Int))) k := ⟨_, rfl⟩
      rw [← hQB] at sQB cQB
      obtain ⟨QC, hQC⟩ : ∃ q, q = pr (fr F S n r E Y) (m + k) := ⟨_, rfl⟩
      rw [← hQC] at sQC cQC
      obtain ⟨QQ, hQQ⟩ : ∃ q, q = fr F S n r E Y 0 := ⟨_, rfl⟩
      rw [← hQQ] at sQQ cQQ
      obtain ⟨QP, hQP⟩ : ∃ q, q = pr (fr F S n r E Y) 1 := ⟨_, rfl⟩
      rw [← hQP] at sQP cQP
      rw [← hQA, ← hQB, ← hQC] at g1
      rw [← hQA] at g2
      rw [← hQQ] at g3
      rw [← hQP, ← hQQ] at g4
      have f1 : fl (QA * QB) ≤ 256 := by rw [g1]; exact sQC.l (by decide)
      have f2 : fl (QA * QI) ≤ 256 := by rw [g2]; exact sQD.l (by decide)
      have Hg1 := Lib.hid g1
      clear g1
      have Hg2 := Lib.hid g2
      clear g2
      have Hg3 := Lib.hid g3
      clear g3
      have Hg4 := Lib.hid g4
      clear g4
      have Hf1 := Lib.hid f1
      clear f1
      have Hf2 := Lib.hid f2
      clear f2
      have HsQA := Lib.hid sQA
      clear sQA
      have HsQB := Lib.hid sQB
      clear sQB
      have HsQC := Lib.hid sQC
      clear sQC
      have HsQD := Lib.hid sQD
      clear sQD
      have HsQI := Lib.hid sQI
      clear sQI
      have HsQL := Lib.hid sQL
      clear sQL
      have HsQQ := Lib.hid sQQ
      clear sQQ
      have HsQP := Lib.hid sQP
      clear sQP
      have HcQA := Lib.hid cQA
      clear cQA
      have HcQB := Lib.hid cQB
      clear cQB
      have HcQC := Lib.hid cQC
      clear cQC
      have HcQD := Lib.hid cQD
      clear cQD
      have HcQI := Lib.hid cQI
      clear cQI
      have HcQL := Lib.hid cQL
      clear cQL
      have HcQQ := Lib.hid cQQ
      clear cQQ
      have HcQP := Lib.hid cQP
      clear cQP
      have HhQA := Lib.hid hQA
      clear hQA
      have HhQB := Lib.hid hQB
      clear hQB
      have HhQC := Lib.hid hQC
      clear hQC
      have HhQD := Lib.hid hQD
      clear hQD
      have HhQI := Lib.hid hQI
      clear hQI
      have HhQL := Lib.hid hQL
      clear hQL
      have HhQQ := Lib.hid hQQ
      clear hQQ
      have HhQP := Lib.hid hQP
      clear hQP
      clear hm hn
      have hE := ((Env.start w).blk 24 #[.int .i64 F, .int .i64 S, .slice A n c] (g := w.heap.size) rfl).blk 26 #[.int .i64 E, .int .i64 Y] (g := w.heap.size + 1) (by simp)
      obtain ⟨W0, hW0⟩ : ∃ W0, W0 = ((w.alloc (.cells #[.int .i64 F, .int .i64 S, .slice A n c] 24)).alloc (.cells #[.int .i64 E, .int .i64 Y] 26)) := ⟨_, rfl⟩
      rw [← hW0] at hE
      have HW0 := Lib.hid hW0
      clear hW0
      go_enter Tryz.func7, Tryz.ntmps7
      go_upto_region 1 with (fail)
      rw [← HW0.out]
      go_wp2_with fail
      refine (awake_t _).mono ?_
      rintro e w1 ⟨rfl, hb⟩
      replace hE := hE.step hb
      clear hb
      go_upto_region 3 with (fail)
      replace hE := hE.drew
      refine wp_region_held_drew (S := fun w' => w'.cell? ⟨w.heap.size, 0, none⟩ = some (.int .i64 F) ∧ w'.cell? ⟨w.heap.size, 1, none⟩ = some (.int .i64 S) ∧ w'.cell? ⟨w.heap.size, 2, none⟩ = some (.slice A n c) ∧ w'.cell? ⟨w.heap.size + 1, 0, none⟩ = some (.int .i64 E) ∧ w'.cell? ⟨w.heap.size + 1, 1, none⟩ = some (.int .i64 Y)) (by kernel_rfl) (⟨(hE.here.1.2).c3.1, (hE.here.1.2).c3.2.1, (hE.here.1.2).c3.2.2, (hE.here.2).c2.1, (hE.here.2).c2.2⟩) (fun hHeld => ?_)
      refine wpAnyH_take (i := 0) (v := ?v3_0_1) rfl (by kernel_rfl) (by kernel_rfl) (by kernel_rfl) (fun _ _ _ h => h) (Or.inl ⟨by rfl, ?hy3_0_1⟩) (by assumption) ?rest3_0_1
      case hy3_0_1 => intro w hSw; (try dsimp only at hSw); first | (go_simp; done) | (go_simp; with_reducible rfl)
      try simp only [Act.put, List.setIfInBounds_toArray, List.set_cons_zero, List.set_cons_succ, List.getElem_toArray, List.getElem_cons_succ, List.getElem_cons_zero]
      refine wpAnyH_take (i := 1) (v := ?v3_1_2) rfl (by kernel_rfl) (by kernel_rfl) (by kernel_rfl) (fun _ _ _ h => h) (Or.inl ⟨by rfl, ?hy3_1_2⟩) (by assumption) ?rest3_1_2
      case hy3_1_2 => intro w hSw; (try dsimp only at hSw); first | (go_simp; done) | (go_simp; with_reducible rfl)
      try simp only [Act.put, List.setIfInBounds_toArray, List.set_cons_zero, List.set_cons_succ, List.getElem_toArray, List.getElem_cons_succ, List.getElem_cons_zero]
      refine wpAnyH_ready (rs := [2]) (by kernel_rfl) (by simp) (AllReadyH.cons rfl (fun K hK => ?_) (AllReadyH.nil))
      go_simp
      refine (usable_t (HT.out.below hE.bel) HU.out).mono ?_
      rintro e w2 ⟨rfl, hb⟩
      replace hE := hE.step hb
      clear hb
      go_wp2_with fail
      refine hK.out _ _ (⟨(hE.here.1.2).c3.1, (hE.here.1.2).c3.2.1, (hE.here.1.2).c3.2.2, (hE.here.2).c2.1, (hE.here.2).c2.2⟩) (fun hHeld => ?_)
      clear hK K
      try simp only [Act.put, List.setIfInBounds_toArray, List.set_cons_zero, List.set_cons_succ, List.getElem_toArray, List.getElem_cons_succ, List.getElem_cons_zero]
      refine wpAnyH_take (i := 3) (v := ?v3_3_3) rfl (by kernel_rfl) (by kernel_rfl) (by kernel_rfl) (fun _ _ _ h => h) (Or.inl ⟨by rfl, ?hy3_3_3⟩) (by assumption) ?rest3_3_3
      case hy3_3_3 => intro w hSw; (try dsimp only at hSw); first | (go_simp; done) | (go_simp; with_reducible rfl)
      try simp only [Act.put, List.setIfInBounds_toArray, List.set_cons_zero, List.set_cons_succ, List.getElem_toArray, List.getElem_cons_succ, List.getElem_cons_zero]
      refine wpAnyH_take (i := 4) (v := ?v3_4_4) rfl (by kernel_rfl) (by kernel_rfl) (by kernel_rfl) (fun _ _ _ h => h) (Or.inl ⟨by rfl, ?hy3_4_4⟩) (by assumption) ?rest3_4_4
      case hy3_4_4 => intro w hSw; (try dsimp only at hSw); first | (go_simp; done) | (go_simp; with_reducible rfl)
      try simp only [Act.put, List.setIfInBounds_toArray, List.set_cons_zero, List.set_cons_succ, List.getElem_toArray, List.getElem_cons_succ, List.getElem_cons_zero]
      refine wpAnyH_take (i := 5) (v := ?v3_5_5) rfl (by kernel_rfl) (by kernel_rfl) (by kernel_rfl) (fun _ _ _ h => h) (Or.inl ⟨by rfl, ?hy3_5_5⟩) (by assumption) ?rest3_5_5
      case hy3_5_5 => intro w hSw; (try dsimp only at hSw); first | (go_simp; done) | (go_simp; with_reducible rfl)
      try simp only [Act.put, List.setIfInBounds_toArray, List.set_cons_zero, List.set_cons_succ, List.getElem_toArray, List.getElem_cons_succ, List.getElem_cons_zero]
      refine wpAnyH_take (i := 6) (v := ?v3_6_6) rfl (by kernel_rfl) (by kernel_rfl) (by kernel_rfl) (fun _ _ _ h => h) (Or.inl ⟨by rfl, ?hy3_6_6⟩) (by assumption) ?rest3_6_6
      case hy3_6_6 => intro w hSw; (try dsimp only at hSw); first | (go_simp; done) | (go_simp; with_reducible rfl)
      try simp only [Act.put, List.setIfInBounds_toArray, List.set_cons_zero, List.set_cons_succ, List.getElem_toArray, List.getElem_cons_succ, List.getElem_cons_zero]
      refine wpAnyH_take (i := 7) (v := ?v3_7_7) rfl (by kernel_rfl) (by kernel_rfl) (by kernel_rfl) (fun _ _ _ h => h) (Or.inl ⟨by rfl, ?hy3_7_7⟩) (by assumption) ?rest3_7_7
      case hy3_7_7 => intro w hSw; (try dsimp only at hSw); first | (go_simp; done) | (go_simp; with_reducible rfl)
      try simp only [Act.put, List.setIfInBounds_toArray, List.set_cons_zero, List.set_cons_succ, List.getElem_toArray, List.getElem_cons_succ, List.getElem_cons_zero]
      refine wpAnyH_take (i := 8) (v := ?v3_8_8) rfl (by kernel_rfl) (by kernel_rfl) (by kernel_rfl) (fun _ _ _ h => h) (Or.inl ⟨by rfl, ?hy3_8_8⟩) (by assumption) ?rest3_8_8
      case hy3_8_8 => intro w hSw; (try dsimp only at hSw); first | (go_simp; done) | (go_simp; with_reducible rfl)
      try simp only [Act.put, List.setIfInBounds_toArray, List.set_cons_zero, List.set_cons_succ, List.getElem_toArray, List.getElem_cons_succ, List.getElem_cons_zero]
      refine wpAnyH_ready (rs := [9]) (by kernel_rfl) (by simp) (AllReadyH.cons rfl (fun K hK => ?_) (AllReadyH.nil))
      go_simp
      obtain ⟨y0, y300⟩ : 0 ≤ Y ∧ Y ≤ 300 := HU.out.2.2.2.2
      have hm9 := Hhm.out
      refine (later_v E Y (m : Int) _ y0 (by omega) (by omega) (by omega)).mono ?_
      rintro e w3 ⟨rfl, hb⟩
      replace hE := hE.step hb
      clear hb
      clear y0 y300 hm9
      go_wp2_with fail
      refine hK.out _ _ (⟨(hE.here.1.2).c3.1, (hE.here.1.2).c3.2.1, (hE.here.1.2).c3.2.2, (hE.here.2).c2.1, (hE.here.2).c2.2⟩) (fun hHeld => ?_)
      clear hK K
      try simp only [Act.put, List.setIfInBounds_toArray, List.set_cons_zero, List.set_cons_succ, List.getElem_toArray, List.getElem_cons_succ, List.getElem_cons_zero]
      refine wpAnyH_ready (rs := [10]) (by kernel_rfl) (by simp) (AllReadyH.cons rfl (fun K hK => ?_) (AllReadyH.nil))
      go_simp
      refine (lright_t (HT.out.below hE.bel) HB.out HR2.out).mono ?_
      rintro e w4 ⟨rfl, hb⟩
      replace hE := hE.step hb
      clear hb
      go_wp2_with fail
      refine hK.out _ _ (⟨(hE.here.1.2).c3.1, (hE.here.1.2).c3.2.1, (hE.here.1.2).c3.2.2, (hE.here.2).c2.1, (hE.here.2).c2.2⟩) (fun hHeld => ?_)
      clear hK K
      try simp only [Act.put, List.setIfInBounds_toArray, List.set_cons_zero, List.set_cons_succ, List.getElem_toArray, List.getElem_cons_succ, List.getElem_cons_zero]
      refine wpAnyH_take (i := 11) (v := ?v3_11_9) rfl (by kernel_rfl) (by kernel_rfl) (by kernel_rfl) (fun _ _ _ h => h) (Or.inl ⟨by rfl, ?hy3_11_9⟩) (by assumption) ?rest3_11_9
      case hy3_11_9 => intro w hSw; (try dsimp only at hSw); first | (go_simp; done) | (go_simp; with_reducible rfl)
      try simp only [Act.put, List.setIfInBounds_toArray, List.set_cons_zero, List.set_cons_succ, List.getElem_toArray, List.getElem_cons_succ, List.getElem_cons_zero]
      refine wpAnyH_take (i := 12) (v := ?v3_12_10) rfl (by kernel_rfl) (by kernel_rfl) (by kernel_rfl) (fun _ _ _ h => h) (Or.inl ⟨by rfl, ?hy3_12_10⟩) (by assumption) ?rest3_12_10
      case hy3_12_10 => intro w hSw; (try dsimp only at hSw); first | (go_simp; done) | (go_simp; with_reducible rfl)
      try simp only [Act.put, List.setIfInBounds_toArray, List.set_cons_zero, List.set_cons_succ, List.getElem_toArray, List.getElem_cons_succ, List.getElem_cons_zero]
      refine wpAnyH_done (by kernel_rfl) ?_ _
      go_upto_region 5 with (fail)
      obtain ⟨k5, k6, k7⟩ := (hE.here.1.2).c3
      obtain ⟨k8, k9⟩ := (hE.here.2).c2
      go_wp2_with fail
      refine (HcQA.out _ (HT.out.below hE.bel)).mono ?_
      clear k5 k6 k7 k8 k9
      rintro e w10 ⟨sqa, Aqa, nqa, cqa, tiqa, Bqa, mqa, dqa, rfl, hqa, hb⟩
      replace hE := hE.step hb
      clear hb
      replace hE := hE.fv hqa
      clear hqa
      go_upto_region 6 with (fail)
      obtain ⟨g11, hg11⟩ : ∃ g11, g11 = w10.heap.size := ⟨_, rfl⟩
      have hl11_0 : w.heap.size < g11 := by rw [hg11]; exact (hE.here.1.1.2).lt
      have hl11_1 : w.heap.size + 1 < g11 := by rw [hg11]; exact (hE.here.1.2).lt
      replace hE := hE.blk 40 #[.bool sqa, .slice Aqa nqa cqa, .bool tiqa, .slice Bqa mqa dqa] (g := g11) hg11.symm
      generalize w10.alloc (.cells #[.bool sqa, .slice Aqa nqa cqa, .bool tiqa, .slice Bqa mqa dqa] 40) = W11 at hE ⊢
      rw [← hg11]
      clear hg11
      go_cut [11, 12] from 48 to 58 (fun p q wx => ∃ G6 sqb Aqb nqb cqb tiqb Bqb mqb dqb, p = .pointer (some ⟨G6, 0, none⟩) ∧ q = .int .i64 0 ∧ Env w (fun V => ((((((True ∧ Blk 24 (w.heap.size) #[.int .i64 F, .int .i64 S, .slice A n c] V) ∧ Blk 26 (w.heap.size + 1) #[.int .i64 E, .int .i64 Y] V) ∧ FV V QA sqa Aqa nqa tiqa Bqa mqa) ∧ Blk 40 (g11) #[.bool sqa, .slice Aqa nqa cqa, .bool tiqa, .slice Bqa mqa dqa] V) ∧ FV V QB sqb Aqb nqb tiqb Bqb mqb) ∧ Blk 40 (G6) #[.bool sqb, .slice Aqb nqb cqb, .bool tiqb, .slice Bqb mqb dqb] V)) wx)
      case first =>
        replace hE := hE.drew
        refine wp_region_held_drew (S := fun w' => w'.cell? ⟨w.heap.size, 0, none⟩ = some (.int .i64 F) ∧ w'.cell? ⟨w.heap.size, 1, none⟩ = some (.int .i64 S) ∧ w'.cell? ⟨w.heap.size, 2, none⟩ = some (.slice A n c) ∧ w'.cell? ⟨w.heap.size + 1, 0, none⟩ = some (.int .i64 E) ∧ w'.cell? ⟨w.heap.size + 1, 1, none⟩ = some (.int .i64 Y)) (by kernel_rfl) (⟨(hE.here.1.1.1.2).c3.1, (hE.here.1.1.1.2).c3.2.1, (hE.here.1.1.1.2).c3.2.2, (hE.here.1.1.2).c2.1, (hE.here.1.1.2).c2.2⟩) (fun hHeld => ?_)
        generalize W11.drew = wd at *
        refine wpAnyH_take (i := 0) (v := ?v4_0_1) rfl (by kernel_rfl) (by kernel_rfl) (by kernel_rfl) (fun _ _ _ h => h) (Or.inl ⟨by rfl, ?hy4_0_1⟩) (by assumption) ?rest4_0_1
        case hy4_0_1 => intro w hSw; (try dsimp only at hSw); first | (go_simp; done) | (go_simp; with_reducible rfl)
        try simp only [Act.put, List.setIfInBounds_toArray, List.set_cons_zero, List.set_cons_succ, List.getElem_toArray, List.getElem_cons_succ, List.getElem_cons_zero]
        refine wpAnyH_take (i := 1) (v := ?v4_1_2) rfl (by kernel_rfl) (by kernel_rfl) (by kernel_rfl) (fun _ _ _ h => h) (Or.inl ⟨by rfl, ?hy4_1_2⟩) (by assumption) ?rest4_1_2
        case hy4_1_2 => intro w hSw; (try dsimp only at hSw); first | (go_simp; done) | (go_simp; with_reducible rfl)
        try simp only [Act.put, List.setIfInBounds_toArray, List.set_cons_zero, List.set_cons_succ, List.getElem_toArray, List.getElem_cons_succ, List.getElem_cons_zero]
        refine wpAnyH_take (i := 2) (v := ?v4_2_3) rfl (by kernel_rfl) (by kernel_rfl) (by kernel_rfl) (fun _ _ _ h => h) (Or.inl ⟨by rfl, ?hy4_2_3⟩) (by assumption) ?rest4_2_3
        case hy4_2_3 => intro w hSw; (try dsimp only at hSw); first | (go_simp; done) | (go_simp; with_reducible rfl)
        try simp only [Act.put, List.setIfInBounds_toArray, List.set_cons_zero, List.set_cons_succ, List.getElem_toArray, List.getElem_cons_succ, List.getElem_cons_zero]
        refine wpAnyH_take (i := 3) (v := ?v4_3_4) rfl (by kernel_rfl) (by kernel_rfl) (by kernel_rfl) (fun _ _ _ h => h) (Or.inl ⟨by rfl, ?hy4_3_4⟩) (by assumption) ?rest4_3_4
        case hy4_3_4 => intro w hSw; (try dsimp only at hSw); first | (go_simp; done) | (go_simp; with_reducible rfl)
        try simp only [Act.put, List.setIfInBounds_toArray, List.set_cons_zero, List.set_cons_succ, List.getElem_toArray, List.getElem_cons_succ, List.getElem_cons_zero]
        refine wpAnyH_take (i := 5) (v := ?v4_5_5) rfl (by kernel_rfl) (by kernel_rfl) (by kernel_rfl) (fun _ _ _ h => h) (Or.inl ⟨by rfl, ?hy4_5_5⟩) (by assumption) ?rest4_5_5
        case hy4_5_5 => intro w hSw; (try dsimp only at hSw); first | (go_simp; done) | (go_simp; with_reducible rfl)
        try simp only [Act.put, List.setIfInBounds_toArray, List.set_cons_zero, List.set_cons_succ, List.getElem_toArray, List.getElem_cons_succ, List.getElem_cons_zero]
        refine wpAnyH_take (i := 6) (v := ?v4_6_6) rfl (by kernel_rfl) (by kernel_rfl) (by kernel_rfl) (fun _ _ _ h => h) (Or.inl ⟨by rfl, ?hy4_6_6⟩) (by assumption) ?rest4_6_6
        case hy4_6_6 => intro w hSw; (try dsimp only at hSw); first | (go_simp; done) | (go_simp; with_reducible rfl)
        try simp only [Act.put, List.setIfInBounds_toArray, List.set_cons_zero, List.set_cons_succ, List.getElem_toArray, List.getElem_cons_succ, List.getElem_cons_zero]
        refine wpAnyH_ready (rs := [4, 11]) (by kernel_rfl) (by simp) (AllReadyH.cons rfl (fun K hK => ?_) (AllReadyH.cons rfl (fun K hK => ?_) (AllReadyH.nil)))
        · skip
          go_simp
          obtain ⟨y0, y300⟩ : 0 ≤ Y ∧ Y ≤ 300 := HU.out.2.2.2.2
          have hm9 := Hhm.out
          refine (later_v E Y (m : Int) _ y0 (by omega) (by omega) (by omega)).mono ?_
          rintro e w12 ⟨rfl, hb⟩
          replace hE := hE.step hb
          clear hb
          clear y0 y300 hm9
          go_wp2_with fail
          refine hK.out _ _ (⟨(hE.here.1.1.1.2).c3.1, (hE.here.1.1.1.2).c3.2.1, (hE.here.1.1.1.2).c3.2.2, (hE.here.1.1.2).c2.1, (hE.here.1.1.2).c2.2⟩) (fun hHeld => ?_)
          clear hK K
          try simp only [Act.put, List.setIfInBounds_toArray, List.set_cons_zero, List.set_cons_succ, List.getElem_toArray, List.getElem_cons_succ, List.getElem_cons_zero]
          refine wpAnyH_ready (rs := [7, 11]) (by kernel_rfl) (by simp) (AllReadyH.cons rfl (fun K hK => ?_) (AllReadyH.cons rfl (fun K hK => ?_) (AllReadyH.nil)))
          · skip
            go_simp
            refine (HcQB.out _ (HT.out.below hE.bel)).mono ?_
            rintro e w13 ⟨sqb, Aqb, nqb, cqb, tiqb, Bqb, mqb, dqb, rfl, hqb, hb⟩
            replace hE := hE.step hb
            clear hb
            replace hE := hE.fv hqb
            clear hqb
            go_wp2_with fail
            refine hK.out _ _ (⟨(hE.here.1.1.1.1.2).c3.1, (hE.here.1.1.1.1.2).c3.2.1, (hE.here.1.1.1.1.2).c3.2.2, (hE.here.1.1.1.2).c2.1, (hE.here.1.1.1.2).c2.2⟩) (fun hHeld => ?_)
            clear hK K
            try simp only [Act.put, List.setIfInBounds_toArray, List.set_cons_zero, List.set_cons_succ, List.getElem_toArray, List.getElem_cons_succ, List.getElem_cons_zero]
            refine wpAnyH_take (i := 8) (v := ?v4_8_7) rfl (by kernel_rfl) (by kernel_rfl) (by kernel_rfl) (fun _ _ _ h => h) (Or.inl ⟨by rfl, ?hy4_8_7⟩) (by assumption) ?rest4_8_7
            case hy4_8_7 => intro w hSw; (try dsimp only at hSw); first | (go_simp; done) | (go_simp; with_reducible rfl)
            try simp only [Act.put, List.setIfInBounds_toArray, List.set_cons_zero, List.set_cons_succ, List.getElem_toArray, List.getElem_cons_succ, List.getElem_cons_zero]
            refine wpAnyH_take (i := 9) (v := ?v4_9_8) rfl (by kernel_rfl) (by kernel_rfl) (by kernel_rfl) (fun _ _ _ h => h) (Or.inl ⟨by rfl, ?hy4_9_8⟩) (by assumption) ?rest4_9_8
            case hy4_9_8 => intro w hSw; (try dsimp only at hSw); first | (go_simp; done) | (go_simp; with_reducible rfl)
            try simp only [Act.put, List.setIfInBounds_toArray, List.set_cons_zero, List.set_cons_succ, List.getElem_toArray, List.getElem_cons_succ, List.getElem_cons_zero]
            refine wpAnyH_take (i := 10) (v := ?v4_10_9) rfl (by kernel_rfl) (by kernel_rfl) (by kernel_rfl) (fun _ _ _ h => h) (Or.inl ⟨by rfl, ?hy4_10_9⟩) (by assumption) ?rest4_10_9
            case hy4_10_9 => intro w hSw; (try dsimp only at hSw); first | (go_simp; done) | (go_simp; with_reducible rfl)
            try simp only [Act.put, List.setIfInBounds_toArray, List.set_cons_zero, List.set_cons_succ, List.getElem_toArray, List.getElem_cons_succ, List.getElem_cons_zero]
            refine wpAnyH_ready (rs := [11]) (by kernel_rfl) (by simp) (AllReadyH.cons rfl (fun K hK => ?_) (AllReadyH.nil))
            go_simp
            obtain ⟨g14, hg14⟩ : ∃ g14, g14 = w13.heap.size := ⟨_, rfl⟩
            have hl14_0 : w.heap.size < g14 := by rw [hg14]; exact (hE.here.1.1.1.1.2).lt
            have hl14_1 : w.heap.size + 1 < g14 := by rw [hg14]; exact (hE.here.1.1.1.2).lt
            have hl14_3 : g11 < g14 := by rw [hg14]; exact (hE.here.1.2).lt
            replace hE := hE.blk 40 #[.bool false, .slice none 0 0, .bool false, .slice none 0 0] (g := g14) hg14.symm
            generalize w13.alloc (.cells #[.bool false, .slice none 0 0, .bool false, .slice none 0 0] 40) = W14 at hE ⊢
            rw [← hg14]
            clear hg14
            refine hK.out _ _ (⟨(hE.here.1.1.1.1.1.2).c3.1, (hE.here.1.1.1.1.1.2).c3.2.1, (hE.here.1.1.1.1.1.2).c3.2.2, (hE.here.1.1.1.1.2).c2.1, (hE.here.1.1.1.1.2).c2.2⟩) (fun hHeld => ?_)
            clear hK K
            try simp only [Act.put, List.setIfInBounds_toArray, List.set_cons_zero, List.set_cons_succ, List.getElem_toArray, List.getElem_cons_succ, List.getElem_cons_zero]
            refine wpAnyH_ready (rs := [12]) (by kernel_rfl) (by simp) (AllReadyH.cons rfl (fun K hK => ?_) (AllReadyH.nil))
            have hgl15 : w.heap.size ≤ g14 := by omega
            obtain ⟨x15_0, x15_1, x15_2, x15_3⟩ := (hE.here.2).c4
            have f15_0 := (hE.here.2).frozen 0
            have f15_1 := (hE.here.2).frozen 1
            have f15_2 := (hE.here.2).frozen 2
            have f15_3 := (hE.here.2).frozen 3
            replace hE := (((((((Env.again (bel4 hE.bel hgl15 (.bool sqb) (.slice Aqb nqb cqb) (.bool tiqb) (.slice Bqb mqb dqb))).blkI ((hE.here.1.1.1.1.1.2).far4 (R := g14) (by omega) (.bool sqb) (.slice Aqb nqb cqb) (.bool tiqb) (.slice Bqb mqb dqb))).blkI ((hE.here.1.1.1.1.2).far4 (R := g14) (by omega) (.bool sqb) (.slice Aqb nqb cqb) (.bool tiqb) (.slice Bqb mqb dqb))).fv ((hE.here.1.1.1.2).sep4 hE.here.2 rfl (.bool sqb) (.slice Aqb nqb cqb) (.bool tiqb) (.slice Bqb mqb dqb) rfl rfl rfl)).blkI ((hE.here.1.1.2).far4 (R := g14) (by omega) (.bool sqb) (.slice Aqb nqb cqb) (.bool tiqb) (.slice Bqb mqb dqb))).fv ((hE.here.1.2).sep4 hE.here.2 rfl (.bool sqb) (.slice Aqb nqb cqb) (.bool tiqb) (.slice Bqb mqb dqb) rfl rfl rfl)).blkI ((hE.here.2).s4 (.bool sqb) (.slice Aqb nqb cqb) (.bool tiqb) (.slice Bqb mqb dqb)))
            go_simp
            clear x15_0 x15_1 x15_2 x15_3 f15_0 f15_1 f15_2 f15_3 hgl15
            generalize ((((W14.setCell ⟨g14, 0, none⟩ (.bool sqb)).setCell ⟨g14, 1, none⟩ (.slice Aqb nqb cqb)).setCell ⟨g14, 2, none⟩ (.bool tiqb)).setCell ⟨g14, 3, none⟩ (.slice Bqb mqb dqb)) = W15 at hE ⊢
            refine hK.out _ _ (⟨(hE.here.1.1.1.1.1.2).c3.1, (hE.here.1.1.1.1.1.2).c3.2.1, (hE.here.1.1.1.1.1.2).c3.2.2, (hE.here.1.1.1.1.2).c2.1, (hE.here.1.1.1.1.2).c2.2⟩) (fun hHeld => ?_)
            clear hK K
            try simp only [Act.put, List.setIfInBounds_toArray, List.set_cons_zero, List.set_cons_succ, List.getElem_toArray, List.getElem_cons_succ, List.getElem_cons_zero]
            refine wpAnyH_take (i := 13) (v := ?v4_13_10) rfl (by kernel_rfl) (by kernel_rfl) (by kernel_rfl) (fun _ _ _ h => h) (Or.inl ⟨by rfl, ?hy4_13_10⟩) (by assumption) ?rest4_13_10
            case hy4_13_10 => intro w hSw; (try dsimp only at hSw); first | (go_simp; done) | (go_simp; with_reducible rfl)
            try simp only [Act.put, List.setIfInBounds_toArray, List.set_cons_zero, List.set_cons_succ, List.getElem_toArray, List.getElem_cons_succ, List.getElem_cons_zero]
            refine wpAnyH_done (by kernel_rfl) ?_ _
            go_wp2_with fail
            go_meet
            exact ⟨g14, sqb, Aqb, nqb, cqb, tiqb, Bqb, mqb, dqb, rfl, rfl, (((((((Env.again hE.bel).blkI (hE.here.1.1.1.1.1.2)).blkI (hE.here.1.1.1.1.2)).fv (hE.here.1.1.1.2)).blkI (hE.here.1.1.2)).fv (hE.here.1.2)).blkI (hE.here.2))⟩
          · skip
            go_simp
            obtain ⟨g16, hg16⟩ : ∃ g16, g16 = w12.heap.size := ⟨_, rfl⟩
            have hl16_0 : w.heap.size < g16 := by rw [hg16]; exact (hE.here.1.1.1.2).lt
            have hl16_1 : w.heap.size + 1 < g16 := by rw [hg16]; exact (hE.here.1.1.2).lt
            have hl16_3 : g11 < g16 := by rw [hg16]; exact (hE.here.2).lt
            replace hE := hE.blk 40 #[.bool false, .slice none 0 0, .bool false, .slice none 0 0] (g := g16) hg16.symm
            generalize w12.alloc (.cells #[.bool false, .slice none 0 0, .bool false, .slice none 0 0] 40) = W16 at hE ⊢
            rw [← hg16]
            clear hg16
            refine hK.out _ _ (⟨(hE.here.1.1.1.1.2).c3.1, (hE.here.1.1.1.1.2).c3.2.1, (hE.here.1.1.1.1.2).c3.2.2, (hE.here.1.1.1.2).c2.1, (hE.here.1.1.1.2).c2.2⟩) (fun hHeld => ?_)
            clear hK K
            try simp only [Act.put, List.setIfInBounds_toArray, List.set_cons_zero, List.set_cons_succ, List.getElem_toArray, List.getElem_cons_succ, List.getElem_cons_zero]
            refine wpAnyH_ready (rs := [7]) (by kernel_rfl) (by simp) (AllReadyH.cons rfl (fun K hK => ?_) (AllReadyH.nil))
            go_simp
            refine (HcQB.out _ (HT.out.below hE.bel)).mono ?_
            rintro e w17 ⟨sqb, Aqb, nqb, cqb, tiqb, Bqb, mqb, dqb, rfl, hqb, hb⟩
            replace hE := hE.step hb
            clear hb
            replace hE := hE.fv hqb
            clear hqb
            go_wp2_with fail
            refine hK.out _ _ (⟨(hE.here.1.1.1.1.1.2).c3.1, (hE.here.1.1.1.1.1.2).c3.2.1, (hE.here.1.1.1.1.1.2).c3.2.2, (hE.here.1.1.1.1.2).c2.1, (hE.here.1.1.1.1.2).c2.2⟩) (fun hHeld => ?_)
            clear hK K
            try simp only [Act.put, List.setIfInBounds_toArray, List.set_cons_zero, List.set_cons_succ, List.getElem_toArray, List.getElem_cons_succ, List.getElem_cons_zero]
            refine wpAnyH_take (i := 8) (v := ?v4_8_11) rfl (by kernel_rfl) (by kernel_rfl) (by kernel_rfl) (fun _ _ _ h => h) (Or.inl ⟨by rfl, ?hy4_8_11⟩) (by assumption) ?rest4_8_11
            case hy4_8_11 => intro w hSw; (try dsimp only at hSw); first | (go_simp; done) | (go_simp; with_reducible rfl)
            try simp only [Act.put, List.setIfInBounds_toArray, List.set_cons_zero, List.set_cons_succ, List.getElem_toArray, List.getElem_cons_succ, List.getElem_cons_zero]
            refine wpAnyH_take (i := 9) (v := ?v4_9_12) rfl (by kernel_rfl) (by kernel_rfl) (by kernel_rfl) (fun _ _ _ h => h) (Or.inl ⟨by rfl, ?hy4_9_12⟩) (by assumption) ?rest4_9_12
            case hy4_9_12 => intro w hSw; (try dsimp only at hSw); first | (go_simp; done) | (go_simp; with_reducible rfl)
            try simp only [Act.put, List.setIfInBounds_toArray, List.set_cons_zero, List.set_cons_succ, List.getElem_toArray, List.getElem_cons_succ, List.getElem_cons_zero]
            refine wpAnyH_take (i := 10) (v := ?v4_10_13) rfl (by kernel_rfl) (by kernel_rfl) (by kernel_rfl) (fun _ _ _ h => h) (Or.inl ⟨by rfl, ?hy4_10_13⟩) (by assumption) ?rest4_10_13
            case hy4_10_13 => intro w hSw; (try dsimp only at hSw); first | (go_simp; done) | (go_simp; with_reducible rfl)
            try simp only [Act.put, List.setIfInBounds_toArray, List.set_cons_zero, List.set_cons_succ, List.getElem_toArray, List.getElem_cons_succ, List.getElem_cons_zero]
            refine wpAnyH_ready (rs := [12]) (by kernel_rfl) (by simp) (AllReadyH.cons rfl (fun K hK => ?_) (AllReadyH.nil))
            have hgl18 : w.heap.size ≤ g16 := by omega
            obtain ⟨x18_0, x18_1, x18_2, x18_3⟩ := (hE.here.1.2).c4
            have f18_0 := (hE.here.1.2).frozen 0
            have f18_1 := (hE.here.1.2).frozen 1
            have f18_2 := (hE.here.1.2).frozen 2
            have f18_3 := (hE.here.1.2).frozen 3
            replace hE := (((((((Env.again (bel4 hE.bel hgl18 (.bool sqb) (.slice Aqb nqb cqb) (.bool tiqb) (.slice Bqb mqb dqb))).blkI ((hE.here.1.1.1.1.1.2).far4 (R := g16) (by omega) (.bool sqb) (.slice Aqb nqb cqb) (.bool tiqb) (.slice Bqb mqb dqb))).blkI ((hE.here.1.1.1.1.2).far4 (R := g16) (by omega) (.bool sqb) (.slice Aqb nqb cqb) (.bool tiqb) (.slice Bqb mqb dqb))).fv ((hE.here.1.1.1.2).sep4 hE.here.1.2 rfl (.bool sqb) (.slice Aqb nqb cqb) (.bool tiqb) (.slice Bqb mqb dqb) rfl rfl rfl)).blkI ((hE.here.1.1.2).far4 (R := g16) (by omega) (.bool sqb) (.slice Aqb nqb cqb) (.bool tiqb) (.slice Bqb mqb dqb))).blkI ((hE.here.1.2).s4 (.bool sqb) (.slice Aqb nqb cqb) (.bool tiqb) (.slice Bqb mqb dqb))).fv ((hE.here.2).sep4 hE.here.1.2 rfl (.bool sqb) (.slice Aqb nqb cqb) (.bool tiqb) (.slice Bqb mqb dqb) rfl rfl rfl))
            go_simp
            clear x18_0 x18_1 x18_2 x18_3 f18_0 f18_1 f18_2 f18_3 hgl18
            generalize ((((w17.setCell ⟨g16, 0, none⟩ (.bool sqb)).setCell ⟨g16, 1, none⟩ (.slice Aqb nqb cqb)).setCell ⟨g16, 2, none⟩ (.bool tiqb)).setCell ⟨g16, 3, none⟩ (.slice Bqb mqb dqb)) = W18 at hE ⊢
            refine hK.out _ _ (⟨(hE.here.1.1.1.1.1.2).c3.1, (hE.here.1.1.1.1.1.2).c3.2.1, (hE.here.1.1.1.1.1.2).c3.2.2, (hE.here.1.1.1.1.2).c2.1, (hE.here.1.1.1.1.2).c2.2⟩) (fun hHeld => ?_)
            clear hK K
            try simp only [Act.put, List.setIfInBounds_toArray, List.set_cons_zero, List.set_cons_succ, List.getElem_toArray, List.getElem_cons_succ, List.getElem_cons_zero]
            refine wpAnyH_take (i := 13) (v := ?v4_13_14) rfl (by kernel_rfl) (by kernel_rfl) (by kernel_rfl) (fun _ _ _ h => h) (Or.inl ⟨by rfl, ?hy4_13_14⟩) (by assumption) ?rest4_13_14
            case hy4_13_14 => intro w hSw; (try dsimp only at hSw); first | (go_simp; done) | (go_simp; with_reducible rfl)
            try simp only [Act.put, List.setIfInBounds_toArray, List.set_cons_zero, List.set_cons_succ, List.getElem_toArray, List.getElem_cons_succ, List.getElem_cons_zero]
            refine wpAnyH_done (by kernel_rfl) ?_ _
            go_wp2_with fail
            go_meet
            exact ⟨g16, sqb, Aqb, nqb, cqb, tiqb, Bqb, mqb, dqb, rfl, rfl, (((((((Env.again hE.bel).blkI (hE.here.1.1.1.1.1.2)).blkI (hE.here.1.1.1.1.2)).fv (hE.here.1.1.1.2)).blkI (hE.here.1.1.2)).fv (hE.here.2)).blkI (hE.here.1.2))⟩
        · skip
          go_simp
          obtain ⟨g19, hg19⟩ : ∃ g19, g19 = wd.heap.size := ⟨_, rfl⟩
          have hl19_0 : w.heap.size < g19 := by rw [hg19]; exact (hE.here.1.1.1.2).lt
          have hl19_1 : w.heap.size + 1 < g19 := by rw [hg19]; exact (hE.here.1.1.2).lt
          have hl19_3 : g11 < g19 := by rw [hg19]; exact (hE.here.2).lt
          replace hE := hE.blk 40 #[.bool false, .slice none 0 0, .bool false, .slice none 0 0] (g := g19) hg19.symm
          generalize wd.alloc (.cells #[.bool false, .slice none 0 0, .bool false, .slice none 0 0] 40) = W19 at hE ⊢
          rw [← hg19]
          clear hg19
          refine hK.out _ _ (⟨(hE.here.1.1.1.1.2).c3.1, (hE.here.1.1.1.1.2).c3.2.1, (hE.here.1.1.1.1.2).c3.2.2, (hE.here.1.1.1.2).c2.1, (hE.here.1.1.1.2).c2.2⟩) (fun hHeld => ?_)
          clear hK K
          try simp only [Act.put, List.setIfInBounds_toArray, List.set_cons_zero, List.set_cons_succ, List.getElem_toArray, List.getElem_cons_succ, List.getElem_cons_zero]
          refine wpAnyH_ready (rs := [4]) (by kernel_rfl) (by simp) (AllReadyH.cons rfl (fun K hK => ?_) (AllReadyH.nil))
          go_simp
          obtain ⟨y0, y300⟩ : 0 ≤ Y ∧ Y ≤ 300 := HU.out.2.2.2.2
          have hm9 := Hhm.out
          refine (later_v E Y (m : Int) _ y0 (by omega) (by omega) (by omega)).mono ?_
          rintro e w20 ⟨rfl, hb⟩
          replace hE := hE.step hb
          clear hb
          clear y0 y300 hm9
          go_wp2_with fail
          refine hK.out _ _ (⟨(hE.here.1.1.1.1.2).c3.1, (hE.here.1.1.1.1.2).c3.2.1, (hE.here.1.1.1.1.2).c3.2.2, (hE.here.1.1.1.2).c2.1, (hE.here.1.1.1.2).c2.2⟩) (fun hHeld => ?_)
          clear hK K
          try simp only [Act.put, List.setIfInBounds_toArray, List.set_cons_zero, List.set_cons_succ, List.getElem_toArray, List.getElem_cons_succ, List.getElem_cons_zero]
          refine wpAnyH_ready (rs := [7]) (by kernel_rfl) (by simp) (AllReadyH.cons rfl (fun K hK => ?_) (AllReadyH.nil))
          go_simp
          refine (HcQB.out _ (HT.out.below hE.bel)).mono ?_
          rintro e w21 ⟨sqb, Aqb, nqb, cqb, tiqb, Bqb, mqb, dqb, rfl, hqb, hb⟩
          replace hE := hE.step hb
          clear hb
          replace hE := hE.fv hqb
          clear hqb
          go_wp2_with fail
          refine hK.out _ _ (⟨(hE.here.1.1.1.1.1.2).c3.1, (hE.here.1.1.1.1.1.2).c3.2.1, (hE.here.1.1.1.1.1.2).c3.2.2, (hE.here.1.1.1.1.2).c2.1, (hE.here.1.1.1.1.2).c2.2⟩) (fun hHeld => ?_)
          clear hK K
          try simp only [Act.put, List.setIfInBounds_toArray, List.set_cons_zero, List.set_cons_succ, List.getElem_toArray, List.getElem_cons_succ, List.getElem_cons_zero]
          refine wpAnyH_take (i := 8) (v := ?v4_8_15) rfl (by kernel_rfl) (by kernel_rfl) (by kernel_rfl) (fun _ _ _ h => h) (Or.inl ⟨by rfl, ?hy4_8_15⟩) (by assumption) ?rest4_8_15
          case hy4_8_15 => intro w hSw; (try dsimp only at hSw); first | (go_simp; done) | (go_simp; with_reducible rfl)
          try simp only [Act.put, List.setIfInBounds_toArray, List.set_cons_zero, List.set_cons_succ, List.getElem_toArray, List.getElem_cons_succ, List.getElem_cons_zero]
          refine wpAnyH_take (i := 9) (v := ?v4_9_16) rfl (by kernel_rfl) (by kernel_rfl) (by kernel_rfl) (fun _ _ _ h => h) (Or.inl ⟨by rfl, ?hy4_9_16⟩) (by assumption) ?rest4_9_16
          case hy4_9_16 => intro w hSw; (try dsimp only at hSw); first | (go_simp; done) | (go_simp; with_reducible rfl)
          try simp only [Act.put, List.setIfInBounds_toArray, List.set_cons_zero, List.set_cons_succ, List.getElem_toArray, List.getElem_cons_succ, List.getElem_cons_zero]
          refine wpAnyH_take (i := 10) (v := ?v4_10_17) rfl (by kernel_rfl) (by kernel_rfl) (by kernel_rfl) (fun _ _ _ h => h) (Or.inl ⟨by rfl, ?hy4_10_17⟩) (by assumption) ?rest4_10_17
          case hy4_10_17 => intro w hSw; (try dsimp only at hSw); first | (go_simp; done) | (go_simp; with_reducible rfl)
          try simp only [Act.put, List.setIfInBounds_toArray, List.set_cons_zero, List.set_cons_succ, List.getElem_toArray, List.getElem_cons_succ, List.getElem_cons_zero]
          refine wpAnyH_ready (rs := [12]) (by kernel_rfl) (by simp) (AllReadyH.cons rfl (fun K hK => ?_) (AllReadyH.nil))
          have hgl22 : w.heap.size ≤ g19 := by omega
          obtain ⟨x22_0, x22_1, x22_2, x22_3⟩ := (hE.here.1.2).c4
          have f22_0 := (hE.here.1.2).frozen 0
          have f22_1 := (hE.here.1.2).frozen 1
          have f22_2 := (hE.here.1.2).frozen 2
          have f22_3 := (hE.here.1.2).frozen 3
          replace hE := (((((((Env.again (bel4 hE.bel hgl22 (.bool sqb) (.slice Aqb nqb cqb) (.bool tiqb) (.slice Bqb mqb dqb))).blkI ((hE.here.1.1.1.1.1.2).far4 (R := g19) (by omega) (.bool sqb) (.slice Aqb nqb cqb) (.bool tiqb) (.slice Bqb mqb dqb))).blkI ((hE.here.1.1.1.1.2).far4 (R := g19) (by omega) (.bool sqb) (.slice Aqb nqb cqb) (.bool tiqb) (.slice Bqb mqb dqb))).fv ((hE.here.1.1.1.2).sep4 hE.here.1.2 rfl (.bool sqb) (.slice Aqb nqb cqb) (.bool tiqb) (.slice Bqb mqb dqb) rfl rfl rfl)).blkI ((hE.here.1.1.2).far4 (R := g19) (by omega) (.bool sqb) (.slice Aqb nqb cqb) (.bool tiqb) (.slice Bqb mqb dqb))).blkI ((hE.here.1.2).s4 (.bool sqb) (.slice Aqb nqb cqb) (.bool tiqb) (.slice Bqb mqb dqb))).fv ((hE.here.2).sep4 hE.here.1.2 rfl (.bool sqb) (.slice Aqb nqb cqb) (.bool tiqb) (.slice Bqb mqb dqb) rfl rfl rfl))
          go_simp
          clear x22_0 x22_1 x22_2 x22_3 f22_0 f22_1 f22_2 f22_3 hgl22
          generalize ((((w21.setCell ⟨g19, 0, none⟩ (.bool sqb)).setCell ⟨g19, 1, none⟩ (.slice Aqb nqb cqb)).setCell ⟨g19, 2, none⟩ (.bool tiqb)).setCell ⟨g19, 3, none⟩ (.slice Bqb mqb dqb)) = W22 at hE ⊢
          refine hK.out _ _ (⟨(hE.here.1.1.1.1.1.2).c3.1, (hE.here.1.1.1.1.1.2).c3.2.1, (hE.here.1.1.1.1.1.2).c3.2.2, (hE.here.1.1.1.1.2).c2.1, (hE.here.1.1.1.1.2).c2.2⟩) (fun hHeld => ?_)
          clear hK K
          try simp only [Act.put, List.setIfInBounds_toArray, List.set_cons_zero, List.set_cons_succ, List.getElem_toArray, List.getElem_cons_succ, List.getElem_cons_zero]
          refine wpAnyH_take (i := 13) (v := ?v4_13_18) rfl (by kernel_rfl) (by kernel_rfl) (by kernel_rfl) (fun _ _ _ h => h) (Or.inl ⟨by rfl, ?hy4_13_18⟩) (by assumption) ?rest4_13_18
          case hy4_13_18 => intro w hSw; (try dsimp only at hSw); first | (go_simp; done) | (go_simp; with_reducible rfl)
          try simp only [Act.put, List.setIfInBounds_toArray, List.set_cons_zero, List.set_cons_succ, List.getElem_toArray, List.getElem_cons_succ, List.getElem_cons_zero]
          refine wpAnyH_done (by kernel_rfl) ?_ _
          go_wp2_with fail
          go_meet
          exact ⟨g19, sqb, Aqb, nqb, cqb, tiqb, Bqb, mqb, dqb, rfl, rfl, (((((((Env.again hE.bel).blkI (hE.here.1.1.1.1.1.2)).blkI (hE.here.1.1.1.1.2)).fv (hE.here.1.1.1.2)).blkI (hE.here.1.1.2)).fv (hE.here.2)).blkI (hE.here.1.2))⟩
      case rest =>
      clear hE
      obtain ⟨G6, sqb, Aqb, nqb, cqb, tiqb, Bqb, mqb, dqb, rfl, rfl, hE⟩ := hcut
      generalize wc = wk6 at hE ⊢
      go_upto_region 7 with (fail)
      obtain ⟨k23, k24, k25⟩ := (hE.here.1.1.1.1.1.2).c3
      obtain ⟨k26, k27⟩ := (hE.here.1.1.1.1.2).c2
      go_wp2_with fail
      refine (HcQC.out _ (HT.out.below hE.bel)).mono ?_
      clear k23 k24 k25 k26 k27
      rintro e w28 ⟨sqc, Aqc, nqc, cqc, tiqc, Bqc, mqc, dqc, rfl, hqc, hb⟩
      replace hE := hE.step hb
      clear hb
      replace hE := hE.fv hqc
      clear hqc
      go_upto_region 8 with (fail)
      obtain ⟨g29, hg29⟩ : ∃ g29, g29 = w28.heap.size := ⟨_, rfl⟩
      have hl29_0 : w.heap.size < g29 := by rw [hg29]; exact (hE.here.1.1.1.1.1.1.2).lt
      have hl29_1 : w.heap.size + 1 < g29 := by rw [hg29]; exact (hE.here.1.1.1.1.1.2).lt
      have hl29_3 : g11 < g29 := by rw [hg29]; exact (hE.here.1.1.1.2).lt
      have hl29_5 : G6 < g29 := by rw [hg29]; exact (hE.here.1.2).lt
      replace hE := hE.blk 40 #[.bool sqc, .slice Aqc nqc cqc, .bool tiqc, .slice Bqc mqc dqc] (g := g29) hg29.symm
      generalize w28.alloc (.cells #[.bool sqc, .slice Aqc nqc cqc, .bool tiqc, .slice Bqc mqc dqc] 40) = W29 at hE ⊢
      rw [← hg29]
      clear hg29
      obtain ⟨k30, k31, k32⟩ := (hE.here.1.1.1.1.1.1.1.2).c3
      obtain ⟨k33, k34⟩ := (hE.here.1.1.1.1.1.1.2).c2
      go_wp2_with fail
      refine (HcQD.out _ (HT.out.below hE.bel)).mono ?_
      clear k30 k31 k32 k33 k34
      rintro e w35 ⟨sqd, Aqd, nqd, cqd, tiqd, Bqd, mqd, dqd, rfl, hqd, hb⟩
      replace hE := hE.step hb
      clear hb
      replace hE := hE.fv hqd
      clear hqd
      go_upto_region 9 with (fail)
      obtain ⟨g36, hg36⟩ : ∃ g36, g36 = w35.heap.size := ⟨_, rfl⟩
      have hl36_0 : w.heap.size < g36 := by rw [hg36]; exact (hE.here.1.1.1.1.1.1.1.1.2).lt
      have hl36_1 : w.heap.size + 1 < g36 := by rw [hg36]; exact (hE.here.1.1.1.1.1.1.1.2).lt
      have hl36_3 : g11 < g36 := by rw [hg36]; exact (hE.here.1.1.1.1.1.2).lt
      have hl36_5 : G6 < g36 := by rw [hg36]; exact (hE.here.1.1.1.2).lt
      have hl36_7 : g29 < g36 := by rw [hg36]; exact (hE.here.1.2).lt
      replace hE := hE.blk 40 #[.bool sqd, .slice Aqd nqd cqd, .bool tiqd, .slice Bqd mqd dqd] (g := g36) hg36.symm
      generalize w35.alloc (.cells #[.bool sqd, .slice Aqd nqd cqd, .bool tiqd, .slice Bqd mqd dqd] 40) = W36 at hE ⊢
      rw [← hg36]
      clear hg36
      go_cut [17, 18] from 81 to 91 (fun p q wx => ∃ G9 sqi Aqi nqi cqi tiqi Bqi mqi dqi, p = .pointer (some ⟨G9, 0, none⟩) ∧ q = .int .i64 0 ∧ Env w (fun V => ((((((((((((True ∧ Blk 24 (w.heap.size) #[.int .i64 F, .int .i64 S, .slice A n c] V) ∧ Blk 26 (w.heap.size + 1) #[.int .i64 E, .int .i64 Y] V) ∧ FV V QA sqa Aqa nqa tiqa Bqa mqa) ∧ Blk 40 (g11) #[.bool sqa, .slice Aqa nqa cqa, .bool tiqa, .slice Bqa mqa dqa] V) ∧ FV V QB sqb Aqb nqb tiqb Bqb mqb) ∧ Blk 40 (G6) #[.bool sqb, .slice Aqb nqb cqb, .bool tiqb, .slice Bqb mqb dqb] V) ∧ FV V QC sqc Aqc nqc tiqc Bqc mqc) ∧ Blk 40 (g29) #[.bool sqc, .slice Aqc nqc cqc, .bool tiqc, .slice Bqc mqc dqc] V) ∧ FV V QD sqd Aqd nqd tiqd Bqd mqd) ∧ Blk 40 (g36) #[.bool sqd, .slice Aqd nqd cqd, .bool tiqd, .slice Bqd mqd dqd] V) ∧ FV V QI sqi Aqi nqi tiqi Bqi mqi) ∧ Blk 40 (G9) #[.bool sqi, .slice Aqi nqi cqi, .bool tiqi, .slice Bqi mqi dqi] V)) wx)
      case first =>
        replace hE := hE.drew
        refine wp_region_held_drew (S := fun w' => w'.cell? ⟨w.heap.size, 0, none⟩ = some (.int .i64 F) ∧ w'.cell? ⟨w.heap.size, 1, none⟩ = some (.int .i64 S) ∧ w'.cell? ⟨w.heap.size, 2, none⟩ = some (.slice A n c) ∧ w'.cell? ⟨w.heap.size + 1, 0, none⟩ = some (.int .i64 E) ∧ w'.cell? ⟨w.heap.size + 1, 1, none⟩ = some (.int .i64 Y)) (by kernel_rfl) (⟨(hE.here.1.1.1.1.1.1.1.1.1.2).c3.1, (hE.here.1.1.1.1.1.1.1.1.1.2).c3.2.1, (hE.here.1.1.1.1.1.1.1.1.1.2).c3.2.2, (hE.here.1.1.1.1.1.1.1.1.2).c2.1, (hE.here.1.1.1.1.1.1.1.1.2).c2.2⟩) (fun hHeld => ?_)
        generalize W36.drew = wd at *
        refine wpAnyH_take (i := 0) (v := ?v5_0_1) rfl (by kernel_rfl) (by kernel_rfl) (by kernel_rfl) (fun _ _ _ h => h) (Or.inl ⟨by rfl, ?hy5_0_1⟩) (by assumption) ?rest5_0_1
        case hy5_0_1 => intro w hSw; (try dsimp only at hSw); first | (go_simp; done) | (go_simp; with_reducible rfl)
        try simp only [Act.put, List.setIfInBounds_toArray, List.set_cons_zero, List.set_cons_succ, List.getElem_toArray, List.getElem_cons_succ, List.getElem_cons_zero]
        refine wpAnyH_take (i := 1) (v := ?v5_1_2) rfl (by kernel_rfl) (by kernel_rfl) (by kernel_rfl) (fun _ _ _ h => h) (Or.inl ⟨by rfl, ?hy5_1_2⟩) (by assumption) ?rest5_1_2
        case hy5_1_2 => intro w hSw; (try dsimp only at hSw); first | (go_simp; done) | (go_simp; with_reducible rfl)
        try simp only [Act.put, List.setIfInBounds_toArray, List.set_cons_zero, List.set_cons_succ, List.getElem_toArray, List.getElem_cons_succ, List.getElem_cons_zero]
        refine wpAnyH_take (i := 2) (v := ?v5_2_3) rfl (by kernel_rfl) (by kernel_rfl) (by kernel_rfl) (fun _ _ _ h => h) (Or.inl ⟨by rfl, ?hy5_2_3⟩) (by assumption) ?rest5_2_3
        case hy5_2_3 => intro w hSw; (try dsimp only at hSw); first | (go_simp; done) | (go_simp; with_reducible rfl)
        try simp only [Act.put, List.setIfInBounds_toArray, List.set_cons_zero, List.set_cons_succ, List.getElem_toArray, List.getElem_cons_succ, List.getElem_cons_zero]
        refine wpAnyH_take (i := 3) (v := ?v5_3_4) rfl (by kernel_rfl) (by kernel_rfl) (by kernel_rfl) (fun _ _ _ h => h) (Or.inl ⟨by rfl, ?hy5_3_4⟩) (by assumption) ?rest5_3_4
        case hy5_3_4 => intro w hSw; (try dsimp only at hSw); first | (go_simp; done) | (go_simp; with_reducible rfl)
        try simp only [Act.put, List.setIfInBounds_toArray, List.set_cons_zero, List.set_cons_succ, List.getElem_toArray, List.getElem_cons_succ, List.getElem_cons_zero]
        refine wpAnyH_take (i := 5) (v := ?v5_5_5) rfl (by kernel_rfl) (by kernel_rfl) (by kernel_rfl) (fun _ _ _ h => h) (Or.inl ⟨by rfl, ?hy5_5_5⟩) (by assumption) ?rest5_5_5
        case hy5_5_5 => intro w hSw; (try dsimp only at hSw); first | (go_simp; done) | (go_simp; with_reducible rfl)
        try simp only [Act.put, List.setIfInBounds_toArray, List.set_cons_zero, List.set_cons_succ, List.getElem_toArray, List.getElem_cons_succ, List.getElem_cons_zero]
        refine wpAnyH_take (i := 6) (v := ?v5_6_6) rfl (by kernel_rfl) (by kernel_rfl) (by kernel_rfl) (fun _ _ _ h => h) (Or.inl ⟨by rfl, ?hy5_6_6⟩) (by assumption) ?rest5_6_6
        case hy5_6_6 => intro w hSw; (try dsimp only at hSw); first | (go_simp; done) | (go_simp; with_reducible rfl)
        try simp only [Act.put, List.setIfInBounds_toArray, List.set_cons_zero, List.set_cons_succ, List.getElem_toArray, List.getElem_cons_succ, List.getElem_cons_zero]
        refine wpAnyH_ready (rs := [4, 11]) (by kernel_rfl) (by simp) (AllReadyH.cons rfl (fun K hK => ?_) (AllReadyH.cons rfl (fun K hK => ?_) (AllReadyH.nil)))
        · skip
          go_simp
          obtain ⟨y0, y300⟩ : 0 ≤ Y ∧ Y ≤ 300 := HU.out.2.2.2.2
          have hm9 := Hhm.out
          refine (later_v E Y (m : Int) _ y0 (by omega) (by omega) (by omega)).mono ?_
          rintro e w37 ⟨rfl, hb⟩
          replace hE := hE.step hb
          clear hb
          clear y0 y300 hm9
          go_wp2_with fail
          refine hK.out _ _ (⟨(hE.here.1.1.1.1.1.1.1.1.1.2).c3.1, (hE.here.1.1.1.1.1.1.1.1.1.2).c3.2.1, (hE.here.1.1.1.1.1.1.1.1.1.2).c3.2.2, (hE.here.1.1.1.1.1.1.1.1.2).c2.1, (hE.here.1.1.1.1.1.1.1.1.2).c2.2⟩) (fun hHeld => ?_)
          clear hK K
          try simp only [Act.put, List.setIfInBounds_toArray, List.set_cons_zero, List.set_cons_succ, List.getElem_toArray, List.getElem_cons_succ, List.getElem_cons_zero]
          refine wpAnyH_ready (rs := [7, 11]) (by kernel_rfl) (by simp) (AllReadyH.cons rfl (fun K hK => ?_) (AllReadyH.cons rfl (fun K hK => ?_) (AllReadyH.nil)))
          · skip
            go_simp
            refine (HcQI.out _ (HT.out.below hE.bel)).mono ?_
            rintro e w38 ⟨sqi, Aqi, nqi, cqi, tiqi, Bqi, mqi, dqi, rfl, hqi, hb⟩
            replace hE := hE.step hb
            clear hb
            replace hE := hE.fv hqi
            clear hqi
            go_wp2_with fail
            refine hK.out _ _ (⟨(hE.here.1.1.1.1.1.1.1.1.1.1.2).c3.1, (hE.here.1.1.1.1.1.1.1.1.1.1.2).c3.2.1, (hE.here.1.1.1.1.1.1.1.1.1.1.2).c3.2.2, (hE.here.1.1.1.1.1.1.1.1.1.2).c2.1, (hE.here.1.1.1.1.1.1.1.1.1.2).c2.2⟩) (fun hHeld => ?_)
            clear hK K
            try simp only [Act.put, List.setIfInBounds_toArray, List.set_cons_zero, List.set_cons_succ, List.getElem_toArray, List.getElem_cons_succ, List.getElem_cons_zero]
            refine wpAnyH_take (i := 8) (v := ?v5_8_7) rfl (by kernel_rfl) (by kernel_rfl) (by kernel_rfl) (fun _ _ _ h => h) (Or.inl ⟨by rfl, ?hy5_8_7⟩) (by assumption) ?rest5_8_7
            case hy5_8_7 => intro w hSw; (try dsimp only at hSw); first | (go_simp; done) | (go_simp; with_reducible rfl)
            try simp only [Act.put, List.setIfInBounds_toArray, List.set_cons_zero, List.set_cons_succ, List.getElem_toArray, List.getElem_cons_succ, List.getElem_cons_zero]
            refine wpAnyH_take (i := 9) (v := ?v5_9_8) rfl (by kernel_rfl) (by kernel_rfl) (by kernel_rfl) (fun _ _ _ h => h) (Or.inl ⟨by rfl, ?hy5_9_8⟩) (by assumption) ?rest5_9_8
            case hy5_9_8 => intro w hSw; (try dsimp only at hSw); first | (go_simp; done) | (go_simp; with_reducible rfl)
            try simp only [Act.put, List.setIfInBounds_toArray, List.set_cons_zero, List.set_cons_succ, List.getElem_toArray, List.getElem_cons_succ, List.getElem_cons_zero]
            refine wpAnyH_take (i := 10) (v := ?v5_10_9) rfl (by kernel_rfl) (by kernel_rfl) (by kernel_rfl) (fun _ _ _ h => h) (Or.inl ⟨by rfl, ?hy5_10_9⟩) (by assumption) ?rest5_10_9
            case hy5_10_9 => intro w hSw; (try dsimp only at hSw); first | (go_simp; done) | (go_simp; with_reducible rfl)
            try simp only [Act.put, List.setIfInBounds_toArray, List.set_cons_zero, List.set_cons_succ, List.getElem_toArray, List.getElem_cons_succ, List.getElem_cons_zero]
            refine wpAnyH_ready (rs := [11]) (by kernel_rfl) (by simp) (AllReadyH.cons rfl (fun K hK => ?_) (AllReadyH.nil))
            go_simp
            obtain ⟨g39, hg39⟩ : ∃ g39, g39 = w38.heap.size := ⟨_, rfl⟩
            have hl39_0 : w.heap.size < g39 := by rw [hg39]; exact (hE.here.1.1.1.1.1.1.1.1.1.1.2).lt
            have hl39_1 : w.heap.size + 1 < g39 := by rw [hg39]; exact (hE.here.1.1.1.1.1.1.1.1.1.2).lt
            have hl39_3 : g11 < g39 := by rw [hg39]; exact (hE.here.1.1.1.1.1.1.1.2).lt
            have hl39_5 : G6 < g39 := by rw [hg39]; exact (hE.here.1.1.1.1.1.2).lt
            have hl39_7 : g29 < g39 := by rw [hg39]; exact (hE.here.1.1.1.2).lt
            have hl39_9 : g36 < g39 := by rw [hg39]; exact (hE.here.1.2).lt
            replace hE := hE.blk 40 #[.bool false, .slice none 0 0, .bool false, .slice none 0 0] (g := g39) hg39.symm
            generalize w38.alloc (.cells #[.bool false, .slice none 0 0, .bool false, .slice none 0 0] 40) = W39 at hE ⊢
            rw [← hg39]
            clear hg39
            refine hK.out _ _ (⟨(hE.here.1.1.1.1.1.1.1.1.1.1.1.2).c3.1, (hE.here.1.1.1.1.1.1.1.1.1.1.1.2).c3.2.1, (hE.here.1.1.1.1.1.1.1.1.1.1.1.2).c3.2.2, (hE.here.1.1.1.1.1.1.1.1.1.1.2).c2.1, (hE.here.1.1.1.1.1.1.1.1.1.1.2).c2.2⟩) (fun hHeld => ?_)
            clear hK K
            try simp only [Act.put, List.setIfInBounds_toArray, List.set_cons_zero, List.set_cons_succ, List.getElem_toArray, List.getElem_cons_succ, List.getElem_cons_zero]
            refine wpAnyH_ready (rs := [12]) (by kernel_rfl) (by simp) (AllReadyH.cons rfl (fun K hK => ?_) (AllReadyH.nil))
            have hgl40 : w.heap.size ≤ g39 := by omega
            obtain ⟨x40_0, x40_1, x40_2, x40_3⟩ := (hE.here.2).c4
            have f40_0 := (hE.here.2).frozen 0
            have f40_1 := (hE.here.2).frozen 1
            have f40_2 := (hE.here.2).frozen 2
            have f40_3 := (hE.here.2).frozen 3
            replace hE := (((((((((((((Env.again (bel4 hE.bel hgl40 (.bool sqi) (.slice Aqi nqi cqi) (.bool tiqi) (.slice Bqi mqi dqi))).blkI ((hE.here.1.1.1.1.1.1.1.1.1.1.1.2).far4 (R := g39) (by omega) (.bool sqi) (.slice Aqi nqi cqi) (.bool tiqi) (.slice Bqi mqi dqi))).blkI ((hE.here.1.1.1.1.1.1.1.1.1.1.2).far4 (R := g39) (by omega) (.bool sqi) (.slice Aqi nqi cqi) (.bool tiqi) (.slice Bqi mqi dqi))).fv ((hE.here.1.1.1.1.1.1.1.1.1.2).sep4 hE.here.2 rfl (.bool sqi) (.slice Aqi nqi cqi) (.bool tiqi) (.slice Bqi mqi dqi) rfl rfl rfl)).blkI ((hE.here.1.1.1.1.1.1.1.1.2).far4 (R := g39) (by omega) (.bool sqi) (.slice Aqi nqi cqi) (.bool tiqi) (.slice Bqi mqi dqi))).fv ((hE.here.1.1.1.1.1.1.1.2).sep4 hE.here.2 rfl (.bool sqi) (.slice Aqi nqi cqi) (.bool tiqi) (.slice Bqi mqi dqi) rfl rfl rfl)).blkI ((hE.here.1.1.1.1.1.1.2).far4 (R := g39) (by omega) (.bool sqi) (.slice Aqi nqi cqi) (.bool tiqi) (.slice Bqi mqi dqi))).fv ((hE.here.1.1.1.1.1.2).sep4 hE.here.2 rfl (.bool sqi) (.slice Aqi nqi cqi) (.bool tiqi) (.slice Bqi mqi dqi) rfl rfl rfl)).blkI ((hE.here.1.1.1.1.2).far4 (R := g39) (by omega) (.bool sqi) (.slice Aqi nqi cqi) (.bool tiqi) (.slice Bqi mqi dqi))).fv ((hE.here.1.1.1.2).sep4 hE.here.2 rfl (.bool sqi) (.slice Aqi nqi cqi) (.bool tiqi) (.slice Bqi mqi dqi) rfl rfl rfl)).blkI ((hE.here.1.1.2).far4 (R := g39) (by omega) (.bool sqi) (.slice Aqi nqi cqi) (.bool tiqi) (.slice Bqi mqi dqi))).fv ((hE.here.1.2).sep4 hE.here.2 rfl (.bool sqi) (.slice Aqi nqi cqi) (.bool tiqi) (.slice Bqi mqi dqi) rfl rfl rfl)).blkI ((hE.here.2).s4 (.bool sqi) (.slice Aqi nqi cqi) (.bool tiqi) (.slice Bqi mqi dqi)))
            go_simp
            clear x40_0 x40_1 x40_2 x40_3 f40_0 f40_1 f40_2 f40_3 hgl40
            generalize ((((W39.setCell ⟨g39, 0, none⟩ (.bool sqi)).setCell ⟨g39, 1, none⟩ (.slice Aqi nqi cqi)).setCell ⟨g39, 2, none⟩ (.bool tiqi)).setCell ⟨g39, 3, none⟩ (.slice Bqi mqi dqi)) = W40 at hE ⊢
            refine hK.out _ _ (⟨(hE.here.1.1.1.1.1.1.1.1.1.1.1.2).c3.1, (hE.here.1.1.1.1.1.1.1.1.1.1.1.2).c3.2.1, (hE.here.1.1.1.1.1.1.1.1.1.1.1.2).c3.2.2, (hE.here.1.1.1.1.1.1.1.1.1.1.2).c2.1, (hE.here.1.1.1.1.1.1.1.1.1.1.2).c2.2⟩) (fun hHeld => ?_)
            clear hK K
            try simp only [Act.put, List.setIfInBounds_toArray, List.set_cons_zero, List.set_cons_succ, List.getElem_toArray, List.getElem_cons_succ, List.getElem_cons_zero]
            refine wpAnyH_take (i := 13) (v := ?v5_13_10) rfl (by kernel_rfl) (by kernel_rfl) (by kernel_rfl) (fun _ _ _ h => h) (Or.inl ⟨by rfl, ?hy5_13_10⟩) (by assumption) ?rest5_13_10
            case hy5_13_10 => intro w hSw; (try dsimp only at hSw); first | (go_simp; done) | (go_simp; with_reducible rfl)
            try simp only [Act.put, List.setIfInBounds_toArray, List.set_cons_zero, List.set_cons_succ, List.getElem_toArray, List.getElem_cons_succ, List.getElem_cons_zero]
            refine wpAnyH_done (by kernel_rfl) ?_ _
            go_wp2_with fail
            go_meet
            exact ⟨g39, sqi, Aqi, nqi, cqi, tiqi, Bqi, mqi, dqi, rfl, rfl, (((((((((((((Env.again hE.bel).blkI (hE.here.1.1.1.1.1.1.1.1.1.1.1.2)).blkI (hE.here.1.1.1.1.1.1.1.1.1.1.2)).fv (hE.here.1.1.1.1.1.1.1.1.1.2)).blkI (hE.here.1.1.1.1.1.1.1.1.2)).fv (hE.here.1.1.1.1.1.1.1.2)).blkI (hE.here.1.1.1.1.1.1.2)).fv (hE.here.1.1.1.1.1.2)).blkI (hE.here.1.1.1.1.2)).fv (hE.here.1.1.1.2)).blkI (hE.here.1.1.2)).fv (hE.here.1.2)).blkI (hE.here.2))⟩
          · skip
            go_simp
            obtain ⟨g41, hg41⟩ : ∃ g41, g41 = w37.heap.size := ⟨_, rfl⟩
            have hl41_0 : w.heap.size < g41 := by rw [hg41]; exact (hE.here.1.1.1.1.1.1.1.1.1.2).lt
            have hl41_1 : w.heap.size + 1 < g41 := by rw [hg41]; exact (hE.here.1.1.1.1.1.1.1.1.2).lt
            have hl41_3 : g11 < g41 := by rw [hg41]; exact (hE.here.1.1.1.1.1.1.2).lt
            have hl41_5 : G6 < g41 := by rw [hg41]; exact (hE.here.1.1.1.1.2).lt
            have hl41_7 : g29 < g41 := by rw [hg41]; exact (hE.here.1.1.2).lt
            have hl41_9 : g36 < g41 := by rw [hg41]; exact (hE.here.2).lt
            replace hE := hE.blk 40 #[.bool false, .slice none 0 0, .bool false, .slice none 0 0] (g := g41) hg41.symm
            generalize w37.alloc (.cells #[.bool false, .slice none 0 0, .bool false, .slice none 0 0] 40) = W41 at hE ⊢
            rw [← hg41]
            clear hg41
            refine hK.out _ _ (⟨(hE.here.1.1.1.1.1.1.1.1.1.1.2).c3.1, (hE.here.1.1.1.1.1.1.1.1.1.1.2).c3.2.1, (hE.here.1.1.1.1.1.1.1.1.1.1.2).c3.2.2, (hE.here.1.1.1.1.1.1.1.1.1.2).c2.1, (hE.here.1.1.1.1.1.1.1.1.1.2).c2.2⟩) (fun hHeld => ?_)
            clear hK K
            try simp only [Act.put, List.setIfInBounds_toArray, List.set_cons_zero, List.set_cons_succ, List.getElem_toArray, List.getElem_cons_succ, List.getElem_cons_zero]
            refine wpAnyH_ready (rs := [7]) (by kernel_rfl) (by simp) (AllReadyH.cons rfl (fun K hK => ?_) (AllReadyH.nil))
            go_simp
            refine (HcQI.out _ (HT.out.below hE.bel)).mono ?_
            rintro e w42 ⟨sqi, Aqi, nqi, cqi, tiqi, Bqi, mqi, dqi, rfl, hqi, hb⟩
            replace hE := hE.step hb
            clear hb
            replace hE := hE.fv hqi
            clear hqi
            go_wp2_with fail
            refine hK.out _ _ (⟨(hE.here.1.1.1.1.1.1.1.1.1.1.1.2).c3.1, (hE.here.1.1.1.1.1.1.1.1.1.1.1.2).c3.2.1, (hE.here.1.1.1.1.1.1.1.1.1.1.1.2).c3.2.2, (hE.here.1.1.1.1.1.1.1.1.1.1.2).c2.1, (hE.here.1.1.1.1.1.1.1.1.1.1.2).c2.2⟩) (fun hHeld => ?_)
            clear hK K
            try simp only [Act.put, List.setIfInBounds_toArray, List.set_cons_zero, List.set_cons_succ, List.getElem_toArray, List.getElem_cons_succ, List.getElem_cons_zero]
            refine wpAnyH_take (i := 8) (v := ?v5_8_11) rfl (by kernel_rfl) (by kernel_rfl) (by kernel_rfl) (fun _ _ _ h => h) (Or.inl ⟨by rfl, ?hy5_8_11⟩) (by assumption) ?rest5_8_11
            case hy5_8_11 => intro w hSw; (try dsimp only at hSw); first | (go_simp; done) | (go_simp; with_reducible rfl)
            try simp only [Act.put, List.setIfInBounds_toArray, List.set_cons_zero, List.set_cons_succ, List.getElem_toArray, List.getElem_cons_succ, List.getElem_cons_zero]
            refine wpAnyH_take (i := 9) (v := ?v5_9_12) rfl (by kernel_rfl) (by kernel_rfl) (by kernel_rfl) (fun _ _ _ h => h) (Or.inl ⟨by rfl, ?hy5_9_12⟩) (by assumption) ?rest5_9_12
            case hy5_9_12 => intro w hSw; (try dsimp only at hSw); first | (go_simp; done) | (go_simp; with_reducible rfl)
            try simp only [Act.put, List.setIfInBounds_toArray, List.set_cons_zero, List.set_cons_succ, List.getElem_toArray, List.getElem_cons_succ, List.getElem_cons_zero]
            refine wpAnyH_take (i := 10) (v := ?v5_10_13) rfl (by kernel_rfl) (by kernel_rfl) (by kernel_rfl) (fun _ _ _ h => h) (Or.inl ⟨by rfl, ?hy5_10_13⟩) (by assumption) ?rest5_10_13
            case hy5_10_13 => intro w hSw; (try dsimp only at hSw); first | (go_simp; done) | (go_simp; with_reducible rfl)
            try simp only [Act.put, List.setIfInBounds_toArray, List.set_cons_zero, List.set_cons_succ, List.getElem_toArray, List.getElem_cons_succ, List.getElem_cons_zero]
            refine wpAnyH_ready (rs := [12]) (by kernel_rfl) (by simp) (AllReadyH.cons rfl (fun K hK => ?_) (AllReadyH.nil))
            have hgl43 : w.heap.size ≤ g41 := by omega
            obtain ⟨x43_0, x43_1, x43_2, x43_3⟩ := (hE.here.1.2).c4
            have f43_0 := (hE.here.1.2).frozen 0
            have f43_1 := (hE.here.1.2).frozen 1
            have f43_2 := (hE.here.1.2).frozen 2
            have f43_3 := (hE.here.1.2).frozen 3
            replace hE := (((((((((((((Env.again (bel4 hE.bel hgl43 (.bool sqi) (.slice Aqi nqi cqi) (.bool tiqi) (.slice Bqi mqi dqi))).blkI ((hE.here.1.1.1.1.1.1.1.1.1.1.1.2).far4 (R := g41) (by omega) (.bool sqi) (.slice Aqi nqi cqi) (.bool tiqi) (.slice Bqi mqi dqi))).blkI ((hE.here.1.1.1.1.1.1.1.1.1.1.2).far4 (R := g41) (by omega) (.bool sqi) (.slice Aqi nqi cqi) (.bool tiqi) (.slice Bqi mqi dqi))).fv ((hE.here.1.1.1.1.1.1.1.1.1.2).sep4 hE.here.1.2 rfl (.bool sqi) (.slice Aqi nqi cqi) (.bool tiqi) (.slice Bqi mqi dqi) rfl rfl rfl)).blkI ((hE.here.1.1.1.1.1.1.1.1.2).far4 (R := g41) (by omega) (.bool sqi) (.slice Aqi nqi cqi) (.bool tiqi) (.slice Bqi mqi dqi))).fv ((hE.here.1.1.1.1.1.1.1.2).sep4 hE.here.1.2 rfl (.bool sqi) (.slice Aqi nqi cqi) (.bool tiqi) (.slice Bqi mqi dqi) rfl rfl rfl)).blkI ((hE.here.1.1.1.1.1.1.2).far4 (R := g41) (by omega) (.bool sqi) (.slice Aqi nqi cqi) (.bool tiqi) (.slice Bqi mqi dqi))).fv ((hE.here.1.1.1.1.1.2).sep4 hE.here.1.2 rfl (.bool sqi) (.slice Aqi nqi cqi) (.bool tiqi) (.slice Bqi mqi dqi) rfl rfl rfl)).blkI ((hE.here.1.1.1.1.2).far4 (R := g41) (by omega) (.bool sqi) (.slice Aqi nqi cqi) (.bool tiqi) (.slice Bqi mqi dqi))).fv ((hE.here.1.1.1.2).sep4 hE.here.1.2 rfl (.bool sqi) (.slice Aqi nqi cqi) (.bool tiqi) (.slice Bqi mqi dqi) rfl rfl rfl)).blkI ((hE.here.1.1.2).far4 (R := g41) (by omega) (.bool sqi) (.slice Aqi nqi cqi) (.bool tiqi) (.slice Bqi mqi dqi))).blkI ((hE.here.1.2).s4 (.bool sqi) (.slice Aqi nqi cqi) (.bool tiqi) (.slice Bqi mqi dqi))).fv ((hE.here.2).sep4 hE.here.1.2 rfl (.bool sqi) (.slice Aqi nqi cqi) (.bool tiqi) (.slice Bqi mqi dqi) rfl rfl rfl))
            go_simp
            clear x43_0 x43_1 x43_2 x43_3 f43_0 f43_1 f43_2 f43_3 hgl43
            generalize ((((w42.setCell ⟨g41, 0, none⟩ (.bool sqi)).setCell ⟨g41, 1, none⟩ (.slice Aqi nqi cqi)).setCell ⟨g41, 2, none⟩ (.bool tiqi)).setCell ⟨g41, 3, none⟩ (.slice Bqi mqi dqi)) = W43 at hE ⊢
            refine hK.out _ _ (⟨(hE.here.1.1.1.1.1.1.1.1.1.1.1.2).c3.1, (hE.here.1.1.1.1.1.1.1.1.1.1.1.2).c3.2.1, (hE.here.1.1.1.1.1.1.1.1.1.1.1.2).c3.2.2, (hE.here.1.1.1.1.1.1.1.1.1.1.2).c2.1, (hE.here.1.1.1.1.1.1.1.1.1.1.2).c2.2⟩) (fun hHeld => ?_)
            clear hK K
            try simp only [Act.put, List.setIfInBounds_toArray, List.set_cons_zero, List.set_cons_succ, List.getElem_toArray, List.getElem_cons_succ, List.getElem_cons_zero]
            refine wpAnyH_take (i := 13) (v := ?v5_13_14) rfl (by kernel_rfl) (by kernel_rfl) (by kernel_rfl) (fun _ _ _ h => h) (Or.inl ⟨by rfl, ?hy5_13_14⟩) (by assumption) ?rest5_13_14
            case hy5_13_14 => intro w hSw; (try dsimp only at hSw); first | (go_simp; done) | (go_simp; with_reducible rfl)
            try simp only [Act.put, List.setIfInBounds_toArray, List.set_cons_zero, List.set_cons_succ, List.getElem_toArray, List.getElem_cons_succ, List.getElem_cons_zero]
            refine wpAnyH_done (by kernel_rfl) ?_ _
            go_wp2_with fail
            go_meet
            exact ⟨g41, sqi, Aqi, nqi, cqi, tiqi, Bqi, mqi, dqi, rfl, rfl, (((((((((((((Env.again hE.bel).blkI (hE.here.1.1.1.1.1.1.1.1.1.1.1.2)).blkI (hE.here.1.1.1.1.1.1.1.1.1.1.2)).fv (hE.here.1.1.1.1.1.1.1.1.1.2)).blkI (hE.here.1.1.1.1.1.1.1.1.2)).fv (hE.here.1.1.1.1.1.1.1.2)).blkI (hE.here.1.1.1.1.1.1.2)).fv (hE.here.1.1.1.1.1.2)).blkI (hE.here.1.1.1.1.2)).fv (hE.here.1.1.1.2)).blkI (hE.here.1.1.2)).fv (hE.here.2)).blkI (hE.here.1.2))⟩
        · skip
          go_simp
          obtain ⟨g44, hg44⟩ : ∃ g44, g44 = wd.heap.size := ⟨_, rfl⟩
          have hl44_0 : w.heap.size < g44 := by rw [hg44]; exact (hE.here.1.1.1.1.1.1.1.1.1.2).lt
          have hl44_1 : w.heap.size + 1 < g44 := by rw [hg44]; exact (hE.here.1.1.1.1.1.1.1.1.2).lt
          have hl44_3 : g11 < g44 := by rw [hg44]; exact (hE.here.1.1.1.1.1.1.2).lt
          have hl44_5 : G6 < g44 := by rw [hg44]; exact (hE.here.1.1.1.1.2).lt
          have hl44_7 : g29 < g44 := by rw [hg44]; exact (hE.here.1.1.2).lt
          have hl44_9 : g36 < g44 := by rw [hg44]; exact (hE.here.2).lt
          replace hE := hE.blk 40 #[.bool false, .slice none 0 0, .bool false, .slice none 0 0] (g := g44) hg44.symm
          generalize wd.alloc (.cells #[.bool false, .slice none 0 0, .bool false, .slice none 0 0] 40) = W44 at hE ⊢
          rw [← hg44]
          clear hg44
          refine hK.out _ _ (⟨(hE.here.1.1.1.1.1.1.1.1.1.1.2).c3.1, (hE.here.1.1.1.1.1.1.1.1.1.1.2).c3.2.1, (hE.here.1.1.1.1.1.1.1.1.1.1.2).c3.2.2, (hE.here.1.1.1.1.1.1.1.1.1.2).c2.1, (hE.here.1.1.1.1.1.1.1.1.1.2).c2.2⟩) (fun hHeld => ?_)
          clear hK K
          try simp only [Act.put, List.setIfInBounds_toArray, List.set_cons_zero, List.set_cons_succ, List.getElem_toArray, List.getElem_cons_succ, List.getElem_cons_zero]
          refine wpAnyH_ready (rs := [4]) (by kernel_rfl) (by simp) (AllReadyH.cons rfl (fun K hK => ?_) (AllReadyH.nil))
          go_simp
          obtain ⟨y0, y300⟩ : 0 ≤ Y ∧ Y ≤ 300 := HU.out.2.2.2.2
          have hm9 := Hhm.out
          refine (later_v E Y (m : Int) _ y0 (by omega) (by omega) (by omega)).mono ?_
          rintro e w45 ⟨rfl, hb⟩
          replace hE := hE.step hb
          clear hb
          clear y0 y300 hm9
          go_wp2_with fail
          refine hK.out _ _ (⟨(hE.here.1.1.1.1.1.1.1.1.1.1.2).c3.1, (hE.here.1.1.1.1.1.1.1.1.1.1.2).c3.2.1, (hE.here.1.1.1.1.1.1.1.1.1.1.2).c3.2.2, (hE.here.1.1.1.1.1.1.1.1.1.2).c2.1, (hE.here.1.1.1.1.1.1.1.1.1.2).c2.2⟩) (fun hHeld => ?_)
          clear hK K
          try simp only [Act.put, List.setIfInBounds_toArray, List.set_cons_zero, List.set_cons_succ, List.getElem_toArray, List.getElem_cons_succ, List.getElem_cons_zero]
          refine wpAnyH_ready (rs := [7]) (by kernel_rfl) (by simp) (AllReadyH.cons rfl (fun K hK => ?_) (AllReadyH.nil))
          go_simp
          refine (HcQI.out _ (HT.out.below hE.bel)).mono ?_
          rintro e w46 ⟨sqi, Aqi, nqi, cqi, tiqi, Bqi, mqi, dqi, rfl, hqi, hb⟩
          replace hE := hE.step hb
          clear hb
          replace hE := hE.fv hqi
          clear hqi
          go_wp2_with fail
          refine hK.out _ _ (⟨(hE.here.1.1.1.1.1.1.1.1.1.1.1.2).c3.1, (hE.here.1.1.1.1.1.1.1.1.1.1.1.2).c3.2.1, (hE.here.1.1.1.1.1.1.1.1.1.1.1.2).c3.2.2, (hE.here.1.1.1.1.1.1.1.1.1.1.2).c2.1, (hE.here.1.1.1.1.1.1.1.1.1.1.2).c2.2⟩) (fun hHeld => ?_)
          clear hK K
          try simp only [Act.put, List.setIfInBounds_toArray, List.set_cons_zero, List.set_cons_succ, List.getElem_toArray, List.getElem_cons_succ, List.getElem_cons_zero]
          refine wpAnyH_take (i := 8) (v := ?v5_8_15) rfl (by kernel_rfl) (by kernel_rfl) (by kernel_rfl) (fun _ _ _ h => h) (Or.inl ⟨by rfl, ?hy5_8_15⟩) (by assumption) ?rest5_8_15
          case hy5_8_15 => intro w hSw; (try dsimp only at hSw); first | (go_simp; done) | (go_simp; with_reducible rfl)
          try simp only [Act.put, List.setIfInBounds_toArray, List.set_cons_zero, List.set_cons_succ, List.getElem_toArray, List.getElem_cons_succ, List.getElem_cons_zero]
          refine wpAnyH_take (i := 9) (v := ?v5_9_16) rfl (by kernel_rfl) (by kernel_rfl) (by kernel_rfl) (fun _ _ _ h => h) (Or.inl ⟨by rfl, ?hy5_9_16⟩) (by assumption) ?rest5_9_16
          case hy5_9_16 => intro w hSw; (try dsimp only at hSw); first | (go_simp; done) | (go_simp; with_reducible rfl)
          try simp only [Act.put, List.setIfInBounds_toArray, List.set_cons_zero, List.set_cons_succ, List.getElem_toArray, List.getElem_cons_succ, List.getElem_cons_zero]
          refine wpAnyH_take (i := 10) (v := ?v5_10_17) rfl (by kernel_rfl) (by kernel_rfl) (by kernel_rfl) (fun _ _ _ h => h) (Or.inl ⟨by rfl, ?hy5_10_17⟩) (by assumption) ?rest5_10_17
          case hy5_10_17 => intro w hSw; (try dsimp only at hSw); first | (go_simp; done) | (go_simp; with_reducible rfl)
          try simp only [Act.put, List.setIfInBounds_toArray, List.set_cons_zero, List.set_cons_succ, List.getElem_toArray, List.getElem_cons_succ, List.getElem_cons_zero]
          refine wpAnyH_ready (rs := [12]) (by kernel_rfl) (by simp) (AllReadyH.cons rfl (fun K hK => ?_) (AllReadyH.nil))
          have hgl47 : w.heap.size ≤ g44 := by omega
          obtain ⟨x47_0, x47_1, x47_2, x47_3⟩ := (hE.here.1.2).c4
          have f47_0 := (hE.here.1.2).frozen 0
          have f47_1 := (hE.here.1.2).frozen 1
          have f47_2 := (hE.here.1.2).frozen 2
          have f47_3 := (hE.here.1.2).frozen 3
          replace hE := (((((((((((((Env.again (bel4 hE.bel hgl47 (.bool sqi) (.slice Aqi nqi cqi) (.bool tiqi) (.slice Bqi mqi dqi))).blkI ((hE.here.1.1.1.1.1.1.1.1.1.1.1.2).far4 (R := g44) (by omega) (.bool sqi) (.slice Aqi nqi cqi) (.bool tiqi) (.slice Bqi mqi dqi))).blkI ((hE.here.1.1.1.1.1.1.1.1.1.1.2).far4 (R := g44) (by omega) (.bool sqi) (.slice Aqi nqi cqi) (.bool tiqi) (.slice Bqi mqi dqi))).fv ((hE.here.1.1.1.1.1.1.1.1.1.2).sep4 hE.here.1.2 rfl (.bool sqi) (.slice Aqi nqi cqi) (.bool tiqi) (.slice Bqi mqi dqi) rfl rfl rfl)).blkI ((hE.here.1.1.1.1.1.1.1.1.2).far4 (R := g44) (by omega) (.bool sqi) (.slice Aqi nqi cqi) (.bool tiqi) (.slice Bqi mqi dqi))).fv ((hE.here.1.1.1.1.1.1.1.2).sep4 hE.here.1.2 rfl (.bool sqi) (.slice Aqi nqi cqi) (.bool tiqi) (.slice Bqi mqi dqi) rfl rfl rfl)).blkI ((hE.here.1.1.1.1.1.1.2).far4 (R := g44) (by omega) (.bool sqi) (.slice Aqi nqi cqi) (.bool tiqi) (.slice Bqi mqi dqi))).fv ((hE.here.1.1.1.1.1.2).sep4 hE.here.1.2 rfl (.bool sqi) (.slice Aqi nqi cqi) (.bool tiqi) (.slice Bqi mqi dqi) rfl rfl rfl)).blkI ((hE.here.1.1.1.1.2).far4 (R := g44) (by omega) (.bool sqi) (.slice Aqi nqi cqi) (.bool tiqi) (.slice Bqi mqi dqi))).fv ((hE.here.1.1.1.2).sep4 hE.here.1.2 rfl (.bool sqi) (.slice Aqi nqi cqi) (.bool tiqi) (.slice Bqi mqi dqi) rfl rfl rfl)).blkI ((hE.here.1.1.2).far4 (R := g44) (by omega) (.bool sqi) (.slice Aqi nqi cqi) (.bool tiqi) (.slice Bqi mqi dqi))).blkI ((hE.here.1.2).s4 (.bool sqi) (.slice Aqi nqi cqi) (.bool tiqi) (.slice Bqi mqi dqi))).fv ((hE.here.2).sep4 hE.here.1.2 rfl (.bool sqi) (.slice Aqi nqi cqi) (.bool tiqi) (.slice Bqi mqi dqi) rfl rfl rfl))
          go_simp
          clear x47_0 x47_1 x47_2 x47_3 f47_0 f47_1 f47_2 f47_3 hgl47
          generalize ((((w46.setCell ⟨g44, 0, none⟩ (.bool sqi)).setCell ⟨g44, 1, none⟩ (.slice Aqi nqi cqi)).setCell ⟨g44, 2, none⟩ (.bool tiqi)).setCell ⟨g44, 3, none⟩ (.slice Bqi mqi dqi)) = W47 at hE ⊢
          refine hK.out _ _ (⟨(hE.here.1.1.1.1.1.1.1.1.1.1.1.2).c3.1, (hE.here.1.1.1.1.1.1.1.1.1.1.1.2).c3.2.1, (hE.here.1.1.1.1.1.1.1.1.1.1.1.2).c3.2.2, (hE.here.1.1.1.1.1.1.1.1.1.1.2).c2.1, (hE.here.1.1.1.1.1.1.1.1.1.1.2).c2.2⟩) (fun hHeld => ?_)
          clear hK K
          try simp only [Act.put, List.setIfInBounds_toArray, List.set_cons_zero, List.set_cons_succ, List.getElem_toArray, List.getElem_cons_succ, List.getElem_cons_zero]
          refine wpAnyH_take (i := 13) (v := ?v5_13_18) rfl (by kernel_rfl) (by kernel_rfl) (by kernel_rfl) (fun _ _ _ h => h) (Or.inl ⟨by rfl, ?hy5_13_18⟩) (by assumption) ?rest5_13_18
          case hy5_13_18 => intro w hSw; (try dsimp only at hSw); first | (go_simp; done) | (go_simp; with_reducible rfl)
          try simp only [Act.put, List.setIfInBounds_toArray, List.set_cons_zero, List.set_cons_succ, List.getElem_toArray, List.getElem_cons_succ, List.getElem_cons_zero]
          refine wpAnyH_done (by kernel_rfl) ?_ _
          go_wp2_with fail
          go_meet
          exact ⟨g44, sqi, Aqi, nqi, cqi, tiqi, Bqi, mqi, dqi, rfl, rfl, (((((((((((((Env.again hE.bel).blkI (hE.here.1.1.1.1.1.1.1.1.1.1.1.2)).blkI (hE.here.1.1.1.1.1.1.1.1.1.1.2)).fv (hE.here.1.1.1.1.1.1.1.1.1.2)).blkI (hE.here.1.1.1.1.1.1.1.1.2)).fv (hE.here.1.1.1.1.1.1.1.2)).blkI (hE.here.1.1.1.1.1.1.2)).fv (hE.here.1.1.1.1.1.2)).blkI (hE.here.1.1.1.1.2)).fv (hE.here.1.1.1.2)).blkI (hE.here.1.1.2)).fv (hE.here.2)).blkI (hE.here.1.2))⟩
      case rest =>
      clear hE
      obtain ⟨G9, sqi, Aqi, nqi, cqi, tiqi, Bqi, mqi, dqi, rfl, rfl, hE⟩ := hcut
      generalize wc = wk9 at hE ⊢
      go_upto_region 10 with (fail)
      obtain ⟨k48, k49, k50⟩ := (hE.here.1.1.1.1.1.1.1.1.1.1.1.2).c3
      obtain ⟨k51, k52⟩ := (hE.here.1.1.1.1.1.1.1.1.1.1.2).c2
      go_wp2_with fail
      refine (HcQQ.out _ (HT.out.below hE.bel)).mono ?_
      clear k48 k49 k50 k51 k52
      rintro e w53 ⟨sqq, Aqq, nqq, cqq, tiqq, Bqq, mqq, dqq, rfl, hqq, hb⟩
      replace hE := hE.step hb
      clear hb
      replace hE := hE.fv hqq
      clear hqq
      go_upto_region 11 with (fail)
      obtain ⟨g54, hg54⟩ : ∃ g54, g54 = w53.heap.size := ⟨_, rfl⟩
      have hl54_0 : w.heap.size < g54 := by rw [hg54]; exact (hE.here.1.1.1.1.1.1.1.1.1.1.1.1.2).lt
      have hl54_1 : w.heap.size + 1 < g54 := by rw [hg54]; exact (hE.here.1.1.1.1.1.1.1.1.1.1.1.2).lt
      have hl54_3 : g11 < g54 := by rw [hg54]; exact (hE.here.1.1.1.1.1.1.1.1.1.2).lt
      have hl54_5 : G6 < g54 := by rw [hg54]; exact (hE.here.1.1.1.1.1.1.1.2).lt
      have hl54_7 : g29 < g54 := by rw [hg54]; exact (hE.here.1.1.1.1.1.2).lt
      have hl54_9 : g36 < g54 := by rw [hg54]; exact (hE.here.1.1.1.2).lt
      have hl54_11 : G9 < g54 := by rw [hg54]; exact (hE.here.1.2).lt
      replace hE := hE.blk 40 #[.bool sqq, .slice Aqq nqq cqq, .bool tiqq, .slice Bqq mqq dqq] (g := g54) hg54.symm
      generalize w53.alloc (.cells #[.bool sqq, .slice Aqq nqq cqq, .bool tiqq, .slice Bqq mqq dqq] 40) = W54 at hE ⊢
      rw [← hg54]
      clear hg54
      obtain ⟨k55, k56, k57⟩ := (hE.here.1.1.1.1.1.1.1.1.1.1.1.1.1.2).c3
      obtain ⟨k58, k59⟩ := (hE.here.1.1.1.1.1.1.1.1.1.1.1.1.2).c2
      go_wp2_with fail
      refine (HcQL.out _ (HT.out.below hE.bel)).mono ?_
      clear k55 k56 k57 k58 k59
      rintro e w60 ⟨sql, Aql, nql, cql, tiql, Bql, mql, dql, rfl, hql, hb⟩
      replace hE := hE.step hb
      clear hb
      replace hE := hE.fv hql
      clear hql
      go_upto_region 12 with (fail)
      obtain ⟨g61, hg61⟩ : ∃ g61, g61 = w60.heap.size := ⟨_, rfl⟩
      have hl61_0 : w.heap.size < g61 := by rw [hg61]; exact (hE.here.1.1.1.1.1.1.1.1.1.1.1.1.1.1.2).lt
      have hl61_1 : w.heap.size + 1 < g61 := by rw [hg61]; exact (hE.here.1.1.1.1.1.1.1.1.1.1.1.1.1.2).lt
      have hl61_3 : g11 < g61 := by rw [hg61]; exact (hE.here.1.1.1.1.1.1.1.1.1.1.1.2).lt
      have hl61_5 : G6 < g61 := by rw [hg61]; exact (hE.here.1.1.1.1.1.1.1.1.1.2).lt
      have hl61_7 : g29 < g61 := by rw [hg61]; exact (hE.here.1.1.1.1.1.1.1.2).lt
      have hl61_9 : g36 < g61 := by rw [hg61]; exact (hE.here.1.1.1.1.1.2).lt
      have hl61_11 : G9 < g61 := by rw [hg61]; exact (hE.here.1.1.1.2).lt
      have hl61_13 : g54 < g61 := by rw [hg61]; exact (hE.here.1.2).lt
      replace hE := hE.blk 40 #[.bool sql, .slice Aql nql cql, .bool tiql, .slice Bql mql dql] (g := g61) hg61.symm
      generalize w60.alloc (.cells #[.bool sql, .slice Aql nql cql, .bool tiql, .slice Bql mql dql] 40) = W61 at hE ⊢
      rw [← hg61]
      clear hg61
      obtain ⟨k62, k63, k64⟩ := (hE.here.1.1.1.1.1.1.1.1.1.1.1.1.1.1.1.2).c3
      obtain ⟨k65, k66⟩ := (hE.here.1.1.1.1.1.1.1.1.1.1.1.1.1.1.2).c2
      go_wp2_with fail
      refine (HcQP.out _ (HT.out.below hE.bel)).mono ?_
      clear k62 k63 k64 k65 k66
      rintro e w67 ⟨sqp, Aqp, nqp, cqp, tiqp, Bqp, mqp, dqp, rfl, hqp, hb⟩
      replace hE := hE.step hb
      clear hb
      replace hE := hE.fv hqp
      clear hqp
      go_upto_region 13 with (fail)
      obtain ⟨g68, hg68⟩ : ∃ g68, g68 = w67.heap.size := ⟨_, rfl⟩
      have hl68_0 : w.heap.size < g68 := by rw [hg68]; exact (hE.here.1.1.1.1.1.1.1.1.1.1.1.1.1.1.1.1.2).lt
      have hl68_1 : w.heap.size + 1 < g68 := by rw [hg68]; exact (hE.here.1.1.1.1.1.1.1.1.1.1.1.1.1.1.1.2).lt
      have hl68_3 : g11 < g68 := by rw [hg68]; exact (hE.here.1.1.1.1.1.1.1.1.1.1.1.1.1.2).lt
      have hl68_5 : G6 < g68 := by rw [hg68]; exact (hE.here.1.1.1.1.1.1.1.1.1.1.1.2).lt
      have hl68_7 : g29 < g68 := by rw [hg68]; exact (hE.here.1.1.1.1.1.1.1.1.1.2).lt
      have hl68_9 : g36 < g68 := by rw [hg68]; exact (hE.here.1.1.1.1.1.1.1.2).lt
      have hl68_11 : G9 < g68 := by rw [hg68]; exact (hE.here.1.1.1.1.1.2).lt
      have hl68_13 : g54 < g68 := by rw [hg68]; exact (hE.here.1.1.1.2).lt
      have hl68_15 : g61 < g68 := by rw [hg68]; exact (hE.here.1.2).lt
      replace hE := hE.blk 40 #[.bool sqp, .slice Aqp nqp cqp, .bool tiqp, .slice Bqp mqp dqp] (g := g68) hg68.symm
      generalize w67.alloc (.cells #[.bool sqp, .slice Aqp nqp cqp, .bool tiqp, .slice Bqp mqp dqp] 40) = W68 at hE ⊢
      rw [← hg68]
      clear hg68
      go_upto_region 15 with (fail)
      replace hE := hE.drew
      refine wp_region_held_drew (S := fun w' => w'.cell? ⟨g11, 0, none⟩ = some (.bool sqa) ∧ w'.cell? ⟨g11, 1, none⟩ = some (.slice Aqa nqa cqa) ∧ w'.cell? ⟨g11, 2, none⟩ = some (.bool tiqa) ∧ w'.cell? ⟨g11, 3, none⟩ = some (.slice Bqa mqa dqa) ∧ w'.cell? ⟨G6, 0, none⟩ = some (.bool sqb) ∧ w'.cell? ⟨G6, 1, none⟩ = some (.slice Aqb nqb cqb) ∧ w'.cell? ⟨G6, 2, none⟩ = some (.bool tiqb) ∧ w'.cell? ⟨G6, 3, none⟩ = some (.slice Bqb mqb dqb) ∧ w'.cell? ⟨g29, 0, none⟩ = some (.bool sqc) ∧ w'.cell? ⟨g29, 1, none⟩ = some (.slice Aqc nqc cqc) ∧ w'.cell? ⟨g29, 2, none⟩ = some (.bool tiqc) ∧ w'.cell? ⟨g29, 3, none⟩ = some (.slice Bqc mqc dqc) ∧ w'.cell? ⟨g36, 0, none⟩ = some (.bool sqd) ∧ w'.cell? ⟨g36, 1, none⟩ = some (.slice Aqd nqd cqd) ∧ w'.cell? ⟨g36, 2, none⟩ = some (.bool tiqd) ∧ w'.cell? ⟨g36, 3, none⟩ = some (.slice Bqd mqd dqd) ∧ w'.cell? ⟨G9, 0, none⟩ = some (.bool sqi) ∧ w'.cell? ⟨G9, 1, none⟩ = some (.slice Aqi nqi cqi) ∧ w'.cell? ⟨G9, 2, none⟩ = some (.bool tiqi) ∧ w'.cell? ⟨G9, 3, none⟩ = some (.slice Bqi mqi dqi) ∧ w'.cell? ⟨g54, 0, none⟩ = some (.bool sqq) ∧ w'.cell? ⟨g54, 1, none⟩ = some (.slice Aqq nqq cqq) ∧ w'.cell? ⟨g54, 2, none⟩ = some (.bool tiqq) ∧ w'.cell? ⟨g54, 3, none⟩ = some (.slice Bqq mqq dqq) ∧ w'.cell? ⟨g61, 0, none⟩ = some (.bool sql) ∧ w'.cell? ⟨g61, 1, none⟩ = some (.slice Aql nql cql) ∧ w'.cell? ⟨g61, 2, none⟩ = some (.bool tiql) ∧ w'.cell? ⟨g61, 3, none⟩ = some (.slice Bql mql dql) ∧ w'.cell? ⟨g68, 0, none⟩ = some (.bool sqp) ∧ w'.cell? ⟨g68, 1, none⟩ = some (.slice Aqp nqp cqp) ∧ w'.cell? ⟨g68, 2, none⟩ = some (.bool tiqp) ∧ w'.cell? ⟨g68, 3, none⟩ = some (.slice Bqp mqp dqp)) (by kernel_rfl) (⟨(hE.here.1.1.1.1.1.1.1.1.1.1.1.1.1.1.2).c4.1, (hE.here.1.1.1.1.1.1.1.1.1.1.1.1.1.1.2).c4.2.1, (hE.here.1.1.1.1.1.1.1.1.1.1.1.1.1.1.2).c4.2.2.1, (hE.here.1.1.1.1.1.1.1.1.1.1.1.1.1.1.2).c4.2.2.2, (hE.here.1.1.1.1.1.1.1.1.1.1.1.1.2).c4.1, (hE.here.1.1.1.1.1.1.1.1.1.1.1.1.2).c4.2.1, (hE.here.1.1.1.1.1.1.1.1.1.1.1.1.2).c4.2.2.1, (hE.here.1.1.1.1.1.1.1.1.1.1.1.1.2).c4.2.2.2, (hE.here.1.1.1.1.1.1.1.1.1.1.2).c4.1, (hE.here.1.1.1.1.1.1.1.1.1.1.2).c4.2.1, (hE.here.1.1.1.1.1.1.1.1.1.1.2).c4.2.2.1, (hE.here.1.1.1.1.1.1.1.1.1.1.2).c4.2.2.2, (hE.here.1.1.1.1.1.1.1.1.2).c4.1, (hE.here.1.1.1.1.1.1.1.1.2).c4.2.1, (hE.here.1.1.1.1.1.1.1.1.2).c4.2.2.1, (hE.here.1.1.1.1.1.1.1.1.2).c4.2.2.2, (hE.here.1.1.1.1.1.1.2).c4.1, (hE.here.1.1.1.1.1.1.2).c4.2.1, (hE.here.1.1.1.1.1.1.2).c4.2.2.1, (hE.here.1.1.1.1.1.1.2).c4.2.2.2, (hE.here.1.1.1.1.2).c4.1, (hE.here.1.1.1.1.2).c4.2.1, (hE.here.1.1.1.1.2).c4.2.2.1, (hE.here.1.1.1.1.2).c4.2.2.2, (hE.here.1.1.2).c4.1, (hE.here.1.1.2).c4.2.1, (hE.here.1.1.2).c4.2.2.1, (hE.here.1.1.2).c4.2.2.2, (hE.here.2).c4.1, (hE.here.2).c4.2.1, (hE.here.2).c4.2.2.1, (hE.here.2).c4.2.2.2⟩) (fun hHeld => ?_)
      refine wpAnyH_take (i := 0) (v := ?v6_0_1) rfl (by kernel_rfl) (by kernel_rfl) (by kernel_rfl) (fun _ _ _ h => h) (Or.inl ⟨by rfl, ?hy6_0_1⟩) (by assumption) ?rest6_0_1
      case hy6_0_1 => intro w hSw; (try dsimp only at hSw); first | (go_simp; done) | (go_simp; with_reducible rfl)
      try simp only [Act.put, List.setIfInBounds_toArray, List.set_cons_zero, List.set_cons_succ, List.getElem_toArray, List.getElem_cons_succ, List.getElem_cons_zero]
      refine wpAnyH_take (i := 1) (v := ?v6_1_2) rfl (by kernel_rfl) (by kernel_rfl) (by kernel_rfl) (fun _ _ _ h => h) (Or.inl ⟨by rfl, ?hy6_1_2⟩) (by assumption) ?rest6_1_2
      case hy6_1_2 => intro w hSw; (try dsimp only at hSw); first | (go_simp; done) | (go_simp; with_reducible rfl)
      try simp only [Act.put, List.setIfInBounds_toArray, List.set_cons_zero, List.set_cons_succ, List.getElem_toArray, List.getElem_cons_succ, List.getElem_cons_zero]
      refine wpAnyH_take (i := 3) (v := ?v6_3_3) rfl (by kernel_rfl) (by kernel_rfl) (by kernel_rfl) (fun _ _ _ h => h) (Or.inl ⟨by rfl, ?hy6_3_3⟩) (by assumption) ?rest6_3_3
      case hy6_3_3 => intro w hSw; (try dsimp only at hSw); first | (go_simp; done) | (go_simp; with_reducible rfl)
      try simp only [Act.put, List.setIfInBounds_toArray, List.set_cons_zero, List.set_cons_succ, List.getElem_toArray, List.getElem_cons_succ, List.getElem_cons_zero]
      refine wpAnyH_ready (rs := [2]) (by kernel_rfl) (by simp) (AllReadyH.cons rfl (fun K hK => ?_) (AllReadyH.nil))
      go_simp
      refine (lw_product (ca := cqa) (da := dqa) (cb := cqb) (db := dqb) hE.here.1.1.1.1.1.1.1.1.1.1.1.1.1.1.1.2 hE.here.1.1.1.1.1.1.1.1.1.1.1.1.1.2 (HsQA.out.l (by decide)) (HsQB.out.l (by decide)) Hf1.out).mono ?_
      rintro e w69 ⟨sab, Aab, nab, cab, tiab, Bab, mab, dab, rfl, hab, hb⟩
      replace hE := hE.step hb
      clear hb
      replace hE := hE.fv hab
      clear hab
      go_wp2_with fail
      refine hK.out _ _ (⟨(hE.here.1.1.1.1.1.1.1.1.1.1.1.1.1.1.1.2).c4.1, (hE.here.1.1.1.1.1.1.1.1.1.1.1.1.1.1.1.2).c4.2.1, (hE.here.1.1.1.1.1.1.1.1.1.1.1.1.1.1.1.2).c4.2.2.1, (hE.here.1.1.1.1.1.1.1.1.1.1.1.1.1.1.1.2).c4.2.2.2, (hE.here.1.1.1.1.1.1.1.1.1.1.1.1.1.2).c4.1, (hE.here.1.1.1.1.1.1.1.1.1.1.1.1.1.2).c4.2.1, (hE.here.1.1.1.1.1.1.1.1.1.1.1.1.1.2).c4.2.2.1, (hE.here.1.1.1.1.1.1.1.1.1.1.1.1.1.2).c4.2.2.2, (hE.here.1.1.1.1.1.1.1.1.1.1.1.2).c4.1, (hE.here.1.1.1.1.1.1.1.1.1.1.1.2).c4.2.1, (hE.here.1.1.1.1.1.1.1.1.1.1.1.2).c4.2.2.1, (hE.here.1.1.1.1.1.1.1.1.1.1.1.2).c4.2.2.2, (hE.here.1.1.1.1.1.1.1.1.1.2).c4.1, (hE.here.1.1.1.1.1.1.1.1.1.2).c4.2.1, (hE.here.1.1.1.1.1.1.1.1.1.2).c4.2.2.1, (hE.here.1.1.1.1.1.1.1.1.1.2).c4.2.2.2, (hE.here.1.1.1.1.1.1.1.2).c4.1, (hE.here.1.1.1.1.1.1.1.2).c4.2.1, (hE.here.1.1.1.1.1.1.1.2).c4.2.2.1, (hE.here.1.1.1.1.1.1.1.2).c4.2.2.2, (hE.here.1.1.1.1.1.2).c4.1, (hE.here.1.1.1.1.1.2).c4.2.1, (hE.here.1.1.1.1.1.2).c4.2.2.1, (hE.here.1.1.1.1.1.2).c4.2.2.2, (hE.here.1.1.1.2).c4.1, (hE.here.1.1.1.2).c4.2.1, (hE.here.1.1.1.2).c4.2.2.1, (hE.here.1.1.1.2).c4.2.2.2, (hE.here.1.2).c4.1, (hE.here.1.2).c4.2.1, (hE.here.1.2).c4.2.2.1, (hE.here.1.2).c4.2.2.2⟩) (fun hHeld => ?_)
      clear hK K
      try simp only [Act.put, List.setIfInBounds_toArray, List.set_cons_zero, List.set_cons_succ, List.getElem_toArray, List.getElem_cons_succ, List.getElem_cons_zero]
      refine wpAnyH_ready (rs := [4]) (by kernel_rfl) (by simp) (AllReadyH.cons rfl (fun K hK => ?_) (AllReadyH.nil))
      go_simp
      refine (lw_equal (v := true) (ca := cab) (da := dab) (cb := cqc) (db := dqc) hE.here.2 hE.here.1.1.1.1.1.1.1.1.1.1.1.1.2 Hf1.out (HsQC.out.l (by decide)) (decide_eq_true Hg1.out)).mono ?_
      rintro e w70 ⟨rfl, hb⟩
      replace hE := hE.step hb
      clear hb
      go_wp2_with fail
      refine hK.out _ _ (⟨(hE.here.1.1.1.1.1.1.1.1.1.1.1.1.1.1.1.2).c4.1, (hE.here.1.1.1.1.1.1.1.1.1.1.1.1.1.1.1.2).c4.2.1, (hE.here.1.1.1.1.1.1.1.1.1.1.1.1.1.1.1.2).c4.2.2.1, (hE.here.1.1.1.1.1.1.1.1.1.1.1.1.1.1.1.2).c4.2.2.2, (hE.here.1.1.1.1.1.1.1.1.1.1.1.1.1.2).c4.1, (hE.here.1.1.1.1.1.1.1.1.1.1.1.1.1.2).c4.2.1, (hE.here.1.1.1.1.1.1.1.1.1.1.1.1.1.2).c4.2.2.1, (hE.here.1.1.1.1.1.1.1.1.1.1.1.1.1.2).c4.2.2.2, (hE.here.1.1.1.1.1.1.1.1.1.1.1.2).c4.1, (hE.here.1.1.1.1.1.1.1.1.1.1.1.2).c4.2.1, (hE.here.1.1.1.1.1.1.1.1.1.1.1.2).c4.2.2.1, (hE.here.1.1.1.1.1.1.1.1.1.1.1.2).c4.2.2.2, (hE.here.1.1.1.1.1.1.1.1.1.2).c4.1, (hE.here.1.1.1.1.1.1.1.1.1.2).c4.2.1, (hE.here.1.1.1.1.1.1.1.1.1.2).c4.2.2.1, (hE.here.1.1.1.1.1.1.1.1.1.2).c4.2.2.2, (hE.here.1.1.1.1.1.1.1.2).c4.1, (hE.here.1.1.1.1.1.1.1.2).c4.2.1, (hE.here.1.1.1.1.1.1.1.2).c4.2.2.1, (hE.here.1.1.1.1.1.1.1.2).c4.2.2.2, (hE.here.1.1.1.1.1.2).c4.1, (hE.here.1.1.1.1.1.2).c4.2.1, (hE.here.1.1.1.1.1.2).c4.2.2.1, (hE.here.1.1.1.1.1.2).c4.2.2.2, (hE.here.1.1.1.2).c4.1, (hE.here.1.1.1.2).c4.2.1, (hE.here.1.1.1.2).c4.2.2.1, (hE.here.1.1.1.2).c4.2.2.2, (hE.here.1.2).c4.1, (hE.here.1.2).c4.2.1, (hE.here.1.2).c4.2.2.1, (hE.here.1.2).c4.2.2.2⟩) (fun hHeld => ?_)
      clear hK K
      try simp only [Act.put, List.setIfInBounds_toArray, List.set_cons_zero, List.set_cons_succ, List.getElem_toArray, List.getElem_cons_succ, List.getElem_cons_zero]
      refine wpAnyH_take (i := 5) (v := ?v6_5_4) rfl (by kernel_rfl) (by kernel_rfl) (by kernel_rfl) (fun _ _ _ h => h) (Or.inl ⟨by rfl, ?hy6_5_4⟩) (by assumption) ?rest6_5_4
      case hy6_5_4 => intro w hSw; (try dsimp only at hSw); first | (go_simp; done) | (go_simp; with_reducible rfl)
      try simp only [Act.put, List.setIfInBounds_toArray, List.set_cons_zero, List.set_cons_succ, List.getElem_toArray, List.getElem_cons_succ, List.getElem_cons_zero]
      refine wpAnyH_take (i := 6) (v := ?v6_6_5) rfl (by kernel_rfl) (by kernel_rfl) (by kernel_rfl) (fun _ _ _ h => h) (Or.inl ⟨by rfl, ?hy6_6_5⟩) (by assumption) ?rest6_6_5
      case hy6_6_5 => intro w hSw; (try dsimp only at hSw); first | (go_simp; done) | (go_simp; with_reducible rfl)
      try simp only [Act.put, List.setIfInBounds_toArray, List.set_cons_zero, List.set_cons_succ, List.getElem_toArray, List.getElem_cons_succ, List.getElem_cons_zero]
      refine wpAnyH_take (i := 7) (v := ?v6_7_6) rfl (by kernel_rfl) (by kernel_rfl) (by kernel_rfl) (fun _ _ _ h => h) (Or.inl ⟨by rfl, ?hy6_7_6⟩) (by assumption) ?rest6_7_6
      case hy6_7_6 => intro w hSw; (try dsimp only at hSw); first | (go_simp; done) | (go_simp; with_reducible rfl)
      try simp only [Act.put, List.setIfInBounds_toArray, List.set_cons_zero, List.set_cons_succ, List.getElem_toArray, List.getElem_cons_succ, List.getElem_cons_zero]
      refine wpAnyH_take (i := 9) (v := ?v6_9_7) rfl (by kernel_rfl) (by kernel_rfl) (by kernel_rfl) (fun _ _ _ h => h) (Or.inl ⟨by rfl, ?hy6_9_7⟩) (by assumption) ?rest6_9_7
      case hy6_9_7 => intro w hSw; (try dsimp only at hSw); first | (go_simp; done) | (go_simp; with_reducible rfl)
      try simp only [Act.put, List.setIfInBounds_toArray, List.set_cons_zero, List.set_cons_succ, List.getElem_toArray, List.getElem_cons_succ, List.getElem_cons_zero]
      refine wpAnyH_ready (rs := [8]) (by kernel_rfl) (by simp) (AllReadyH.cons rfl (fun K hK => ?_) (AllReadyH.nil))
      go_simp
      refine (lw_product (ca := cqa) (da := dqa) (cb := cqi) (db := dqi) hE.here.1.1.1.1.1.1.1.1.1.1.1.1.1.1.1.1.2 hE.here.1.1.1.1.1.1.1.1.2 (HsQA.out.l (by decide)) (HsQI.out.l (by decide)) Hf2.out).mono ?_
      rintro e w71 ⟨sai, Aai, nai, cai, tiai, Bai, mai, dai, rfl, hai, hb⟩
      replace hE := hE.step hb
      clear hb
      replace hE := hE.fv hai
      clear hai
      go_wp2_with fail
      refine hK.out _ _ (⟨(hE.here.1.1.1.1.1.1.1.1.1.1.1.1.1.1.1.1.2).c4.1, (hE.here.1.1.1.1.1.1.1.1.1.1.1.1.1.1.1.1.2).c4.2.1, (hE.here.1.1.1.1.1.1.1.1.1.1.1.1.1.1.1.1.2).c4.2.2.1, (hE.here.1.1.1.1.1.1.1.1.1.1.1.1.1.1.1.1.2).c4.2.2.2, (hE.here.1.1.1.1.1.1.1.1.1.1.1.1.1.1.2).c4.1, (hE.here.1.1.1.1.1.1.1.1.1.1.1.1.1.1.2).c4.2.1, (hE.here.1.1.1.1.1.1.1.1.1.1.1.1.1.1.2).c4.2.2.1, (hE.here.1.1.1.1.1.1.1.1.1.1.1.1.1.1.2).c4.2.2.2, (hE.here.1.1.1.1.1.1.1.1.1.1.1.1.2).c4.1, (hE.here.1.1.1.1.1.1.1.1.1.1.1.1.2).c4.2.1, (hE.here.1.1.1.1.1.1.1.1.1.1.1.1.2).c4.2.2.1, (hE.here.1.1.1.1.1.1.1.1.1.1.1.1.2).c4.2.2.2, (hE.here.1.1.1.1.1.1.1.1.1.1.2).c4.1, (hE.here.1.1.1.1.1.1.1.1.1.1.2).c4.2.1, (hE.here.1.1.1.1.1.1.1.1.1.1.2).c4.2.2.1, (hE.here.1.1.1.1.1.1.1.1.1.1.2).c4.2.2.2, (hE.here.1.1.1.1.1.1.1.1.2).c4.1, (hE.here.1.1.1.1.1.1.1.1.2).c4.2.1, (hE.here.1.1.1.1.1.1.1.1.2).c4.2.2.1, (hE.here.1.1.1.1.1.1.1.1.2).c4.2.2.2, (hE.here.1.1.1.1.1.1.2).c4.1, (hE.here.1.1.1.1.1.1.2).c4.2.1, (hE.here.1.1.1.1.1.1.2).c4.2.2.1, (hE.here.1.1.1.1.1.1.2).c4.2.2.2, (hE.here.1.1.1.1.2).c4.1, (hE.here.1.1.1.1.2).c4.2.1, (hE.here.1.1.1.1.2).c4.2.2.1, (hE.here.1.1.1.1.2).c4.2.2.2, (hE.here.1.1.2).c4.1, (hE.here.1.1.2).c4.2.1, (hE.here.1.1.2).c4.2.2.1, (hE.here.1.1.2).c4.2.2.2⟩) (fun hHeld => ?_)
      clear hK K
      try simp only [Act.put, List.setIfInBounds_toArray, List.set_cons_zero, List.set_cons_succ, List.getElem_toArray, List.getElem_cons_succ, List.getElem_cons_zero]
      refine wpAnyH_ready (rs := [10]) (by kernel_rfl) (by simp) (AllReadyH.cons rfl (fun K hK => ?_) (AllReadyH.nil))
      go_simp
      refine (lw_equal (v := true) (ca := cai) (da := dai) (cb := cqd) (db := dqd) hE.here.2 hE.here.1.1.1.1.1.1.1.1.1.1.1.2 Hf2.out (HsQD.out.l (by decide)) (decide_eq_true Hg2.out)).mono ?_
      rintro e w72 ⟨rfl, hb⟩
      replace hE := hE.step hb
      clear hb
      go_wp2_with fail
      refine hK.out _ _ (⟨(hE.here.1.1.1.1.1.1.1.1.1.1.1.1.1.1.1.1.2).c4.1, (hE.here.1.1.1.1.1.1.1.1.1.1.1.1.1.1.1.1.2).c4.2.1, (hE.here.1.1.1.1.1.1.1.1.1.1.1.1.1.1.1.1.2).c4.2.2.1, (hE.here.1.1.1.1.1.1.1.1.1.1.1.1.1.1.1.1.2).c4.2.2.2, (hE.here.1.1.1.1.1.1.1.1.1.1.1.1.1.1.2).c4.1, (hE.here.1.1.1.1.1.1.1.1.1.1.1.1.1.1.2).c4.2.1, (hE.here.1.1.1.1.1.1.1.1.1.1.1.1.1.1.2).c4.2.2.1, (hE.here.1.1.1.1.1.1.1.1.1.1.1.1.1.1.2).c4.2.2.2, (hE.here.1.1.1.1.1.1.1.1.1.1.1.1.2).c4.1, (hE.here.1.1.1.1.1.1.1.1.1.1.1.1.2).c4.2.1, (hE.here.1.1.1.1.1.1.1.1.1.1.1.1.2).c4.2.2.1, (hE.here.1.1.1.1.1.1.1.1.1.1.1.1.2).c4.2.2.2, (hE.here.1.1.1.1.1.1.1.1.1.1.2).c4.1, (hE.here.1.1.1.1.1.1.1.1.1.1.2).c4.2.1, (hE.here.1.1.1.1.1.1.1.1.1.1.2).c4.2.2.1, (hE.here.1.1.1.1.1.1.1.1.1.1.2).c4.2.2.2, (hE.here.1.1.1.1.1.1.1.1.2).c4.1, (hE.here.1.1.1.1.1.1.1.1.2).c4.2.1, (hE.here.1.1.1.1.1.1.1.1.2).c4.2.2.1, (hE.here.1.1.1.1.1.1.1.1.2).c4.2.2.2, (hE.here.1.1.1.1.1.1.2).c4.1, (hE.here.1.1.1.1.1.1.2).c4.2.1, (hE.here.1.1.1.1.1.1.2).c4.2.2.1, (hE.here.1.1.1.1.1.1.2).c4.2.2.2, (hE.here.1.1.1.1.2).c4.1, (hE.here.1.1.1.1.2).c4.2.1, (hE.here.1.1.1.1.2).c4.2.2.1, (hE.here.1.1.1.1.2).c4.2.2.2, (hE.here.1.1.2).c4.1, (hE.here.1.1.2).c4.2.1, (hE.here.1.1.2).c4.2.2.1, (hE.here.1.1.2).c4.2.2.2⟩) (fun hHeld => ?_)
      clear hK K
      try simp only [Act.put, List.setIfInBounds_toArray, List.set_cons_zero, List.set_cons_succ, List.getElem_toArray, List.getElem_cons_succ, List.getElem_cons_zero]
      refine wpAnyH_take (i := 11) (v := ?v6_11_8) rfl (by kernel_rfl) (by kernel_rfl) (by kernel_rfl) (fun _ _ _ h => h) (Or.inl ⟨by rfl, ?hy6_11_8⟩) (by assumption) ?rest6_11_8
      case hy6_11_8 => intro w hSw; (try dsimp only at hSw); first | (go_simp; done) | (go_simp; with_reducible rfl)
      try simp only [Act.put, List.setIfInBounds_toArray, List.set_cons_zero, List.set_cons_succ, List.getElem_toArray, List.getElem_cons_succ, List.getElem_cons_zero]
      refine wpAnyH_take (i := 12) (v := ?v6_12_9) rfl (by kernel_rfl) (by kernel_rfl) (by kernel_rfl) (fun _ _ _ h => h) (Or.inl ⟨by rfl, ?hy6_12_9⟩) (by assumption) ?rest6_12_9
      case hy6_12_9 => intro w hSw; (try dsimp only at hSw); first | (go_simp; done) | (go_simp; with_reducible rfl)
      try simp only [Act.put, List.setIfInBounds_toArray, List.set_cons_zero, List.set_cons_succ, List.getElem_toArray, List.getElem_cons_succ, List.getElem_cons_zero]
      refine wpAnyH_take (i := 13) (v := ?v6_13_10) rfl (by kernel_rfl) (by kernel_rfl) (by kernel_rfl) (fun _ _ _ h => h) (Or.inl ⟨by rfl, ?hy6_13_10⟩) (by assumption) ?rest6_13_10
      case hy6_13_10 => intro w hSw; (try dsimp only at hSw); first | (go_simp; done) | (go_simp; with_reducible rfl)
      try simp only [Act.put, List.setIfInBounds_toArray, List.set_cons_zero, List.set_cons_succ, List.getElem_toArray, List.getElem_cons_succ, List.getElem_cons_zero]
      refine wpAnyH_take (i := 14) (v := ?v6_14_11) rfl (by kernel_rfl) (by kernel_rfl) (by kernel_rfl) (fun _ _ _ h => h) (Or.inl ⟨by rfl, ?hy6_14_11⟩) (by assumption) ?rest6_14_11
      case hy6_14_11 => intro w hSw; (try dsimp only at hSw); first | (go_simp; done) | (go_simp; with_reducible rfl)
      try simp only [Act.put, List.setIfInBounds_toArray, List.set_cons_zero, List.set_cons_succ, List.getElem_toArray, List.getElem_cons_succ, List.getElem_cons_zero]
      refine wpAnyH_ready (rs := [15]) (by kernel_rfl) (by simp) (AllReadyH.cons rfl (fun K hK => ?_) (AllReadyH.nil))
      go_simp
      refine (lw_equal (v := true) (ca := cqq) (da := dqq) (cb := cql) (db := dql) hE.here.1.1.1.1.1.1.1.2 hE.here.1.1.1.1.1.2 (HsQQ.out.l (by decide)) (HsQL.out.l (by decide)) (decide_eq_true Hg3.out)).mono ?_
      rintro e w73 ⟨rfl, hb⟩
      replace hE := hE.step hb
      clear hb
      go_wp2_with fail
      refine hK.out _ _ (⟨(hE.here.1.1.1.1.1.1.1.1.1.1.1.1.1.1.1.1.2).c4.1, (hE.here.1.1.1.1.1.1.1.1.1.1.1.1.1.1.1.1.2).c4.2.1, (hE.here.1.1.1.1.1.1.1.1.1.1.1.1.1.1.1.1.2).c4.2.2.1, (hE.here.1.1.1.1.1.1.1.1.1.1.1.1.1.1.1.1.2).c4.2.2.2, (hE.here.1.1.1.1.1.1.1.1.1.1.1.1.1.1.2).c4.1, (hE.here.1.1.1.1.1.1.1.1.1.1.1.1.1.1.2).c4.2.1, (hE.here.1.1.1.1.1.1.1.1.1.1.1.1.1.1.2).c4.2.2.1, (hE.here.1.1.1.1.1.1.1.1.1.1.1.1.1.1.2).c4.2.2.2, (hE.here.1.1.1.1.1.1.1.1.1.1.1.1.2).c4.1, (hE.here.1.1.1.1.1.1.1.1.1.1.1.1.2).c4.2.1, (hE.here.1.1.1.1.1.1.1.1.1.1.1.1.2).c4.2.2.1, (hE.here.1.1.1.1.1.1.1.1.1.1.1.1.2).c4.2.2.2, (hE.here.1.1.1.1.1.1.1.1.1.1.2).c4.1, (hE.here.1.1.1.1.1.1.1.1.1.1.2).c4.2.1, (hE.here.1.1.1.1.1.1.1.1.1.1.2).c4.2.2.1, (hE.here.1.1.1.1.1.1.1.1.1.1.2).c4.2.2.2, (hE.here.1.1.1.1.1.1.1.1.2).c4.1, (hE.here.1.1.1.1.1.1.1.1.2).c4.2.1, (hE.here.1.1.1.1.1.1.1.1.2).c4.2.2.1, (hE.here.1.1.1.1.1.1.1.1.2).c4.2.2.2, (hE.here.1.1.1.1.1.1.2).c4.1, (hE.here.1.1.1.1.1.1.2).c4.2.1, (hE.here.1.1.1.1.1.1.2).c4.2.2.1, (hE.here.1.1.1.1.1.1.2).c4.2.2.2, (hE.here.1.1.1.1.2).c4.1, (hE.here.1.1.1.1.2).c4.2.1, (hE.here.1.1.1.1.2).c4.2.2.1, (hE.here.1.1.1.1.2).c4.2.2.2, (hE.here.1.1.2).c4.1, (hE.here.1.1.2).c4.2.1, (hE.here.1.1.2).c4.2.2.1, (hE.here.1.1.2).c4.2.2.2⟩) (fun hHeld => ?_)
      clear hK K
      try simp only [Act.put, List.setIfInBounds_toArray, List.set_cons_zero, List.set_cons_succ, List.getElem_toArray, List.getElem_cons_succ, List.getElem_cons_zero]
      refine wpAnyH_take (i := 16) (v := ?v6_16_12) rfl (by kernel_rfl) (by kernel_rfl) (by kernel_rfl) (fun _ _ _ h => h) (Or.inl ⟨by rfl, ?hy6_16_12⟩) (by assumption) ?rest6_16_12
      case hy6_16_12 => intro w hSw; (try dsimp only at hSw); first | (go_simp; done) | (go_simp; with_reducible rfl)
      try simp only [Act.put, List.setIfInBounds_toArray, List.set_cons_zero, List.set_cons_succ, List.getElem_toArray, List.getElem_cons_succ, List.getElem_cons_zero]
      refine wpAnyH_take (i := 17) (v := ?v6_17_13) rfl (by kernel_rfl) (by kernel_rfl) (by kernel_rfl) (fun _ _ _ h => h) (Or.inl ⟨by rfl, ?hy6_17_13⟩) (by assumption) ?rest6_17_13
      case hy6_17_13 => intro w hSw; (try dsimp only at hSw); first | (go_simp; done) | (go_simp; with_reducible rfl)
      try simp only [Act.put, List.setIfInBounds_toArray, List.set_cons_zero, List.set_cons_succ, List.getElem_toArray, List.getElem_cons_succ, List.getElem_cons_zero]
      refine wpAnyH_take (i := 18) (v := ?v6_18_14) rfl (by kernel_rfl) (by kernel_rfl) (by kernel_rfl) (fun _ _ _ h => h) (Or.inl ⟨by rfl, ?hy6_18_14⟩) (by assumption) ?rest6_18_14
      case hy6_18_14 => intro w hSw; (try dsimp only at hSw); first | (go_simp; done) | (go_simp; with_reducible rfl)
      try simp only [Act.put, List.setIfInBounds_toArray, List.set_cons_zero, List.set_cons_succ, List.getElem_toArray, List.getElem_cons_succ, List.getElem_cons_zero]
      refine wpAnyH_take (i := 19) (v := ?v6_19_15) rfl (by kernel_rfl) (by kernel_rfl) (by kernel_rfl) (fun _ _ _ h => h) (Or.inl ⟨by rfl, ?hy6_19_15⟩) (by assumption) ?rest6_19_15
      case hy6_19_15 => intro w hSw; (try dsimp only at hSw); first | (go_simp; done) | (go_simp; with_reducible rfl)
      try simp only [Act.put, List.setIfInBounds_toArray, List.set_cons_zero, List.set_cons_succ, List.getElem_toArray, List.getElem_cons_succ, List.getElem_cons_zero]
      refine wpAnyH_ready (rs := [20]) (by kernel_rfl) (by simp) (AllReadyH.cons rfl (fun K hK => ?_) (AllReadyH.nil))
      go_simp
      refine (law_not (ca := cqq) (da := dqq) hE.here.1.1.1.1.1.1.1.2 (HsQQ.out.l (by decide)) (HsQQ.out.no.l (by decide))).mono ?_
      rintro e w74 ⟨snq, Anq, nnq, cnq, tinq, Bnq, mnq, dnq, rfl, hnq, hb⟩
      replace hE := hE.step hb
      clear hb
      replace hE := hE.fv hnq
      clear hnq
      go_wp2_with fail
      refine hK.out _ _ (⟨(hE.here.1.1.1.1.1.1.1.1.1.1.1.1.1.1.1.1.1.2).c4.1, (hE.here.1.1.1.1.1.1.1.1.1.1.1.1.1.1.1.1.1.2).c4.2.1, (hE.here.1.1.1.1.1.1.1.1.1.1.1.1.1.1.1.1.1.2).c4.2.2.1, (hE.here.1.1.1.1.1.1.1.1.1.1.1.1.1.1.1.1.1.2).c4.2.2.2, (hE.here.1.1.1.1.1.1.1.1.1.1.1.1.1.1.1.2).c4.1, (hE.here.1.1.1.1.1.1.1.1.1.1.1.1.1.1.1.2).c4.2.1, (hE.here.1.1.1.1.1.1.1.1.1.1.1.1.1.1.1.2).c4.2.2.1, (hE.here.1.1.1.1.1.1.1.1.1.1.1.1.1.1.1.2).c4.2.2.2, (hE.here.1.1.1.1.1.1.1.1.1.1.1.1.1.2).c4.1, (hE.here.1.1.1.1.1.1.1.1.1.1.1.1.1.2).c4.2.1, (hE.here.1.1.1.1.1.1.1.1.1.1.1.1.1.2).c4.2.2.1, (hE.here.1.1.1.1.1.1.1.1.1.1.1.1.1.2).c4.2.2.2, (hE.here.1.1.1.1.1.1.1.1.1.1.1.2).c4.1, (hE.here.1.1.1.1.1.1.1.1.1.1.1.2).c4.2.1, (hE.here.1.1.1.1.1.1.1.1.1.1.1.2).c4.2.2.1, (hE.here.1.1.1.1.1.1.1.1.1.1.1.2).c4.2.2.2, (hE.here.1.1.1.1.1.1.1.1.1.2).c4.1, (hE.here.1.1.1.1.1.1.1.1.1.2).c4.2.1, (hE.here.1.1.1.1.1.1.1.1.1.2).c4.2.2.1, (hE.here.1.1.1.1.1.1.1.1.1.2).c4.2.2.2, (hE.here.1.1.1.1.1.1.1.2).c4.1, (hE.here.1.1.1.1.1.1.1.2).c4.2.1, (hE.here.1.1.1.1.1.1.1.2).c4.2.2.1, (hE.here.1.1.1.1.1.1.1.2).c4.2.2.2, (hE.here.1.1.1.1.1.2).c4.1, (hE.here.1.1.1.1.1.2).c4.2.1, (hE.here.1.1.1.1.1.2).c4.2.2.1, (hE.here.1.1.1.1.1.2).c4.2.2.2, (hE.here.1.1.1.2).c4.1, (hE.here.1.1.1.2).c4.2.1, (hE.here.1.1.1.2).c4.2.2.1, (hE.here.1.1.1.2).c4.2.2.2⟩) (fun hHeld => ?_)
      clear hK K
      try simp only [Act.put, List.setIfInBounds_toArray, List.set_cons_zero, List.set_cons_succ, List.getElem_toArray, List.getElem_cons_succ, List.getElem_cons_zero]
      refine wpAnyH_ready (rs := [21]) (by kernel_rfl) (by simp) (AllReadyH.cons rfl (fun K hK => ?_) (AllReadyH.nil))
      go_simp
      refine (lw_equal (v := true) (ca := cqp) (da := dqp) (cb := cnq) (db := dnq) hE.here.1.1.1.1.2 hE.here.2 (HsQP.out.l (by decide)) (HsQQ.out.no.l (by decide)) (decide_eq_true Hg4.out)).mono ?_
      rintro e w75 ⟨rfl, hb⟩
      replace hE := hE.step hb
      clear hb
      go_wp2_with fail
      refine hK.out _ _ (⟨(hE.here.1.1.1.1.1.1.1.1.1.1.1.1.1.1.1.1.1.2).c4.1, (hE.here.1.1.1.1.1.1.1.1.1.1.1.1.1.1.1.1.1.2).c4.2.1, (hE.here.1.1.1.1.1.1.1.1.1.1.1.1.1.1.1.1.1.2).c4.2.2.1, (hE.here.1.1.1.1.1.1.1.1.1.1.1.1.1.1.1.1.1.2).c4.2.2.2, (hE.here.1.1.1.1.1.1.1.1.1.1.1.1.1.1.1.2).c4.1, (hE.here.1.1.1.1.1.1.1.1.1.1.1.1.1.1.1.2).c4.2.1, (hE.here.1.1.1.1.1.1.1.1.1.1.1.1.1.1.1.2).c4.2.2.1, (hE.here.1.1.1.1.1.1.1.1.1.1.1.1.1.1.1.2).c4.2.2.2, (hE.here.1.1.1.1.1.1.1.1.1.1.1.1.1.2).c4.1, (hE.here.1.1.1.1.1.1.1.1.1.1.1.1.1.2).c4.2.1, (hE.here.1.1.1.1.1.1.1.1.1.1.1.1.1.2).c4.2.2.1, (hE.here.1.1.1.1.1.1.1.1.1.1.1.1.1.2).c4.2.2.2, (hE.here.1.1.1.1.1.1.1.1.1.1.1.2).c4.1, (hE.here.1.1.1.1.1.1.1.1.1.1.1.2).c4.2.1, (hE.here.1.1.1.1.1.1.1.1.1.1.1.2).c4.2.2.1, (hE.here.1.1.1.1.1.1.1.1.1.1.1.2).c4.2.2.2, (hE.here.1.1.1.1.1.1.1.1.1.2).c4.1, (hE.here.1.1.1.1.1.1.1.1.1.2).c4.2.1, (hE.here.1.1.1.1.1.1.1.1.1.2).c4.2.2.1, (hE.here.1.1.1.1.1.1.1.1.1.2).c4.2.2.2, (hE.here.1.1.1.1.1.1.1.2).c4.1, (hE.here.1.1.1.1.1.1.1.2).c4.2.1, (hE.here.1.1.1.1.1.1.1.2).c4.2.2.1, (hE.here.1.1.1.1.1.1.1.2).c4.2.2.2, (hE.here.1.1.1.1.1.2).c4.1, (hE.here.1.1.1.1.1.2).c4.2.1, (hE.here.1.1.1.1.1.2).c4.2.2.1, (hE.here.1.1.1.1.1.2).c4.2.2.2, (hE.here.1.1.1.2).c4.1, (hE.here.1.1.1.2).c4.2.1, (hE.here.1.1.1.2).c4.2.2.1, (hE.here.1.1.1.2).c4.2.2.2⟩) (fun hHeld => ?_)
      clear hK K
      try simp only [Act.put, List.setIfInBounds_toArray, List.set_cons_zero, List.set_cons_succ, List.getElem_toArray, List.getElem_cons_succ, List.getElem_cons_zero]
      refine wpAnyH_take (i := 22) (v := ?v6_22_16) rfl (by kernel_rfl) (by kernel_rfl) (by kernel_rfl) (fun _ _ _ h => h) (Or.inl ⟨by rfl, ?hy6_22_16⟩) (by assumption) ?rest6_22_16
      case hy6_22_16 => intro w hSw; (try dsimp only at hSw); first | (go_simp; done) | (go_simp; with_reducible rfl)
      try simp only [Act.put, List.setIfInBounds_toArray, List.set_cons_zero, List.set_cons_succ, List.getElem_toArray, List.getElem_cons_succ, List.getElem_cons_zero]
      refine wpAnyH_take (i := 23) (v := ?v6_23_17) rfl (by kernel_rfl) (by kernel_rfl) (by kernel_rfl) (fun _ _ _ h => h) (Or.inl ⟨by rfl, ?hy6_23_17⟩) (by assumption) ?rest6_23_17
      case hy6_23_17 => intro w hSw; (try dsimp only at hSw); first | (go_simp; done) | (go_simp; with_reducible rfl)
      try simp only [Act.put, List.setIfInBounds_toArray, List.set_cons_zero, List.set_cons_succ, List.getElem_toArray, List.getElem_cons_succ, List.getElem_cons_zero]
      refine wpAnyH_done (by kernel_rfl) ?_ _
      go_wp2_with fail
      go_ret
      exact ⟨rfl, hE.bel⟩
    · have HR2 := Lib.hid hR2
      clear hR2
      have hE := ((Env.start w).blk 24 #[.int .i64 F, .int .i64 S, .slice A n c] (g := w.heap.size) rfl).blk 26 #[.int .i64 E, .int .i64 Y] (g := w.heap.size + 1) (by simp)
      obtain ⟨W0, hW0⟩ : ∃ W0, W0 = ((w.alloc (.cells #[.int .i64 F, .int .i64 S, .slice A n c] 24)).alloc (.cells #[.int .i64 E, .int .i64 Y] 26)) := ⟨_, rfl⟩
      rw [← hW0] at hE
      have HW0 := Lib.hid hW0
      clear hW0
      go_enter Tryz.func7, Tryz.ntmps7
      go_upto_region 1 with (fail)
      rw [← HW0.out]
      go_wp2_with fail
      refine (awake_t _).mono ?_
      rintro e w1 ⟨rfl, hb⟩
      replace hE := hE.step hb
      clear hb
      go_upto_region 3 with (fail)
      replace hE := hE.drew
      refine wp_region_held_drew (S := fun w' => w'.cell? ⟨w.heap.size, 0, none⟩ = some (.int .i64 F) ∧ w'.cell? ⟨w.heap.size, 1, none⟩ = some (.int .i64 S) ∧ w'.cell? ⟨w.heap.size, 2, none⟩ = some (.slice A n c) ∧ w'.cell? ⟨w.heap.size + 1, 0, none⟩ = some (.int .i64 E) ∧ w'.cell? ⟨w.heap.size + 1, 1, none⟩ = some (.int .i64 Y)) (by kernel_rfl) (⟨(hE.here.1.2).c3.1, (hE.here.1.2).c3.2.1, (hE.here.1.2).c3.2.2, (hE.here.2).c2.1, (hE.here.2).c2.2⟩) (fun hHeld => ?_)
      refine wpAnyH_take (i := 0) (v := ?v2_0_1) rfl (by kernel_rfl) (by kernel_rfl) (by kernel_rfl) (fun _ _ _ h => h) (Or.inl ⟨by rfl, ?hy2_0_1⟩) (by assumption) ?rest2_0_1
      case hy2_0_1 => intro w hSw; (try dsimp only at hSw); first | (go_simp; done) | (go_simp; with_reducible rfl)
      try simp only [Act.put, List.setIfInBounds_toArray, List.set_cons_zero, List.set_cons_succ, List.getElem_toArray, List.getElem_cons_succ, List.getElem_cons_zero]
      refine wpAnyH_take (i := 1) (v := ?v2_1_2) rfl (by kernel_rfl) (by kernel_rfl) (by kernel_rfl) (fun _ _ _ h => h) (Or.inl ⟨by rfl, ?hy2_1_2⟩) (by assumption) ?rest2_1_2
      case hy2_1_2 => intro w hSw; (try dsimp only at hSw); first | (go_simp; done) | (go_simp; with_reducible rfl)
      try simp only [Act.put, List.setIfInBounds_toArray, List.set_cons_zero, List.set_cons_succ, List.getElem_toArray, List.getElem_cons_succ, List.getElem_cons_zero]
      refine wpAnyH_ready (rs := [2]) (by kernel_rfl) (by simp) (AllReadyH.cons rfl (fun K hK => ?_) (AllReadyH.nil))
      go_simp
      refine (usable_t (HT.out.below hE.bel) HU.out).mono ?_
      rintro e w2 ⟨rfl, hb⟩
      replace hE := hE.step hb
      clear hb
      go_wp2_with fail
      refine hK.out _ _ (⟨(hE.here.1.2).c3.1, (hE.here.1.2).c3.2.1, (hE.here.1.2).c3.2.2, (hE.here.2).c2.1, (hE.here.2).c2.2⟩) (fun hHeld => ?_)
      clear hK K
      try simp only [Act.put, List.setIfInBounds_toArray, List.set_cons_zero, List.set_cons_succ, List.getElem_toArray, List.getElem_cons_succ, List.getElem_cons_zero]
      refine wpAnyH_take (i := 3) (v := ?v2_3_3) rfl (by kernel_rfl) (by kernel_rfl) (by kernel_rfl) (fun _ _ _ h => h) (Or.inl ⟨by rfl, ?hy2_3_3⟩) (by assumption) ?rest2_3_3
      case hy2_3_3 => intro w hSw; (try dsimp only at hSw); first | (go_simp; done) | (go_simp; with_reducible rfl)
      try simp only [Act.put, List.setIfInBounds_toArray, List.set_cons_zero, List.set_cons_succ, List.getElem_toArray, List.getElem_cons_succ, List.getElem_cons_zero]
      refine wpAnyH_take (i := 4) (v := ?v2_4_4) rfl (by kernel_rfl) (by kernel_rfl) (by kernel_rfl) (fun _ _ _ h => h) (Or.inl ⟨by rfl, ?hy2_4_4⟩) (by assumption) ?rest2_4_4
      case hy2_4_4 => intro w hSw; (try dsimp only at hSw); first | (go_simp; done) | (go_simp; with_reducible rfl)
      try simp only [Act.put, List.setIfInBounds_toArray, List.set_cons_zero, List.set_cons_succ, List.getElem_toArray, List.getElem_cons_succ, List.getElem_cons_zero]
      refine wpAnyH_take (i := 5) (v := ?v2_5_5) rfl (by kernel_rfl) (by kernel_rfl) (by kernel_rfl) (fun _ _ _ h => h) (Or.inl ⟨by rfl, ?hy2_5_5⟩) (by assumption) ?rest2_5_5
      case hy2_5_5 => intro w hSw; (try dsimp only at hSw); first | (go_simp; done) | (go_simp; with_reducible rfl)
      try simp only [Act.put, List.setIfInBounds_toArray, List.set_cons_zero, List.set_cons_succ, List.getElem_toArray, List.getElem_cons_succ, List.getElem_cons_zero]
      refine wpAnyH_take (i := 6) (v := ?v2_6_6) rfl (by kernel_rfl) (by kernel_rfl) (by kernel_rfl) (fun _ _ _ h => h) (Or.inl ⟨by rfl, ?hy2_6_6⟩) (by assumption) ?rest2_6_6
      case hy2_6_6 => intro w hSw; (try dsimp only at hSw); first | (go_simp; done) | (go_simp; with_reducible rfl)
      try simp only [Act.put, List.setIfInBounds_toArray, List.set_cons_zero, List.set_cons_succ, List.getElem_toArray, List.getElem_cons_succ, List.getElem_cons_zero]
      refine wpAnyH_take (i := 7) (v := ?v2_7_7) rfl (by kernel_rfl) (by kernel_rfl) (by kernel_rfl) (fun _ _ _ h => h) (Or.inl ⟨by rfl, ?hy2_7_7⟩) (by assumption) ?rest2_7_7
      case hy2_7_7 => intro w hSw; (try dsimp only at hSw); first | (go_simp; done) | (go_simp; with_reducible rfl)
      try simp only [Act.put, List.setIfInBounds_toArray, List.set_cons_zero, List.set_cons_succ, List.getElem_toArray, List.getElem_cons_succ, List.getElem_cons_zero]
      refine wpAnyH_take (i := 8) (v := ?v2_8_8) rfl (by kernel_rfl) (by kernel_rfl) (by kernel_rfl) (fun _ _ _ h => h) (Or.inl ⟨by rfl, ?hy2_8_8⟩) (by assumption) ?rest2_8_8
      case hy2_8_8 => intro w hSw; (try dsimp only at hSw); first | (go_simp; done) | (go_simp; with_reducible rfl)
      try simp only [Act.put, List.setIfInBounds_toArray, List.set_cons_zero, List.set_cons_succ, List.getElem_toArray, List.getElem_cons_succ, List.getElem_cons_zero]
      refine wpAnyH_ready (rs := [9]) (by kernel_rfl) (by simp) (AllReadyH.cons rfl (fun K hK => ?_) (AllReadyH.nil))
      go_simp
      obtain ⟨y0, y300⟩ : 0 ≤ Y ∧ Y ≤ 300 := HU.out.2.2.2.2
      have hm9 := Hhm.out
      refine (later_v E Y (m : Int) _ y0 (by omega) (by omega) (by omega)).mono ?_
      rintro e w3 ⟨rfl, hb⟩
      replace hE := hE.step hb
      clear hb
      clear y0 y300 hm9
      go_wp2_with fail
      refine hK.out _ _ (⟨(hE.here.1.2).c3.1, (hE.here.1.2).c3.2.1, (hE.here.1.2).c3.2.2, (hE.here.2).c2.1, (hE.here.2).c2.2⟩) (fun hHeld => ?_)
      clear hK K
      try simp only [Act.put, List.setIfInBounds_toArray, List.set_cons_zero, List.set_cons_succ, List.getElem_toArray, List.getElem_cons_succ, List.getElem_cons_zero]
      refine wpAnyH_ready (rs := [10]) (by kernel_rfl) (by simp) (AllReadyH.cons rfl (fun K hK => ?_) (AllReadyH.nil))
      go_simp
      refine (lright_f (HT.out.below hE.bel) HB.out HR2.out).mono ?_
      rintro e w4 ⟨rfl, hb⟩
      replace hE := hE.step hb
      clear hb
      go_wp2_with fail
      refine hK.out _ _ (⟨(hE.here.1.2).c3.1, (hE.here.1.2).c3.2.1, (hE.here.1.2).c3.2.2, (hE.here.2).c2.1, (hE.here.2).c2.2⟩) (fun hHeld => ?_)
      clear hK K
      try simp only [Act.put, List.setIfInBounds_toArray, List.set_cons_zero, List.set_cons_succ, List.getElem_toArray, List.getElem_cons_succ, List.getElem_cons_zero]
      refine wpAnyH_take (i := 11) (v := ?v2_11_9) rfl (by kernel_rfl) (by kernel_rfl) (by kernel_rfl) (fun _ _ _ h => h) (Or.inl ⟨by rfl, ?hy2_11_9⟩) (by assumption) ?rest2_11_9
      case hy2_11_9 => intro w hSw; (try dsimp only at hSw); first | (go_simp; done) | (go_simp; with_reducible rfl)
      try simp only [Act.put, List.setIfInBounds_toArray, List.set_cons_zero, List.set_cons_succ, List.getElem_toArray, List.getElem_cons_succ, List.getElem_cons_zero]
      refine wpAnyH_take (i := 12) (v := ?v2_12_10) rfl (by kernel_rfl) (by kernel_rfl) (by kernel_rfl) (fun _ _ _ h => h) (Or.inl ⟨by rfl, ?hy2_12_10⟩) (by assumption) ?rest2_12_10
      case hy2_12_10 => intro w hSw; (try dsimp only at hSw); first | (go_simp; done) | (go_simp; with_reducible rfl)
      try simp only [Act.put, List.setIfInBounds_toArray, List.set_cons_zero, List.set_cons_succ, List.getElem_toArray, List.getElem_cons_succ, List.getElem_cons_zero]
      refine wpAnyH_done (by kernel_rfl) ?_ _
      go_wp2_with fail
      go_ret
      exact ⟨rfl, hE.bel⟩
  · have HU := Lib.hid hU
    clear hU
    have hE := ((Env.start w).blk 24 #[.int .i64 F, .int .i64 S, .slice A n c] (g := w.heap.size) rfl).blk 26 #[.int .i64 E, .int .i64 Y] (g := w.heap.size + 1) (by simp)
    obtain ⟨W0, hW0⟩ : ∃ W0, W0 = ((w.alloc (.cells #[.int .i64 F, .int .i64 S, .slice A n c] 24)).alloc (.cells #[.int .i64 E, .int .i64 Y] 26)) := ⟨_, rfl⟩
    rw [← hW0] at hE
    have HW0 := Lib.hid hW0
    clear hW0
    go_enter Tryz.func7, Tryz.ntmps7
    go_upto_region 1 with (fail)
    rw [← HW0.out]
    go_wp2_with fail
    refine (awake_t _).mono ?_
    rintro e w1 ⟨rfl, hb⟩
    replace hE := hE.step hb
    clear hb
    go_upto_region 3 with (fail)
    replace hE := hE.drew
    refine wp_region_held_drew (S := fun w' => w'.cell? ⟨w.heap.size, 0, none⟩ = some (.int .i64 F) ∧ w'.cell? ⟨w.heap.size, 1, none⟩ = some (.int .i64 S) ∧ w'.cell? ⟨w.heap.size, 2, none⟩ = some (.slice A n c) ∧ w'.cell? ⟨w.heap.size + 1, 0, none⟩ = some (.int .i64 E) ∧ w'.cell? ⟨w.heap.size + 1, 1, none⟩ = some (.int .i64 Y)) (by kernel_rfl) (⟨(hE.here.1.2).c3.1, (hE.here.1.2).c3.2.1, (hE.here.1.2).c3.2.2, (hE.here.2).c2.1, (hE.here.2).c2.2⟩) (fun hHeld => ?_)
    refine wpAnyH_take (i := 0) (v := ?v1_0_1) rfl (by kernel_rfl) (by kernel_rfl) (by kernel_rfl) (fun _ _ _ h => h) (Or.inl ⟨by rfl, ?hy1_0_1⟩) (by assumption) ?rest1_0_1
    case hy1_0_1 => intro w hSw; (try dsimp only at hSw); first | (go_simp; done) | (go_simp; with_reducible rfl)
    try simp only [Act.put, List.setIfInBounds_toArray, List.set_cons_zero, List.set_cons_succ, List.getElem_toArray, List.getElem_cons_succ, List.getElem_cons_zero]
    refine wpAnyH_take (i := 1) (v := ?v1_1_2) rfl (by kernel_rfl) (by kernel_rfl) (by kernel_rfl) (fun _ _ _ h => h) (Or.inl ⟨by rfl, ?hy1_1_2⟩) (by assumption) ?rest1_1_2
    case hy1_1_2 => intro w hSw; (try dsimp only at hSw); first | (go_simp; done) | (go_simp; with_reducible rfl)
    try simp only [Act.put, List.setIfInBounds_toArray, List.set_cons_zero, List.set_cons_succ, List.getElem_toArray, List.getElem_cons_succ, List.getElem_cons_zero]
    refine wpAnyH_ready (rs := [2]) (by kernel_rfl) (by simp) (AllReadyH.cons rfl (fun K hK => ?_) (AllReadyH.nil))
    go_simp
    refine (usable_f (HT.out.below hE.bel) HU.out).mono ?_
    rintro e w2 ⟨rfl, hb⟩
    replace hE := hE.step hb
    clear hb
    go_wp2_with fail
    refine hK.out _ _ (⟨(hE.here.1.2).c3.1, (hE.here.1.2).c3.2.1, (hE.here.1.2).c3.2.2, (hE.here.2).c2.1, (hE.here.2).c2.2⟩) (fun hHeld => ?_)
    clear hK K
    try simp only [Act.put, List.setIfInBounds_toArray, List.set_cons_zero, List.set_cons_succ, List.getElem_toArray, List.getElem_cons_succ, List.getElem_cons_zero]
    refine wpAnyH_take (i := 3) (v := ?v1_3_3) rfl (by kernel_rfl) (by kernel_rfl) (by kernel_rfl) (fun _ _ _ h => h) (Or.inl ⟨by rfl, ?hy1_3_3⟩) (by assumption) ?rest1_3_3
    case hy1_3_3 => intro w hSw; (try dsimp only at hSw); first | (go_simp; done) | (go_simp; with_reducible rfl)
    try simp only [Act.put, List.setIfInBounds_toArray, List.set_cons_zero, List.set_cons_succ, List.getElem_toArray, List.getElem_cons_succ, List.getElem_cons_zero]
    refine wpAnyH_take (i := 4) (v := ?v1_4_4) rfl (by kernel_rfl) (by kernel_rfl) (by kernel_rfl) (fun _ _ _ h => h) (Or.inl ⟨by rfl, ?hy1_4_4⟩) (by assumption) ?rest1_4_4
    case hy1_4_4 => intro w hSw; (try dsimp only at hSw); first | (go_simp; done) | (go_simp; with_reducible rfl)
    try simp only [Act.put, List.setIfInBounds_toArray, List.set_cons_zero, List.set_cons_succ, List.getElem_toArray, List.getElem_cons_succ, List.getElem_cons_zero]
    refine wpAnyH_take (i := 5) (v := undef) rfl (by kernel_rfl) (by kernel_rfl) (by kernel_rfl) (fun _ _ _ h => h) (Or.inr ⟨by rfl, rfl⟩) (by assumption) ?rest1_5_5
    try simp only [Act.put, List.setIfInBounds_toArray, List.set_cons_zero, List.set_cons_succ, List.getElem_toArray, List.getElem_cons_succ, List.getElem_cons_zero]
    refine wpAnyH_take (i := 6) (v := undef) rfl (by kernel_rfl) (by kernel_rfl) (by kernel_rfl) (fun _ _ _ h => h) (Or.inr ⟨by rfl, rfl⟩) (by assumption) ?rest1_6_6
    try simp only [Act.put, List.setIfInBounds_toArray, List.set_cons_zero, List.set_cons_succ, List.getElem_toArray, List.getElem_cons_succ, List.getElem_cons_zero]
    refine wpAnyH_take (i := 7) (v := undef) rfl (by kernel_rfl) (by kernel_rfl) (by kernel_rfl) (fun _ _ _ h => h) (Or.inr ⟨by rfl, rfl⟩) (by assumption) ?rest1_7_7
    try simp only [Act.put, List.setIfInBounds_toArray, List.set_cons_zero, List.set_cons_succ, List.getElem_toArray, List.getElem_cons_succ, List.getElem_cons_zero]
    refine wpAnyH_take (i := 8) (v := undef) rfl (by kernel_rfl) (by kernel_rfl) (by kernel_rfl) (fun _ _ _ h => h) (Or.inr ⟨by rfl, rfl⟩) (by assumption) ?rest1_8_8
    try simp only [Act.put, List.setIfInBounds_toArray, List.set_cons_zero, List.set_cons_succ, List.getElem_toArray, List.getElem_cons_succ, List.getElem_cons_zero]
    refine wpAnyH_take (i := 9) (v := undef) rfl (by kernel_rfl) (by kernel_rfl) (by kernel_rfl) (fun _ _ _ h => h) (Or.inr ⟨by rfl, rfl⟩) (by assumption) ?rest1_9_9
    try simp only [Act.put, List.setIfInBounds_toArray, List.set_cons_zero, List.set_cons_succ, List.getElem_toArray, List.getElem_cons_succ, List.getElem_cons_zero]
    refine wpAnyH_take (i := 10) (v := undef) rfl (by kernel_rfl) (by kernel_rfl) (by kernel_rfl) (fun _ _ _ h => h) (Or.inr ⟨by rfl, rfl⟩) (by assumption) ?rest1_10_10
    try simp only [Act.put, List.setIfInBounds_toArray, List.set_cons_zero, List.set_cons_succ, List.getElem_toArray, List.getElem_cons_succ, List.getElem_cons_zero]
    refine wpAnyH_take (i := 11) (v := undef) rfl (by kernel_rfl) (by kernel_rfl) (by kernel_rfl) (fun _ _ _ h => h) (Or.inr ⟨by rfl, rfl⟩) (by assumption) ?rest1_11_11
    try simp only [Act.put, List.setIfInBounds_toArray, List.set_cons_zero, List.set_cons_succ, List.getElem_toArray, List.getElem_cons_succ, List.getElem_cons_zero]
    refine wpAnyH_take (i := 12) (v := ?v1_12_12) rfl (by kernel_rfl) (by kernel_rfl) (by kernel_rfl) (fun _ _ _ h => h) (Or.inl ⟨by rfl, ?hy1_12_12⟩) (by assumption) ?rest1_12_12
    case hy1_12_12 => intro w hSw; (try dsimp only at hSw); first | (go_simp; done) | (go_simp; with_reducible rfl)
    try simp only [Act.put, List.setIfInBounds_toArray, List.set_cons_zero, List.set_cons_succ, List.getElem_toArray, List.getElem_cons_succ, List.getElem_cons_zero]
    refine wpAnyH_done (by kernel_rfl) ?_ _
    go_wp2_with fail
    go_ret
    exact ⟨rfl, hE.bel⟩
theorem lsteps_walk (F S E Y : Int) (A : Option Addr) (n c : Nat) (r : Nat → RH) (w : World) (hT : TabM w A n r) (z : Int) (h1 : 0 ≤ z) (h2 : z ≤ 255) (y : Int) (h3 : 0 ≤ y) (h4 : y ≤ 255) :
    Calls Tryz.prog 7 #[.agg #[.int .i64 F, .int .i64 S, .slice A n c], .agg #[.int .i64 E, .int .i64 Y], .int .u8 z, .int .u8 y] w fun e w' => e = .returned (.bool true) ∧ Below w.heap.size w w' := by
  obtain ⟨m, rfl⟩ := Int.eq_ofNat_of_zero_le h1
  obtain ⟨k, rfl⟩ := Int.eq_ofNat_of_zero_le h3
  exact lsteps_walk0 F S E Y A n c r w hT m k (by omega) (by omega)
end Go.Proofs.YtgkepllfdhcdpaaGreat
