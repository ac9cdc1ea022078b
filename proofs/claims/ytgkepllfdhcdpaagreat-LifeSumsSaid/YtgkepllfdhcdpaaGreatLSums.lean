/-
  The walk of LifeSums.
-/
import Derived.Test.YtgkepllfdhcdpaaGreatK14
namespace Go.Proofs.YtgkepllfdhcdpaaGreat
open Go.RowKit


/-- Above the last age nobody is alive. -/
theorem none_left {F S E Y : Int} {n : Nat} {r : Nat → RH} (hR : RightP F S n r E Y) {k : Nat} (h0 : 0 < k) (hk : F + (n : Int) < E + Y + (k : Int)) : pr (fr F S n r E Y) k = 0 := by
  obtain ⟨M, -, h1, h2, h3⟩ := last_year hR
  refine pr_stop (f := fr F S n r E Y) (M := M) h3 k ?_
  rcases Nat.lt_or_ge M k with h | h
  · exact h
  · have := h1 (k - 1) (by omega)
    omega
theorem zero_len {w : World} {q : Rat} {s t : Bool} {A B : Option Addr} {n m : Nat} (h : FV w q s A n t B m) (hq : q = 0) : n = 0 := by
  have := h.1.len
  rw [hq] at this
  rw [this]
  exact ln_zero
theorem fl_zero : fl ((0 : Int) : Rat) ≤ 256 := by rw [fl_le]; exact ⟨by decide, by decide⟩
set_option linter.unusedSimpArgs false in
set_option maxRecDepth 100000 in
set_option maxHeartbeats 16000000 in
theorem lsums_walk (F S E Y : Int) (A : Option Addr) (n c : Nat) (r : Nat → RH) (w : World) (hT : TabM w A n r) :
    Calls Tryz.prog 6 #[.agg #[.int .i64 F, .int .i64 S, .slice A n c], .agg #[.int .i64 E, .int .i64 Y]] w fun e w' => e = .returned (.bool true) ∧ Below w.heap.size w w' := by
  have HT := Lib.hid hT
  clear hT
  by_cases hU : TabS n r 25 8 2 ∧ RightP F S n r E Y
  · have HU := Lib.hid hU
    have HB := Lib.hid (hU.1.b (by decide) (by decide) (by decide))
    obtain ⟨ht, r1, r2, r3, r4⟩ := hU.2
    obtain ⟨f1, f2, n1, n2⟩ : 0 ≤ F ∧ F ≤ 150 ∧ 1 ≤ n ∧ n ≤ 111 := ⟨ht.1.1.1, ht.1.1.2, ht.2.1.1, ht.2.1.2⟩
    clear hU ht
    have o1 : IntKind.i64.wrap (F + (n : Int)) = F + (n : Int) := by rw [IntKind.wrap_i64]; omega
    have o2' : IntKind.i64.wrap ((n : Int) + 1) = (n : Int) + 1 := by rw [IntKind.wrap_i64]; omega
    have o3 : IntKind.i64.wrap (E + Y) = E + Y := by rw [IntKind.wrap_i64]; omega
    have cA := fun w (h : TabM w A n r) (k : Nat) (hk : k ≤ 9223372036854775807) => lAlive_v (c := c) h HB.out HU.out.2 k hk
    have cD := fun w (h : TabM w A n r) (k : Nat) (hk : k ≤ 9223372036854775807) => lDies_v (c := c) h HB.out HU.out.2 k hk
    have sA := fun k : Nat => life_sm HT.out HU.out.2 k
    have sD := fun k : Nat => life_smd HT.out HU.out.2 k
    have nL := fun (k : Nat) => none_left HU.out.2 (k := k)
    have z0 : pr (fr F S n r E Y) (n + 2) = ((0 : Int) : Rat) := none_left HU.out.2 (by omega) (by omega)
    generalize fr F S n r E Y = f at *
    have HcA := Lib.hid cA
    have HcD := Lib.hid cD
    have HsA := Lib.hid sA
    have HsD := Lib.hid sD
    have HnL := Lib.hid nL
    have Hz0 := Lib.hid z0
    clear cA cD sA sD nL z0
    have hE := ((Env.start w).blk 24 #[.int .i64 F, .int .i64 S, .slice A n c] (g := w.heap.size) rfl).blk 26 #[.int .i64 E, .int .i64 Y] (g := w.heap.size + 1) (by simp)
    obtain ⟨W0, hW0⟩ : ∃ W0, W0 = ((w.alloc (.cells #[.int .i64 F, .int .i64 S, .slice A n c] 24)).alloc (.cells #[.int .i64 E, .int .i64 Y] 26)) := ⟨_, rfl⟩
    rw [← hW0] at hE
    have HW0 := Lib.hid hW0
    clear hW0
    go_enter Tryz.func6, Tryz.ntmps6
    go_upto_region 1 with (fail)
    rw [← HW0.out]
    go_wp2_with fail
    refine (awake_t _).mono ?_
    rintro e w1 ⟨rfl, hb⟩
    replace hE := hE.step hb
    clear hb
    obtain ⟨k2, k3, k4⟩ := (hE.here.1.2).c3
    obtain ⟨k5, k6⟩ := (hE.here.2).c2
    go_wp2_with fail
    refine (usable_t (HT.out.below hE.bel) HU.out).mono ?_
    clear k2 k3 k4 k5 k6
    rintro e w7 ⟨rfl, hb⟩
    replace hE := hE.step hb
    clear hb
    go_wp2_with fail
    refine (ffromInt_v 1 _ (by decide) (by decide)).mono ?_
    rintro e w8 ⟨sl0, Al0, nl0, cl0, til0, Bl0, ml0, dl0, rfl, hl0, hb⟩
    replace hE := hE.step hb
    clear hb
    replace hE := hE.fv hl0
    clear hl0
    go_upto_region 6 with (fail)
    obtain ⟨g9, hg9⟩ : ∃ g9, g9 = w8.heap.size := ⟨_, rfl⟩
    have hl9_0 : w.heap.size < g9 := by rw [hg9]; exact (hE.here.1.1.2).lt
    have hl9_1 : w.heap.size + 1 < g9 := by rw [hg9]; exact (hE.here.1.2).lt
    replace hE := hE.blk 40 #[.bool sl0, .slice Al0 nl0 cl0, .bool til0, .slice Bl0 ml0 dl0] (g := g9) hg9.symm
    generalize w8.alloc (.cells #[.bool sl0, .slice Al0 nl0 cl0, .bool til0, .slice Bl0 ml0 dl0] 40) = W9 at hE ⊢
    rw [← hg9]
    clear hg9
    have hG : w.heap.size + 1 < g9 := by omega
    go_wp2_with fail
    go_loopw [6] (fun x wr => ∃ k : Nat, ∃ slf Alf nlf clf tilf Blf mlf dlf, k ≤ n + 2 ∧ x = .int .i64 (k : Int) ∧ Env w (fun V => ((((True ∧ Blk 24 (w.heap.size) #[.int .i64 F, .int .i64 S, .slice A n c] V) ∧ Blk 26 (w.heap.size + 1) #[.int .i64 E, .int .i64 Y] V) ∧ FV V (pr f k) slf Alf nlf tilf Blf mlf) ∧ Blk 40 (g9) #[.bool slf, .slice Alf nlf clf, .bool tilf, .slice Blf mlf dlf] V)) wr) (fun x _ => n + 2 - (intOf x).toNat)
    case atStart =>
      have hv := hE.here.1.2
      rw [show (((1 : Int) : Rat)) = pr f 0 from rfl] at hv
      exact ⟨0, sl0, Al0, nl0, cl0, til0, Bl0, ml0, dl0, Nat.zero_le _, rfl, (((Env.again hE.bel).blkI (hE.here.1.1.1.2)).blkI (hE.here.1.1.2)).fv hv |>.blkI (hE.here.2)⟩
    case round =>
      clear hE
      obtain ⟨k, slf, Alf, nlf, clf, tilf, Blf, mlf, dlf, hk, rfl, hE⟩ := hrel
      by_cases hlt : k ≤ n + 1
      · skip
        have t1 : decide ((k : Int) ≤ (n : Int) + 1) = true := decide_eq_true (by omega)
        have t2 : (k : Int) ≤ (n : Int) + 1 := by omega
        have hk9 : k ≤ 9223372036854775807 := by omega
        have hk8 : k < 1000000 := by omega
        have sP := HsA.out k
        have sD2 := HsD.out k
        have HsP := Lib.hid sP
        clear sP
        have HsD2 := Lib.hid sD2
        clear sD2
        obtain ⟨k10, k11, k12⟩ := (hE.here.1.1.1.2).c3
        obtain ⟨k13, k14⟩ := (hE.here.1.1.2).c2
        go_wp2_with fail
        refine (HcA.out _ (HT.out.below hE.bel) k hk9).mono ?_
        clear k10 k11 k12 k13 k14
        rintro e w15 ⟨sp, Ap, np, cp, tip, Bp, mp, dp, rfl, hp, hb⟩
        replace hE := hE.step hb
        clear hb
        replace hE := hE.fv hp
        clear hp
        go_upto_region 10 with (fail)
        obtain ⟨g16, hg16⟩ : ∃ g16, g16 = w15.heap.size := ⟨_, rfl⟩
        have hl16_0 : w.heap.size < g16 := by rw [hg16]; exact (hE.here.1.1.1.1.2).lt
        have hl16_1 : w.heap.size + 1 < g16 := by rw [hg16]; exact (hE.here.1.1.1.2).lt
        have hl16_3 : g9 < g16 := by rw [hg16]; exact (hE.here.1.2).lt
        replace hE := hE.blk 40 #[.bool sp, .slice Ap np cp, .bool tip, .slice Bp mp dp] (g := g16) hg16.symm
        generalize w15.alloc (.cells #[.bool sp, .slice Ap np cp, .bool tip, .slice Bp mp dp] 40) = W16 at hE ⊢
        rw [← hg16]
        clear hg16
        obtain ⟨k17, k18, k19⟩ := (hE.here.1.1.1.1.1.2).c3
        obtain ⟨k20, k21⟩ := (hE.here.1.1.1.1.2).c2
        go_wp2_with fail
        refine (HcD.out _ (HT.out.below hE.bel) k hk9).mono ?_
        clear k17 k18 k19 k20 k21
        rintro e w22 ⟨sq, Aq, nq, cq, tiq, Bq, mq, dq, rfl, hq, hb⟩
        replace hE := hE.step hb
        clear hb
        replace hE := hE.fv hq
        clear hq
        go_upto_region 11 with (fail)
        obtain ⟨g23, hg23⟩ : ∃ g23, g23 = w22.heap.size := ⟨_, rfl⟩
        have hl23_0 : w.heap.size < g23 := by rw [hg23]; exact (hE.here.1.1.1.1.1.1.2).lt
        have hl23_1 : w.heap.size + 1 < g23 := by rw [hg23]; exact (hE.here.1.1.1.1.1.2).lt
        have hl23_3 : g9 < g23 := by rw [hg23]; exact (hE.here.1.1.1.2).lt
        have hl23_5 : g16 < g23 := by rw [hg23]; exact (hE.here.1.2).lt
        replace hE := hE.blk 40 #[.bool sq, .slice Aq nq cq, .bool tiq, .slice Bq mq dq] (g := g23) hg23.symm
        generalize w22.alloc (.cells #[.bool sq, .slice Aq nq cq, .bool tiq, .slice Bq mq dq] 40) = W23 at hE ⊢
        rw [← hg23]
        clear hg23
        obtain ⟨k24, k25, k26, k27⟩ := (hE.here.1.1.2).c4
        go_wp2_with fail
        refine (law_chance hE.here.1.1.1.2 (HsP.out.l (by decide)) HsP.out.1 HsP.out.2.1).mono ?_
        clear k24 k25 k26 k27
        rintro e w28 ⟨rfl, hb⟩
        replace hE := hE.step hb
        clear hb
        obtain ⟨k29, k30, k31, k32⟩ := (hE.here.2).c4
        go_wp2_with fail
        refine (law_chance hE.here.1.2 (HsD2.out.l (by decide)) HsD2.out.1 HsD2.out.2.1).mono ?_
        clear k29 k30 k31 k32
        rintro e w33 ⟨rfl, hb⟩
        replace hE := hE.step hb
        clear hb
        obtain ⟨k34, k35, k36, k37⟩ := (hE.here.1.1.2).c4
        obtain ⟨k38, k39, k40, k41⟩ := (hE.here.1.1.1.1.2).c4
        go_wp2_with fail
        refine (lw_equal (v := true) (ca := cp) (da := dp) (cb := clf) (db := dlf) hE.here.1.1.1.2 hE.here.1.1.1.1.1.2 (HsP.out.l (by decide)) (HsP.out.l (by decide)) (decide_eq_true rfl)).mono ?_
        clear k34 k35 k36 k37 k38 k39 k40 k41
        rintro e w42 ⟨rfl, hb⟩
        replace hE := hE.step hb
        clear hb
        have hnp : 0 < k → F + (n : Int) < E + Y + (k : Int) → np = 0 := fun a b => zero_len (hE.here.1.1.1.2) (HnL.out k a b)
        have o4 : IntKind.i64.wrap (E + Y + (k : Int)) = E + Y + (k : Int) := by rw [IntKind.wrap_i64]; omega
        have HN := Lib.hid hnp
        clear hnp
        by_cases hk0 : 0 < k
        · skip
          have u1 : decide (0 < (k : Int)) = true := decide_eq_true (by omega)
          have u2 : decide (0 < k) = true := decide_eq_true hk0
          by_cases hk1 : F + (n : Int) < E + Y + (k : Int)
          · skip
            have u3 : decide (F + (n : Int) < E + Y + (k : Int)) = true := decide_eq_true hk1
            have hz := HN.out hk0 hk1
            subst hz
            clear hk0 hk1
            obtain ⟨k43, k44, k45⟩ := (hE.here.1.1.1.1.1.1.1.2).c3
            obtain ⟨k46, k47⟩ := (hE.here.1.1.1.1.1.1.2).c2
            obtain ⟨k48, k49, k50, k51⟩ := (hE.here.1.1.2).c4
            obtain ⟨k52, k53, k54, k55⟩ := (hE.here.1.1.1.1.2).c4
            obtain ⟨k56, k57, k58, k59⟩ := (hE.here.2).c4
            go_wp2_with fail
            have hc := fsub_v (ca := clf) (da := dlf) (cb := cq) (db := dq) hE.here.1.1.1.1.1.2 hE.here.1.2 (HsP.out.l (by decide)) (HsD2.out.l (by decide)) (by rw [pr_less]; exact (HsA.out (k + 1)).l (by decide))
            refine (hc).mono ?_
            clear k43 k44 k45 k46 k47 k48 k49 k50 k51 k52 k53 k54 k55 k56 k57 k58 k59
            rintro e w60 ⟨snw, Anw, nnw, cnw, tinw, Bnw, mnw, dnw, rfl, hnw, hb⟩
            replace hE := hE.step hb
            clear hb
            replace hE := hE.fv hnw
            clear hnw
            clear hc
            have hgl61 : w.heap.size ≤ g9 := by omega
            obtain ⟨x61_0, x61_1, x61_2, x61_3⟩ := (hE.here.1.1.1.1.1.2).c4
            have f61_0 := (hE.here.1.1.1.1.1.2).frozen 0
            have f61_1 := (hE.here.1.1.1.1.1.2).frozen 1
            have f61_2 := (hE.here.1.1.1.1.1.2).frozen 2
            have f61_3 := (hE.here.1.1.1.1.1.2).frozen 3
            replace hE := ((((((((((Env.again (bel4 hE.bel hgl61 (.bool snw) (.slice Anw nnw cnw) (.bool tinw) (.slice Bnw mnw dnw))).blkI ((hE.here.1.1.1.1.1.1.1.1.2).far4 (R := g9) (by omega) (.bool snw) (.slice Anw nnw cnw) (.bool tinw) (.slice Bnw mnw dnw))).blkI ((hE.here.1.1.1.1.1.1.1.2).far4 (R := g9) (by omega) (.bool snw) (.slice Anw nnw cnw) (.bool tinw) (.slice Bnw mnw dnw))).fv ((hE.here.1.1.1.1.1.1.2).sep4 hE.here.1.1.1.1.1.2 rfl (.bool snw) (.slice Anw nnw cnw) (.bool tinw) (.slice Bnw mnw dnw) rfl rfl rfl)).blkI ((hE.here.1.1.1.1.1.2).s4 (.bool snw) (.slice Anw nnw cnw) (.bool tinw) (.slice Bnw mnw dnw))).fv ((hE.here.1.1.1.1.2).sep4 hE.here.1.1.1.1.1.2 rfl (.bool snw) (.slice Anw nnw cnw) (.bool tinw) (.slice Bnw mnw dnw) rfl rfl rfl)).blkI ((hE.here.1.1.1.2).far4 (R := g9) (by omega) (.bool snw) (.slice Anw nnw cnw) (.bool tinw) (.slice Bnw mnw dnw))).fv ((hE.here.1.1.2).sep4 hE.here.1.1.1.1.1.2 rfl (.bool snw) (.slice Anw nnw cnw) (.bool tinw) (.slice Bnw mnw dnw) rfl rfl rfl)).blkI ((hE.here.1.2).far4 (R := g9) (by omega) (.bool snw) (.slice Anw nnw cnw) (.bool tinw) (.slice Bnw mnw dnw))).fv ((hE.here.2).sep4 hE.here.1.1.1.1.1.2 rfl (.bool snw) (.slice Anw nnw cnw) (.bool tinw) (.slice Bnw mnw dnw) rfl rfl rfl))
            go_upto_region 8 with (fail)
            clear x61_0 x61_1 x61_2 x61_3 f61_0 f61_1 f61_2 f61_3 hgl61
            generalize ((((w60.setCell ⟨g9, 0, none⟩ (.bool snw)).setCell ⟨g9, 1, none⟩ (.slice Anw nnw cnw)).setCell ⟨g9, 2, none⟩ (.bool tinw)).setCell ⟨g9, 3, none⟩ (.slice Bnw mnw dnw)) = W61 at hE ⊢
            go_wp2_with fail
            go_roundw
            case rel =>
              have hv := hE.here.2
              rw [pr_less] at hv
              exact ⟨k + 1, snw, Anw, nnw, cnw, tinw, Bnw, mnw, dnw, by omega, by go_num, (((Env.again hE.bel).blkI (hE.here.1.1.1.1.1.1.1.1.2)).blkI (hE.here.1.1.1.1.1.1.1.2)).fv hv |>.blkI (hE.here.1.1.1.1.1.2)⟩
            case measure => (simp [intOf]) <;> omega
          · skip
            have u3 : decide (F + (n : Int) < E + Y + (k : Int)) = false := decide_eq_false hk1
            clear hk0 hk1
            obtain ⟨k62, k63, k64⟩ := (hE.here.1.1.1.1.1.1.1.2).c3
            obtain ⟨k65, k66⟩ := (hE.here.1.1.1.1.1.1.2).c2
            obtain ⟨k67, k68, k69, k70⟩ := (hE.here.1.1.2).c4
            obtain ⟨k71, k72, k73, k74⟩ := (hE.here.1.1.1.1.2).c4
            obtain ⟨k75, k76, k77, k78⟩ := (hE.here.2).c4
            go_wp2_with fail
            have hc := fsub_v (ca := clf) (da := dlf) (cb := cq) (db := dq) hE.here.1.1.1.1.1.2 hE.here.1.2 (HsP.out.l (by decide)) (HsD2.out.l (by decide)) (by rw [pr_less]; exact (HsA.out (k + 1)).l (by decide))
            refine (hc).mono ?_
            clear k62 k63 k64 k65 k66 k67 k68 k69 k70 k71 k72 k73 k74 k75 k76 k77 k78
            rintro e w79 ⟨snw, Anw, nnw, cnw, tinw, Bnw, mnw, dnw, rfl, hnw, hb⟩
            replace hE := hE.step hb
            clear hb
            replace hE := hE.fv hnw
            clear hnw
            clear hc
            have hgl80 : w.heap.size ≤ g9 := by omega
            obtain ⟨x80_0, x80_1, x80_2, x80_3⟩ := (hE.here.1.1.1.1.1.2).c4
            have f80_0 := (hE.here.1.1.1.1.1.2).frozen 0
            have f80_1 := (hE.here.1.1.1.1.1.2).frozen 1
            have f80_2 := (hE.here.1.1.1.1.1.2).frozen 2
            have f80_3 := (hE.here.1.1.1.1.1.2).frozen 3
            replace hE := ((((((((((Env.again (bel4 hE.bel hgl80 (.bool snw) (.slice Anw nnw cnw) (.bool tinw) (.slice Bnw mnw dnw))).blkI ((hE.here.1.1.1.1.1.1.1.1.2).far4 (R := g9) (by omega) (.bool snw) (.slice Anw nnw cnw) (.bool tinw) (.slice Bnw mnw dnw))).blkI ((hE.here.1.1.1.1.1.1.1.2).far4 (R := g9) (by omega) (.bool snw) (.slice Anw nnw cnw) (.bool tinw) (.slice Bnw mnw dnw))).fv ((hE.here.1.1.1.1.1.1.2).sep4 hE.here.1.1.1.1.1.2 rfl (.bool snw) (.slice Anw nnw cnw) (.bool tinw) (.slice Bnw mnw dnw) rfl rfl rfl)).blkI ((hE.here.1.1.1.1.1.2).s4 (.bool snw) (.slice Anw nnw cnw) (.bool tinw) (.slice Bnw mnw dnw))).fv ((hE.here.1.1.1.1.2).sep4 hE.here.1.1.1.1.1.2 rfl (.bool snw) (.slice Anw nnw cnw) (.bool tinw) (.slice Bnw mnw dnw) rfl rfl rfl)).blkI ((hE.here.1.1.1.2).far4 (R := g9) (by omega) (.bool snw) (.slice Anw nnw cnw) (.bool tinw) (.slice Bnw mnw dnw))).fv ((hE.here.1.1.2).sep4 hE.here.1.1.1.1.1.2 rfl (.bool snw) (.slice Anw nnw cnw) (.bool tinw) (.slice Bnw mnw dnw) rfl rfl rfl)).blkI ((hE.here.1.2).far4 (R := g9) (by omega) (.bool snw) (.slice Anw nnw cnw) (.bool tinw) (.slice Bnw mnw dnw))).fv ((hE.here.2).sep4 hE.here.1.1.1.1.1.2 rfl (.bool snw) (.slice Anw nnw cnw) (.bool tinw) (.slice Bnw mnw dnw) rfl rfl rfl))
            go_upto_region 8 with (fail)
            clear x80_0 x80_1 x80_2 x80_3 f80_0 f80_1 f80_2 f80_3 hgl80
            generalize ((((w79.setCell ⟨g9, 0, none⟩ (.bool snw)).setCell ⟨g9, 1, none⟩ (.slice Anw nnw cnw)).setCell ⟨g9, 2, none⟩ (.bool tinw)).setCell ⟨g9, 3, none⟩ (.slice Bnw mnw dnw)) = W80 at hE ⊢
            go_wp2_with fail
            go_roundw
            case rel =>
              have hv := hE.here.2
              rw [pr_less] at hv
              exact ⟨k + 1, snw, Anw, nnw, cnw, tinw, Bnw, mnw, dnw, by omega, by go_num, (((Env.again hE.bel).blkI (hE.here.1.1.1.1.1.1.1.1.2)).blkI (hE.here.1.1.1.1.1.1.1.2)).fv hv |>.blkI (hE.here.1.1.1.1.1.2)⟩
            case measure => (simp [intOf]) <;> omega
        · skip
          obtain rfl : k = 0 := by omega
          clear hk0
          obtain ⟨k81, k82, k83⟩ := (hE.here.1.1.1.1.1.1.1.2).c3
          obtain ⟨k84, k85⟩ := (hE.here.1.1.1.1.1.1.2).c2
          obtain ⟨k86, k87, k88, k89⟩ := (hE.here.1.1.2).c4
          obtain ⟨k90, k91, k92, k93⟩ := (hE.here.1.1.1.1.2).c4
          obtain ⟨k94, k95, k96, k97⟩ := (hE.here.2).c4
          go_wp2_with fail
          have hc := fsub_v (ca := clf) (da := dlf) (cb := cq) (db := dq) hE.here.1.1.1.1.1.2 hE.here.1.2 (HsP.out.l (by decide)) (HsD2.out.l (by decide)) (by rw [pr_less]; exact (HsA.out (0 + 1)).l (by decide))
          refine (hc).mono ?_
          clear k81 k82 k83 k84 k85 k86 k87 k88 k89 k90 k91 k92 k93 k94 k95 k96 k97
          rintro e w98 ⟨snw, Anw, nnw, cnw, tinw, Bnw, mnw, dnw, rfl, hnw, hb⟩
          replace hE := hE.step hb
          clear hb
          replace hE := hE.fv hnw
          clear hnw
          clear hc
          have hgl99 : w.heap.size ≤ g9 := by omega
          obtain ⟨x99_0, x99_1, x99_2, x99_3⟩ := (hE.here.1.1.1.1.1.2).c4
          have f99_0 := (hE.here.1.1.1.1.1.2).frozen 0
          have f99_1 := (hE.here.1.1.1.1.1.2).frozen 1
          have f99_2 := (hE.here.1.1.1.1.1.2).frozen 2
          have f99_3 := (hE.here.1.1.1.1.1.2).frozen 3
          replace hE := ((((((((((Env.again (bel4 hE.bel hgl99 (.bool snw) (.slice Anw nnw cnw) (.bool tinw) (.slice Bnw mnw dnw))).blkI ((hE.here.1.1.1.1.1.1.1.1.2).far4 (R := g9) (by omega) (.bool snw) (.slice Anw nnw cnw) (.bool tinw) (.slice Bnw mnw dnw))).blkI ((hE.here.1.1.1.1.1.1.1.2).far4 (R := g9) (by omega) (.bool snw) (.slice Anw nnw cnw) (.bool tinw) (.slice Bnw mnw dnw))).fv ((hE.here.1.1.1.1.1.1.2).sep4 hE.here.1.1.1.1.1.2 rfl (.bool snw) (.slice Anw nnw cnw) (.bool tinw) (.slice Bnw mnw dnw) rfl rfl rfl)).blkI ((hE.here.1.1.1.1.1.2).s4 (.bool snw) (.slice Anw nnw cnw) (.bool tinw) (.slice Bnw mnw dnw))).fv ((hE.here.1.1.1.1.2).sep4 hE.here.1.1.1.1.1.2 rfl (.bool snw) (.slice Anw nnw cnw) (.bool tinw) (.slice Bnw mnw dnw) rfl rfl rfl)).blkI ((hE.here.1.1.1.2).far4 (R := g9) (by omega) (.bool snw) (.slice Anw nnw cnw) (.bool tinw) (.slice Bnw mnw dnw))).fv ((hE.here.1.1.2).sep4 hE.here.1.1.1.1.1.2 rfl (.bool snw) (.slice Anw nnw cnw) (.bool tinw) (.slice Bnw mnw dnw) rfl rfl rfl)).blkI ((hE.here.1.2).far4 (R := g9) (by omega) (.bool snw) (.slice Anw nnw cnw) (.bool tinw) (.slice Bnw mnw dnw))).fv ((hE.here.2).sep4 hE.here.1.1.1.1.1.2 rfl (.bool snw) (.slice Anw nnw cnw) (.bool tinw) (.slice Bnw mnw dnw) rfl rfl rfl))
          go_upto_region 8 with (fail)
          clear x99_0 x99_1 x99_2 x99_3 f99_0 f99_1 f99_2 f99_3 hgl99
          generalize ((((w98.setCell ⟨g9, 0, none⟩ (.bool snw)).setCell ⟨g9, 1, none⟩ (.slice Anw nnw cnw)).setCell ⟨g9, 2, none⟩ (.bool tinw)).setCell ⟨g9, 3, none⟩ (.slice Bnw mnw dnw)) = W99 at hE ⊢
          go_wp2_with fail
          go_roundw
          case rel =>
            have hv := hE.here.2
            rw [pr_less] at hv
            exact ⟨0 + 1, snw, Anw, nnw, cnw, tinw, Bnw, mnw, dnw, by omega, by go_num, (((Env.again hE.bel).blkI (hE.here.1.1.1.1.1.1.1.1.2)).blkI (hE.here.1.1.1.1.1.1.1.2)).fv hv |>.blkI (hE.here.1.1.1.1.1.2)⟩
          case measure => (simp [intOf]) <;> omega
      · skip
        obtain rfl : k = n + 2 := by omega
        have t1 : decide (((n + 2 : Nat) : Int) ≤ (n : Int) + 1) = false := decide_eq_false (by omega)
        have t2 : ¬ ((n : Int) + 2 ≤ (n : Int) + 1) := by omega
        have t3 : decide ((n : Int) + 2 ≤ (n : Int) + 1) = false := decide_eq_false (by omega)
        obtain ⟨k100, k101, k102⟩ := (hE.here.1.1.1.2).c3
        obtain ⟨k103, k104⟩ := (hE.here.1.1.2).c2
        go_upto_region 16 with (fail)
        clear k100 k101 k102 k103 k104
        replace hE := hE.drew
        refine wp_region_held_drew (S := fun w' => w'.cell? ⟨g9, 0, none⟩ = some (.bool slf) ∧ w'.cell? ⟨g9, 1, none⟩ = some (.slice Alf nlf clf) ∧ w'.cell? ⟨g9, 2, none⟩ = some (.bool tilf) ∧ w'.cell? ⟨g9, 3, none⟩ = some (.slice Blf mlf dlf)) (by kernel_rfl) (⟨(hE.here.2).c4.1, (hE.here.2).c4.2.1, (hE.here.2).c4.2.2.1, (hE.here.2).c4.2.2.2⟩) (fun hHeld => ?_)
        refine wpAnyH_take (i := 0) (v := ?v1_0_1) rfl (by kernel_rfl) (by kernel_rfl) (by kernel_rfl) (fun _ _ _ h => h) (Or.inl ⟨by rfl, ?hy1_0_1⟩) (by assumption) ?rest1_0_1
        case hy1_0_1 => intro w hSw; (try dsimp only at hSw); first | (go_simp; done) | (go_simp; with_reducible rfl)
        try simp only [Act.put, List.setIfInBounds_toArray, List.set_cons_zero, List.set_cons_succ, List.getElem_toArray, List.getElem_cons_succ, List.getElem_cons_zero]
        refine wpAnyH_ready (rs := [1]) (by kernel_rfl) (by simp) (AllReadyH.cons rfl (fun K hK => ?_) (AllReadyH.nil))
        go_simp
        refine (ffromInt_v 0 _ (by decide) (by decide)).mono ?_
        rintro e w105 ⟨sz, Az, nz, cz, tiz, Bz, mz, dz, rfl, hz, hb⟩
        replace hE := hE.step hb
        clear hb
        replace hE := hE.fv hz
        clear hz
        go_wp2_with fail
        refine hK.out _ _ (⟨(hE.here.1.2).c4.1, (hE.here.1.2).c4.2.1, (hE.here.1.2).c4.2.2.1, (hE.here.1.2).c4.2.2.2⟩) (fun hHeld => ?_)
        clear hK K
        try simp only [Act.put, List.setIfInBounds_toArray, List.set_cons_zero, List.set_cons_succ, List.getElem_toArray, List.getElem_cons_succ, List.getElem_cons_zero]
        refine wpAnyH_ready (rs := [2]) (by kernel_rfl) (by simp) (AllReadyH.cons rfl (fun K hK => ?_) (AllReadyH.nil))
        go_simp
        refine (lw_equal (v := true) (ca := clf) (da := dlf) (cb := cz) (db := dz) hE.here.1.1.2 hE.here.2 ((HsA.out (n + 2)).l (by decide)) fl_zero (decide_eq_true Hz0.out)).mono ?_
        rintro e w106 ⟨rfl, hb⟩
        replace hE := hE.step hb
        clear hb
        go_wp2_with fail
        refine hK.out _ _ (⟨(hE.here.1.2).c4.1, (hE.here.1.2).c4.2.1, (hE.here.1.2).c4.2.2.1, (hE.here.1.2).c4.2.2.2⟩) (fun hHeld => ?_)
        clear hK K
        try simp only [Act.put, List.setIfInBounds_toArray, List.set_cons_zero, List.set_cons_succ, List.getElem_toArray, List.getElem_cons_succ, List.getElem_cons_zero]
        refine wpAnyH_take (i := 3) (v := ?v1_3_2) rfl (by kernel_rfl) (by kernel_rfl) (by kernel_rfl) (fun _ _ _ h => h) (Or.inl ⟨by rfl, ?hy1_3_2⟩) (by assumption) ?rest1_3_2
        case hy1_3_2 => intro w hSw; (try dsimp only at hSw); first | (go_simp; done) | (go_simp; with_reducible rfl)
        try simp only [Act.put, List.setIfInBounds_toArray, List.set_cons_zero, List.set_cons_succ, List.getElem_toArray, List.getElem_cons_succ, List.getElem_cons_zero]
        refine wpAnyH_done (by kernel_rfl) ?_ _
        go_wp2_with fail
        go_ret
        exact ⟨rfl, hE.bel⟩
  · have HU := Lib.hid hU
    clear hU
    have hE := ((Env.start w).blk 24 #[.int .i64 F, .int .i64 S, .slice A n c] (g := w.heap.size) rfl).blk 26 #[.int .i64 E, .int .i64 Y] (g := w.heap.size + 1) (by simp)
    obtain ⟨W0, hW0⟩ : ∃ W0, W0 = ((w.alloc (.cells #[.int .i64 F, .int .i64 S, .slice A n c] 24)).alloc (.cells #[.int .i64 E, .int .i64 Y] 26)) := ⟨_, rfl⟩
    rw [← hW0] at hE
    have HW0 := Lib.hid hW0
    clear hW0
    go_enter Tryz.func6, Tryz.ntmps6
    go_upto_region 1 with (fail)
    rw [← HW0.out]
    go_wp2_with fail
    refine (awake_t _).mono ?_
    rintro e w1 ⟨rfl, hb⟩
    replace hE := hE.step hb
    clear hb
    obtain ⟨k2, k3, k4⟩ := (hE.here.1.2).c3
    obtain ⟨k5, k6⟩ := (hE.here.2).c2
    go_wp2_with fail
    refine (usable_f (HT.out.below hE.bel) HU.out).mono ?_
    clear k2 k3 k4 k5 k6
    rintro e w7 ⟨rfl, hb⟩
    replace hE := hE.step hb
    clear hb
    go_wp2_with fail
    go_ret
    exact ⟨rfl, hE.bel⟩
end Go.Proofs.YtgkepllfdhcdpaaGreat
