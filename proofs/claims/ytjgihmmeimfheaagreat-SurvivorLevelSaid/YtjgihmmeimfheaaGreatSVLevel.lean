/-
  The walk of SurvivorLevel.
-/
import Derived.Test.YtjgihmmeimfheaaGreatK3
import Derived.Test.YtjgihmmeimfheaaGreatK18
import Derived.Test.YtjgihmmeimfheaaGreatSVB
import Derived.Test.YtjgihmmeimfheaaGreatSvW
namespace Go.Proofs.YtjgihmmeimfheaaGreat
open Go.RowKit

theorem cmpQ_refl (a : Rat) : cmpQ a a = 0 := by
 rw [cmpQ_val, if_neg Rat.lt_irrefl, if_pos rfl]
theorem cmpQ_lt {a b : Rat} (h : a < b) : cmpQ a b = -1 := by
 rw [cmpQ_val, if_pos h]
theorem below_part {t : Rat} {N D : Int} (ht : 0 < t) (h0 : 0 ≤ N) (h : N < D) : 0 ≤ t * Rat.divInt N D ∧ t * Rat.divInt N D < t := by
 have hD : (0 : Rat) < (D : Rat) := Rat.intCast_pos.2 (by omega)
 rw [Rat.divInt_eq_div]
 have hN : (0 : Rat) ≤ (N : Rat) := Rat.intCast_nonneg.2 h0
 have q1 : (N : Rat) / (D : Rat) < 1 := by
  rw [Rat.div_lt_iff hD, Rat.one_mul]; exact Rat.intCast_lt_intCast.2 h
 have q0 : (0 : Rat) ≤ (N : Rat) / (D : Rat) := by
  rw [Rat.div_def]; exact Rat.mul_nonneg hN (Rat.le_of_lt (Rat.inv_pos.2 hD))
 refine ⟨Rat.mul_nonneg (Rat.le_of_lt ht) q0, ?_⟩
 have := Rat.mul_lt_mul_of_pos_left q1 ht
 rwa [Rat.mul_one] at this
theorem fsame_t {a : Rat} {sa ta sb tb : Bool} {Aa Ba Ab Bb : Option Addr} {na ca ma da nb cb mb db : Nat} {w : World} (ha : FV w a sa Aa na ta Ba ma) (hb : FV w a sb Ab nb tb Bb mb) (l : fl a ≤ 256) :
  Calls Tryz.prog 33 #[.agg #[.bool sa, .slice Aa na ca, .bool ta, .slice Ba ma da], .agg #[.bool sb, .slice Ab nb cb, .bool tb, .slice Bb mb db]] w fun e w' => e = .returned (.bool true) ∧ Below w.heap.size w w' := by
 have h1 := ha.ln l
 have h2 := hb.ln l
 have hc := fsame_v (ca := ca) (da := da) (cb := cb) (db := db) ha hb (by omega) (by omega) (by omega) (by omega)
 rw [decide_eq_true rfl] at hc
 exact hc
set_option linter.unusedSimpArgs false in
set_option maxRecDepth 100000 in
set_option maxHeartbeats 8000000 in
theorem svlevel_walk {A : Option Addr} {n c : Nat} {r : Nat → Cl} {w : World} (hM : ClM A n r w) (a N D : Int) (N0 : 0 ≤ N) (N1 : N ≤ 65535) (D0 : 0 ≤ D) (D1 : D ≤ 65535) :
  Calls Tryz.prog 8 #[.int .i64 a, .slice A n c, .int .u16 N, .int .u16 D] w (fun e w' => e = .returned (.bool true) ∧ Below w.heap.size w w') := by
  have hND : (0 ≤ N ∧ N ≤ 65535) ∧ 0 ≤ D ∧ D ≤ 65535 := ⟨⟨N0, N1⟩, D0, D1⟩
  clear N0 N1 D0 D1
  have HhND := Lib.hid hND
  clear hND
  have HhM := Lib.hid hM
  clear hM
  have hE := Env.start w
  go_enter Tryz.func8, Tryz.ntmps8
  go_wp2_with fail
  refine hE.br (awake_v _) ?_
  clear hE
  intro w1 hE
  go_wp2_with fail
  refine (susable_v (r := r) a (HhM.out.below hE.bel)).mono ?_
  rintro e w2 ⟨v, rfl, hv, hb⟩
  replace hE := hE.step hb
  clear hb
  cases v with
  | false =>
   clear hv
   go_wp2_with fail
   go_ret
   exact ⟨rfl, hE.bel⟩
  | true =>
   obtain ⟨hn10, h0a, h1a, hok⟩ := hv.1 rfl
   clear hv
   have hw4 := hok.w (HhM.out.below hE.bel)
   have hK := hok.K
   have hwK : ∀ k, k < n → 0 ≤ wq r k ∧ 0 ≤ Kz r k := fun k hk => ⟨(hw4 k hk).1, (hK k hk).1⟩
   have Hhok := Lib.hid hok
   clear hok
   have Hhw4 := Lib.hid hw4
   clear hw4
   have HhK := Lib.hid hK
   clear hK
   have HhwK := Lib.hid hwK
   clear hwK
   go_wp2_with fail
   refine (sLevel_v a ⟨h0a, h1a⟩ (HhM.out.below hE.bel) Hhok.out hn10).mono ?_
   rintro e w3 ⟨t, hlvt, hftt, sq, Aq, nq, cq, tq, Bq, mq, dq, rfl, hq, hb⟩
   replace hE := (hE.step hb).fv hq
   clear hb hq
   have Hhlvt := Lib.hid hlvt
   clear hlvt
   have hs0 : sq = false := by rw [(hE.here.2).1.sgn]; exact decide_eq_false (by have := Rat.num_nonneg.2 Hhlvt.out.1; omega)
   subst hs0
   go_upto_region 6 with (fail)
   obtain ⟨g4, hg4⟩ : ∃ g4, g4 = w3.heap.size := ⟨_, rfl⟩
   have hlw_g4 : w.heap.size ≤ g4 := by rw [hg4]; exact hE.bel.size
   replace hE := hE.blk 29 #[.bool false, .slice Aq nq cq, .bool tq, .slice Bq mq dq] (g := g4) hg4.symm
   generalize w3.alloc (.cells #[.bool false, .slice Aq nq cq, .bool tq, .slice Bq mq dq] 29) = W4 at hE ⊢
   rw [← hg4]
   clear hg4
   go_wp2_with fail
   refine (sExact_v a ⟨h0a, h1a⟩ (HhM.out.below hE.bel) Hhok.out hn10).mono ?_
   rintro e w5 ⟨t2, gx, cgx, hx, rfl, hlvt2, hftt2, -, hRr, hqq, hb⟩
   replace hE := ((hE.step hb).rwr hRr).fqs hqq
   clear hb hRr hqq
   have Hhlvt2 := Lib.hid hlvt2
   clear hlvt2
   have e0 := Hhlvt.out.uniq Hhlvt2.out
   subst e0
   clear Hhlvt2 hftt2
   go_wp2_with fail
   obtain ⟨T, hT⟩ : ∃ T, T = totZ a (wq r) (Kz r) n := ⟨_, rfl⟩
   have htz := totZ_b (a := a) (w := wq r) (K := Kz r) (n := n) h0a (fun k hk => (HhK.out k hk).1)
   rw [← hT] at htz Hhlvt
   have hsu : su (xq t (wq r) (Kz r)) n = ((T : Int) : Rat) := by have h1 := Hhlvt.out.2.1; rw [FF_su] at h1; exact h1
   have hxl : ∀ j, j < n → fl (xq t (wq r) (Kz r) j) ≤ 52 := fun j hj => by
    unfold xq part mn; split
    · exact fl_times hftt (Hhw4.out j hj).2
    · have h2 := HhK.out j hj; exact fl_le2 (fl_int3 (by omega) (by omega)) (by decide)
   have HhT := Lib.hid hT
   clear hT
   have Hhsu := Lib.hid hsu
   clear hsu
   have Hhxl := Lib.hid hxl
   clear hxl
   refine hE.br (ltotal_v a (HhM.out.below hE.bel) Hhok.out hn10) ?_
   clear hE
   intro w6 hE
   rw [← HhT.out]
   go_wp2_with fail
   refine hE.fr (ffromInt_v T _ (by omega) (by omega)) ?_
   clear hE
   intro sb Ab nb cb tb Bb mb db w7 hE
   have hfT : fl ((T : Int) : Rat) ≤ 3 := fl_int3 (by omega) (by omega)
   clear htz
   go_upto_region 8 with (fail)
   obtain ⟨g8, hg8⟩ : ∃ g8, g8 = w7.heap.size := ⟨_, rfl⟩
   have hl8_1 : g4 < g8 := by rw [hg8]; exact (hE.h3).lt
   have hl8_2 : gx < g8 := by rw [hg8]; exact Rw.lt (hE.h2)
   have hlw_g8 : w.heap.size ≤ g8 := by rw [hg8]; exact hE.bel.size
   replace hE := hE.blk 29 #[.bool sb, .slice Ab nb cb, .bool tb, .slice Bb mb db] (g := g8) hg8.symm
   generalize w7.alloc (.cells #[.bool sb, .slice Ab nb cb, .bool tb, .slice Bb mb db] 29) = W8 at hE ⊢
   rw [← hg8]
   clear hg8
   replace hE := hE.drew
   refine wp_region_held_drew (S := fun V => Blk 29 (g4) #[.bool false, .slice Aq nq cq, .bool tq, .slice Bq mq dq] V ∧ Blk 29 (g8) #[.bool sb, .slice Ab nb cb, .bool tb, .slice Bb mb db] V) (by kernel_rfl) (⟨hE.h4, hE.here.2⟩) (fun hHeld => ?_)
   generalize W8.drew = wd at *
   refine tk 0 ?_
   try simp only [PL]
   refine tk 1 ?_
   try simp only [PL]
   refine tk 2 ?_
   try simp only [PL]
   refine tk 3 ?_
   try simp only [PL]
   refine tk 4 ?_
   try simp only [PL]
   refine tk 5 ?_
   try simp only [PL]
   refine tk 6 ?_
   try simp only [PL]
   refine tk 7 ?_
   try simp only [PL]
   refine tk 8 ?_
   try simp only [PL]
   refine tk 9 ?_
   try simp only [PL]
   refine tk 10 ?_
   try simp only [PL]
   refine tk 11 ?_
   try simp only [PL]
   refine tk 12 ?_
   try simp only [PL]
   refine tk 13 ?_
   try simp only [PL]
   refine tk 14 ?_
   try simp only [PL]
   refine tk 15 ?_
   try simp only [PL]
   refine wpAnyH_take (i := 16) (v := ?v1_16_17) rfl (by kernel_rfl) (by kernel_rfl) (by kernel_rfl) (fun _ _ _ h => h) (Or.inl ⟨by rfl, ?hy1_16_17⟩) (by assumption) ?rest1_16_17
   case hy1_16_17 =>
    intro w hSw
    have kc0 := (hSw.1).cell 0
    clear hSw
    first | (go_simp; done) | (go_simp; with_reducible rfl)
   try simp only [PL]
   refine tk 17 ?_
   try simp only [PL]
   refine tk 18 ?_
   try simp only [PL]
   refine wpAnyH_take (i := 19) (v := ?v1_19_20) rfl (by kernel_rfl) (by kernel_rfl) (by kernel_rfl) (fun _ _ _ h => h) (Or.inl ⟨by rfl, ?hy1_19_20⟩) (by assumption) ?rest1_19_20
   case hy1_19_20 =>
    intro w hSw
    have kc0 := (hSw.1).cell 0
    have kc1 := (hSw.1).cell 1
    have kc2 := (hSw.1).cell 2
    have kc3 := (hSw.1).cell 3
    clear hSw
    first | (go_simp; done) | (go_simp; with_reducible rfl)
   try simp only [PL]
   refine tk 20 ?_
   try simp only [PL]
   refine wpAnyH_take (i := 22) (v := ?v1_22_22) rfl (by kernel_rfl) (by kernel_rfl) (by kernel_rfl) (fun _ _ _ h => h) (Or.inl ⟨by rfl, ?hy1_22_22⟩) (by assumption) ?rest1_22_22
   case hy1_22_22 =>
    intro w hSw
    have kc0 := (hSw.2).cell 0
    have kc1 := (hSw.2).cell 1
    have kc2 := (hSw.2).cell 2
    have kc3 := (hSw.2).cell 3
    clear hSw
    first | (go_simp; done) | (go_simp; with_reducible rfl)
   try simp only [PL]
   refine r1 21 (fun K hK => ?_)
   go_simp
   have hc := lsumAt_v (t := t) (cq := cq) (dq := dq) (c := c) (hE.h5) (Hhlvt.out.1) (by omega) (HhM.out.below hE.bel) Hhok.out hn10
   rw [Hhsu.out] at hc
   refine hE.fr (hc) ?_
   clear hE
   intro ss As ns cs ts Bs ms ds w9 hE
   clear hc
   go_wp2_with fail
   refine hK.out _ _ (⟨hE.h5, hE.here.1.2⟩) (fun hHeld => ?_)
   clear hK K
   try simp only [PL]
   refine r1 23 (fun K hK => ?_)
   go_simp
   refine hE.br (fcmp_v (ca := cs) (da := ds) (cb := cb) (db := db) (hE.here.2) (hE.h2) (by omega) (by omega)) ?_
   clear hE
   intro w10 hE
   rw [cmpQ_refl]
   go_wp2_with fail
   refine hK.out _ _ (⟨hE.h5, hE.here.1.2⟩) (fun hHeld => ?_)
   clear hK K
   try simp only [PL]
   refine tk 24 ?_
   try simp only [PL]
   refine tk 25 ?_
   try simp only [PL]
   refine tk 26 ?_
   try simp only [PL]
   refine wpAnyH_take (i := 27) (v := ?v1_27_26) rfl (by kernel_rfl) (by kernel_rfl) (by kernel_rfl) (fun _ _ _ h => h) (Or.inl ⟨by rfl, ?hy1_27_26⟩) (by assumption) ?rest1_27_26
   case hy1_27_26 =>
    intro w hSw
    have kc0 := (hSw.1).cell 0
    have kc1 := (hSw.1).cell 1
    have kc2 := (hSw.1).cell 2
    have kc3 := (hSw.1).cell 3
    clear hSw
    first | (go_simp; done) | (go_simp; with_reducible rfl)
   try simp only [PL]
   refine r1 28 (fun K hK => ?_)
   go_simp
   refine hE.br (fvalid_v0 (c := cq) (d := dq) (hE.h6) (by omega)) ?_
   clear hE
   intro w11 hE
   go_wp2_with fail
   refine hK.out _ _ (⟨hE.h5, hE.here.1.2⟩) (fun hHeld => ?_)
   clear hK K
   try simp only [PL]
   refine tk 29 ?_
   try simp only [PL]
   refine tk 30 ?_
   try simp only [PL]
   refine wpAnyH_done (by kernel_rfl) ?_ _
   go_wp2_with fail
   go_loopw [14] (fun x wr => ∃ k : Nat, k ≤ n ∧ x = .int .i64 (k : Int) ∧ Env w (fun V => ((((((True ∧ FV V t false Aq nq tq Bq mq) ∧ Blk 29 (g4) #[.bool false, .slice Aq nq cq, .bool tq, .slice Bq mq dq] V) ∧ Rw 29 4 gx n cgx (fun j => zqL (hx j)) V) ∧ FqS hx n (xq t (wq r) (Kz r)) V) ∧ FV V ((T : Int) : Rat) sb Ab nb tb Bb mb) ∧ Blk 29 (g8) #[.bool sb, .slice Ab nb cb, .bool tb, .slice Bb mb db] V)) wr) (fun x _ => n - (intOf x).toNat)
   case atStart => exact ⟨0, Nat.zero_le _, rfl, (((((((Env.again hE.bel).fv (hE.h6)).blkI (hE.h5)).rwr (hE.h4)).fqs (hE.h3)).fv (hE.h2)).blkI (hE.here.1.2))⟩
   case round =>
    clear hE
    obtain ⟨k, hk, rfl, hE⟩ := hrel
    by_cases hlt : k < n
    rotate_left
    ·
     obtain rfl : n = k := by omega
     have t1 : decide ((n : Int) < (n : Int)) = false := decide_eq_false (by omega)
     obtain ⟨⟨N0, N1⟩, D0, D1⟩ := HhND.out
     by_cases hnd : D ≤ N
     ·
      have t2 : decide (D ≤ N) = true := decide_eq_true hnd
      have Hhnd := Lib.hid hnd
      clear hnd
      go_wp2_with fail
      go_ret
      exact ⟨rfl, hE.bel⟩
     have t2 : decide (D ≤ N) = false := decide_eq_false hnd
     have hnz := FV.nz (hE.h5)
     by_cases h0 : nq = 0
     ·
      have t3 : (nq == 0) = true := beq_iff_eq.2 h0
      have t4 : ((nq : Int) == 0) = true := beq_iff_eq.2 (by omega)
      have Hhnd := Lib.hid hnd
      clear hnd
      have Hh0 := Lib.hid h0
      clear h0
      have Hhnz := Lib.hid hnz
      clear hnz
      obtain ⟨k12, k13, k14, k15⟩ := (hE.h4).c4
      go_wp2_with fail
      go_ret
      exact ⟨rfl, hE.bel⟩
     have t3 : (nq == 0) = false := beq_eq_false_iff_ne.2 h0
     have t4 : ((nq : Int) == 0) = false := beq_eq_false_iff_ne.2 (by omega)
     have htp : 0 < t := by have h1 := Hhlvt.out.1; have h2 : ¬ t = 0 := fun h => h0 (hnz.2 h); grind
     obtain ⟨hq0, hq1⟩ := below_part htp N0 (show N < D by omega)
     have hfq : fl (Rat.divInt N D) ≤ 1 := fl_div (by omega) ((ln_le b16_two).2 (show N.natAbs < 65536 by omega)) ((ln_le b16_two).2 (show D.natAbs < 65536 by omega))
     have hfm := fl_times hftt hfq
     have hless : su (xq (t * Rat.divInt N D) (wq r) (Kz r)) n < ((T : Int) : Rat) := by have h1 := Hhlvt.out.2.2 _ hq1 hq0; rw [FF_su] at h1; exact h1
     have hfs : fl (su (xq (t * Rat.divInt N D) (wq r) (Kz r)) n) ≤ 94 := fl_sumat hq0 (show fl (t * Rat.divInt N D) ≤ 50 by omega) hn10 Hhw4.out HhK.out (Nat.le_refl _)
     have o1 : IntKind.i64.wrap N = N := by rw [IntKind.wrap_i64]; omega
     have o2 : IntKind.i64.wrap D = D := by rw [IntKind.wrap_i64]; omega
     have Hhnd := Lib.hid hnd
     clear hnd
     have Hh0 := Lib.hid h0
     clear h0
     have Hhnz := Lib.hid hnz
     clear hnz
     have Hhtp := Lib.hid htp
     clear htp
     have Hhq0 := Lib.hid hq0
     clear hq0
     have Hhq1 := Lib.hid hq1
     clear hq1
     have Hhless := Lib.hid hless
     clear hless
     obtain ⟨k16, k17, k18, k19⟩ := (hE.h4).c4
     go_upto_region 17 with (fail)
     clear k16 k17 k18 k19
     go_cut [15, 16] from 98 to 108 (fun p0 p1 wx => ∃ G17 sv Av nv cv tv Bv mv dv, p0 = .pointer (some ⟨G17, 0, none⟩) ∧ p1 = .int .i64 0 ∧ (g4 < G17 ∧ g8 < G17) ∧ Env w (fun V => ((((((((True ∧ FV V t false Aq nq tq Bq mq) ∧ Blk 29 (g4) #[.bool false, .slice Aq nq cq, .bool tq, .slice Bq mq dq] V) ∧ Rw 29 4 gx n cgx (fun j => zqL (hx j)) V) ∧ FqS hx n (xq t (wq r) (Kz r)) V) ∧ FV V ((T : Int) : Rat) sb Ab nb tb Bb mb) ∧ Blk 29 (g8) #[.bool sb, .slice Ab nb cb, .bool tb, .slice Bb mb db] V) ∧ FV V (t * Rat.divInt N D) sv Av nv tv Bv mv) ∧ Blk 29 (G17) #[.bool sv, .slice Av nv cv, .bool tv, .slice Bv mv dv] V)) wx)
     case first =>
      replace hE := hE.drew
      refine wp_region_held_drew (S := fun V => Blk 29 (g4) #[.bool false, .slice Aq nq cq, .bool tq, .slice Bq mq dq] V) (by kernel_rfl) (hE.h4) (fun hHeld => ?_)
      generalize wr.drew = wd at *
      refine wpAnyH_take (i := 0) (v := ?v2_0_1) rfl (by kernel_rfl) (by kernel_rfl) (by kernel_rfl) (fun _ _ _ h => h) (Or.inl ⟨by rfl, ?hy2_0_1⟩) (by assumption) ?rest2_0_1
      case hy2_0_1 =>
       intro w hSw
       have kc0 := (hSw).cell 0
       have kc1 := (hSw).cell 1
       have kc2 := (hSw).cell 2
       have kc3 := (hSw).cell 3
       clear hSw
       first | (go_simp; done) | (go_simp; with_reducible rfl)
      try simp only [PL]
      refine tk 1 ?_
      try simp only [PL]
      refine tk 2 ?_
      try simp only [PL]
      refine tk 3 ?_
      try simp only [PL]
      refine tk 4 ?_
      try simp only [PL]
      refine wpAnyH_ready (rs := [5, 10]) (by kernel_rfl) (by simp) (AllReadyH.cons rfl (fun K hK => ?_) (AllReadyH.cons rfl (fun K hK => ?_) (AllReadyH.nil)))
      ·
       go_simp
       refine hE.fr (rquick_v N D _ (by omega) (by omega) (by omega) (by omega) (by have := Hhnd.out; omega)) ?_
       clear hE
       intro sf Af nf cf tf Bf mf df w20 hE
       go_wp2_with fail
       refine hK.out _ _ (hE.h5) (fun hHeld => ?_)
       clear hK K
       try simp only [PL]
       refine wpAnyH_ready (rs := [6, 10]) (by kernel_rfl) (by simp) (AllReadyH.cons rfl (fun K hK => ?_) (AllReadyH.cons rfl (fun K hK => ?_) (AllReadyH.nil)))
       ·
        go_simp
        refine hE.fr (fmul_v (ca := cq) (da := dq) (cb := cf) (db := df) (hE.h6) (hE.here.2) (by omega) (by omega) (by omega)) ?_
        clear hE
        intro sv Av nv cv tv Bv mv dv w21 hE
        go_wp2_with fail
        refine hK.out _ _ (hE.h6) (fun hHeld => ?_)
        clear hK K
        try simp only [PL]
        refine tk 7 ?_
        try simp only [PL]
        refine tk 8 ?_
        try simp only [PL]
        refine tk 9 ?_
        try simp only [PL]
        refine r1 10 (fun K hK => ?_)
        go_simp
        obtain ⟨g22, hg22⟩ : ∃ g22, g22 = w21.heap.size := ⟨_, rfl⟩
        have hl22_1 : g4 < g22 := by rw [hg22]; exact (hE.h6).lt
        have hl22_2 : gx < g22 := by rw [hg22]; exact Rw.lt (hE.h5)
        have hl22_5 : g8 < g22 := by rw [hg22]; exact (hE.h2).lt
        have hlw_g22 : w.heap.size ≤ g22 := by rw [hg22]; exact hE.bel.size
        replace hE := hE.blk 29 #[.bool false, .slice none 0 0, .bool false, .slice none 0 0] (g := g22) hg22.symm
        generalize w21.alloc (.cells #[.bool false, .slice none 0 0, .bool false, .slice none 0 0] 29) = W22 at hE ⊢
        rw [← hg22]
        clear hg22
        refine hK.out _ _ (hE.h7) (fun hHeld => ?_)
        clear hK K
        try simp only [PL]
        refine r1 11 (fun K hK => ?_)
        have hgl23 : w.heap.size ≤ g22 := by omega
        obtain ⟨x23_0, x23_1, x23_2, x23_3⟩ := (hE.here.2).c4
        obtain ⟨f23_0, f23_1, f23_2, f23_3⟩ := hE.here.2.f4
        replace hE := ((((((((((Env.again (bel4 hE.bel hgl23 (.bool sv) (.slice Av nv cv) (.bool tv) (.slice Bv mv dv))).fv ((hE.h8).sep4 hE.here.2 rfl (.bool sv) (.slice Av nv cv) (.bool tv) (.slice Bv mv dv) rfl rfl rfl)).blkI ((hE.h7).far4 (R := g22) (by omega) (.bool sv) (.slice Av nv cv) (.bool tv) (.slice Bv mv dv))).rwr ((hE.h6).grownB (st4_grown (hE.here.2) (.bool sv) (.slice Av nv cv) (.bool tv) (.slice Bv mv dv)) (by omega))).fqs (FqS.grownB (hE.h5) (hE.here.2) rfl (st4_grown (hE.here.2) (.bool sv) (.slice Av nv cv) (.bool tv) (.slice Bv mv dv)))).fv ((hE.h4).sep4 hE.here.2 rfl (.bool sv) (.slice Av nv cv) (.bool tv) (.slice Bv mv dv) rfl rfl rfl)).blkI ((hE.h3).far4 (R := g22) (by omega) (.bool sv) (.slice Av nv cv) (.bool tv) (.slice Bv mv dv))).fv ((hE.h2).sep4 hE.here.2 rfl (.bool sv) (.slice Av nv cv) (.bool tv) (.slice Bv mv dv) rfl rfl rfl)).fv ((hE.here.1.2).sep4 hE.here.2 rfl (.bool sv) (.slice Av nv cv) (.bool tv) (.slice Bv mv dv) rfl rfl rfl)).blkI ((hE.here.2).s4 (.bool sv) (.slice Av nv cv) (.bool tv) (.slice Bv mv dv)))
        go_simp
        clear x23_0 x23_1 x23_2 x23_3 f23_0 f23_1 f23_2 f23_3 hgl23
        generalize ((((W22.setCell ⟨g22, 0, none⟩ (.bool sv)).setCell ⟨g22, 1, none⟩ (.slice Av nv cv)).setCell ⟨g22, 2, none⟩ (.bool tv)).setCell ⟨g22, 3, none⟩ (.slice Bv mv dv)) = W23 at hE ⊢
        refine hK.out _ _ (hE.h7) (fun hHeld => ?_)
        clear hK K
        try simp only [PL]
        refine tk 12 ?_
        try simp only [PL]
        refine wpAnyH_done (by kernel_rfl) ?_ _
        go_wp2_with fail
        go_meet
        exact ⟨g22, sv, Av, nv, cv, tv, Bv, mv, dv, rfl, rfl, ⟨by omega, by omega⟩, (((((((((Env.again hE.bel).fv (hE.h8)).blkI (hE.h7)).rwr (hE.h6)).fqs (hE.h5)).fv (hE.h4)).blkI (hE.h3)).fv (hE.here.1.2)).blkI (hE.here.2))⟩
       ·
        go_simp
        obtain ⟨g24, hg24⟩ : ∃ g24, g24 = w20.heap.size := ⟨_, rfl⟩
        have hl24_1 : g4 < g24 := by rw [hg24]; exact (hE.h5).lt
        have hl24_2 : gx < g24 := by rw [hg24]; exact Rw.lt (hE.h4)
        have hl24_5 : g8 < g24 := by rw [hg24]; exact (hE.here.1.2).lt
        have hlw_g24 : w.heap.size ≤ g24 := by rw [hg24]; exact hE.bel.size
        replace hE := hE.blk 29 #[.bool false, .slice none 0 0, .bool false, .slice none 0 0] (g := g24) hg24.symm
        generalize w20.alloc (.cells #[.bool false, .slice none 0 0, .bool false, .slice none 0 0] 29) = W24 at hE ⊢
        rw [← hg24]
        clear hg24
        refine hK.out _ _ (hE.h6) (fun hHeld => ?_)
        clear hK K
        try simp only [PL]
        refine r1 6 (fun K hK => ?_)
        go_simp
        refine hE.fr (fmul_v (ca := cq) (da := dq) (cb := cf) (db := df) (hE.h7) (hE.here.1.2) (by omega) (by omega) (by omega)) ?_
        clear hE
        intro sv Av nv cv tv Bv mv dv w25 hE
        go_wp2_with fail
        refine hK.out _ _ (hE.h7) (fun hHeld => ?_)
        clear hK K
        try simp only [PL]
        refine tk 7 ?_
        try simp only [PL]
        refine tk 8 ?_
        try simp only [PL]
        refine tk 9 ?_
        try simp only [PL]
        refine r1 11 (fun K hK => ?_)
        have hgl26 : w.heap.size ≤ g24 := by omega
        obtain ⟨x26_0, x26_1, x26_2, x26_3⟩ := (hE.here.1.2).c4
        obtain ⟨f26_0, f26_1, f26_2, f26_3⟩ := hE.here.1.2.f4
        replace hE := ((((((((((Env.again (bel4 hE.bel hgl26 (.bool sv) (.slice Av nv cv) (.bool tv) (.slice Bv mv dv))).fv ((hE.h8).sep4 hE.here.1.2 rfl (.bool sv) (.slice Av nv cv) (.bool tv) (.slice Bv mv dv) rfl rfl rfl)).blkI ((hE.h7).far4 (R := g24) (by omega) (.bool sv) (.slice Av nv cv) (.bool tv) (.slice Bv mv dv))).rwr ((hE.h6).grownB (st4_grown (hE.here.1.2) (.bool sv) (.slice Av nv cv) (.bool tv) (.slice Bv mv dv)) (by omega))).fqs (FqS.grownB (hE.h5) (hE.here.1.2) rfl (st4_grown (hE.here.1.2) (.bool sv) (.slice Av nv cv) (.bool tv) (.slice Bv mv dv)))).fv ((hE.h4).sep4 hE.here.1.2 rfl (.bool sv) (.slice Av nv cv) (.bool tv) (.slice Bv mv dv) rfl rfl rfl)).blkI ((hE.h3).far4 (R := g24) (by omega) (.bool sv) (.slice Av nv cv) (.bool tv) (.slice Bv mv dv))).fv ((hE.h2).sep4 hE.here.1.2 rfl (.bool sv) (.slice Av nv cv) (.bool tv) (.slice Bv mv dv) rfl rfl rfl)).blkI ((hE.here.1.2).s4 (.bool sv) (.slice Av nv cv) (.bool tv) (.slice Bv mv dv))).fv ((hE.here.2).sep4 hE.here.1.2 rfl (.bool sv) (.slice Av nv cv) (.bool tv) (.slice Bv mv dv) rfl rfl rfl))
        go_simp
        clear x26_0 x26_1 x26_2 x26_3 f26_0 f26_1 f26_2 f26_3 hgl26
        generalize ((((w25.setCell ⟨g24, 0, none⟩ (.bool sv)).setCell ⟨g24, 1, none⟩ (.slice Av nv cv)).setCell ⟨g24, 2, none⟩ (.bool tv)).setCell ⟨g24, 3, none⟩ (.slice Bv mv dv)) = W26 at hE ⊢
        refine hK.out _ _ (hE.h7) (fun hHeld => ?_)
        clear hK K
        try simp only [PL]
        refine tk 12 ?_
        try simp only [PL]
        refine wpAnyH_done (by kernel_rfl) ?_ _
        go_wp2_with fail
        go_meet
        exact ⟨g24, sv, Av, nv, cv, tv, Bv, mv, dv, rfl, rfl, ⟨by omega, by omega⟩, (((((((((Env.again hE.bel).fv (hE.h8)).blkI (hE.h7)).rwr (hE.h6)).fqs (hE.h5)).fv (hE.h4)).blkI (hE.h3)).fv (hE.here.2)).blkI (hE.here.1.2))⟩
      ·
       go_simp
       obtain ⟨g27, hg27⟩ : ∃ g27, g27 = wd.heap.size := ⟨_, rfl⟩
       have hl27_1 : g4 < g27 := by rw [hg27]; exact (hE.h4).lt
       have hl27_2 : gx < g27 := by rw [hg27]; exact Rw.lt (hE.h3)
       have hl27_5 : g8 < g27 := by rw [hg27]; exact (hE.here.2).lt
       have hlw_g27 : w.heap.size ≤ g27 := by rw [hg27]; exact hE.bel.size
       replace hE := hE.blk 29 #[.bool false, .slice none 0 0, .bool false, .slice none 0 0] (g := g27) hg27.symm
       generalize wd.alloc (.cells #[.bool false, .slice none 0 0, .bool false, .slice none 0 0] 29) = W27 at hE ⊢
       rw [← hg27]
       clear hg27
       refine hK.out _ _ (hE.h5) (fun hHeld => ?_)
       clear hK K
       try simp only [PL]
       refine r1 5 (fun K hK => ?_)
       go_simp
       refine hE.fr (rquick_v N D _ (by omega) (by omega) (by omega) (by omega) (by have := Hhnd.out; omega)) ?_
       clear hE
       intro sf Af nf cf tf Bf mf df w28 hE
       go_wp2_with fail
       refine hK.out _ _ (hE.h6) (fun hHeld => ?_)
       clear hK K
       try simp only [PL]
       refine r1 6 (fun K hK => ?_)
       go_simp
       refine hE.fr (fmul_v (ca := cq) (da := dq) (cb := cf) (db := df) (hE.h7) (hE.here.2) (by omega) (by omega) (by omega)) ?_
       clear hE
       intro sv Av nv cv tv Bv mv dv w29 hE
       go_wp2_with fail
       refine hK.out _ _ (hE.h7) (fun hHeld => ?_)
       clear hK K
       try simp only [PL]
       refine tk 7 ?_
       try simp only [PL]
       refine tk 8 ?_
       try simp only [PL]
       refine tk 9 ?_
       try simp only [PL]
       refine r1 11 (fun K hK => ?_)
       have hgl30 : w.heap.size ≤ g27 := by omega
       obtain ⟨x30_0, x30_1, x30_2, x30_3⟩ := (hE.h2).c4
       obtain ⟨f30_0, f30_1, f30_2, f30_3⟩ := hE.h2.f4
       replace hE := ((((((((((Env.again (bel4 hE.bel hgl30 (.bool sv) (.slice Av nv cv) (.bool tv) (.slice Bv mv dv))).fv ((hE.h8).sep4 hE.h2 rfl (.bool sv) (.slice Av nv cv) (.bool tv) (.slice Bv mv dv) rfl rfl rfl)).blkI ((hE.h7).far4 (R := g27) (by omega) (.bool sv) (.slice Av nv cv) (.bool tv) (.slice Bv mv dv))).rwr ((hE.h6).grownB (st4_grown (hE.h2) (.bool sv) (.slice Av nv cv) (.bool tv) (.slice Bv mv dv)) (by omega))).fqs (FqS.grownB (hE.h5) (hE.h2) rfl (st4_grown (hE.h2) (.bool sv) (.slice Av nv cv) (.bool tv) (.slice Bv mv dv)))).fv ((hE.h4).sep4 hE.h2 rfl (.bool sv) (.slice Av nv cv) (.bool tv) (.slice Bv mv dv) rfl rfl rfl)).blkI ((hE.h3).far4 (R := g27) (by omega) (.bool sv) (.slice Av nv cv) (.bool tv) (.slice Bv mv dv))).blkI ((hE.h2).s4 (.bool sv) (.slice Av nv cv) (.bool tv) (.slice Bv mv dv))).fv ((hE.here.1.2).sep4 hE.h2 rfl (.bool sv) (.slice Av nv cv) (.bool tv) (.slice Bv mv dv) rfl rfl rfl)).fv ((hE.here.2).sep4 hE.h2 rfl (.bool sv) (.slice Av nv cv) (.bool tv) (.slice Bv mv dv) rfl rfl rfl))
       go_simp
       clear x30_0 x30_1 x30_2 x30_3 f30_0 f30_1 f30_2 f30_3 hgl30
       generalize ((((w29.setCell ⟨g27, 0, none⟩ (.bool sv)).setCell ⟨g27, 1, none⟩ (.slice Av nv cv)).setCell ⟨g27, 2, none⟩ (.bool tv)).setCell ⟨g27, 3, none⟩ (.slice Bv mv dv)) = W30 at hE ⊢
       refine hK.out _ _ (hE.h7) (fun hHeld => ?_)
       clear hK K
       try simp only [PL]
       refine tk 12 ?_
       try simp only [PL]
       refine wpAnyH_done (by kernel_rfl) ?_ _
       go_wp2_with fail
       go_meet
       exact ⟨g27, sv, Av, nv, cv, tv, Bv, mv, dv, rfl, rfl, ⟨by omega, by omega⟩, (((((((((Env.again hE.bel).fv (hE.h8)).blkI (hE.h7)).rwr (hE.h6)).fqs (hE.h5)).fv (hE.h4)).blkI (hE.h3)).fv (hE.here.2)).blkI (hE.h2))⟩
     case rest =>
     clear hE
     obtain ⟨G17, sv, Av, nv, cv, tv, Bv, mv, dv, rfl, rfl, ⟨hG17_0, hG17_1⟩, hE⟩ := hcut
     generalize wc = wk17 at hE ⊢
     go_upto_region 18 with (fail)
     replace hE := hE.drew
     refine wp_region_held_drew (S := fun V => Blk 29 (G17) #[.bool sv, .slice Av nv cv, .bool tv, .slice Bv mv dv] V ∧ Blk 29 (g8) #[.bool sb, .slice Ab nb cb, .bool tb, .slice Bb mb db] V) (by kernel_rfl) (⟨hE.here.2, hE.h2⟩) (fun hHeld => ?_)
     generalize wk17.drew = wd at *
     refine tk 0 ?_
     try simp only [PL]
     refine tk 1 ?_
     try simp only [PL]
     refine tk 2 ?_
     try simp only [PL]
     refine wpAnyH_take (i := 3) (v := ?v3_3_4) rfl (by kernel_rfl) (by kernel_rfl) (by kernel_rfl) (fun _ _ _ h => h) (Or.inl ⟨by rfl, ?hy3_3_4⟩) (by assumption) ?rest3_3_4
     case hy3_3_4 =>
      intro w hSw
      have kc0 := (hSw.1).cell 0
      have kc1 := (hSw.1).cell 1
      have kc2 := (hSw.1).cell 2
      have kc3 := (hSw.1).cell 3
      clear hSw
      first | (go_simp; done) | (go_simp; with_reducible rfl)
     try simp only [PL]
     refine tk 4 ?_
     try simp only [PL]
     refine wpAnyH_take (i := 6) (v := ?v3_6_6) rfl (by kernel_rfl) (by kernel_rfl) (by kernel_rfl) (fun _ _ _ h => h) (Or.inl ⟨by rfl, ?hy3_6_6⟩) (by assumption) ?rest3_6_6
     case hy3_6_6 =>
      intro w hSw
      have kc0 := (hSw.2).cell 0
      have kc1 := (hSw.2).cell 1
      have kc2 := (hSw.2).cell 2
      have kc3 := (hSw.2).cell 3
      clear hSw
      first | (go_simp; done) | (go_simp; with_reducible rfl)
     try simp only [PL]
     refine r1 5 (fun K hK => ?_)
     go_simp
     have hc := lsumAt_v (t := t * Rat.divInt N D) (cq := cv) (dq := dv) (c := c) (hE.here.1.2) Hhq0.out (by omega) (HhM.out.below hE.bel) Hhok.out hn10
     refine hE.fr (hc) ?_
     clear hE
     intro sg Ag ng cg tg Bg mg dg w31 hE
     clear hc
     go_wp2_with fail
     refine hK.out _ _ (⟨hE.here.1.2, hE.h3⟩) (fun hHeld => ?_)
     clear hK K
     try simp only [PL]
     refine r1 7 (fun K hK => ?_)
     go_simp
     refine hE.br (fcmp_v (ca := cg) (da := dg) (cb := cb) (db := db) (hE.here.2) (hE.h4) (by omega) (by omega)) ?_
     clear hE
     intro w32 hE
     rw [cmpQ_lt Hhless.out]
     go_wp2_with fail
     refine hK.out _ _ (⟨hE.here.1.2, hE.h3⟩) (fun hHeld => ?_)
     clear hK K
     try simp only [PL]
     refine tk 8 ?_
     try simp only [PL]
     refine tk 9 ?_
     try simp only [PL]
     refine tk 10 ?_
     try simp only [PL]
     refine wpAnyH_done (by kernel_rfl) ?_ _
     go_wp2_with fail
     go_ret
     exact ⟨rfl, hE.bel⟩
    have t1 : decide ((k : Int) < (n : Int)) = true := decide_eq_true (by omega)
    have t2 : (k : Int) < (n : Int) := by omega
    obtain ⟨b, o, rfl, hb, hc⟩ := (HhM.out.below hE.bel) (by omega)
    clear hb hc
    obtain ⟨x, hx2⟩ : ∃ x, x = r k := ⟨_, rfl⟩
    obtain ⟨y, hy⟩ : ∃ y, y = hx k := ⟨_, rfl⟩
    obtain ⟨X, hX⟩ : ∃ X, X = xq t (wq r) (Kz r) k := ⟨_, rfl⟩
    have hyv := hE.h2 k hlt
    rw [← hy, ← hX] at hyv
    have hxk := Hhxl.out k hlt
    rw [← hX] at hxk
    have hwv := ClM.fv (HhM.out.below hE.bel) Hhok.out hlt
    have hxw : FV wr (wq r k) x.w.s x.w.A x.w.n x.w.t x.w.B x.w.m := by rw [hx2]; exact hwv.2.1
    clear hwv
    have hxb : 0 ≤ x.K ∧ x.K ≤ 1099511627776 := by rw [hx2]; exact HhK.out k hlt
    have hX2 : part t (wq r k, ((x.K : Int) : Rat)) = X := by rw [hX, hx2]; rfl
    have hw4k := (Hhw4.out k hlt).2
    obtain ⟨pw, hpw⟩ : ∃ pw, pw = wq r k := ⟨_, rfl⟩
    rw [← hpw] at hxw hX2 hw4k
    have Hhx2 := Lib.hid hx2
    clear hx2
    have Hhy := Lib.hid hy
    clear hy
    have HhX := Lib.hid hX
    clear hX
    have HhX2 := Lib.hid hX2
    clear hX2
    have Hhpw := Lib.hid hpw
    clear hpw
    replace hE := ((hE.fv hyv).fv hxw).clm (HhM.out.below hE.bel)
    clear hyv hxw
    go_upto_region 13 with (fail)
    replace hE := hE.drew
    refine wp_region_held_drew (S := fun V => Blk 29 (g4) #[.bool false, .slice Aq nq cq, .bool tq, .slice Bq mq dq] V ∧ Rw 29 4 gx n cgx (fun j => zqL (hx j)) V ∧ ClM (some ⟨b, o, none⟩) n r V) (by kernel_rfl) (⟨hE.h7, hE.h6, hE.here.2⟩) (fun hHeld => ?_)
    generalize wr.drew = wd at *
    refine tk 0 ?_
    try simp only [PL]
    refine tk 1 ?_
    try simp only [PL]
    refine tk 2 ?_
    try simp only [PL]
    refine wpAnyH_take (i := 3) (v := ?v4_3_4) rfl (by kernel_rfl) (by kernel_rfl) (by kernel_rfl) (fun _ _ _ h => h) (Or.inl ⟨by rfl, ?hy4_3_4⟩) (by assumption) ?rest4_3_4
    case hy4_3_4 =>
     intro w hSw
     have kc0 := Rw.cell hSw.2.1 (k := k) (i := 0) (o := k * 4) (v := .bool y.s) hlt (by decide) rfl (by rw [Hhy.out]; rfl)
     have kc1 := Rw.cell hSw.2.1 (k := k) (i := 1) (o := k * 4 + 1) (v := .slice y.A y.n y.c) hlt (by decide) rfl (by rw [Hhy.out]; rfl)
     have kc2 := Rw.cell hSw.2.1 (k := k) (i := 2) (o := k * 4 + 2) (v := .bool y.t) hlt (by decide) rfl (by rw [Hhy.out]; rfl)
     have kc3 := Rw.cell hSw.2.1 (k := k) (i := 3) (o := k * 4 + 3) (v := .slice y.B y.m y.d) hlt (by decide) rfl (by rw [Hhy.out]; rfl)
     clear hSw
     first | (go_simp; done) | (go_simp; with_reducible rfl)
    try simp only [PL]
    refine wpAnyH_take (i := 4) (v := ?v4_4_5) rfl (by kernel_rfl) (by kernel_rfl) (by kernel_rfl) (fun _ _ _ h => h) (Or.inl ⟨by rfl, ?hy4_4_5⟩) (by assumption) ?rest4_4_5
    case hy4_4_5 =>
     intro w hSw
     have kc0 := (hSw.1).cell 0
     have kc1 := (hSw.1).cell 1
     have kc2 := (hSw.1).cell 2
     have kc3 := (hSw.1).cell 3
     clear hSw
     first | (go_simp; done) | (go_simp; with_reducible rfl)
    try simp only [PL]
    refine tk 5 ?_
    try simp only [PL]
    refine tk 6 ?_
    try simp only [PL]
    refine tk 7 ?_
    try simp only [PL]
    refine wpAnyH_take (i := 8) (v := ?v4_8_9) rfl (by kernel_rfl) (by kernel_rfl) (by kernel_rfl) (fun _ _ _ h => h) (Or.inl ⟨by rfl, ?hy4_8_9⟩) (by assumption) ?rest4_8_9
    case hy4_8_9 =>
     intro w hSw
     obtain ⟨b2, o2, e2, -, hc2⟩ := hSw.2.2 (by omega)
     cases e2
     obtain ⟨⟨d0, d1, d2, d3, d4, d5⟩, -⟩ := hc2 k hlt
     rw [← Hhx2.out] at d0 d1 d2 d3 d4 d5
     clear hc2
     clear hSw
     first | (go_simp; done) | (go_simp; with_reducible rfl)
    try simp only [PL]
    refine r1 9 (fun K hK => ?_)
    go_simp
    have hc := lwithin_v (x := x) (cq := cq) (dq := dq) (hE.h8) (hE.here.1.2) (by omega) (by omega) hxb
    rw [HhX2.out] at hc
    refine hE.fr (hc) ?_
    clear hE
    intro sv Av nv cv tv Bv mv dv w33 hE
    clear hc
    go_wp2_with fail
    refine hK.out _ _ (⟨hE.h8, hE.h7, hE.here.1.2⟩) (fun hHeld => ?_)
    clear hK K
    try simp only [PL]
    refine r1 10 (fun K hK => ?_)
    go_simp
    refine hE.br (fsame_t (ca := y.c) (da := y.d) (cb := cv) (db := dv) (hE.h3) (hE.here.2) (by omega)) ?_
    clear hE
    intro w34 hE
    go_wp2_with fail
    refine hK.out _ _ (⟨hE.h8, hE.h7, hE.here.1.2⟩) (fun hHeld => ?_)
    clear hK K
    try simp only [PL]
    refine tk 11 ?_
    try simp only [PL]
    refine wpAnyH_done (by kernel_rfl) ?_ _
    go_wp2_with fail
    go_roundw
    case rel => exact ⟨k + 1, by omega, by go_num, (((((((Env.again hE.bel).fv (hE.h9)).blkI (hE.h8)).rwr (hE.h7)).fqs (hE.h6)).fv (hE.h5)).blkI (hE.h4))⟩
    case measure => simp [intOf]; omega
end Go.Proofs.YtjgihmmeimfheaaGreat
