/-
  The walk of FracLimits.
-/
import Derived.Test.YtifikcemcflgjaaGreatK1
import Derived.Test.YtifikcemcflgjaaGreatGM
import Derived.Test.YtifikcemcflgjaaGreatGY
import Derived.Test.YtifikcemcflgjaaGreatPick
import Derived.Test.YtifikcemcflgjaaGreatG4
import Derived.Test.YtifikcemcflgjaaGreatGA
namespace Go.Proofs.YtifikcemcflgjaaGreat
open Go.RowKit

theorem li_fl {X : Nat} (h : X ≤ 15) : fl ((X : Int) : Rat) ≤ 1 := by
 rw [fl_le, Rat.num_intCast, Rat.den_intCast]
 refine ⟨?_, by decide⟩
 rw [Int.natAbs_natCast]
 exact Nat.le_trans (ln_mono b16_two h) (by decide)
theorem li_num (X : Nat) : ((X : Int) : Rat).num = (X : Int) := Rat.num_intCast _
theorem li_pow {X : Nat} {n : Nat} : (((X : Int) : Rat) ^ n).num.natAbs = X ^ n ∧ (((X : Int) : Rat) ^ n).den = 1 := by
 rw [Rat.num_pow, Rat.den_pow, Rat.num_intCast, Rat.den_intCast, Int.natAbs_pow, Int.natAbs_natCast, Nat.one_pow]
 exact ⟨rfl, rfl⟩
theorem li_mono {X : Nat} (h2 : 2 ≤ X) {n : Nat} : ∀ i, i ≤ n → 256 < fl (((X : Int) : Rat) ^ i) → 256 < fl (((X : Int) : Rat) ^ n) := by
 intro i hi h
 unfold fl at h ⊢
 rw [li_pow.1, li_pow.2] at h ⊢
 have h3 := ln_mono b16_two (Nat.pow_le_pow_right (show 0 < X by omega) hi)
 omega
theorem li_nz {X : Nat} (h2 : 2 ≤ X) {n : Nat} : (((X : Int) : Rat) ^ n).num ≠ 0 := by
 intro h
 have h1 := (li_pow (X := X) (n := n)).1
 rw [h] at h1
 have := Nat.pow_pos (n := n) (show 0 < X by omega)
 omega
set_option linter.unusedSimpArgs false in
set_option maxRecDepth 100000 in
set_option maxHeartbeats 16000000 in
theorem flimits_walk {k0 : Int} {w : World} (hlt : 0 < w.heap.size) (hm : w.cell? ⟨0, 0, none⟩ = some (.int .i64 k0)) (z0 : Int) (_l0 : -9223372036854775808 ≤ z0) (_u0 : z0 ≤ 9223372036854775807) (z1 : Int) (_l1 : -9223372036854775808 ≤ z1) (_u1 : z1 ≤ 9223372036854775807) (z2 : Int) (l2 : 0 ≤ z2) (_u2 : z2 ≤ 255) (z3 : Int) (l3 : 0 ≤ z3) (_u3 : z3 ≤ 255) :
  Calls Tryz.prog 4 #[.int .i64 z0, .int .i64 z1, .int .u8 z2, .int .u8 z3] w (fun e w' => e = .returned (.bool true) ∧ Below w.heap.size w w') := by
 obtain ⟨x, hx0⟩ : ∃ k : Nat, z2 = (k : Int) := ⟨z2.toNat, by omega⟩
 subst hx0
 obtain ⟨y, hy0⟩ : ∃ k : Nat, z3 = (k : Int) := ⟨z3.toNat, by omega⟩
 subst hy0
 obtain ⟨X, hX⟩ : ∃ k : Nat, k = 2 + x % 14 := ⟨_, rfl⟩
 obtain ⟨Y, hY⟩ : ∃ k : Nat, k = 2 + y % 14 := ⟨_, rfl⟩
 have hX2 : 2 ≤ X := by omega
 have hX3 : X ≤ 15 := by omega
 have keyX : 2 + ((x : Nat) : Int) % 14 = ((X : Nat) : Int) := by omega
 have hY2 : 2 ≤ Y := by omega
 have hY3 : Y ≤ 15 := by omega
 have keyY : 2 + ((y : Nat) : Int) % 14 = ((Y : Nat) : Int) := by omega
 have HhX := Lib.hid hX
 clear hX
 have HhY := Lib.hid hY
 clear hY
 have HkeyX := Lib.hid keyX
 clear keyX
 have HkeyY := Lib.hid keyY
 clear keyY
 have hE := (Env.start w).at_ hlt hm
 go_enter Tryz.func4, Tryz.ntmps4
 go_upto_region 1 with (fail)
 go_wp2_with fail
 refine (pick_any z0 1100 _ (by decide) (by decide)).mono ?_
 rintro e wp ⟨⟨pk1, rfl, pk1a, pk1b⟩, rfl⟩
 obtain ⟨N, hN⟩ : ∃ k : Nat, 1 + pk1 = (k : Int) := ⟨(1 + pk1).toNat, by omega⟩
 have hN1 : 1 ≤ N := by omega
 have hN2 : N ≤ 1100 := by omega
 have wN : IntKind.i64.wrap (1 + pk1) = 1 + pk1 := by rw [IntKind.wrap_i64]; omega
 have HN := Lib.hid hN
 clear hN pk1a pk1b
 go_wp2_with fail
 refine (pick_any z1 1100 _ (by decide) (by decide)).mono ?_
 rintro e wp ⟨⟨pk2, rfl, pk2a, pk2b⟩, rfl⟩
 obtain ⟨M, hM⟩ : ∃ k : Nat, 1 + pk2 = (k : Int) := ⟨(1 + pk2).toNat, by omega⟩
 have hM1 : 1 ≤ M := by omega
 have hM2 : M ≤ 1100 := by omega
 have wM : IntKind.i64.wrap (1 + pk2) = 1 + pk2 := by rw [IntKind.wrap_i64]; omega
 have HM := Lib.hid hM
 clear hM pk2a pk2b
 go_upto_region 2 with (fail)
 rw [HN.out, HM.out]
 clear wN wM
 have lX : fl ((X : Int) : Rat) ≤ 1 := li_fl hX3
 have lY : fl ((Y : Int) : Rat) ≤ 1 := li_fl hY3
 have HlX := Lib.hid lX
 clear lX
 have HlY := Lib.hid lY
 clear lY
 go_wp2_with fail
 rw [HkeyX.out]
 have hc := law_quick (X : Int) 1 w (by omega) (by omega) (by decide) (by decide) (by decide)
 rw [int_low] at hc
 refine (hc).mono ?_
 rintro e w1 ⟨sq1, Aq1, nq1, cq1, tq1, Bq1, mq1, dq1, rfl, hq1, hb⟩
 replace hE := hE.step hb
 clear hb
 replace hE := hE.fv hq1
 clear hq1
 clear hc
 go_wp2_with fail
 have hc := rpow_any (ca := cq1) (da := dq1) (hE.here.2) (Nat.le_trans HlX.out (by decide)) (by rw [li_num]; omega) N (by omega) (by omega) (li_mono hX2)
 refine hc.mono ?_
 clear hc
 rintro e w2 (⟨lp, sp, Ap, np, cp, tp, Bp, mp, dp, rfl, hp, hb⟩ | ⟨lp, rfl, hb⟩)
 ·
  replace hE := hE.step hb
  clear hb
  replace hE := hE.fv hp
  clear hp
  replace hE := (((Env.again hE.bel).atI hE.here.1.1.2).fv hE.here.2)
  go_upto_region 3 with (fail)
  obtain ⟨g3, hg3⟩ : ∃ g3, g3 = w2.heap.size := ⟨_, rfl⟩
  have hwg3 : w.heap.size ≤ g3 := by rw [hg3]; exact hE.bel.size
  replace hE := hE.blk 26 #[.bool sp, .slice Ap np cp, .bool tp, .slice Bp mp dp] (g := g3) hg3.symm
  generalize w2.alloc (.cells #[.bool sp, .slice Ap np cp, .bool tp, .slice Bp mp dp] 26) = W3 at hE ⊢
  rw [← hg3]
  clear hg3
  go_wp2_with fail
  rw [HkeyY.out]
  have hc := law_quick (Y : Int) 1 W3 (by omega) (by omega) (by decide) (by decide) (by decide)
  rw [int_low] at hc
  refine (hc).mono ?_
  rintro e w4 ⟨sq2, Aq2, nq2, cq2, tq2, Bq2, mq2, dq2, rfl, hq2, hb⟩
  replace hE := hE.step hb
  clear hb
  replace hE := hE.fv hq2
  clear hq2
  clear hc
  go_wp2_with fail
  have hc := rpow_any (ca := cq2) (da := dq2) (hE.here.2) (Nat.le_trans HlY.out (by decide)) (by rw [li_num]; omega) M (by omega) (by omega) (li_mono hY2)
  refine hc.mono ?_
  clear hc
  rintro e w5 (⟨lq, sq, Aq, nq, cq, tq, Bq, mq, dq, rfl, hq, hb⟩ | ⟨lq, rfl, hb⟩)
  ·
   replace hE := hE.step hb
   clear hb
   replace hE := hE.fv hq
   clear hq
   replace hE := (((((Env.again hE.bel).atI hE.here.1.1.1.1.2).fv hE.here.1.1.1.2).blkI hE.here.1.1.2).fv hE.here.2)
   go_upto_region 4 with (fail)
   obtain ⟨g6, hg6⟩ : ∃ g6, g6 = w5.heap.size := ⟨_, rfl⟩
   have hwg6 : w.heap.size ≤ g6 := by rw [hg6]; exact hE.bel.size
   have hl6_2 : g3 < g6 := by rw [hg6]; exact (hE.here.1.2).lt
   replace hE := hE.blk 26 #[.bool sq, .slice Aq nq cq, .bool tq, .slice Bq mq dq] (g := g6) hg6.symm
   generalize w5.alloc (.cells #[.bool sq, .slice Aq nq cq, .bool tq, .slice Bq mq dq] 26) = W6 at hE ⊢
   rw [← hg6]
   clear hg6
   have nP : (((X : Int) : Rat) ^ N).num ≠ 0 := li_nz hX2
   have nQ : (((Y : Int) : Rat) ^ M).num ≠ 0 := li_nz hY2
   have HnP := Lib.hid nP
   clear nP
   have HnQ := Lib.hid nQ
   clear nQ
   have la5 : fl ((((X : Int) : Rat) ^ N) / (((Y : Int) : Rat) ^ M)) ≤ 512 := fl_over lp lq HnQ.out
   have lb5 : fl ((((Y : Int) : Rat) ^ M) / (((X : Int) : Rat) ^ N)) ≤ 512 := fl_over lq lp HnP.out
   have lt5 : fl (Rat.divInt 1 3) ≤ 1 := by rw [fl_le]; exact ⟨by decide +kernel, by decide +kernel⟩
   have Hla5 := Lib.hid la5
   clear la5
   have Hlb5 := Lib.hid lb5
   clear lb5
   have Hlt5 := Lib.hid lt5
   clear lt5
   go_upto_region 8 with (fail)
   replace hE := hE.drew
   refine wp_region_held_drew (S := fun w' => w'.cell? ⟨g3, 0, none⟩ = some (.bool sp) ∧ w'.cell? ⟨g3, 1, none⟩ = some (.slice Ap np cp) ∧ w'.cell? ⟨g3, 2, none⟩ = some (.bool tp) ∧ w'.cell? ⟨g3, 3, none⟩ = some (.slice Bp mp dp) ∧ w'.cell? ⟨g6, 0, none⟩ = some (.bool sq) ∧ w'.cell? ⟨g6, 1, none⟩ = some (.slice Aq nq cq) ∧ w'.cell? ⟨g6, 2, none⟩ = some (.bool tq) ∧ w'.cell? ⟨g6, 3, none⟩ = some (.slice Bq mq dq)) (by kernel_rfl) (hE.here.1.1.2.j4 hE.here.2.c4) (fun hHeld => ?_)
   generalize W6.drew = wd at *
   refine tk 0 ?_
   try simp only [PL]
   refine tk 1 ?_
   try simp only [PL]
   refine tk 3 ?_
   try simp only [PL]
   refine tk 4 ?_
   try simp only [PL]
   refine tk 6 ?_
   try simp only [PL]
   refine tk 7 ?_
   try simp only [PL]
   refine r1 2 (fun K hK => ?_)
   go_simp
   refine (rover_v (ca := cp) (da := dp) (cb := cq) (db := dq) (hE.here.1.1.1.2) (hE.here.1.2) (Nat.le_trans lp (by decide)) (Nat.le_trans lq (by decide)) HnQ.out).mono ?_
   rintro e w7 ⟨sa, Aa, na, ca, ta, Ba, ma, da, rfl, ha, hb⟩
   replace hE := hE.step hb
   clear hb
   replace hE := hE.fv ha
   clear ha
   go_wp2_with fail
   refine hK.out _ _ (hE.here.1.1.1.2.j4 hE.here.1.2.c4) (fun hHeld => ?_)
   clear hK K
   try simp only [PL]
   refine r1 5 (fun K hK => ?_)
   go_simp
   refine (rover_v (ca := cq) (da := dq) (cb := cp) (db := dp) (hE.here.1.1.2) (hE.here.1.1.1.1.2) (Nat.le_trans lq (by decide)) (Nat.le_trans lp (by decide)) HnP.out).mono ?_
   rintro e w8 ⟨sb, Ab, nb, cb, tb, Bb, mb, db, rfl, hb, hb⟩
   replace hE := hE.step hb
   clear hb
   replace hE := hE.fv hb
   clear hb
   go_wp2_with fail
   refine hK.out _ _ (hE.here.1.1.1.1.2.j4 hE.here.1.1.2.c4) (fun hHeld => ?_)
   clear hK K
   try simp only [PL]
   refine r1 8 (fun K hK => ?_)
   go_simp
   refine (rover_v (ca := cp) (da := dp) (cb := cq) (db := dq) (hE.here.1.1.1.1.1.2) (hE.here.1.1.1.2) (Nat.le_trans lp (by decide)) (Nat.le_trans lq (by decide)) HnQ.out).mono ?_
   rintro e w9 ⟨sc, Ac, nc, cc, tc, Bc, mc, dc, rfl, hc, hb⟩
   replace hE := hE.step hb
   clear hb
   replace hE := hE.fv hc
   clear hc
   go_wp2_with fail
   refine hK.out _ _ (hE.here.1.1.1.1.1.2.j4 hE.here.1.1.1.2.c4) (fun hHeld => ?_)
   clear hK K
   try simp only [PL]
   refine r1 9 (fun K hK => ?_)
   go_simp
   refine (law_quick 1 3 w9 (by decide) (by decide) (by decide) (by decide) (by decide)).mono ?_
   rintro e w10 ⟨sd, Ad, nd, cd, td, Bd, md, dd, rfl, hd, hb⟩
   replace hE := hE.step hb
   clear hb
   replace hE := hE.fv hd
   clear hd
   go_wp2_with fail
   refine hK.out _ _ (hE.here.1.1.1.1.1.1.2.j4 hE.here.1.1.1.1.2.c4) (fun hHeld => ?_)
   clear hK K
   try simp only [PL]
   refine r1 10 (fun K hK => ?_)
   go_simp
   refine (rplus_v (ca := cc) (da := dc) (cb := cd) (db := dd) (hE.here.1.2) (hE.here.2) (Nat.le_trans Hla5.out (by decide)) (Nat.le_trans Hlt5.out (by decide))).mono ?_
   rintro e w11 ⟨ss, As, ns, cs, ts, Bs, ms, ds, rfl, hs, hb⟩
   replace hE := hE.step hb
   clear hb
   replace hE := hE.fv hs
   clear hs
   go_wp2_with fail
   refine hK.out _ _ (hE.here.1.1.1.1.1.1.1.2.j4 hE.here.1.1.1.1.1.2.c4) (fun hHeld => ?_)
   clear hK K
   try simp only [PL]
   refine r1 11 (fun K hK => ?_)
   go_simp
   obtain ⟨g12, hg12⟩ : ∃ g12, g12 = w11.heap.size := ⟨_, rfl⟩
   have hwg12 : w.heap.size ≤ g12 := by rw [hg12]; exact hE.bel.size
   have hl12_2 : g3 < g12 := by rw [hg12]; exact (hE.here.1.1.1.1.1.1.1.2).lt
   have hl12_4 : g6 < g12 := by rw [hg12]; exact (hE.here.1.1.1.1.1.2).lt
   replace hE := hE.blk 26 #[.bool sa, .slice Aa na ca, .bool ta, .slice Ba ma da, .bool sb, .slice Ab nb cb, .bool tb, .slice Bb mb db, .bool ss, .slice As ns cs, .bool ts, .slice Bs ms ds] (g := g12) hg12.symm
   generalize w11.alloc (.cells #[.bool sa, .slice Aa na ca, .bool ta, .slice Ba ma da, .bool sb, .slice Ab nb cb, .bool tb, .slice Bb mb db, .bool ss, .slice As ns cs, .bool ts, .slice Bs ms ds] 26) = W12 at hE ⊢
   rw [← hg12]
   clear hg12
   refine hK.out _ _ (hE.here.1.1.1.1.1.1.1.1.2.j4 hE.here.1.1.1.1.1.1.2.c4) (fun hHeld => ?_)
   clear hK K
   try simp only [PL]
   refine tk 12 ?_
   try simp only [PL]
   refine wpAnyH_done (by kernel_rfl) ?_ _
   replace hE := ((((((Env.again hE.bel).atI hE.here.1.1.1.1.1.1.1.1.1.1.2).fv hE.here.1.1.1.1.1.2).fv hE.here.1.1.1.1.2).fv hE.here.1.2).blkI hE.here.2)
   go_upto_region 10 with (fail)
   go_wp2_with fail
   go_loopw [18] (fun x wr => ∃ i : Nat, i ≤ 3 ∧ x = .int .i64 (i : Int) ∧ Hid ((0 < i → fl ((((X : Int) : Rat) ^ N) / (((Y : Int) : Rat) ^ M)) ≤ 256) ∧ (1 < i → fl ((((Y : Int) : Rat) ^ M) / (((X : Int) : Rat) ^ N)) ≤ 256) ∧ (2 < i → fl ((((X : Int) : Rat) ^ N) / (((Y : Int) : Rat) ^ M) + Rat.divInt 1 3) ≤ 256)) ∧ Env w (fun V => (((((True ∧ At 0 0 (.int .i64 k0) V) ∧ FV V ((((X : Int) : Rat) ^ N) / (((Y : Int) : Rat) ^ M)) sa Aa na ta Ba ma) ∧ FV V ((((Y : Int) : Rat) ^ M) / (((X : Int) : Rat) ^ N)) sb Ab nb tb Bb mb) ∧ FV V ((((X : Int) : Rat) ^ N) / (((Y : Int) : Rat) ^ M) + Rat.divInt 1 3) ss As ns ts Bs ms) ∧ Blk 26 (g12) #[.bool sa, .slice Aa na ca, .bool ta, .slice Ba ma da, .bool sb, .slice Ab nb cb, .bool tb, .slice Bb mb db, .bool ss, .slice As ns cs, .bool ts, .slice Bs ms ds] V)) wr) (fun x _ => 3 - (intOf x).toNat)
   case atStart => exact ⟨0, Nat.zero_le _, rfl, Lib.hid ⟨fun h => absurd h (by decide), fun h => absurd h (by decide), fun h => absurd h (by decide)⟩, hE⟩
   case round =>
    clear hE
    obtain ⟨i, hi, rfl, HF, hE⟩ := hrel
    rcases (show i = 0 ∨ i = 1 ∨ i = 2 ∨ i = 3 by omega) with rfl | rfl | rfl | rfl
    ·
     have c0 : wr.cell? ⟨g12, 0, none⟩ = some (.bool sa) := (hE.here.2).cell 0
     have c1 : wr.cell? ⟨g12, 1, none⟩ = some (.slice Aa na ca) := (hE.here.2).cell 1
     have c2 : wr.cell? ⟨g12, 2, none⟩ = some (.bool ta) := (hE.here.2).cell 2
     have c3 : wr.cell? ⟨g12, 3, none⟩ = some (.slice Ba ma da) := (hE.here.2).cell 3
     go_wp2_with fail
     clear c0 c1 c2 c3
     by_cases hl : fl ((((X : Int) : Rat) ^ N) / (((Y : Int) : Rat) ^ M)) ≤ 256
     ·
      refine (rffits_v (c := ca) (d := da) (hE.here.1.1.1.2) true (decide_eq_true hl)).mono ?_
      rintro e w13 ⟨rfl, hb⟩
      replace hE := hE.step hb
      clear hb
      have HL := Lib.hid hl
      clear hl
      go_wp2_with fail
      go_roundw
      case rel => exact ⟨1, by omega, by go_num, Lib.hid ⟨fun _ => HL.out, fun h => absurd h (by decide), fun h => absurd h (by decide)⟩, ((((((Env.again hE.bel).atI (hE.here.1.1.1.1.2)).fv (hE.here.1.1.1.2)).fv (hE.here.1.1.2)).fv (hE.here.1.2)).blkI (hE.here.2))⟩
      case measure => (simp [intOf]) <;> omega
     ·
      refine (rffits_v (c := ca) (d := da) (hE.here.1.1.1.2) false (decide_eq_false hl)).mono ?_
      rintro e w14 ⟨rfl, hb⟩
      replace hE := hE.step hb
      clear hb
      clear hl
      go_wp2_with fail
      refine (awake2_t _ (hE.here.1.1.1.1.2).2 (hE.here.1.1.1.1.2).1).mono ?_
      rintro e w15 ⟨rfl, hb⟩
      replace hE := hE.step hb
      clear hb
      go_wp2_with fail
      go_ret
      exact ⟨rfl, hE.bel⟩
    ·
     have c0 : wr.cell? ⟨g12, 4, none⟩ = some (.bool sb) := (hE.here.2).cell 4
     have c1 : wr.cell? ⟨g12, 5, none⟩ = some (.slice Ab nb cb) := (hE.here.2).cell 5
     have c2 : wr.cell? ⟨g12, 6, none⟩ = some (.bool tb) := (hE.here.2).cell 6
     have c3 : wr.cell? ⟨g12, 7, none⟩ = some (.slice Bb mb db) := (hE.here.2).cell 7
     go_wp2_with fail
     clear c0 c1 c2 c3
     by_cases hl : fl ((((Y : Int) : Rat) ^ M) / (((X : Int) : Rat) ^ N)) ≤ 256
     ·
      refine (rffits_v (c := cb) (d := db) (hE.here.1.1.2) true (decide_eq_true hl)).mono ?_
      rintro e w16 ⟨rfl, hb⟩
      replace hE := hE.step hb
      clear hb
      have HL := Lib.hid hl
      clear hl
      go_wp2_with fail
      go_roundw
      case rel => exact ⟨2, by omega, by go_num, Lib.hid ⟨fun _ => HF.out.1 (by decide), fun _ => HL.out, fun h => absurd h (by decide)⟩, ((((((Env.again hE.bel).atI (hE.here.1.1.1.1.2)).fv (hE.here.1.1.1.2)).fv (hE.here.1.1.2)).fv (hE.here.1.2)).blkI (hE.here.2))⟩
      case measure => (simp [intOf]) <;> omega
     ·
      refine (rffits_v (c := cb) (d := db) (hE.here.1.1.2) false (decide_eq_false hl)).mono ?_
      rintro e w17 ⟨rfl, hb⟩
      replace hE := hE.step hb
      clear hb
      clear hl
      go_wp2_with fail
      refine (awake2_t _ (hE.here.1.1.1.1.2).2 (hE.here.1.1.1.1.2).1).mono ?_
      rintro e w18 ⟨rfl, hb⟩
      replace hE := hE.step hb
      clear hb
      go_wp2_with fail
      go_ret
      exact ⟨rfl, hE.bel⟩
    ·
     have c0 : wr.cell? ⟨g12, 8, none⟩ = some (.bool ss) := (hE.here.2).cell 8
     have c1 : wr.cell? ⟨g12, 9, none⟩ = some (.slice As ns cs) := (hE.here.2).cell 9
     have c2 : wr.cell? ⟨g12, 10, none⟩ = some (.bool ts) := (hE.here.2).cell 10
     have c3 : wr.cell? ⟨g12, 11, none⟩ = some (.slice Bs ms ds) := (hE.here.2).cell 11
     go_wp2_with fail
     clear c0 c1 c2 c3
     by_cases hl : fl ((((X : Int) : Rat) ^ N) / (((Y : Int) : Rat) ^ M) + Rat.divInt 1 3) ≤ 256
     ·
      refine (rffits_v (c := cs) (d := ds) (hE.here.1.2) true (decide_eq_true hl)).mono ?_
      rintro e w19 ⟨rfl, hb⟩
      replace hE := hE.step hb
      clear hb
      have HL := Lib.hid hl
      clear hl
      go_wp2_with fail
      go_roundw
      case rel => exact ⟨3, by omega, by go_num, Lib.hid ⟨fun _ => HF.out.1 (by decide), fun _ => HF.out.2.1 (by decide), fun _ => HL.out⟩, ((((((Env.again hE.bel).atI (hE.here.1.1.1.1.2)).fv (hE.here.1.1.1.2)).fv (hE.here.1.1.2)).fv (hE.here.1.2)).blkI (hE.here.2))⟩
      case measure => (simp [intOf]) <;> omega
     ·
      refine (rffits_v (c := cs) (d := ds) (hE.here.1.2) false (decide_eq_false hl)).mono ?_
      rintro e w20 ⟨rfl, hb⟩
      replace hE := hE.step hb
      clear hb
      clear hl
      go_wp2_with fail
      refine (awake2_t _ (hE.here.1.1.1.1.2).2 (hE.here.1.1.1.1.2).1).mono ?_
      rintro e w21 ⟨rfl, hb⟩
      replace hE := hE.step hb
      clear hb
      go_wp2_with fail
      go_ret
      exact ⟨rfl, hE.bel⟩
    ·
     have lf1 := HF.out.1 (by decide)
     have lf2 := HF.out.2.1 (by decide)
     have lf3 := HF.out.2.2 (by decide)
     have Hlf1 := Lib.hid lf1
     clear lf1
     have Hlf2 := Lib.hid lf2
     clear lf2
     have Hlf3 := Lib.hid lf3
     clear lf3
     clear HF
     go_wp2_with fail
     go_loopw [19] (fun x wr => ∃ i : Nat, 1 ≤ i ∧ i ≤ 3 ∧ x = .int .i64 (i : Int) ∧ Env w (fun V => (((((True ∧ At 0 0 (.int .i64 k0) V) ∧ FV V ((((X : Int) : Rat) ^ N) / (((Y : Int) : Rat) ^ M)) sa Aa na ta Ba ma) ∧ FV V ((((Y : Int) : Rat) ^ M) / (((X : Int) : Rat) ^ N)) sb Ab nb tb Bb mb) ∧ FV V ((((X : Int) : Rat) ^ N) / (((Y : Int) : Rat) ^ M) + Rat.divInt 1 3) ss As ns ts Bs ms) ∧ Blk 26 (g12) #[.bool sa, .slice Aa na ca, .bool ta, .slice Ba ma da, .bool sb, .slice Ab nb cb, .bool tb, .slice Bb mb db, .bool ss, .slice As ns cs, .bool ts, .slice Bs ms ds] V)) wr) (fun x _ => 3 - (intOf x).toNat)
     case atStart => exact ⟨1, by decide, by decide, rfl, hE⟩
     case round =>
      clear hE
      obtain ⟨i, hi1, hi, rfl, hE⟩ := hrel
      rcases (show i = 1 ∨ i = 2 ∨ i = 3 by omega) with rfl | rfl | rfl
      ·
       go_upto_region 17 with (fail)
       have hz : wr.cell? ⟨g12, 0, none⟩ = some (.bool sa) := (hE.here.2).cell 0
       replace hE := hE.at_ (hE.here.2).lt hz
       clear hz
       have hz : wr.cell? ⟨g12, 1, none⟩ = some (.slice Aa na ca) := (hE.here.1.2).cell 1
       replace hE := hE.at_ (hE.here.1.2).lt hz
       clear hz
       have hz : wr.cell? ⟨g12, 2, none⟩ = some (.bool ta) := (hE.here.1.1.2).cell 2
       replace hE := hE.at_ (hE.here.1.1.2).lt hz
       clear hz
       have hz : wr.cell? ⟨g12, 3, none⟩ = some (.slice Ba ma da) := (hE.here.1.1.1.2).cell 3
       replace hE := hE.at_ (hE.here.1.1.1.2).lt hz
       clear hz
       have hz : wr.cell? ⟨g12, 4, none⟩ = some (.bool sb) := (hE.here.1.1.1.1.2).cell 4
       replace hE := hE.at_ (hE.here.1.1.1.1.2).lt hz
       clear hz
       have hz : wr.cell? ⟨g12, 5, none⟩ = some (.slice Ab nb cb) := (hE.here.1.1.1.1.1.2).cell 5
       replace hE := hE.at_ (hE.here.1.1.1.1.1.2).lt hz
       clear hz
       have hz : wr.cell? ⟨g12, 6, none⟩ = some (.bool tb) := (hE.here.1.1.1.1.1.1.2).cell 6
       replace hE := hE.at_ (hE.here.1.1.1.1.1.1.2).lt hz
       clear hz
       have hz : wr.cell? ⟨g12, 7, none⟩ = some (.slice Bb mb db) := (hE.here.1.1.1.1.1.1.1.2).cell 7
       replace hE := hE.at_ (hE.here.1.1.1.1.1.1.1.2).lt hz
       clear hz
       go_cut [20, 21] from 128 to 135 (fun p0 p1 wx => ∃ G17_7 G17_8, p0 = .pointer (some ⟨G17_7, 0, none⟩) ∧ p1 = .pointer (some ⟨G17_8, 0, none⟩) ∧ Env w (fun V => (((((((((((((((True ∧ At 0 0 (.int .i64 k0) V) ∧ FV V ((((X : Int) : Rat) ^ N) / (((Y : Int) : Rat) ^ M)) sa Aa na ta Ba ma) ∧ FV V ((((Y : Int) : Rat) ^ M) / (((X : Int) : Rat) ^ N)) sb Ab nb tb Bb mb) ∧ FV V ((((X : Int) : Rat) ^ N) / (((Y : Int) : Rat) ^ M) + Rat.divInt 1 3) ss As ns ts Bs ms) ∧ Blk 26 (g12) #[.bool sa, .slice Aa na ca, .bool ta, .slice Ba ma da, .bool sb, .slice Ab nb cb, .bool tb, .slice Bb mb db, .bool ss, .slice As ns cs, .bool ts, .slice Bs ms ds] V) ∧ At g12 0 (.bool sa) V) ∧ At g12 1 (.slice Aa na ca) V) ∧ At g12 2 (.bool ta) V) ∧ At g12 3 (.slice Ba ma da) V) ∧ At g12 4 (.bool sb) V) ∧ At g12 5 (.slice Ab nb cb) V) ∧ At g12 6 (.bool tb) V) ∧ At g12 7 (.slice Bb mb db) V) ∧ Blk 26 (G17_7) #[.bool sa, .slice Aa na ca, .bool ta, .slice Ba ma da] V) ∧ Blk 26 (G17_8) #[.bool sb, .slice Ab nb cb, .bool tb, .slice Bb mb db] V)) wx)
       case first =>
        replace hE := hE.drew
        refine wp_region_held_drew (S := fun w' => w'.cell? ⟨g12, 0, none⟩ = some (.bool sa) ∧ w'.cell? ⟨g12, 1, none⟩ = some (.slice Aa na ca) ∧ w'.cell? ⟨g12, 2, none⟩ = some (.bool ta) ∧ w'.cell? ⟨g12, 3, none⟩ = some (.slice Ba ma da) ∧ w'.cell? ⟨g12, 4, none⟩ = some (.bool sb) ∧ w'.cell? ⟨g12, 5, none⟩ = some (.slice Ab nb cb) ∧ w'.cell? ⟨g12, 6, none⟩ = some (.bool tb) ∧ w'.cell? ⟨g12, 7, none⟩ = some (.slice Bb mb db)) (by kernel_rfl) (⟨(hE.here.1.1.1.1.1.1.1.2).2, (hE.here.1.1.1.1.1.1.2).2, (hE.here.1.1.1.1.1.2).2, (hE.here.1.1.1.1.2).2, (hE.here.1.1.1.2).2, (hE.here.1.1.2).2, (hE.here.1.2).2, (hE.here.2).2⟩) (fun hHeld => ?_)
        generalize wr.drew = wd at *
        refine tk 0 ?_
        try simp only [PL]
        refine tk 1 ?_
        try simp only [PL]
        refine tk 2 ?_
        try simp only [PL]
        refine tk 3 ?_
        try simp only [PL]
        refine tk 4 ?_
        try simp only [PL]
        refine tk 5 ?_
        try simp only [PL]
        refine tk 6 ?_
        try simp only [PL]
        refine wpAnyH_ready (rs := [7, 8]) (by kernel_rfl) (by simp) (AllReadyH.cons rfl (fun K hK => ?_) (AllReadyH.cons rfl (fun K hK => ?_) (AllReadyH.nil)))
        ·
         go_simp
         obtain ⟨g22, hg22⟩ : ∃ g22, g22 = wd.heap.size := ⟨_, rfl⟩
         have hwg22 : w.heap.size ≤ g22 := by rw [hg22]; exact hE.bel.size
         have hl22_4 : g12 < g22 := by rw [hg22]; exact (hE.here.1.1.1.1.1.1.1.1.2).lt
         replace hE := hE.blk 26 #[.bool false, .slice none 0 0, .bool false, .slice none 0 0] (g := g22) hg22.symm
         generalize wd.alloc (.cells #[.bool false, .slice none 0 0, .bool false, .slice none 0 0] 26) = W22 at hE ⊢
         rw [← hg22]
         clear hg22
         refine hK.out _ _ (⟨(hE.here.1.1.1.1.1.1.1.1.2).2, (hE.here.1.1.1.1.1.1.1.2).2, (hE.here.1.1.1.1.1.1.2).2, (hE.here.1.1.1.1.1.2).2, (hE.here.1.1.1.1.2).2, (hE.here.1.1.1.2).2, (hE.here.1.1.2).2, (hE.here.1.2).2⟩) (fun hHeld => ?_)
         clear hK K
         try simp only [PL]
         refine r1 8 (fun K hK => ?_)
         go_simp
         obtain ⟨g23, hg23⟩ : ∃ g23, g23 = W22.heap.size := ⟨_, rfl⟩
         have hwg23 : w.heap.size ≤ g23 := by rw [hg23]; exact hE.bel.size
         have hl23_4 : g12 < g23 := by rw [hg23]; exact (hE.here.1.1.1.1.1.1.1.1.1.2).lt
         have hl23_13 : g22 < g23 := by rw [hg23]; exact (hE.here.2).lt
         replace hE := hE.blk 26 #[.bool false, .slice none 0 0, .bool false, .slice none 0 0] (g := g23) hg23.symm
         generalize W22.alloc (.cells #[.bool false, .slice none 0 0, .bool false, .slice none 0 0] 26) = W23 at hE ⊢
         rw [← hg23]
         clear hg23
         refine hK.out _ _ (⟨(hE.here.1.1.1.1.1.1.1.1.1.2).2, (hE.here.1.1.1.1.1.1.1.1.2).2, (hE.here.1.1.1.1.1.1.1.2).2, (hE.here.1.1.1.1.1.1.2).2, (hE.here.1.1.1.1.1.2).2, (hE.here.1.1.1.1.2).2, (hE.here.1.1.1.2).2, (hE.here.1.1.2).2⟩) (fun hHeld => ?_)
         clear hK K
         try simp only [PL]
         refine r1 9 (fun K hK => ?_)
         have hgl24 : w.heap.size ≤ g22 := by omega
         obtain ⟨x24_0, x24_1, x24_2, x24_3⟩ := (hE.here.1.2).c4
         obtain ⟨f24_0, f24_1, f24_2, f24_3⟩ := hE.here.1.2.f4
         replace hE := ((((((((((((((((Env.again (bel4 hE.bel hgl24 (.bool sa) (.slice Aa na ca) (.bool ta) (.slice Ba ma da))).atI ((hE.here.1.1.1.1.1.1.1.1.1.1.1.1.1.1.2).far4 (R := g22) (by first | omega | exact At.apart (hE.here.1.1.1.1.1.1.1.1.1.1.1.1.1.1.2) (hE.here.1.2) rfl) (.bool sa) (.slice Aa na ca) (.bool ta) (.slice Ba ma da))).fv ((hE.here.1.1.1.1.1.1.1.1.1.1.1.1.1.2).sep4 hE.here.1.2 rfl (.bool sa) (.slice Aa na ca) (.bool ta) (.slice Ba ma da) rfl rfl rfl)).fv ((hE.here.1.1.1.1.1.1.1.1.1.1.1.1.2).sep4 hE.here.1.2 rfl (.bool sa) (.slice Aa na ca) (.bool ta) (.slice Ba ma da) rfl rfl rfl)).fv ((hE.here.1.1.1.1.1.1.1.1.1.1.1.2).sep4 hE.here.1.2 rfl (.bool sa) (.slice Aa na ca) (.bool ta) (.slice Ba ma da) rfl rfl rfl)).blkI ((hE.here.1.1.1.1.1.1.1.1.1.1.2).far4 (R := g22) (by omega) (.bool sa) (.slice Aa na ca) (.bool ta) (.slice Ba ma da))).atI ((hE.here.1.1.1.1.1.1.1.1.1.2).far4 (R := g22) (by first | omega | exact At.apart (hE.here.1.1.1.1.1.1.1.1.1.2) (hE.here.1.2) rfl) (.bool sa) (.slice Aa na ca) (.bool ta) (.slice Ba ma da))).atI ((hE.here.1.1.1.1.1.1.1.1.2).far4 (R := g22) (by first | omega | exact At.apart (hE.here.1.1.1.1.1.1.1.1.2) (hE.here.1.2) rfl) (.bool sa) (.slice Aa na ca) (.bool ta) (.slice Ba ma da))).atI ((hE.here.1.1.1.1.1.1.1.2).far4 (R := g22) (by first | omega | exact At.apart (hE.here.1.1.1.1.1.1.1.2) (hE.here.1.2) rfl) (.bool sa) (.slice Aa na ca) (.bool ta) (.slice Ba ma da))).atI ((hE.here.1.1.1.1.1.1.2).far4 (R := g22) (by first | omega | exact At.apart (hE.here.1.1.1.1.1.1.2) (hE.here.1.2) rfl) (.bool sa) (.slice Aa na ca) (.bool ta) (.slice Ba ma da))).atI ((hE.here.1.1.1.1.1.2).far4 (R := g22) (by first | omega | exact At.apart (hE.here.1.1.1.1.1.2) (hE.here.1.2) rfl) (.bool sa) (.slice Aa na ca) (.bool ta) (.slice Ba ma da))).atI ((hE.here.1.1.1.1.2).far4 (R := g22) (by first | omega | exact At.apart (hE.here.1.1.1.1.2) (hE.here.1.2) rfl) (.bool sa) (.slice Aa na ca) (.bool ta) (.slice Ba ma da))).atI ((hE.here.1.1.1.2).far4 (R := g22) (by first | omega | exact At.apart (hE.here.1.1.1.2) (hE.here.1.2) rfl) (.bool sa) (.slice Aa na ca) (.bool ta) (.slice Ba ma da))).atI ((hE.here.1.1.2).far4 (R := g22) (by first | omega | exact At.apart (hE.here.1.1.2) (hE.here.1.2) rfl) (.bool sa) (.slice Aa na ca) (.bool ta) (.slice Ba ma da))).blkI ((hE.here.1.2).s4 (.bool sa) (.slice Aa na ca) (.bool ta) (.slice Ba ma da))).blkI ((hE.here.2).far4 (R := g22) (by omega) (.bool sa) (.slice Aa na ca) (.bool ta) (.slice Ba ma da)))
         go_simp
         clear x24_0 x24_1 x24_2 x24_3 f24_0 f24_1 f24_2 f24_3 hgl24
         generalize ((((W23.setCell ⟨g22, 0, none⟩ (.bool sa)).setCell ⟨g22, 1, none⟩ (.slice Aa na ca)).setCell ⟨g22, 2, none⟩ (.bool ta)).setCell ⟨g22, 3, none⟩ (.slice Ba ma da)) = W24 at hE ⊢
         refine hK.out _ _ (⟨(hE.here.1.1.1.1.1.1.1.1.1.2).2, (hE.here.1.1.1.1.1.1.1.1.2).2, (hE.here.1.1.1.1.1.1.1.2).2, (hE.here.1.1.1.1.1.1.2).2, (hE.here.1.1.1.1.1.2).2, (hE.here.1.1.1.1.2).2, (hE.here.1.1.1.2).2, (hE.here.1.1.2).2⟩) (fun hHeld => ?_)
         clear hK K
         try simp only [PL]
         refine r1 10 (fun K hK => ?_)
         have hgl25 : w.heap.size ≤ g23 := by omega
         obtain ⟨x25_0, x25_1, x25_2, x25_3⟩ := (hE.here.2).c4
         obtain ⟨f25_0, f25_1, f25_2, f25_3⟩ := hE.here.2.f4
         replace hE := ((((((((((((((((Env.again (bel4 hE.bel hgl25 (.bool sb) (.slice Ab nb cb) (.bool tb) (.slice Bb mb db))).atI ((hE.here.1.1.1.1.1.1.1.1.1.1.1.1.1.1.2).far4 (R := g23) (by first | omega | exact At.apart (hE.here.1.1.1.1.1.1.1.1.1.1.1.1.1.1.2) (hE.here.2) rfl) (.bool sb) (.slice Ab nb cb) (.bool tb) (.slice Bb mb db))).fv ((hE.here.1.1.1.1.1.1.1.1.1.1.1.1.1.2).sep4 hE.here.2 rfl (.bool sb) (.slice Ab nb cb) (.bool tb) (.slice Bb mb db) rfl rfl rfl)).fv ((hE.here.1.1.1.1.1.1.1.1.1.1.1.1.2).sep4 hE.here.2 rfl (.bool sb) (.slice Ab nb cb) (.bool tb) (.slice Bb mb db) rfl rfl rfl)).fv ((hE.here.1.1.1.1.1.1.1.1.1.1.1.2).sep4 hE.here.2 rfl (.bool sb) (.slice Ab nb cb) (.bool tb) (.slice Bb mb db) rfl rfl rfl)).blkI ((hE.here.1.1.1.1.1.1.1.1.1.1.2).far4 (R := g23) (by omega) (.bool sb) (.slice Ab nb cb) (.bool tb) (.slice Bb mb db))).atI ((hE.here.1.1.1.1.1.1.1.1.1.2).far4 (R := g23) (by first | omega | exact At.apart (hE.here.1.1.1.1.1.1.1.1.1.2) (hE.here.2) rfl) (.bool sb) (.slice Ab nb cb) (.bool tb) (.slice Bb mb db))).atI ((hE.here.1.1.1.1.1.1.1.1.2).far4 (R := g23) (by first | omega | exact At.apart (hE.here.1.1.1.1.1.1.1.1.2) (hE.here.2) rfl) (.bool sb) (.slice Ab nb cb) (.bool tb) (.slice Bb mb db))).atI ((hE.here.1.1.1.1.1.1.1.2).far4 (R := g23) (by first | omega | exact At.apart (hE.here.1.1.1.1.1.1.1.2) (hE.here.2) rfl) (.bool sb) (.slice Ab nb cb) (.bool tb) (.slice Bb mb db))).atI ((hE.here.1.1.1.1.1.1.2).far4 (R := g23) (by first | omega | exact At.apart (hE.here.1.1.1.1.1.1.2) (hE.here.2) rfl) (.bool sb) (.slice Ab nb cb) (.bool tb) (.slice Bb mb db))).atI ((hE.here.1.1.1.1.1.2).far4 (R := g23) (by first | omega | exact At.apart (hE.here.1.1.1.1.1.2) (hE.here.2) rfl) (.bool sb) (.slice Ab nb cb) (.bool tb) (.slice Bb mb db))).atI ((hE.here.1.1.1.1.2).far4 (R := g23) (by first | omega | exact At.apart (hE.here.1.1.1.1.2) (hE.here.2) rfl) (.bool sb) (.slice Ab nb cb) (.bool tb) (.slice Bb mb db))).atI ((hE.here.1.1.1.2).far4 (R := g23) (by first | omega | exact At.apart (hE.here.1.1.1.2) (hE.here.2) rfl) (.bool sb) (.slice Ab nb cb) (.bool tb) (.slice Bb mb db))).atI ((hE.here.1.1.2).far4 (R := g23) (by first | omega | exact At.apart (hE.here.1.1.2) (hE.here.2) rfl) (.bool sb) (.slice Ab nb cb) (.bool tb) (.slice Bb mb db))).blkI ((hE.here.1.2).far4 (R := g23) (by omega) (.bool sb) (.slice Ab nb cb) (.bool tb) (.slice Bb mb db))).blkI ((hE.here.2).s4 (.bool sb) (.slice Ab nb cb) (.bool tb) (.slice Bb mb db)))
         go_simp
         clear x25_0 x25_1 x25_2 x25_3 f25_0 f25_1 f25_2 f25_3 hgl25
         generalize ((((W24.setCell ⟨g23, 0, none⟩ (.bool sb)).setCell ⟨g23, 1, none⟩ (.slice Ab nb cb)).setCell ⟨g23, 2, none⟩ (.bool tb)).setCell ⟨g23, 3, none⟩ (.slice Bb mb db)) = W25 at hE ⊢
         refine hK.out _ _ (⟨(hE.here.1.1.1.1.1.1.1.1.1.2).2, (hE.here.1.1.1.1.1.1.1.1.2).2, (hE.here.1.1.1.1.1.1.1.2).2, (hE.here.1.1.1.1.1.1.2).2, (hE.here.1.1.1.1.1.2).2, (hE.here.1.1.1.1.2).2, (hE.here.1.1.1.2).2, (hE.here.1.1.2).2⟩) (fun hHeld => ?_)
         clear hK K
         try simp only [PL]
         refine wpAnyH_done (by kernel_rfl) ?_ _
         go_wp2_with fail
         go_meet
         exact ⟨g22, g23, rfl, rfl, ((((((((((((((((Env.again hE.bel).atI (hE.here.1.1.1.1.1.1.1.1.1.1.1.1.1.1.2)).fv (hE.here.1.1.1.1.1.1.1.1.1.1.1.1.1.2)).fv (hE.here.1.1.1.1.1.1.1.1.1.1.1.1.2)).fv (hE.here.1.1.1.1.1.1.1.1.1.1.1.2)).blkI (hE.here.1.1.1.1.1.1.1.1.1.1.2)).atI (hE.here.1.1.1.1.1.1.1.1.1.2)).atI (hE.here.1.1.1.1.1.1.1.1.2)).atI (hE.here.1.1.1.1.1.1.1.2)).atI (hE.here.1.1.1.1.1.1.2)).atI (hE.here.1.1.1.1.1.2)).atI (hE.here.1.1.1.1.2)).atI (hE.here.1.1.1.2)).atI (hE.here.1.1.2)).blkI (hE.here.1.2)).blkI (hE.here.2))⟩
        ·
         go_simp
         obtain ⟨g26, hg26⟩ : ∃ g26, g26 = wd.heap.size := ⟨_, rfl⟩
         have hwg26 : w.heap.size ≤ g26 := by rw [hg26]; exact hE.bel.size
         have hl26_4 : g12 < g26 := by rw [hg26]; exact (hE.here.1.1.1.1.1.1.1.1.2).lt
         replace hE := hE.blk 26 #[.bool false, .slice none 0 0, .bool false, .slice none 0 0] (g := g26) hg26.symm
         generalize wd.alloc (.cells #[.bool false, .slice none 0 0, .bool false, .slice none 0 0] 26) = W26 at hE ⊢
         rw [← hg26]
         clear hg26
         refine hK.out _ _ (⟨(hE.here.1.1.1.1.1.1.1.1.2).2, (hE.here.1.1.1.1.1.1.1.2).2, (hE.here.1.1.1.1.1.1.2).2, (hE.here.1.1.1.1.1.2).2, (hE.here.1.1.1.1.2).2, (hE.here.1.1.1.2).2, (hE.here.1.1.2).2, (hE.here.1.2).2⟩) (fun hHeld => ?_)
         clear hK K
         try simp only [PL]
         refine r1 7 (fun K hK => ?_)
         go_simp
         obtain ⟨g27, hg27⟩ : ∃ g27, g27 = W26.heap.size := ⟨_, rfl⟩
         have hwg27 : w.heap.size ≤ g27 := by rw [hg27]; exact hE.bel.size
         have hl27_4 : g12 < g27 := by rw [hg27]; exact (hE.here.1.1.1.1.1.1.1.1.1.2).lt
         have hl27_13 : g26 < g27 := by rw [hg27]; exact (hE.here.2).lt
         replace hE := hE.blk 26 #[.bool false, .slice none 0 0, .bool false, .slice none 0 0] (g := g27) hg27.symm
         generalize W26.alloc (.cells #[.bool false, .slice none 0 0, .bool false, .slice none 0 0] 26) = W27 at hE ⊢
         rw [← hg27]
         clear hg27
         refine hK.out _ _ (⟨(hE.here.1.1.1.1.1.1.1.1.1.2).2, (hE.here.1.1.1.1.1.1.1.1.2).2, (hE.here.1.1.1.1.1.1.1.2).2, (hE.here.1.1.1.1.1.1.2).2, (hE.here.1.1.1.1.1.2).2, (hE.here.1.1.1.1.2).2, (hE.here.1.1.1.2).2, (hE.here.1.1.2).2⟩) (fun hHeld => ?_)
         clear hK K
         try simp only [PL]
         refine r1 9 (fun K hK => ?_)
         have hgl28 : w.heap.size ≤ g27 := by omega
         obtain ⟨x28_0, x28_1, x28_2, x28_3⟩ := (hE.here.2).c4
         obtain ⟨f28_0, f28_1, f28_2, f28_3⟩ := hE.here.2.f4
         replace hE := ((((((((((((((((Env.again (bel4 hE.bel hgl28 (.bool sa) (.slice Aa na ca) (.bool ta) (.slice Ba ma da))).atI ((hE.here.1.1.1.1.1.1.1.1.1.1.1.1.1.1.2).far4 (R := g27) (by first | omega | exact At.apart (hE.here.1.1.1.1.1.1.1.1.1.1.1.1.1.1.2) (hE.here.2) rfl) (.bool sa) (.slice Aa na ca) (.bool ta) (.slice Ba ma da))).fv ((hE.here.1.1.1.1.1.1.1.1.1.1.1.1.1.2).sep4 hE.here.2 rfl (.bool sa) (.slice Aa na ca) (.bool ta) (.slice Ba ma da) rfl rfl rfl)).fv ((hE.here.1.1.1.1.1.1.1.1.1.1.1.1.2).sep4 hE.here.2 rfl (.bool sa) (.slice Aa na ca) (.bool ta) (.slice Ba ma da) rfl rfl rfl)).fv ((hE.here.1.1.1.1.1.1.1.1.1.1.1.2).sep4 hE.here.2 rfl (.bool sa) (.slice Aa na ca) (.bool ta) (.slice Ba ma da) rfl rfl rfl)).blkI ((hE.here.1.1.1.1.1.1.1.1.1.1.2).far4 (R := g27) (by omega) (.bool sa) (.slice Aa na ca) (.bool ta) (.slice Ba ma da))).atI ((hE.here.1.1.1.1.1.1.1.1.1.2).far4 (R := g27) (by first | omega | exact At.apart (hE.here.1.1.1.1.1.1.1.1.1.2) (hE.here.2) rfl) (.bool sa) (.slice Aa na ca) (.bool ta) (.slice Ba ma da))).atI ((hE.here.1.1.1.1.1.1.1.1.2).far4 (R := g27) (by first | omega | exact At.apart (hE.here.1.1.1.1.1.1.1.1.2) (hE.here.2) rfl) (.bool sa) (.slice Aa na ca) (.bool ta) (.slice Ba ma da))).atI ((hE.here.1.1.1.1.1.1.1.2).far4 (R := g27) (by first | omega | exact At.apart (hE.here.1.1.1.1.1.1.1.2) (hE.here.2) rfl) (.bool sa) (.slice Aa na ca) (.bool ta) (.slice Ba ma da))).atI ((hE.here.1.1.1.1.1.1.2).far4 (R := g27) (by first | omega | exact At.apart (hE.here.1.1.1.1.1.1.2) (hE.here.2) rfl) (.bool sa) (.slice Aa na ca) (.bool ta) (.slice Ba ma da))).atI ((hE.here.1.1.1.1.1.2).far4 (R := g27) (by first | omega | exact At.apart (hE.here.1.1.1.1.1.2) (hE.here.2) rfl) (.bool sa) (.slice Aa na ca) (.bool ta) (.slice Ba ma da))).atI ((hE.here.1.1.1.1.2).far4 (R := g27) (by first | omega | exact At.apart (hE.here.1.1.1.1.2) (hE.here.2) rfl) (.bool sa) (.slice Aa na ca) (.bool ta) (.slice Ba ma da))).atI ((hE.here.1.1.1.2).far4 (R := g27) (by first | omega | exact At.apart (hE.here.1.1.1.2) (hE.here.2) rfl) (.bool sa) (.slice Aa na ca) (.bool ta) (.slice Ba ma da))).atI ((hE.here.1.1.2).far4 (R := g27) (by first | omega | exact At.apart (hE.here.1.1.2) (hE.here.2) rfl) (.bool sa) (.slice Aa na ca) (.bool ta) (.slice Ba ma da))).blkI ((hE.here.1.2).far4 (R := g27) (by omega) (.bool sa) (.slice Aa na ca) (.bool ta) (.slice Ba ma da))).blkI ((hE.here.2).s4 (.bool sa) (.slice Aa na ca) (.bool ta) (.slice Ba ma da)))
         go_simp
         clear x28_0 x28_1 x28_2 x28_3 f28_0 f28_1 f28_2 f28_3 hgl28
         generalize ((((W27.setCell ⟨g27, 0, none⟩ (.bool sa)).setCell ⟨g27, 1, none⟩ (.slice Aa na ca)).setCell ⟨g27, 2, none⟩ (.bool ta)).setCell ⟨g27, 3, none⟩ (.slice Ba ma da)) = W28 at hE ⊢
         refine hK.out _ _ (⟨(hE.here.1.1.1.1.1.1.1.1.1.2).2, (hE.here.1.1.1.1.1.1.1.1.2).2, (hE.here.1.1.1.1.1.1.1.2).2, (hE.here.1.1.1.1.1.1.2).2, (hE.here.1.1.1.1.1.2).2, (hE.here.1.1.1.1.2).2, (hE.here.1.1.1.2).2, (hE.here.1.1.2).2⟩) (fun hHeld => ?_)
         clear hK K
         try simp only [PL]
         refine r1 10 (fun K hK => ?_)
         have hgl29 : w.heap.size ≤ g26 := by omega
         obtain ⟨x29_0, x29_1, x29_2, x29_3⟩ := (hE.here.1.2).c4
         obtain ⟨f29_0, f29_1, f29_2, f29_3⟩ := hE.here.1.2.f4
         replace hE := ((((((((((((((((Env.again (bel4 hE.bel hgl29 (.bool sb) (.slice Ab nb cb) (.bool tb) (.slice Bb mb db))).atI ((hE.here.1.1.1.1.1.1.1.1.1.1.1.1.1.1.2).far4 (R := g26) (by first | omega | exact At.apart (hE.here.1.1.1.1.1.1.1.1.1.1.1.1.1.1.2) (hE.here.1.2) rfl) (.bool sb) (.slice Ab nb cb) (.bool tb) (.slice Bb mb db))).fv ((hE.here.1.1.1.1.1.1.1.1.1.1.1.1.1.2).sep4 hE.here.1.2 rfl (.bool sb) (.slice Ab nb cb) (.bool tb) (.slice Bb mb db) rfl rfl rfl)).fv ((hE.here.1.1.1.1.1.1.1.1.1.1.1.1.2).sep4 hE.here.1.2 rfl (.bool sb) (.slice Ab nb cb) (.bool tb) (.slice Bb mb db) rfl rfl rfl)).fv ((hE.here.1.1.1.1.1.1.1.1.1.1.1.2).sep4 hE.here.1.2 rfl (.bool sb) (.slice Ab nb cb) (.bool tb) (.slice Bb mb db) rfl rfl rfl)).blkI ((hE.here.1.1.1.1.1.1.1.1.1.1.2).far4 (R := g26) (by omega) (.bool sb) (.slice Ab nb cb) (.bool tb) (.slice Bb mb db))).atI ((hE.here.1.1.1.1.1.1.1.1.1.2).far4 (R := g26) (by first | omega | exact At.apart (hE.here.1.1.1.1.1.1.1.1.1.2) (hE.here.1.2) rfl) (.bool sb) (.slice Ab nb cb) (.bool tb) (.slice Bb mb db))).atI ((hE.here.1.1.1.1.1.1.1.1.2).far4 (R := g26) (by first | omega | exact At.apart (hE.here.1.1.1.1.1.1.1.1.2) (hE.here.1.2) rfl) (.bool sb) (.slice Ab nb cb) (.bool tb) (.slice Bb mb db))).atI ((hE.here.1.1.1.1.1.1.1.2).far4 (R := g26) (by first | omega | exact At.apart (hE.here.1.1.1.1.1.1.1.2) (hE.here.1.2) rfl) (.bool sb) (.slice Ab nb cb) (.bool tb) (.slice Bb mb db))).atI ((hE.here.1.1.1.1.1.1.2).far4 (R := g26) (by first | omega | exact At.apart (hE.here.1.1.1.1.1.1.2) (hE.here.1.2) rfl) (.bool sb) (.slice Ab nb cb) (.bool tb) (.slice Bb mb db))).atI ((hE.here.1.1.1.1.1.2).far4 (R := g26) (by first | omega | exact At.apart (hE.here.1.1.1.1.1.2) (hE.here.1.2) rfl) (.bool sb) (.slice Ab nb cb) (.bool tb) (.slice Bb mb db))).atI ((hE.here.1.1.1.1.2).far4 (R := g26) (by first | omega | exact At.apart (hE.here.1.1.1.1.2) (hE.here.1.2) rfl) (.bool sb) (.slice Ab nb cb) (.bool tb) (.slice Bb mb db))).atI ((hE.here.1.1.1.2).far4 (R := g26) (by first | omega | exact At.apart (hE.here.1.1.1.2) (hE.here.1.2) rfl) (.bool sb) (.slice Ab nb cb) (.bool tb) (.slice Bb mb db))).atI ((hE.here.1.1.2).far4 (R := g26) (by first | omega | exact At.apart (hE.here.1.1.2) (hE.here.1.2) rfl) (.bool sb) (.slice Ab nb cb) (.bool tb) (.slice Bb mb db))).blkI ((hE.here.1.2).s4 (.bool sb) (.slice Ab nb cb) (.bool tb) (.slice Bb mb db))).blkI ((hE.here.2).far4 (R := g26) (by omega) (.bool sb) (.slice Ab nb cb) (.bool tb) (.slice Bb mb db)))
         go_simp
         clear x29_0 x29_1 x29_2 x29_3 f29_0 f29_1 f29_2 f29_3 hgl29
         generalize ((((W28.setCell ⟨g26, 0, none⟩ (.bool sb)).setCell ⟨g26, 1, none⟩ (.slice Ab nb cb)).setCell ⟨g26, 2, none⟩ (.bool tb)).setCell ⟨g26, 3, none⟩ (.slice Bb mb db)) = W29 at hE ⊢
         refine hK.out _ _ (⟨(hE.here.1.1.1.1.1.1.1.1.1.2).2, (hE.here.1.1.1.1.1.1.1.1.2).2, (hE.here.1.1.1.1.1.1.1.2).2, (hE.here.1.1.1.1.1.1.2).2, (hE.here.1.1.1.1.1.2).2, (hE.here.1.1.1.1.2).2, (hE.here.1.1.1.2).2, (hE.here.1.1.2).2⟩) (fun hHeld => ?_)
         clear hK K
         try simp only [PL]
         refine wpAnyH_done (by kernel_rfl) ?_ _
         go_wp2_with fail
         go_meet
         exact ⟨g27, g26, rfl, rfl, ((((((((((((((((Env.again hE.bel).atI (hE.here.1.1.1.1.1.1.1.1.1.1.1.1.1.1.2)).fv (hE.here.1.1.1.1.1.1.1.1.1.1.1.1.1.2)).fv (hE.here.1.1.1.1.1.1.1.1.1.1.1.1.2)).fv (hE.here.1.1.1.1.1.1.1.1.1.1.1.2)).blkI (hE.here.1.1.1.1.1.1.1.1.1.1.2)).atI (hE.here.1.1.1.1.1.1.1.1.1.2)).atI (hE.here.1.1.1.1.1.1.1.1.2)).atI (hE.here.1.1.1.1.1.1.1.2)).atI (hE.here.1.1.1.1.1.1.2)).atI (hE.here.1.1.1.1.1.2)).atI (hE.here.1.1.1.1.2)).atI (hE.here.1.1.1.2)).atI (hE.here.1.1.2)).blkI (hE.here.2)).blkI (hE.here.1.2))⟩
       case rest =>
       clear hE
       obtain ⟨G17_7, G17_8, rfl, rfl, hE⟩ := hcut
       generalize wc = wk17 at hE ⊢
       go_upto_region 18 with (fail)
       by_cases hs1 : fl (((((X : Int) : Rat) ^ N) / (((Y : Int) : Rat) ^ M)) + ((((Y : Int) : Rat) ^ M) / (((X : Int) : Rat) ^ N))) ≤ 256
       ·
        have HS1 := Lib.hid hs1
        clear hs1
        obtain ⟨k30, k31, k32, k33⟩ := (hE.here.1.2).c4
        obtain ⟨k34, k35, k36, k37⟩ := (hE.here.2).c4
        go_wp2_with fail
        refine (fadd_v (ca := ca) (da := da) (cb := cb) (db := db) (hE.here.1.1.1.1.1.1.1.1.1.1.1.1.1.2) (hE.here.1.1.1.1.1.1.1.1.1.1.1.1.2) Hlf1.out Hlf2.out HS1.out).mono ?_
        clear k30 k31 k32 k33 k34 k35 k36 k37
        rintro e w38 ⟨sr, Ar, nr, cr, tr, Br, mr, dr, rfl, hr, hb⟩
        replace hE := hE.step hb
        clear hb
        replace hE := hE.fv hr
        clear hr
        go_upto_region 19 with (fail)
        obtain ⟨g39, hg39⟩ : ∃ g39, g39 = w38.heap.size := ⟨_, rfl⟩
        have hwg39 : w.heap.size ≤ g39 := by rw [hg39]; exact hE.bel.size
        have hl39_4 : g12 < g39 := by rw [hg39]; exact (hE.here.1.1.1.1.1.1.1.1.1.1.1.2).lt
        have hl39_13 : G17_7 < g39 := by rw [hg39]; exact (hE.here.1.1.2).lt
        have hl39_14 : G17_8 < g39 := by rw [hg39]; exact (hE.here.1.2).lt
        replace hE := hE.blk 26 #[.bool sr, .slice Ar nr cr, .bool tr, .slice Br mr dr] (g := g39) hg39.symm
        generalize w38.alloc (.cells #[.bool sr, .slice Ar nr cr, .bool tr, .slice Br mr dr] 26) = W39 at hE ⊢
        rw [← hg39]
        clear hg39
        obtain ⟨k40, k41, k42, k43⟩ := (hE.here.1.1.1.2).c4
        obtain ⟨k44, k45, k46, k47⟩ := (hE.here.1.1.2).c4
        go_wp2_with fail
        refine (rfadd_ok (ca := ca) (da := da) (cb := cb) (db := db) (hE.here.1.1.1.1.1.1.1.1.1.1.1.1.1.1.1.2) (hE.here.1.1.1.1.1.1.1.1.1.1.1.1.1.1.2) Hlf1.out Hlf2.out HS1.out).mono ?_
        clear k40 k41 k42 k43 k44 k45 k46 k47
        rintro e w48 ⟨se, Ae, ne, ce, te, Be, me, de, rfl, he, hb⟩
        replace hE := hE.step hb
        clear hb
        replace hE := hE.fv he
        clear he
        go_upto_region 20 with (fail)
        obtain ⟨g49, hg49⟩ : ∃ g49, g49 = w48.heap.size := ⟨_, rfl⟩
        have hwg49 : w.heap.size ≤ g49 := by rw [hg49]; exact hE.bel.size
        have hl49_4 : g12 < g49 := by rw [hg49]; exact (hE.here.1.1.1.1.1.1.1.1.1.1.1.1.1.2).lt
        have hl49_13 : G17_7 < g49 := by rw [hg49]; exact (hE.here.1.1.1.1.2).lt
        have hl49_14 : G17_8 < g49 := by rw [hg49]; exact (hE.here.1.1.1.2).lt
        have hl49_16 : g39 < g49 := by rw [hg49]; exact (hE.here.1.2).lt
        replace hE := hE.blk 26 #[.bool se, .slice Ae ne ce, .bool te, .slice Be me de] (g := g49) hg49.symm
        generalize w48.alloc (.cells #[.bool se, .slice Ae ne ce, .bool te, .slice Be me de] 26) = W49 at hE ⊢
        rw [← hg49]
        clear hg49
        by_cases hs2 : fl (((((X : Int) : Rat) ^ N) / (((Y : Int) : Rat) ^ M)) * ((((Y : Int) : Rat) ^ M) / (((X : Int) : Rat) ^ N))) ≤ 256
        ·
         have HS2 := Lib.hid hs2
         clear hs2
         obtain ⟨k50, k51, k52, k53⟩ := (hE.here.1.1.1.1.1.2).c4
         obtain ⟨k54, k55, k56, k57⟩ := (hE.here.1.1.1.1.2).c4
         go_wp2_with fail
         refine (fmul_v (ca := ca) (da := da) (cb := cb) (db := db) (hE.here.1.1.1.1.1.1.1.1.1.1.1.1.1.1.1.1.1.2) (hE.here.1.1.1.1.1.1.1.1.1.1.1.1.1.1.1.1.2) Hlf1.out Hlf2.out HS2.out).mono ?_
         clear k50 k51 k52 k53 k54 k55 k56 k57
         rintro e w58 ⟨sm, Am, nm, cm, tm, Bm, mm, dm, rfl, hm, hb⟩
         replace hE := hE.step hb
         clear hb
         replace hE := hE.fv hm
         clear hm
         go_upto_region 21 with (fail)
         obtain ⟨g59, hg59⟩ : ∃ g59, g59 = w58.heap.size := ⟨_, rfl⟩
         have hwg59 : w.heap.size ≤ g59 := by rw [hg59]; exact hE.bel.size
         have hl59_4 : g12 < g59 := by rw [hg59]; exact (hE.here.1.1.1.1.1.1.1.1.1.1.1.1.1.1.1.2).lt
         have hl59_13 : G17_7 < g59 := by rw [hg59]; exact (hE.here.1.1.1.1.1.1.2).lt
         have hl59_14 : G17_8 < g59 := by rw [hg59]; exact (hE.here.1.1.1.1.1.2).lt
         have hl59_16 : g39 < g59 := by rw [hg59]; exact (hE.here.1.1.1.2).lt
         have hl59_18 : g49 < g59 := by rw [hg59]; exact (hE.here.1.2).lt
         replace hE := hE.blk 26 #[.bool sm, .slice Am nm cm, .bool tm, .slice Bm mm dm] (g := g59) hg59.symm
         generalize w58.alloc (.cells #[.bool sm, .slice Am nm cm, .bool tm, .slice Bm mm dm] 26) = W59 at hE ⊢
         rw [← hg59]
         clear hg59
         obtain ⟨k60, k61, k62, k63⟩ := (hE.here.1.1.1.1.1.1.1.2).c4
         obtain ⟨k64, k65, k66, k67⟩ := (hE.here.1.1.1.1.1.1.2).c4
         go_wp2_with fail
         refine (rfmul_ok (ca := ca) (da := da) (cb := cb) (db := db) (hE.here.1.1.1.1.1.1.1.1.1.1.1.1.1.1.1.1.1.1.1.2) (hE.here.1.1.1.1.1.1.1.1.1.1.1.1.1.1.1.1.1.1.2) Hlf1.out Hlf2.out HS2.out).mono ?_
         clear k60 k61 k62 k63 k64 k65 k66 k67
         rintro e w68 ⟨sn, An, nn, cn, tn, Bn, mn, dn, rfl, hn, hb⟩
         replace hE := hE.step hb
         clear hb
         replace hE := hE.fv hn
         clear hn
         go_upto_region 22 with (fail)
         obtain ⟨g69, hg69⟩ : ∃ g69, g69 = w68.heap.size := ⟨_, rfl⟩
         have hwg69 : w.heap.size ≤ g69 := by rw [hg69]; exact hE.bel.size
         have hl69_4 : g12 < g69 := by rw [hg69]; exact (hE.here.1.1.1.1.1.1.1.1.1.1.1.1.1.1.1.1.1.2).lt
         have hl69_13 : G17_7 < g69 := by rw [hg69]; exact (hE.here.1.1.1.1.1.1.1.1.2).lt
         have hl69_14 : G17_8 < g69 := by rw [hg69]; exact (hE.here.1.1.1.1.1.1.1.2).lt
         have hl69_16 : g39 < g69 := by rw [hg69]; exact (hE.here.1.1.1.1.1.2).lt
         have hl69_18 : g49 < g69 := by rw [hg69]; exact (hE.here.1.1.1.2).lt
         have hl69_20 : g59 < g69 := by rw [hg69]; exact (hE.here.1.2).lt
         replace hE := hE.blk 26 #[.bool sn, .slice An nn cn, .bool tn, .slice Bn mn dn] (g := g69) hg69.symm
         generalize w68.alloc (.cells #[.bool sn, .slice An nn cn, .bool tn, .slice Bn mn dn] 26) = W69 at hE ⊢
         rw [← hg69]
         clear hg69
         obtain ⟨k70, k71, k72, k73⟩ := (hE.here.1.1.1.1.1.1.2).c4
         obtain ⟨k74, k75, k76, k77⟩ := (hE.here.1.1.1.1.2).c4
         go_wp2_with fail
         refine (lsame_ok (ca := cr) (da := dr) (cb := ce) (db := de) (hE.here.1.1.1.1.1.1.1.2) (hE.here.1.1.1.1.1.2) HS1.out).mono ?_
         clear k70 k71 k72 k73 k74 k75 k76 k77
         rintro e w78 ⟨rfl, hb⟩
         replace hE := hE.step hb
         clear hb
         obtain ⟨k79, k80, k81, k82⟩ := (hE.here.1.1.2).c4
         obtain ⟨k83, k84, k85, k86⟩ := (hE.here.2).c4
         go_wp2_with fail
         refine (lsame_ok (ca := cm) (da := dm) (cb := cn) (db := dn) (hE.here.1.1.1.2) (hE.here.1.2) HS2.out).mono ?_
         clear k79 k80 k81 k82 k83 k84 k85 k86
         rintro e w87 ⟨rfl, hb⟩
         replace hE := hE.step hb
         clear hb
         go_wp2_with fail
         go_roundw
         case rel => (repeat apply Exists.intro); exact ⟨⟨2, by omega, by omega, by go_num, ((((((Env.again hE.bel).atI (hE.here.1.1.1.1.1.1.1.1.1.1.1.1.1.1.1.1.1.1.1.1.1.1.2)).fv (hE.here.1.1.1.1.1.1.1.1.1.1.1.1.1.1.1.1.1.1.1.1.1.2)).fv (hE.here.1.1.1.1.1.1.1.1.1.1.1.1.1.1.1.1.1.1.1.1.2)).fv (hE.here.1.1.1.1.1.1.1.1.1.1.1.1.1.1.1.1.1.1.1.2)).blkI (hE.here.1.1.1.1.1.1.1.1.1.1.1.1.1.1.1.1.1.1.2))⟩, rfl⟩
         case measure => (simp [intOf]) <;> omega
        ·
         have HS2 := Lib.hid hs2
         clear hs2
         obtain ⟨k88, k89, k90, k91⟩ := (hE.here.1.1.1.1.1.2).c4
         obtain ⟨k92, k93, k94, k95⟩ := (hE.here.1.1.1.1.2).c4
         go_wp2_with fail
         refine (fmul_long (ca := ca) (da := da) (cb := cb) (db := db) (hE.here.1.1.1.1.1.1.1.1.1.1.1.1.1.1.1.1.1.2) (hE.here.1.1.1.1.1.1.1.1.1.1.1.1.1.1.1.1.2) Hlf1.out Hlf2.out (by have := HS2.out; omega)).mono ?_
         clear k88 k89 k90 k91 k92 k93 k94 k95
         rintro e w96 ⟨rfl, hb⟩
         replace hE := hE.step hb
         clear hb
         go_upto_region 21 with (fail)
         obtain ⟨g97, hg97⟩ : ∃ g97, g97 = w96.heap.size := ⟨_, rfl⟩
         have hwg97 : w.heap.size ≤ g97 := by rw [hg97]; exact hE.bel.size
         have hl97_4 : g12 < g97 := by rw [hg97]; exact (hE.here.1.1.1.1.1.1.1.1.1.1.1.1.1.1.2).lt
         have hl97_13 : G17_7 < g97 := by rw [hg97]; exact (hE.here.1.1.1.1.1.2).lt
         have hl97_14 : G17_8 < g97 := by rw [hg97]; exact (hE.here.1.1.1.1.2).lt
         have hl97_16 : g39 < g97 := by rw [hg97]; exact (hE.here.1.1.2).lt
         have hl97_18 : g49 < g97 := by rw [hg97]; exact (hE.here.2).lt
         replace hE := hE.blk 26 #[.bool false, .slice none 0 0, .bool false, .slice none 0 0] (g := g97) hg97.symm
         generalize w96.alloc (.cells #[.bool false, .slice none 0 0, .bool false, .slice none 0 0] 26) = W97 at hE ⊢
         rw [← hg97]
         clear hg97
         obtain ⟨k98, k99, k100, k101⟩ := (hE.here.1.1.1.1.1.1.2).c4
         obtain ⟨k102, k103, k104, k105⟩ := (hE.here.1.1.1.1.1.2).c4
         go_wp2_with fail
         refine (rfmul_long (ca := ca) (da := da) (cb := cb) (db := db) (hE.here.1.1.1.1.1.1.1.1.1.1.1.1.1.1.1.1.1.1.2) (hE.here.1.1.1.1.1.1.1.1.1.1.1.1.1.1.1.1.1.2) Hlf1.out Hlf2.out (by have := HS2.out; omega)).mono ?_
         clear k98 k99 k100 k101 k102 k103 k104 k105
         rintro e w106 ⟨rfl, hb⟩
         replace hE := hE.step hb
         clear hb
         go_upto_region 22 with (fail)
         obtain ⟨g107, hg107⟩ : ∃ g107, g107 = w106.heap.size := ⟨_, rfl⟩
         have hwg107 : w.heap.size ≤ g107 := by rw [hg107]; exact hE.bel.size
         have hl107_4 : g12 < g107 := by rw [hg107]; exact (hE.here.1.1.1.1.1.1.1.1.1.1.1.1.1.1.1.2).lt
         have hl107_13 : G17_7 < g107 := by rw [hg107]; exact (hE.here.1.1.1.1.1.1.2).lt
         have hl107_14 : G17_8 < g107 := by rw [hg107]; exact (hE.here.1.1.1.1.1.2).lt
         have hl107_16 : g39 < g107 := by rw [hg107]; exact (hE.here.1.1.1.2).lt
         have hl107_18 : g49 < g107 := by rw [hg107]; exact (hE.here.1.2).lt
         have hl107_19 : g97 < g107 := by rw [hg107]; exact (hE.here.2).lt
         replace hE := hE.blk 26 #[.bool false, .slice none 0 0, .bool false, .slice none 0 0] (g := g107) hg107.symm
         generalize w106.alloc (.cells #[.bool false, .slice none 0 0, .bool false, .slice none 0 0] 26) = W107 at hE ⊢
         rw [← hg107]
         clear hg107
         obtain ⟨k108, k109, k110, k111⟩ := (hE.here.1.1.1.1.2).c4
         obtain ⟨k112, k113, k114, k115⟩ := (hE.here.1.1.2).c4
         go_wp2_with fail
         refine (lsame_ok (ca := cr) (da := dr) (cb := ce) (db := de) (hE.here.1.1.1.1.1.2) (hE.here.1.1.1.2) HS1.out).mono ?_
         clear k108 k109 k110 k111 k112 k113 k114 k115
         rintro e w116 ⟨rfl, hb⟩
         replace hE := hE.step hb
         clear hb
         obtain ⟨k117, k118, k119, k120⟩ := (hE.here.1.2).c4
         obtain ⟨k121, k122, k123, k124⟩ := (hE.here.2).c4
         go_wp2_with fail
         refine (lsame_err).mono ?_
         clear k117 k118 k119 k120 k121 k122 k123 k124
         rintro e w125 ⟨rfl, hb⟩
         replace hE := hE.step hb
         clear hb
         go_wp2_with fail
         go_roundw
         case rel => (repeat apply Exists.intro); exact ⟨⟨2, by omega, by omega, by go_num, ((((((Env.again hE.bel).atI (hE.here.1.1.1.1.1.1.1.1.1.1.1.1.1.1.1.1.1.1.1.1.2)).fv (hE.here.1.1.1.1.1.1.1.1.1.1.1.1.1.1.1.1.1.1.1.2)).fv (hE.here.1.1.1.1.1.1.1.1.1.1.1.1.1.1.1.1.1.1.2)).fv (hE.here.1.1.1.1.1.1.1.1.1.1.1.1.1.1.1.1.1.2)).blkI (hE.here.1.1.1.1.1.1.1.1.1.1.1.1.1.1.1.1.2))⟩, rfl⟩
         case measure => (simp [intOf]) <;> omega
       ·
        have HS1 := Lib.hid hs1
        clear hs1
        obtain ⟨k126, k127, k128, k129⟩ := (hE.here.1.2).c4
        obtain ⟨k130, k131, k132, k133⟩ := (hE.here.2).c4
        go_wp2_with fail
        refine (fadd_long (ca := ca) (da := da) (cb := cb) (db := db) (hE.here.1.1.1.1.1.1.1.1.1.1.1.1.1.2) (hE.here.1.1.1.1.1.1.1.1.1.1.1.1.2) Hlf1.out Hlf2.out (by have := HS1.out; omega)).mono ?_
        clear k126 k127 k128 k129 k130 k131 k132 k133
        rintro e w134 ⟨rfl, hb⟩
        replace hE := hE.step hb
        clear hb
        go_upto_region 19 with (fail)
        obtain ⟨g135, hg135⟩ : ∃ g135, g135 = w134.heap.size := ⟨_, rfl⟩
        have hwg135 : w.heap.size ≤ g135 := by rw [hg135]; exact hE.bel.size
        have hl135_4 : g12 < g135 := by rw [hg135]; exact (hE.here.1.1.1.1.1.1.1.1.1.1.2).lt
        have hl135_13 : G17_7 < g135 := by rw [hg135]; exact (hE.here.1.2).lt
        have hl135_14 : G17_8 < g135 := by rw [hg135]; exact (hE.here.2).lt
        replace hE := hE.blk 26 #[.bool false, .slice none 0 0, .bool false, .slice none 0 0] (g := g135) hg135.symm
        generalize w134.alloc (.cells #[.bool false, .slice none 0 0, .bool false, .slice none 0 0] 26) = W135 at hE ⊢
        rw [← hg135]
        clear hg135
        obtain ⟨k136, k137, k138, k139⟩ := (hE.here.1.1.2).c4
        obtain ⟨k140, k141, k142, k143⟩ := (hE.here.1.2).c4
        go_wp2_with fail
        refine (rfadd_long (ca := ca) (da := da) (cb := cb) (db := db) (hE.here.1.1.1.1.1.1.1.1.1.1.1.1.1.1.2) (hE.here.1.1.1.1.1.1.1.1.1.1.1.1.1.2) Hlf1.out Hlf2.out (by have := HS1.out; omega)).mono ?_
        clear k136 k137 k138 k139 k140 k141 k142 k143
        rintro e w144 ⟨rfl, hb⟩
        replace hE := hE.step hb
        clear hb
        go_upto_region 20 with (fail)
        obtain ⟨g145, hg145⟩ : ∃ g145, g145 = w144.heap.size := ⟨_, rfl⟩
        have hwg145 : w.heap.size ≤ g145 := by rw [hg145]; exact hE.bel.size
        have hl145_4 : g12 < g145 := by rw [hg145]; exact (hE.here.1.1.1.1.1.1.1.1.1.1.1.2).lt
        have hl145_13 : G17_7 < g145 := by rw [hg145]; exact (hE.here.1.1.2).lt
        have hl145_14 : G17_8 < g145 := by rw [hg145]; exact (hE.here.1.2).lt
        have hl145_15 : g135 < g145 := by rw [hg145]; exact (hE.here.2).lt
        replace hE := hE.blk 26 #[.bool false, .slice none 0 0, .bool false, .slice none 0 0] (g := g145) hg145.symm
        generalize w144.alloc (.cells #[.bool false, .slice none 0 0, .bool false, .slice none 0 0] 26) = W145 at hE ⊢
        rw [← hg145]
        clear hg145
        by_cases hs2 : fl (((((X : Int) : Rat) ^ N) / (((Y : Int) : Rat) ^ M)) * ((((Y : Int) : Rat) ^ M) / (((X : Int) : Rat) ^ N))) ≤ 256
        ·
         have HS2 := Lib.hid hs2
         clear hs2
         obtain ⟨k146, k147, k148, k149⟩ := (hE.here.1.1.1.2).c4
         obtain ⟨k150, k151, k152, k153⟩ := (hE.here.1.1.2).c4
         go_wp2_with fail
         refine (fmul_v (ca := ca) (da := da) (cb := cb) (db := db) (hE.here.1.1.1.1.1.1.1.1.1.1.1.1.1.1.1.2) (hE.here.1.1.1.1.1.1.1.1.1.1.1.1.1.1.2) Hlf1.out Hlf2.out HS2.out).mono ?_
         clear k146 k147 k148 k149 k150 k151 k152 k153
         rintro e w154 ⟨sm, Am, nm, cm, tm, Bm, mm, dm, rfl, hm, hb⟩
         replace hE := hE.step hb
         clear hb
         replace hE := hE.fv hm
         clear hm
         go_upto_region 21 with (fail)
         obtain ⟨g155, hg155⟩ : ∃ g155, g155 = w154.heap.size := ⟨_, rfl⟩
         have hwg155 : w.heap.size ≤ g155 := by rw [hg155]; exact hE.bel.size
         have hl155_4 : g12 < g155 := by rw [hg155]; exact (hE.here.1.1.1.1.1.1.1.1.1.1.1.1.1.2).lt
         have hl155_13 : G17_7 < g155 := by rw [hg155]; exact (hE.here.1.1.1.1.2).lt
         have hl155_14 : G17_8 < g155 := by rw [hg155]; exact (hE.here.1.1.1.2).lt
         have hl155_15 : g135 < g155 := by rw [hg155]; exact (hE.here.1.1.2).lt
         have hl155_16 : g145 < g155 := by rw [hg155]; exact (hE.here.1.2).lt
         replace hE := hE.blk 26 #[.bool sm, .slice Am nm cm, .bool tm, .slice Bm mm dm] (g := g155) hg155.symm
         generalize w154.alloc (.cells #[.bool sm, .slice Am nm cm, .bool tm, .slice Bm mm dm] 26) = W155 at hE ⊢
         rw [← hg155]
         clear hg155
         obtain ⟨k156, k157, k158, k159⟩ := (hE.here.1.1.1.1.1.2).c4
         obtain ⟨k160, k161, k162, k163⟩ := (hE.here.1.1.1.1.2).c4
         go_wp2_with fail
         refine (rfmul_ok (ca := ca) (da := da) (cb := cb) (db := db) (hE.here.1.1.1.1.1.1.1.1.1.1.1.1.1.1.1.1.1.2) (hE.here.1.1.1.1.1.1.1.1.1.1.1.1.1.1.1.1.2) Hlf1.out Hlf2.out HS2.out).mono ?_
         clear k156 k157 k158 k159 k160 k161 k162 k163
         rintro e w164 ⟨sn, An, nn, cn, tn, Bn, mn, dn, rfl, hn, hb⟩
         replace hE := hE.step hb
         clear hb
         replace hE := hE.fv hn
         clear hn
         go_upto_region 22 with (fail)
         obtain ⟨g165, hg165⟩ : ∃ g165, g165 = w164.heap.size := ⟨_, rfl⟩
         have hwg165 : w.heap.size ≤ g165 := by rw [hg165]; exact hE.bel.size
         have hl165_4 : g12 < g165 := by rw [hg165]; exact (hE.here.1.1.1.1.1.1.1.1.1.1.1.1.1.1.1.2).lt
         have hl165_13 : G17_7 < g165 := by rw [hg165]; exact (hE.here.1.1.1.1.1.1.2).lt
         have hl165_14 : G17_8 < g165 := by rw [hg165]; exact (hE.here.1.1.1.1.1.2).lt
         have hl165_15 : g135 < g165 := by rw [hg165]; exact (hE.here.1.1.1.1.2).lt
         have hl165_16 : g145 < g165 := by rw [hg165]; exact (hE.here.1.1.1.2).lt
         have hl165_18 : g155 < g165 := by rw [hg165]; exact (hE.here.1.2).lt
         replace hE := hE.blk 26 #[.bool sn, .slice An nn cn, .bool tn, .slice Bn mn dn] (g := g165) hg165.symm
         generalize w164.alloc (.cells #[.bool sn, .slice An nn cn, .bool tn, .slice Bn mn dn] 26) = W165 at hE ⊢
         rw [← hg165]
         clear hg165
         obtain ⟨k166, k167, k168, k169⟩ := (hE.here.1.1.1.1.1.2).c4
         obtain ⟨k170, k171, k172, k173⟩ := (hE.here.1.1.1.1.2).c4
         go_wp2_with fail
         refine (lsame_err).mono ?_
         clear k166 k167 k168 k169 k170 k171 k172 k173
         rintro e w174 ⟨rfl, hb⟩
         replace hE := hE.step hb
         clear hb
         obtain ⟨k175, k176, k177, k178⟩ := (hE.here.1.1.2).c4
         obtain ⟨k179, k180, k181, k182⟩ := (hE.here.2).c4
         go_wp2_with fail
         refine (lsame_ok (ca := cm) (da := dm) (cb := cn) (db := dn) (hE.here.1.1.1.2) (hE.here.1.2) HS2.out).mono ?_
         clear k175 k176 k177 k178 k179 k180 k181 k182
         rintro e w183 ⟨rfl, hb⟩
         replace hE := hE.step hb
         clear hb
         go_wp2_with fail
         go_roundw
         case rel => (repeat apply Exists.intro); exact ⟨⟨2, by omega, by omega, by go_num, ((((((Env.again hE.bel).atI (hE.here.1.1.1.1.1.1.1.1.1.1.1.1.1.1.1.1.1.1.1.1.2)).fv (hE.here.1.1.1.1.1.1.1.1.1.1.1.1.1.1.1.1.1.1.1.2)).fv (hE.here.1.1.1.1.1.1.1.1.1.1.1.1.1.1.1.1.1.1.2)).fv (hE.here.1.1.1.1.1.1.1.1.1.1.1.1.1.1.1.1.1.2)).blkI (hE.here.1.1.1.1.1.1.1.1.1.1.1.1.1.1.1.1.2))⟩, rfl⟩
         case measure => (simp [intOf]) <;> omega
        ·
         have HS2 := Lib.hid hs2
         clear hs2
         obtain ⟨k184, k185, k186, k187⟩ := (hE.here.1.1.1.2).c4
         obtain ⟨k188, k189, k190, k191⟩ := (hE.here.1.1.2).c4
         go_wp2_with fail
         refine (fmul_long (ca := ca) (da := da) (cb := cb) (db := db) (hE.here.1.1.1.1.1.1.1.1.1.1.1.1.1.1.1.2) (hE.here.1.1.1.1.1.1.1.1.1.1.1.1.1.1.2) Hlf1.out Hlf2.out (by have := HS2.out; omega)).mono ?_
         clear k184 k185 k186 k187 k188 k189 k190 k191
         rintro e w192 ⟨rfl, hb⟩
         replace hE := hE.step hb
         clear hb
         go_upto_region 21 with (fail)
         obtain ⟨g193, hg193⟩ : ∃ g193, g193 = w192.heap.size := ⟨_, rfl⟩
         have hwg193 : w.heap.size ≤ g193 := by rw [hg193]; exact hE.bel.size
         have hl193_4 : g12 < g193 := by rw [hg193]; exact (hE.here.1.1.1.1.1.1.1.1.1.1.1.1.2).lt
         have hl193_13 : G17_7 < g193 := by rw [hg193]; exact (hE.here.1.1.1.2).lt
         have hl193_14 : G17_8 < g193 := by rw [hg193]; exact (hE.here.1.1.2).lt
         have hl193_15 : g135 < g193 := by rw [hg193]; exact (hE.here.1.2).lt
         have hl193_16 : g145 < g193 := by rw [hg193]; exact (hE.here.2).lt
         replace hE := hE.blk 26 #[.bool false, .slice none 0 0, .bool false, .slice none 0 0] (g := g193) hg193.symm
         generalize w192.alloc (.cells #[.bool false, .slice none 0 0, .bool false, .slice none 0 0] 26) = W193 at hE ⊢
         rw [← hg193]
         clear hg193
         obtain ⟨k194, k195, k196, k197⟩ := (hE.here.1.1.1.1.2).c4
         obtain ⟨k198, k199, k200, k201⟩ := (hE.here.1.1.1.2).c4
         go_wp2_with fail
         refine (rfmul_long (ca := ca) (da := da) (cb := cb) (db := db) (hE.here.1.1.1.1.1.1.1.1.1.1.1.1.1.1.1.1.2) (hE.here.1.1.1.1.1.1.1.1.1.1.1.1.1.1.1.2) Hlf1.out Hlf2.out (by have := HS2.out; omega)).mono ?_
         clear k194 k195 k196 k197 k198 k199 k200 k201
         rintro e w202 ⟨rfl, hb⟩
         replace hE := hE.step hb
         clear hb
         go_upto_region 22 with (fail)
         obtain ⟨g203, hg203⟩ : ∃ g203, g203 = w202.heap.size := ⟨_, rfl⟩
         have hwg203 : w.heap.size ≤ g203 := by rw [hg203]; exact hE.bel.size
         have hl203_4 : g12 < g203 := by rw [hg203]; exact (hE.here.1.1.1.1.1.1.1.1.1.1.1.1.1.2).lt
         have hl203_13 : G17_7 < g203 := by rw [hg203]; exact (hE.here.1.1.1.1.2).lt
         have hl203_14 : G17_8 < g203 := by rw [hg203]; exact (hE.here.1.1.1.2).lt
         have hl203_15 : g135 < g203 := by rw [hg203]; exact (hE.here.1.1.2).lt
         have hl203_16 : g145 < g203 := by rw [hg203]; exact (hE.here.1.2).lt
         have hl203_17 : g193 < g203 := by rw [hg203]; exact (hE.here.2).lt
         replace hE := hE.blk 26 #[.bool false, .slice none 0 0, .bool false, .slice none 0 0] (g := g203) hg203.symm
         generalize w202.alloc (.cells #[.bool false, .slice none 0 0, .bool false, .slice none 0 0] 26) = W203 at hE ⊢
         rw [← hg203]
         clear hg203
         obtain ⟨k204, k205, k206, k207⟩ := (hE.here.1.1.1.2).c4
         obtain ⟨k208, k209, k210, k211⟩ := (hE.here.1.1.2).c4
         go_wp2_with fail
         refine (lsame_err).mono ?_
         clear k204 k205 k206 k207 k208 k209 k210 k211
         rintro e w212 ⟨rfl, hb⟩
         replace hE := hE.step hb
         clear hb
         obtain ⟨k213, k214, k215, k216⟩ := (hE.here.1.2).c4
         obtain ⟨k217, k218, k219, k220⟩ := (hE.here.2).c4
         go_wp2_with fail
         refine (lsame_err).mono ?_
         clear k213 k214 k215 k216 k217 k218 k219 k220
         rintro e w221 ⟨rfl, hb⟩
         replace hE := hE.step hb
         clear hb
         go_wp2_with fail
         go_roundw
         case rel => (repeat apply Exists.intro); exact ⟨⟨2, by omega, by omega, by go_num, ((((((Env.again hE.bel).atI (hE.here.1.1.1.1.1.1.1.1.1.1.1.1.1.1.1.1.1.1.2)).fv (hE.here.1.1.1.1.1.1.1.1.1.1.1.1.1.1.1.1.1.2)).fv (hE.here.1.1.1.1.1.1.1.1.1.1.1.1.1.1.1.1.2)).fv (hE.here.1.1.1.1.1.1.1.1.1.1.1.1.1.1.1.2)).blkI (hE.here.1.1.1.1.1.1.1.1.1.1.1.1.1.1.2))⟩, rfl⟩
         case measure => (simp [intOf]) <;> omega
      ·
       go_upto_region 17 with (fail)
       have hz : wr.cell? ⟨g12, 0, none⟩ = some (.bool sa) := (hE.here.2).cell 0
       replace hE := hE.at_ (hE.here.2).lt hz
       clear hz
       have hz : wr.cell? ⟨g12, 1, none⟩ = some (.slice Aa na ca) := (hE.here.1.2).cell 1
       replace hE := hE.at_ (hE.here.1.2).lt hz
       clear hz
       have hz : wr.cell? ⟨g12, 2, none⟩ = some (.bool ta) := (hE.here.1.1.2).cell 2
       replace hE := hE.at_ (hE.here.1.1.2).lt hz
       clear hz
       have hz : wr.cell? ⟨g12, 3, none⟩ = some (.slice Ba ma da) := (hE.here.1.1.1.2).cell 3
       replace hE := hE.at_ (hE.here.1.1.1.2).lt hz
       clear hz
       have hz : wr.cell? ⟨g12, 8, none⟩ = some (.bool ss) := (hE.here.1.1.1.1.2).cell 8
       replace hE := hE.at_ (hE.here.1.1.1.1.2).lt hz
       clear hz
       have hz : wr.cell? ⟨g12, 9, none⟩ = some (.slice As ns cs) := (hE.here.1.1.1.1.1.2).cell 9
       replace hE := hE.at_ (hE.here.1.1.1.1.1.2).lt hz
       clear hz
       have hz : wr.cell? ⟨g12, 10, none⟩ = some (.bool ts) := (hE.here.1.1.1.1.1.1.2).cell 10
       replace hE := hE.at_ (hE.here.1.1.1.1.1.1.2).lt hz
       clear hz
       have hz : wr.cell? ⟨g12, 11, none⟩ = some (.slice Bs ms ds) := (hE.here.1.1.1.1.1.1.1.2).cell 11
       replace hE := hE.at_ (hE.here.1.1.1.1.1.1.1.2).lt hz
       clear hz
       go_cut [20, 21] from 128 to 135 (fun p0 p1 wx => ∃ G17_7 G17_8, p0 = .pointer (some ⟨G17_7, 0, none⟩) ∧ p1 = .pointer (some ⟨G17_8, 0, none⟩) ∧ Env w (fun V => (((((((((((((((True ∧ At 0 0 (.int .i64 k0) V) ∧ FV V ((((X : Int) : Rat) ^ N) / (((Y : Int) : Rat) ^ M)) sa Aa na ta Ba ma) ∧ FV V ((((Y : Int) : Rat) ^ M) / (((X : Int) : Rat) ^ N)) sb Ab nb tb Bb mb) ∧ FV V ((((X : Int) : Rat) ^ N) / (((Y : Int) : Rat) ^ M) + Rat.divInt 1 3) ss As ns ts Bs ms) ∧ Blk 26 (g12) #[.bool sa, .slice Aa na ca, .bool ta, .slice Ba ma da, .bool sb, .slice Ab nb cb, .bool tb, .slice Bb mb db, .bool ss, .slice As ns cs, .bool ts, .slice Bs ms ds] V) ∧ At g12 0 (.bool sa) V) ∧ At g12 1 (.slice Aa na ca) V) ∧ At g12 2 (.bool ta) V) ∧ At g12 3 (.slice Ba ma da) V) ∧ At g12 8 (.bool ss) V) ∧ At g12 9 (.slice As ns cs) V) ∧ At g12 10 (.bool ts) V) ∧ At g12 11 (.slice Bs ms ds) V) ∧ Blk 26 (G17_7) #[.bool sa, .slice Aa na ca, .bool ta, .slice Ba ma da] V) ∧ Blk 26 (G17_8) #[.bool ss, .slice As ns cs, .bool ts, .slice Bs ms ds] V)) wx)
       case first =>
        replace hE := hE.drew
        refine wp_region_held_drew (S := fun w' => w'.cell? ⟨g12, 0, none⟩ = some (.bool sa) ∧ w'.cell? ⟨g12, 1, none⟩ = some (.slice Aa na ca) ∧ w'.cell? ⟨g12, 2, none⟩ = some (.bool ta) ∧ w'.cell? ⟨g12, 3, none⟩ = some (.slice Ba ma da) ∧ w'.cell? ⟨g12, 8, none⟩ = some (.bool ss) ∧ w'.cell? ⟨g12, 9, none⟩ = some (.slice As ns cs) ∧ w'.cell? ⟨g12, 10, none⟩ = some (.bool ts) ∧ w'.cell? ⟨g12, 11, none⟩ = some (.slice Bs ms ds)) (by kernel_rfl) (⟨(hE.here.1.1.1.1.1.1.1.2).2, (hE.here.1.1.1.1.1.1.2).2, (hE.here.1.1.1.1.1.2).2, (hE.here.1.1.1.1.2).2, (hE.here.1.1.1.2).2, (hE.here.1.1.2).2, (hE.here.1.2).2, (hE.here.2).2⟩) (fun hHeld => ?_)
        generalize wr.drew = wd at *
        refine tk 0 ?_
        try simp only [PL]
        refine tk 1 ?_
        try simp only [PL]
        refine tk 2 ?_
        try simp only [PL]
        refine tk 3 ?_
        try simp only [PL]
        refine tk 4 ?_
        try simp only [PL]
        refine tk 5 ?_
        try simp only [PL]
        refine tk 6 ?_
        try simp only [PL]
        refine wpAnyH_ready (rs := [7, 8]) (by kernel_rfl) (by simp) (AllReadyH.cons rfl (fun K hK => ?_) (AllReadyH.cons rfl (fun K hK => ?_) (AllReadyH.nil)))
        ·
         go_simp
         obtain ⟨g222, hg222⟩ : ∃ g222, g222 = wd.heap.size := ⟨_, rfl⟩
         have hwg222 : w.heap.size ≤ g222 := by rw [hg222]; exact hE.bel.size
         have hl222_4 : g12 < g222 := by rw [hg222]; exact (hE.here.1.1.1.1.1.1.1.1.2).lt
         replace hE := hE.blk 26 #[.bool false, .slice none 0 0, .bool false, .slice none 0 0] (g := g222) hg222.symm
         generalize wd.alloc (.cells #[.bool false, .slice none 0 0, .bool false, .slice none 0 0] 26) = W222 at hE ⊢
         rw [← hg222]
         clear hg222
         refine hK.out _ _ (⟨(hE.here.1.1.1.1.1.1.1.1.2).2, (hE.here.1.1.1.1.1.1.1.2).2, (hE.here.1.1.1.1.1.1.2).2, (hE.here.1.1.1.1.1.2).2, (hE.here.1.1.1.1.2).2, (hE.here.1.1.1.2).2, (hE.here.1.1.2).2, (hE.here.1.2).2⟩) (fun hHeld => ?_)
         clear hK K
         try simp only [PL]
         refine r1 8 (fun K hK => ?_)
         go_simp
         obtain ⟨g223, hg223⟩ : ∃ g223, g223 = W222.heap.size := ⟨_, rfl⟩
         have hwg223 : w.heap.size ≤ g223 := by rw [hg223]; exact hE.bel.size
         have hl223_4 : g12 < g223 := by rw [hg223]; exact (hE.here.1.1.1.1.1.1.1.1.1.2).lt
         have hl223_13 : g222 < g223 := by rw [hg223]; exact (hE.here.2).lt
         replace hE := hE.blk 26 #[.bool false, .slice none 0 0, .bool false, .slice none 0 0] (g := g223) hg223.symm
         generalize W222.alloc (.cells #[.bool false, .slice none 0 0, .bool false, .slice none 0 0] 26) = W223 at hE ⊢
         rw [← hg223]
         clear hg223
         refine hK.out _ _ (⟨(hE.here.1.1.1.1.1.1.1.1.1.2).2, (hE.here.1.1.1.1.1.1.1.1.2).2, (hE.here.1.1.1.1.1.1.1.2).2, (hE.here.1.1.1.1.1.1.2).2, (hE.here.1.1.1.1.1.2).2, (hE.here.1.1.1.1.2).2, (hE.here.1.1.1.2).2, (hE.here.1.1.2).2⟩) (fun hHeld => ?_)
         clear hK K
         try simp only [PL]
         refine r1 9 (fun K hK => ?_)
         have hgl224 : w.heap.size ≤ g222 := by omega
         obtain ⟨x224_0, x224_1, x224_2, x224_3⟩ := (hE.here.1.2).c4
         obtain ⟨f224_0, f224_1, f224_2, f224_3⟩ := hE.here.1.2.f4
         replace hE := ((((((((((((((((Env.again (bel4 hE.bel hgl224 (.bool sa) (.slice Aa na ca) (.bool ta) (.slice Ba ma da))).atI ((hE.here.1.1.1.1.1.1.1.1.1.1.1.1.1.1.2).far4 (R := g222) (by first | omega | exact At.apart (hE.here.1.1.1.1.1.1.1.1.1.1.1.1.1.1.2) (hE.here.1.2) rfl) (.bool sa) (.slice Aa na ca) (.bool ta) (.slice Ba ma da))).fv ((hE.here.1.1.1.1.1.1.1.1.1.1.1.1.1.2).sep4 hE.here.1.2 rfl (.bool sa) (.slice Aa na ca) (.bool ta) (.slice Ba ma da) rfl rfl rfl)).fv ((hE.here.1.1.1.1.1.1.1.1.1.1.1.1.2).sep4 hE.here.1.2 rfl (.bool sa) (.slice Aa na ca) (.bool ta) (.slice Ba ma da) rfl rfl rfl)).fv ((hE.here.1.1.1.1.1.1.1.1.1.1.1.2).sep4 hE.here.1.2 rfl (.bool sa) (.slice Aa na ca) (.bool ta) (.slice Ba ma da) rfl rfl rfl)).blkI ((hE.here.1.1.1.1.1.1.1.1.1.1.2).far4 (R := g222) (by omega) (.bool sa) (.slice Aa na ca) (.bool ta) (.slice Ba ma da))).atI ((hE.here.1.1.1.1.1.1.1.1.1.2).far4 (R := g222) (by first | omega | exact At.apart (hE.here.1.1.1.1.1.1.1.1.1.2) (hE.here.1.2) rfl) (.bool sa) (.slice Aa na ca) (.bool ta) (.slice Ba ma da))).atI ((hE.here.1.1.1.1.1.1.1.1.2).far4 (R := g222) (by first | omega | exact At.apart (hE.here.1.1.1.1.1.1.1.1.2) (hE.here.1.2) rfl) (.bool sa) (.slice Aa na ca) (.bool ta) (.slice Ba ma da))).atI ((hE.here.1.1.1.1.1.1.1.2).far4 (R := g222) (by first | omega | exact At.apart (hE.here.1.1.1.1.1.1.1.2) (hE.here.1.2) rfl) (.bool sa) (.slice Aa na ca) (.bool ta) (.slice Ba ma da))).atI ((hE.here.1.1.1.1.1.1.2).far4 (R := g222) (by first | omega | exact At.apart (hE.here.1.1.1.1.1.1.2) (hE.here.1.2) rfl) (.bool sa) (.slice Aa na ca) (.bool ta) (.slice Ba ma da))).atI ((hE.here.1.1.1.1.1.2).far4 (R := g222) (by first | omega | exact At.apart (hE.here.1.1.1.1.1.2) (hE.here.1.2) rfl) (.bool sa) (.slice Aa na ca) (.bool ta) (.slice Ba ma da))).atI ((hE.here.1.1.1.1.2).far4 (R := g222) (by first | omega | exact At.apart (hE.here.1.1.1.1.2) (hE.here.1.2) rfl) (.bool sa) (.slice Aa na ca) (.bool ta) (.slice Ba ma da))).atI ((hE.here.1.1.1.2).far4 (R := g222) (by first | omega | exact At.apart (hE.here.1.1.1.2) (hE.here.1.2) rfl) (.bool sa) (.slice Aa na ca) (.bool ta) (.slice Ba ma da))).atI ((hE.here.1.1.2).far4 (R := g222) (by first | omega | exact At.apart (hE.here.1.1.2) (hE.here.1.2) rfl) (.bool sa) (.slice Aa na ca) (.bool ta) (.slice Ba ma da))).blkI ((hE.here.1.2).s4 (.bool sa) (.slice Aa na ca) (.bool ta) (.slice Ba ma da))).blkI ((hE.here.2).far4 (R := g222) (by omega) (.bool sa) (.slice Aa na ca) (.bool ta) (.slice Ba ma da)))
         go_simp
         clear x224_0 x224_1 x224_2 x224_3 f224_0 f224_1 f224_2 f224_3 hgl224
         generalize ((((W223.setCell ⟨g222, 0, none⟩ (.bool sa)).setCell ⟨g222, 1, none⟩ (.slice Aa na ca)).setCell ⟨g222, 2, none⟩ (.bool ta)).setCell ⟨g222, 3, none⟩ (.slice Ba ma da)) = W224 at hE ⊢
         refine hK.out _ _ (⟨(hE.here.1.1.1.1.1.1.1.1.1.2).2, (hE.here.1.1.1.1.1.1.1.1.2).2, (hE.here.1.1.1.1.1.1.1.2).2, (hE.here.1.1.1.1.1.1.2).2, (hE.here.1.1.1.1.1.2).2, (hE.here.1.1.1.1.2).2, (hE.here.1.1.1.2).2, (hE.here.1.1.2).2⟩) (fun hHeld => ?_)
         clear hK K
         try simp only [PL]
         refine r1 10 (fun K hK => ?_)
         have hgl225 : w.heap.size ≤ g223 := by omega
         obtain ⟨x225_0, x225_1, x225_2, x225_3⟩ := (hE.here.2).c4
         obtain ⟨f225_0, f225_1, f225_2, f225_3⟩ := hE.here.2.f4
         replace hE := ((((((((((((((((Env.again (bel4 hE.bel hgl225 (.bool ss) (.slice As ns cs) (.bool ts) (.slice Bs ms ds))).atI ((hE.here.1.1.1.1.1.1.1.1.1.1.1.1.1.1.2).far4 (R := g223) (by first | omega | exact At.apart (hE.here.1.1.1.1.1.1.1.1.1.1.1.1.1.1.2) (hE.here.2) rfl) (.bool ss) (.slice As ns cs) (.bool ts) (.slice Bs ms ds))).fv ((hE.here.1.1.1.1.1.1.1.1.1.1.1.1.1.2).sep4 hE.here.2 rfl (.bool ss) (.slice As ns cs) (.bool ts) (.slice Bs ms ds) rfl rfl rfl)).fv ((hE.here.1.1.1.1.1.1.1.1.1.1.1.1.2).sep4 hE.here.2 rfl (.bool ss) (.slice As ns cs) (.bool ts) (.slice Bs ms ds) rfl rfl rfl)).fv ((hE.here.1.1.1.1.1.1.1.1.1.1.1.2).sep4 hE.here.2 rfl (.bool ss) (.slice As ns cs) (.bool ts) (.slice Bs ms ds) rfl rfl rfl)).blkI ((hE.here.1.1.1.1.1.1.1.1.1.1.2).far4 (R := g223) (by omega) (.bool ss) (.slice As ns cs) (.bool ts) (.slice Bs ms ds))).atI ((hE.here.1.1.1.1.1.1.1.1.1.2).far4 (R := g223) (by first | omega | exact At.apart (hE.here.1.1.1.1.1.1.1.1.1.2) (hE.here.2) rfl) (.bool ss) (.slice As ns cs) (.bool ts) (.slice Bs ms ds))).atI ((hE.here.1.1.1.1.1.1.1.1.2).far4 (R := g223) (by first | omega | exact At.apart (hE.here.1.1.1.1.1.1.1.1.2) (hE.here.2) rfl) (.bool ss) (.slice As ns cs) (.bool ts) (.slice Bs ms ds))).atI ((hE.here.1.1.1.1.1.1.1.2).far4 (R := g223) (by first | omega | exact At.apart (hE.here.1.1.1.1.1.1.1.2) (hE.here.2) rfl) (.bool ss) (.slice As ns cs) (.bool ts) (.slice Bs ms ds))).atI ((hE.here.1.1.1.1.1.1.2).far4 (R := g223) (by first | omega | exact At.apart (hE.here.1.1.1.1.1.1.2) (hE.here.2) rfl) (.bool ss) (.slice As ns cs) (.bool ts) (.slice Bs ms ds))).atI ((hE.here.1.1.1.1.1.2).far4 (R := g223) (by first | omega | exact At.apart (hE.here.1.1.1.1.1.2) (hE.here.2) rfl) (.bool ss) (.slice As ns cs) (.bool ts) (.slice Bs ms ds))).atI ((hE.here.1.1.1.1.2).far4 (R := g223) (by first | omega | exact At.apart (hE.here.1.1.1.1.2) (hE.here.2) rfl) (.bool ss) (.slice As ns cs) (.bool ts) (.slice Bs ms ds))).atI ((hE.here.1.1.1.2).far4 (R := g223) (by first | omega | exact At.apart (hE.here.1.1.1.2) (hE.here.2) rfl) (.bool ss) (.slice As ns cs) (.bool ts) (.slice Bs ms ds))).atI ((hE.here.1.1.2).far4 (R := g223) (by first | omega | exact At.apart (hE.here.1.1.2) (hE.here.2) rfl) (.bool ss) (.slice As ns cs) (.bool ts) (.slice Bs ms ds))).blkI ((hE.here.1.2).far4 (R := g223) (by omega) (.bool ss) (.slice As ns cs) (.bool ts) (.slice Bs ms ds))).blkI ((hE.here.2).s4 (.bool ss) (.slice As ns cs) (.bool ts) (.slice Bs ms ds)))
         go_simp
         clear x225_0 x225_1 x225_2 x225_3 f225_0 f225_1 f225_2 f225_3 hgl225
         generalize ((((W224.setCell ⟨g223, 0, none⟩ (.bool ss)).setCell ⟨g223, 1, none⟩ (.slice As ns cs)).setCell ⟨g223, 2, none⟩ (.bool ts)).setCell ⟨g223, 3, none⟩ (.slice Bs ms ds)) = W225 at hE ⊢
         refine hK.out _ _ (⟨(hE.here.1.1.1.1.1.1.1.1.1.2).2, (hE.here.1.1.1.1.1.1.1.1.2).2, (hE.here.1.1.1.1.1.1.1.2).2, (hE.here.1.1.1.1.1.1.2).2, (hE.here.1.1.1.1.1.2).2, (hE.here.1.1.1.1.2).2, (hE.here.1.1.1.2).2, (hE.here.1.1.2).2⟩) (fun hHeld => ?_)
         clear hK K
         try simp only [PL]
         refine wpAnyH_done (by kernel_rfl) ?_ _
         go_wp2_with fail
         go_meet
         exact ⟨g222, g223, rfl, rfl, ((((((((((((((((Env.again hE.bel).atI (hE.here.1.1.1.1.1.1.1.1.1.1.1.1.1.1.2)).fv (hE.here.1.1.1.1.1.1.1.1.1.1.1.1.1.2)).fv (hE.here.1.1.1.1.1.1.1.1.1.1.1.1.2)).fv (hE.here.1.1.1.1.1.1.1.1.1.1.1.2)).blkI (hE.here.1.1.1.1.1.1.1.1.1.1.2)).atI (hE.here.1.1.1.1.1.1.1.1.1.2)).atI (hE.here.1.1.1.1.1.1.1.1.2)).atI (hE.here.1.1.1.1.1.1.1.2)).atI (hE.here.1.1.1.1.1.1.2)).atI (hE.here.1.1.1.1.1.2)).atI (hE.here.1.1.1.1.2)).atI (hE.here.1.1.1.2)).atI (hE.here.1.1.2)).blkI (hE.here.1.2)).blkI (hE.here.2))⟩
        ·
         go_simp
         obtain ⟨g226, hg226⟩ : ∃ g226, g226 = wd.heap.size := ⟨_, rfl⟩
         have hwg226 : w.heap.size ≤ g226 := by rw [hg226]; exact hE.bel.size
         have hl226_4 : g12 < g226 := by rw [hg226]; exact (hE.here.1.1.1.1.1.1.1.1.2).lt
         replace hE := hE.blk 26 #[.bool false, .slice none 0 0, .bool false, .slice none 0 0] (g := g226) hg226.symm
         generalize wd.alloc (.cells #[.bool false, .slice none 0 0, .bool false, .slice none 0 0] 26) = W226 at hE ⊢
         rw [← hg226]
         clear hg226
         refine hK.out _ _ (⟨(hE.here.1.1.1.1.1.1.1.1.2).2, (hE.here.1.1.1.1.1.1.1.2).2, (hE.here.1.1.1.1.1.1.2).2, (hE.here.1.1.1.1.1.2).2, (hE.here.1.1.1.1.2).2, (hE.here.1.1.1.2).2, (hE.here.1.1.2).2, (hE.here.1.2).2⟩) (fun hHeld => ?_)
         clear hK K
         try simp only [PL]
         refine r1 7 (fun K hK => ?_)
         go_simp
         obtain ⟨g227, hg227⟩ : ∃ g227, g227 = W226.heap.size := ⟨_, rfl⟩
         have hwg227 : w.heap.size ≤ g227 := by rw [hg227]; exact hE.bel.size
         have hl227_4 : g12 < g227 := by rw [hg227]; exact (hE.here.1.1.1.1.1.1.1.1.1.2).lt
         have hl227_13 : g226 < g227 := by rw [hg227]; exact (hE.here.2).lt
         replace hE := hE.blk 26 #[.bool false, .slice none 0 0, .bool false, .slice none 0 0] (g := g227) hg227.symm
         generalize W226.alloc (.cells #[.bool false, .slice none 0 0, .bool false, .slice none 0 0] 26) = W227 at hE ⊢
         rw [← hg227]
         clear hg227
         refine hK.out _ _ (⟨(hE.here.1.1.1.1.1.1.1.1.1.2).2, (hE.here.1.1.1.1.1.1.1.1.2).2, (hE.here.1.1.1.1.1.1.1.2).2, (hE.here.1.1.1.1.1.1.2).2, (hE.here.1.1.1.1.1.2).2, (hE.here.1.1.1.1.2).2, (hE.here.1.1.1.2).2, (hE.here.1.1.2).2⟩) (fun hHeld => ?_)
         clear hK K
         try simp only [PL]
         refine r1 9 (fun K hK => ?_)
         have hgl228 : w.heap.size ≤ g227 := by omega
         obtain ⟨x228_0, x228_1, x228_2, x228_3⟩ := (hE.here.2).c4
         obtain ⟨f228_0, f228_1, f228_2, f228_3⟩ := hE.here.2.f4
         replace hE := ((((((((((((((((Env.again (bel4 hE.bel hgl228 (.bool sa) (.slice Aa na ca) (.bool ta) (.slice Ba ma da))).atI ((hE.here.1.1.1.1.1.1.1.1.1.1.1.1.1.1.2).far4 (R := g227) (by first | omega | exact At.apart (hE.here.1.1.1.1.1.1.1.1.1.1.1.1.1.1.2) (hE.here.2) rfl) (.bool sa) (.slice Aa na ca) (.bool ta) (.slice Ba ma da))).fv ((hE.here.1.1.1.1.1.1.1.1.1.1.1.1.1.2).sep4 hE.here.2 rfl (.bool sa) (.slice Aa na ca) (.bool ta) (.slice Ba ma da) rfl rfl rfl)).fv ((hE.here.1.1.1.1.1.1.1.1.1.1.1.1.2).sep4 hE.here.2 rfl (.bool sa) (.slice Aa na ca) (.bool ta) (.slice Ba ma da) rfl rfl rfl)).fv ((hE.here.1.1.1.1.1.1.1.1.1.1.1.2).sep4 hE.here.2 rfl (.bool sa) (.slice Aa na ca) (.bool ta) (.slice Ba ma da) rfl rfl rfl)).blkI ((hE.here.1.1.1.1.1.1.1.1.1.1.2).far4 (R := g227) (by omega) (.bool sa) (.slice Aa na ca) (.bool ta) (.slice Ba ma da))).atI ((hE.here.1.1.1.1.1.1.1.1.1.2).far4 (R := g227) (by first | omega | exact At.apart (hE.here.1.1.1.1.1.1.1.1.1.2) (hE.here.2) rfl) (.bool sa) (.slice Aa na ca) (.bool ta) (.slice Ba ma da))).atI ((hE.here.1.1.1.1.1.1.1.1.2).far4 (R := g227) (by first | omega | exact At.apart (hE.here.1.1.1.1.1.1.1.1.2) (hE.here.2) rfl) (.bool sa) (.slice Aa na ca) (.bool ta) (.slice Ba ma da))).atI ((hE.here.1.1.1.1.1.1.1.2).far4 (R := g227) (by first | omega | exact At.apart (hE.here.1.1.1.1.1.1.1.2) (hE.here.2) rfl) (.bool sa) (.slice Aa na ca) (.bool ta) (.slice Ba ma da))).atI ((hE.here.1.1.1.1.1.1.2).far4 (R := g227) (by first | omega | exact At.apart (hE.here.1.1.1.1.1.1.2) (hE.here.2) rfl) (.bool sa) (.slice Aa na ca) (.bool ta) (.slice Ba ma da))).atI ((hE.here.1.1.1.1.1.2).far4 (R := g227) (by first | omega | exact At.apart (hE.here.1.1.1.1.1.2) (hE.here.2) rfl) (.bool sa) (.slice Aa na ca) (.bool ta) (.slice Ba ma da))).atI ((hE.here.1.1.1.1.2).far4 (R := g227) (by first | omega | exact At.apart (hE.here.1.1.1.1.2) (hE.here.2) rfl) (.bool sa) (.slice Aa na ca) (.bool ta) (.slice Ba ma da))).atI ((hE.here.1.1.1.2).far4 (R := g227) (by first | omega | exact At.apart (hE.here.1.1.1.2) (hE.here.2) rfl) (.bool sa) (.slice Aa na ca) (.bool ta) (.slice Ba ma da))).atI ((hE.here.1.1.2).far4 (R := g227) (by first | omega | exact At.apart (hE.here.1.1.2) (hE.here.2) rfl) (.bool sa) (.slice Aa na ca) (.bool ta) (.slice Ba ma da))).blkI ((hE.here.1.2).far4 (R := g227) (by omega) (.bool sa) (.slice Aa na ca) (.bool ta) (.slice Ba ma da))).blkI ((hE.here.2).s4 (.bool sa) (.slice Aa na ca) (.bool ta) (.slice Ba ma da)))
         go_simp
         clear x228_0 x228_1 x228_2 x228_3 f228_0 f228_1 f228_2 f228_3 hgl228
         generalize ((((W227.setCell ⟨g227, 0, none⟩ (.bool sa)).setCell ⟨g227, 1, none⟩ (.slice Aa na ca)).setCell ⟨g227, 2, none⟩ (.bool ta)).setCell ⟨g227, 3, none⟩ (.slice Ba ma da)) = W228 at hE ⊢
         refine hK.out _ _ (⟨(hE.here.1.1.1.1.1.1.1.1.1.2).2, (hE.here.1.1.1.1.1.1.1.1.2).2, (hE.here.1.1.1.1.1.1.1.2).2, (hE.here.1.1.1.1.1.1.2).2, (hE.here.1.1.1.1.1.2).2, (hE.here.1.1.1.1.2).2, (hE.here.1.1.1.2).2, (hE.here.1.1.2).2⟩) (fun hHeld => ?_)
         clear hK K
         try simp only [PL]
         refine r1 10 (fun K hK => ?_)
         have hgl229 : w.heap.size ≤ g226 := by omega
         obtain ⟨x229_0, x229_1, x229_2, x229_3⟩ := (hE.here.1.2).c4
         obtain ⟨f229_0, f229_1, f229_2, f229_3⟩ := hE.here.1.2.f4
         replace hE := ((((((((((((((((Env.again (bel4 hE.bel hgl229 (.bool ss) (.slice As ns cs) (.bool ts) (.slice Bs ms ds))).atI ((hE.here.1.1.1.1.1.1.1.1.1.1.1.1.1.1.2).far4 (R := g226) (by first | omega | exact At.apart (hE.here.1.1.1.1.1.1.1.1.1.1.1.1.1.1.2) (hE.here.1.2) rfl) (.bool ss) (.slice As ns cs) (.bool ts) (.slice Bs ms ds))).fv ((hE.here.1.1.1.1.1.1.1.1.1.1.1.1.1.2).sep4 hE.here.1.2 rfl (.bool ss) (.slice As ns cs) (.bool ts) (.slice Bs ms ds) rfl rfl rfl)).fv ((hE.here.1.1.1.1.1.1.1.1.1.1.1.1.2).sep4 hE.here.1.2 rfl (.bool ss) (.slice As ns cs) (.bool ts) (.slice Bs ms ds) rfl rfl rfl)).fv ((hE.here.1.1.1.1.1.1.1.1.1.1.1.2).sep4 hE.here.1.2 rfl (.bool ss) (.slice As ns cs) (.bool ts) (.slice Bs ms ds) rfl rfl rfl)).blkI ((hE.here.1.1.1.1.1.1.1.1.1.1.2).far4 (R := g226) (by omega) (.bool ss) (.slice As ns cs) (.bool ts) (.slice Bs ms ds))).atI ((hE.here.1.1.1.1.1.1.1.1.1.2).far4 (R := g226) (by first | omega | exact At.apart (hE.here.1.1.1.1.1.1.1.1.1.2) (hE.here.1.2) rfl) (.bool ss) (.slice As ns cs) (.bool ts) (.slice Bs ms ds))).atI ((hE.here.1.1.1.1.1.1.1.1.2).far4 (R := g226) (by first | omega | exact At.apart (hE.here.1.1.1.1.1.1.1.1.2) (hE.here.1.2) rfl) (.bool ss) (.slice As ns cs) (.bool ts) (.slice Bs ms ds))).atI ((hE.here.1.1.1.1.1.1.1.2).far4 (R := g226) (by first | omega | exact At.apart (hE.here.1.1.1.1.1.1.1.2) (hE.here.1.2) rfl) (.bool ss) (.slice As ns cs) (.bool ts) (.slice Bs ms ds))).atI ((hE.here.1.1.1.1.1.1.2).far4 (R := g226) (by first | omega | exact At.apart (hE.here.1.1.1.1.1.1.2) (hE.here.1.2) rfl) (.bool ss) (.slice As ns cs) (.bool ts) (.slice Bs ms ds))).atI ((hE.here.1.1.1.1.1.2).far4 (R := g226) (by first | omega | exact At.apart (hE.here.1.1.1.1.1.2) (hE.here.1.2) rfl) (.bool ss) (.slice As ns cs) (.bool ts) (.slice Bs ms ds))).atI ((hE.here.1.1.1.1.2).far4 (R := g226) (by first | omega | exact At.apart (hE.here.1.1.1.1.2) (hE.here.1.2) rfl) (.bool ss) (.slice As ns cs) (.bool ts) (.slice Bs ms ds))).atI ((hE.here.1.1.1.2).far4 (R := g226) (by first | omega | exact At.apart (hE.here.1.1.1.2) (hE.here.1.2) rfl) (.bool ss) (.slice As ns cs) (.bool ts) (.slice Bs ms ds))).atI ((hE.here.1.1.2).far4 (R := g226) (by first | omega | exact At.apart (hE.here.1.1.2) (hE.here.1.2) rfl) (.bool ss) (.slice As ns cs) (.bool ts) (.slice Bs ms ds))).blkI ((hE.here.1.2).s4 (.bool ss) (.slice As ns cs) (.bool ts) (.slice Bs ms ds))).blkI ((hE.here.2).far4 (R := g226) (by omega) (.bool ss) (.slice As ns cs) (.bool ts) (.slice Bs ms ds)))
         go_simp
         clear x229_0 x229_1 x229_2 x229_3 f229_0 f229_1 f229_2 f229_3 hgl229
         generalize ((((W228.setCell ⟨g226, 0, none⟩ (.bool ss)).setCell ⟨g226, 1, none⟩ (.slice As ns cs)).setCell ⟨g226, 2, none⟩ (.bool ts)).setCell ⟨g226, 3, none⟩ (.slice Bs ms ds)) = W229 at hE ⊢
         refine hK.out _ _ (⟨(hE.here.1.1.1.1.1.1.1.1.1.2).2, (hE.here.1.1.1.1.1.1.1.1.2).2, (hE.here.1.1.1.1.1.1.1.2).2, (hE.here.1.1.1.1.1.1.2).2, (hE.here.1.1.1.1.1.2).2, (hE.here.1.1.1.1.2).2, (hE.here.1.1.1.2).2, (hE.here.1.1.2).2⟩) (fun hHeld => ?_)
         clear hK K
         try simp only [PL]
         refine wpAnyH_done (by kernel_rfl) ?_ _
         go_wp2_with fail
         go_meet
         exact ⟨g227, g226, rfl, rfl, ((((((((((((((((Env.again hE.bel).atI (hE.here.1.1.1.1.1.1.1.1.1.1.1.1.1.1.2)).fv (hE.here.1.1.1.1.1.1.1.1.1.1.1.1.1.2)).fv (hE.here.1.1.1.1.1.1.1.1.1.1.1.1.2)).fv (hE.here.1.1.1.1.1.1.1.1.1.1.1.2)).blkI (hE.here.1.1.1.1.1.1.1.1.1.1.2)).atI (hE.here.1.1.1.1.1.1.1.1.1.2)).atI (hE.here.1.1.1.1.1.1.1.1.2)).atI (hE.here.1.1.1.1.1.1.1.2)).atI (hE.here.1.1.1.1.1.1.2)).atI (hE.here.1.1.1.1.1.2)).atI (hE.here.1.1.1.1.2)).atI (hE.here.1.1.1.2)).atI (hE.here.1.1.2)).blkI (hE.here.2)).blkI (hE.here.1.2))⟩
       case rest =>
       clear hE
       obtain ⟨G17_7, G17_8, rfl, rfl, hE⟩ := hcut
       generalize wc = wk17 at hE ⊢
       go_upto_region 18 with (fail)
       by_cases hs1 : fl (((((X : Int) : Rat) ^ N) / (((Y : Int) : Rat) ^ M)) + ((((X : Int) : Rat) ^ N) / (((Y : Int) : Rat) ^ M) + Rat.divInt 1 3)) ≤ 256
       ·
        have HS1 := Lib.hid hs1
        clear hs1
        obtain ⟨k230, k231, k232, k233⟩ := (hE.here.1.2).c4
        obtain ⟨k234, k235, k236, k237⟩ := (hE.here.2).c4
        go_wp2_with fail
        refine (fadd_v (ca := ca) (da := da) (cb := cs) (db := ds) (hE.here.1.1.1.1.1.1.1.1.1.1.1.1.1.2) (hE.here.1.1.1.1.1.1.1.1.1.1.1.2) Hlf1.out Hlf3.out HS1.out).mono ?_
        clear k230 k231 k232 k233 k234 k235 k236 k237
        rintro e w238 ⟨sr, Ar, nr, cr, tr, Br, mr, dr, rfl, hr, hb⟩
        replace hE := hE.step hb
        clear hb
        replace hE := hE.fv hr
        clear hr
        go_upto_region 19 with (fail)
        obtain ⟨g239, hg239⟩ : ∃ g239, g239 = w238.heap.size := ⟨_, rfl⟩
        have hwg239 : w.heap.size ≤ g239 := by rw [hg239]; exact hE.bel.size
        have hl239_4 : g12 < g239 := by rw [hg239]; exact (hE.here.1.1.1.1.1.1.1.1.1.1.1.2).lt
        have hl239_13 : G17_7 < g239 := by rw [hg239]; exact (hE.here.1.1.2).lt
        have hl239_14 : G17_8 < g239 := by rw [hg239]; exact (hE.here.1.2).lt
        replace hE := hE.blk 26 #[.bool sr, .slice Ar nr cr, .bool tr, .slice Br mr dr] (g := g239) hg239.symm
        generalize w238.alloc (.cells #[.bool sr, .slice Ar nr cr, .bool tr, .slice Br mr dr] 26) = W239 at hE ⊢
        rw [← hg239]
        clear hg239
        obtain ⟨k240, k241, k242, k243⟩ := (hE.here.1.1.1.2).c4
        obtain ⟨k244, k245, k246, k247⟩ := (hE.here.1.1.2).c4
        go_wp2_with fail
        refine (rfadd_ok (ca := ca) (da := da) (cb := cs) (db := ds) (hE.here.1.1.1.1.1.1.1.1.1.1.1.1.1.1.1.2) (hE.here.1.1.1.1.1.1.1.1.1.1.1.1.1.2) Hlf1.out Hlf3.out HS1.out).mono ?_
        clear k240 k241 k242 k243 k244 k245 k246 k247
        rintro e w248 ⟨se, Ae, ne, ce, te, Be, me, de, rfl, he, hb⟩
        replace hE := hE.step hb
        clear hb
        replace hE := hE.fv he
        clear he
        go_upto_region 20 with (fail)
        obtain ⟨g249, hg249⟩ : ∃ g249, g249 = w248.heap.size := ⟨_, rfl⟩
        have hwg249 : w.heap.size ≤ g249 := by rw [hg249]; exact hE.bel.size
        have hl249_4 : g12 < g249 := by rw [hg249]; exact (hE.here.1.1.1.1.1.1.1.1.1.1.1.1.1.2).lt
        have hl249_13 : G17_7 < g249 := by rw [hg249]; exact (hE.here.1.1.1.1.2).lt
        have hl249_14 : G17_8 < g249 := by rw [hg249]; exact (hE.here.1.1.1.2).lt
        have hl249_16 : g239 < g249 := by rw [hg249]; exact (hE.here.1.2).lt
        replace hE := hE.blk 26 #[.bool se, .slice Ae ne ce, .bool te, .slice Be me de] (g := g249) hg249.symm
        generalize w248.alloc (.cells #[.bool se, .slice Ae ne ce, .bool te, .slice Be me de] 26) = W249 at hE ⊢
        rw [← hg249]
        clear hg249
        by_cases hs2 : fl (((((X : Int) : Rat) ^ N) / (((Y : Int) : Rat) ^ M)) * ((((X : Int) : Rat) ^ N) / (((Y : Int) : Rat) ^ M) + Rat.divInt 1 3)) ≤ 256
        ·
         have HS2 := Lib.hid hs2
         clear hs2
         obtain ⟨k250, k251, k252, k253⟩ := (hE.here.1.1.1.1.1.2).c4
         obtain ⟨k254, k255, k256, k257⟩ := (hE.here.1.1.1.1.2).c4
         go_wp2_with fail
         refine (fmul_v (ca := ca) (da := da) (cb := cs) (db := ds) (hE.here.1.1.1.1.1.1.1.1.1.1.1.1.1.1.1.1.1.2) (hE.here.1.1.1.1.1.1.1.1.1.1.1.1.1.1.1.2) Hlf1.out Hlf3.out HS2.out).mono ?_
         clear k250 k251 k252 k253 k254 k255 k256 k257
         rintro e w258 ⟨sm, Am, nm, cm, tm, Bm, mm, dm, rfl, hm, hb⟩
         replace hE := hE.step hb
         clear hb
         replace hE := hE.fv hm
         clear hm
         go_upto_region 21 with (fail)
         obtain ⟨g259, hg259⟩ : ∃ g259, g259 = w258.heap.size := ⟨_, rfl⟩
         have hwg259 : w.heap.size ≤ g259 := by rw [hg259]; exact hE.bel.size
         have hl259_4 : g12 < g259 := by rw [hg259]; exact (hE.here.1.1.1.1.1.1.1.1.1.1.1.1.1.1.1.2).lt
         have hl259_13 : G17_7 < g259 := by rw [hg259]; exact (hE.here.1.1.1.1.1.1.2).lt
         have hl259_14 : G17_8 < g259 := by rw [hg259]; exact (hE.here.1.1.1.1.1.2).lt
         have hl259_16 : g239 < g259 := by rw [hg259]; exact (hE.here.1.1.1.2).lt
         have hl259_18 : g249 < g259 := by rw [hg259]; exact (hE.here.1.2).lt
         replace hE := hE.blk 26 #[.bool sm, .slice Am nm cm, .bool tm, .slice Bm mm dm] (g := g259) hg259.symm
         generalize w258.alloc (.cells #[.bool sm, .slice Am nm cm, .bool tm, .slice Bm mm dm] 26) = W259 at hE ⊢
         rw [← hg259]
         clear hg259
         obtain ⟨k260, k261, k262, k263⟩ := (hE.here.1.1.1.1.1.1.1.2).c4
         obtain ⟨k264, k265, k266, k267⟩ := (hE.here.1.1.1.1.1.1.2).c4
         go_wp2_with fail
         refine (rfmul_ok (ca := ca) (da := da) (cb := cs) (db := ds) (hE.here.1.1.1.1.1.1.1.1.1.1.1.1.1.1.1.1.1.1.1.2) (hE.here.1.1.1.1.1.1.1.1.1.1.1.1.1.1.1.1.1.2) Hlf1.out Hlf3.out HS2.out).mono ?_
         clear k260 k261 k262 k263 k264 k265 k266 k267
         rintro e w268 ⟨sn, An, nn, cn, tn, Bn, mn, dn, rfl, hn, hb⟩
         replace hE := hE.step hb
         clear hb
         replace hE := hE.fv hn
         clear hn
         go_upto_region 22 with (fail)
         obtain ⟨g269, hg269⟩ : ∃ g269, g269 = w268.heap.size := ⟨_, rfl⟩
         have hwg269 : w.heap.size ≤ g269 := by rw [hg269]; exact hE.bel.size
         have hl269_4 : g12 < g269 := by rw [hg269]; exact (hE.here.1.1.1.1.1.1.1.1.1.1.1.1.1.1.1.1.1.2).lt
         have hl269_13 : G17_7 < g269 := by rw [hg269]; exact (hE.here.1.1.1.1.1.1.1.1.2).lt
         have hl269_14 : G17_8 < g269 := by rw [hg269]; exact (hE.here.1.1.1.1.1.1.1.2).lt
         have hl269_16 : g239 < g269 := by rw [hg269]; exact (hE.here.1.1.1.1.1.2).lt
         have hl269_18 : g249 < g269 := by rw [hg269]; exact (hE.here.1.1.1.2).lt
         have hl269_20 : g259 < g269 := by rw [hg269]; exact (hE.here.1.2).lt
         replace hE := hE.blk 26 #[.bool sn, .slice An nn cn, .bool tn, .slice Bn mn dn] (g := g269) hg269.symm
         generalize w268.alloc (.cells #[.bool sn, .slice An nn cn, .bool tn, .slice Bn mn dn] 26) = W269 at hE ⊢
         rw [← hg269]
         clear hg269
         obtain ⟨k270, k271, k272, k273⟩ := (hE.here.1.1.1.1.1.1.2).c4
         obtain ⟨k274, k275, k276, k277⟩ := (hE.here.1.1.1.1.2).c4
         go_wp2_with fail
         refine (lsame_ok (ca := cr) (da := dr) (cb := ce) (db := de) (hE.here.1.1.1.1.1.1.1.2) (hE.here.1.1.1.1.1.2) HS1.out).mono ?_
         clear k270 k271 k272 k273 k274 k275 k276 k277
         rintro e w278 ⟨rfl, hb⟩
         replace hE := hE.step hb
         clear hb
         obtain ⟨k279, k280, k281, k282⟩ := (hE.here.1.1.2).c4
         obtain ⟨k283, k284, k285, k286⟩ := (hE.here.2).c4
         go_wp2_with fail
         refine (lsame_ok (ca := cm) (da := dm) (cb := cn) (db := dn) (hE.here.1.1.1.2) (hE.here.1.2) HS2.out).mono ?_
         clear k279 k280 k281 k282 k283 k284 k285 k286
         rintro e w287 ⟨rfl, hb⟩
         replace hE := hE.step hb
         clear hb
         go_wp2_with fail
         go_roundw
         case rel => (repeat apply Exists.intro); exact ⟨⟨3, by omega, by omega, by go_num, ((((((Env.again hE.bel).atI (hE.here.1.1.1.1.1.1.1.1.1.1.1.1.1.1.1.1.1.1.1.1.1.1.2)).fv (hE.here.1.1.1.1.1.1.1.1.1.1.1.1.1.1.1.1.1.1.1.1.1.2)).fv (hE.here.1.1.1.1.1.1.1.1.1.1.1.1.1.1.1.1.1.1.1.1.2)).fv (hE.here.1.1.1.1.1.1.1.1.1.1.1.1.1.1.1.1.1.1.1.2)).blkI (hE.here.1.1.1.1.1.1.1.1.1.1.1.1.1.1.1.1.1.1.2))⟩, rfl⟩
         case measure => (simp [intOf]) <;> omega
        ·
         have HS2 := Lib.hid hs2
         clear hs2
         obtain ⟨k288, k289, k290, k291⟩ := (hE.here.1.1.1.1.1.2).c4
         obtain ⟨k292, k293, k294, k295⟩ := (hE.here.1.1.1.1.2).c4
         go_wp2_with fail
         refine (fmul_long (ca := ca) (da := da) (cb := cs) (db := ds) (hE.here.1.1.1.1.1.1.1.1.1.1.1.1.1.1.1.1.1.2) (hE.here.1.1.1.1.1.1.1.1.1.1.1.1.1.1.1.2) Hlf1.out Hlf3.out (by have := HS2.out; omega)).mono ?_
         clear k288 k289 k290 k291 k292 k293 k294 k295
         rintro e w296 ⟨rfl, hb⟩
         replace hE := hE.step hb
         clear hb
         go_upto_region 21 with (fail)
         obtain ⟨g297, hg297⟩ : ∃ g297, g297 = w296.heap.size := ⟨_, rfl⟩
         have hwg297 : w.heap.size ≤ g297 := by rw [hg297]; exact hE.bel.size
         have hl297_4 : g12 < g297 := by rw [hg297]; exact (hE.here.1.1.1.1.1.1.1.1.1.1.1.1.1.1.2).lt
         have hl297_13 : G17_7 < g297 := by rw [hg297]; exact (hE.here.1.1.1.1.1.2).lt
         have hl297_14 : G17_8 < g297 := by rw [hg297]; exact (hE.here.1.1.1.1.2).lt
         have hl297_16 : g239 < g297 := by rw [hg297]; exact (hE.here.1.1.2).lt
         have hl297_18 : g249 < g297 := by rw [hg297]; exact (hE.here.2).lt
         replace hE := hE.blk 26 #[.bool false, .slice none 0 0, .bool false, .slice none 0 0] (g := g297) hg297.symm
         generalize w296.alloc (.cells #[.bool false, .slice none 0 0, .bool false, .slice none 0 0] 26) = W297 at hE ⊢
         rw [← hg297]
         clear hg297
         obtain ⟨k298, k299, k300, k301⟩ := (hE.here.1.1.1.1.1.1.2).c4
         obtain ⟨k302, k303, k304, k305⟩ := (hE.here.1.1.1.1.1.2).c4
         go_wp2_with fail
         refine (rfmul_long (ca := ca) (da := da) (cb := cs) (db := ds) (hE.here.1.1.1.1.1.1.1.1.1.1.1.1.1.1.1.1.1.1.2) (hE.here.1.1.1.1.1.1.1.1.1.1.1.1.1.1.1.1.2) Hlf1.out Hlf3.out (by have := HS2.out; omega)).mono ?_
         clear k298 k299 k300 k301 k302 k303 k304 k305
         rintro e w306 ⟨rfl, hb⟩
         replace hE := hE.step hb
         clear hb
         go_upto_region 22 with (fail)
         obtain ⟨g307, hg307⟩ : ∃ g307, g307 = w306.heap.size := ⟨_, rfl⟩
         have hwg307 : w.heap.size ≤ g307 := by rw [hg307]; exact hE.bel.size
         have hl307_4 : g12 < g307 := by rw [hg307]; exact (hE.here.1.1.1.1.1.1.1.1.1.1.1.1.1.1.1.2).lt
         have hl307_13 : G17_7 < g307 := by rw [hg307]; exact (hE.here.1.1.1.1.1.1.2).lt
         have hl307_14 : G17_8 < g307 := by rw [hg307]; exact (hE.here.1.1.1.1.1.2).lt
         have hl307_16 : g239 < g307 := by rw [hg307]; exact (hE.here.1.1.1.2).lt
         have hl307_18 : g249 < g307 := by rw [hg307]; exact (hE.here.1.2).lt
         have hl307_19 : g297 < g307 := by rw [hg307]; exact (hE.here.2).lt
         replace hE := hE.blk 26 #[.bool false, .slice none 0 0, .bool false, .slice none 0 0] (g := g307) hg307.symm
         generalize w306.alloc (.cells #[.bool false, .slice none 0 0, .bool false, .slice none 0 0] 26) = W307 at hE ⊢
         rw [← hg307]
         clear hg307
         obtain ⟨k308, k309, k310, k311⟩ := (hE.here.1.1.1.1.2).c4
         obtain ⟨k312, k313, k314, k315⟩ := (hE.here.1.1.2).c4
         go_wp2_with fail
         refine (lsame_ok (ca := cr) (da := dr) (cb := ce) (db := de) (hE.here.1.1.1.1.1.2) (hE.here.1.1.1.2) HS1.out).mono ?_
         clear k308 k309 k310 k311 k312 k313 k314 k315
         rintro e w316 ⟨rfl, hb⟩
         replace hE := hE.step hb
         clear hb
         obtain ⟨k317, k318, k319, k320⟩ := (hE.here.1.2).c4
         obtain ⟨k321, k322, k323, k324⟩ := (hE.here.2).c4
         go_wp2_with fail
         refine (lsame_err).mono ?_
         clear k317 k318 k319 k320 k321 k322 k323 k324
         rintro e w325 ⟨rfl, hb⟩
         replace hE := hE.step hb
         clear hb
         go_wp2_with fail
         go_roundw
         case rel => (repeat apply Exists.intro); exact ⟨⟨3, by omega, by omega, by go_num, ((((((Env.again hE.bel).atI (hE.here.1.1.1.1.1.1.1.1.1.1.1.1.1.1.1.1.1.1.1.1.2)).fv (hE.here.1.1.1.1.1.1.1.1.1.1.1.1.1.1.1.1.1.1.1.2)).fv (hE.here.1.1.1.1.1.1.1.1.1.1.1.1.1.1.1.1.1.1.2)).fv (hE.here.1.1.1.1.1.1.1.1.1.1.1.1.1.1.1.1.1.2)).blkI (hE.here.1.1.1.1.1.1.1.1.1.1.1.1.1.1.1.1.2))⟩, rfl⟩
         case measure => (simp [intOf]) <;> omega
       ·
        have HS1 := Lib.hid hs1
        clear hs1
        obtain ⟨k326, k327, k328, k329⟩ := (hE.here.1.2).c4
        obtain ⟨k330, k331, k332, k333⟩ := (hE.here.2).c4
        go_wp2_with fail
        refine (fadd_long (ca := ca) (da := da) (cb := cs) (db := ds) (hE.here.1.1.1.1.1.1.1.1.1.1.1.1.1.2) (hE.here.1.1.1.1.1.1.1.1.1.1.1.2) Hlf1.out Hlf3.out (by have := HS1.out; omega)).mono ?_
        clear k326 k327 k328 k329 k330 k331 k332 k333
        rintro e w334 ⟨rfl, hb⟩
        replace hE := hE.step hb
        clear hb
        go_upto_region 19 with (fail)
        obtain ⟨g335, hg335⟩ : ∃ g335, g335 = w334.heap.size := ⟨_, rfl⟩
        have hwg335 : w.heap.size ≤ g335 := by rw [hg335]; exact hE.bel.size
        have hl335_4 : g12 < g335 := by rw [hg335]; exact (hE.here.1.1.1.1.1.1.1.1.1.1.2).lt
        have hl335_13 : G17_7 < g335 := by rw [hg335]; exact (hE.here.1.2).lt
        have hl335_14 : G17_8 < g335 := by rw [hg335]; exact (hE.here.2).lt
        replace hE := hE.blk 26 #[.bool false, .slice none 0 0, .bool false, .slice none 0 0] (g := g335) hg335.symm
        generalize w334.alloc (.cells #[.bool false, .slice none 0 0, .bool false, .slice none 0 0] 26) = W335 at hE ⊢
        rw [← hg335]
        clear hg335
        obtain ⟨k336, k337, k338, k339⟩ := (hE.here.1.1.2).c4
        obtain ⟨k340, k341, k342, k343⟩ := (hE.here.1.2).c4
        go_wp2_with fail
        refine (rfadd_long (ca := ca) (da := da) (cb := cs) (db := ds) (hE.here.1.1.1.1.1.1.1.1.1.1.1.1.1.1.2) (hE.here.1.1.1.1.1.1.1.1.1.1.1.1.2) Hlf1.out Hlf3.out (by have := HS1.out; omega)).mono ?_
        clear k336 k337 k338 k339 k340 k341 k342 k343
        rintro e w344 ⟨rfl, hb⟩
        replace hE := hE.step hb
        clear hb
        go_upto_region 20 with (fail)
        obtain ⟨g345, hg345⟩ : ∃ g345, g345 = w344.heap.size := ⟨_, rfl⟩
        have hwg345 : w.heap.size ≤ g345 := by rw [hg345]; exact hE.bel.size
        have hl345_4 : g12 < g345 := by rw [hg345]; exact (hE.here.1.1.1.1.1.1.1.1.1.1.1.2).lt
        have hl345_13 : G17_7 < g345 := by rw [hg345]; exact (hE.here.1.1.2).lt
        have hl345_14 : G17_8 < g345 := by rw [hg345]; exact (hE.here.1.2).lt
        have hl345_15 : g335 < g345 := by rw [hg345]; exact (hE.here.2).lt
        replace hE := hE.blk 26 #[.bool false, .slice none 0 0, .bool false, .slice none 0 0] (g := g345) hg345.symm
        generalize w344.alloc (.cells #[.bool false, .slice none 0 0, .bool false, .slice none 0 0] 26) = W345 at hE ⊢
        rw [← hg345]
        clear hg345
        by_cases hs2 : fl (((((X : Int) : Rat) ^ N) / (((Y : Int) : Rat) ^ M)) * ((((X : Int) : Rat) ^ N) / (((Y : Int) : Rat) ^ M) + Rat.divInt 1 3)) ≤ 256
        ·
         have HS2 := Lib.hid hs2
         clear hs2
         obtain ⟨k346, k347, k348, k349⟩ := (hE.here.1.1.1.2).c4
         obtain ⟨k350, k351, k352, k353⟩ := (hE.here.1.1.2).c4
         go_wp2_with fail
         refine (fmul_v (ca := ca) (da := da) (cb := cs) (db := ds) (hE.here.1.1.1.1.1.1.1.1.1.1.1.1.1.1.1.2) (hE.here.1.1.1.1.1.1.1.1.1.1.1.1.1.2) Hlf1.out Hlf3.out HS2.out).mono ?_
         clear k346 k347 k348 k349 k350 k351 k352 k353
         rintro e w354 ⟨sm, Am, nm, cm, tm, Bm, mm, dm, rfl, hm, hb⟩
         replace hE := hE.step hb
         clear hb
         replace hE := hE.fv hm
         clear hm
         go_upto_region 21 with (fail)
         obtain ⟨g355, hg355⟩ : ∃ g355, g355 = w354.heap.size := ⟨_, rfl⟩
         have hwg355 : w.heap.size ≤ g355 := by rw [hg355]; exact hE.bel.size
         have hl355_4 : g12 < g355 := by rw [hg355]; exact (hE.here.1.1.1.1.1.1.1.1.1.1.1.1.1.2).lt
         have hl355_13 : G17_7 < g355 := by rw [hg355]; exact (hE.here.1.1.1.1.2).lt
         have hl355_14 : G17_8 < g355 := by rw [hg355]; exact (hE.here.1.1.1.2).lt
         have hl355_15 : g335 < g355 := by rw [hg355]; exact (hE.here.1.1.2).lt
         have hl355_16 : g345 < g355 := by rw [hg355]; exact (hE.here.1.2).lt
         replace hE := hE.blk 26 #[.bool sm, .slice Am nm cm, .bool tm, .slice Bm mm dm] (g := g355) hg355.symm
         generalize w354.alloc (.cells #[.bool sm, .slice Am nm cm, .bool tm, .slice Bm mm dm] 26) = W355 at hE ⊢
         rw [← hg355]
         clear hg355
         obtain ⟨k356, k357, k358, k359⟩ := (hE.here.1.1.1.1.1.2).c4
         obtain ⟨k360, k361, k362, k363⟩ := (hE.here.1.1.1.1.2).c4
         go_wp2_with fail
         refine (rfmul_ok (ca := ca) (da := da) (cb := cs) (db := ds) (hE.here.1.1.1.1.1.1.1.1.1.1.1.1.1.1.1.1.1.2) (hE.here.1.1.1.1.1.1.1.1.1.1.1.1.1.1.1.2) Hlf1.out Hlf3.out HS2.out).mono ?_
         clear k356 k357 k358 k359 k360 k361 k362 k363
         rintro e w364 ⟨sn, An, nn, cn, tn, Bn, mn, dn, rfl, hn, hb⟩
         replace hE := hE.step hb
         clear hb
         replace hE := hE.fv hn
         clear hn
         go_upto_region 22 with (fail)
         obtain ⟨g365, hg365⟩ : ∃ g365, g365 = w364.heap.size := ⟨_, rfl⟩
         have hwg365 : w.heap.size ≤ g365 := by rw [hg365]; exact hE.bel.size
         have hl365_4 : g12 < g365 := by rw [hg365]; exact (hE.here.1.1.1.1.1.1.1.1.1.1.1.1.1.1.1.2).lt
         have hl365_13 : G17_7 < g365 := by rw [hg365]; exact (hE.here.1.1.1.1.1.1.2).lt
         have hl365_14 : G17_8 < g365 := by rw [hg365]; exact (hE.here.1.1.1.1.1.2).lt
         have hl365_15 : g335 < g365 := by rw [hg365]; exact (hE.here.1.1.1.1.2).lt
         have hl365_16 : g345 < g365 := by rw [hg365]; exact (hE.here.1.1.1.2).lt
         have hl365_18 : g355 < g365 := by rw [hg365]; exact (hE.here.1.2).lt
         replace hE := hE.blk 26 #[.bool sn, .slice An nn cn, .bool tn, .slice Bn mn dn] (g := g365) hg365.symm
         generalize w364.alloc (.cells #[.bool sn, .slice An nn cn, .bool tn, .slice Bn mn dn] 26) = W365 at hE ⊢
         rw [← hg365]
         clear hg365
         obtain ⟨k366, k367, k368, k369⟩ := (hE.here.1.1.1.1.1.2).c4
         obtain ⟨k370, k371, k372, k373⟩ := (hE.here.1.1.1.1.2).c4
         go_wp2_with fail
         refine (lsame_err).mono ?_
         clear k366 k367 k368 k369 k370 k371 k372 k373
         rintro e w374 ⟨rfl, hb⟩
         replace hE := hE.step hb
         clear hb
         obtain ⟨k375, k376, k377, k378⟩ := (hE.here.1.1.2).c4
         obtain ⟨k379, k380, k381, k382⟩ := (hE.here.2).c4
         go_wp2_with fail
         refine (lsame_ok (ca := cm) (da := dm) (cb := cn) (db := dn) (hE.here.1.1.1.2) (hE.here.1.2) HS2.out).mono ?_
         clear k375 k376 k377 k378 k379 k380 k381 k382
         rintro e w383 ⟨rfl, hb⟩
         replace hE := hE.step hb
         clear hb
         go_wp2_with fail
         go_roundw
         case rel => (repeat apply Exists.intro); exact ⟨⟨3, by omega, by omega, by go_num, ((((((Env.again hE.bel).atI (hE.here.1.1.1.1.1.1.1.1.1.1.1.1.1.1.1.1.1.1.1.1.2)).fv (hE.here.1.1.1.1.1.1.1.1.1.1.1.1.1.1.1.1.1.1.1.2)).fv (hE.here.1.1.1.1.1.1.1.1.1.1.1.1.1.1.1.1.1.1.2)).fv (hE.here.1.1.1.1.1.1.1.1.1.1.1.1.1.1.1.1.1.2)).blkI (hE.here.1.1.1.1.1.1.1.1.1.1.1.1.1.1.1.1.2))⟩, rfl⟩
         case measure => (simp [intOf]) <;> omega
        ·
         have HS2 := Lib.hid hs2
         clear hs2
         obtain ⟨k384, k385, k386, k387⟩ := (hE.here.1.1.1.2).c4
         obtain ⟨k388, k389, k390, k391⟩ := (hE.here.1.1.2).c4
         go_wp2_with fail
         refine (fmul_long (ca := ca) (da := da) (cb := cs) (db := ds) (hE.here.1.1.1.1.1.1.1.1.1.1.1.1.1.1.1.2) (hE.here.1.1.1.1.1.1.1.1.1.1.1.1.1.2) Hlf1.out Hlf3.out (by have := HS2.out; omega)).mono ?_
         clear k384 k385 k386 k387 k388 k389 k390 k391
         rintro e w392 ⟨rfl, hb⟩
         replace hE := hE.step hb
         clear hb
         go_upto_region 21 with (fail)
         obtain ⟨g393, hg393⟩ : ∃ g393, g393 = w392.heap.size := ⟨_, rfl⟩
         have hwg393 : w.heap.size ≤ g393 := by rw [hg393]; exact hE.bel.size
         have hl393_4 : g12 < g393 := by rw [hg393]; exact (hE.here.1.1.1.1.1.1.1.1.1.1.1.1.2).lt
         have hl393_13 : G17_7 < g393 := by rw [hg393]; exact (hE.here.1.1.1.2).lt
         have hl393_14 : G17_8 < g393 := by rw [hg393]; exact (hE.here.1.1.2).lt
         have hl393_15 : g335 < g393 := by rw [hg393]; exact (hE.here.1.2).lt
         have hl393_16 : g345 < g393 := by rw [hg393]; exact (hE.here.2).lt
         replace hE := hE.blk 26 #[.bool false, .slice none 0 0, .bool false, .slice none 0 0] (g := g393) hg393.symm
         generalize w392.alloc (.cells #[.bool false, .slice none 0 0, .bool false, .slice none 0 0] 26) = W393 at hE ⊢
         rw [← hg393]
         clear hg393
         obtain ⟨k394, k395, k396, k397⟩ := (hE.here.1.1.1.1.2).c4
         obtain ⟨k398, k399, k400, k401⟩ := (hE.here.1.1.1.2).c4
         go_wp2_with fail
         refine (rfmul_long (ca := ca) (da := da) (cb := cs) (db := ds) (hE.here.1.1.1.1.1.1.1.1.1.1.1.1.1.1.1.1.2) (hE.here.1.1.1.1.1.1.1.1.1.1.1.1.1.1.2) Hlf1.out Hlf3.out (by have := HS2.out; omega)).mono ?_
         clear k394 k395 k396 k397 k398 k399 k400 k401
         rintro e w402 ⟨rfl, hb⟩
         replace hE := hE.step hb
         clear hb
         go_upto_region 22 with (fail)
         obtain ⟨g403, hg403⟩ : ∃ g403, g403 = w402.heap.size := ⟨_, rfl⟩
         have hwg403 : w.heap.size ≤ g403 := by rw [hg403]; exact hE.bel.size
         have hl403_4 : g12 < g403 := by rw [hg403]; exact (hE.here.1.1.1.1.1.1.1.1.1.1.1.1.1.2).lt
         have hl403_13 : G17_7 < g403 := by rw [hg403]; exact (hE.here.1.1.1.1.2).lt
         have hl403_14 : G17_8 < g403 := by rw [hg403]; exact (hE.here.1.1.1.2).lt
         have hl403_15 : g335 < g403 := by rw [hg403]; exact (hE.here.1.1.2).lt
         have hl403_16 : g345 < g403 := by rw [hg403]; exact (hE.here.1.2).lt
         have hl403_17 : g393 < g403 := by rw [hg403]; exact (hE.here.2).lt
         replace hE := hE.blk 26 #[.bool false, .slice none 0 0, .bool false, .slice none 0 0] (g := g403) hg403.symm
         generalize w402.alloc (.cells #[.bool false, .slice none 0 0, .bool false, .slice none 0 0] 26) = W403 at hE ⊢
         rw [← hg403]
         clear hg403
         obtain ⟨k404, k405, k406, k407⟩ := (hE.here.1.1.1.2).c4
         obtain ⟨k408, k409, k410, k411⟩ := (hE.here.1.1.2).c4
         go_wp2_with fail
         refine (lsame_err).mono ?_
         clear k404 k405 k406 k407 k408 k409 k410 k411
         rintro e w412 ⟨rfl, hb⟩
         replace hE := hE.step hb
         clear hb
         obtain ⟨k413, k414, k415, k416⟩ := (hE.here.1.2).c4
         obtain ⟨k417, k418, k419, k420⟩ := (hE.here.2).c4
         go_wp2_with fail
         refine (lsame_err).mono ?_
         clear k413 k414 k415 k416 k417 k418 k419 k420
         rintro e w421 ⟨rfl, hb⟩
         replace hE := hE.step hb
         clear hb
         go_wp2_with fail
         go_roundw
         case rel => (repeat apply Exists.intro); exact ⟨⟨3, by omega, by omega, by go_num, ((((((Env.again hE.bel).atI (hE.here.1.1.1.1.1.1.1.1.1.1.1.1.1.1.1.1.1.1.2)).fv (hE.here.1.1.1.1.1.1.1.1.1.1.1.1.1.1.1.1.1.2)).fv (hE.here.1.1.1.1.1.1.1.1.1.1.1.1.1.1.1.1.2)).fv (hE.here.1.1.1.1.1.1.1.1.1.1.1.1.1.1.1.2)).blkI (hE.here.1.1.1.1.1.1.1.1.1.1.1.1.1.1.2))⟩, rfl⟩
         case measure => (simp [intOf]) <;> omega
      ·
       go_wp2_with fail
       refine (awake2_t _ (hE.here.1.1.1.1.2).2 (hE.here.1.1.1.1.2).1).mono ?_
       rintro e w422 ⟨rfl, hb⟩
       replace hE := hE.step hb
       clear hb
       go_wp2_with fail
       go_ret
       exact ⟨rfl, hE.bel⟩
  ·
   replace hE := hE.step hb
   clear hb
   replace hE := ((((Env.again hE.bel).atI hE.here.1.1.1.2).fv hE.here.1.1.2).blkI hE.here.1.2)
   go_upto_region 4 with (fail)
   obtain ⟨g423, hg423⟩ : ∃ g423, g423 = w5.heap.size := ⟨_, rfl⟩
   have hwg423 : w.heap.size ≤ g423 := by rw [hg423]; exact hE.bel.size
   have hl423_2 : g3 < g423 := by rw [hg423]; exact (hE.here.2).lt
   replace hE := hE.blk 26 #[.bool false, .slice none 0 0, .bool false, .slice none 0 0] (g := g423) hg423.symm
   generalize w5.alloc (.cells #[.bool false, .slice none 0 0, .bool false, .slice none 0 0] 26) = W423 at hE ⊢
   rw [← hg423]
   clear hg423
   go_upto_region 5 with (fail)
   go_wp2_with fail
   rw [HkeyX.out]
   have hc := law_quick (X : Int) 1 W423 (by omega) (by omega) (by decide) (by decide) (by decide)
   rw [int_low] at hc
   refine (hc).mono ?_
   rintro e w424 ⟨sq3, Aq3, nq3, cq3, tq3, Bq3, mq3, dq3, rfl, hq3, hb⟩
   replace hE := hE.step hb
   clear hb
   replace hE := hE.fv hq3
   clear hq3
   clear hc
   go_wp2_with fail
   refine (fpow_pos (ca := cq3) (da := dq3) (hE.here.2) (Nat.le_trans HlX.out (by decide)) N (by omega) lp).mono ?_
   rintro e w425 ⟨sg, Ag, ng, cg, tg, Bg, mg, dg, rfl, hg, hb⟩
   replace hE := hE.step hb
   clear hb
   replace hE := hE.fv hg
   clear hg
   replace hE := ((((((Env.again hE.bel).atI hE.here.1.1.1.1.1.2).fv hE.here.1.1.1.1.2).blkI hE.here.1.1.1.2).blkI hE.here.1.1.2).fv hE.here.2)
   go_upto_region 6 with (fail)
   obtain ⟨g426, hg426⟩ : ∃ g426, g426 = w425.heap.size := ⟨_, rfl⟩
   have hwg426 : w.heap.size ≤ g426 := by rw [hg426]; exact hE.bel.size
   have hl426_2 : g3 < g426 := by rw [hg426]; exact (hE.here.1.1.2).lt
   have hl426_3 : g423 < g426 := by rw [hg426]; exact (hE.here.1.2).lt
   replace hE := hE.blk 26 #[.bool sg, .slice Ag ng cg, .bool tg, .slice Bg mg dg] (g := g426) hg426.symm
   generalize w425.alloc (.cells #[.bool sg, .slice Ag ng cg, .bool tg, .slice Bg mg dg] 26) = W426 at hE ⊢
   rw [← hg426]
   clear hg426
   go_wp2_with fail
   rw [HkeyY.out]
   have hc := law_quick (Y : Int) 1 W426 (by omega) (by omega) (by decide) (by decide) (by decide)
   rw [int_low] at hc
   refine (hc).mono ?_
   rintro e w427 ⟨sq4, Aq4, nq4, cq4, tq4, Bq4, mq4, dq4, rfl, hq4, hb⟩
   replace hE := hE.step hb
   clear hb
   replace hE := hE.fv hq4
   clear hq4
   clear hc
   go_wp2_with fail
   refine (fpow_lpos (ca := cq4) (da := dq4) (hE.here.2) (Nat.le_trans HlY.out (by decide)) M (by omega) lq).mono ?_
   rintro e w428 ⟨rfl, hb⟩
   replace hE := hE.step hb
   clear hb
   replace hE := (((((((Env.again hE.bel).atI hE.here.1.1.1.1.1.1.2).fv hE.here.1.1.1.1.1.2).blkI hE.here.1.1.1.1.2).blkI hE.here.1.1.1.2).fv hE.here.1.1.2).blkI hE.here.1.2)
   go_upto_region 7 with (fail)
   obtain ⟨g429, hg429⟩ : ∃ g429, g429 = w428.heap.size := ⟨_, rfl⟩
   have hwg429 : w.heap.size ≤ g429 := by rw [hg429]; exact hE.bel.size
   have hl429_2 : g3 < g429 := by rw [hg429]; exact (hE.here.1.1.1.2).lt
   have hl429_3 : g423 < g429 := by rw [hg429]; exact (hE.here.1.1.2).lt
   have hl429_5 : g426 < g429 := by rw [hg429]; exact (hE.here.2).lt
   replace hE := hE.blk 26 #[.bool false, .slice none 0 0, .bool false, .slice none 0 0] (g := g429) hg429.symm
   generalize w428.alloc (.cells #[.bool false, .slice none 0 0, .bool false, .slice none 0 0] 26) = W429 at hE ⊢
   rw [← hg429]
   clear hg429
   obtain ⟨k430, k431, k432, k433⟩ := (hE.here.1.2).c4
   obtain ⟨k434, k435, k436, k437⟩ := (hE.here.1.1.1.1.2).c4
   go_wp2_with fail
   refine (lsame_ok (ca := cg) (da := dg) (cb := cp) (db := dp) (hE.here.1.1.2) (hE.here.1.1.1.1.1.2) lp).mono ?_
   clear k430 k431 k432 k433 k434 k435 k436 k437
   rintro e w438 ⟨rfl, hb⟩
   replace hE := hE.step hb
   clear hb
   obtain ⟨k439, k440, k441, k442⟩ := (hE.here.2).c4
   obtain ⟨k443, k444, k445, k446⟩ := (hE.here.1.1.1.2).c4
   go_wp2_with fail
   refine (lsame_err).mono ?_
   clear k439 k440 k441 k442 k443 k444 k445 k446
   rintro e w447 ⟨rfl, hb⟩
   replace hE := hE.step hb
   clear hb
   go_wp2_with fail
   refine (awake2_t _ (hE.here.1.1.1.1.1.1.2).2 (hE.here.1.1.1.1.1.1.2).1).mono ?_
   rintro e w448 ⟨rfl, hb⟩
   replace hE := hE.step hb
   clear hb
   go_wp2_with fail
   go_ret
   exact ⟨rfl, hE.bel⟩
 ·
  replace hE := hE.step hb
  clear hb
  replace hE := ((Env.again hE.bel).atI hE.here.1.2)
  go_upto_region 3 with (fail)
  obtain ⟨g449, hg449⟩ : ∃ g449, g449 = w2.heap.size := ⟨_, rfl⟩
  have hwg449 : w.heap.size ≤ g449 := by rw [hg449]; exact hE.bel.size
  replace hE := hE.blk 26 #[.bool false, .slice none 0 0, .bool false, .slice none 0 0] (g := g449) hg449.symm
  generalize w2.alloc (.cells #[.bool false, .slice none 0 0, .bool false, .slice none 0 0] 26) = W449 at hE ⊢
  rw [← hg449]
  clear hg449
  go_wp2_with fail
  rw [HkeyY.out]
  have hc := law_quick (Y : Int) 1 W449 (by omega) (by omega) (by decide) (by decide) (by decide)
  rw [int_low] at hc
  refine (hc).mono ?_
  rintro e w450 ⟨sq5, Aq5, nq5, cq5, tq5, Bq5, mq5, dq5, rfl, hq5, hb⟩
  replace hE := hE.step hb
  clear hb
  replace hE := hE.fv hq5
  clear hq5
  clear hc
  go_wp2_with fail
  have hc := rpow_any (ca := cq5) (da := dq5) (hE.here.2) (Nat.le_trans HlY.out (by decide)) (by rw [li_num]; omega) M (by omega) (by omega) (li_mono hY2)
  refine hc.mono ?_
  clear hc
  rintro e w451 (⟨lq, sq, Aq, nq, cq, tq, Bq, mq, dq, rfl, hq, hb⟩ | ⟨lq, rfl, hb⟩)
  ·
   replace hE := hE.step hb
   clear hb
   replace hE := hE.fv hq
   clear hq
   replace hE := ((((Env.again hE.bel).atI hE.here.1.1.1.2).blkI hE.here.1.1.2).fv hE.here.2)
   go_upto_region 4 with (fail)
   obtain ⟨g452, hg452⟩ : ∃ g452, g452 = w451.heap.size := ⟨_, rfl⟩
   have hwg452 : w.heap.size ≤ g452 := by rw [hg452]; exact hE.bel.size
   have hl452_1 : g449 < g452 := by rw [hg452]; exact (hE.here.1.2).lt
   replace hE := hE.blk 26 #[.bool sq, .slice Aq nq cq, .bool tq, .slice Bq mq dq] (g := g452) hg452.symm
   generalize w451.alloc (.cells #[.bool sq, .slice Aq nq cq, .bool tq, .slice Bq mq dq] 26) = W452 at hE ⊢
   rw [← hg452]
   clear hg452
   go_upto_region 5 with (fail)
   go_wp2_with fail
   rw [HkeyX.out]
   have hc := law_quick (X : Int) 1 W452 (by omega) (by omega) (by decide) (by decide) (by decide)
   rw [int_low] at hc
   refine (hc).mono ?_
   rintro e w453 ⟨sq6, Aq6, nq6, cq6, tq6, Bq6, mq6, dq6, rfl, hq6, hb⟩
   replace hE := hE.step hb
   clear hb
   replace hE := hE.fv hq6
   clear hq6
   clear hc
   go_wp2_with fail
   refine (fpow_lpos (ca := cq6) (da := dq6) (hE.here.2) (Nat.le_trans HlX.out (by decide)) N (by omega) lp).mono ?_
   rintro e w454 ⟨rfl, hb⟩
   replace hE := hE.step hb
   clear hb
   replace hE := (((((Env.again hE.bel).atI hE.here.1.1.1.1.2).blkI hE.here.1.1.1.2).fv hE.here.1.1.2).blkI hE.here.1.2)
   go_upto_region 6 with (fail)
   obtain ⟨g455, hg455⟩ : ∃ g455, g455 = w454.heap.size := ⟨_, rfl⟩
   have hwg455 : w.heap.size ≤ g455 := by rw [hg455]; exact hE.bel.size
   have hl455_1 : g449 < g455 := by rw [hg455]; exact (hE.here.1.1.2).lt
   have hl455_3 : g452 < g455 := by rw [hg455]; exact (hE.here.2).lt
   replace hE := hE.blk 26 #[.bool false, .slice none 0 0, .bool false, .slice none 0 0] (g := g455) hg455.symm
   generalize w454.alloc (.cells #[.bool false, .slice none 0 0, .bool false, .slice none 0 0] 26) = W455 at hE ⊢
   rw [← hg455]
   clear hg455
   go_wp2_with fail
   rw [HkeyY.out]
   have hc := law_quick (Y : Int) 1 W455 (by omega) (by omega) (by decide) (by decide) (by decide)
   rw [int_low] at hc
   refine (hc).mono ?_
   rintro e w456 ⟨sq7, Aq7, nq7, cq7, tq7, Bq7, mq7, dq7, rfl, hq7, hb⟩
   replace hE := hE.step hb
   clear hb
   replace hE := hE.fv hq7
   clear hq7
   clear hc
   go_wp2_with fail
   refine (fpow_pos (ca := cq7) (da := dq7) (hE.here.2) (Nat.le_trans HlY.out (by decide)) M (by omega) lq).mono ?_
   rintro e w457 ⟨sh, Ah, nh, ch, th, Bh, mh, dh, rfl, hh, hb⟩
   replace hE := hE.step hb
   clear hb
   replace hE := hE.fv hh
   clear hh
   replace hE := (((((((Env.again hE.bel).atI hE.here.1.1.1.1.1.1.2).blkI hE.here.1.1.1.1.1.2).fv hE.here.1.1.1.1.2).blkI hE.here.1.1.1.2).blkI hE.here.1.1.2).fv hE.here.2)
   go_upto_region 7 with (fail)
   obtain ⟨g458, hg458⟩ : ∃ g458, g458 = w457.heap.size := ⟨_, rfl⟩
   have hwg458 : w.heap.size ≤ g458 := by rw [hg458]; exact hE.bel.size
   have hl458_1 : g449 < g458 := by rw [hg458]; exact (hE.here.1.1.1.1.2).lt
   have hl458_3 : g452 < g458 := by rw [hg458]; exact (hE.here.1.1.2).lt
   have hl458_4 : g455 < g458 := by rw [hg458]; exact (hE.here.1.2).lt
   replace hE := hE.blk 26 #[.bool sh, .slice Ah nh ch, .bool th, .slice Bh mh dh] (g := g458) hg458.symm
   generalize w457.alloc (.cells #[.bool sh, .slice Ah nh ch, .bool th, .slice Bh mh dh] 26) = W458 at hE ⊢
   rw [← hg458]
   clear hg458
   obtain ⟨k459, k460, k461, k462⟩ := (hE.here.1.1.2).c4
   obtain ⟨k463, k464, k465, k466⟩ := (hE.here.1.1.1.1.1.2).c4
   go_wp2_with fail
   refine (lsame_err).mono ?_
   clear k459 k460 k461 k462 k463 k464 k465 k466
   rintro e w467 ⟨rfl, hb⟩
   replace hE := hE.step hb
   clear hb
   obtain ⟨k468, k469, k470, k471⟩ := (hE.here.2).c4
   obtain ⟨k472, k473, k474, k475⟩ := (hE.here.1.1.1.2).c4
   go_wp2_with fail
   refine (lsame_ok (ca := ch) (da := dh) (cb := cq) (db := dq) (hE.here.1.2) (hE.here.1.1.1.1.2) lq).mono ?_
   clear k468 k469 k470 k471 k472 k473 k474 k475
   rintro e w476 ⟨rfl, hb⟩
   replace hE := hE.step hb
   clear hb
   go_wp2_with fail
   refine (awake2_t _ (hE.here.1.1.1.1.1.1.2).2 (hE.here.1.1.1.1.1.1.2).1).mono ?_
   rintro e w477 ⟨rfl, hb⟩
   replace hE := hE.step hb
   clear hb
   go_wp2_with fail
   go_ret
   exact ⟨rfl, hE.bel⟩
  ·
   replace hE := hE.step hb
   clear hb
   replace hE := (((Env.again hE.bel).atI hE.here.1.1.2).blkI hE.here.1.2)
   go_upto_region 4 with (fail)
   obtain ⟨g478, hg478⟩ : ∃ g478, g478 = w451.heap.size := ⟨_, rfl⟩
   have hwg478 : w.heap.size ≤ g478 := by rw [hg478]; exact hE.bel.size
   have hl478_1 : g449 < g478 := by rw [hg478]; exact (hE.here.2).lt
   replace hE := hE.blk 26 #[.bool false, .slice none 0 0, .bool false, .slice none 0 0] (g := g478) hg478.symm
   generalize w451.alloc (.cells #[.bool false, .slice none 0 0, .bool false, .slice none 0 0] 26) = W478 at hE ⊢
   rw [← hg478]
   clear hg478
   go_upto_region 5 with (fail)
   go_wp2_with fail
   rw [HkeyX.out]
   have hc := law_quick (X : Int) 1 W478 (by omega) (by omega) (by decide) (by decide) (by decide)
   rw [int_low] at hc
   refine (hc).mono ?_
   rintro e w479 ⟨sq8, Aq8, nq8, cq8, tq8, Bq8, mq8, dq8, rfl, hq8, hb⟩
   replace hE := hE.step hb
   clear hb
   replace hE := hE.fv hq8
   clear hq8
   clear hc
   go_wp2_with fail
   refine (fpow_lpos (ca := cq8) (da := dq8) (hE.here.2) (Nat.le_trans HlX.out (by decide)) N (by omega) lp).mono ?_
   rintro e w480 ⟨rfl, hb⟩
   replace hE := hE.step hb
   clear hb
   replace hE := ((((Env.again hE.bel).atI hE.here.1.1.1.2).blkI hE.here.1.1.2).blkI hE.here.1.2)
   go_upto_region 6 with (fail)
   obtain ⟨g481, hg481⟩ : ∃ g481, g481 = w480.heap.size := ⟨_, rfl⟩
   have hwg481 : w.heap.size ≤ g481 := by rw [hg481]; exact hE.bel.size
   have hl481_1 : g449 < g481 := by rw [hg481]; exact (hE.here.1.2).lt
   have hl481_2 : g478 < g481 := by rw [hg481]; exact (hE.here.2).lt
   replace hE := hE.blk 26 #[.bool false, .slice none 0 0, .bool false, .slice none 0 0] (g := g481) hg481.symm
   generalize w480.alloc (.cells #[.bool false, .slice none 0 0, .bool false, .slice none 0 0] 26) = W481 at hE ⊢
   rw [← hg481]
   clear hg481
   go_wp2_with fail
   rw [HkeyY.out]
   have hc := law_quick (Y : Int) 1 W481 (by omega) (by omega) (by decide) (by decide) (by decide)
   rw [int_low] at hc
   refine (hc).mono ?_
   rintro e w482 ⟨sq9, Aq9, nq9, cq9, tq9, Bq9, mq9, dq9, rfl, hq9, hb⟩
   replace hE := hE.step hb
   clear hb
   replace hE := hE.fv hq9
   clear hq9
   clear hc
   go_wp2_with fail
   refine (fpow_lpos (ca := cq9) (da := dq9) (hE.here.2) (Nat.le_trans HlY.out (by decide)) M (by omega) lq).mono ?_
   rintro e w483 ⟨rfl, hb⟩
   replace hE := hE.step hb
   clear hb
   replace hE := (((((Env.again hE.bel).atI hE.here.1.1.1.1.2).blkI hE.here.1.1.1.2).blkI hE.here.1.1.2).blkI hE.here.1.2)
   go_upto_region 7 with (fail)
   obtain ⟨g484, hg484⟩ : ∃ g484, g484 = w483.heap.size := ⟨_, rfl⟩
   have hwg484 : w.heap.size ≤ g484 := by rw [hg484]; exact hE.bel.size
   have hl484_1 : g449 < g484 := by rw [hg484]; exact (hE.here.1.1.2).lt
   have hl484_2 : g478 < g484 := by rw [hg484]; exact (hE.here.1.2).lt
   have hl484_3 : g481 < g484 := by rw [hg484]; exact (hE.here.2).lt
   replace hE := hE.blk 26 #[.bool false, .slice none 0 0, .bool false, .slice none 0 0] (g := g484) hg484.symm
   generalize w483.alloc (.cells #[.bool false, .slice none 0 0, .bool false, .slice none 0 0] 26) = W484 at hE ⊢
   rw [← hg484]
   clear hg484
   obtain ⟨k485, k486, k487, k488⟩ := (hE.here.1.2).c4
   obtain ⟨k489, k490, k491, k492⟩ := (hE.here.1.1.1.2).c4
   go_wp2_with fail
   refine (lsame_err).mono ?_
   clear k485 k486 k487 k488 k489 k490 k491 k492
   rintro e w493 ⟨rfl, hb⟩
   replace hE := hE.step hb
   clear hb
   obtain ⟨k494, k495, k496, k497⟩ := (hE.here.2).c4
   obtain ⟨k498, k499, k500, k501⟩ := (hE.here.1.1.2).c4
   go_wp2_with fail
   refine (lsame_err).mono ?_
   clear k494 k495 k496 k497 k498 k499 k500 k501
   rintro e w502 ⟨rfl, hb⟩
   replace hE := hE.step hb
   clear hb
   go_wp2_with fail
   refine (awake2_t _ (hE.here.1.1.1.1.2).2 (hE.here.1.1.1.1.2).1).mono ?_
   rintro e w503 ⟨rfl, hb⟩
   replace hE := hE.step hb
   clear hb
   go_wp2_with fail
   go_ret
   exact ⟨rfl, hE.bel⟩
end Go.Proofs.YtifikcemcflgjaaGreat
