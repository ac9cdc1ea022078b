/-
  The walk of FracPowers.
-/
import Derived.Test.YtifikcemcflgjaaGreatK1
import Derived.Test.YtifikcemcflgjaaGreatGX
import Derived.Test.YtifikcemcflgjaaGreatGE
import Derived.Test.YtifikcemcflgjaaGreatGA
namespace Go.Proofs.YtifikcemcflgjaaGreat
open Go.RowKit

theorem tmod6 (z : Int) : -5 ≤ z.tmod 6 ∧ z.tmod 6 ≤ 5 := by
  rcases Int.lt_or_le z 0 with h | h
  · obtain ⟨x, rfl⟩ : ∃ x, z = -x := ⟨-z, by omega⟩
    rw [Int.neg_tmod, Int.tmod_eq_emod_of_nonneg (by omega)]
    omega
  · rw [Int.tmod_eq_emod_of_nonneg h]
    omega
theorem pw_z0 : fl ((0 : Int) : Rat) ≤ 1 := by rw [fl_le]; exact ⟨by decide, by decide⟩
theorem pw_o : fl ((1 : Int) : Rat) ≤ 1 := by rw [fl_le]; exact ⟨by decide, by decide⟩
theorem sh_fl {w : World} {q : Rat} {s t : Bool} {A B : Option Addr} {n c m d k : Nat} {f g : Nat → Nat} (h : (Fc.mk s A n c f t B m d g).sh (k : Int)) (hq : FV w q s A n t B m) : fl q ≤ k := by
  obtain ⟨h1, h2⟩ := h
  dsimp only at h1 h2
  refine fl_le.2 ⟨?_, ?_⟩
  · rw [← hq.1.len]; omega
  · have := hq.2.len
    rw [Int.natAbs_natCast] at this
    rw [← this]; omega
theorem zpow_len {a : Rat} {k j : Nat} (h : fl a ≤ k) (z : Int) (h0 : a.num ≠ 0) (hz : z.natAbs ≤ j) : fl (a ^ z) ≤ j * k + 1 :=
  Nat.le_trans (fl_zpow h z (fun _ => h0)) (Nat.succ_le_succ (Nat.mul_le_mul_right k hz))
theorem nz_num {w : World} {z : Int} {s : Bool} {A : Option Addr} {n : Nat} (h : WV w z s A n) (hn : n ≠ 0) : z ≠ 0 := fun e => hn (by rw [h.len, e]; exact ln_zero)
set_option linter.unusedSimpArgs false in
set_option maxRecDepth 100000 in
set_option maxHeartbeats 16000000 in
theorem fpowers_walk {sa ta sb tb : Bool} {Aa Ba Ab Bb : Option Addr} {na ca ma da nb cb mb db : Nat} {fa ga fb gb : Nat → Nat} {k0 : Int} {w : World} (hlt : 0 < w.heap.size) (hm : w.cell? ⟨0, 0, none⟩ = some (.int .i64 k0)) (ra : FRd w Aa na fa Ba ma ga) (rb : FRd w Ab nb fb Bb mb gb) (z2 : Int) (_l2 : -9223372036854775808 ≤ z2) (_u2 : z2 ≤ 9223372036854775807) (z3 : Int) (_l3 : -9223372036854775808 ≤ z3) (_u3 : z3 ≤ 9223372036854775807) :
    Calls Tryz.prog 5 #[.agg #[.bool sa, .slice Aa na ca, .bool ta, .slice Ba ma da], .agg #[.bool sb, .slice Ab nb cb, .bool tb, .slice Bb mb db], .int .i64 z2, .int .i64 z3] w (fun e w' => e = .returned (.bool true) ∧ Below w.heap.size w w') := by
  obtain ⟨m, hm9⟩ : ∃ x, x = Int.tmod z2 6 := ⟨_, rfl⟩
  obtain ⟨n, hn9⟩ : ∃ x, x = Int.tmod z3 6 := ⟨_, rfl⟩
  have bm : -5 ≤ m ∧ m ≤ 5 := by rw [hm9]; exact tmod6 z2
  have bn : -5 ≤ n ∧ n ≤ 5 := by rw [hn9]; exact tmod6 z3
  obtain ⟨bm1, bm2⟩ := bm
  obtain ⟨bn1, bn2⟩ := bn
  have Hhm9 := Lib.hid hm9
  clear hm9
  have Hhn9 := Lib.hid hn9
  clear hn9
  have hE := (((((Env.start w).at_ hlt hm).frd ra).frd rb).blk 26 #[.bool sa, .slice Aa na ca, .bool ta, .slice Ba ma da] (g := w.heap.size) rfl).blk 26 #[.bool sb, .slice Ab nb cb, .bool tb, .slice Bb mb db] (g := w.heap.size + 1) (by simp)
  obtain ⟨W0, hW0⟩ : ∃ W0, W0 = ((w.alloc (.cells #[.bool sa, .slice Aa na ca, .bool ta, .slice Ba ma da] 26)).alloc (.cells #[.bool sb, .slice Ab nb cb, .bool tb, .slice Bb mb db] 26)) := ⟨_, rfl⟩
  rw [← hW0] at hE
  have HW0 := Lib.hid hW0
  clear hW0
  go_enter Tryz.func5, Tryz.ntmps5
  go_upto_region 1 with (fail)
  rw [← HW0.out]
  go_wp2_with fail
  refine (awake2_t _ (hE.here.1.1.1.1.2).2 (hE.here.1.1.1.1.2).1).mono ?_
  rintro e w1 ⟨rfl, hb⟩
  replace hE := hE.step hb
  clear hb
  go_upto_region 4 with (fail)
  rw [← Hhm9.out, ← Hhn9.out]
  obtain ⟨k2, k3, k4, k5⟩ := (hE.here.1.2).c4
  obtain ⟨k6, k7, k8, k9⟩ := (hE.here.2).c4
  go_wp2_with fail
  refine (usable2 ⟨sa, Aa, na, ca, fa, ta, Ba, ma, da, ga⟩ ⟨sb, Ab, nb, cb, fb, tb, Bb, mb, db, gb⟩ _ (hE.here.1.1.1.2) (hE.here.1.1.2)).mono ?_
  clear k2 k3 k4 k5 k6 k7 k8 k9
  rintro e w10 ⟨v, rfl, hv, hb⟩
  replace hE := hE.step hb
  clear hb
  cases v with
  | false =>
    clear hv
    go_wp2_with fail
    go_ret
    exact ⟨rfl, hE.bel⟩
  | true =>
    obtain ⟨ua, ub⟩ := hv rfl
    clear hv
    obtain ⟨a, ha, la⟩ := us_fv ua (hE.here.1.1.1.2)
    obtain ⟨b, hb, lb⟩ := us_fv ub (hE.here.1.1.2)
    replace hE := ((hE.fv ha).fv hb)
    clear ha hb ua ub
    obtain ⟨k11, k12, k13, k14⟩ := (hE.here.1.1.1.2).c4
    obtain ⟨k15, k16, k17, k18⟩ := (hE.here.1.1.2).c4
    go_wp2_with fail
    refine (short2 ⟨sa, Aa, na, ca, fa, ta, Ba, ma, da, ga⟩ ⟨sb, Ab, nb, cb, fb, tb, Bb, mb, db, gb⟩ 8 _ (hE.here.1.1.1.1.1.2) (hE.here.1.1.1.1.2)).mono ?_
    clear k11 k12 k13 k14 k15 k16 k17 k18
    rintro e w19 ⟨v, rfl, hv, hb⟩
    replace hE := hE.step hb
    clear hb
    cases v with
    | false =>
      clear hv
      go_wp2_with fail
      go_ret
      exact ⟨rfl, hE.bel⟩
    | true =>
      obtain ⟨xa, xb⟩ := hv rfl
      clear hv
      have la8 : fl a ≤ 8 := sh_fl (k := 8) xa (hE.here.1.2)
      have lb8 : fl b ≤ 8 := sh_fl (k := 8) xb (hE.here.2)
      clear la lb xa xb
      have la := la8
      have lb := lb8
      clear la8 lb8
      replace hE := ((((((Env.again hE.bel).atI hE.here.1.1.1.1.1.1.2).blkI hE.here.1.1.1.2).blkI hE.here.1.1.2).fv hE.here.1.2).fv hE.here.2)
      have l1 : fl (a ^ (0 : Int)) ≤ 1 := by rw [Rat.zpow_zero]; exact pw_o
      have l2 : fl (a ^ (1 : Int)) ≤ 8 := by rw [Rat.zpow_one]; exact la
      have Hl1 := Lib.hid l1
      clear l1
      have Hl2 := Lib.hid l2
      clear l2
      obtain ⟨k20, k21, k22, k23⟩ := (hE.here.1.1.1.2).c4
      go_wp2_with fail
      have hc := fpow_z (ca := ca) (da := da) (hE.here.1.2) (fl_le2 la (by decide)) (0) (by omega) (by omega) (fun h => absurd h (by decide)) (fl_le2 Hl1.out (by decide))
      rw [Rat.zpow_zero, show (1 : Rat) = ((1 : Int) : Rat) from rfl] at hc
      refine (hc).mono ?_
      clear k20 k21 k22 k23
      rintro e w24 ⟨sc, Ac, nc, cc, tc, Bc, mc, dc, rfl, hc, hb⟩
      replace hE := hE.step hb
      clear hb
      replace hE := hE.fv hc
      clear hc
      clear hc
      go_upto_region 7 with (fail)
      obtain ⟨g25, hg25⟩ : ∃ g25, g25 = w24.heap.size := ⟨_, rfl⟩
      have hl25_1 : w.heap.size < g25 := by rw [hg25]; exact (hE.here.1.1.1.1.2).lt
      have hl25_2 : w.heap.size + 1 < g25 := by rw [hg25]; exact (hE.here.1.1.1.2).lt
      replace hE := hE.blk 26 #[.bool sc, .slice Ac nc cc, .bool tc, .slice Bc mc dc] (g := g25) hg25.symm
      generalize w24.alloc (.cells #[.bool sc, .slice Ac nc cc, .bool tc, .slice Bc mc dc] 26) = W25 at hE ⊢
      rw [← hg25]
      clear hg25
      obtain ⟨k26, k27, k28, k29⟩ := (hE.here.1.1.1.1.1.2).c4
      go_wp2_with fail
      have hc := fpow_z (ca := ca) (da := da) (hE.here.1.1.1.2) (fl_le2 la (by decide)) (1) (by omega) (by omega) (fun h => absurd h (by decide)) (fl_le2 Hl2.out (by decide))
      rw [Rat.zpow_one] at hc
      refine (hc).mono ?_
      clear k26 k27 k28 k29
      rintro e w30 ⟨sd, Ad, nd, cd, td, Bd, md, dd, rfl, hd, hb⟩
      replace hE := hE.step hb
      clear hb
      replace hE := hE.fv hd
      clear hd
      clear hc
      go_upto_region 8 with (fail)
      obtain ⟨g31, hg31⟩ : ∃ g31, g31 = w30.heap.size := ⟨_, rfl⟩
      have hl31_1 : w.heap.size < g31 := by rw [hg31]; exact (hE.here.1.1.1.1.1.1.2).lt
      have hl31_2 : w.heap.size + 1 < g31 := by rw [hg31]; exact (hE.here.1.1.1.1.1.2).lt
      have hl31_6 : g25 < g31 := by rw [hg31]; exact (hE.here.1.2).lt
      replace hE := hE.blk 26 #[.bool sd, .slice Ad nd cd, .bool td, .slice Bd md dd] (g := g31) hg31.symm
      generalize w30.alloc (.cells #[.bool sd, .slice Ad nd cd, .bool td, .slice Bd md dd] 26) = W31 at hE ⊢
      rw [← hg31]
      clear hg31
      replace hE := hE.drew
      refine wp_region_held_drew (S := fun w' => w'.cell? ⟨g25, 0, none⟩ = some (.bool sc) ∧ w'.cell? ⟨g25, 1, none⟩ = some (.slice Ac nc cc) ∧ w'.cell? ⟨g25, 2, none⟩ = some (.bool tc) ∧ w'.cell? ⟨g25, 3, none⟩ = some (.slice Bc mc dc) ∧ w'.cell? ⟨g31, 0, none⟩ = some (.bool sd) ∧ w'.cell? ⟨g31, 1, none⟩ = some (.slice Ad nd cd) ∧ w'.cell? ⟨g31, 2, none⟩ = some (.bool td) ∧ w'.cell? ⟨g31, 3, none⟩ = some (.slice Bd md dd) ∧ w'.cell? ⟨w.heap.size, 0, none⟩ = some (.bool sa) ∧ w'.cell? ⟨w.heap.size, 1, none⟩ = some (.slice Aa na ca) ∧ w'.cell? ⟨w.heap.size, 2, none⟩ = some (.bool ta) ∧ w'.cell? ⟨w.heap.size, 3, none⟩ = some (.slice Ba ma da)) (by kernel_rfl) (hE.here.1.1.2.j4 (hE.here.2.j4 hE.here.1.1.1.1.1.1.1.2.c4)) (fun hHeld => ?_)
      refine tk 0 ?_
      try simp only [PL]
      refine tk 1 ?_
      try simp only [PL]
      refine tk 2 ?_
      try simp only [PL]
      refine tk 3 ?_
      try simp only [PL]
      refine tk 4 ?_
      try simp only [PL]
      refine tk 5 ?_
      try simp only [PL]
      refine tk 6 ?_
      try simp only [PL]
      refine tk 7 ?_
      try simp only [PL]
      refine r1 8 (fun K hK => ?_)
      go_simp
      refine (ffromInt_v 1 _ (by decide) (by decide)).mono ?_
      rintro e w32 ⟨su, Au, nu, cu, tu, Bu, mu, du, rfl, hu, hb⟩
      replace hE := hE.step hb
      clear hb
      replace hE := hE.fv hu
      clear hu
      go_wp2_with fail
      refine hK.out _ _ (hE.here.1.1.1.2.j4 (hE.here.1.2.j4 hE.here.1.1.1.1.1.1.1.1.2.c4)) (fun hHeld => ?_)
      clear hK K
      try simp only [PL]
      refine r1 9 (fun K hK => ?_)
      go_simp
      refine (lw_equal (v := true) (ca := cc) (da := dc) (cb := cu) (db := du) (hE.here.1.1.1.1.2) (hE.here.2) (fl_le2 pw_o (by decide)) (fl_le2 pw_o (by decide)) (decide_eq_true rfl)).mono ?_
      rintro e w33 ⟨rfl, hb⟩
      replace hE := hE.step hb
      clear hb
      go_wp2_with fail
      refine hK.out _ _ (hE.here.1.1.1.2.j4 (hE.here.1.2.j4 hE.here.1.1.1.1.1.1.1.1.2.c4)) (fun hHeld => ?_)
      clear hK K
      try simp only [PL]
      refine tk 10 ?_
      try simp only [PL]
      refine tk 11 ?_
      try simp only [PL]
      refine tk 12 ?_
      try simp only [PL]
      refine tk 13 ?_
      try simp only [PL]
      refine tk 14 ?_
      try simp only [PL]
      refine r1 15 (fun K hK => ?_)
      go_simp
      refine (lw_equal (v := true) (ca := cd) (da := dd) (cb := ca) (db := da) (hE.here.1.1.2) (hE.here.1.1.1.1.1.1.2) (fl_le2 la (by decide)) (fl_le2 la (by decide)) (decide_eq_true rfl)).mono ?_
      rintro e w34 ⟨rfl, hb⟩
      replace hE := hE.step hb
      clear hb
      go_wp2_with fail
      refine hK.out _ _ (hE.here.1.1.1.2.j4 (hE.here.1.2.j4 hE.here.1.1.1.1.1.1.1.1.2.c4)) (fun hHeld => ?_)
      clear hK K
      try simp only [PL]
      refine tk 16 ?_
      try simp only [PL]
      refine tk 17 ?_
      try simp only [PL]
      refine wpAnyH_done (by kernel_rfl) ?_ _
      go_upto_region 10 with (fail)
      replace hE := ((((((Env.again hE.bel).atI hE.here.1.1.1.1.1.1.1.1.1.2).blkI hE.here.1.1.1.1.1.1.1.1.2).blkI hE.here.1.1.1.1.1.1.1.2).fv hE.here.1.1.1.1.1.1.2).fv hE.here.1.1.1.1.1.2)
      by_cases hna : na = 0
      · subst hna
        obtain ⟨k35, k36, k37, k38⟩ := (hE.here.1.1.1.2).c4
        go_upto_region 11 with (fail)
        clear k35 k36 k37 k38
        by_cases hmz : m < 0
        · skip
          go_wp2_with fail
          refine (ffromInt_v 0 _ (by decide) (by decide)).mono ?_
          rintro e w39 ⟨sz, Az, nz, cz, tz, Bz, mz, dz, rfl, hz, hb⟩
          replace hE := hE.step hb
          clear hb
          replace hE := hE.fv hz
          clear hz
          go_wp2_with fail
          have t8 : decide (m < 0) = true := decide_eq_true (by omega)
          refine (fpow_err0 (ca := cz) (da := dz) (hE.here.2) (fl_le2 pw_z0 (by decide)) rfl m (by omega)).mono ?_
          rintro e w40 ⟨rfl, hb⟩
          replace hE := hE.step hb
          clear hb
          go_upto_region 12 with (fail)
          obtain ⟨g41, hg41⟩ : ∃ g41, g41 = w40.heap.size := ⟨_, rfl⟩
          have hl41_1 : w.heap.size < g41 := by rw [hg41]; exact (hE.here.1.1.1.1.2).lt
          have hl41_2 : w.heap.size + 1 < g41 := by rw [hg41]; exact (hE.here.1.1.1.2).lt
          replace hE := hE.blk 26 #[.bool false, .slice none 0 0, .bool false, .slice none 0 0] (g := g41) hg41.symm
          generalize w40.alloc (.cells #[.bool false, .slice none 0 0, .bool false, .slice none 0 0] 26) = W41 at hE ⊢
          rw [← hg41]
          clear hg41
          go_wp2_with fail
          go_ret
          exact ⟨rfl, hE.bel⟩
        · skip
          go_wp2_with fail
          refine (ffromInt_v 0 _ (by decide) (by decide)).mono ?_
          rintro e w42 ⟨sz, Az, nz, cz, tz, Bz, mz, dz, rfl, hz, hb⟩
          replace hE := hE.step hb
          clear hb
          replace hE := hE.fv hz
          clear hz
          go_wp2_with fail
          have t8 : decide (m < 0) = false := decide_eq_false (by omega)
          refine (fpow_z (ca := cz) (da := dz) (hE.here.2) (fl_le2 pw_z0 (by decide)) m (by omega) (by omega) (fun h => absurd h (by omega)) (fl_le2 (fl_zpow pw_z0 m (fun h => absurd h (by omega))) (by omega))).mono ?_
          rintro e w43 ⟨sr, Ar, nr, cr, tr, Br, mr, dr, rfl, hr, hb⟩
          replace hE := hE.step hb
          clear hb
          replace hE := hE.fv hr
          clear hr
          go_upto_region 12 with (fail)
          obtain ⟨g44, hg44⟩ : ∃ g44, g44 = w43.heap.size := ⟨_, rfl⟩
          have hl44_1 : w.heap.size < g44 := by rw [hg44]; exact (hE.here.1.1.1.1.1.2).lt
          have hl44_2 : w.heap.size + 1 < g44 := by rw [hg44]; exact (hE.here.1.1.1.1.2).lt
          replace hE := hE.blk 26 #[.bool sr, .slice Ar nr cr, .bool tr, .slice Br mr dr] (g := g44) hg44.symm
          generalize w43.alloc (.cells #[.bool sr, .slice Ar nr cr, .bool tr, .slice Br mr dr] 26) = W44 at hE ⊢
          rw [← hg44]
          clear hg44
          go_wp2_with fail
          go_ret
          exact ⟨rfl, hE.bel⟩
      · have u1 : ((na : Int) == 0) = false := beq_eq_false_iff_ne.2 (by omega)
        have u2 : (na == 0) = false := beq_eq_false_iff_ne.2 hna
        have a0 := nz_num (hE.here.1.2).1 hna
        have Ha0 := Lib.hid a0
        clear a0
        clear hna
        by_cases hnb : nb = 0
        · subst hnb
          obtain ⟨k45, k46, k47, k48⟩ := (hE.here.1.1.1.2).c4
          obtain ⟨k49, k50, k51, k52⟩ := (hE.here.1.1.2).c4
          go_upto_region 11 with (fail)
          clear k45 k46 k47 k48 k49 k50 k51 k52
          by_cases hmz : m < 0
          · skip
            go_wp2_with fail
            refine (ffromInt_v 0 _ (by decide) (by decide)).mono ?_
            rintro e w53 ⟨sz, Az, nz, cz, tz, Bz, mz, dz, rfl, hz, hb⟩
            replace hE := hE.step hb
            clear hb
            replace hE := hE.fv hz
            clear hz
            go_wp2_with fail
            have t8 : decide (m < 0) = true := decide_eq_true (by omega)
            refine (fpow_err0 (ca := cz) (da := dz) (hE.here.2) (fl_le2 pw_z0 (by decide)) rfl m (by omega)).mono ?_
            rintro e w54 ⟨rfl, hb⟩
            replace hE := hE.step hb
            clear hb
            go_upto_region 12 with (fail)
            obtain ⟨g55, hg55⟩ : ∃ g55, g55 = w54.heap.size := ⟨_, rfl⟩
            have hl55_1 : w.heap.size < g55 := by rw [hg55]; exact (hE.here.1.1.1.1.2).lt
            have hl55_2 : w.heap.size + 1 < g55 := by rw [hg55]; exact (hE.here.1.1.1.2).lt
            replace hE := hE.blk 26 #[.bool false, .slice none 0 0, .bool false, .slice none 0 0] (g := g55) hg55.symm
            generalize w54.alloc (.cells #[.bool false, .slice none 0 0, .bool false, .slice none 0 0] 26) = W55 at hE ⊢
            rw [← hg55]
            clear hg55
            go_wp2_with fail
            go_ret
            exact ⟨rfl, hE.bel⟩
          · skip
            go_wp2_with fail
            refine (ffromInt_v 0 _ (by decide) (by decide)).mono ?_
            rintro e w56 ⟨sz, Az, nz, cz, tz, Bz, mz, dz, rfl, hz, hb⟩
            replace hE := hE.step hb
            clear hb
            replace hE := hE.fv hz
            clear hz
            go_wp2_with fail
            have t8 : decide (m < 0) = false := decide_eq_false (by omega)
            refine (fpow_z (ca := cz) (da := dz) (hE.here.2) (fl_le2 pw_z0 (by decide)) m (by omega) (by omega) (fun h => absurd h (by omega)) (fl_le2 (fl_zpow pw_z0 m (fun h => absurd h (by omega))) (by omega))).mono ?_
            rintro e w57 ⟨sr, Ar, nr, cr, tr, Br, mr, dr, rfl, hr, hb⟩
            replace hE := hE.step hb
            clear hb
            replace hE := hE.fv hr
            clear hr
            go_upto_region 12 with (fail)
            obtain ⟨g58, hg58⟩ : ∃ g58, g58 = w57.heap.size := ⟨_, rfl⟩
            have hl58_1 : w.heap.size < g58 := by rw [hg58]; exact (hE.here.1.1.1.1.1.2).lt
            have hl58_2 : w.heap.size + 1 < g58 := by rw [hg58]; exact (hE.here.1.1.1.1.2).lt
            replace hE := hE.blk 26 #[.bool sr, .slice Ar nr cr, .bool tr, .slice Br mr dr] (g := g58) hg58.symm
            generalize w57.alloc (.cells #[.bool sr, .slice Ar nr cr, .bool tr, .slice Br mr dr] 26) = W58 at hE ⊢
            rw [← hg58]
            clear hg58
            go_wp2_with fail
            go_ret
            exact ⟨rfl, hE.bel⟩
        · have u3 : ((nb : Int) == 0) = false := beq_eq_false_iff_ne.2 (by omega)
          have u4 : (nb == 0) = false := beq_eq_false_iff_ne.2 hnb
          have b0 := nz_num (hE.here.2).1 hnb
          have Hb0 := Lib.hid b0
          clear b0
          clear hnb
          obtain ⟨k59, k60, k61, k62⟩ := (hE.here.1.1.1.2).c4
          obtain ⟨k63, k64, k65, k66⟩ := (hE.here.1.1.2).c4
          go_upto_region 13 with (fail)
          clear k59 k60 k61 k62 k63 k64 k65 k66
          have p0 : (a * b).num ≠ 0 := num_ne.2 (fun h => by have h1 := num_ne.1 Ha0.out; have h2 := num_ne.1 Hb0.out; rcases Rat.mul_eq_zero.1 h with h | h; exact h1 h; exact h2 h)
          have lab : fl (a * b) ≤ 16 := fl_times la lb
          have o1 : IntKind.i64.wrap (m + n) = m + n := by rw [IntKind.wrap_i64]; omega
          have o2 : IntKind.i64.wrap (-m) = -m := by rw [IntKind.wrap_i64]; omega
          have lp : fl (a ^ m) ≤ 41 := zpow_len (j := 5) la m Ha0.out (by omega)
          have lq : fl (a ^ n) ≤ 41 := zpow_len (j := 5) la n Ha0.out (by omega)
          have lr : fl (a ^ (m + n)) ≤ 81 := zpow_len (j := 10) la (m + n) Ha0.out (by omega)
          have ls : fl (b ^ m) ≤ 41 := zpow_len (j := 5) lb m Hb0.out (by omega)
          have lt : fl ((a * b) ^ m) ≤ 81 := zpow_len (j := 5) lab m p0 (by omega)
          have lu : fl (a ^ (-m)) ≤ 41 := zpow_len (j := 5) la (-m) Ha0.out (by omega)
          have Hp0 := Lib.hid p0
          clear p0
          have Hlab := Lib.hid lab
          clear lab
          obtain ⟨k67, k68, k69, k70⟩ := (hE.here.1.1.1.2).c4
          go_wp2_with fail
          have hc := fpow_z (ca := ca) (da := da) (hE.here.1.2) (fl_le2 la (by decide)) (m) (by omega) (by omega) (fun _ => Ha0.out) (fl_le2 lp (by decide))
          refine (hc).mono ?_
          clear k67 k68 k69 k70
          rintro e w71 ⟨sp, Ap, np, cp, tp, Bp, mp, dp, rfl, hp, hb⟩
          replace hE := hE.step hb
          clear hb
          replace hE := hE.fv hp
          clear hp
          clear hc
          go_upto_region 14 with (fail)
          obtain ⟨g72, hg72⟩ : ∃ g72, g72 = w71.heap.size := ⟨_, rfl⟩
          have hl72_1 : w.heap.size < g72 := by rw [hg72]; exact (hE.here.1.1.1.1.2).lt
          have hl72_2 : w.heap.size + 1 < g72 := by rw [hg72]; exact (hE.here.1.1.1.2).lt
          replace hE := hE.blk 26 #[.bool sp, .slice Ap np cp, .bool tp, .slice Bp mp dp] (g := g72) hg72.symm
          generalize w71.alloc (.cells #[.bool sp, .slice Ap np cp, .bool tp, .slice Bp mp dp] 26) = W72 at hE ⊢
          rw [← hg72]
          clear hg72
          obtain ⟨k73, k74, k75, k76⟩ := (hE.here.1.1.1.1.1.2).c4
          go_wp2_with fail
          have hc := fpow_z (ca := ca) (da := da) (hE.here.1.1.1.2) (fl_le2 la (by decide)) (n) (by omega) (by omega) (fun _ => Ha0.out) (fl_le2 lq (by decide))
          refine (hc).mono ?_
          clear k73 k74 k75 k76
          rintro e w77 ⟨sq, Aq, nq, cq, tq, Bq, mq, dq, rfl, hq, hb⟩
          replace hE := hE.step hb
          clear hb
          replace hE := hE.fv hq
          clear hq
          clear hc
          go_upto_region 15 with (fail)
          obtain ⟨g78, hg78⟩ : ∃ g78, g78 = w77.heap.size := ⟨_, rfl⟩
          have hl78_1 : w.heap.size < g78 := by rw [hg78]; exact (hE.here.1.1.1.1.1.1.2).lt
          have hl78_2 : w.heap.size + 1 < g78 := by rw [hg78]; exact (hE.here.1.1.1.1.1.2).lt
          have hl78_6 : g72 < g78 := by rw [hg78]; exact (hE.here.1.2).lt
          replace hE := hE.blk 26 #[.bool sq, .slice Aq nq cq, .bool tq, .slice Bq mq dq] (g := g78) hg78.symm
          generalize w77.alloc (.cells #[.bool sq, .slice Aq nq cq, .bool tq, .slice Bq mq dq] 26) = W78 at hE ⊢
          rw [← hg78]
          clear hg78
          obtain ⟨k79, k80, k81, k82⟩ := (hE.here.1.1.1.1.1.1.1.2).c4
          go_wp2_with fail
          have hc := fpow_z (ca := ca) (da := da) (hE.here.1.1.1.1.1.2) (fl_le2 la (by decide)) ((m + n)) (by omega) (by omega) (fun _ => Ha0.out) (fl_le2 lr (by decide))
          refine (hc).mono ?_
          clear k79 k80 k81 k82
          rintro e w83 ⟨sr, Ar, nr, cr, tr, Br, mr, dr, rfl, hr, hb⟩
          replace hE := hE.step hb
          clear hb
          replace hE := hE.fv hr
          clear hr
          clear hc
          go_upto_region 16 with (fail)
          obtain ⟨g84, hg84⟩ : ∃ g84, g84 = w83.heap.size := ⟨_, rfl⟩
          have hl84_1 : w.heap.size < g84 := by rw [hg84]; exact (hE.here.1.1.1.1.1.1.1.1.2).lt
          have hl84_2 : w.heap.size + 1 < g84 := by rw [hg84]; exact (hE.here.1.1.1.1.1.1.1.2).lt
          have hl84_6 : g72 < g84 := by rw [hg84]; exact (hE.here.1.1.1.2).lt
          have hl84_8 : g78 < g84 := by rw [hg84]; exact (hE.here.1.2).lt
          replace hE := hE.blk 26 #[.bool sr, .slice Ar nr cr, .bool tr, .slice Br mr dr] (g := g84) hg84.symm
          generalize w83.alloc (.cells #[.bool sr, .slice Ar nr cr, .bool tr, .slice Br mr dr] 26) = W84 at hE ⊢
          rw [← hg84]
          clear hg84
          obtain ⟨k85, k86, k87, k88⟩ := (hE.here.1.1.1.1.1.1.1.1.2).c4
          go_wp2_with fail
          have hc := fpow_z (ca := cb) (da := db) (hE.here.1.1.1.1.1.1.2) (fl_le2 lb (by decide)) (m) (by omega) (by omega) (fun _ => Hb0.out) (fl_le2 ls (by decide))
          refine (hc).mono ?_
          clear k85 k86 k87 k88
          rintro e w89 ⟨ss, As, ns, cs, ts, Bs, ms, ds, rfl, hs, hb⟩
          replace hE := hE.step hb
          clear hb
          replace hE := hE.fv hs
          clear hs
          clear hc
          go_upto_region 17 with (fail)
          obtain ⟨g90, hg90⟩ : ∃ g90, g90 = w89.heap.size := ⟨_, rfl⟩
          have hl90_1 : w.heap.size < g90 := by rw [hg90]; exact (hE.here.1.1.1.1.1.1.1.1.1.1.2).lt
          have hl90_2 : w.heap.size + 1 < g90 := by rw [hg90]; exact (hE.here.1.1.1.1.1.1.1.1.1.2).lt
          have hl90_6 : g72 < g90 := by rw [hg90]; exact (hE.here.1.1.1.1.1.2).lt
          have hl90_8 : g78 < g90 := by rw [hg90]; exact (hE.here.1.1.1.2).lt
          have hl90_10 : g84 < g90 := by rw [hg90]; exact (hE.here.1.2).lt
          replace hE := hE.blk 26 #[.bool ss, .slice As ns cs, .bool ts, .slice Bs ms ds] (g := g90) hg90.symm
          generalize w89.alloc (.cells #[.bool ss, .slice As ns cs, .bool ts, .slice Bs ms ds] 26) = W90 at hE ⊢
          rw [← hg90]
          clear hg90
          obtain ⟨k91, k92, k93, k94⟩ := (hE.here.1.1.1.1.1.1.1.1.1.1.1.2).c4
          obtain ⟨k95, k96, k97, k98⟩ := (hE.here.1.1.1.1.1.1.1.1.1.1.2).c4
          go_wp2_with fail
          refine (lw_product (ca := ca) (da := da) (cb := cb) (db := db) (hE.here.1.1.1.1.1.1.1.1.1.2) (hE.here.1.1.1.1.1.1.1.1.2) (fl_le2 la (by decide)) (fl_le2 lb (by decide)) (fl_le2 Hlab.out (by decide))).mono ?_
          clear k91 k92 k93 k94 k95 k96 k97 k98
          rintro e w99 ⟨sx, Ax, nx, cx, tx, Bx, mx, dx, rfl, hx, hb⟩
          replace hE := hE.step hb
          clear hb
          replace hE := hE.fv hx
          clear hx
          go_wp2_with fail
          have hc := fpow_z (ca := cx) (da := dx) (hE.here.2) (fl_le2 Hlab.out (by decide)) m (by omega) (by omega) (fun _ => Hp0.out) (fl_le2 lt (by decide))
          refine (hc).mono ?_
          rintro e w100 ⟨st, At, nt, ct, tt, Bt, mt, dt, rfl, ht, hb⟩
          replace hE := hE.step hb
          clear hb
          replace hE := hE.fv ht
          clear ht
          clear hc
          go_upto_region 18 with (fail)
          obtain ⟨g101, hg101⟩ : ∃ g101, g101 = w100.heap.size := ⟨_, rfl⟩
          have hl101_1 : w.heap.size < g101 := by rw [hg101]; exact (hE.here.1.1.1.1.1.1.1.1.1.1.1.1.1.2).lt
          have hl101_2 : w.heap.size + 1 < g101 := by rw [hg101]; exact (hE.here.1.1.1.1.1.1.1.1.1.1.1.1.2).lt
          have hl101_6 : g72 < g101 := by rw [hg101]; exact (hE.here.1.1.1.1.1.1.1.1.2).lt
          have hl101_8 : g78 < g101 := by rw [hg101]; exact (hE.here.1.1.1.1.1.1.2).lt
          have hl101_10 : g84 < g101 := by rw [hg101]; exact (hE.here.1.1.1.1.2).lt
          have hl101_12 : g90 < g101 := by rw [hg101]; exact (hE.here.1.1.2).lt
          replace hE := hE.blk 26 #[.bool st, .slice At nt ct, .bool tt, .slice Bt mt dt] (g := g101) hg101.symm
          generalize w100.alloc (.cells #[.bool st, .slice At nt ct, .bool tt, .slice Bt mt dt] 26) = W101 at hE ⊢
          rw [← hg101]
          clear hg101
          obtain ⟨k102, k103, k104, k105⟩ := (hE.here.1.1.1.1.1.1.1.1.1.1.1.1.1.1.2).c4
          go_wp2_with fail
          have hc := fpow_z (ca := ca) (da := da) (hE.here.1.1.1.1.1.1.1.1.1.1.1.1.2) (fl_le2 la (by decide)) ((-m)) (by omega) (by omega) (fun _ => Ha0.out) (fl_le2 lu (by decide))
          refine (hc).mono ?_
          clear k102 k103 k104 k105
          rintro e w106 ⟨sv, Av, nv, cv, tv, Bv, mv, dv, rfl, hv, hb⟩
          replace hE := hE.step hb
          clear hb
          replace hE := hE.fv hv
          clear hv
          clear hc
          go_upto_region 19 with (fail)
          obtain ⟨g107, hg107⟩ : ∃ g107, g107 = w106.heap.size := ⟨_, rfl⟩
          have hl107_1 : w.heap.size < g107 := by rw [hg107]; exact (hE.here.1.1.1.1.1.1.1.1.1.1.1.1.1.1.1.2).lt
          have hl107_2 : w.heap.size + 1 < g107 := by rw [hg107]; exact (hE.here.1.1.1.1.1.1.1.1.1.1.1.1.1.1.2).lt
          have hl107_6 : g72 < g107 := by rw [hg107]; exact (hE.here.1.1.1.1.1.1.1.1.1.1.2).lt
          have hl107_8 : g78 < g107 := by rw [hg107]; exact (hE.here.1.1.1.1.1.1.1.1.2).lt
          have hl107_10 : g84 < g107 := by rw [hg107]; exact (hE.here.1.1.1.1.1.1.2).lt
          have hl107_12 : g90 < g107 := by rw [hg107]; exact (hE.here.1.1.1.1.2).lt
          have hl107_15 : g101 < g107 := by rw [hg107]; exact (hE.here.1.2).lt
          replace hE := hE.blk 26 #[.bool sv, .slice Av nv cv, .bool tv, .slice Bv mv dv] (g := g107) hg107.symm
          generalize w106.alloc (.cells #[.bool sv, .slice Av nv cv, .bool tv, .slice Bv mv dv] 26) = W107 at hE ⊢
          rw [← hg107]
          clear hg107
          go_upto_region 21 with (fail)
          have qa := num_ne.1 Ha0.out
          have Hqa := Lib.hid qa
          clear qa
          have e1 : a ^ m * a ^ n = a ^ (m + n) := (Rat.zpow_add Hqa.out m n).symm
          have e2 : a ^ m * b ^ m = (a * b) ^ m := (zpow_mul a b m).symm
          have e3 : a ^ m * a ^ (-m) = ((1 : Int) : Rat) := zpow_opp Hqa.out m
          have He1 := Lib.hid e1
          clear e1
          have He2 := Lib.hid e2
          clear e2
          have He3 := Lib.hid e3
          clear e3
          replace hE := hE.drew
          refine wp_region_held_drew (S := fun w' => w'.cell? ⟨g72, 0, none⟩ = some (.bool sp) ∧ w'.cell? ⟨g72, 1, none⟩ = some (.slice Ap np cp) ∧ w'.cell? ⟨g72, 2, none⟩ = some (.bool tp) ∧ w'.cell? ⟨g72, 3, none⟩ = some (.slice Bp mp dp) ∧ w'.cell? ⟨g78, 0, none⟩ = some (.bool sq) ∧ w'.cell? ⟨g78, 1, none⟩ = some (.slice Aq nq cq) ∧ w'.cell? ⟨g78, 2, none⟩ = some (.bool tq) ∧ w'.cell? ⟨g78, 3, none⟩ = some (.slice Bq mq dq) ∧ w'.cell? ⟨g84, 0, none⟩ = some (.bool sr) ∧ w'.cell? ⟨g84, 1, none⟩ = some (.slice Ar nr cr) ∧ w'.cell? ⟨g84, 2, none⟩ = some (.bool tr) ∧ w'.cell? ⟨g84, 3, none⟩ = some (.slice Br mr dr) ∧ w'.cell? ⟨g90, 0, none⟩ = some (.bool ss) ∧ w'.cell? ⟨g90, 1, none⟩ = some (.slice As ns cs) ∧ w'.cell? ⟨g90, 2, none⟩ = some (.bool ts) ∧ w'.cell? ⟨g90, 3, none⟩ = some (.slice Bs ms ds) ∧ w'.cell? ⟨g101, 0, none⟩ = some (.bool st) ∧ w'.cell? ⟨g101, 1, none⟩ = some (.slice At nt ct) ∧ w'.cell? ⟨g101, 2, none⟩ = some (.bool tt) ∧ w'.cell? ⟨g101, 3, none⟩ = some (.slice Bt mt dt) ∧ w'.cell? ⟨g107, 0, none⟩ = some (.bool sv) ∧ w'.cell? ⟨g107, 1, none⟩ = some (.slice Av nv cv) ∧ w'.cell? ⟨g107, 2, none⟩ = some (.bool tv) ∧ w'.cell? ⟨g107, 3, none⟩ = some (.slice Bv mv dv)) (by kernel_rfl) (hE.here.1.1.1.1.1.1.1.1.1.1.1.2.j4 (hE.here.1.1.1.1.1.1.1.1.1.2.j4 (hE.here.1.1.1.1.1.1.1.2.j4 (hE.here.1.1.1.1.1.2.j4 (hE.here.1.1.2.j4 hE.here.2.c4))))) (fun hHeld => ?_)
          refine tk 0 ?_
          try simp only [PL]
          refine tk 1 ?_
          try simp only [PL]
          refine tk 3 ?_
          try simp only [PL]
          refine r1 2 (fun K hK => ?_)
          go_simp
          refine (lw_product (ca := cp) (da := dp) (cb := cq) (db := dq) (hE.here.1.1.1.1.1.1.1.1.1.1.1.1.2) (hE.here.1.1.1.1.1.1.1.1.1.1.2) (fl_le2 lp (by decide)) (fl_le2 lq (by decide)) (fl_le2 (fl_times lp lq) (by decide))).mono ?_
          rintro e w108 ⟨sg, Ag, ng, cg, tg, Bg, mg, dg, rfl, hg, hb⟩
          replace hE := hE.step hb
          clear hb
          replace hE := hE.fv hg
          clear hg
          go_wp2_with fail
          refine hK.out _ _ (hE.here.1.1.1.1.1.1.1.1.1.1.1.1.2.j4 (hE.here.1.1.1.1.1.1.1.1.1.1.2.j4 (hE.here.1.1.1.1.1.1.1.1.2.j4 (hE.here.1.1.1.1.1.1.2.j4 (hE.here.1.1.1.2.j4 hE.here.1.2.c4))))) (fun hHeld => ?_)
          clear hK K
          try simp only [PL]
          refine r1 4 (fun K hK => ?_)
          go_simp
          refine (lw_equal (v := true) (ca := cg) (da := dg) (cb := cr) (db := dr) (hE.here.2) (hE.here.1.1.1.1.1.1.1.1.1.2) (fl_le2 (fl_times lp lq) (by decide)) (fl_le2 lr (by decide)) (decide_eq_true He1.out)).mono ?_
          rintro e w109 ⟨rfl, hb⟩
          replace hE := hE.step hb
          clear hb
          go_wp2_with fail
          refine hK.out _ _ (hE.here.1.1.1.1.1.1.1.1.1.1.1.1.2.j4 (hE.here.1.1.1.1.1.1.1.1.1.1.2.j4 (hE.here.1.1.1.1.1.1.1.1.2.j4 (hE.here.1.1.1.1.1.1.2.j4 (hE.here.1.1.1.2.j4 hE.here.1.2.c4))))) (fun hHeld => ?_)
          clear hK K
          try simp only [PL]
          refine tk 5 ?_
          try simp only [PL]
          refine tk 6 ?_
          try simp only [PL]
          refine tk 7 ?_
          try simp only [PL]
          refine tk 9 ?_
          try simp only [PL]
          refine r1 8 (fun K hK => ?_)
          go_simp
          refine (lw_product (ca := cp) (da := dp) (cb := cs) (db := ds) (hE.here.1.1.1.1.1.1.1.1.1.1.1.1.1.2) (hE.here.1.1.1.1.1.1.1.2) (fl_le2 lp (by decide)) (fl_le2 ls (by decide)) (fl_le2 (fl_times lp ls) (by decide))).mono ?_
          rintro e w110 ⟨sh, Ah, nh, ch, th, Bh, mh, dh, rfl, hh, hb⟩
          replace hE := hE.step hb
          clear hb
          replace hE := hE.fv hh
          clear hh
          go_wp2_with fail
          refine hK.out _ _ (hE.here.1.1.1.1.1.1.1.1.1.1.1.1.1.2.j4 (hE.here.1.1.1.1.1.1.1.1.1.1.1.2.j4 (hE.here.1.1.1.1.1.1.1.1.1.2.j4 (hE.here.1.1.1.1.1.1.1.2.j4 (hE.here.1.1.1.1.2.j4 hE.here.1.1.2.c4))))) (fun hHeld => ?_)
          clear hK K
          try simp only [PL]
          refine r1 10 (fun K hK => ?_)
          go_simp
          refine (lw_equal (v := true) (ca := ch) (da := dh) (cb := ct) (db := dt) (hE.here.2) (hE.here.1.1.1.1.1.2) (fl_le2 (fl_times lp ls) (by decide)) (fl_le2 lt (by decide)) (decide_eq_true He2.out)).mono ?_
          rintro e w111 ⟨rfl, hb⟩
          replace hE := hE.step hb
          clear hb
          go_wp2_with fail
          refine hK.out _ _ (hE.here.1.1.1.1.1.1.1.1.1.1.1.1.1.2.j4 (hE.here.1.1.1.1.1.1.1.1.1.1.1.2.j4 (hE.here.1.1.1.1.1.1.1.1.1.2.j4 (hE.here.1.1.1.1.1.1.1.2.j4 (hE.here.1.1.1.1.2.j4 hE.here.1.1.2.c4))))) (fun hHeld => ?_)
          clear hK K
          try simp only [PL]
          refine tk 11 ?_
          try simp only [PL]
          refine tk 12 ?_
          try simp only [PL]
          refine tk 13 ?_
          try simp only [PL]
          refine tk 14 ?_
          try simp only [PL]
          refine r1 15 (fun K hK => ?_)
          go_simp
          refine (lw_product (ca := cp) (da := dp) (cb := cv) (db := dv) (hE.here.1.1.1.1.1.1.1.1.1.1.1.1.1.1.2) (hE.here.1.1.1.2) (fl_le2 lp (by decide)) (fl_le2 lu (by decide)) (fl_le2 (fl_times lp lu) (by decide))).mono ?_
          rintro e w112 ⟨si, Ai, ni, ci, ti, Bi, mi, di, rfl, hi, hb⟩
          replace hE := hE.step hb
          clear hb
          replace hE := hE.fv hi
          clear hi
          go_wp2_with fail
          refine hK.out _ _ (hE.here.1.1.1.1.1.1.1.1.1.1.1.1.1.1.2.j4 (hE.here.1.1.1.1.1.1.1.1.1.1.1.1.2.j4 (hE.here.1.1.1.1.1.1.1.1.1.1.2.j4 (hE.here.1.1.1.1.1.1.1.1.2.j4 (hE.here.1.1.1.1.1.2.j4 hE.here.1.1.1.2.c4))))) (fun hHeld => ?_)
          clear hK K
          try simp only [PL]
          refine r1 16 (fun K hK => ?_)
          go_simp
          refine (ffromInt_v 1 _ (by decide) (by decide)).mono ?_
          rintro e w113 ⟨su, Au, nu, cu, tu, Bu, mu, du, rfl, hu, hb⟩
          replace hE := hE.step hb
          clear hb
          replace hE := hE.fv hu
          clear hu
          go_wp2_with fail
          refine hK.out _ _ (hE.here.1.1.1.1.1.1.1.1.1.1.1.1.1.1.1.2.j4 (hE.here.1.1.1.1.1.1.1.1.1.1.1.1.1.2.j4 (hE.here.1.1.1.1.1.1.1.1.1.1.1.2.j4 (hE.here.1.1.1.1.1.1.1.1.1.2.j4 (hE.here.1.1.1.1.1.1.2.j4 hE.here.1.1.1.1.2.c4))))) (fun hHeld => ?_)
          clear hK K
          try simp only [PL]
          refine r1 17 (fun K hK => ?_)
          go_simp
          refine (lw_equal (v := true) (ca := ci) (da := di) (cb := cu) (db := du) (hE.here.1.2) (hE.here.2) (fl_le2 (fl_times lp lu) (by decide)) (fl_le2 pw_o (by decide)) (decide_eq_true He3.out)).mono ?_
          rintro e w114 ⟨rfl, hb⟩
          replace hE := hE.step hb
          clear hb
          go_wp2_with fail
          refine hK.out _ _ (hE.here.1.1.1.1.1.1.1.1.1.1.1.1.1.1.1.2.j4 (hE.here.1.1.1.1.1.1.1.1.1.1.1.1.1.2.j4 (hE.here.1.1.1.1.1.1.1.1.1.1.1.2.j4 (hE.here.1.1.1.1.1.1.1.1.1.2.j4 (hE.here.1.1.1.1.1.1.2.j4 hE.here.1.1.1.1.2.c4))))) (fun hHeld => ?_)
          clear hK K
          try simp only [PL]
          refine tk 18 ?_
          try simp only [PL]
          refine tk 19 ?_
          try simp only [PL]
          refine wpAnyH_done (by kernel_rfl) ?_ _
          go_wp2_with fail
          go_ret
          exact ⟨rfl, hE.bel⟩
end Go.Proofs.YtifikcemcflgjaaGreat
