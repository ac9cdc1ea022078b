/-
  The walk of FracField.
-/
import Derived.Test.YtifikcemcflgjaaGreatK1
import Derived.Test.YtifikcemcflgjaaGreatK9
import Derived.Test.YtifikcemcflgjaaGreatGA
namespace Go.Proofs.YtifikcemcflgjaaGreat
open Go.RowKit

theorem fl_zz : fl ((0 : Int) : Rat) ≤ 1 := by rw [fl_le]; exact ⟨by decide, by decide⟩
theorem fl_oo : fl ((1 : Int) : Rat) ≤ 1 := by rw [fl_le]; exact ⟨by decide, by decide⟩
theorem field_e1 {a b : Rat} : decide (a + b = b + a) = true := decide_eq_true (Rat.add_comm a b)
theorem field_e2 {a b : Rat} : decide (a * b = b * a) = true := decide_eq_true (Rat.mul_comm a b)
theorem field_e3 {a b c : Rat} : decide (a + b + c = a + (b + c)) = true := decide_eq_true (Rat.add_assoc a b c)
theorem field_e4 {a b c : Rat} : decide (a * b * c = a * (b * c)) = true := decide_eq_true (Rat.mul_assoc a b c)
theorem field_e5 {a b c : Rat} : decide (a * (b + c) = a * b + a * c) = true := decide_eq_true (Rat.mul_add a b c)
theorem field_e6 {a : Rat} : decide (a + ((0 : Int) : Rat) = a) = true := decide_eq_true (by show a + 0 = a; grind)
theorem field_e7 {a : Rat} : decide (a * ((1 : Int) : Rat) = a) = true := decide_eq_true (by show a * 1 = a; grind)
theorem field_e8 {a b : Rat} : decide (a + b - b = a) = true := decide_eq_true (by grind)
theorem field_e9 {a : Rat} : decide (a + (((0 : Int) : Rat) - a) = ((0 : Int) : Rat)) = true := decide_eq_true (by show a + (0 - a) = 0; grind)
theorem field_e10 {a : Rat} : decide (-a = ((0 : Int) : Rat) - a) = true := decide_eq_true (by show -a = 0 - a; grind)
theorem field_e11 {a b : Rat} (h : b ≠ 0) : decide (a * b / b = a) = true := decide_eq_true (by grind)
theorem field_e12 {a b : Rat} (h : b ≠ 0) : decide (a / b * b = a) = true := decide_eq_true (by grind)
theorem field_e13 {b : Rat} (h : b ≠ 0) : decide (b * (((1 : Int) : Rat) / b) = ((1 : Int) : Rat)) = true := decide_eq_true (by show b * (1 / b) = 1; grind)
set_option linter.unusedSimpArgs false in
set_option maxRecDepth 100000 in
set_option maxHeartbeats 16000000 in
theorem ffield_walk {sa ta sb tb sc tc : Bool} {Aa Ba Ab Bb Ac Bc : Option Addr} {na ca ma da nb cb mb db nc cc mc dc : Nat} {fa ga fb gb fc gc : Nat → Nat} {k0 : Int} {w : World} (hlt : 0 < w.heap.size) (hm : w.cell? ⟨0, 0, none⟩ = some (.int .i64 k0)) (ra : FRd w Aa na fa Ba ma ga) (rb : FRd w Ab nb fb Bb mb gb) (rc : FRd w Ac nc fc Bc mc gc) :
    Calls Tryz.prog 8 #[.agg #[.bool sa, .slice Aa na ca, .bool ta, .slice Ba ma da], .agg #[.bool sb, .slice Ab nb cb, .bool tb, .slice Bb mb db], .agg #[.bool sc, .slice Ac nc cc, .bool tc, .slice Bc mc dc]] w (fun e w' => e = .returned (.bool true) ∧ Below w.heap.size w w') := by
  have hE := (((((((Env.start w).at_ hlt hm).frd ra).frd rb).frd rc).blk 26 #[.bool sa, .slice Aa na ca, .bool ta, .slice Ba ma da] (g := w.heap.size) rfl).blk 26 #[.bool sb, .slice Ab nb cb, .bool tb, .slice Bb mb db] (g := w.heap.size + 1) (by simp)).blk 26 #[.bool sc, .slice Ac nc cc, .bool tc, .slice Bc mc dc] (g := w.heap.size + 1 + 1) (by simp)
  obtain ⟨W0, hW0⟩ : ∃ W0, W0 = (((w.alloc (.cells #[.bool sa, .slice Aa na ca, .bool ta, .slice Ba ma da] 26)).alloc (.cells #[.bool sb, .slice Ab nb cb, .bool tb, .slice Bb mb db] 26)).alloc (.cells #[.bool sc, .slice Ac nc cc, .bool tc, .slice Bc mc dc] 26)) := ⟨_, rfl⟩
  rw [← hW0] at hE
  have HW0 := Lib.hid hW0
  clear hW0
  go_enter Tryz.func8, Tryz.ntmps8
  go_upto_region 1 with (fail)
  rw [← HW0.out]
  go_wp2_with fail
  refine (awake2_t _ (hE.here.1.1.1.1.1.1.2).2 (hE.here.1.1.1.1.1.1.2).1).mono ?_
  rintro e w1 ⟨rfl, hb⟩
  replace hE := hE.step hb
  clear hb
  obtain ⟨k2, k3, k4, k5⟩ := (hE.here.1.1.2).c4
  obtain ⟨k6, k7, k8, k9⟩ := (hE.here.1.2).c4
  obtain ⟨k10, k11, k12, k13⟩ := (hE.here.2).c4
  go_wp2_with fail
  refine (usable3 ⟨sa, Aa, na, ca, fa, ta, Ba, ma, da, ga⟩ ⟨sb, Ab, nb, cb, fb, tb, Bb, mb, db, gb⟩ ⟨sc, Ac, nc, cc, fc, tc, Bc, mc, dc, gc⟩ _ (hE.here.1.1.1.1.1.2) (hE.here.1.1.1.1.2) (hE.here.1.1.1.2)).mono ?_
  clear k2 k3 k4 k5 k6 k7 k8 k9 k10 k11 k12 k13
  rintro e w14 ⟨v, rfl, hv, hb⟩
  replace hE := hE.step hb
  clear hb
  cases v with
  | false =>
    clear hv
    go_wp2_with fail
    go_ret
    exact ⟨rfl, hE.bel⟩
  | true =>
    obtain ⟨ua, ub, uc⟩ := hv rfl
    clear hv
    obtain ⟨a, ha, la⟩ := us_fv ua (hE.here.1.1.1.1.1.2)
    obtain ⟨b, hb, lb⟩ := us_fv ub (hE.here.1.1.1.1.2)
    obtain ⟨c, hc, lc⟩ := us_fv uc (hE.here.1.1.1.2)
    replace hE := (((hE.fv ha).fv hb).fv hc)
    clear ha hb hc ua ub uc
    go_wp2_with fail
    refine (ffromInt_v 0 _ (by decide) (by decide)).mono ?_
    rintro e w15 ⟨sz, Az, nz, cz, tz, Bz, mz, dz, rfl, hz, hb⟩
    replace hE := hE.step hb
    clear hb
    replace hE := hE.fv hz
    clear hz
    go_wp2_with fail
    refine (ffromInt_v 1 _ (by decide) (by decide)).mono ?_
    rintro e w16 ⟨su, Au, nu, cu, tu, Bu, mu, du, rfl, hu, hb⟩
    replace hE := hE.step hb
    clear hb
    replace hE := hE.fv hu
    clear hu
    go_upto_region 6 with (fail)
    obtain ⟨g17, hg17⟩ : ∃ g17, g17 = w16.heap.size := ⟨_, rfl⟩
    have hl17_4 : w.heap.size < g17 := by rw [hg17]; exact (hE.here.1.1.1.1.1.1.1.2).lt
    have hl17_5 : w.heap.size + 1 < g17 := by rw [hg17]; exact (hE.here.1.1.1.1.1.1.2).lt
    have hl17_6 : w.heap.size + 1 + 1 < g17 := by rw [hg17]; exact (hE.here.1.1.1.1.1.2).lt
    replace hE := hE.blk 26 #[.bool sz, .slice Az nz cz, .bool tz, .slice Bz mz dz] (g := g17) hg17.symm
    have hsz : (w16.alloc (.cells #[.bool sz, .slice Az nz cz, .bool tz, .slice Bz mz dz] 26)).heap.size = g17 + 1 := by rw [hg17, World.size_alloc]
    generalize w16.alloc (.cells #[.bool sz, .slice Az nz cz, .bool tz, .slice Bz mz dz] 26) = W17 at hE hsz ⊢
    obtain ⟨g18, hg18⟩ : ∃ g18, g18 = g17 + 1 := ⟨_, rfl⟩
    have hl18_4 : w.heap.size < g18 := by rw [hg18, ← hsz]; exact (hE.here.1.1.1.1.1.1.1.1.2).lt
    have hl18_5 : w.heap.size + 1 < g18 := by rw [hg18, ← hsz]; exact (hE.here.1.1.1.1.1.1.1.2).lt
    have hl18_6 : w.heap.size + 1 + 1 < g18 := by rw [hg18, ← hsz]; exact (hE.here.1.1.1.1.1.1.2).lt
    have hl18_12 : g17 < g18 := by rw [hg18, ← hsz]; exact (hE.here.2).lt
    replace hE := hE.blk 26 #[.bool su, .slice Au nu cu, .bool tu, .slice Bu mu du] (g := g18) (hsz.trans hg18.symm)
    generalize W17.alloc (.cells #[.bool su, .slice Au nu cu, .bool tu, .slice Bu mu du] 26) = W18 at hE ⊢
    rw [← hg17, ← hg18]
    clear hsz hg18 hg17
    replace hE := hE.drew
    refine wp_region_held_drew (S := fun w' => w'.cell? ⟨w.heap.size, 0, none⟩ = some (.bool sa) ∧ w'.cell? ⟨w.heap.size, 1, none⟩ = some (.slice Aa na ca) ∧ w'.cell? ⟨w.heap.size, 2, none⟩ = some (.bool ta) ∧ w'.cell? ⟨w.heap.size, 3, none⟩ = some (.slice Ba ma da) ∧ w'.cell? ⟨w.heap.size + 1, 0, none⟩ = some (.bool sb) ∧ w'.cell? ⟨w.heap.size + 1, 1, none⟩ = some (.slice Ab nb cb) ∧ w'.cell? ⟨w.heap.size + 1, 2, none⟩ = some (.bool tb) ∧ w'.cell? ⟨w.heap.size + 1, 3, none⟩ = some (.slice Bb mb db) ∧ w'.cell? ⟨w.heap.size + 1 + 1, 0, none⟩ = some (.bool sc) ∧ w'.cell? ⟨w.heap.size + 1 + 1, 1, none⟩ = some (.slice Ac nc cc) ∧ w'.cell? ⟨w.heap.size + 1 + 1, 2, none⟩ = some (.bool tc) ∧ w'.cell? ⟨w.heap.size + 1 + 1, 3, none⟩ = some (.slice Bc mc dc)) (by kernel_rfl) (hE.here.1.1.1.1.1.1.1.1.1.2.j4 (hE.here.1.1.1.1.1.1.1.1.2.j4 hE.here.1.1.1.1.1.1.1.2.c4)) (fun hHeld => ?_)
    refine tk 0 ?_
    try simp only [PL]
    refine tk 1 ?_
    try simp only [PL]
    refine tk 3 ?_
    try simp only [PL]
    refine tk 4 ?_
    try simp only [PL]
    refine r1 2 (fun K hK => ?_)
    go_simp
    refine (lw_sum (ca := ca) (da := da) (cb := cb) (db := db) (hE.here.1.1.1.1.1.1.2) (hE.here.1.1.1.1.1.2) (fl_le2 la (by decide)) (fl_le2 lb (by decide)) (fl_le2 (fl_plus la lb) (by decide))).mono ?_
    rintro e w19 ⟨sr1, Ar1, nr1, cr1, tr1, Br1, mr1, dr1, rfl, hr1, hb⟩
    replace hE := hE.step hb
    clear hb
    replace hE := hE.fv hr1
    clear hr1
    go_wp2_with fail
    refine hK.out _ _ (hE.here.1.1.1.1.1.1.1.1.1.1.2.j4 (hE.here.1.1.1.1.1.1.1.1.1.2.j4 hE.here.1.1.1.1.1.1.1.1.2.c4)) (fun hHeld => ?_)
    clear hK K
    try simp only [PL]
    refine r1 5 (fun K hK => ?_)
    go_simp
    refine (lw_sum (ca := cb) (da := db) (cb := ca) (db := da) (hE.here.1.1.1.1.1.1.2) (hE.here.1.1.1.1.1.1.1.2) (fl_le2 lb (by decide)) (fl_le2 la (by decide)) (fl_le2 (fl_plus lb la) (by decide))).mono ?_
    rintro e w20 ⟨sr2, Ar2, nr2, cr2, tr2, Br2, mr2, dr2, rfl, hr2, hb⟩
    replace hE := hE.step hb
    clear hb
    replace hE := hE.fv hr2
    clear hr2
    go_wp2_with fail
    refine hK.out _ _ (hE.here.1.1.1.1.1.1.1.1.1.1.1.2.j4 (hE.here.1.1.1.1.1.1.1.1.1.1.2.j4 hE.here.1.1.1.1.1.1.1.1.1.2.c4)) (fun hHeld => ?_)
    clear hK K
    try simp only [PL]
    refine r1 6 (fun K hK => ?_)
    go_simp
    refine (lw_equal (v := true) (ca := cr1) (da := dr1) (cb := cr2) (db := dr2) (hE.here.1.2) (hE.here.2) (fl_le2 (fl_plus la lb) (by decide)) (fl_le2 (fl_plus lb la) (by decide)) field_e1).mono ?_
    rintro e w21 ⟨rfl, hb⟩
    replace hE := hE.step hb
    clear hb
    go_wp2_with fail
    refine hK.out _ _ (hE.here.1.1.1.1.1.1.1.1.1.1.1.2.j4 (hE.here.1.1.1.1.1.1.1.1.1.1.2.j4 hE.here.1.1.1.1.1.1.1.1.1.2.c4)) (fun hHeld => ?_)
    clear hK K
    try simp only [PL]
    refine tk 7 ?_
    try simp only [PL]
    refine tk 8 ?_
    try simp only [PL]
    refine tk 9 ?_
    try simp only [PL]
    refine tk 10 ?_
    try simp only [PL]
    refine tk 12 ?_
    try simp only [PL]
    refine tk 13 ?_
    try simp only [PL]
    refine r1 11 (fun K hK => ?_)
    go_simp
    refine (lw_product (ca := ca) (da := da) (cb := cb) (db := db) (hE.here.1.1.1.1.1.1.1.1.2) (hE.here.1.1.1.1.1.1.1.2) (fl_le2 la (by decide)) (fl_le2 lb (by decide)) (fl_le2 (fl_times la lb) (by decide))).mono ?_
    rintro e w22 ⟨sr3, Ar3, nr3, cr3, tr3, Br3, mr3, dr3, rfl, hr3, hb⟩
    replace hE := hE.step hb
    clear hb
    replace hE := hE.fv hr3
    clear hr3
    go_wp2_with fail
    refine hK.out _ _ (hE.here.1.1.1.1.1.1.1.1.1.1.1.1.2.j4 (hE.here.1.1.1.1.1.1.1.1.1.1.1.2.j4 hE.here.1.1.1.1.1.1.1.1.1.1.2.c4)) (fun hHeld => ?_)
    clear hK K
    try simp only [PL]
    refine r1 14 (fun K hK => ?_)
    go_simp
    refine (lw_product (ca := cb) (da := db) (cb := ca) (db := da) (hE.here.1.1.1.1.1.1.1.1.2) (hE.here.1.1.1.1.1.1.1.1.1.2) (fl_le2 lb (by decide)) (fl_le2 la (by decide)) (fl_le2 (fl_times lb la) (by decide))).mono ?_
    rintro e w23 ⟨sr4, Ar4, nr4, cr4, tr4, Br4, mr4, dr4, rfl, hr4, hb⟩
    replace hE := hE.step hb
    clear hb
    replace hE := hE.fv hr4
    clear hr4
    go_wp2_with fail
    refine hK.out _ _ (hE.here.1.1.1.1.1.1.1.1.1.1.1.1.1.2.j4 (hE.here.1.1.1.1.1.1.1.1.1.1.1.1.2.j4 hE.here.1.1.1.1.1.1.1.1.1.1.1.2.c4)) (fun hHeld => ?_)
    clear hK K
    try simp only [PL]
    refine r1 15 (fun K hK => ?_)
    go_simp
    refine (lw_equal (v := true) (ca := cr3) (da := dr3) (cb := cr4) (db := dr4) (hE.here.1.2) (hE.here.2) (fl_le2 (fl_times la lb) (by decide)) (fl_le2 (fl_times lb la) (by decide)) field_e2).mono ?_
    rintro e w24 ⟨rfl, hb⟩
    replace hE := hE.step hb
    clear hb
    go_wp2_with fail
    refine hK.out _ _ (hE.here.1.1.1.1.1.1.1.1.1.1.1.1.1.2.j4 (hE.here.1.1.1.1.1.1.1.1.1.1.1.1.2.j4 hE.here.1.1.1.1.1.1.1.1.1.1.1.2.c4)) (fun hHeld => ?_)
    clear hK K
    try simp only [PL]
    refine tk 16 ?_
    try simp only [PL]
    refine tk 17 ?_
    try simp only [PL]
    refine tk 18 ?_
    try simp only [PL]
    refine tk 19 ?_
    try simp only [PL]
    refine tk 20 ?_
    try simp only [PL]
    refine tk 22 ?_
    try simp only [PL]
    refine tk 24 ?_
    try simp only [PL]
    refine tk 25 ?_
    try simp only [PL]
    refine tk 26 ?_
    try simp only [PL]
    refine r1 21 (fun K hK => ?_)
    go_simp
    refine (lw_sum (ca := ca) (da := da) (cb := cb) (db := db) (hE.here.1.1.1.1.1.1.1.1.1.1.2) (hE.here.1.1.1.1.1.1.1.1.1.2) (fl_le2 la (by decide)) (fl_le2 lb (by decide)) (fl_le2 (fl_plus la lb) (by decide))).mono ?_
    rintro e w25 ⟨sr5, Ar5, nr5, cr5, tr5, Br5, mr5, dr5, rfl, hr5, hb⟩
    replace hE := hE.step hb
    clear hb
    replace hE := hE.fv hr5
    clear hr5
    go_wp2_with fail
    refine hK.out _ _ (hE.here.1.1.1.1.1.1.1.1.1.1.1.1.1.1.2.j4 (hE.here.1.1.1.1.1.1.1.1.1.1.1.1.1.2.j4 hE.here.1.1.1.1.1.1.1.1.1.1.1.1.2.c4)) (fun hHeld => ?_)
    clear hK K
    try simp only [PL]
    refine r1 23 (fun K hK => ?_)
    go_simp
    refine (lw_sum (ca := cr5) (da := dr5) (cb := cc) (db := dc) (hE.here.2) (hE.here.1.1.1.1.1.1.1.1.1.2) (fl_le2 (fl_plus la lb) (by decide)) (fl_le2 lc (by decide)) (fl_le2 (fl_plus (fl_plus la lb) lc) (by decide))).mono ?_
    rintro e w26 ⟨sr6, Ar6, nr6, cr6, tr6, Br6, mr6, dr6, rfl, hr6, hb⟩
    replace hE := hE.step hb
    clear hb
    replace hE := hE.fv hr6
    clear hr6
    go_wp2_with fail
    refine hK.out _ _ (hE.here.1.1.1.1.1.1.1.1.1.1.1.1.1.1.1.2.j4 (hE.here.1.1.1.1.1.1.1.1.1.1.1.1.1.1.2.j4 hE.here.1.1.1.1.1.1.1.1.1.1.1.1.1.2.c4)) (fun hHeld => ?_)
    clear hK K
    try simp only [PL]
    refine r1 27 (fun K hK => ?_)
    go_simp
    refine (lw_sum (ca := cb) (da := db) (cb := cc) (db := dc) (hE.here.1.1.1.1.1.1.1.1.1.1.1.2) (hE.here.1.1.1.1.1.1.1.1.1.1.2) (fl_le2 lb (by decide)) (fl_le2 lc (by decide)) (fl_le2 (fl_plus lb lc) (by decide))).mono ?_
    rintro e w27 ⟨sr7, Ar7, nr7, cr7, tr7, Br7, mr7, dr7, rfl, hr7, hb⟩
    replace hE := hE.step hb
    clear hb
    replace hE := hE.fv hr7
    clear hr7
    go_wp2_with fail
    refine hK.out _ _ (hE.here.1.1.1.1.1.1.1.1.1.1.1.1.1.1.1.1.2.j4 (hE.here.1.1.1.1.1.1.1.1.1.1.1.1.1.1.1.2.j4 hE.here.1.1.1.1.1.1.1.1.1.1.1.1.1.1.2.c4)) (fun hHeld => ?_)
    clear hK K
    try simp only [PL]
    refine r1 28 (fun K hK => ?_)
    go_simp
    refine (lw_sum (ca := ca) (da := da) (cb := cr7) (db := dr7) (hE.here.1.1.1.1.1.1.1.1.1.1.1.1.1.2) (hE.here.2) (fl_le2 la (by decide)) (fl_le2 (fl_plus lb lc) (by decide)) (fl_le2 (fl_plus la (fl_plus lb lc)) (by decide))).mono ?_
    rintro e w28 ⟨sr8, Ar8, nr8, cr8, tr8, Br8, mr8, dr8, rfl, hr8, hb⟩
    replace hE := hE.step hb
    clear hb
    replace hE := hE.fv hr8
    clear hr8
    go_wp2_with fail
    refine hK.out _ _ (hE.here.1.1.1.1.1.1.1.1.1.1.1.1.1.1.1.1.1.2.j4 (hE.here.1.1.1.1.1.1.1.1.1.1.1.1.1.1.1.1.2.j4 hE.here.1.1.1.1.1.1.1.1.1.1.1.1.1.1.1.2.c4)) (fun hHeld => ?_)
    clear hK K
    try simp only [PL]
    refine r1 29 (fun K hK => ?_)
    go_simp
    refine (lw_equal (v := true) (ca := cr6) (da := dr6) (cb := cr8) (db := dr8) (hE.here.1.1.2) (hE.here.2) (fl_le2 (fl_plus (fl_plus la lb) lc) (by decide)) (fl_le2 (fl_plus la (fl_plus lb lc)) (by decide)) field_e3).mono ?_
    rintro e w29 ⟨rfl, hb⟩
    replace hE := hE.step hb
    clear hb
    go_wp2_with fail
    refine hK.out _ _ (hE.here.1.1.1.1.1.1.1.1.1.1.1.1.1.1.1.1.1.2.j4 (hE.here.1.1.1.1.1.1.1.1.1.1.1.1.1.1.1.1.2.j4 hE.here.1.1.1.1.1.1.1.1.1.1.1.1.1.1.1.2.c4)) (fun hHeld => ?_)
    clear hK K
    try simp only [PL]
    refine tk 30 ?_
    try simp only [PL]
    refine tk 31 ?_
    try simp only [PL]
    refine tk 32 ?_
    try simp only [PL]
    refine tk 33 ?_
    try simp only [PL]
    refine tk 34 ?_
    try simp only [PL]
    refine tk 36 ?_
    try simp only [PL]
    refine tk 38 ?_
    try simp only [PL]
    refine tk 39 ?_
    try simp only [PL]
    refine tk 40 ?_
    try simp only [PL]
    refine r1 35 (fun K hK => ?_)
    go_simp
    refine (lw_product (ca := ca) (da := da) (cb := cb) (db := db) (hE.here.1.1.1.1.1.1.1.1.1.1.1.1.1.1.2) (hE.here.1.1.1.1.1.1.1.1.1.1.1.1.1.2) (fl_le2 la (by decide)) (fl_le2 lb (by decide)) (fl_le2 (fl_times la lb) (by decide))).mono ?_
    rintro e w30 ⟨sr9, Ar9, nr9, cr9, tr9, Br9, mr9, dr9, rfl, hr9, hb⟩
    replace hE := hE.step hb
    clear hb
    replace hE := hE.fv hr9
    clear hr9
    go_wp2_with fail
    refine hK.out _ _ (hE.here.1.1.1.1.1.1.1.1.1.1.1.1.1.1.1.1.1.1.2.j4 (hE.here.1.1.1.1.1.1.1.1.1.1.1.1.1.1.1.1.1.2.j4 hE.here.1.1.1.1.1.1.1.1.1.1.1.1.1.1.1.1.2.c4)) (fun hHeld => ?_)
    clear hK K
    try simp only [PL]
    refine r1 37 (fun K hK => ?_)
    go_simp
    refine (lw_product (ca := cr9) (da := dr9) (cb := cc) (db := dc) (hE.here.2) (hE.here.1.1.1.1.1.1.1.1.1.1.1.1.1.2) (fl_le2 (fl_times la lb) (by decide)) (fl_le2 lc (by decide)) (fl_le2 (fl_times (fl_times la lb) lc) (by decide))).mono ?_
    rintro e w31 ⟨sr10, Ar10, nr10, cr10, tr10, Br10, mr10, dr10, rfl, hr10, hb⟩
    replace hE := hE.step hb
    clear hb
    replace hE := hE.fv hr10
    clear hr10
    go_wp2_with fail
    refine hK.out _ _ (hE.here.1.1.1.1.1.1.1.1.1.1.1.1.1.1.1.1.1.1.1.2.j4 (hE.here.1.1.1.1.1.1.1.1.1.1.1.1.1.1.1.1.1.1.2.j4 hE.here.1.1.1.1.1.1.1.1.1.1.1.1.1.1.1.1.1.2.c4)) (fun hHeld => ?_)
    clear hK K
    try simp only [PL]
    refine r1 41 (fun K hK => ?_)
    go_simp
    refine (lw_product (ca := cb) (da := db) (cb := cc) (db := dc) (hE.here.1.1.1.1.1.1.1.1.1.1.1.1.1.1.1.2) (hE.here.1.1.1.1.1.1.1.1.1.1.1.1.1.1.2) (fl_le2 lb (by decide)) (fl_le2 lc (by decide)) (fl_le2 (fl_times lb lc) (by decide))).mono ?_
    rintro e w32 ⟨sr11, Ar11, nr11, cr11, tr11, Br11, mr11, dr11, rfl, hr11, hb⟩
    replace hE := hE.step hb
    clear hb
    replace hE := hE.fv hr11
    clear hr11
    go_wp2_with fail
    refine hK.out _ _ (hE.here.1.1.1.1.1.1.1.1.1.1.1.1.1.1.1.1.1.1.1.1.2.j4 (hE.here.1.1.1.1.1.1.1.1.1.1.1.1.1.1.1.1.1.1.1.2.j4 hE.here.1.1.1.1.1.1.1.1.1.1.1.1.1.1.1.1.1.1.2.c4)) (fun hHeld => ?_)
    clear hK K
    try simp only [PL]
    refine r1 42 (fun K hK => ?_)
    go_simp
    refine (lw_product (ca := ca) (da := da) (cb := cr11) (db := dr11) (hE.here.1.1.1.1.1.1.1.1.1.1.1.1.1.1.1.1.1.2) (hE.here.2) (fl_le2 la (by decide)) (fl_le2 (fl_times lb lc) (by decide)) (fl_le2 (fl_times la (fl_times lb lc)) (by decide))).mono ?_
    rintro e w33 ⟨sr12, Ar12, nr12, cr12, tr12, Br12, mr12, dr12, rfl, hr12, hb⟩
    replace hE := hE.step hb
    clear hb
    replace hE := hE.fv hr12
    clear hr12
    go_wp2_with fail
    refine hK.out _ _ (hE.here.1.1.1.1.1.1.1.1.1.1.1.1.1.1.1.1.1.1.1.1.1.2.j4 (hE.here.1.1.1.1.1.1.1.1.1.1.1.1.1.1.1.1.1.1.1.1.2.j4 hE.here.1.1.1.1.1.1.1.1.1.1.1.1.1.1.1.1.1.1.1.2.c4)) (fun hHeld => ?_)
    clear hK K
    try simp only [PL]
    refine r1 43 (fun K hK => ?_)
    go_simp
    refine (lw_equal (v := true) (ca := cr10) (da := dr10) (cb := cr12) (db := dr12) (hE.here.1.1.2) (hE.here.2) (fl_le2 (fl_times (fl_times la lb) lc) (by decide)) (fl_le2 (fl_times la (fl_times lb lc)) (by decide)) field_e4).mono ?_
    rintro e w34 ⟨rfl, hb⟩
    replace hE := hE.step hb
    clear hb
    go_wp2_with fail
    refine hK.out _ _ (hE.here.1.1.1.1.1.1.1.1.1.1.1.1.1.1.1.1.1.1.1.1.1.2.j4 (hE.here.1.1.1.1.1.1.1.1.1.1.1.1.1.1.1.1.1.1.1.1.2.j4 hE.here.1.1.1.1.1.1.1.1.1.1.1.1.1.1.1.1.1.1.1.2.c4)) (fun hHeld => ?_)
    clear hK K
    try simp only [PL]
    refine tk 44 ?_
    try simp only [PL]
    refine tk 45 ?_
    try simp only [PL]
    refine wpAnyH_done (by kernel_rfl) ?_ _
    go_upto_region 8 with (fail)
    replace hE := hE.drew
    refine wp_region_held_drew (S := fun w' => w'.cell? ⟨w.heap.size, 0, none⟩ = some (.bool sa) ∧ w'.cell? ⟨w.heap.size, 1, none⟩ = some (.slice Aa na ca) ∧ w'.cell? ⟨w.heap.size, 2, none⟩ = some (.bool ta) ∧ w'.cell? ⟨w.heap.size, 3, none⟩ = some (.slice Ba ma da) ∧ w'.cell? ⟨w.heap.size + 1, 0, none⟩ = some (.bool sb) ∧ w'.cell? ⟨w.heap.size + 1, 1, none⟩ = some (.slice Ab nb cb) ∧ w'.cell? ⟨w.heap.size + 1, 2, none⟩ = some (.bool tb) ∧ w'.cell? ⟨w.heap.size + 1, 3, none⟩ = some (.slice Bb mb db) ∧ w'.cell? ⟨w.heap.size + 1 + 1, 0, none⟩ = some (.bool sc) ∧ w'.cell? ⟨w.heap.size + 1 + 1, 1, none⟩ = some (.slice Ac nc cc) ∧ w'.cell? ⟨w.heap.size + 1 + 1, 2, none⟩ = some (.bool tc) ∧ w'.cell? ⟨w.heap.size + 1 + 1, 3, none⟩ = some (.slice Bc mc dc) ∧ w'.cell? ⟨g17, 0, none⟩ = some (.bool sz) ∧ w'.cell? ⟨g17, 1, none⟩ = some (.slice Az nz cz) ∧ w'.cell? ⟨g17, 2, none⟩ = some (.bool tz) ∧ w'.cell? ⟨g17, 3, none⟩ = some (.slice Bz mz dz) ∧ w'.cell? ⟨g18, 0, none⟩ = some (.bool su) ∧ w'.cell? ⟨g18, 1, none⟩ = some (.slice Au nu cu) ∧ w'.cell? ⟨g18, 2, none⟩ = some (.bool tu) ∧ w'.cell? ⟨g18, 3, none⟩ = some (.slice Bu mu du)) (by kernel_rfl) (hE.here.1.1.1.1.1.1.1.1.1.1.1.1.1.1.1.1.1.1.1.1.1.2.j4 (hE.here.1.1.1.1.1.1.1.1.1.1.1.1.1.1.1.1.1.1.1.1.2.j4 (hE.here.1.1.1.1.1.1.1.1.1.1.1.1.1.1.1.1.1.1.1.2.j4 (hE.here.1.1.1.1.1.1.1.1.1.1.1.1.1.2.j4 hE.here.1.1.1.1.1.1.1.1.1.1.1.1.2.c4)))) (fun hHeld => ?_)
    refine tk 0 ?_
    try simp only [PL]
    refine tk 1 ?_
    try simp only [PL]
    refine tk 2 ?_
    try simp only [PL]
    refine tk 5 ?_
    try simp only [PL]
    refine tk 6 ?_
    try simp only [PL]
    refine tk 8 ?_
    try simp only [PL]
    refine tk 9 ?_
    try simp only [PL]
    refine r1 3 (fun K hK => ?_)
    go_simp
    refine (lw_sum (ca := cb) (da := db) (cb := cc) (db := dc) (hE.here.1.1.1.1.1.1.1.1.1.1.1.1.1.1.1.1.1.2) (hE.here.1.1.1.1.1.1.1.1.1.1.1.1.1.1.1.1.2) (fl_le2 lb (by decide)) (fl_le2 lc (by decide)) (fl_le2 (fl_plus lb lc) (by decide))).mono ?_
    rintro e w35 ⟨sr13, Ar13, nr13, cr13, tr13, Br13, mr13, dr13, rfl, hr13, hb⟩
    replace hE := hE.step hb
    clear hb
    replace hE := hE.fv hr13
    clear hr13
    go_wp2_with fail
    refine hK.out _ _ (hE.here.1.1.1.1.1.1.1.1.1.1.1.1.1.1.1.1.1.1.1.1.1.1.2.j4 (hE.here.1.1.1.1.1.1.1.1.1.1.1.1.1.1.1.1.1.1.1.1.1.2.j4 (hE.here.1.1.1.1.1.1.1.1.1.1.1.1.1.1.1.1.1.1.1.1.2.j4 (hE.here.1.1.1.1.1.1.1.1.1.1.1.1.1.1.2.j4 hE.here.1.1.1.1.1.1.1.1.1.1.1.1.1.2.c4)))) (fun hHeld => ?_)
    clear hK K
    try simp only [PL]
    refine r1 4 (fun K hK => ?_)
    go_simp
    refine (lw_product (ca := ca) (da := da) (cb := cr13) (db := dr13) (hE.here.1.1.1.1.1.1.1.1.1.1.1.1.1.1.1.1.1.1.1.2) (hE.here.2) (fl_le2 la (by decide)) (fl_le2 (fl_plus lb lc) (by decide)) (fl_le2 (fl_times la (fl_plus lb lc)) (by decide))).mono ?_
    rintro e w36 ⟨sr14, Ar14, nr14, cr14, tr14, Br14, mr14, dr14, rfl, hr14, hb⟩
    replace hE := hE.step hb
    clear hb
    replace hE := hE.fv hr14
    clear hr14
    go_wp2_with fail
    refine hK.out _ _ (hE.here.1.1.1.1.1.1.1.1.1.1.1.1.1.1.1.1.1.1.1.1.1.1.1.2.j4 (hE.here.1.1.1.1.1.1.1.1.1.1.1.1.1.1.1.1.1.1.1.1.1.1.2.j4 (hE.here.1.1.1.1.1.1.1.1.1.1.1.1.1.1.1.1.1.1.1.1.1.2.j4 (hE.here.1.1.1.1.1.1.1.1.1.1.1.1.1.1.1.2.j4 hE.here.1.1.1.1.1.1.1.1.1.1.1.1.1.1.2.c4)))) (fun hHeld => ?_)
    clear hK K
    try simp only [PL]
    refine r1 7 (fun K hK => ?_)
    go_simp
    refine (lw_product (ca := ca) (da := da) (cb := cb) (db := db) (hE.here.1.1.1.1.1.1.1.1.1.1.1.1.1.1.1.1.1.1.1.1.2) (hE.here.1.1.1.1.1.1.1.1.1.1.1.1.1.1.1.1.1.1.1.2) (fl_le2 la (by decide)) (fl_le2 lb (by decide)) (fl_le2 (fl_times la lb) (by decide))).mono ?_
    rintro e w37 ⟨sr15, Ar15, nr15, cr15, tr15, Br15, mr15, dr15, rfl, hr15, hb⟩
    replace hE := hE.step hb
    clear hb
    replace hE := hE.fv hr15
    clear hr15
    go_wp2_with fail
    refine hK.out _ _ (hE.here.1.1.1.1.1.1.1.1.1.1.1.1.1.1.1.1.1.1.1.1.1.1.1.1.2.j4 (hE.here.1.1.1.1.1.1.1.1.1.1.1.1.1.1.1.1.1.1.1.1.1.1.1.2.j4 (hE.here.1.1.1.1.1.1.1.1.1.1.1.1.1.1.1.1.1.1.1.1.1.1.2.j4 (hE.here.1.1.1.1.1.1.1.1.1.1.1.1.1.1.1.1.2.j4 hE.here.1.1.1.1.1.1.1.1.1.1.1.1.1.1.1.2.c4)))) (fun hHeld => ?_)
    clear hK K
    try simp only [PL]
    refine r1 10 (fun K hK => ?_)
    go_simp
    refine (lw_product (ca := ca) (da := da) (cb := cc) (db := dc) (hE.here.1.1.1.1.1.1.1.1.1.1.1.1.1.1.1.1.1.1.1.1.1.2) (hE.here.1.1.1.1.1.1.1.1.1.1.1.1.1.1.1.1.1.1.1.2) (fl_le2 la (by decide)) (fl_le2 lc (by decide)) (fl_le2 (fl_times la lc) (by decide))).mono ?_
    rintro e w38 ⟨sr16, Ar16, nr16, cr16, tr16, Br16, mr16, dr16, rfl, hr16, hb⟩
    replace hE := hE.step hb
    clear hb
    replace hE := hE.fv hr16
    clear hr16
    go_wp2_with fail
    refine hK.out _ _ (hE.here.1.1.1.1.1.1.1.1.1.1.1.1.1.1.1.1.1.1.1.1.1.1.1.1.1.2.j4 (hE.here.1.1.1.1.1.1.1.1.1.1.1.1.1.1.1.1.1.1.1.1.1.1.1.1.2.j4 (hE.here.1.1.1.1.1.1.1.1.1.1.1.1.1.1.1.1.1.1.1.1.1.1.1.2.j4 (hE.here.1.1.1.1.1.1.1.1.1.1.1.1.1.1.1.1.1.2.j4 hE.here.1.1.1.1.1.1.1.1.1.1.1.1.1.1.1.1.2.c4)))) (fun hHeld => ?_)
    clear hK K
    try simp only [PL]
    refine r1 11 (fun K hK => ?_)
    go_simp
    refine (lw_sum (ca := cr15) (da := dr15) (cb := cr16) (db := dr16) (hE.here.1.2) (hE.here.2) (fl_le2 (fl_times la lb) (by decide)) (fl_le2 (fl_times la lc) (by decide)) (fl_le2 (fl_plus (fl_times la lb) (fl_times la lc)) (by decide))).mono ?_
    rintro e w39 ⟨sr17, Ar17, nr17, cr17, tr17, Br17, mr17, dr17, rfl, hr17, hb⟩
    replace hE := hE.step hb
    clear hb
    replace hE := hE.fv hr17
    clear hr17
    go_wp2_with fail
    refine hK.out _ _ (hE.here.1.1.1.1.1.1.1.1.1.1.1.1.1.1.1.1.1.1.1.1.1.1.1.1.1.1.2.j4 (hE.here.1.1.1.1.1.1.1.1.1.1.1.1.1.1.1.1.1.1.1.1.1.1.1.1.1.2.j4 (hE.here.1.1.1.1.1.1.1.1.1.1.1.1.1.1.1.1.1.1.1.1.1.1.1.1.2.j4 (hE.here.1.1.1.1.1.1.1.1.1.1.1.1.1.1.1.1.1.1.2.j4 hE.here.1.1.1.1.1.1.1.1.1.1.1.1.1.1.1.1.1.2.c4)))) (fun hHeld => ?_)
    clear hK K
    try simp only [PL]
    refine r1 12 (fun K hK => ?_)
    go_simp
    refine (lw_equal (v := true) (ca := cr14) (da := dr14) (cb := cr17) (db := dr17) (hE.here.1.1.1.2) (hE.here.2) (fl_le2 (fl_times la (fl_plus lb lc)) (by decide)) (fl_le2 (fl_plus (fl_times la lb) (fl_times la lc)) (by decide)) field_e5).mono ?_
    rintro e w40 ⟨rfl, hb⟩
    replace hE := hE.step hb
    clear hb
    go_wp2_with fail
    refine hK.out _ _ (hE.here.1.1.1.1.1.1.1.1.1.1.1.1.1.1.1.1.1.1.1.1.1.1.1.1.1.1.2.j4 (hE.here.1.1.1.1.1.1.1.1.1.1.1.1.1.1.1.1.1.1.1.1.1.1.1.1.1.2.j4 (hE.here.1.1.1.1.1.1.1.1.1.1.1.1.1.1.1.1.1.1.1.1.1.1.1.1.2.j4 (hE.here.1.1.1.1.1.1.1.1.1.1.1.1.1.1.1.1.1.1.2.j4 hE.here.1.1.1.1.1.1.1.1.1.1.1.1.1.1.1.1.1.2.c4)))) (fun hHeld => ?_)
    clear hK K
    try simp only [PL]
    refine tk 13 ?_
    try simp only [PL]
    refine tk 14 ?_
    try simp only [PL]
    refine tk 15 ?_
    try simp only [PL]
    refine tk 16 ?_
    try simp only [PL]
    refine tk 18 ?_
    try simp only [PL]
    refine r1 17 (fun K hK => ?_)
    go_simp
    refine (lw_sum (ca := ca) (da := da) (cb := cz) (db := dz) (hE.here.1.1.1.1.1.1.1.1.1.1.1.1.1.1.1.1.1.1.1.1.1.1.1.2) (hE.here.1.1.1.1.1.1.1.1.1.1.1.1.1.1.1.1.1.1.1.1.2) (fl_le2 la (by decide)) (fl_le2 fl_zz (by decide)) (fl_le2 (fl_plus la fl_zz) (by decide))).mono ?_
    rintro e w41 ⟨sr18, Ar18, nr18, cr18, tr18, Br18, mr18, dr18, rfl, hr18, hb⟩
    replace hE := hE.step hb
    clear hb
    replace hE := hE.fv hr18
    clear hr18
    go_wp2_with fail
    refine hK.out _ _ (hE.here.1.1.1.1.1.1.1.1.1.1.1.1.1.1.1.1.1.1.1.1.1.1.1.1.1.1.1.2.j4 (hE.here.1.1.1.1.1.1.1.1.1.1.1.1.1.1.1.1.1.1.1.1.1.1.1.1.1.1.2.j4 (hE.here.1.1.1.1.1.1.1.1.1.1.1.1.1.1.1.1.1.1.1.1.1.1.1.1.1.2.j4 (hE.here.1.1.1.1.1.1.1.1.1.1.1.1.1.1.1.1.1.1.1.2.j4 hE.here.1.1.1.1.1.1.1.1.1.1.1.1.1.1.1.1.1.1.2.c4)))) (fun hHeld => ?_)
    clear hK K
    try simp only [PL]
    refine r1 19 (fun K hK => ?_)
    go_simp
    refine (lw_equal (v := true) (ca := cr18) (da := dr18) (cb := ca) (db := da) (hE.here.2) (hE.here.1.1.1.1.1.1.1.1.1.1.1.1.1.1.1.1.1.1.1.1.1.1.1.1.2) (fl_le2 (fl_plus la fl_zz) (by decide)) (fl_le2 la (by decide)) field_e6).mono ?_
    rintro e w42 ⟨rfl, hb⟩
    replace hE := hE.step hb
    clear hb
    go_wp2_with fail
    refine hK.out _ _ (hE.here.1.1.1.1.1.1.1.1.1.1.1.1.1.1.1.1.1.1.1.1.1.1.1.1.1.1.1.2.j4 (hE.here.1.1.1.1.1.1.1.1.1.1.1.1.1.1.1.1.1.1.1.1.1.1.1.1.1.1.2.j4 (hE.here.1.1.1.1.1.1.1.1.1.1.1.1.1.1.1.1.1.1.1.1.1.1.1.1.1.2.j4 (hE.here.1.1.1.1.1.1.1.1.1.1.1.1.1.1.1.1.1.1.1.2.j4 hE.here.1.1.1.1.1.1.1.1.1.1.1.1.1.1.1.1.1.1.2.c4)))) (fun hHeld => ?_)
    clear hK K
    try simp only [PL]
    refine tk 20 ?_
    try simp only [PL]
    refine tk 21 ?_
    try simp only [PL]
    refine tk 22 ?_
    try simp only [PL]
    refine tk 23 ?_
    try simp only [PL]
    refine tk 24 ?_
    try simp only [PL]
    refine tk 26 ?_
    try simp only [PL]
    refine r1 25 (fun K hK => ?_)
    go_simp
    refine (lw_product (ca := ca) (da := da) (cb := cu) (db := du) (hE.here.1.1.1.1.1.1.1.1.1.1.1.1.1.1.1.1.1.1.1.1.1.1.1.1.2) (hE.here.1.1.1.1.1.1.1.1.1.1.1.1.1.1.1.1.1.1.1.1.2) (fl_le2 la (by decide)) (fl_le2 fl_oo (by decide)) (fl_le2 (fl_times la fl_oo) (by decide))).mono ?_
    rintro e w43 ⟨sr19, Ar19, nr19, cr19, tr19, Br19, mr19, dr19, rfl, hr19, hb⟩
    replace hE := hE.step hb
    clear hb
    replace hE := hE.fv hr19
    clear hr19
    go_wp2_with fail
    refine hK.out _ _ (hE.here.1.1.1.1.1.1.1.1.1.1.1.1.1.1.1.1.1.1.1.1.1.1.1.1.1.1.1.1.2.j4 (hE.here.1.1.1.1.1.1.1.1.1.1.1.1.1.1.1.1.1.1.1.1.1.1.1.1.1.1.1.2.j4 (hE.here.1.1.1.1.1.1.1.1.1.1.1.1.1.1.1.1.1.1.1.1.1.1.1.1.1.1.2.j4 (hE.here.1.1.1.1.1.1.1.1.1.1.1.1.1.1.1.1.1.1.1.1.2.j4 hE.here.1.1.1.1.1.1.1.1.1.1.1.1.1.1.1.1.1.1.1.2.c4)))) (fun hHeld => ?_)
    clear hK K
    try simp only [PL]
    refine r1 27 (fun K hK => ?_)
    go_simp
    refine (lw_equal (v := true) (ca := cr19) (da := dr19) (cb := ca) (db := da) (hE.here.2) (hE.here.1.1.1.1.1.1.1.1.1.1.1.1.1.1.1.1.1.1.1.1.1.1.1.1.1.2) (fl_le2 (fl_times la fl_oo) (by decide)) (fl_le2 la (by decide)) field_e7).mono ?_
    rintro e w44 ⟨rfl, hb⟩
    replace hE := hE.step hb
    clear hb
    go_wp2_with fail
    refine hK.out _ _ (hE.here.1.1.1.1.1.1.1.1.1.1.1.1.1.1.1.1.1.1.1.1.1.1.1.1.1.1.1.1.2.j4 (hE.here.1.1.1.1.1.1.1.1.1.1.1.1.1.1.1.1.1.1.1.1.1.1.1.1.1.1.1.2.j4 (hE.here.1.1.1.1.1.1.1.1.1.1.1.1.1.1.1.1.1.1.1.1.1.1.1.1.1.1.2.j4 (hE.here.1.1.1.1.1.1.1.1.1.1.1.1.1.1.1.1.1.1.1.1.2.j4 hE.here.1.1.1.1.1.1.1.1.1.1.1.1.1.1.1.1.1.1.1.2.c4)))) (fun hHeld => ?_)
    clear hK K
    try simp only [PL]
    refine tk 28 ?_
    try simp only [PL]
    refine tk 29 ?_
    try simp only [PL]
    refine tk 30 ?_
    try simp only [PL]
    refine tk 31 ?_
    try simp only [PL]
    refine tk 32 ?_
    try simp only [PL]
    refine tk 34 ?_
    try simp only [PL]
    refine tk 36 ?_
    try simp only [PL]
    refine r1 33 (fun K hK => ?_)
    go_simp
    refine (lw_sum (ca := ca) (da := da) (cb := cb) (db := db) (hE.here.1.1.1.1.1.1.1.1.1.1.1.1.1.1.1.1.1.1.1.1.1.1.1.1.1.2) (hE.here.1.1.1.1.1.1.1.1.1.1.1.1.1.1.1.1.1.1.1.1.1.1.1.1.2) (fl_le2 la (by decide)) (fl_le2 lb (by decide)) (fl_le2 (fl_plus la lb) (by decide))).mono ?_
    rintro e w45 ⟨sr20, Ar20, nr20, cr20, tr20, Br20, mr20, dr20, rfl, hr20, hb⟩
    replace hE := hE.step hb
    clear hb
    replace hE := hE.fv hr20
    clear hr20
    go_wp2_with fail
    refine hK.out _ _ (hE.here.1.1.1.1.1.1.1.1.1.1.1.1.1.1.1.1.1.1.1.1.1.1.1.1.1.1.1.1.1.2.j4 (hE.here.1.1.1.1.1.1.1.1.1.1.1.1.1.1.1.1.1.1.1.1.1.1.1.1.1.1.1.1.2.j4 (hE.here.1.1.1.1.1.1.1.1.1.1.1.1.1.1.1.1.1.1.1.1.1.1.1.1.1.1.1.2.j4 (hE.here.1.1.1.1.1.1.1.1.1.1.1.1.1.1.1.1.1.1.1.1.1.2.j4 hE.here.1.1.1.1.1.1.1.1.1.1.1.1.1.1.1.1.1.1.1.1.2.c4)))) (fun hHeld => ?_)
    clear hK K
    try simp only [PL]
    refine r1 35 (fun K hK => ?_)
    go_simp
    refine (lw_less (ca := cr20) (da := dr20) (cb := cb) (db := db) (hE.here.2) (hE.here.1.1.1.1.1.1.1.1.1.1.1.1.1.1.1.1.1.1.1.1.1.1.1.1.1.2) (fl_le2 (fl_plus la lb) (by decide)) (fl_le2 lb (by decide)) (fl_le2 (fl_minus (fl_plus la lb) lb) (by decide))).mono ?_
    rintro e w46 ⟨sr21, Ar21, nr21, cr21, tr21, Br21, mr21, dr21, rfl, hr21, hb⟩
    replace hE := hE.step hb
    clear hb
    replace hE := hE.fv hr21
    clear hr21
    go_wp2_with fail
    refine hK.out _ _ (hE.here.1.1.1.1.1.1.1.1.1.1.1.1.1.1.1.1.1.1.1.1.1.1.1.1.1.1.1.1.1.1.2.j4 (hE.here.1.1.1.1.1.1.1.1.1.1.1.1.1.1.1.1.1.1.1.1.1.1.1.1.1.1.1.1.1.2.j4 (hE.here.1.1.1.1.1.1.1.1.1.1.1.1.1.1.1.1.1.1.1.1.1.1.1.1.1.1.1.1.2.j4 (hE.here.1.1.1.1.1.1.1.1.1.1.1.1.1.1.1.1.1.1.1.1.1.1.2.j4 hE.here.1.1.1.1.1.1.1.1.1.1.1.1.1.1.1.1.1.1.1.1.1.2.c4)))) (fun hHeld => ?_)
    clear hK K
    try simp only [PL]
    refine r1 37 (fun K hK => ?_)
    go_simp
    refine (lw_equal (v := true) (ca := cr21) (da := dr21) (cb := ca) (db := da) (hE.here.2) (hE.here.1.1.1.1.1.1.1.1.1.1.1.1.1.1.1.1.1.1.1.1.1.1.1.1.1.1.1.2) (fl_le2 (fl_minus (fl_plus la lb) lb) (by decide)) (fl_le2 la (by decide)) field_e8).mono ?_
    rintro e w47 ⟨rfl, hb⟩
    replace hE := hE.step hb
    clear hb
    go_wp2_with fail
    refine hK.out _ _ (hE.here.1.1.1.1.1.1.1.1.1.1.1.1.1.1.1.1.1.1.1.1.1.1.1.1.1.1.1.1.1.1.2.j4 (hE.here.1.1.1.1.1.1.1.1.1.1.1.1.1.1.1.1.1.1.1.1.1.1.1.1.1.1.1.1.1.2.j4 (hE.here.1.1.1.1.1.1.1.1.1.1.1.1.1.1.1.1.1.1.1.1.1.1.1.1.1.1.1.1.2.j4 (hE.here.1.1.1.1.1.1.1.1.1.1.1.1.1.1.1.1.1.1.1.1.1.1.2.j4 hE.here.1.1.1.1.1.1.1.1.1.1.1.1.1.1.1.1.1.1.1.1.1.2.c4)))) (fun hHeld => ?_)
    clear hK K
    try simp only [PL]
    refine tk 38 ?_
    try simp only [PL]
    refine tk 39 ?_
    try simp only [PL]
    refine tk 40 ?_
    try simp only [PL]
    refine tk 41 ?_
    try simp only [PL]
    refine tk 42 ?_
    try simp only [PL]
    refine tk 43 ?_
    try simp only [PL]
    refine tk 46 ?_
    try simp only [PL]
    refine r1 44 (fun K hK => ?_)
    go_simp
    refine (lw_less (ca := cz) (da := dz) (cb := ca) (db := da) (hE.here.1.1.1.1.1.1.1.1.1.1.1.1.1.1.1.1.1.1.1.1.1.1.1.1.2) (hE.here.1.1.1.1.1.1.1.1.1.1.1.1.1.1.1.1.1.1.1.1.1.1.1.1.1.1.1.2) (fl_le2 fl_zz (by decide)) (fl_le2 la (by decide)) (fl_le2 (fl_minus fl_zz la) (by decide))).mono ?_
    rintro e w48 ⟨sr22, Ar22, nr22, cr22, tr22, Br22, mr22, dr22, rfl, hr22, hb⟩
    replace hE := hE.step hb
    clear hb
    replace hE := hE.fv hr22
    clear hr22
    go_wp2_with fail
    refine hK.out _ _ (hE.here.1.1.1.1.1.1.1.1.1.1.1.1.1.1.1.1.1.1.1.1.1.1.1.1.1.1.1.1.1.1.1.2.j4 (hE.here.1.1.1.1.1.1.1.1.1.1.1.1.1.1.1.1.1.1.1.1.1.1.1.1.1.1.1.1.1.1.2.j4 (hE.here.1.1.1.1.1.1.1.1.1.1.1.1.1.1.1.1.1.1.1.1.1.1.1.1.1.1.1.1.1.2.j4 (hE.here.1.1.1.1.1.1.1.1.1.1.1.1.1.1.1.1.1.1.1.1.1.1.1.2.j4 hE.here.1.1.1.1.1.1.1.1.1.1.1.1.1.1.1.1.1.1.1.1.1.1.2.c4)))) (fun hHeld => ?_)
    clear hK K
    try simp only [PL]
    refine r1 45 (fun K hK => ?_)
    go_simp
    refine (lw_sum (ca := ca) (da := da) (cb := cr22) (db := dr22) (hE.here.1.1.1.1.1.1.1.1.1.1.1.1.1.1.1.1.1.1.1.1.1.1.1.1.1.1.1.1.2) (hE.here.2) (fl_le2 la (by decide)) (fl_le2 (fl_minus fl_zz la) (by decide)) (fl_le2 (fl_plus la (fl_minus fl_zz la)) (by decide))).mono ?_
    rintro e w49 ⟨sr23, Ar23, nr23, cr23, tr23, Br23, mr23, dr23, rfl, hr23, hb⟩
    replace hE := hE.step hb
    clear hb
    replace hE := hE.fv hr23
    clear hr23
    go_wp2_with fail
    refine hK.out _ _ (hE.here.1.1.1.1.1.1.1.1.1.1.1.1.1.1.1.1.1.1.1.1.1.1.1.1.1.1.1.1.1.1.1.1.2.j4 (hE.here.1.1.1.1.1.1.1.1.1.1.1.1.1.1.1.1.1.1.1.1.1.1.1.1.1.1.1.1.1.1.1.2.j4 (hE.here.1.1.1.1.1.1.1.1.1.1.1.1.1.1.1.1.1.1.1.1.1.1.1.1.1.1.1.1.1.1.2.j4 (hE.here.1.1.1.1.1.1.1.1.1.1.1.1.1.1.1.1.1.1.1.1.1.1.1.1.2.j4 hE.here.1.1.1.1.1.1.1.1.1.1.1.1.1.1.1.1.1.1.1.1.1.1.1.2.c4)))) (fun hHeld => ?_)
    clear hK K
    try simp only [PL]
    refine r1 47 (fun K hK => ?_)
    go_simp
    refine (lw_equal (v := true) (ca := cr23) (da := dr23) (cb := cz) (db := dz) (hE.here.2) (hE.here.1.1.1.1.1.1.1.1.1.1.1.1.1.1.1.1.1.1.1.1.1.1.1.1.1.1.2) (fl_le2 (fl_plus la (fl_minus fl_zz la)) (by decide)) (fl_le2 fl_zz (by decide)) field_e9).mono ?_
    rintro e w50 ⟨rfl, hb⟩
    replace hE := hE.step hb
    clear hb
    go_wp2_with fail
    refine hK.out _ _ (hE.here.1.1.1.1.1.1.1.1.1.1.1.1.1.1.1.1.1.1.1.1.1.1.1.1.1.1.1.1.1.1.1.1.2.j4 (hE.here.1.1.1.1.1.1.1.1.1.1.1.1.1.1.1.1.1.1.1.1.1.1.1.1.1.1.1.1.1.1.1.2.j4 (hE.here.1.1.1.1.1.1.1.1.1.1.1.1.1.1.1.1.1.1.1.1.1.1.1.1.1.1.1.1.1.1.2.j4 (hE.here.1.1.1.1.1.1.1.1.1.1.1.1.1.1.1.1.1.1.1.1.1.1.1.1.2.j4 hE.here.1.1.1.1.1.1.1.1.1.1.1.1.1.1.1.1.1.1.1.1.1.1.1.2.c4)))) (fun hHeld => ?_)
    clear hK K
    try simp only [PL]
    refine tk 48 ?_
    try simp only [PL]
    refine tk 49 ?_
    try simp only [PL]
    refine wpAnyH_done (by kernel_rfl) ?_ _
    go_upto_region 10 with (fail)
    obtain ⟨k51, k52, k53, k54⟩ := (hE.here.1.1.1.1.1.1.1.1.1.1.1.1.1.1.1.1.1.1.1.1.1.1.1.1.1.1.1.1.1.1.1.1.2).c4
    go_wp2_with fail
    refine (fneg_v (ca := ca) (da := da) hE.here.1.1.1.1.1.1.1.1.1.1.1.1.1.1.1.1.1.1.1.1.1.1.1.1.1.1.1.1.1.2 (fl_le2 la (by decide))).mono ?_
    clear k51 k52 k53 k54
    rintro e w55 ⟨sn, An, nn, cn, tn, Bn, mn, dn, rfl, hn, hb⟩
    replace hE := hE.step hb
    clear hb
    replace hE := hE.fv hn
    clear hn
    go_upto_region 11 with (fail)
    obtain ⟨g56, hg56⟩ : ∃ g56, g56 = w55.heap.size := ⟨_, rfl⟩
    have hl56_4 : w.heap.size < g56 := by rw [hg56]; exact (hE.here.1.1.1.1.1.1.1.1.1.1.1.1.1.1.1.1.1.1.1.1.1.1.1.1.1.1.1.1.1.1.1.1.1.2).lt
    have hl56_5 : w.heap.size + 1 < g56 := by rw [hg56]; exact (hE.here.1.1.1.1.1.1.1.1.1.1.1.1.1.1.1.1.1.1.1.1.1.1.1.1.1.1.1.1.1.1.1.1.2).lt
    have hl56_6 : w.heap.size + 1 + 1 < g56 := by rw [hg56]; exact (hE.here.1.1.1.1.1.1.1.1.1.1.1.1.1.1.1.1.1.1.1.1.1.1.1.1.1.1.1.1.1.1.1.2).lt
    have hl56_12 : g17 < g56 := by rw [hg56]; exact (hE.here.1.1.1.1.1.1.1.1.1.1.1.1.1.1.1.1.1.1.1.1.1.1.1.1.1.2).lt
    have hl56_13 : g18 < g56 := by rw [hg56]; exact (hE.here.1.1.1.1.1.1.1.1.1.1.1.1.1.1.1.1.1.1.1.1.1.1.1.1.2).lt
    replace hE := hE.blk 26 #[.bool sn, .slice An nn cn, .bool tn, .slice Bn mn dn] (g := g56) hg56.symm
    generalize w55.alloc (.cells #[.bool sn, .slice An nn cn, .bool tn, .slice Bn mn dn] 26) = W56 at hE ⊢
    rw [← hg56]
    clear hg56
    replace hE := hE.drew
    refine wp_region_held_drew (S := fun w' => w'.cell? ⟨g56, 0, none⟩ = some (.bool sn) ∧ w'.cell? ⟨g56, 1, none⟩ = some (.slice An nn cn) ∧ w'.cell? ⟨g56, 2, none⟩ = some (.bool tn) ∧ w'.cell? ⟨g56, 3, none⟩ = some (.slice Bn mn dn) ∧ w'.cell? ⟨g17, 0, none⟩ = some (.bool sz) ∧ w'.cell? ⟨g17, 1, none⟩ = some (.slice Az nz cz) ∧ w'.cell? ⟨g17, 2, none⟩ = some (.bool tz) ∧ w'.cell? ⟨g17, 3, none⟩ = some (.slice Bz mz dz) ∧ w'.cell? ⟨w.heap.size, 0, none⟩ = some (.bool sa) ∧ w'.cell? ⟨w.heap.size, 1, none⟩ = some (.slice Aa na ca) ∧ w'.cell? ⟨w.heap.size, 2, none⟩ = some (.bool ta) ∧ w'.cell? ⟨w.heap.size, 3, none⟩ = some (.slice Ba ma da)) (by kernel_rfl) (hE.here.2.j4 (hE.here.1.1.1.1.1.1.1.1.1.1.1.1.1.1.1.1.1.1.1.1.1.1.1.1.1.1.2.j4 hE.here.1.1.1.1.1.1.1.1.1.1.1.1.1.1.1.1.1.1.1.1.1.1.1.1.1.1.1.1.1.1.1.1.1.1.2.c4)) (fun hHeld => ?_)
    refine tk 0 ?_
    try simp only [PL]
    refine tk 1 ?_
    try simp only [PL]
    refine tk 2 ?_
    try simp only [PL]
    refine tk 3 ?_
    try simp only [PL]
    refine tk 4 ?_
    try simp only [PL]
    refine tk 5 ?_
    try simp only [PL]
    refine r1 6 (fun K hK => ?_)
    go_simp
    refine (lw_less (ca := cz) (da := dz) (cb := ca) (db := da) (hE.here.1.1.1.1.1.1.1.1.1.1.1.1.1.1.1.1.1.1.1.1.1.1.1.1.1.1.1.1.2) (hE.here.1.1.1.1.1.1.1.1.1.1.1.1.1.1.1.1.1.1.1.1.1.1.1.1.1.1.1.1.1.1.1.2) (fl_le2 fl_zz (by decide)) (fl_le2 la (by decide)) (fl_le2 (fl_minus fl_zz la) (by decide))).mono ?_
    rintro e w57 ⟨sr24, Ar24, nr24, cr24, tr24, Br24, mr24, dr24, rfl, hr24, hb⟩
    replace hE := hE.step hb
    clear hb
    replace hE := hE.fv hr24
    clear hr24
    go_wp2_with fail
    refine hK.out _ _ (hE.here.1.2.j4 (hE.here.1.1.1.1.1.1.1.1.1.1.1.1.1.1.1.1.1.1.1.1.1.1.1.1.1.1.1.2.j4 hE.here.1.1.1.1.1.1.1.1.1.1.1.1.1.1.1.1.1.1.1.1.1.1.1.1.1.1.1.1.1.1.1.1.1.1.1.2.c4)) (fun hHeld => ?_)
    clear hK K
    try simp only [PL]
    refine r1 7 (fun K hK => ?_)
    go_simp
    refine (lw_equal (v := true) (ca := cn) (da := dn) (cb := cr24) (db := dr24) (hE.here.1.1.2) (hE.here.2) (fl_le2 (by rw [fl_neg]; exact la : fl (-a) ≤ 40) (by decide)) (fl_le2 (fl_minus fl_zz la) (by decide)) field_e10).mono ?_
    rintro e w58 ⟨rfl, hb⟩
    replace hE := hE.step hb
    clear hb
    go_wp2_with fail
    refine hK.out _ _ (hE.here.1.2.j4 (hE.here.1.1.1.1.1.1.1.1.1.1.1.1.1.1.1.1.1.1.1.1.1.1.1.1.1.1.1.2.j4 hE.here.1.1.1.1.1.1.1.1.1.1.1.1.1.1.1.1.1.1.1.1.1.1.1.1.1.1.1.1.1.1.1.1.1.1.1.2.c4)) (fun hHeld => ?_)
    clear hK K
    try simp only [PL]
    refine tk 8 ?_
    try simp only [PL]
    refine tk 9 ?_
    try simp only [PL]
    refine wpAnyH_done (by kernel_rfl) ?_ _
    go_upto_region 13 with (fail)
    have lnb := (hE.here.1.1.1.1.1.1.1.1.1.1.1.1.1.1.1.1.1.1.1.1.1.1.1.1.1.1.1.1.1.1.1.2).1.len
    have Hlnb := Lib.hid lnb
    clear lnb
    by_cases hb0 : b.num = 0
    · have hz : nb = 0 := by rw [Hlnb.out, hb0]; exact ln_zero
      have t1 : ((nb : Int) == 0) = true := beq_iff_eq.2 (by omega)
      have t2 : (nb == 0) = true := beq_iff_eq.2 hz
      clear hz
      obtain ⟨k59, k60, k61, k62⟩ := (hE.here.1.1.1.1.1.1.1.1.1.1.1.1.1.1.1.1.1.1.1.1.1.1.1.1.1.1.1.1.1.1.1.1.1.1.2).c4
      go_upto_region 14 with (fail)
      clear k59 k60 k61 k62
      obtain ⟨k63, k64, k65, k66⟩ := (hE.here.1.1.1.1.1.1.1.1.1.1.1.1.1.1.1.1.1.1.1.1.1.1.1.1.1.1.1.1.1.1.1.1.1.1.1.2).c4
      obtain ⟨k67, k68, k69, k70⟩ := (hE.here.1.1.1.1.1.1.1.1.1.1.1.1.1.1.1.1.1.1.1.1.1.1.1.1.1.1.1.1.1.1.1.1.1.1.2).c4
      go_wp2_with fail
      refine (fdiv_zero (ca := ca) (da := da) (cb := cb) (db := db) (hE.here.1.1.1.1.1.1.1.1.1.1.1.1.1.1.1.1.1.1.1.1.1.1.1.1.1.1.1.1.1.1.1.1.2) (hE.here.1.1.1.1.1.1.1.1.1.1.1.1.1.1.1.1.1.1.1.1.1.1.1.1.1.1.1.1.1.1.1.2) (fl_le2 la (by decide)) (fl_le2 lb (by decide)) hb0).mono ?_
      clear k63 k64 k65 k66 k67 k68 k69 k70
      rintro e w71 ⟨rfl, hb⟩
      replace hE := hE.step hb
      clear hb
      go_upto_region 15 with (fail)
      obtain ⟨g72, hg72⟩ : ∃ g72, g72 = w71.heap.size := ⟨_, rfl⟩
      have hl72_4 : w.heap.size < g72 := by rw [hg72]; exact (hE.here.1.1.1.1.1.1.1.1.1.1.1.1.1.1.1.1.1.1.1.1.1.1.1.1.1.1.1.1.1.1.1.1.1.1.1.2).lt
      have hl72_5 : w.heap.size + 1 < g72 := by rw [hg72]; exact (hE.here.1.1.1.1.1.1.1.1.1.1.1.1.1.1.1.1.1.1.1.1.1.1.1.1.1.1.1.1.1.1.1.1.1.1.2).lt
      have hl72_6 : w.heap.size + 1 + 1 < g72 := by rw [hg72]; exact (hE.here.1.1.1.1.1.1.1.1.1.1.1.1.1.1.1.1.1.1.1.1.1.1.1.1.1.1.1.1.1.1.1.1.1.2).lt
      have hl72_12 : g17 < g72 := by rw [hg72]; exact (hE.here.1.1.1.1.1.1.1.1.1.1.1.1.1.1.1.1.1.1.1.1.1.1.1.1.1.1.1.2).lt
      have hl72_13 : g18 < g72 := by rw [hg72]; exact (hE.here.1.1.1.1.1.1.1.1.1.1.1.1.1.1.1.1.1.1.1.1.1.1.1.1.1.1.2).lt
      have hl72_38 : g56 < g72 := by rw [hg72]; exact (hE.here.1.2).lt
      replace hE := hE.blk 26 #[.bool false, .slice none 0 0, .bool false, .slice none 0 0] (g := g72) hg72.symm
      generalize w71.alloc (.cells #[.bool false, .slice none 0 0, .bool false, .slice none 0 0] 26) = W72 at hE ⊢
      rw [← hg72]
      clear hg72
      go_wp2_with fail
      go_ret
      exact ⟨rfl, hE.bel⟩
    · have hz : 0 < nb := by rw [Hlnb.out]; exact (ln_pos b16_two).2 (by omega)
      have hbz : b ≠ 0 := fun h => hb0 (by rw [h]; rfl)
      have t1 : ((nb : Int) == 0) = false := beq_eq_false_iff_ne.2 (by omega)
      have t2 : (nb == 0) = false := beq_eq_false_iff_ne.2 (by omega)
      clear hz
      obtain ⟨k73, k74, k75, k76⟩ := (hE.here.1.1.1.1.1.1.1.1.1.1.1.1.1.1.1.1.1.1.1.1.1.1.1.1.1.1.1.1.1.1.1.1.1.1.2).c4
      go_upto_region 16 with (fail)
      clear k73 k74 k75 k76
      replace hE := hE.drew
      refine wp_region_held_drew (S := fun w' => w'.cell? ⟨w.heap.size, 0, none⟩ = some (.bool sa) ∧ w'.cell? ⟨w.heap.size, 1, none⟩ = some (.slice Aa na ca) ∧ w'.cell? ⟨w.heap.size, 2, none⟩ = some (.bool ta) ∧ w'.cell? ⟨w.heap.size, 3, none⟩ = some (.slice Ba ma da) ∧ w'.cell? ⟨w.heap.size + 1, 0, none⟩ = some (.bool sb) ∧ w'.cell? ⟨w.heap.size + 1, 1, none⟩ = some (.slice Ab nb cb) ∧ w'.cell? ⟨w.heap.size + 1, 2, none⟩ = some (.bool tb) ∧ w'.cell? ⟨w.heap.size + 1, 3, none⟩ = some (.slice Bb mb db) ∧ w'.cell? ⟨g18, 0, none⟩ = some (.bool su) ∧ w'.cell? ⟨g18, 1, none⟩ = some (.slice Au nu cu) ∧ w'.cell? ⟨g18, 2, none⟩ = some (.bool tu) ∧ w'.cell? ⟨g18, 3, none⟩ = some (.slice Bu mu du)) (by kernel_rfl) (hE.here.1.1.1.1.1.1.1.1.1.1.1.1.1.1.1.1.1.1.1.1.1.1.1.1.1.1.1.1.1.1.1.1.1.1.1.2.j4 (hE.here.1.1.1.1.1.1.1.1.1.1.1.1.1.1.1.1.1.1.1.1.1.1.1.1.1.1.1.1.1.1.1.1.1.1.2.j4 hE.here.1.1.1.1.1.1.1.1.1.1.1.1.1.1.1.1.1.1.1.1.1.1.1.1.1.1.2.c4)) (fun hHeld => ?_)
      refine tk 0 ?_
      try simp only [PL]
      refine tk 1 ?_
      try simp only [PL]
      refine tk 3 ?_
      try simp only [PL]
      refine tk 5 ?_
      try simp only [PL]
      refine r1 2 (fun K hK => ?_)
      go_simp
      refine (lw_product (ca := ca) (da := da) (cb := cb) (db := db) (hE.here.1.1.1.1.1.1.1.1.1.1.1.1.1.1.1.1.1.1.1.1.1.1.1.1.1.1.1.1.1.1.1.1.2) (hE.here.1.1.1.1.1.1.1.1.1.1.1.1.1.1.1.1.1.1.1.1.1.1.1.1.1.1.1.1.1.1.1.2) (fl_le2 la (by decide)) (fl_le2 lb (by decide)) (fl_le2 (fl_times la lb) (by decide))).mono ?_
      rintro e w77 ⟨sr25, Ar25, nr25, cr25, tr25, Br25, mr25, dr25, rfl, hr25, hb⟩
      replace hE := hE.step hb
      clear hb
      replace hE := hE.fv hr25
      clear hr25
      go_wp2_with fail
      refine hK.out _ _ (hE.here.1.1.1.1.1.1.1.1.1.1.1.1.1.1.1.1.1.1.1.1.1.1.1.1.1.1.1.1.1.1.1.1.1.1.1.1.2.j4 (hE.here.1.1.1.1.1.1.1.1.1.1.1.1.1.1.1.1.1.1.1.1.1.1.1.1.1.1.1.1.1.1.1.1.1.1.1.2.j4 hE.here.1.1.1.1.1.1.1.1.1.1.1.1.1.1.1.1.1.1.1.1.1.1.1.1.1.1.1.2.c4)) (fun hHeld => ?_)
      clear hK K
      try simp only [PL]
      refine r1 4 (fun K hK => ?_)
      go_simp
      refine (lw_over (ca := cr25) (da := dr25) (cb := cb) (db := db) (hE.here.2) (hE.here.1.1.1.1.1.1.1.1.1.1.1.1.1.1.1.1.1.1.1.1.1.1.1.1.1.1.1.1.1.1.1.1.2) (fl_le2 (fl_times la lb) (by decide)) (fl_le2 lb (by decide)) hb0 (fl_le2 (fl_over (fl_times la lb) lb hb0) (by decide))).mono ?_
      rintro e w78 ⟨sr26, Ar26, nr26, cr26, tr26, Br26, mr26, dr26, rfl, hr26, hb⟩
      replace hE := hE.step hb
      clear hb
      replace hE := hE.fv hr26
      clear hr26
      go_wp2_with fail
      refine hK.out _ _ (hE.here.1.1.1.1.1.1.1.1.1.1.1.1.1.1.1.1.1.1.1.1.1.1.1.1.1.1.1.1.1.1.1.1.1.1.1.1.1.2.j4 (hE.here.1.1.1.1.1.1.1.1.1.1.1.1.1.1.1.1.1.1.1.1.1.1.1.1.1.1.1.1.1.1.1.1.1.1.1.1.2.j4 hE.here.1.1.1.1.1.1.1.1.1.1.1.1.1.1.1.1.1.1.1.1.1.1.1.1.1.1.1.1.2.c4)) (fun hHeld => ?_)
      clear hK K
      try simp only [PL]
      refine r1 6 (fun K hK => ?_)
      go_simp
      refine (lw_equal (v := true) (ca := cr26) (da := dr26) (cb := ca) (db := da) (hE.here.2) (hE.here.1.1.1.1.1.1.1.1.1.1.1.1.1.1.1.1.1.1.1.1.1.1.1.1.1.1.1.1.1.1.1.1.1.1.2) (fl_le2 (fl_over (fl_times la lb) lb hb0) (by decide)) (fl_le2 la (by decide)) (field_e11 hbz)).mono ?_
      rintro e w79 ⟨rfl, hb⟩
      replace hE := hE.step hb
      clear hb
      go_wp2_with fail
      refine hK.out _ _ (hE.here.1.1.1.1.1.1.1.1.1.1.1.1.1.1.1.1.1.1.1.1.1.1.1.1.1.1.1.1.1.1.1.1.1.1.1.1.1.2.j4 (hE.here.1.1.1.1.1.1.1.1.1.1.1.1.1.1.1.1.1.1.1.1.1.1.1.1.1.1.1.1.1.1.1.1.1.1.1.1.2.j4 hE.here.1.1.1.1.1.1.1.1.1.1.1.1.1.1.1.1.1.1.1.1.1.1.1.1.1.1.1.1.2.c4)) (fun hHeld => ?_)
      clear hK K
      try simp only [PL]
      refine tk 7 ?_
      try simp only [PL]
      refine tk 8 ?_
      try simp only [PL]
      refine tk 9 ?_
      try simp only [PL]
      refine tk 11 ?_
      try simp only [PL]
      refine tk 13 ?_
      try simp only [PL]
      refine r1 10 (fun K hK => ?_)
      go_simp
      refine (lw_over (ca := ca) (da := da) (cb := cb) (db := db) (hE.here.1.1.1.1.1.1.1.1.1.1.1.1.1.1.1.1.1.1.1.1.1.1.1.1.1.1.1.1.1.1.1.1.1.1.2) (hE.here.1.1.1.1.1.1.1.1.1.1.1.1.1.1.1.1.1.1.1.1.1.1.1.1.1.1.1.1.1.1.1.1.1.2) (fl_le2 la (by decide)) (fl_le2 lb (by decide)) hb0 (fl_le2 (fl_over la lb hb0) (by decide))).mono ?_
      rintro e w80 ⟨sr27, Ar27, nr27, cr27, tr27, Br27, mr27, dr27, rfl, hr27, hb⟩
      replace hE := hE.step hb
      clear hb
      replace hE := hE.fv hr27
      clear hr27
      go_wp2_with fail
      refine hK.out _ _ (hE.here.1.1.1.1.1.1.1.1.1.1.1.1.1.1.1.1.1.1.1.1.1.1.1.1.1.1.1.1.1.1.1.1.1.1.1.1.1.1.2.j4 (hE.here.1.1.1.1.1.1.1.1.1.1.1.1.1.1.1.1.1.1.1.1.1.1.1.1.1.1.1.1.1.1.1.1.1.1.1.1.1.2.j4 hE.here.1.1.1.1.1.1.1.1.1.1.1.1.1.1.1.1.1.1.1.1.1.1.1.1.1.1.1.1.1.2.c4)) (fun hHeld => ?_)
      clear hK K
      try simp only [PL]
      refine r1 12 (fun K hK => ?_)
      go_simp
      refine (lw_product (ca := cr27) (da := dr27) (cb := cb) (db := db) (hE.here.2) (hE.here.1.1.1.1.1.1.1.1.1.1.1.1.1.1.1.1.1.1.1.1.1.1.1.1.1.1.1.1.1.1.1.1.1.1.2) (fl_le2 (fl_over la lb hb0) (by decide)) (fl_le2 lb (by decide)) (fl_le2 (fl_times (fl_over la lb hb0) lb) (by decide))).mono ?_
      rintro e w81 ⟨sr28, Ar28, nr28, cr28, tr28, Br28, mr28, dr28, rfl, hr28, hb⟩
      replace hE := hE.step hb
      clear hb
      replace hE := hE.fv hr28
      clear hr28
      go_wp2_with fail
      refine hK.out _ _ (hE.here.1.1.1.1.1.1.1.1.1.1.1.1.1.1.1.1.1.1.1.1.1.1.1.1.1.1.1.1.1.1.1.1.1.1.1.1.1.1.1.2.j4 (hE.here.1.1.1.1.1.1.1.1.1.1.1.1.1.1.1.1.1.1.1.1.1.1.1.1.1.1.1.1.1.1.1.1.1.1.1.1.1.1.2.j4 hE.here.1.1.1.1.1.1.1.1.1.1.1.1.1.1.1.1.1.1.1.1.1.1.1.1.1.1.1.1.1.1.2.c4)) (fun hHeld => ?_)
      clear hK K
      try simp only [PL]
      refine r1 14 (fun K hK => ?_)
      go_simp
      refine (lw_equal (v := true) (ca := cr28) (da := dr28) (cb := ca) (db := da) (hE.here.2) (hE.here.1.1.1.1.1.1.1.1.1.1.1.1.1.1.1.1.1.1.1.1.1.1.1.1.1.1.1.1.1.1.1.1.1.1.1.1.2) (fl_le2 (fl_times (fl_over la lb hb0) lb) (by decide)) (fl_le2 la (by decide)) (field_e12 hbz)).mono ?_
      rintro e w82 ⟨rfl, hb⟩
      replace hE := hE.step hb
      clear hb
      go_wp2_with fail
      refine hK.out _ _ (hE.here.1.1.1.1.1.1.1.1.1.1.1.1.1.1.1.1.1.1.1.1.1.1.1.1.1.1.1.1.1.1.1.1.1.1.1.1.1.1.1.2.j4 (hE.here.1.1.1.1.1.1.1.1.1.1.1.1.1.1.1.1.1.1.1.1.1.1.1.1.1.1.1.1.1.1.1.1.1.1.1.1.1.1.2.j4 hE.here.1.1.1.1.1.1.1.1.1.1.1.1.1.1.1.1.1.1.1.1.1.1.1.1.1.1.1.1.1.1.2.c4)) (fun hHeld => ?_)
      clear hK K
      try simp only [PL]
      refine tk 15 ?_
      try simp only [PL]
      refine tk 16 ?_
      try simp only [PL]
      refine tk 17 ?_
      try simp only [PL]
      refine tk 18 ?_
      try simp only [PL]
      refine tk 19 ?_
      try simp only [PL]
      refine tk 22 ?_
      try simp only [PL]
      refine r1 20 (fun K hK => ?_)
      go_simp
      refine (lw_over (ca := cu) (da := du) (cb := cb) (db := db) (hE.here.1.1.1.1.1.1.1.1.1.1.1.1.1.1.1.1.1.1.1.1.1.1.1.1.1.1.1.1.1.1.1.1.2) (hE.here.1.1.1.1.1.1.1.1.1.1.1.1.1.1.1.1.1.1.1.1.1.1.1.1.1.1.1.1.1.1.1.1.1.1.1.2) (fl_le2 fl_oo (by decide)) (fl_le2 lb (by decide)) hb0 (fl_le2 (fl_over fl_oo lb hb0) (by decide))).mono ?_
      rintro e w83 ⟨sr29, Ar29, nr29, cr29, tr29, Br29, mr29, dr29, rfl, hr29, hb⟩
      replace hE := hE.step hb
      clear hb
      replace hE := hE.fv hr29
      clear hr29
      go_wp2_with fail
      refine hK.out _ _ (hE.here.1.1.1.1.1.1.1.1.1.1.1.1.1.1.1.1.1.1.1.1.1.1.1.1.1.1.1.1.1.1.1.1.1.1.1.1.1.1.1.1.2.j4 (hE.here.1.1.1.1.1.1.1.1.1.1.1.1.1.1.1.1.1.1.1.1.1.1.1.1.1.1.1.1.1.1.1.1.1.1.1.1.1.1.1.2.j4 hE.here.1.1.1.1.1.1.1.1.1.1.1.1.1.1.1.1.1.1.1.1.1.1.1.1.1.1.1.1.1.1.1.2.c4)) (fun hHeld => ?_)
      clear hK K
      try simp only [PL]
      refine r1 21 (fun K hK => ?_)
      go_simp
      refine (lw_product (ca := cb) (da := db) (cb := cr29) (db := dr29) (hE.here.1.1.1.1.1.1.1.1.1.1.1.1.1.1.1.1.1.1.1.1.1.1.1.1.1.1.1.1.1.1.1.1.1.1.1.1.2) (hE.here.2) (fl_le2 lb (by decide)) (fl_le2 (fl_over fl_oo lb hb0) (by decide)) (fl_le2 (fl_times lb (fl_over fl_oo lb hb0)) (by decide))).mono ?_
      rintro e w84 ⟨sr30, Ar30, nr30, cr30, tr30, Br30, mr30, dr30, rfl, hr30, hb⟩
      replace hE := hE.step hb
      clear hb
      replace hE := hE.fv hr30
      clear hr30
      go_wp2_with fail
      refine hK.out _ _ (hE.here.1.1.1.1.1.1.1.1.1.1.1.1.1.1.1.1.1.1.1.1.1.1.1.1.1.1.1.1.1.1.1.1.1.1.1.1.1.1.1.1.1.2.j4 (hE.here.1.1.1.1.1.1.1.1.1.1.1.1.1.1.1.1.1.1.1.1.1.1.1.1.1.1.1.1.1.1.1.1.1.1.1.1.1.1.1.1.2.j4 hE.here.1.1.1.1.1.1.1.1.1.1.1.1.1.1.1.1.1.1.1.1.1.1.1.1.1.1.1.1.1.1.1.1.2.c4)) (fun hHeld => ?_)
      clear hK K
      try simp only [PL]
      refine r1 23 (fun K hK => ?_)
      go_simp
      refine (lw_equal (v := true) (ca := cr30) (da := dr30) (cb := cu) (db := du) (hE.here.2) (hE.here.1.1.1.1.1.1.1.1.1.1.1.1.1.1.1.1.1.1.1.1.1.1.1.1.1.1.1.1.1.1.1.1.1.1.2) (fl_le2 (fl_times lb (fl_over fl_oo lb hb0)) (by decide)) (fl_le2 fl_oo (by decide)) (field_e13 hbz)).mono ?_
      rintro e w85 ⟨rfl, hb⟩
      replace hE := hE.step hb
      clear hb
      go_wp2_with fail
      refine hK.out _ _ (hE.here.1.1.1.1.1.1.1.1.1.1.1.1.1.1.1.1.1.1.1.1.1.1.1.1.1.1.1.1.1.1.1.1.1.1.1.1.1.1.1.1.1.2.j4 (hE.here.1.1.1.1.1.1.1.1.1.1.1.1.1.1.1.1.1.1.1.1.1.1.1.1.1.1.1.1.1.1.1.1.1.1.1.1.1.1.1.1.2.j4 hE.here.1.1.1.1.1.1.1.1.1.1.1.1.1.1.1.1.1.1.1.1.1.1.1.1.1.1.1.1.1.1.1.1.2.c4)) (fun hHeld => ?_)
      clear hK K
      try simp only [PL]
      refine tk 24 ?_
      try simp only [PL]
      refine tk 25 ?_
      try simp only [PL]
      refine wpAnyH_done (by kernel_rfl) ?_ _
      go_wp2_with fail
      go_ret
      exact ⟨rfl, hE.bel⟩
end Go.Proofs.YtifikcemcflgjaaGreat
