/-
  The walk of FracLowest.
-/
import Derived.Test.YtifikcemcflgjaaGreatK1
import Derived.Test.YtifikcemcflgjaaGreatGX
import Derived.Test.YtifikcemcflgjaaGreatGE
import Derived.Test.YtifikcemcflgjaaGreatGS0
import Derived.Test.YtifikcemcflgjaaGreatK10
import Derived.Test.YtifikcemcflgjaaGreatGA
namespace Go.Proofs.YtifikcemcflgjaaGreat
open Go.RowKit

theorem lo_intz {z : Int} {k : Nat} (h : ln b16 z.natAbs ≤ k) (hk : 1 ≤ k) : fl ((z : Int) : Rat) ≤ k := by
  rw [fl_le, (int_num z).1, (int_num z).2]
  exact ⟨h, Nat.le_trans (by decide) hk⟩
theorem lo_one : fl ((1 : Int) : Rat) ≤ 1 := by rw [fl_le]; exact ⟨by decide, by decide⟩
theorem divInt_q (n d : Int) : Rat.divInt n d = ((n : Int) : Rat) / ((d : Int) : Rat) := Rat.divInt_eq_div n d
theorem fl_divInt {n d : Int} {k : Nat} (h : d ≠ 0) (h1 : ln b16 n.natAbs ≤ k) (h2 : ln b16 d.natAbs ≤ k) : fl (Rat.divInt n d) ≤ k := by
  rcases Int.lt_trichotomy d 0 with hd | hd | hd
  · rw [← low_neg]
    exact fl_div (by omega) (by rw [Int.natAbs_neg]; exact h1) (by rw [Int.natAbs_neg]; exact h2)
  · exact absurd hd h
  · exact fl_div hd h1 h2
theorem divInt_cross {n d : Int} (h : d ≠ 0) : (Rat.divInt n d).num * d = n * (((Rat.divInt n d).den : Nat) : Int) := by
  obtain ⟨q, hq⟩ : ∃ q, q = Rat.divInt n d := ⟨_, rfl⟩
  have h1 := Rat.num_divInt_den q
  rw [hq] at h1
  have h2 := (Rat.divInt_eq_divInt_iff (show (((Rat.divInt n d).den : Nat) : Int) ≠ 0 from den_nz _) h).1 h1
  exact h2
theorem WO.wv' {base : Nat} {w : World} {z : Int} {s : Bool} {A : Option Addr} {n c : Nat} (h : WO base w z s A n c) : WV w z s A n := h.v
theorem cmpQ_same (a b : Rat) : (cmpQ a b == 0) = decide (a = b) := by
  rw [cmpQ_val]
  by_cases h : a = b
  · rw [decide_eq_true h, if_neg (by rw [h]; exact Rat.lt_irrefl), if_pos h]; rfl
  · rw [decide_eq_false h]
    by_cases h2 : a < b
    · rw [if_pos h2]; rfl
    · rw [if_neg h2, if_neg h]; rfl
set_option linter.unusedSimpArgs false in
set_option maxRecDepth 100000 in
set_option maxHeartbeats 16000000 in
theorem flowest_walk {sa ta sb tb : Bool} {Aa Ba Ab Bb : Option Addr} {na ca ma da nb cb mb db : Nat} {fa ga fb gb : Nat → Nat} {sz sy sx : Bool} {Az Ay Ax : Option Addr} {nz cz ny cy nx cx : Nat} {fz fy fx : Nat → Nat} {k0 : Int} {w : World} (hlt : 0 < w.heap.size) (hm : w.cell? ⟨0, 0, none⟩ = some (.int .i64 k0)) (ra : FRd w Aa na fa Ba ma ga) (rb : FRd w Ab nb fb Bb mb gb) (rz : Rd w.heap.size .u16 w Az nz fz) (hz : ∀ j, j < nz → fz j < 65536) (ry : Rd w.heap.size .u16 w Ay ny fy) (hy : ∀ j, j < ny → fy j < 65536) (rx : Rd w.heap.size .u16 w Ax nx fx) (hx : ∀ j, j < nx → fx j < 65536) :
    Calls Tryz.prog 10 #[.agg #[.bool sa, .slice Aa na ca, .bool ta, .slice Ba ma da], .agg #[.bool sb, .slice Ab nb cb, .bool tb, .slice Bb mb db], .agg #[.bool sz, .slice Az nz cz], .agg #[.bool sy, .slice Ay ny cy], .agg #[.bool sx, .slice Ax nx cx]] w (fun e w' => e = .returned (.bool true) ∧ Below w.heap.size w w') := by
  have hE := ((((((((Env.start w).at_ hlt hm).frd ra).frd rb).blk 26 #[.bool sa, .slice Aa na ca, .bool ta, .slice Ba ma da] (g := w.heap.size) rfl).blk 26 #[.bool sb, .slice Ab nb cb, .bool tb, .slice Bb mb db] (g := w.heap.size + 1) (by simp)).blk 24 #[.bool sz, .slice Az nz cz] (g := w.heap.size + 1 + 1) (by simp)).blk 24 #[.bool sy, .slice Ay ny cy] (g := w.heap.size + 1 + 1 + 1) (by simp)).blk 24 #[.bool sx, .slice Ax nx cx] (g := w.heap.size + 1 + 1 + 1 + 1) (by simp)
  obtain ⟨W0, hW0⟩ : ∃ W0, W0 = (((((w.alloc (.cells #[.bool sa, .slice Aa na ca, .bool ta, .slice Ba ma da] 26)).alloc (.cells #[.bool sb, .slice Ab nb cb, .bool tb, .slice Bb mb db] 26)).alloc (.cells #[.bool sz, .slice Az nz cz] 24)).alloc (.cells #[.bool sy, .slice Ay ny cy] 24)).alloc (.cells #[.bool sx, .slice Ax nx cx] 24)) := ⟨_, rfl⟩
  rw [← hW0] at hE
  have HW0 := Lib.hid hW0
  clear hW0
  go_enter Tryz.func10, Tryz.ntmps10
  go_upto_region 1 with (fail)
  rw [← HW0.out]
  go_wp2_with fail
  refine (awake2_t _ (hE.here.1.1.1.1.1.1.1.2).2 (hE.here.1.1.1.1.1.1.1.2).1).mono ?_
  rintro e w1 ⟨rfl, hb⟩
  replace hE := hE.step hb
  clear hb
  obtain ⟨k2, k3, k4, k5⟩ := (hE.here.1.1.1.1.2).c4
  obtain ⟨k6, k7, k8, k9⟩ := (hE.here.1.1.1.2).c4
  obtain ⟨k10, k11⟩ := (hE.here.1.1.2).c2
  obtain ⟨k12, k13⟩ := (hE.here.1.2).c2
  obtain ⟨k14, k15⟩ := (hE.here.2).c2
  go_wp2_with fail
  refine (usable2 ⟨sa, Aa, na, ca, fa, ta, Ba, ma, da, ga⟩ ⟨sb, Ab, nb, cb, fb, tb, Bb, mb, db, gb⟩ _ (hE.here.1.1.1.1.1.1.2) (hE.here.1.1.1.1.1.2)).mono ?_
  clear k2 k3 k4 k5 k6 k7 k8 k9 k10 k11 k12 k13 k14 k15
  rintro e w16 ⟨v, rfl, hv, hb⟩
  replace hE := hE.step hb
  clear hb
  cases v with
  | false =>
    clear hv
    go_wp2_with fail
    go_ret
    exact ⟨rfl, hE.bel⟩
  | true =>
    obtain ⟨ua, ub⟩ := hv rfl
    clear hv
    obtain ⟨a, ha, la⟩ := us_fv ua (hE.here.1.1.1.1.1.1.2)
    obtain ⟨b, hb, lb⟩ := us_fv ub (hE.here.1.1.1.1.1.2)
    replace hE := ((hE.fv ha).fv hb)
    clear ha hb ua ub
    have RZ := Lib.hid (And.intro rz hz)
    have RY := Lib.hid (And.intro ry hy)
    have RX := Lib.hid (And.intro rx hx)
    clear rz hz ry hy rx hx
    by_cases gz : 40 < nz
    · have vz : decide (40 < (nz : Int)) = true := decide_eq_true (by omega)
      have vz2 : decide (40 < nz) = true := decide_eq_true gz
      obtain ⟨k17, k18⟩ := (hE.here.1.1.1.1.2).c2
      obtain ⟨k19, k20⟩ := (hE.here.1.1.1.2).c2
      obtain ⟨k21, k22⟩ := (hE.here.1.1.2).c2
      go_wp2_with fail
      go_ret
      exact ⟨rfl, hE.bel⟩
    have vz : decide (40 < (nz : Int)) = false := decide_eq_false (by omega)
    have vz2 : decide (40 < nz) = false := decide_eq_false gz
    by_cases gy : 40 < ny
    · have vy : decide (40 < (ny : Int)) = true := decide_eq_true (by omega)
      have vy2 : decide (40 < ny) = true := decide_eq_true gy
      obtain ⟨k23, k24⟩ := (hE.here.1.1.1.1.2).c2
      obtain ⟨k25, k26⟩ := (hE.here.1.1.1.2).c2
      obtain ⟨k27, k28⟩ := (hE.here.1.1.2).c2
      go_wp2_with fail
      go_ret
      exact ⟨rfl, hE.bel⟩
    have vy : decide (40 < (ny : Int)) = false := decide_eq_false (by omega)
    have vy2 : decide (40 < ny) = false := decide_eq_false gy
    by_cases gx : 40 < nx
    · have vx : decide (40 < (nx : Int)) = true := decide_eq_true (by omega)
      have vx2 : decide (40 < nx) = true := decide_eq_true gx
      obtain ⟨k29, k30⟩ := (hE.here.1.1.1.1.2).c2
      obtain ⟨k31, k32⟩ := (hE.here.1.1.1.2).c2
      obtain ⟨k33, k34⟩ := (hE.here.1.1.2).c2
      go_wp2_with fail
      go_ret
      exact ⟨rfl, hE.bel⟩
    have vx : decide (40 < (nx : Int)) = false := decide_eq_false (by omega)
    have vx2 : decide (40 < nx) = false := decide_eq_false gx
    have iz : nz ≤ 40 := by omega
    have iy : ny ≤ 40 := by omega
    have ix : nx ≤ 40 := by omega
    clear gz gy gx
    obtain ⟨k35, k36⟩ := (hE.here.1.1.1.1.2).c2
    obtain ⟨k37, k38⟩ := (hE.here.1.1.1.2).c2
    obtain ⟨k39, k40⟩ := (hE.here.1.1.2).c2
    go_wp2_with fail
    have hc := whole_valid_any sz Az nz cz fz _ (((RZ.out.1.below hE.bel).more hE.bel.size)) RZ.out.2 (by omega) _ rfl
    cases hk : okW sz nz fz
    case false =>
      rw [hk] at hc
      clear hk
      refine (hc).mono ?_
      clear k35 k36 k37 k38 k39 k40
      rintro e w41 ⟨rfl, hb⟩
      replace hE := hE.step hb
      clear hb
      go_wp2_with fail
      go_ret
      exact ⟨rfl, hE.bel⟩
    rw [hk] at hc
    have Kz := Lib.hid hk
    clear hk
    refine (hc).mono ?_
    clear k35 k36 k37 k38 k39 k40
    rintro e w42 ⟨rfl, hb⟩
    replace hE := hE.step hb
    clear hb
    clear hc
    clear vz vz2 vy vy2 vx vx2
    obtain ⟨k43, k44⟩ := (hE.here.1.1.1.1.2).c2
    obtain ⟨k45, k46⟩ := (hE.here.1.1.1.2).c2
    obtain ⟨k47, k48⟩ := (hE.here.1.1.2).c2
    go_wp2_with fail
    have hc := whole_valid_any sy Ay ny cy fy _ (((RY.out.1.below hE.bel).more hE.bel.size)) RY.out.2 (by omega) _ rfl
    cases hk : okW sy ny fy
    case false =>
      rw [hk] at hc
      clear hk
      refine (hc).mono ?_
      clear k43 k44 k45 k46 k47 k48
      rintro e w49 ⟨rfl, hb⟩
      replace hE := hE.step hb
      clear hb
      go_wp2_with fail
      go_ret
      exact ⟨rfl, hE.bel⟩
    rw [hk] at hc
    have Ky := Lib.hid hk
    clear hk
    refine (hc).mono ?_
    clear k43 k44 k45 k46 k47 k48
    rintro e w50 ⟨rfl, hb⟩
    replace hE := hE.step hb
    clear hb
    clear hc
    obtain ⟨k51, k52⟩ := (hE.here.1.1.1.1.2).c2
    obtain ⟨k53, k54⟩ := (hE.here.1.1.1.2).c2
    obtain ⟨k55, k56⟩ := (hE.here.1.1.2).c2
    go_wp2_with fail
    have hc := whole_valid_any sx Ax nx cx fx _ (((RX.out.1.below hE.bel).more hE.bel.size)) RX.out.2 (by omega) _ rfl
    cases hk : okW sx nx fx
    case false =>
      rw [hk] at hc
      clear hk
      refine (hc).mono ?_
      clear k51 k52 k53 k54 k55 k56
      rintro e w57 ⟨rfl, hb⟩
      replace hE := hE.step hb
      clear hb
      go_wp2_with fail
      go_ret
      exact ⟨rfl, hE.bel⟩
    rw [hk] at hc
    have Kx := Lib.hid hk
    clear hk
    refine (hc).mono ?_
    clear k51 k52 k53 k54 k55 k56
    rintro e w58 ⟨rfl, hb⟩
    replace hE := hE.step hb
    clear hb
    clear hc
    obtain ⟨z, hz⟩ := WV.of_ok ((RZ.out.1.below hE.bel).more hE.bel.size) RZ.out.2 Kz.out
    replace hE := hE.wv hz
    clear hz
    obtain ⟨y, hy⟩ := WV.of_ok ((RY.out.1.below hE.bel).more hE.bel.size) RY.out.2 Ky.out
    replace hE := hE.wv hy
    clear hy
    obtain ⟨x, hx⟩ := WV.of_ok ((RX.out.1.below hE.bel).more hE.bel.size) RX.out.2 Kx.out
    replace hE := hE.wv hx
    clear hx
    clear RZ Kz RY Ky RX Kx
    replace hE := (((((((((((Env.again hE.bel).blkI hE.here.1.1.1.1.1.1.1.1.1.2).blkI hE.here.1.1.1.1.1.1.1.1.2).blkI hE.here.1.1.1.1.1.1.1.2).blkI hE.here.1.1.1.1.1.1.2).blkI hE.here.1.1.1.1.1.2).fv hE.here.1.1.1.1.2).fv hE.here.1.1.1.2).wv hE.here.1.1.2).wv hE.here.1.2).wv hE.here.2)
    go_upto_region 5 with (fail)
    obtain ⟨o, ho⟩ : ∃ v, v = cmpQ a b := ⟨_, rfl⟩
    obtain ⟨eq, heq⟩ : ∃ v, v = decide (a = b) := ⟨_, rfl⟩
    have oe : (o == 0) = eq := by rw [ho, heq]; exact cmpQ_same a b
    have ee : (eq != eq) = false := by cases eq <;> rfl
    have Hho := Lib.hid ho
    clear ho
    have Hheq := Lib.hid heq
    clear heq
    replace hE := hE.drew
    refine wp_region_held_drew (S := fun w' => w'.cell? ⟨w.heap.size, 0, none⟩ = some (.bool sa) ∧ w'.cell? ⟨w.heap.size, 1, none⟩ = some (.slice Aa na ca) ∧ w'.cell? ⟨w.heap.size, 2, none⟩ = some (.bool ta) ∧ w'.cell? ⟨w.heap.size, 3, none⟩ = some (.slice Ba ma da) ∧ w'.cell? ⟨w.heap.size + 1, 0, none⟩ = some (.bool sb) ∧ w'.cell? ⟨w.heap.size + 1, 1, none⟩ = some (.slice Ab nb cb) ∧ w'.cell? ⟨w.heap.size + 1, 2, none⟩ = some (.bool tb) ∧ w'.cell? ⟨w.heap.size + 1, 3, none⟩ = some (.slice Bb mb db)) (by kernel_rfl) (hE.here.1.1.1.1.1.1.1.1.1.2.j4 hE.here.1.1.1.1.1.1.1.1.2.c4) (fun hHeld => ?_)
    refine tk 0 ?_
    try simp only [PL]
    refine tk 1 ?_
    try simp only [PL]
    refine r1 2 (fun K hK => ?_)
    go_simp
    refine (lw_sum (ca := ca) (da := da) (cb := cb) (db := db) (hE.here.1.1.1.1.2) (hE.here.1.1.1.2) (fl_le2 la (by decide)) (fl_le2 lb (by decide)) (fl_le2 (fl_plus la lb) (by decide))).mono ?_
    rintro e w59 ⟨sg, Ag, ng, cg, tg, Bg, mg, dg, rfl, hg, hb⟩
    replace hE := hE.step hb
    clear hb
    replace hE := hE.fv hg
    clear hg
    go_wp2_with fail
    refine hK.out _ _ (hE.here.1.1.1.1.1.1.1.1.1.1.2.j4 hE.here.1.1.1.1.1.1.1.1.1.2.c4) (fun hHeld => ?_)
    clear hK K
    try simp only [PL]
    refine r1 3 (fun K hK => ?_)
    go_simp
    refine (fvalid_v0 (c := cg) (d := dg) (hE.here.2) (fl_le2 (fl_plus la lb) (by decide))).mono ?_
    rintro e w60 ⟨rfl, hb⟩
    replace hE := hE.step hb
    clear hb
    go_wp2_with fail
    refine hK.out _ _ (hE.here.1.1.1.1.1.1.1.1.1.1.2.j4 hE.here.1.1.1.1.1.1.1.1.1.2.c4) (fun hHeld => ?_)
    clear hK K
    try simp only [PL]
    refine tk 4 ?_
    try simp only [PL]
    refine tk 5 ?_
    try simp only [PL]
    refine tk 6 ?_
    try simp only [PL]
    refine tk 7 ?_
    try simp only [PL]
    refine r1 8 (fun K hK => ?_)
    go_simp
    refine (lw_product (ca := ca) (da := da) (cb := cb) (db := db) (hE.here.1.1.1.1.1.2) (hE.here.1.1.1.1.2) (fl_le2 la (by decide)) (fl_le2 lb (by decide)) (fl_le2 (fl_times la lb) (by decide))).mono ?_
    rintro e w61 ⟨sh, Ah, nh, ch, th, Bh, mh, dh, rfl, hh, hb⟩
    replace hE := hE.step hb
    clear hb
    replace hE := hE.fv hh
    clear hh
    go_wp2_with fail
    refine hK.out _ _ (hE.here.1.1.1.1.1.1.1.1.1.1.1.2.j4 hE.here.1.1.1.1.1.1.1.1.1.1.2.c4) (fun hHeld => ?_)
    clear hK K
    try simp only [PL]
    refine r1 9 (fun K hK => ?_)
    go_simp
    refine (fvalid_v0 (c := ch) (d := dh) (hE.here.2) (fl_le2 (fl_times la lb) (by decide))).mono ?_
    rintro e w62 ⟨rfl, hb⟩
    replace hE := hE.step hb
    clear hb
    go_wp2_with fail
    refine hK.out _ _ (hE.here.1.1.1.1.1.1.1.1.1.1.1.2.j4 hE.here.1.1.1.1.1.1.1.1.1.1.2.c4) (fun hHeld => ?_)
    clear hK K
    try simp only [PL]
    refine tk 10 ?_
    try simp only [PL]
    refine tk 11 ?_
    try simp only [PL]
    refine tk 12 ?_
    try simp only [PL]
    refine tk 13 ?_
    try simp only [PL]
    refine tk 14 ?_
    try simp only [PL]
    refine r1 15 (fun K hK => ?_)
    go_simp
    refine (lw_less (ca := ca) (da := da) (cb := cb) (db := db) (hE.here.1.1.1.1.1.1.2) (hE.here.1.1.1.1.1.2) (fl_le2 la (by decide)) (fl_le2 lb (by decide)) (fl_le2 (fl_minus la lb) (by decide))).mono ?_
    rintro e w63 ⟨si, Ai, ni, ci, ti, Bi, mi, di, rfl, hi, hb⟩
    replace hE := hE.step hb
    clear hb
    replace hE := hE.fv hi
    clear hi
    go_wp2_with fail
    refine hK.out _ _ (hE.here.1.1.1.1.1.1.1.1.1.1.1.1.2.j4 hE.here.1.1.1.1.1.1.1.1.1.1.1.2.c4) (fun hHeld => ?_)
    clear hK K
    try simp only [PL]
    refine r1 16 (fun K hK => ?_)
    go_simp
    refine (fvalid_v0 (c := ci) (d := di) (hE.here.2) (fl_le2 (fl_minus la lb) (by decide))).mono ?_
    rintro e w64 ⟨rfl, hb⟩
    replace hE := hE.step hb
    clear hb
    go_wp2_with fail
    refine hK.out _ _ (hE.here.1.1.1.1.1.1.1.1.1.1.1.1.2.j4 hE.here.1.1.1.1.1.1.1.1.1.1.1.2.c4) (fun hHeld => ?_)
    clear hK K
    try simp only [PL]
    refine tk 17 ?_
    try simp only [PL]
    refine tk 18 ?_
    try simp only [PL]
    refine tk 19 ?_
    try simp only [PL]
    refine tk 20 ?_
    try simp only [PL]
    refine tk 21 ?_
    try simp only [PL]
    refine tk 24 ?_
    try simp only [PL]
    refine tk 25 ?_
    try simp only [PL]
    refine r1 22 (fun K hK => ?_)
    go_simp
    have hc := fcmp_v (ca := ca) (da := da) (cb := cb) (db := db) (hE.here.1.1.1.1.1.1.1.2) (hE.here.1.1.1.1.1.1.2) (fl_le2 la (by decide)) (fl_le2 lb (by decide))
    rw [← Hho.out] at hc
    refine (hc).mono ?_
    rintro e w65 ⟨rfl, hb⟩
    replace hE := hE.step hb
    clear hb
    clear hc
    go_wp2_with fail
    refine hK.out _ _ (hE.here.1.1.1.1.1.1.1.1.1.1.1.1.2.j4 hE.here.1.1.1.1.1.1.1.1.1.1.1.2.c4) (fun hHeld => ?_)
    clear hK K
    try simp only [PL]
    refine tk 23 ?_
    try simp only [PL]
    refine r1 26 (fun K hK => ?_)
    go_simp
    have hl1 := (hE.here.1.1.1.1.1.1.1.2).ln la
    have hl2 := (hE.here.1.1.1.1.1.1.2).ln lb
    have hc := fsame_v (ca := ca) (da := da) (cb := cb) (db := db) (hE.here.1.1.1.1.1.1.1.2) (hE.here.1.1.1.1.1.1.2) (by omega) (by omega) (by omega) (by omega)
    rw [← Hheq.out] at hc
    clear hl1 hl2
    refine (hc).mono ?_
    rintro e w66 ⟨rfl, hb⟩
    replace hE := hE.step hb
    clear hb
    clear hc
    go_wp2_with fail
    refine hK.out _ _ (hE.here.1.1.1.1.1.1.1.1.1.1.1.1.2.j4 hE.here.1.1.1.1.1.1.1.1.1.1.1.2.c4) (fun hHeld => ?_)
    clear hK K
    try simp only [PL]
    refine tk 27 ?_
    try simp only [PL]
    refine tk 28 ?_
    try simp only [PL]
    refine wpAnyH_done (by kernel_rfl) ?_ _
    go_upto_region 7 with (fail)
    clear oe ee
    replace hE := (((((((((((Env.again hE.bel).blkI hE.here.1.1.1.1.1.1.1.1.1.1.1.1.2).blkI hE.here.1.1.1.1.1.1.1.1.1.1.1.2).blkI hE.here.1.1.1.1.1.1.1.1.1.1.2).blkI hE.here.1.1.1.1.1.1.1.1.1.2).blkI hE.here.1.1.1.1.1.1.1.1.2).fv hE.here.1.1.1.1.1.1.1.2).fv hE.here.1.1.1.1.1.1.2).wv hE.here.1.1.1.1.1.2).wv hE.here.1.1.1.1.2).wv hE.here.1.1.1.2)
    by_cases hd : y = 0
    · subst hd
      obtain rfl : ny = 0 := by rw [(hE.here.1.2).len]; exact ln_zero
      obtain ⟨k67, k68⟩ := (hE.here.1.1.1.1.1.1.1.2).c2
      obtain ⟨k69, k70⟩ := (hE.here.1.1.1.1.1.1.2).c2
      go_wp2_with fail
      refine (fmake_zero (cx := cz) (cy := cy) (hE.here.1.1.2) (hE.here.1.2) (by omega)).mono ?_
      clear k67 k68 k69 k70
      rintro e w71 ⟨rfl, hb⟩
      replace hE := hE.step hb
      clear hb
      go_upto_region 8 with (fail)
      obtain ⟨g72, hg72⟩ : ∃ g72, g72 = w71.heap.size := ⟨_, rfl⟩
      have hl72_0 : w.heap.size < g72 := by rw [hg72]; exact (hE.here.1.1.1.1.1.1.1.1.1.2).lt
      have hl72_1 : w.heap.size + 1 < g72 := by rw [hg72]; exact (hE.here.1.1.1.1.1.1.1.1.2).lt
      have hl72_2 : w.heap.size + 1 + 1 < g72 := by rw [hg72]; exact (hE.here.1.1.1.1.1.1.1.2).lt
      have hl72_3 : w.heap.size + 1 + 1 + 1 < g72 := by rw [hg72]; exact (hE.here.1.1.1.1.1.1.2).lt
      have hl72_4 : w.heap.size + 1 + 1 + 1 + 1 < g72 := by rw [hg72]; exact (hE.here.1.1.1.1.1.2).lt
      replace hE := hE.blk 26 #[.bool false, .slice none 0 0, .bool false, .slice none 0 0] (g := g72) hg72.symm
      generalize w71.alloc (.cells #[.bool false, .slice none 0 0, .bool false, .slice none 0 0] 26) = W72 at hE ⊢
      rw [← hg72]
      clear hg72
      obtain ⟨k73, k74⟩ := (hE.here.1.1.1.1.1.1.1.2).c2
      go_upto_region 9 with (fail)
      clear k73 k74
      obtain ⟨k75, k76, k77, k78⟩ := (hE.here.2).c4
      go_wp2_with fail
      refine (frsame_00).mono ?_
      clear k75 k76 k77 k78
      rintro e w79 ⟨rfl, hb⟩
      replace hE := hE.step hb
      clear hb
      go_wp2_with fail
      go_ret
      exact ⟨rfl, hE.bel⟩
    · have hy0 : 0 < ny := by rw [(hE.here.1.2).len]; exact (ln_pos b16_two).2 (by omega)
      have t1 : ((ny : Int) == 0) = false := beq_eq_false_iff_ne.2 (by omega)
      have t2 : (ny == 0) = false := beq_eq_false_iff_ne.2 (by omega)
      clear hy0
      have lz : ln b16 z.natAbs ≤ 40 := by rw [← (hE.here.1.1.2).len]; exact iz
      have ly : ln b16 y.natAbs ≤ 40 := by rw [← (hE.here.1.2).len]; exact iy
      have lx : ln b16 x.natAbs ≤ 40 := by rw [← (hE.here.2).len]; exact ix
      have lq : fl (Rat.divInt z y) ≤ 40 := fl_divInt hd lz ly
      have Hlz := Lib.hid lz
      clear lz
      have Hly := Lib.hid ly
      clear ly
      have Hlx := Lib.hid lx
      clear lx
      have Hhd := Lib.hid hd
      clear hd
      obtain ⟨k80, k81⟩ := (hE.here.1.1.1.1.1.1.1.2).c2
      obtain ⟨k82, k83⟩ := (hE.here.1.1.1.1.1.1.2).c2
      go_wp2_with fail
      refine (fmake_v (cx := cz) (cy := cy) (hE.here.1.1.2) (hE.here.1.2) (by omega) (by omega) Hhd.out (fl_le2 lq (by decide))).mono ?_
      clear k80 k81 k82 k83
      rintro e w84 ⟨sq, Aq, nq, cq, tq, Bq, mq, dq, rfl, hq, hb⟩
      replace hE := hE.step hb
      clear hb
      replace hE := hE.fv hq
      clear hq
      go_upto_region 8 with (fail)
      obtain ⟨g85, hg85⟩ : ∃ g85, g85 = w84.heap.size := ⟨_, rfl⟩
      have hl85_0 : w.heap.size < g85 := by rw [hg85]; exact (hE.here.1.1.1.1.1.1.1.1.1.1.2).lt
      have hl85_1 : w.heap.size + 1 < g85 := by rw [hg85]; exact (hE.here.1.1.1.1.1.1.1.1.1.2).lt
      have hl85_2 : w.heap.size + 1 + 1 < g85 := by rw [hg85]; exact (hE.here.1.1.1.1.1.1.1.1.2).lt
      have hl85_3 : w.heap.size + 1 + 1 + 1 < g85 := by rw [hg85]; exact (hE.here.1.1.1.1.1.1.1.2).lt
      have hl85_4 : w.heap.size + 1 + 1 + 1 + 1 < g85 := by rw [hg85]; exact (hE.here.1.1.1.1.1.1.2).lt
      replace hE := hE.blk 26 #[.bool sq, .slice Aq nq cq, .bool tq, .slice Bq mq dq] (g := g85) hg85.symm
      generalize w84.alloc (.cells #[.bool sq, .slice Aq nq cq, .bool tq, .slice Bq mq dq] 26) = W85 at hE ⊢
      rw [← hg85]
      clear hg85
      obtain ⟨k86, k87⟩ := (hE.here.1.1.1.1.1.1.1.1.2).c2
      go_upto_region 10 with (fail)
      clear k86 k87
      go_cut [13, 14] from 113 to 119 (fun p q wx => ∃ G10 sp Ap np cp tp Bp mp dp, p = .pointer (some ⟨G10, 0, none⟩) ∧ q = .int .i64 0 ∧ Env w (fun V => ((((((((((((((True ∧ Blk 26 (w.heap.size) #[.bool sa, .slice Aa na ca, .bool ta, .slice Ba ma da] V) ∧ Blk 26 (w.heap.size + 1) #[.bool sb, .slice Ab nb cb, .bool tb, .slice Bb mb db] V) ∧ Blk 24 (w.heap.size + 1 + 1) #[.bool sz, .slice Az nz cz] V) ∧ Blk 24 (w.heap.size + 1 + 1 + 1) #[.bool sy, .slice Ay ny cy] V) ∧ Blk 24 (w.heap.size + 1 + 1 + 1 + 1) #[.bool sx, .slice Ax nx cx] V) ∧ FV V a sa Aa na ta Ba ma) ∧ FV V b sb Ab nb tb Bb mb) ∧ WV V z sz Az nz) ∧ WV V y sy Ay ny) ∧ WV V x sx Ax nx) ∧ FV V (Rat.divInt z y) sq Aq nq tq Bq mq) ∧ Blk 26 (g85) #[.bool sq, .slice Aq nq cq, .bool tq, .slice Bq mq dq] V) ∧ FV V ((z : Int) : Rat) sp Ap np tp Bp mp) ∧ Blk 26 (G10) #[.bool sp, .slice Ap np cp, .bool tp, .slice Bp mp dp] V)) wx)
      case first =>
        replace hE := hE.drew
        refine wp_region_held_drew (S := fun w' => w'.cell? ⟨w.heap.size + 1 + 1, 0, none⟩ = some (.bool sz) ∧ w'.cell? ⟨w.heap.size + 1 + 1, 1, none⟩ = some (.slice Az nz cz)) (by kernel_rfl) (hE.here.1.1.1.1.1.1.1.1.1.2.c2) (fun hHeld => ?_)
        generalize W85.drew = wd at *
        refine tk 0 ?_
        try simp only [PL]
        refine wpAnyH_ready (rs := [1, 6]) (by kernel_rfl) (by simp) (AllReadyH.cons rfl (fun K hK => ?_) (AllReadyH.cons rfl (fun K hK => ?_) (AllReadyH.nil)))
        · skip
          go_simp
          refine (rfromInt_v 1 _ (by decide) (by decide)).mono ?_
          rintro e w88 ⟨so, Ao, no, co, rfl, ho, hb⟩
          replace hE := hE.step hb
          clear hb
          replace hE := hE.wv ho
          clear ho
          go_wp2_with fail
          refine hK.out _ _ (hE.here.1.1.1.1.1.1.1.1.1.1.2.c2) (fun hHeld => ?_)
          clear hK K
          try simp only [PL]
          refine wpAnyH_ready (rs := [2, 6]) (by kernel_rfl) (by simp) (AllReadyH.cons rfl (fun K hK => ?_) (AllReadyH.cons rfl (fun K hK => ?_) (AllReadyH.nil)))
          · skip
            go_simp
            have no4 : no ≤ 4 := small_len (hE.here.2) (by decide) (by decide)
            have hc := fmake_v (cx := cz) (cy := co) (hE.here.1.1.1.1.1.2) (hE.here.2) (by omega) (by omega) (by decide) (by rw [int_low]; exact (fl_le2 (lo_intz Hlz.out (by decide)) (by decide)))
            rw [int_low] at hc
            clear no4
            refine (hc).mono ?_
            rintro e w89 ⟨sp, Ap, np, cp, tp, Bp, mp, dp, rfl, hp, hb⟩
            replace hE := hE.step hb
            clear hb
            replace hE := hE.fv hp
            clear hp
            clear hc
            go_wp2_with fail
            refine hK.out _ _ (hE.here.1.1.1.1.1.1.1.1.1.1.1.2.c2) (fun hHeld => ?_)
            clear hK K
            try simp only [PL]
            refine tk 3 ?_
            try simp only [PL]
            refine tk 4 ?_
            try simp only [PL]
            refine tk 5 ?_
            try simp only [PL]
            refine r1 6 (fun K hK => ?_)
            go_simp
            obtain ⟨g90, hg90⟩ : ∃ g90, g90 = w89.heap.size := ⟨_, rfl⟩
            have hl90_0 : w.heap.size < g90 := by rw [hg90]; exact (hE.here.1.1.1.1.1.1.1.1.1.1.1.1.1.2).lt
            have hl90_1 : w.heap.size + 1 < g90 := by rw [hg90]; exact (hE.here.1.1.1.1.1.1.1.1.1.1.1.1.2).lt
            have hl90_2 : w.heap.size + 1 + 1 < g90 := by rw [hg90]; exact (hE.here.1.1.1.1.1.1.1.1.1.1.1.2).lt
            have hl90_3 : w.heap.size + 1 + 1 + 1 < g90 := by rw [hg90]; exact (hE.here.1.1.1.1.1.1.1.1.1.1.2).lt
            have hl90_4 : w.heap.size + 1 + 1 + 1 + 1 < g90 := by rw [hg90]; exact (hE.here.1.1.1.1.1.1.1.1.1.2).lt
            have hl90_11 : g85 < g90 := by rw [hg90]; exact (hE.here.1.1.2).lt
            replace hE := hE.blk 26 #[.bool false, .slice none 0 0, .bool false, .slice none 0 0] (g := g90) hg90.symm
            generalize w89.alloc (.cells #[.bool false, .slice none 0 0, .bool false, .slice none 0 0] 26) = W90 at hE ⊢
            rw [← hg90]
            clear hg90
            refine hK.out _ _ (hE.here.1.1.1.1.1.1.1.1.1.1.1.1.2.c2) (fun hHeld => ?_)
            clear hK K
            try simp only [PL]
            refine r1 7 (fun K hK => ?_)
            have hgl91 : w.heap.size ≤ g90 := by omega
            obtain ⟨x91_0, x91_1, x91_2, x91_3⟩ := (hE.here.2).c4
            obtain ⟨f91_0, f91_1, f91_2, f91_3⟩ := hE.here.2.f4
            replace hE := ((((((((((((((((Env.again (bel4 hE.bel hgl91 (.bool sp) (.slice Ap np cp) (.bool tp) (.slice Bp mp dp))).blkI ((hE.here.1.1.1.1.1.1.1.1.1.1.1.1.1.1.2).far4 (R := g90) (by omega) (.bool sp) (.slice Ap np cp) (.bool tp) (.slice Bp mp dp))).blkI ((hE.here.1.1.1.1.1.1.1.1.1.1.1.1.1.2).far4 (R := g90) (by omega) (.bool sp) (.slice Ap np cp) (.bool tp) (.slice Bp mp dp))).blkI ((hE.here.1.1.1.1.1.1.1.1.1.1.1.1.2).far4 (R := g90) (by omega) (.bool sp) (.slice Ap np cp) (.bool tp) (.slice Bp mp dp))).blkI ((hE.here.1.1.1.1.1.1.1.1.1.1.1.2).far4 (R := g90) (by omega) (.bool sp) (.slice Ap np cp) (.bool tp) (.slice Bp mp dp))).blkI ((hE.here.1.1.1.1.1.1.1.1.1.1.2).far4 (R := g90) (by omega) (.bool sp) (.slice Ap np cp) (.bool tp) (.slice Bp mp dp))).fv ((hE.here.1.1.1.1.1.1.1.1.1.2).sep4 hE.here.2 rfl (.bool sp) (.slice Ap np cp) (.bool tp) (.slice Bp mp dp) rfl rfl rfl)).fv ((hE.here.1.1.1.1.1.1.1.1.2).sep4 hE.here.2 rfl (.bool sp) (.slice Ap np cp) (.bool tp) (.slice Bp mp dp) rfl rfl rfl)).wv ((hE.here.1.1.1.1.1.1.1.2).sep4 hE.here.2 rfl (.bool sp) (.slice Ap np cp) (.bool tp) (.slice Bp mp dp) rfl rfl rfl)).wv ((hE.here.1.1.1.1.1.1.2).sep4 hE.here.2 rfl (.bool sp) (.slice Ap np cp) (.bool tp) (.slice Bp mp dp) rfl rfl rfl)).wv ((hE.here.1.1.1.1.1.2).sep4 hE.here.2 rfl (.bool sp) (.slice Ap np cp) (.bool tp) (.slice Bp mp dp) rfl rfl rfl)).fv ((hE.here.1.1.1.1.2).sep4 hE.here.2 rfl (.bool sp) (.slice Ap np cp) (.bool tp) (.slice Bp mp dp) rfl rfl rfl)).blkI ((hE.here.1.1.1.2).far4 (R := g90) (by omega) (.bool sp) (.slice Ap np cp) (.bool tp) (.slice Bp mp dp))).wv ((hE.here.1.1.2).sep4 hE.here.2 rfl (.bool sp) (.slice Ap np cp) (.bool tp) (.slice Bp mp dp) rfl rfl rfl)).fv ((hE.here.1.2).sep4 hE.here.2 rfl (.bool sp) (.slice Ap np cp) (.bool tp) (.slice Bp mp dp) rfl rfl rfl)).blkI ((hE.here.2).s4 (.bool sp) (.slice Ap np cp) (.bool tp) (.slice Bp mp dp)))
            go_simp
            clear x91_0 x91_1 x91_2 x91_3 f91_0 f91_1 f91_2 f91_3 hgl91
            generalize ((((W90.setCell ⟨g90, 0, none⟩ (.bool sp)).setCell ⟨g90, 1, none⟩ (.slice Ap np cp)).setCell ⟨g90, 2, none⟩ (.bool tp)).setCell ⟨g90, 3, none⟩ (.slice Bp mp dp)) = W91 at hE ⊢
            refine hK.out _ _ (hE.here.1.1.1.1.1.1.1.1.1.1.1.1.2.c2) (fun hHeld => ?_)
            clear hK K
            try simp only [PL]
            refine tk 8 ?_
            try simp only [PL]
            refine wpAnyH_done (by kernel_rfl) ?_ _
            go_wp2_with fail
            go_meet
            exact ⟨g90, sp, Ap, np, cp, tp, Bp, mp, dp, rfl, rfl, (((((((((((((((Env.again hE.bel).blkI (hE.here.1.1.1.1.1.1.1.1.1.1.1.1.1.1.2)).blkI (hE.here.1.1.1.1.1.1.1.1.1.1.1.1.1.2)).blkI (hE.here.1.1.1.1.1.1.1.1.1.1.1.1.2)).blkI (hE.here.1.1.1.1.1.1.1.1.1.1.1.2)).blkI (hE.here.1.1.1.1.1.1.1.1.1.1.2)).fv (hE.here.1.1.1.1.1.1.1.1.1.2)).fv (hE.here.1.1.1.1.1.1.1.1.2)).wv (hE.here.1.1.1.1.1.1.1.2)).wv (hE.here.1.1.1.1.1.1.2)).wv (hE.here.1.1.1.1.1.2)).fv (hE.here.1.1.1.1.2)).blkI (hE.here.1.1.1.2)).fv (hE.here.1.2)).blkI (hE.here.2))⟩
          · skip
            go_simp
            obtain ⟨g92, hg92⟩ : ∃ g92, g92 = w88.heap.size := ⟨_, rfl⟩
            have hl92_0 : w.heap.size < g92 := by rw [hg92]; exact (hE.here.1.1.1.1.1.1.1.1.1.1.1.1.2).lt
            have hl92_1 : w.heap.size + 1 < g92 := by rw [hg92]; exact (hE.here.1.1.1.1.1.1.1.1.1.1.1.2).lt
            have hl92_2 : w.heap.size + 1 + 1 < g92 := by rw [hg92]; exact (hE.here.1.1.1.1.1.1.1.1.1.1.2).lt
            have hl92_3 : w.heap.size + 1 + 1 + 1 < g92 := by rw [hg92]; exact (hE.here.1.1.1.1.1.1.1.1.1.2).lt
            have hl92_4 : w.heap.size + 1 + 1 + 1 + 1 < g92 := by rw [hg92]; exact (hE.here.1.1.1.1.1.1.1.1.2).lt
            have hl92_11 : g85 < g92 := by rw [hg92]; exact (hE.here.1.2).lt
            replace hE := hE.blk 26 #[.bool false, .slice none 0 0, .bool false, .slice none 0 0] (g := g92) hg92.symm
            generalize w88.alloc (.cells #[.bool false, .slice none 0 0, .bool false, .slice none 0 0] 26) = W92 at hE ⊢
            rw [← hg92]
            clear hg92
            refine hK.out _ _ (hE.here.1.1.1.1.1.1.1.1.1.1.1.2.c2) (fun hHeld => ?_)
            clear hK K
            try simp only [PL]
            refine r1 2 (fun K hK => ?_)
            go_simp
            have no4 : no ≤ 4 := small_len (hE.here.1.2) (by decide) (by decide)
            have hc := fmake_v (cx := cz) (cy := co) (hE.here.1.1.1.1.1.1.2) (hE.here.1.2) (by omega) (by omega) (by decide) (by rw [int_low]; exact (fl_le2 (lo_intz Hlz.out (by decide)) (by decide)))
            rw [int_low] at hc
            clear no4
            refine (hc).mono ?_
            rintro e w93 ⟨sp, Ap, np, cp, tp, Bp, mp, dp, rfl, hp, hb⟩
            replace hE := hE.step hb
            clear hb
            replace hE := hE.fv hp
            clear hp
            clear hc
            go_wp2_with fail
            refine hK.out _ _ (hE.here.1.1.1.1.1.1.1.1.1.1.1.1.2.c2) (fun hHeld => ?_)
            clear hK K
            try simp only [PL]
            refine tk 3 ?_
            try simp only [PL]
            refine tk 4 ?_
            try simp only [PL]
            refine tk 5 ?_
            try simp only [PL]
            refine r1 7 (fun K hK => ?_)
            have hgl94 : w.heap.size ≤ g92 := by omega
            obtain ⟨x94_0, x94_1, x94_2, x94_3⟩ := (hE.here.1.2).c4
            obtain ⟨f94_0, f94_1, f94_2, f94_3⟩ := hE.here.1.2.f4
            replace hE := ((((((((((((((((Env.again (bel4 hE.bel hgl94 (.bool sp) (.slice Ap np cp) (.bool tp) (.slice Bp mp dp))).blkI ((hE.here.1.1.1.1.1.1.1.1.1.1.1.1.1.1.2).far4 (R := g92) (by omega) (.bool sp) (.slice Ap np cp) (.bool tp) (.slice Bp mp dp))).blkI ((hE.here.1.1.1.1.1.1.1.1.1.1.1.1.1.2).far4 (R := g92) (by omega) (.bool sp) (.slice Ap np cp) (.bool tp) (.slice Bp mp dp))).blkI ((hE.here.1.1.1.1.1.1.1.1.1.1.1.1.2).far4 (R := g92) (by omega) (.bool sp) (.slice Ap np cp) (.bool tp) (.slice Bp mp dp))).blkI ((hE.here.1.1.1.1.1.1.1.1.1.1.1.2).far4 (R := g92) (by omega) (.bool sp) (.slice Ap np cp) (.bool tp) (.slice Bp mp dp))).blkI ((hE.here.1.1.1.1.1.1.1.1.1.1.2).far4 (R := g92) (by omega) (.bool sp) (.slice Ap np cp) (.bool tp) (.slice Bp mp dp))).fv ((hE.here.1.1.1.1.1.1.1.1.1.2).sep4 hE.here.1.2 rfl (.bool sp) (.slice Ap np cp) (.bool tp) (.slice Bp mp dp) rfl rfl rfl)).fv ((hE.here.1.1.1.1.1.1.1.1.2).sep4 hE.here.1.2 rfl (.bool sp) (.slice Ap np cp) (.bool tp) (.slice Bp mp dp) rfl rfl rfl)).wv ((hE.here.1.1.1.1.1.1.1.2).sep4 hE.here.1.2 rfl (.bool sp) (.slice Ap np cp) (.bool tp) (.slice Bp mp dp) rfl rfl rfl)).wv ((hE.here.1.1.1.1.1.1.2).sep4 hE.here.1.2 rfl (.bool sp) (.slice Ap np cp) (.bool tp) (.slice Bp mp dp) rfl rfl rfl)).wv ((hE.here.1.1.1.1.1.2).sep4 hE.here.1.2 rfl (.bool sp) (.slice Ap np cp) (.bool tp) (.slice Bp mp dp) rfl rfl rfl)).fv ((hE.here.1.1.1.1.2).sep4 hE.here.1.2 rfl (.bool sp) (.slice Ap np cp) (.bool tp) (.slice Bp mp dp) rfl rfl rfl)).blkI ((hE.here.1.1.1.2).far4 (R := g92) (by omega) (.bool sp) (.slice Ap np cp) (.bool tp) (.slice Bp mp dp))).wv ((hE.here.1.1.2).sep4 hE.here.1.2 rfl (.bool sp) (.slice Ap np cp) (.bool tp) (.slice Bp mp dp) rfl rfl rfl)).blkI ((hE.here.1.2).s4 (.bool sp) (.slice Ap np cp) (.bool tp) (.slice Bp mp dp))).fv ((hE.here.2).sep4 hE.here.1.2 rfl (.bool sp) (.slice Ap np cp) (.bool tp) (.slice Bp mp dp) rfl rfl rfl))
            go_simp
            clear x94_0 x94_1 x94_2 x94_3 f94_0 f94_1 f94_2 f94_3 hgl94
            generalize ((((w93.setCell ⟨g92, 0, none⟩ (.bool sp)).setCell ⟨g92, 1, none⟩ (.slice Ap np cp)).setCell ⟨g92, 2, none⟩ (.bool tp)).setCell ⟨g92, 3, none⟩ (.slice Bp mp dp)) = W94 at hE ⊢
            refine hK.out _ _ (hE.here.1.1.1.1.1.1.1.1.1.1.1.1.2.c2) (fun hHeld => ?_)
            clear hK K
            try simp only [PL]
            refine tk 8 ?_
            try simp only [PL]
            refine wpAnyH_done (by kernel_rfl) ?_ _
            go_wp2_with fail
            go_meet
            exact ⟨g92, sp, Ap, np, cp, tp, Bp, mp, dp, rfl, rfl, (((((((((((((((Env.again hE.bel).blkI (hE.here.1.1.1.1.1.1.1.1.1.1.1.1.1.1.2)).blkI (hE.here.1.1.1.1.1.1.1.1.1.1.1.1.1.2)).blkI (hE.here.1.1.1.1.1.1.1.1.1.1.1.1.2)).blkI (hE.here.1.1.1.1.1.1.1.1.1.1.1.2)).blkI (hE.here.1.1.1.1.1.1.1.1.1.1.2)).fv (hE.here.1.1.1.1.1.1.1.1.1.2)).fv (hE.here.1.1.1.1.1.1.1.1.2)).wv (hE.here.1.1.1.1.1.1.1.2)).wv (hE.here.1.1.1.1.1.1.2)).wv (hE.here.1.1.1.1.1.2)).fv (hE.here.1.1.1.1.2)).blkI (hE.here.1.1.1.2)).fv (hE.here.2)).blkI (hE.here.1.2))⟩
        · skip
          go_simp
          obtain ⟨g95, hg95⟩ : ∃ g95, g95 = wd.heap.size := ⟨_, rfl⟩
          have hl95_0 : w.heap.size < g95 := by rw [hg95]; exact (hE.here.1.1.1.1.1.1.1.1.1.1.1.2).lt
          have hl95_1 : w.heap.size + 1 < g95 := by rw [hg95]; exact (hE.here.1.1.1.1.1.1.1.1.1.1.2).lt
          have hl95_2 : w.heap.size + 1 + 1 < g95 := by rw [hg95]; exact (hE.here.1.1.1.1.1.1.1.1.1.2).lt
          have hl95_3 : w.heap.size + 1 + 1 + 1 < g95 := by rw [hg95]; exact (hE.here.1.1.1.1.1.1.1.1.2).lt
          have hl95_4 : w.heap.size + 1 + 1 + 1 + 1 < g95 := by rw [hg95]; exact (hE.here.1.1.1.1.1.1.1.2).lt
          have hl95_11 : g85 < g95 := by rw [hg95]; exact (hE.here.2).lt
          replace hE := hE.blk 26 #[.bool false, .slice none 0 0, .bool false, .slice none 0 0] (g := g95) hg95.symm
          generalize wd.alloc (.cells #[.bool false, .slice none 0 0, .bool false, .slice none 0 0] 26) = W95 at hE ⊢
          rw [← hg95]
          clear hg95
          refine hK.out _ _ (hE.here.1.1.1.1.1.1.1.1.1.1.2.c2) (fun hHeld => ?_)
          clear hK K
          try simp only [PL]
          refine r1 1 (fun K hK => ?_)
          go_simp
          refine (rfromInt_v 1 _ (by decide) (by decide)).mono ?_
          rintro e w96 ⟨so, Ao, no, co, rfl, ho, hb⟩
          replace hE := hE.step hb
          clear hb
          replace hE := hE.wv ho
          clear ho
          go_wp2_with fail
          refine hK.out _ _ (hE.here.1.1.1.1.1.1.1.1.1.1.1.2.c2) (fun hHeld => ?_)
          clear hK K
          try simp only [PL]
          refine r1 2 (fun K hK => ?_)
          go_simp
          have no4 : no ≤ 4 := small_len (hE.here.2) (by decide) (by decide)
          have hc := fmake_v (cx := cz) (cy := co) (hE.here.1.1.1.1.1.1.2) (hE.here.2) (by omega) (by omega) (by decide) (by rw [int_low]; exact (fl_le2 (lo_intz Hlz.out (by decide)) (by decide)))
          rw [int_low] at hc
          clear no4
          refine (hc).mono ?_
          rintro e w97 ⟨sp, Ap, np, cp, tp, Bp, mp, dp, rfl, hp, hb⟩
          replace hE := hE.step hb
          clear hb
          replace hE := hE.fv hp
          clear hp
          clear hc
          go_wp2_with fail
          refine hK.out _ _ (hE.here.1.1.1.1.1.1.1.1.1.1.1.1.2.c2) (fun hHeld => ?_)
          clear hK K
          try simp only [PL]
          refine tk 3 ?_
          try simp only [PL]
          refine tk 4 ?_
          try simp only [PL]
          refine tk 5 ?_
          try simp only [PL]
          refine r1 7 (fun K hK => ?_)
          have hgl98 : w.heap.size ≤ g95 := by omega
          obtain ⟨x98_0, x98_1, x98_2, x98_3⟩ := (hE.here.1.1.2).c4
          obtain ⟨f98_0, f98_1, f98_2, f98_3⟩ := hE.here.1.1.2.f4
          replace hE := ((((((((((((((((Env.again (bel4 hE.bel hgl98 (.bool sp) (.slice Ap np cp) (.bool tp) (.slice Bp mp dp))).blkI ((hE.here.1.1.1.1.1.1.1.1.1.1.1.1.1.1.2).far4 (R := g95) (by omega) (.bool sp) (.slice Ap np cp) (.bool tp) (.slice Bp mp dp))).blkI ((hE.here.1.1.1.1.1.1.1.1.1.1.1.1.1.2).far4 (R := g95) (by omega) (.bool sp) (.slice Ap np cp) (.bool tp) (.slice Bp mp dp))).blkI ((hE.here.1.1.1.1.1.1.1.1.1.1.1.1.2).far4 (R := g95) (by omega) (.bool sp) (.slice Ap np cp) (.bool tp) (.slice Bp mp dp))).blkI ((hE.here.1.1.1.1.1.1.1.1.1.1.1.2).far4 (R := g95) (by omega) (.bool sp) (.slice Ap np cp) (.bool tp) (.slice Bp mp dp))).blkI ((hE.here.1.1.1.1.1.1.1.1.1.1.2).far4 (R := g95) (by omega) (.bool sp) (.slice Ap np cp) (.bool tp) (.slice Bp mp dp))).fv ((hE.here.1.1.1.1.1.1.1.1.1.2).sep4 hE.here.1.1.2 rfl (.bool sp) (.slice Ap np cp) (.bool tp) (.slice Bp mp dp) rfl rfl rfl)).fv ((hE.here.1.1.1.1.1.1.1.1.2).sep4 hE.here.1.1.2 rfl (.bool sp) (.slice Ap np cp) (.bool tp) (.slice Bp mp dp) rfl rfl rfl)).wv ((hE.here.1.1.1.1.1.1.1.2).sep4 hE.here.1.1.2 rfl (.bool sp) (.slice Ap np cp) (.bool tp) (.slice Bp mp dp) rfl rfl rfl)).wv ((hE.here.1.1.1.1.1.1.2).sep4 hE.here.1.1.2 rfl (.bool sp) (.slice Ap np cp) (.bool tp) (.slice Bp mp dp) rfl rfl rfl)).wv ((hE.here.1.1.1.1.1.2).sep4 hE.here.1.1.2 rfl (.bool sp) (.slice Ap np cp) (.bool tp) (.slice Bp mp dp) rfl rfl rfl)).fv ((hE.here.1.1.1.1.2).sep4 hE.here.1.1.2 rfl (.bool sp) (.slice Ap np cp) (.bool tp) (.slice Bp mp dp) rfl rfl rfl)).blkI ((hE.here.1.1.1.2).far4 (R := g95) (by omega) (.bool sp) (.slice Ap np cp) (.bool tp) (.slice Bp mp dp))).blkI ((hE.here.1.1.2).s4 (.bool sp) (.slice Ap np cp) (.bool tp) (.slice Bp mp dp))).wv ((hE.here.1.2).sep4 hE.here.1.1.2 rfl (.bool sp) (.slice Ap np cp) (.bool tp) (.slice Bp mp dp) rfl rfl rfl)).fv ((hE.here.2).sep4 hE.here.1.1.2 rfl (.bool sp) (.slice Ap np cp) (.bool tp) (.slice Bp mp dp) rfl rfl rfl))
          go_simp
          clear x98_0 x98_1 x98_2 x98_3 f98_0 f98_1 f98_2 f98_3 hgl98
          generalize ((((w97.setCell ⟨g95, 0, none⟩ (.bool sp)).setCell ⟨g95, 1, none⟩ (.slice Ap np cp)).setCell ⟨g95, 2, none⟩ (.bool tp)).setCell ⟨g95, 3, none⟩ (.slice Bp mp dp)) = W98 at hE ⊢
          refine hK.out _ _ (hE.here.1.1.1.1.1.1.1.1.1.1.1.1.2.c2) (fun hHeld => ?_)
          clear hK K
          try simp only [PL]
          refine tk 8 ?_
          try simp only [PL]
          refine wpAnyH_done (by kernel_rfl) ?_ _
          go_wp2_with fail
          go_meet
          exact ⟨g95, sp, Ap, np, cp, tp, Bp, mp, dp, rfl, rfl, (((((((((((((((Env.again hE.bel).blkI (hE.here.1.1.1.1.1.1.1.1.1.1.1.1.1.1.2)).blkI (hE.here.1.1.1.1.1.1.1.1.1.1.1.1.1.2)).blkI (hE.here.1.1.1.1.1.1.1.1.1.1.1.1.2)).blkI (hE.here.1.1.1.1.1.1.1.1.1.1.1.2)).blkI (hE.here.1.1.1.1.1.1.1.1.1.1.2)).fv (hE.here.1.1.1.1.1.1.1.1.1.2)).fv (hE.here.1.1.1.1.1.1.1.1.2)).wv (hE.here.1.1.1.1.1.1.1.2)).wv (hE.here.1.1.1.1.1.1.2)).wv (hE.here.1.1.1.1.1.2)).fv (hE.here.1.1.1.1.2)).blkI (hE.here.1.1.1.2)).fv (hE.here.2)).blkI (hE.here.1.1.2))⟩
      case rest =>
      clear hE
      obtain ⟨G10, sp, Ap, np, cp, tp, Bp, mp, dp, rfl, rfl, hE⟩ := hcut
      generalize wc = wk10 at hE ⊢
      go_upto_region 11 with (fail)
      go_cut [15, 16] from 119 to 125 (fun p q wx => ∃ G11 sr Ar nr cr tr Br mr dr, p = .pointer (some ⟨G11, 0, none⟩) ∧ q = .int .i64 0 ∧ Env w (fun V => ((((((((((((((((True ∧ Blk 26 (w.heap.size) #[.bool sa, .slice Aa na ca, .bool ta, .slice Ba ma da] V) ∧ Blk 26 (w.heap.size + 1) #[.bool sb, .slice Ab nb cb, .bool tb, .slice Bb mb db] V) ∧ Blk 24 (w.heap.size + 1 + 1) #[.bool sz, .slice Az nz cz] V) ∧ Blk 24 (w.heap.size + 1 + 1 + 1) #[.bool sy, .slice Ay ny cy] V) ∧ Blk 24 (w.heap.size + 1 + 1 + 1 + 1) #[.bool sx, .slice Ax nx cx] V) ∧ FV V a sa Aa na ta Ba ma) ∧ FV V b sb Ab nb tb Bb mb) ∧ WV V z sz Az nz) ∧ WV V y sy Ay ny) ∧ WV V x sx Ax nx) ∧ FV V (Rat.divInt z y) sq Aq nq tq Bq mq) ∧ Blk 26 (g85) #[.bool sq, .slice Aq nq cq, .bool tq, .slice Bq mq dq] V) ∧ FV V ((z : Int) : Rat) sp Ap np tp Bp mp) ∧ Blk 26 (G10) #[.bool sp, .slice Ap np cp, .bool tp, .slice Bp mp dp] V) ∧ FV V ((y : Int) : Rat) sr Ar nr tr Br mr) ∧ Blk 26 (G11) #[.bool sr, .slice Ar nr cr, .bool tr, .slice Br mr dr] V)) wx)
      case first =>
        replace hE := hE.drew
        refine wp_region_held_drew (S := fun w' => w'.cell? ⟨w.heap.size + 1 + 1 + 1, 0, none⟩ = some (.bool sy) ∧ w'.cell? ⟨w.heap.size + 1 + 1 + 1, 1, none⟩ = some (.slice Ay ny cy)) (by kernel_rfl) (hE.here.1.1.1.1.1.1.1.1.1.1.2.c2) (fun hHeld => ?_)
        generalize wk10.drew = wd at *
        refine tk 0 ?_
        try simp only [PL]
        refine wpAnyH_ready (rs := [1, 6]) (by kernel_rfl) (by simp) (AllReadyH.cons rfl (fun K hK => ?_) (AllReadyH.cons rfl (fun K hK => ?_) (AllReadyH.nil)))
        · skip
          go_simp
          refine (rfromInt_v 1 _ (by decide) (by decide)).mono ?_
          rintro e w99 ⟨so, Ao, no, co, rfl, ho, hb⟩
          replace hE := hE.step hb
          clear hb
          replace hE := hE.wv ho
          clear ho
          go_wp2_with fail
          refine hK.out _ _ (hE.here.1.1.1.1.1.1.1.1.1.1.1.2.c2) (fun hHeld => ?_)
          clear hK K
          try simp only [PL]
          refine wpAnyH_ready (rs := [2, 6]) (by kernel_rfl) (by simp) (AllReadyH.cons rfl (fun K hK => ?_) (AllReadyH.cons rfl (fun K hK => ?_) (AllReadyH.nil)))
          · skip
            go_simp
            have no4 : no ≤ 4 := small_len (hE.here.2) (by decide) (by decide)
            have hc := fmake_v (cx := cy) (cy := co) (hE.here.1.1.1.1.1.1.2) (hE.here.2) (by omega) (by omega) (by decide) (by rw [int_low]; exact (fl_le2 (lo_intz Hly.out (by decide)) (by decide)))
            rw [int_low] at hc
            clear no4
            refine (hc).mono ?_
            rintro e w100 ⟨sr, Ar, nr, cr, tr, Br, mr, dr, rfl, hr, hb⟩
            replace hE := hE.step hb
            clear hb
            replace hE := hE.fv hr
            clear hr
            clear hc
            go_wp2_with fail
            refine hK.out _ _ (hE.here.1.1.1.1.1.1.1.1.1.1.1.1.2.c2) (fun hHeld => ?_)
            clear hK K
            try simp only [PL]
            refine tk 3 ?_
            try simp only [PL]
            refine tk 4 ?_
            try simp only [PL]
            refine tk 5 ?_
            try simp only [PL]
            refine r1 6 (fun K hK => ?_)
            go_simp
            obtain ⟨g101, hg101⟩ : ∃ g101, g101 = w100.heap.size := ⟨_, rfl⟩
            have hl101_0 : w.heap.size < g101 := by rw [hg101]; exact (hE.here.1.1.1.1.1.1.1.1.1.1.1.1.1.1.1.2).lt
            have hl101_1 : w.heap.size + 1 < g101 := by rw [hg101]; exact (hE.here.1.1.1.1.1.1.1.1.1.1.1.1.1.1.2).lt
            have hl101_2 : w.heap.size + 1 + 1 < g101 := by rw [hg101]; exact (hE.here.1.1.1.1.1.1.1.1.1.1.1.1.1.2).lt
            have hl101_3 : w.heap.size + 1 + 1 + 1 < g101 := by rw [hg101]; exact (hE.here.1.1.1.1.1.1.1.1.1.1.1.1.2).lt
            have hl101_4 : w.heap.size + 1 + 1 + 1 + 1 < g101 := by rw [hg101]; exact (hE.here.1.1.1.1.1.1.1.1.1.1.1.2).lt
            have hl101_11 : g85 < g101 := by rw [hg101]; exact (hE.here.1.1.1.1.2).lt
            have hl101_13 : G10 < g101 := by rw [hg101]; exact (hE.here.1.1.2).lt
            replace hE := hE.blk 26 #[.bool false, .slice none 0 0, .bool false, .slice none 0 0] (g := g101) hg101.symm
            generalize w100.alloc (.cells #[.bool false, .slice none 0 0, .bool false, .slice none 0 0] 26) = W101 at hE ⊢
            rw [← hg101]
            clear hg101
            refine hK.out _ _ (hE.here.1.1.1.1.1.1.1.1.1.1.1.1.1.2.c2) (fun hHeld => ?_)
            clear hK K
            try simp only [PL]
            refine r1 7 (fun K hK => ?_)
            have hgl102 : w.heap.size ≤ g101 := by omega
            obtain ⟨x102_0, x102_1, x102_2, x102_3⟩ := (hE.here.2).c4
            obtain ⟨f102_0, f102_1, f102_2, f102_3⟩ := hE.here.2.f4
            replace hE := ((((((((((((((((((Env.again (bel4 hE.bel hgl102 (.bool sr) (.slice Ar nr cr) (.bool tr) (.slice Br mr dr))).blkI ((hE.here.1.1.1.1.1.1.1.1.1.1.1.1.1.1.1.1.2).far4 (R := g101) (by omega) (.bool sr) (.slice Ar nr cr) (.bool tr) (.slice Br mr dr))).blkI ((hE.here.1.1.1.1.1.1.1.1.1.1.1.1.1.1.1.2).far4 (R := g101) (by omega) (.bool sr) (.slice Ar nr cr) (.bool tr) (.slice Br mr dr))).blkI ((hE.here.1.1.1.1.1.1.1.1.1.1.1.1.1.1.2).far4 (R := g101) (by omega) (.bool sr) (.slice Ar nr cr) (.bool tr) (.slice Br mr dr))).blkI ((hE.here.1.1.1.1.1.1.1.1.1.1.1.1.1.2).far4 (R := g101) (by omega) (.bool sr) (.slice Ar nr cr) (.bool tr) (.slice Br mr dr))).blkI ((hE.here.1.1.1.1.1.1.1.1.1.1.1.1.2).far4 (R := g101) (by omega) (.bool sr) (.slice Ar nr cr) (.bool tr) (.slice Br mr dr))).fv ((hE.here.1.1.1.1.1.1.1.1.1.1.1.2).sep4 hE.here.2 rfl (.bool sr) (.slice Ar nr cr) (.bool tr) (.slice Br mr dr) rfl rfl rfl)).fv ((hE.here.1.1.1.1.1.1.1.1.1.1.2).sep4 hE.here.2 rfl (.bool sr) (.slice Ar nr cr) (.bool tr) (.slice Br mr dr) rfl rfl rfl)).wv ((hE.here.1.1.1.1.1.1.1.1.1.2).sep4 hE.here.2 rfl (.bool sr) (.slice Ar nr cr) (.bool tr) (.slice Br mr dr) rfl rfl rfl)).wv ((hE.here.1.1.1.1.1.1.1.1.2).sep4 hE.here.2 rfl (.bool sr) (.slice Ar nr cr) (.bool tr) (.slice Br mr dr) rfl rfl rfl)).wv ((hE.here.1.1.1.1.1.1.1.2).sep4 hE.here.2 rfl (.bool sr) (.slice Ar nr cr) (.bool tr) (.slice Br mr dr) rfl rfl rfl)).fv ((hE.here.1.1.1.1.1.1.2).sep4 hE.here.2 rfl (.bool sr) (.slice Ar nr cr) (.bool tr) (.slice Br mr dr) rfl rfl rfl)).blkI ((hE.here.1.1.1.1.1.2).far4 (R := g101) (by omega) (.bool sr) (.slice Ar nr cr) (.bool tr) (.slice Br mr dr))).fv ((hE.here.1.1.1.1.2).sep4 hE.here.2 rfl (.bool sr) (.slice Ar nr cr) (.bool tr) (.slice Br mr dr) rfl rfl rfl)).blkI ((hE.here.1.1.1.2).far4 (R := g101) (by omega) (.bool sr) (.slice Ar nr cr) (.bool tr) (.slice Br mr dr))).wv ((hE.here.1.1.2).sep4 hE.here.2 rfl (.bool sr) (.slice Ar nr cr) (.bool tr) (.slice Br mr dr) rfl rfl rfl)).fv ((hE.here.1.2).sep4 hE.here.2 rfl (.bool sr) (.slice Ar nr cr) (.bool tr) (.slice Br mr dr) rfl rfl rfl)).blkI ((hE.here.2).s4 (.bool sr) (.slice Ar nr cr) (.bool tr) (.slice Br mr dr)))
            go_simp
            clear x102_0 x102_1 x102_2 x102_3 f102_0 f102_1 f102_2 f102_3 hgl102
            generalize ((((W101.setCell ⟨g101, 0, none⟩ (.bool sr)).setCell ⟨g101, 1, none⟩ (.slice Ar nr cr)).setCell ⟨g101, 2, none⟩ (.bool tr)).setCell ⟨g101, 3, none⟩ (.slice Br mr dr)) = W102 at hE ⊢
            refine hK.out _ _ (hE.here.1.1.1.1.1.1.1.1.1.1.1.1.1.2.c2) (fun hHeld => ?_)
            clear hK K
            try simp only [PL]
            refine tk 8 ?_
            try simp only [PL]
            refine wpAnyH_done (by kernel_rfl) ?_ _
            go_wp2_with fail
            go_meet
            exact ⟨g101, sr, Ar, nr, cr, tr, Br, mr, dr, rfl, rfl, (((((((((((((((((Env.again hE.bel).blkI (hE.here.1.1.1.1.1.1.1.1.1.1.1.1.1.1.1.1.2)).blkI (hE.here.1.1.1.1.1.1.1.1.1.1.1.1.1.1.1.2)).blkI (hE.here.1.1.1.1.1.1.1.1.1.1.1.1.1.1.2)).blkI (hE.here.1.1.1.1.1.1.1.1.1.1.1.1.1.2)).blkI (hE.here.1.1.1.1.1.1.1.1.1.1.1.1.2)).fv (hE.here.1.1.1.1.1.1.1.1.1.1.1.2)).fv (hE.here.1.1.1.1.1.1.1.1.1.1.2)).wv (hE.here.1.1.1.1.1.1.1.1.1.2)).wv (hE.here.1.1.1.1.1.1.1.1.2)).wv (hE.here.1.1.1.1.1.1.1.2)).fv (hE.here.1.1.1.1.1.1.2)).blkI (hE.here.1.1.1.1.1.2)).fv (hE.here.1.1.1.1.2)).blkI (hE.here.1.1.1.2)).fv (hE.here.1.2)).blkI (hE.here.2))⟩
          · skip
            go_simp
            obtain ⟨g103, hg103⟩ : ∃ g103, g103 = w99.heap.size := ⟨_, rfl⟩
            have hl103_0 : w.heap.size < g103 := by rw [hg103]; exact (hE.here.1.1.1.1.1.1.1.1.1.1.1.1.1.1.2).lt
            have hl103_1 : w.heap.size + 1 < g103 := by rw [hg103]; exact (hE.here.1.1.1.1.1.1.1.1.1.1.1.1.1.2).lt
            have hl103_2 : w.heap.size + 1 + 1 < g103 := by rw [hg103]; exact (hE.here.1.1.1.1.1.1.1.1.1.1.1.1.2).lt
            have hl103_3 : w.heap.size + 1 + 1 + 1 < g103 := by rw [hg103]; exact (hE.here.1.1.1.1.1.1.1.1.1.1.1.2).lt
            have hl103_4 : w.heap.size + 1 + 1 + 1 + 1 < g103 := by rw [hg103]; exact (hE.here.1.1.1.1.1.1.1.1.1.1.2).lt
            have hl103_11 : g85 < g103 := by rw [hg103]; exact (hE.here.1.1.1.2).lt
            have hl103_13 : G10 < g103 := by rw [hg103]; exact (hE.here.1.2).lt
            replace hE := hE.blk 26 #[.bool false, .slice none 0 0, .bool false, .slice none 0 0] (g := g103) hg103.symm
            generalize w99.alloc (.cells #[.bool false, .slice none 0 0, .bool false, .slice none 0 0] 26) = W103 at hE ⊢
            rw [← hg103]
            clear hg103
            refine hK.out _ _ (hE.here.1.1.1.1.1.1.1.1.1.1.1.1.2.c2) (fun hHeld => ?_)
            clear hK K
            try simp only [PL]
            refine r1 2 (fun K hK => ?_)
            go_simp
            have no4 : no ≤ 4 := small_len (hE.here.1.2) (by decide) (by decide)
            have hc := fmake_v (cx := cy) (cy := co) (hE.here.1.1.1.1.1.1.1.2) (hE.here.1.2) (by omega) (by omega) (by decide) (by rw [int_low]; exact (fl_le2 (lo_intz Hly.out (by decide)) (by decide)))
            rw [int_low] at hc
            clear no4
            refine (hc).mono ?_
            rintro e w104 ⟨sr, Ar, nr, cr, tr, Br, mr, dr, rfl, hr, hb⟩
            replace hE := hE.step hb
            clear hb
            replace hE := hE.fv hr
            clear hr
            clear hc
            go_wp2_with fail
            refine hK.out _ _ (hE.here.1.1.1.1.1.1.1.1.1.1.1.1.1.2.c2) (fun hHeld => ?_)
            clear hK K
            try simp only [PL]
            refine tk 3 ?_
            try simp only [PL]
            refine tk 4 ?_
            try simp only [PL]
            refine tk 5 ?_
            try simp only [PL]
            refine r1 7 (fun K hK => ?_)
            have hgl105 : w.heap.size ≤ g103 := by omega
            obtain ⟨x105_0, x105_1, x105_2, x105_3⟩ := (hE.here.1.2).c4
            obtain ⟨f105_0, f105_1, f105_2, f105_3⟩ := hE.here.1.2.f4
            replace hE := ((((((((((((((((((Env.again (bel4 hE.bel hgl105 (.bool sr) (.slice Ar nr cr) (.bool tr) (.slice Br mr dr))).blkI ((hE.here.1.1.1.1.1.1.1.1.1.1.1.1.1.1.1.1.2).far4 (R := g103) (by omega) (.bool sr) (.slice Ar nr cr) (.bool tr) (.slice Br mr dr))).blkI ((hE.here.1.1.1.1.1.1.1.1.1.1.1.1.1.1.1.2).far4 (R := g103) (by omega) (.bool sr) (.slice Ar nr cr) (.bool tr) (.slice Br mr dr))).blkI ((hE.here.1.1.1.1.1.1.1.1.1.1.1.1.1.1.2).far4 (R := g103) (by omega) (.bool sr) (.slice Ar nr cr) (.bool tr) (.slice Br mr dr))).blkI ((hE.here.1.1.1.1.1.1.1.1.1.1.1.1.1.2).far4 (R := g103) (by omega) (.bool sr) (.slice Ar nr cr) (.bool tr) (.slice Br mr dr))).blkI ((hE.here.1.1.1.1.1.1.1.1.1.1.1.1.2).far4 (R := g103) (by omega) (.bool sr) (.slice Ar nr cr) (.bool tr) (.slice Br mr dr))).fv ((hE.here.1.1.1.1.1.1.1.1.1.1.1.2).sep4 hE.here.1.2 rfl (.bool sr) (.slice Ar nr cr) (.bool tr) (.slice Br mr dr) rfl rfl rfl)).fv ((hE.here.1.1.1.1.1.1.1.1.1.1.2).sep4 hE.here.1.2 rfl (.bool sr) (.slice Ar nr cr) (.bool tr) (.slice Br mr dr) rfl rfl rfl)).wv ((hE.here.1.1.1.1.1.1.1.1.1.2).sep4 hE.here.1.2 rfl (.bool sr) (.slice Ar nr cr) (.bool tr) (.slice Br mr dr) rfl rfl rfl)).wv ((hE.here.1.1.1.1.1.1.1.1.2).sep4 hE.here.1.2 rfl (.bool sr) (.slice Ar nr cr) (.bool tr) (.slice Br mr dr) rfl rfl rfl)).wv ((hE.here.1.1.1.1.1.1.1.2).sep4 hE.here.1.2 rfl (.bool sr) (.slice Ar nr cr) (.bool tr) (.slice Br mr dr) rfl rfl rfl)).fv ((hE.here.1.1.1.1.1.1.2).sep4 hE.here.1.2 rfl (.bool sr) (.slice Ar nr cr) (.bool tr) (.slice Br mr dr) rfl rfl rfl)).blkI ((hE.here.1.1.1.1.1.2).far4 (R := g103) (by omega) (.bool sr) (.slice Ar nr cr) (.bool tr) (.slice Br mr dr))).fv ((hE.here.1.1.1.1.2).sep4 hE.here.1.2 rfl (.bool sr) (.slice Ar nr cr) (.bool tr) (.slice Br mr dr) rfl rfl rfl)).blkI ((hE.here.1.1.1.2).far4 (R := g103) (by omega) (.bool sr) (.slice Ar nr cr) (.bool tr) (.slice Br mr dr))).wv ((hE.here.1.1.2).sep4 hE.here.1.2 rfl (.bool sr) (.slice Ar nr cr) (.bool tr) (.slice Br mr dr) rfl rfl rfl)).blkI ((hE.here.1.2).s4 (.bool sr) (.slice Ar nr cr) (.bool tr) (.slice Br mr dr))).fv ((hE.here.2).sep4 hE.here.1.2 rfl (.bool sr) (.slice Ar nr cr) (.bool tr) (.slice Br mr dr) rfl rfl rfl))
            go_simp
            clear x105_0 x105_1 x105_2 x105_3 f105_0 f105_1 f105_2 f105_3 hgl105
            generalize ((((w104.setCell ⟨g103, 0, none⟩ (.bool sr)).setCell ⟨g103, 1, none⟩ (.slice Ar nr cr)).setCell ⟨g103, 2, none⟩ (.bool tr)).setCell ⟨g103, 3, none⟩ (.slice Br mr dr)) = W105 at hE ⊢
            refine hK.out _ _ (hE.here.1.1.1.1.1.1.1.1.1.1.1.1.1.2.c2) (fun hHeld => ?_)
            clear hK K
            try simp only [PL]
            refine tk 8 ?_
            try simp only [PL]
            refine wpAnyH_done (by kernel_rfl) ?_ _
            go_wp2_with fail
            go_meet
            exact ⟨g103, sr, Ar, nr, cr, tr, Br, mr, dr, rfl, rfl, (((((((((((((((((Env.again hE.bel).blkI (hE.here.1.1.1.1.1.1.1.1.1.1.1.1.1.1.1.1.2)).blkI (hE.here.1.1.1.1.1.1.1.1.1.1.1.1.1.1.1.2)).blkI (hE.here.1.1.1.1.1.1.1.1.1.1.1.1.1.1.2)).blkI (hE.here.1.1.1.1.1.1.1.1.1.1.1.1.1.2)).blkI (hE.here.1.1.1.1.1.1.1.1.1.1.1.1.2)).fv (hE.here.1.1.1.1.1.1.1.1.1.1.1.2)).fv (hE.here.1.1.1.1.1.1.1.1.1.1.2)).wv (hE.here.1.1.1.1.1.1.1.1.1.2)).wv (hE.here.1.1.1.1.1.1.1.1.2)).wv (hE.here.1.1.1.1.1.1.1.2)).fv (hE.here.1.1.1.1.1.1.2)).blkI (hE.here.1.1.1.1.1.2)).fv (hE.here.1.1.1.1.2)).blkI (hE.here.1.1.1.2)).fv (hE.here.2)).blkI (hE.here.1.2))⟩
        · skip
          go_simp
          obtain ⟨g106, hg106⟩ : ∃ g106, g106 = wd.heap.size := ⟨_, rfl⟩
          have hl106_0 : w.heap.size < g106 := by rw [hg106]; exact (hE.here.1.1.1.1.1.1.1.1.1.1.1.1.1.2).lt
          have hl106_1 : w.heap.size + 1 < g106 := by rw [hg106]; exact (hE.here.1.1.1.1.1.1.1.1.1.1.1.1.2).lt
          have hl106_2 : w.heap.size + 1 + 1 < g106 := by rw [hg106]; exact (hE.here.1.1.1.1.1.1.1.1.1.1.1.2).lt
          have hl106_3 : w.heap.size + 1 + 1 + 1 < g106 := by rw [hg106]; exact (hE.here.1.1.1.1.1.1.1.1.1.1.2).lt
          have hl106_4 : w.heap.size + 1 + 1 + 1 + 1 < g106 := by rw [hg106]; exact (hE.here.1.1.1.1.1.1.1.1.1.2).lt
          have hl106_11 : g85 < g106 := by rw [hg106]; exact (hE.here.1.1.2).lt
          have hl106_13 : G10 < g106 := by rw [hg106]; exact (hE.here.2).lt
          replace hE := hE.blk 26 #[.bool false, .slice none 0 0, .bool false, .slice none 0 0] (g := g106) hg106.symm
          generalize wd.alloc (.cells #[.bool false, .slice none 0 0, .bool false, .slice none 0 0] 26) = W106 at hE ⊢
          rw [← hg106]
          clear hg106
          refine hK.out _ _ (hE.here.1.1.1.1.1.1.1.1.1.1.1.2.c2) (fun hHeld => ?_)
          clear hK K
          try simp only [PL]
          refine r1 1 (fun K hK => ?_)
          go_simp
          refine (rfromInt_v 1 _ (by decide) (by decide)).mono ?_
          rintro e w107 ⟨so, Ao, no, co, rfl, ho, hb⟩
          replace hE := hE.step hb
          clear hb
          replace hE := hE.wv ho
          clear ho
          go_wp2_with fail
          refine hK.out _ _ (hE.here.1.1.1.1.1.1.1.1.1.1.1.1.2.c2) (fun hHeld => ?_)
          clear hK K
          try simp only [PL]
          refine r1 2 (fun K hK => ?_)
          go_simp
          have no4 : no ≤ 4 := small_len (hE.here.2) (by decide) (by decide)
          have hc := fmake_v (cx := cy) (cy := co) (hE.here.1.1.1.1.1.1.1.2) (hE.here.2) (by omega) (by omega) (by decide) (by rw [int_low]; exact (fl_le2 (lo_intz Hly.out (by decide)) (by decide)))
          rw [int_low] at hc
          clear no4
          refine (hc).mono ?_
          rintro e w108 ⟨sr, Ar, nr, cr, tr, Br, mr, dr, rfl, hr, hb⟩
          replace hE := hE.step hb
          clear hb
          replace hE := hE.fv hr
          clear hr
          clear hc
          go_wp2_with fail
          refine hK.out _ _ (hE.here.1.1.1.1.1.1.1.1.1.1.1.1.1.2.c2) (fun hHeld => ?_)
          clear hK K
          try simp only [PL]
          refine tk 3 ?_
          try simp only [PL]
          refine tk 4 ?_
          try simp only [PL]
          refine tk 5 ?_
          try simp only [PL]
          refine r1 7 (fun K hK => ?_)
          have hgl109 : w.heap.size ≤ g106 := by omega
          obtain ⟨x109_0, x109_1, x109_2, x109_3⟩ := (hE.here.1.1.2).c4
          obtain ⟨f109_0, f109_1, f109_2, f109_3⟩ := hE.here.1.1.2.f4
          replace hE := ((((((((((((((((((Env.again (bel4 hE.bel hgl109 (.bool sr) (.slice Ar nr cr) (.bool tr) (.slice Br mr dr))).blkI ((hE.here.1.1.1.1.1.1.1.1.1.1.1.1.1.1.1.1.2).far4 (R := g106) (by omega) (.bool sr) (.slice Ar nr cr) (.bool tr) (.slice Br mr dr))).blkI ((hE.here.1.1.1.1.1.1.1.1.1.1.1.1.1.1.1.2).far4 (R := g106) (by omega) (.bool sr) (.slice Ar nr cr) (.bool tr) (.slice Br mr dr))).blkI ((hE.here.1.1.1.1.1.1.1.1.1.1.1.1.1.1.2).far4 (R := g106) (by omega) (.bool sr) (.slice Ar nr cr) (.bool tr) (.slice Br mr dr))).blkI ((hE.here.1.1.1.1.1.1.1.1.1.1.1.1.1.2).far4 (R := g106) (by omega) (.bool sr) (.slice Ar nr cr) (.bool tr) (.slice Br mr dr))).blkI ((hE.here.1.1.1.1.1.1.1.1.1.1.1.1.2).far4 (R := g106) (by omega) (.bool sr) (.slice Ar nr cr) (.bool tr) (.slice Br mr dr))).fv ((hE.here.1.1.1.1.1.1.1.1.1.1.1.2).sep4 hE.here.1.1.2 rfl (.bool sr) (.slice Ar nr cr) (.bool tr) (.slice Br mr dr) rfl rfl rfl)).fv ((hE.here.1.1.1.1.1.1.1.1.1.1.2).sep4 hE.here.1.1.2 rfl (.bool sr) (.slice Ar nr cr) (.bool tr) (.slice Br mr dr) rfl rfl rfl)).wv ((hE.here.1.1.1.1.1.1.1.1.1.2).sep4 hE.here.1.1.2 rfl (.bool sr) (.slice Ar nr cr) (.bool tr) (.slice Br mr dr) rfl rfl rfl)).wv ((hE.here.1.1.1.1.1.1.1.1.2).sep4 hE.here.1.1.2 rfl (.bool sr) (.slice Ar nr cr) (.bool tr) (.slice Br mr dr) rfl rfl rfl)).wv ((hE.here.1.1.1.1.1.1.1.2).sep4 hE.here.1.1.2 rfl (.bool sr) (.slice Ar nr cr) (.bool tr) (.slice Br mr dr) rfl rfl rfl)).fv ((hE.here.1.1.1.1.1.1.2).sep4 hE.here.1.1.2 rfl (.bool sr) (.slice Ar nr cr) (.bool tr) (.slice Br mr dr) rfl rfl rfl)).blkI ((hE.here.1.1.1.1.1.2).far4 (R := g106) (by omega) (.bool sr) (.slice Ar nr cr) (.bool tr) (.slice Br mr dr))).fv ((hE.here.1.1.1.1.2).sep4 hE.here.1.1.2 rfl (.bool sr) (.slice Ar nr cr) (.bool tr) (.slice Br mr dr) rfl rfl rfl)).blkI ((hE.here.1.1.1.2).far4 (R := g106) (by omega) (.bool sr) (.slice Ar nr cr) (.bool tr) (.slice Br mr dr))).blkI ((hE.here.1.1.2).s4 (.bool sr) (.slice Ar nr cr) (.bool tr) (.slice Br mr dr))).wv ((hE.here.1.2).sep4 hE.here.1.1.2 rfl (.bool sr) (.slice Ar nr cr) (.bool tr) (.slice Br mr dr) rfl rfl rfl)).fv ((hE.here.2).sep4 hE.here.1.1.2 rfl (.bool sr) (.slice Ar nr cr) (.bool tr) (.slice Br mr dr) rfl rfl rfl))
          go_simp
          clear x109_0 x109_1 x109_2 x109_3 f109_0 f109_1 f109_2 f109_3 hgl109
          generalize ((((w108.setCell ⟨g106, 0, none⟩ (.bool sr)).setCell ⟨g106, 1, none⟩ (.slice Ar nr cr)).setCell ⟨g106, 2, none⟩ (.bool tr)).setCell ⟨g106, 3, none⟩ (.slice Br mr dr)) = W109 at hE ⊢
          refine hK.out _ _ (hE.here.1.1.1.1.1.1.1.1.1.1.1.1.1.2.c2) (fun hHeld => ?_)
          clear hK K
          try simp only [PL]
          refine tk 8 ?_
          try simp only [PL]
          refine wpAnyH_done (by kernel_rfl) ?_ _
          go_wp2_with fail
          go_meet
          exact ⟨g106, sr, Ar, nr, cr, tr, Br, mr, dr, rfl, rfl, (((((((((((((((((Env.again hE.bel).blkI (hE.here.1.1.1.1.1.1.1.1.1.1.1.1.1.1.1.1.2)).blkI (hE.here.1.1.1.1.1.1.1.1.1.1.1.1.1.1.1.2)).blkI (hE.here.1.1.1.1.1.1.1.1.1.1.1.1.1.1.2)).blkI (hE.here.1.1.1.1.1.1.1.1.1.1.1.1.1.2)).blkI (hE.here.1.1.1.1.1.1.1.1.1.1.1.1.2)).fv (hE.here.1.1.1.1.1.1.1.1.1.1.1.2)).fv (hE.here.1.1.1.1.1.1.1.1.1.1.2)).wv (hE.here.1.1.1.1.1.1.1.1.1.2)).wv (hE.here.1.1.1.1.1.1.1.1.2)).wv (hE.here.1.1.1.1.1.1.1.2)).fv (hE.here.1.1.1.1.1.1.2)).blkI (hE.here.1.1.1.1.1.2)).fv (hE.here.1.1.1.1.2)).blkI (hE.here.1.1.1.2)).fv (hE.here.2)).blkI (hE.here.1.1.2))⟩
      case rest =>
      clear hE
      obtain ⟨G11, sr, Ar, nr, cr, tr, Br, mr, dr, rfl, rfl, hE⟩ := hcut
      generalize wc = wk11 at hE ⊢
      go_upto_region 12 with (fail)
      replace hE := hE.drew
      refine wp_region_held_drew (S := fun w' => w'.cell? ⟨g85, 0, none⟩ = some (.bool sq) ∧ w'.cell? ⟨g85, 1, none⟩ = some (.slice Aq nq cq) ∧ w'.cell? ⟨g85, 2, none⟩ = some (.bool tq) ∧ w'.cell? ⟨g85, 3, none⟩ = some (.slice Bq mq dq) ∧ w'.cell? ⟨G10, 0, none⟩ = some (.bool sp) ∧ w'.cell? ⟨G10, 1, none⟩ = some (.slice Ap np cp) ∧ w'.cell? ⟨G10, 2, none⟩ = some (.bool tp) ∧ w'.cell? ⟨G10, 3, none⟩ = some (.slice Bp mp dp) ∧ w'.cell? ⟨G11, 0, none⟩ = some (.bool sr) ∧ w'.cell? ⟨G11, 1, none⟩ = some (.slice Ar nr cr) ∧ w'.cell? ⟨G11, 2, none⟩ = some (.bool tr) ∧ w'.cell? ⟨G11, 3, none⟩ = some (.slice Br mr dr)) (by kernel_rfl) (hE.here.1.1.1.1.2.j4 (hE.here.1.1.2.j4 hE.here.2.c4)) (fun hHeld => ?_)
      refine tk 0 ?_
      try simp only [PL]
      refine tk 1 ?_
      try simp only [PL]
      refine tk 2 ?_
      try simp only [PL]
      refine tk 3 ?_
      try simp only [PL]
      refine tk 4 ?_
      try simp only [PL]
      refine tk 5 ?_
      try simp only [PL]
      refine r1 6 (fun K hK => ?_)
      go_simp
      refine (lw_over (ca := cp) (da := dp) (cb := cr) (db := dr) (hE.here.1.1.1.2) (hE.here.1.2) (fl_le2 (lo_intz Hlz.out (by decide)) (by decide)) (fl_le2 (lo_intz Hly.out (by decide)) (by decide)) (by rw [(int_num _).1]; exact Hhd.out) (fl_le2 (by rw [← divInt_q]; exact lq : fl (((z : Int) : Rat) / ((y : Int) : Rat)) ≤ 40) (by decide))).mono ?_
      rintro e w110 ⟨sv, Av, nv, cv, tv, Bv, mv, dv, rfl, hv, hb⟩
      replace hE := hE.step hb
      clear hb
      replace hE := hE.fv hv
      clear hv
      go_wp2_with fail
      refine hK.out _ _ (hE.here.1.1.1.1.1.2.j4 (hE.here.1.1.1.2.j4 hE.here.1.2.c4)) (fun hHeld => ?_)
      clear hK K
      try simp only [PL]
      refine r1 7 (fun K hK => ?_)
      go_simp
      refine (lw_equal (v := true) (ca := cq) (da := dq) (cb := cv) (db := dv) (hE.here.1.1.1.1.1.1.2) (hE.here.2) (fl_le2 lq (by decide)) (fl_le2 (by rw [← divInt_q]; exact lq : fl (((z : Int) : Rat) / ((y : Int) : Rat)) ≤ 40) (by decide)) (decide_eq_true (divInt_q z y))).mono ?_
      rintro e w111 ⟨rfl, hb⟩
      replace hE := hE.step hb
      clear hb
      go_wp2_with fail
      refine hK.out _ _ (hE.here.1.1.1.1.1.2.j4 (hE.here.1.1.1.2.j4 hE.here.1.2.c4)) (fun hHeld => ?_)
      clear hK K
      try simp only [PL]
      refine tk 8 ?_
      try simp only [PL]
      refine tk 9 ?_
      try simp only [PL]
      refine wpAnyH_done (by kernel_rfl) ?_ _
      go_upto_region 14 with (fail)
      replace hE := (((((((((((((((((Env.again hE.bel).blkI hE.here.1.1.1.1.1.1.1.1.1.1.1.1.1.1.1.1.2).blkI hE.here.1.1.1.1.1.1.1.1.1.1.1.1.1.1.1.2).blkI hE.here.1.1.1.1.1.1.1.1.1.1.1.1.1.1.2).blkI hE.here.1.1.1.1.1.1.1.1.1.1.1.1.1.2).blkI hE.here.1.1.1.1.1.1.1.1.1.1.1.1.2).fv hE.here.1.1.1.1.1.1.1.1.1.1.1.2).fv hE.here.1.1.1.1.1.1.1.1.1.1.2).wv hE.here.1.1.1.1.1.1.1.1.1.2).wv hE.here.1.1.1.1.1.1.1.1.2).wv hE.here.1.1.1.1.1.1.1.2).fv hE.here.1.1.1.1.1.1.2).blkI hE.here.1.1.1.1.1.2).fv hE.here.1.1.1.1.2).blkI hE.here.1.1.1.2).fv hE.here.1.1.2).blkI hE.here.1.2)
      by_cases hnx : nx = 0
      · subst hnx
        obtain ⟨k112, k113⟩ := (hE.here.1.1.1.1.1.1.1.1.1.1.1.2).c2
        go_wp2_with fail
        go_ret
        exact ⟨rfl, hE.bel⟩
      · have t3 : ((nx : Int) == 0) = false := beq_eq_false_iff_ne.2 (by omega)
        have t4 : (nx == 0) = false := beq_eq_false_iff_ne.2 hnx
        have hx0 : x ≠ 0 := fun h => hnx (by rw [(hE.here.1.1.1.1.1.1.2).len, h]; exact ln_zero)
        have Hhx0 := Lib.hid hx0
        clear hx0
        clear hnx
        obtain ⟨k114, k115⟩ := (hE.here.1.1.1.1.1.1.1.1.1.1.1.2).c2
        go_upto_region 16 with (fail)
        clear k114 k115
        obtain ⟨k116, k117⟩ := (hE.here.1.1.1.1.1.1.1.1.1.1.1.1.1.2).c2
        obtain ⟨k118, k119⟩ := (hE.here.1.1.1.1.1.1.1.1.1.1.1.2).c2
        go_wp2_with fail
        refine (mul_v (c := cz) (d := cx) (hE.here.1.1.1.1.1.1.1.1.2) (hE.here.1.1.1.1.1.1.2) (by omega) (by omega) (Nat.le_trans (ln_mulZ Hlz.out Hlx.out) (by decide))).mono ?_
        clear k116 k117 k118 k119
        rintro e w120 ⟨sm, Am, nm, cm, rfl, hm, hb⟩
        replace hE := hE.step hb
        clear hb
        replace hE := hE.wv hm.v
        clear hm
        go_upto_region 17 with (fail)
        obtain ⟨g121, hg121⟩ : ∃ g121, g121 = w120.heap.size := ⟨_, rfl⟩
        have hl121_0 : w.heap.size < g121 := by rw [hg121]; exact (hE.here.1.1.1.1.1.1.1.1.1.1.1.1.1.1.1.1.2).lt
        have hl121_1 : w.heap.size + 1 < g121 := by rw [hg121]; exact (hE.here.1.1.1.1.1.1.1.1.1.1.1.1.1.1.1.2).lt
        have hl121_2 : w.heap.size + 1 + 1 < g121 := by rw [hg121]; exact (hE.here.1.1.1.1.1.1.1.1.1.1.1.1.1.1.2).lt
        have hl121_3 : w.heap.size + 1 + 1 + 1 < g121 := by rw [hg121]; exact (hE.here.1.1.1.1.1.1.1.1.1.1.1.1.1.2).lt
        have hl121_4 : w.heap.size + 1 + 1 + 1 + 1 < g121 := by rw [hg121]; exact (hE.here.1.1.1.1.1.1.1.1.1.1.1.1.2).lt
        have hl121_11 : g85 < g121 := by rw [hg121]; exact (hE.here.1.1.1.1.1.2).lt
        have hl121_13 : G10 < g121 := by rw [hg121]; exact (hE.here.1.1.1.2).lt
        have hl121_15 : G11 < g121 := by rw [hg121]; exact (hE.here.1.2).lt
        replace hE := hE.blk 24 #[.bool sm, .slice Am nm cm] (g := g121) hg121.symm
        generalize w120.alloc (.cells #[.bool sm, .slice Am nm cm] 24) = W121 at hE ⊢
        rw [← hg121]
        clear hg121
        obtain ⟨k122, k123⟩ := (hE.here.1.1.1.1.1.1.1.1.1.1.1.1.1.1.2).c2
        obtain ⟨k124, k125⟩ := (hE.here.1.1.1.1.1.1.1.1.1.1.1.1.1.2).c2
        go_wp2_with fail
        refine (mul_v (c := cy) (d := cx) (hE.here.1.1.1.1.1.1.1.1.1.2) (hE.here.1.1.1.1.1.1.1.1.2) (by omega) (by omega) (Nat.le_trans (ln_mulZ Hly.out Hlx.out) (by decide))).mono ?_
        clear k122 k123 k124 k125
        rintro e w126 ⟨sk, Ak, nk, ck, rfl, hk, hb⟩
        replace hE := hE.step hb
        clear hb
        replace hE := hE.wv hk.v
        clear hk
        go_upto_region 18 with (fail)
        obtain ⟨g127, hg127⟩ : ∃ g127, g127 = w126.heap.size := ⟨_, rfl⟩
        have hl127_0 : w.heap.size < g127 := by rw [hg127]; exact (hE.here.1.1.1.1.1.1.1.1.1.1.1.1.1.1.1.1.1.1.2).lt
        have hl127_1 : w.heap.size + 1 < g127 := by rw [hg127]; exact (hE.here.1.1.1.1.1.1.1.1.1.1.1.1.1.1.1.1.1.2).lt
        have hl127_2 : w.heap.size + 1 + 1 < g127 := by rw [hg127]; exact (hE.here.1.1.1.1.1.1.1.1.1.1.1.1.1.1.1.1.2).lt
        have hl127_3 : w.heap.size + 1 + 1 + 1 < g127 := by rw [hg127]; exact (hE.here.1.1.1.1.1.1.1.1.1.1.1.1.1.1.1.2).lt
        have hl127_4 : w.heap.size + 1 + 1 + 1 + 1 < g127 := by rw [hg127]; exact (hE.here.1.1.1.1.1.1.1.1.1.1.1.1.1.1.2).lt
        have hl127_11 : g85 < g127 := by rw [hg127]; exact (hE.here.1.1.1.1.1.1.1.2).lt
        have hl127_13 : G10 < g127 := by rw [hg127]; exact (hE.here.1.1.1.1.1.2).lt
        have hl127_15 : G11 < g127 := by rw [hg127]; exact (hE.here.1.1.1.2).lt
        have hl127_17 : g121 < g127 := by rw [hg127]; exact (hE.here.1.2).lt
        replace hE := hE.blk 24 #[.bool sk, .slice Ak nk ck] (g := g127) hg127.symm
        generalize w126.alloc (.cells #[.bool sk, .slice Ak nk ck] 24) = W127 at hE ⊢
        rw [← hg127]
        clear hg127
        have nm8 : nm ≤ 80 := by rw [(hE.here.1.1.1.2).len]; exact ln_mulZ Hlz.out Hlx.out
        have nk8 : nk ≤ 80 := by rw [(hE.here.1.2).len]; exact ln_mulZ Hly.out Hlx.out
        have hyx : y * x ≠ 0 := fun h => by rcases Int.mul_eq_zero.1 h with h | h; exact Hhd.out h; exact Hhx0.out h
        have Hhyx := Lib.hid hyx
        clear hyx
        have hdm : Rat.divInt (z * x) (y * x) = Rat.divInt z y := Rat.divInt_mul_right Hhx0.out
        have Hhdm := Lib.hid hdm
        clear hdm
        obtain ⟨k128, k129⟩ := (hE.here.1.1.2).c2
        obtain ⟨k130, k131⟩ := (hE.here.2).c2
        go_wp2_with fail
        have hc := fmake_v (cx := cm) (cy := ck) (hE.here.1.1.1.2) (hE.here.1.2) (by omega) (by omega) Hhyx.out (by rw [Hhdm.out]; exact (fl_le2 lq (by decide)))
        rw [Hhdm.out] at hc
        refine (hc).mono ?_
        clear k128 k129 k130 k131
        rintro e w132 ⟨sw, Aw, nw, cw, tw, Bw, mw, dw, rfl, hw, hb⟩
        replace hE := hE.step hb
        clear hb
        replace hE := hE.fv hw
        clear hw
        clear hc
        go_upto_region 19 with (fail)
        obtain ⟨g133, hg133⟩ : ∃ g133, g133 = w132.heap.size := ⟨_, rfl⟩
        have hl133_0 : w.heap.size < g133 := by rw [hg133]; exact (hE.here.1.1.1.1.1.1.1.1.1.1.1.1.1.1.1.1.1.1.1.1.2).lt
        have hl133_1 : w.heap.size + 1 < g133 := by rw [hg133]; exact (hE.here.1.1.1.1.1.1.1.1.1.1.1.1.1.1.1.1.1.1.1.2).lt
        have hl133_2 : w.heap.size + 1 + 1 < g133 := by rw [hg133]; exact (hE.here.1.1.1.1.1.1.1.1.1.1.1.1.1.1.1.1.1.1.2).lt
        have hl133_3 : w.heap.size + 1 + 1 + 1 < g133 := by rw [hg133]; exact (hE.here.1.1.1.1.1.1.1.1.1.1.1.1.1.1.1.1.1.2).lt
        have hl133_4 : w.heap.size + 1 + 1 + 1 + 1 < g133 := by rw [hg133]; exact (hE.here.1.1.1.1.1.1.1.1.1.1.1.1.1.1.1.1.2).lt
        have hl133_11 : g85 < g133 := by rw [hg133]; exact (hE.here.1.1.1.1.1.1.1.1.1.2).lt
        have hl133_13 : G10 < g133 := by rw [hg133]; exact (hE.here.1.1.1.1.1.1.1.2).lt
        have hl133_15 : G11 < g133 := by rw [hg133]; exact (hE.here.1.1.1.1.1.2).lt
        have hl133_17 : g121 < g133 := by rw [hg133]; exact (hE.here.1.1.1.2).lt
        have hl133_19 : g127 < g133 := by rw [hg133]; exact (hE.here.1.2).lt
        replace hE := hE.blk 26 #[.bool sw, .slice Aw nw cw, .bool tw, .slice Bw mw dw] (g := g133) hg133.symm
        generalize w132.alloc (.cells #[.bool sw, .slice Aw nw cw, .bool tw, .slice Bw mw dw] 26) = W133 at hE ⊢
        rw [← hg133]
        clear hg133
        obtain ⟨lq1, lq2⟩ := fl_z lq
        have nq9 : nq ≤ 40 := by rw [(hE.here.1.1.1.1.1.1.1.1.1.1.1.2).1.len]; exact lq1
        have mq9 : mq ≤ 40 := by rw [(hE.here.1.1.1.1.1.1.1.1.1.1.1.2).2.len]; exact lq2
        have Hlq1 := Lib.hid lq1
        clear lq1
        have Hlq2 := Lib.hid lq2
        clear lq2
        obtain ⟨k134, k135, k136, k137⟩ := (hE.here.1.1.1.1.1.1.1.1.1.1.2).c4
        obtain ⟨k138, k139⟩ := (hE.here.1.1.1.1.1.1.1.1.1.1.1.1.1.1.1.1.1.1.2).c2
        go_wp2_with fail
        refine (mul_v (c := cq) (d := cy) (hE.here.1.1.1.1.1.1.1.1.1.1.1.2).1 (hE.here.1.1.1.1.1.1.1.1.1.1.1.1.1.2) (by omega) (by omega) (Nat.le_trans (ln_mulZ Hlq1.out Hly.out) (by decide))).mono ?_
        clear k134 k135 k136 k137 k138 k139
        rintro e w140 ⟨st, At, nt, ct, rfl, ht, hb⟩
        replace hE := hE.step hb
        clear hb
        replace hE := hE.wv ht.v
        clear ht
        go_upto_region 20 with (fail)
        obtain ⟨g141, hg141⟩ : ∃ g141, g141 = w140.heap.size := ⟨_, rfl⟩
        have hl141_0 : w.heap.size < g141 := by rw [hg141]; exact (hE.here.1.1.1.1.1.1.1.1.1.1.1.1.1.1.1.1.1.1.1.1.1.1.2).lt
        have hl141_1 : w.heap.size + 1 < g141 := by rw [hg141]; exact (hE.here.1.1.1.1.1.1.1.1.1.1.1.1.1.1.1.1.1.1.1.1.1.2).lt
        have hl141_2 : w.heap.size + 1 + 1 < g141 := by rw [hg141]; exact (hE.here.1.1.1.1.1.1.1.1.1.1.1.1.1.1.1.1.1.1.1.1.2).lt
        have hl141_3 : w.heap.size + 1 + 1 + 1 < g141 := by rw [hg141]; exact (hE.here.1.1.1.1.1.1.1.1.1.1.1.1.1.1.1.1.1.1.1.2).lt
        have hl141_4 : w.heap.size + 1 + 1 + 1 + 1 < g141 := by rw [hg141]; exact (hE.here.1.1.1.1.1.1.1.1.1.1.1.1.1.1.1.1.1.1.2).lt
        have hl141_11 : g85 < g141 := by rw [hg141]; exact (hE.here.1.1.1.1.1.1.1.1.1.1.1.2).lt
        have hl141_13 : G10 < g141 := by rw [hg141]; exact (hE.here.1.1.1.1.1.1.1.1.1.2).lt
        have hl141_15 : G11 < g141 := by rw [hg141]; exact (hE.here.1.1.1.1.1.1.1.2).lt
        have hl141_17 : g121 < g141 := by rw [hg141]; exact (hE.here.1.1.1.1.1.2).lt
        have hl141_19 : g127 < g141 := by rw [hg141]; exact (hE.here.1.1.1.2).lt
        have hl141_21 : g133 < g141 := by rw [hg141]; exact (hE.here.1.2).lt
        replace hE := hE.blk 24 #[.bool st, .slice At nt ct] (g := g141) hg141.symm
        generalize w140.alloc (.cells #[.bool st, .slice At nt ct] 24) = W141 at hE ⊢
        rw [← hg141]
        clear hg141
        obtain ⟨k142, k143, k144, k145⟩ := (hE.here.1.1.1.1.1.1.1.1.1.1.1.1.2).c4
        obtain ⟨k146, k147⟩ := (hE.here.1.1.1.1.1.1.1.1.1.1.1.1.1.1.1.1.1.1.1.1.1.2).c2
        go_wp2_with fail
        refine (mul_v (c := cz) (d := dq) (hE.here.1.1.1.1.1.1.1.1.1.1.1.1.1.1.1.1.2) (hE.here.1.1.1.1.1.1.1.1.1.1.1.1.1.2).2 (by omega) (by omega) (Nat.le_trans (ln_mulZ Hlz.out Hlq2.out) (by decide))).mono ?_
        clear k142 k143 k144 k145 k146 k147
        rintro e w148 ⟨su, Au, nu, cu, rfl, hu, hb⟩
        replace hE := hE.step hb
        clear hb
        replace hE := hE.wv hu.v
        clear hu
        go_upto_region 21 with (fail)
        obtain ⟨g149, hg149⟩ : ∃ g149, g149 = w148.heap.size := ⟨_, rfl⟩
        have hl149_0 : w.heap.size < g149 := by rw [hg149]; exact (hE.here.1.1.1.1.1.1.1.1.1.1.1.1.1.1.1.1.1.1.1.1.1.1.1.1.2).lt
        have hl149_1 : w.heap.size + 1 < g149 := by rw [hg149]; exact (hE.here.1.1.1.1.1.1.1.1.1.1.1.1.1.1.1.1.1.1.1.1.1.1.1.2).lt
        have hl149_2 : w.heap.size + 1 + 1 < g149 := by rw [hg149]; exact (hE.here.1.1.1.1.1.1.1.1.1.1.1.1.1.1.1.1.1.1.1.1.1.1.2).lt
        have hl149_3 : w.heap.size + 1 + 1 + 1 < g149 := by rw [hg149]; exact (hE.here.1.1.1.1.1.1.1.1.1.1.1.1.1.1.1.1.1.1.1.1.1.2).lt
        have hl149_4 : w.heap.size + 1 + 1 + 1 + 1 < g149 := by rw [hg149]; exact (hE.here.1.1.1.1.1.1.1.1.1.1.1.1.1.1.1.1.1.1.1.1.2).lt
        have hl149_11 : g85 < g149 := by rw [hg149]; exact (hE.here.1.1.1.1.1.1.1.1.1.1.1.1.1.2).lt
        have hl149_13 : G10 < g149 := by rw [hg149]; exact (hE.here.1.1.1.1.1.1.1.1.1.1.1.2).lt
        have hl149_15 : G11 < g149 := by rw [hg149]; exact (hE.here.1.1.1.1.1.1.1.1.1.2).lt
        have hl149_17 : g121 < g149 := by rw [hg149]; exact (hE.here.1.1.1.1.1.1.1.2).lt
        have hl149_19 : g127 < g149 := by rw [hg149]; exact (hE.here.1.1.1.1.1.2).lt
        have hl149_21 : g133 < g149 := by rw [hg149]; exact (hE.here.1.1.1.2).lt
        have hl149_23 : g141 < g149 := by rw [hg149]; exact (hE.here.1.2).lt
        replace hE := hE.blk 24 #[.bool su, .slice Au nu cu] (g := g149) hg149.symm
        generalize w148.alloc (.cells #[.bool su, .slice Au nu cu] 24) = W149 at hE ⊢
        rw [← hg149]
        clear hg149
        have nt8 : nt ≤ 80 := by rw [(hE.here.1.1.1.2).len]; exact ln_mulZ Hlq1.out Hly.out
        have nu8 : nu ≤ 80 := by rw [(hE.here.1.2).len]; exact ln_mulZ Hlz.out Hlq2.out
        obtain ⟨k150, k151, k152, k153⟩ := (hE.here.1.1.1.1.1.1.1.1.1.1.1.1.1.1.2).c4
        obtain ⟨k154, k155, k156, k157⟩ := (hE.here.1.1.1.1.2).c4
        obtain ⟨k158, k159⟩ := (hE.here.1.1.2).c2
        obtain ⟨k160, k161⟩ := (hE.here.2).c2
        go_wp2_with fail
        refine (lw_equal (v := true) (ca := cq) (da := dq) (cb := cw) (db := dw) (hE.here.1.1.1.1.1.1.1.1.1.1.1.1.1.1.1.2) (hE.here.1.1.1.1.1.2) (fl_le2 lq (by decide)) (fl_le2 lq (by decide)) (decide_eq_true rfl)).mono ?_
        clear k150 k151 k152 k153 k154 k155 k156 k157 k158 k159 k160 k161
        rintro e w162 ⟨rfl, hb⟩
        replace hE := hE.step hb
        clear hb
        obtain ⟨k163, k164⟩ := (hE.here.1.1.2).c2
        obtain ⟨k165, k166⟩ := (hE.here.2).c2
        go_wp2_with fail
        have hc := same_v (c := ct) (d := cu) (hE.here.1.1.1.2) (hE.here.1.2) (by omega) (by omega)
        rw [decide_eq_true (divInt_cross Hhd.out)] at hc
        refine (hc).mono ?_
        clear k163 k164 k165 k166
        rintro e w167 ⟨rfl, hb⟩
        replace hE := hE.step hb
        clear hb
        clear hc
        go_wp2_with fail
        go_ret
        exact ⟨rfl, hE.bel⟩
end Go.Proofs.YtifikcemcflgjaaGreat
