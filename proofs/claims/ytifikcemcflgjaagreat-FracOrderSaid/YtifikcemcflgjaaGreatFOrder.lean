/-
  The walk of FracOrder.
-/
import Derived.Test.YtifikcemcflgjaaGreatK10
import Derived.Test.YtifikcemcflgjaaGreatGA
namespace Go.Proofs.YtifikcemcflgjaaGreat
open Go.RowKit

theorem fl_z0 : fl ((0 : Int) : Rat) ≤ 1 := by rw [fl_le]; exact ⟨by decide, by decide⟩
set_option linter.unusedSimpArgs false in
set_option maxRecDepth 100000 in
set_option maxHeartbeats 16000000 in
theorem forder_walk {sa ta sb tb sc tc : Bool} {Aa Ba Ab Bb Ac Bc : Option Addr} {na ca ma da nb cb mb db nc cc mc dc : Nat} {fa ga fb gb fc gc : Nat → Nat} {k0 : Int} {w : World} (hlt : 0 < w.heap.size) (hm : w.cell? ⟨0, 0, none⟩ = some (.int .i64 k0)) (ra : FRd w Aa na fa Ba ma ga) (rb : FRd w Ab nb fb Bb mb gb) (rc : FRd w Ac nc fc Bc mc gc) :
    Calls Tryz.prog 6 #[.agg #[.bool sa, .slice Aa na ca, .bool ta, .slice Ba ma da], .agg #[.bool sb, .slice Ab nb cb, .bool tb, .slice Bb mb db], .agg #[.bool sc, .slice Ac nc cc, .bool tc, .slice Bc mc dc]] w (fun e w' => e = .returned (.bool true) ∧ Below w.heap.size w w') := by
  have hE := (((((((Env.start w).at_ hlt hm).frd ra).frd rb).frd rc).blk 26 #[.bool sa, .slice Aa na ca, .bool ta, .slice Ba ma da] (g := w.heap.size) rfl).blk 26 #[.bool sb, .slice Ab nb cb, .bool tb, .slice Bb mb db] (g := w.heap.size + 1) (by simp)).blk 26 #[.bool sc, .slice Ac nc cc, .bool tc, .slice Bc mc dc] (g := w.heap.size + 1 + 1) (by simp)
  obtain ⟨W0, hW0⟩ : ∃ W0, W0 = (((w.alloc (.cells #[.bool sa, .slice Aa na ca, .bool ta, .slice Ba ma da] 26)).alloc (.cells #[.bool sb, .slice Ab nb cb, .bool tb, .slice Bb mb db] 26)).alloc (.cells #[.bool sc, .slice Ac nc cc, .bool tc, .slice Bc mc dc] 26)) := ⟨_, rfl⟩
  rw [← hW0] at hE
  have HW0 := Lib.hid hW0
  clear hW0
  go_enter Tryz.func6, Tryz.ntmps6
  go_upto_region 1 with (fail)
  rw [← HW0.out]
  go_wp2_with fail
  refine (awake2_t _ (hE.here.1.1.1.1.1.1.2).2 (hE.here.1.1.1.1.1.1.2).1).mono ?_
  rintro e w1 ⟨rfl, hb⟩
  replace hE := hE.step hb
  clear hb
  obtain ⟨k2, k3, k4, k5⟩ := (hE.here.1.1.2).c4
  obtain ⟨k6, k7, k8, k9⟩ := (hE.here.1.2).c4
  obtain ⟨k10, k11, k12, k13⟩ := (hE.here.2).c4
  go_wp2_with fail
  refine (usable3 ⟨sa, Aa, na, ca, fa, ta, Ba, ma, da, ga⟩ ⟨sb, Ab, nb, cb, fb, tb, Bb, mb, db, gb⟩ ⟨sc, Ac, nc, cc, fc, tc, Bc, mc, dc, gc⟩ _ (hE.here.1.1.1.1.1.2) (hE.here.1.1.1.1.2) (hE.here.1.1.1.2)).mono ?_
  clear k2 k3 k4 k5 k6 k7 k8 k9 k10 k11 k12 k13
  rintro e w14 ⟨v, rfl, hv, hb⟩
  replace hE := hE.step hb
  clear hb
  cases v with
  | false =>
    clear hv
    go_wp2_with fail
    go_ret
    exact ⟨rfl, hE.bel⟩
  | true =>
    obtain ⟨ua, ub, uc⟩ := hv rfl
    clear hv
    obtain ⟨a, ha, la⟩ := us_fv ua (hE.here.1.1.1.1.1.2)
    obtain ⟨b, hb, lb⟩ := us_fv ub (hE.here.1.1.1.1.2)
    obtain ⟨c, hc, lc⟩ := us_fv uc (hE.here.1.1.1.2)
    replace hE := (((hE.fv ha).fv hb).fv hc)
    clear ha hb hc ua ub uc
    go_wp2_with fail
    refine (ffromInt_v 0 _ (by decide) (by decide)).mono ?_
    rintro e w15 ⟨sz, Az, nz, cz, tz, Bz, mz, dz, rfl, hz, hb⟩
    replace hE := hE.step hb
    clear hb
    replace hE := hE.fv hz
    clear hz
    go_upto_region 6 with (fail)
    obtain ⟨g16, hg16⟩ : ∃ g16, g16 = w15.heap.size := ⟨_, rfl⟩
    have hl16_4 : w.heap.size < g16 := by rw [hg16]; exact (hE.here.1.1.1.1.1.1.2).lt
    have hl16_5 : w.heap.size + 1 < g16 := by rw [hg16]; exact (hE.here.1.1.1.1.1.2).lt
    have hl16_6 : w.heap.size + 1 + 1 < g16 := by rw [hg16]; exact (hE.here.1.1.1.1.2).lt
    replace hE := hE.blk 26 #[.bool sz, .slice Az nz cz, .bool tz, .slice Bz mz dz] (g := g16) hg16.symm
    generalize w15.alloc (.cells #[.bool sz, .slice Az nz cz, .bool tz, .slice Bz mz dz] 26) = W16 at hE ⊢
    rw [← hg16]
    clear hg16
    obtain ⟨o, ho⟩ : ∃ v, v = cmpQ a b := ⟨_, rfl⟩
    obtain ⟨s, hs⟩ : ∃ v, v = cmpQ c ((0 : Int) : Rat) := ⟨_, rfl⟩
    obtain ⟨o1, o2⟩ := cmpQ_b a b
    obtain ⟨s1, s2⟩ := cmpQ_b c ((0 : Int) : Rat)
    rw [← ho] at o1 o2
    rw [← hs] at s1 s2
    have Hho := Lib.hid ho
    clear ho
    have Hhs := Lib.hid hs
    clear hs
    have hneg : IntKind.i64.wrap (-o) = -o := by rw [IntKind.wrap_i64]; omega
    have hos : -1 ≤ o * s ∧ o * s ≤ 1 := by rcases (show o = -1 ∨ o = 0 ∨ o = 1 by omega) with rfl | rfl | rfl <;> omega
    have hmul : IntKind.i64.wrap (o * s) = o * s := by rw [IntKind.wrap_i64]; omega
    have v1 : decide (o < -1) = false := decide_eq_false (by omega)
    have v2 : decide (1 < o) = false := decide_eq_false (by omega)
    have v3 : ¬ o < -1 := by omega
    have v4 : ¬ 1 < o := by omega
    clear o1 o2 s1 s2 hos
    replace hE := hE.drew
    refine wp_region_held_drew (S := fun w' => w'.cell? ⟨w.heap.size, 0, none⟩ = some (.bool sa) ∧ w'.cell? ⟨w.heap.size, 1, none⟩ = some (.slice Aa na ca) ∧ w'.cell? ⟨w.heap.size, 2, none⟩ = some (.bool ta) ∧ w'.cell? ⟨w.heap.size, 3, none⟩ = some (.slice Ba ma da) ∧ w'.cell? ⟨w.heap.size + 1, 0, none⟩ = some (.bool sb) ∧ w'.cell? ⟨w.heap.size + 1, 1, none⟩ = some (.slice Ab nb cb) ∧ w'.cell? ⟨w.heap.size + 1, 2, none⟩ = some (.bool tb) ∧ w'.cell? ⟨w.heap.size + 1, 3, none⟩ = some (.slice Bb mb db) ∧ w'.cell? ⟨w.heap.size + 1 + 1, 0, none⟩ = some (.bool sc) ∧ w'.cell? ⟨w.heap.size + 1 + 1, 1, none⟩ = some (.slice Ac nc cc) ∧ w'.cell? ⟨w.heap.size + 1 + 1, 2, none⟩ = some (.bool tc) ∧ w'.cell? ⟨w.heap.size + 1 + 1, 3, none⟩ = some (.slice Bc mc dc) ∧ w'.cell? ⟨g16, 0, none⟩ = some (.bool sz) ∧ w'.cell? ⟨g16, 1, none⟩ = some (.slice Az nz cz) ∧ w'.cell? ⟨g16, 2, none⟩ = some (.bool tz) ∧ w'.cell? ⟨g16, 3, none⟩ = some (.slice Bz mz dz)) (by kernel_rfl) (⟨(hE.here.1.1.1.1.1.1.1.2).c4.1, (hE.here.1.1.1.1.1.1.1.2).c4.2.1, (hE.here.1.1.1.1.1.1.1.2).c4.2.2.1, (hE.here.1.1.1.1.1.1.1.2).c4.2.2.2, (hE.here.1.1.1.1.1.1.2).c4.1, (hE.here.1.1.1.1.1.1.2).c4.2.1, (hE.here.1.1.1.1.1.1.2).c4.2.2.1, (hE.here.1.1.1.1.1.1.2).c4.2.2.2, (hE.here.1.1.1.1.1.2).c4.1, (hE.here.1.1.1.1.1.2).c4.2.1, (hE.here.1.1.1.1.1.2).c4.2.2.1, (hE.here.1.1.1.1.1.2).c4.2.2.2, (hE.here.2).c4.1, (hE.here.2).c4.2.1, (hE.here.2).c4.2.2.1, (hE.here.2).c4.2.2.2⟩) (fun hHeld => ?_)
    refine wpAnyH_take (i := 0) (v := ?v1_0_1) rfl (by kernel_rfl) (by kernel_rfl) (by kernel_rfl) (fun _ _ _ h => h) (Or.inl ⟨by rfl, ?hy1_0_1⟩) (by assumption) ?rest1_0_1
    case hy1_0_1 => intro w hSw; (try dsimp only at hSw); first | (go_simp; done) | (go_simp; with_reducible rfl)
    try simp only [Act.put, List.setIfInBounds_toArray, List.set_cons_zero, List.set_cons_succ, List.getElem_toArray, List.getElem_cons_succ, List.getElem_cons_zero]
    refine wpAnyH_take (i := 1) (v := ?v1_1_2) rfl (by kernel_rfl) (by kernel_rfl) (by kernel_rfl) (fun _ _ _ h => h) (Or.inl ⟨by rfl, ?hy1_1_2⟩) (by assumption) ?rest1_1_2
    case hy1_1_2 => intro w hSw; (try dsimp only at hSw); first | (go_simp; done) | (go_simp; with_reducible rfl)
    try simp only [Act.put, List.setIfInBounds_toArray, List.set_cons_zero, List.set_cons_succ, List.getElem_toArray, List.getElem_cons_succ, List.getElem_cons_zero]
    refine wpAnyH_take (i := 3) (v := ?v1_3_3) rfl (by kernel_rfl) (by kernel_rfl) (by kernel_rfl) (fun _ _ _ h => h) (Or.inl ⟨by rfl, ?hy1_3_3⟩) (by assumption) ?rest1_3_3
    case hy1_3_3 => intro w hSw; (try dsimp only at hSw); first | (go_simp; done) | (go_simp; with_reducible rfl)
    try simp only [Act.put, List.setIfInBounds_toArray, List.set_cons_zero, List.set_cons_succ, List.getElem_toArray, List.getElem_cons_succ, List.getElem_cons_zero]
    refine wpAnyH_take (i := 4) (v := ?v1_4_4) rfl (by kernel_rfl) (by kernel_rfl) (by kernel_rfl) (fun _ _ _ h => h) (Or.inl ⟨by rfl, ?hy1_4_4⟩) (by assumption) ?rest1_4_4
    case hy1_4_4 => intro w hSw; (try dsimp only at hSw); first | (go_simp; done) | (go_simp; with_reducible rfl)
    try simp only [Act.put, List.setIfInBounds_toArray, List.set_cons_zero, List.set_cons_succ, List.getElem_toArray, List.getElem_cons_succ, List.getElem_cons_zero]
    refine wpAnyH_ready (rs := [2]) (by kernel_rfl) (by simp) (AllReadyH.cons rfl (fun K hK => ?_) (AllReadyH.nil))
    go_simp
    have hc := fcmp_v (ca := ca) (da := da) (cb := cb) (db := db) (hE.here.1.1.1.1.2) (hE.here.1.1.1.2) (fl_le2 la (by decide)) (fl_le2 lb (by decide))
    rw [← Hho.out] at hc
    refine (hc).mono ?_
    rintro e w17 ⟨rfl, hb⟩
    replace hE := hE.step hb
    clear hb
    clear hc
    go_wp2_with fail
    refine hK.out _ _ (⟨(hE.here.1.1.1.1.1.1.1.2).c4.1, (hE.here.1.1.1.1.1.1.1.2).c4.2.1, (hE.here.1.1.1.1.1.1.1.2).c4.2.2.1, (hE.here.1.1.1.1.1.1.1.2).c4.2.2.2, (hE.here.1.1.1.1.1.1.2).c4.1, (hE.here.1.1.1.1.1.1.2).c4.2.1, (hE.here.1.1.1.1.1.1.2).c4.2.2.1, (hE.here.1.1.1.1.1.1.2).c4.2.2.2, (hE.here.1.1.1.1.1.2).c4.1, (hE.here.1.1.1.1.1.2).c4.2.1, (hE.here.1.1.1.1.1.2).c4.2.2.1, (hE.here.1.1.1.1.1.2).c4.2.2.2, (hE.here.2).c4.1, (hE.here.2).c4.2.1, (hE.here.2).c4.2.2.1, (hE.here.2).c4.2.2.2⟩) (fun hHeld => ?_)
    clear hK K
    try simp only [Act.put, List.setIfInBounds_toArray, List.set_cons_zero, List.set_cons_succ, List.getElem_toArray, List.getElem_cons_succ, List.getElem_cons_zero]
    refine wpAnyH_ready (rs := [5]) (by kernel_rfl) (by simp) (AllReadyH.cons rfl (fun K hK => ?_) (AllReadyH.nil))
    go_simp
    have hc := fcmp_v (ca := cc) (da := dc) (cb := cz) (db := dz) (hE.here.1.1.2) (hE.here.1.2) (fl_le2 lc (by decide)) (fl_le2 fl_z0 (by decide))
    rw [← Hhs.out] at hc
    refine (hc).mono ?_
    rintro e w18 ⟨rfl, hb⟩
    replace hE := hE.step hb
    clear hb
    clear hc
    go_wp2_with fail
    refine hK.out _ _ (⟨(hE.here.1.1.1.1.1.1.1.2).c4.1, (hE.here.1.1.1.1.1.1.1.2).c4.2.1, (hE.here.1.1.1.1.1.1.1.2).c4.2.2.1, (hE.here.1.1.1.1.1.1.1.2).c4.2.2.2, (hE.here.1.1.1.1.1.1.2).c4.1, (hE.here.1.1.1.1.1.1.2).c4.2.1, (hE.here.1.1.1.1.1.1.2).c4.2.2.1, (hE.here.1.1.1.1.1.1.2).c4.2.2.2, (hE.here.1.1.1.1.1.2).c4.1, (hE.here.1.1.1.1.1.2).c4.2.1, (hE.here.1.1.1.1.1.2).c4.2.2.1, (hE.here.1.1.1.1.1.2).c4.2.2.2, (hE.here.2).c4.1, (hE.here.2).c4.2.1, (hE.here.2).c4.2.2.1, (hE.here.2).c4.2.2.2⟩) (fun hHeld => ?_)
    clear hK K
    try simp only [Act.put, List.setIfInBounds_toArray, List.set_cons_zero, List.set_cons_succ, List.getElem_toArray, List.getElem_cons_succ, List.getElem_cons_zero]
    refine wpAnyH_take (i := 6) (v := ?v1_6_5) rfl (by kernel_rfl) (by kernel_rfl) (by kernel_rfl) (fun _ _ _ h => h) (Or.inl ⟨by rfl, ?hy1_6_5⟩) (by assumption) ?rest1_6_5
    case hy1_6_5 => intro w hSw; (try dsimp only at hSw); first | (go_simp; done) | (go_simp; with_reducible rfl)
    try simp only [Act.put, List.setIfInBounds_toArray, List.set_cons_zero, List.set_cons_succ, List.getElem_toArray, List.getElem_cons_succ, List.getElem_cons_zero]
    refine wpAnyH_take (i := 7) (v := ?v1_7_6) rfl (by kernel_rfl) (by kernel_rfl) (by kernel_rfl) (fun _ _ _ h => h) (Or.inl ⟨by rfl, ?hy1_7_6⟩) (by assumption) ?rest1_7_6
    case hy1_7_6 => intro w hSw; (try dsimp only at hSw); first | (go_simp; done) | (go_simp; with_reducible rfl)
    try simp only [Act.put, List.setIfInBounds_toArray, List.set_cons_zero, List.set_cons_succ, List.getElem_toArray, List.getElem_cons_succ, List.getElem_cons_zero]
    refine wpAnyH_done (by kernel_rfl) ?_ _
    go_upto_region 7 with (fail)
    replace hE := hE.drew
    refine wp_region_held_drew (S := fun w' => w'.cell? ⟨w.heap.size, 0, none⟩ = some (.bool sa) ∧ w'.cell? ⟨w.heap.size, 1, none⟩ = some (.slice Aa na ca) ∧ w'.cell? ⟨w.heap.size, 2, none⟩ = some (.bool ta) ∧ w'.cell? ⟨w.heap.size, 3, none⟩ = some (.slice Ba ma da) ∧ w'.cell? ⟨w.heap.size + 1, 0, none⟩ = some (.bool sb) ∧ w'.cell? ⟨w.heap.size + 1, 1, none⟩ = some (.slice Ab nb cb) ∧ w'.cell? ⟨w.heap.size + 1, 2, none⟩ = some (.bool tb) ∧ w'.cell? ⟨w.heap.size + 1, 3, none⟩ = some (.slice Bb mb db) ∧ w'.cell? ⟨w.heap.size + 1 + 1, 0, none⟩ = some (.bool sc) ∧ w'.cell? ⟨w.heap.size + 1 + 1, 1, none⟩ = some (.slice Ac nc cc) ∧ w'.cell? ⟨w.heap.size + 1 + 1, 2, none⟩ = some (.bool tc) ∧ w'.cell? ⟨w.heap.size + 1 + 1, 3, none⟩ = some (.slice Bc mc dc) ∧ w'.cell? ⟨g16, 0, none⟩ = some (.bool sz) ∧ w'.cell? ⟨g16, 1, none⟩ = some (.slice Az nz cz) ∧ w'.cell? ⟨g16, 2, none⟩ = some (.bool tz) ∧ w'.cell? ⟨g16, 3, none⟩ = some (.slice Bz mz dz)) (by kernel_rfl) (⟨(hE.here.1.1.1.1.1.1.1.2).c4.1, (hE.here.1.1.1.1.1.1.1.2).c4.2.1, (hE.here.1.1.1.1.1.1.1.2).c4.2.2.1, (hE.here.1.1.1.1.1.1.1.2).c4.2.2.2, (hE.here.1.1.1.1.1.1.2).c4.1, (hE.here.1.1.1.1.1.1.2).c4.2.1, (hE.here.1.1.1.1.1.1.2).c4.2.2.1, (hE.here.1.1.1.1.1.1.2).c4.2.2.2, (hE.here.1.1.1.1.1.2).c4.1, (hE.here.1.1.1.1.1.2).c4.2.1, (hE.here.1.1.1.1.1.2).c4.2.2.1, (hE.here.1.1.1.1.1.2).c4.2.2.2, (hE.here.2).c4.1, (hE.here.2).c4.2.1, (hE.here.2).c4.2.2.1, (hE.here.2).c4.2.2.2⟩) (fun hHeld => ?_)
    refine wpAnyH_take (i := 0) (v := ?v2_0_1) rfl (by kernel_rfl) (by kernel_rfl) (by kernel_rfl) (fun _ _ _ h => h) (Or.inl ⟨by rfl, ?hy2_0_1⟩) (by assumption) ?rest2_0_1
    case hy2_0_1 => intro w hSw; (try dsimp only at hSw); first | (go_simp; done) | (go_simp; with_reducible rfl)
    try simp only [Act.put, List.setIfInBounds_toArray, List.set_cons_zero, List.set_cons_succ, List.getElem_toArray, List.getElem_cons_succ, List.getElem_cons_zero]
    refine wpAnyH_take (i := 1) (v := ?v2_1_2) rfl (by kernel_rfl) (by kernel_rfl) (by kernel_rfl) (fun _ _ _ h => h) (Or.inl ⟨by rfl, ?hy2_1_2⟩) (by assumption) ?rest2_1_2
    case hy2_1_2 => intro w hSw; (try dsimp only at hSw); first | (go_simp; done) | (go_simp; with_reducible rfl)
    try simp only [Act.put, List.setIfInBounds_toArray, List.set_cons_zero, List.set_cons_succ, List.getElem_toArray, List.getElem_cons_succ, List.getElem_cons_zero]
    refine wpAnyH_take (i := 2) (v := ?v2_2_3) rfl (by kernel_rfl) (by kernel_rfl) (by kernel_rfl) (fun _ _ _ h => h) (Or.inl ⟨by rfl, ?hy2_2_3⟩) (by assumption) ?rest2_2_3
    case hy2_2_3 => intro w hSw; (try dsimp only at hSw); first | (go_simp; done) | (go_simp; with_reducible rfl)
    try simp only [Act.put, List.setIfInBounds_toArray, List.set_cons_zero, List.set_cons_succ, List.getElem_toArray, List.getElem_cons_succ, List.getElem_cons_zero]
    refine wpAnyH_take (i := 3) (v := ?v2_3_4) rfl (by kernel_rfl) (by kernel_rfl) (by kernel_rfl) (fun _ _ _ h => h) (Or.inl ⟨by rfl, ?hy2_3_4⟩) (by assumption) ?rest2_3_4
    case hy2_3_4 => intro w hSw; (try dsimp only at hSw); first | (go_simp; done) | (go_simp; with_reducible rfl)
    try simp only [Act.put, List.setIfInBounds_toArray, List.set_cons_zero, List.set_cons_succ, List.getElem_toArray, List.getElem_cons_succ, List.getElem_cons_zero]
    refine wpAnyH_take (i := 4) (v := ?v2_4_5) rfl (by kernel_rfl) (by kernel_rfl) (by kernel_rfl) (fun _ _ _ h => h) (Or.inl ⟨by rfl, ?hy2_4_5⟩) (by assumption) ?rest2_4_5
    case hy2_4_5 => intro w hSw; (try dsimp only at hSw); first | (go_simp; done) | (go_simp; with_reducible rfl)
    try simp only [Act.put, List.setIfInBounds_toArray, List.set_cons_zero, List.set_cons_succ, List.getElem_toArray, List.getElem_cons_succ, List.getElem_cons_zero]
    refine wpAnyH_take (i := 5) (v := ?v2_5_6) rfl (by kernel_rfl) (by kernel_rfl) (by kernel_rfl) (fun _ _ _ h => h) (Or.inl ⟨by rfl, ?hy2_5_6⟩) (by assumption) ?rest2_5_6
    case hy2_5_6 => intro w hSw; (try dsimp only at hSw); first | (go_simp; done) | (go_simp; with_reducible rfl)
    try simp only [Act.put, List.setIfInBounds_toArray, List.set_cons_zero, List.set_cons_succ, List.getElem_toArray, List.getElem_cons_succ, List.getElem_cons_zero]
    refine wpAnyH_take (i := 6) (v := ?v2_6_7) rfl (by kernel_rfl) (by kernel_rfl) (by kernel_rfl) (fun _ _ _ h => h) (Or.inl ⟨by rfl, ?hy2_6_7⟩) (by assumption) ?rest2_6_7
    case hy2_6_7 => intro w hSw; (try dsimp only at hSw); first | (go_simp; done) | (go_simp; with_reducible rfl)
    try simp only [Act.put, List.setIfInBounds_toArray, List.set_cons_zero, List.set_cons_succ, List.getElem_toArray, List.getElem_cons_succ, List.getElem_cons_zero]
    refine wpAnyH_take (i := 7) (v := ?v2_7_8) rfl (by kernel_rfl) (by kernel_rfl) (by kernel_rfl) (fun _ _ _ h => h) (Or.inl ⟨by rfl, ?hy2_7_8⟩) (by assumption) ?rest2_7_8
    case hy2_7_8 => intro w hSw; (try dsimp only at hSw); first | (go_simp; done) | (go_simp; with_reducible rfl)
    try simp only [Act.put, List.setIfInBounds_toArray, List.set_cons_zero, List.set_cons_succ, List.getElem_toArray, List.getElem_cons_succ, List.getElem_cons_zero]
    refine wpAnyH_take (i := 8) (v := ?v2_8_9) rfl (by kernel_rfl) (by kernel_rfl) (by kernel_rfl) (fun _ _ _ h => h) (Or.inl ⟨by rfl, ?hy2_8_9⟩) (by assumption) ?rest2_8_9
    case hy2_8_9 => intro w hSw; (try dsimp only at hSw); first | (go_simp; done) | (go_simp; with_reducible rfl)
    try simp only [Act.put, List.setIfInBounds_toArray, List.set_cons_zero, List.set_cons_succ, List.getElem_toArray, List.getElem_cons_succ, List.getElem_cons_zero]
    refine wpAnyH_take (i := 10) (v := ?v2_10_10) rfl (by kernel_rfl) (by kernel_rfl) (by kernel_rfl) (fun _ _ _ h => h) (Or.inl ⟨by rfl, ?hy2_10_10⟩) (by assumption) ?rest2_10_10
    case hy2_10_10 => intro w hSw; (try dsimp only at hSw); first | (go_simp; done) | (go_simp; with_reducible rfl)
    try simp only [Act.put, List.setIfInBounds_toArray, List.set_cons_zero, List.set_cons_succ, List.getElem_toArray, List.getElem_cons_succ, List.getElem_cons_zero]
    refine wpAnyH_take (i := 11) (v := ?v2_11_11) rfl (by kernel_rfl) (by kernel_rfl) (by kernel_rfl) (fun _ _ _ h => h) (Or.inl ⟨by rfl, ?hy2_11_11⟩) (by assumption) ?rest2_11_11
    case hy2_11_11 => intro w hSw; (try dsimp only at hSw); first | (go_simp; done) | (go_simp; with_reducible rfl)
    try simp only [Act.put, List.setIfInBounds_toArray, List.set_cons_zero, List.set_cons_succ, List.getElem_toArray, List.getElem_cons_succ, List.getElem_cons_zero]
    refine wpAnyH_ready (rs := [9]) (by kernel_rfl) (by simp) (AllReadyH.cons rfl (fun K hK => ?_) (AllReadyH.nil))
    go_simp
    have hc := fcmp_v (ca := cb) (da := db) (cb := ca) (db := da) (hE.here.1.1.1.2) (hE.here.1.1.1.1.2) (fl_le2 lb (by decide)) (fl_le2 la (by decide))
    rw [cmpQ_swap, ← Hho.out] at hc
    refine (hc).mono ?_
    rintro e w19 ⟨rfl, hb⟩
    replace hE := hE.step hb
    clear hb
    clear hc
    go_wp2_with fail
    refine hK.out _ _ (⟨(hE.here.1.1.1.1.1.1.1.2).c4.1, (hE.here.1.1.1.1.1.1.1.2).c4.2.1, (hE.here.1.1.1.1.1.1.1.2).c4.2.2.1, (hE.here.1.1.1.1.1.1.1.2).c4.2.2.2, (hE.here.1.1.1.1.1.1.2).c4.1, (hE.here.1.1.1.1.1.1.2).c4.2.1, (hE.here.1.1.1.1.1.1.2).c4.2.2.1, (hE.here.1.1.1.1.1.1.2).c4.2.2.2, (hE.here.1.1.1.1.1.2).c4.1, (hE.here.1.1.1.1.1.2).c4.2.1, (hE.here.1.1.1.1.1.2).c4.2.2.1, (hE.here.1.1.1.1.1.2).c4.2.2.2, (hE.here.2).c4.1, (hE.here.2).c4.2.1, (hE.here.2).c4.2.2.1, (hE.here.2).c4.2.2.2⟩) (fun hHeld => ?_)
    clear hK K
    try simp only [Act.put, List.setIfInBounds_toArray, List.set_cons_zero, List.set_cons_succ, List.getElem_toArray, List.getElem_cons_succ, List.getElem_cons_zero]
    refine wpAnyH_take (i := 12) (v := ?v2_12_12) rfl (by kernel_rfl) (by kernel_rfl) (by kernel_rfl) (fun _ _ _ h => h) (Or.inl ⟨by rfl, ?hy2_12_12⟩) (by assumption) ?rest2_12_12
    case hy2_12_12 => intro w hSw; (try dsimp only at hSw); first | (go_simp; done) | (go_simp; with_reducible rfl)
    try simp only [Act.put, List.setIfInBounds_toArray, List.set_cons_zero, List.set_cons_succ, List.getElem_toArray, List.getElem_cons_succ, List.getElem_cons_zero]
    refine wpAnyH_take (i := 13) (v := ?v2_13_13) rfl (by kernel_rfl) (by kernel_rfl) (by kernel_rfl) (fun _ _ _ h => h) (Or.inl ⟨by rfl, ?hy2_13_13⟩) (by assumption) ?rest2_13_13
    case hy2_13_13 => intro w hSw; (try dsimp only at hSw); first | (go_simp; done) | (go_simp; with_reducible rfl)
    try simp only [Act.put, List.setIfInBounds_toArray, List.set_cons_zero, List.set_cons_succ, List.getElem_toArray, List.getElem_cons_succ, List.getElem_cons_zero]
    refine wpAnyH_take (i := 14) (v := ?v2_14_14) rfl (by kernel_rfl) (by kernel_rfl) (by kernel_rfl) (fun _ _ _ h => h) (Or.inl ⟨by rfl, ?hy2_14_14⟩) (by assumption) ?rest2_14_14
    case hy2_14_14 => intro w hSw; (try dsimp only at hSw); first | (go_simp; done) | (go_simp; with_reducible rfl)
    try simp only [Act.put, List.setIfInBounds_toArray, List.set_cons_zero, List.set_cons_succ, List.getElem_toArray, List.getElem_cons_succ, List.getElem_cons_zero]
    refine wpAnyH_take (i := 15) (v := ?v2_15_15) rfl (by kernel_rfl) (by kernel_rfl) (by kernel_rfl) (fun _ _ _ h => h) (Or.inl ⟨by rfl, ?hy2_15_15⟩) (by assumption) ?rest2_15_15
    case hy2_15_15 => intro w hSw; (try dsimp only at hSw); first | (go_simp; done) | (go_simp; with_reducible rfl)
    try simp only [Act.put, List.setIfInBounds_toArray, List.set_cons_zero, List.set_cons_succ, List.getElem_toArray, List.getElem_cons_succ, List.getElem_cons_zero]
    refine wpAnyH_take (i := 16) (v := ?v2_16_16) rfl (by kernel_rfl) (by kernel_rfl) (by kernel_rfl) (fun _ _ _ h => h) (Or.inl ⟨by rfl, ?hy2_16_16⟩) (by assumption) ?rest2_16_16
    case hy2_16_16 => intro w hSw; (try dsimp only at hSw); first | (go_simp; done) | (go_simp; with_reducible rfl)
    try simp only [Act.put, List.setIfInBounds_toArray, List.set_cons_zero, List.set_cons_succ, List.getElem_toArray, List.getElem_cons_succ, List.getElem_cons_zero]
    refine wpAnyH_take (i := 18) (v := ?v2_18_17) rfl (by kernel_rfl) (by kernel_rfl) (by kernel_rfl) (fun _ _ _ h => h) (Or.inl ⟨by rfl, ?hy2_18_17⟩) (by assumption) ?rest2_18_17
    case hy2_18_17 => intro w hSw; (try dsimp only at hSw); first | (go_simp; done) | (go_simp; with_reducible rfl)
    try simp only [Act.put, List.setIfInBounds_toArray, List.set_cons_zero, List.set_cons_succ, List.getElem_toArray, List.getElem_cons_succ, List.getElem_cons_zero]
    refine wpAnyH_take (i := 20) (v := ?v2_20_18) rfl (by kernel_rfl) (by kernel_rfl) (by kernel_rfl) (fun _ _ _ h => h) (Or.inl ⟨by rfl, ?hy2_20_18⟩) (by assumption) ?rest2_20_18
    case hy2_20_18 => intro w hSw; (try dsimp only at hSw); first | (go_simp; done) | (go_simp; with_reducible rfl)
    try simp only [Act.put, List.setIfInBounds_toArray, List.set_cons_zero, List.set_cons_succ, List.getElem_toArray, List.getElem_cons_succ, List.getElem_cons_zero]
    refine wpAnyH_ready (rs := [17]) (by kernel_rfl) (by simp) (AllReadyH.cons rfl (fun K hK => ?_) (AllReadyH.nil))
    go_simp
    refine (lw_less (ca := ca) (da := da) (cb := cb) (db := db) (hE.here.1.1.1.1.2) (hE.here.1.1.1.2) (fl_le2 la (by decide)) (fl_le2 lb (by decide)) (fl_le2 (fl_minus la lb) (by decide))).mono ?_
    rintro e w20 ⟨sd, Ad, nd, cd, td, Bd, md, dd, rfl, hd, hb⟩
    replace hE := hE.step hb
    clear hb
    replace hE := hE.fv hd
    clear hd
    go_wp2_with fail
    refine hK.out _ _ (⟨(hE.here.1.1.1.1.1.1.1.1.2).c4.1, (hE.here.1.1.1.1.1.1.1.1.2).c4.2.1, (hE.here.1.1.1.1.1.1.1.1.2).c4.2.2.1, (hE.here.1.1.1.1.1.1.1.1.2).c4.2.2.2, (hE.here.1.1.1.1.1.1.1.2).c4.1, (hE.here.1.1.1.1.1.1.1.2).c4.2.1, (hE.here.1.1.1.1.1.1.1.2).c4.2.2.1, (hE.here.1.1.1.1.1.1.1.2).c4.2.2.2, (hE.here.1.1.1.1.1.1.2).c4.1, (hE.here.1.1.1.1.1.1.2).c4.2.1, (hE.here.1.1.1.1.1.1.2).c4.2.2.1, (hE.here.1.1.1.1.1.1.2).c4.2.2.2, (hE.here.1.2).c4.1, (hE.here.1.2).c4.2.1, (hE.here.1.2).c4.2.2.1, (hE.here.1.2).c4.2.2.2⟩) (fun hHeld => ?_)
    clear hK K
    try simp only [Act.put, List.setIfInBounds_toArray, List.set_cons_zero, List.set_cons_succ, List.getElem_toArray, List.getElem_cons_succ, List.getElem_cons_zero]
    refine wpAnyH_ready (rs := [19]) (by kernel_rfl) (by simp) (AllReadyH.cons rfl (fun K hK => ?_) (AllReadyH.nil))
    go_simp
    have hc := fcmp_v (ca := cd) (da := dd) (cb := cz) (db := dz) (hE.here.2) (hE.here.1.1.2) (fl_le2 (fl_minus la lb) (by decide)) (fl_le2 fl_z0 (by decide))
    rw [cmpQ_less, ← Hho.out] at hc
    refine (hc).mono ?_
    rintro e w21 ⟨rfl, hb⟩
    replace hE := hE.step hb
    clear hb
    clear hc
    go_wp2_with fail
    refine hK.out _ _ (⟨(hE.here.1.1.1.1.1.1.1.1.2).c4.1, (hE.here.1.1.1.1.1.1.1.1.2).c4.2.1, (hE.here.1.1.1.1.1.1.1.1.2).c4.2.2.1, (hE.here.1.1.1.1.1.1.1.1.2).c4.2.2.2, (hE.here.1.1.1.1.1.1.1.2).c4.1, (hE.here.1.1.1.1.1.1.1.2).c4.2.1, (hE.here.1.1.1.1.1.1.1.2).c4.2.2.1, (hE.here.1.1.1.1.1.1.1.2).c4.2.2.2, (hE.here.1.1.1.1.1.1.2).c4.1, (hE.here.1.1.1.1.1.1.2).c4.2.1, (hE.here.1.1.1.1.1.1.2).c4.2.2.1, (hE.here.1.1.1.1.1.1.2).c4.2.2.2, (hE.here.1.2).c4.1, (hE.here.1.2).c4.2.1, (hE.here.1.2).c4.2.2.1, (hE.here.1.2).c4.2.2.2⟩) (fun hHeld => ?_)
    clear hK K
    try simp only [Act.put, List.setIfInBounds_toArray, List.set_cons_zero, List.set_cons_succ, List.getElem_toArray, List.getElem_cons_succ, List.getElem_cons_zero]
    refine wpAnyH_take (i := 21) (v := ?v2_21_19) rfl (by kernel_rfl) (by kernel_rfl) (by kernel_rfl) (fun _ _ _ h => h) (Or.inl ⟨by rfl, ?hy2_21_19⟩) (by assumption) ?rest2_21_19
    case hy2_21_19 => intro w hSw; (try dsimp only at hSw); first | (go_simp; done) | (go_simp; with_reducible rfl)
    try simp only [Act.put, List.setIfInBounds_toArray, List.set_cons_zero, List.set_cons_succ, List.getElem_toArray, List.getElem_cons_succ, List.getElem_cons_zero]
    refine wpAnyH_take (i := 22) (v := ?v2_22_20) rfl (by kernel_rfl) (by kernel_rfl) (by kernel_rfl) (fun _ _ _ h => h) (Or.inl ⟨by rfl, ?hy2_22_20⟩) (by assumption) ?rest2_22_20
    case hy2_22_20 => intro w hSw; (try dsimp only at hSw); first | (go_simp; done) | (go_simp; with_reducible rfl)
    try simp only [Act.put, List.setIfInBounds_toArray, List.set_cons_zero, List.set_cons_succ, List.getElem_toArray, List.getElem_cons_succ, List.getElem_cons_zero]
    refine wpAnyH_take (i := 23) (v := ?v2_23_21) rfl (by kernel_rfl) (by kernel_rfl) (by kernel_rfl) (fun _ _ _ h => h) (Or.inl ⟨by rfl, ?hy2_23_21⟩) (by assumption) ?rest2_23_21
    case hy2_23_21 => intro w hSw; (try dsimp only at hSw); first | (go_simp; done) | (go_simp; with_reducible rfl)
    try simp only [Act.put, List.setIfInBounds_toArray, List.set_cons_zero, List.set_cons_succ, List.getElem_toArray, List.getElem_cons_succ, List.getElem_cons_zero]
    refine wpAnyH_take (i := 24) (v := ?v2_24_22) rfl (by kernel_rfl) (by kernel_rfl) (by kernel_rfl) (fun _ _ _ h => h) (Or.inl ⟨by rfl, ?hy2_24_22⟩) (by assumption) ?rest2_24_22
    case hy2_24_22 => intro w hSw; (try dsimp only at hSw); first | (go_simp; done) | (go_simp; with_reducible rfl)
    try simp only [Act.put, List.setIfInBounds_toArray, List.set_cons_zero, List.set_cons_succ, List.getElem_toArray, List.getElem_cons_succ, List.getElem_cons_zero]
    refine wpAnyH_take (i := 25) (v := ?v2_25_23) rfl (by kernel_rfl) (by kernel_rfl) (by kernel_rfl) (fun _ _ _ h => h) (Or.inl ⟨by rfl, ?hy2_25_23⟩) (by assumption) ?rest2_25_23
    case hy2_25_23 => intro w hSw; (try dsimp only at hSw); first | (go_simp; done) | (go_simp; with_reducible rfl)
    try simp only [Act.put, List.setIfInBounds_toArray, List.set_cons_zero, List.set_cons_succ, List.getElem_toArray, List.getElem_cons_succ, List.getElem_cons_zero]
    refine wpAnyH_take (i := 27) (v := ?v2_27_24) rfl (by kernel_rfl) (by kernel_rfl) (by kernel_rfl) (fun _ _ _ h => h) (Or.inl ⟨by rfl, ?hy2_27_24⟩) (by assumption) ?rest2_27_24
    case hy2_27_24 => intro w hSw; (try dsimp only at hSw); first | (go_simp; done) | (go_simp; with_reducible rfl)
    try simp only [Act.put, List.setIfInBounds_toArray, List.set_cons_zero, List.set_cons_succ, List.getElem_toArray, List.getElem_cons_succ, List.getElem_cons_zero]
    refine wpAnyH_take (i := 28) (v := ?v2_28_25) rfl (by kernel_rfl) (by kernel_rfl) (by kernel_rfl) (fun _ _ _ h => h) (Or.inl ⟨by rfl, ?hy2_28_25⟩) (by assumption) ?rest2_28_25
    case hy2_28_25 => intro w hSw; (try dsimp only at hSw); first | (go_simp; done) | (go_simp; with_reducible rfl)
    try simp only [Act.put, List.setIfInBounds_toArray, List.set_cons_zero, List.set_cons_succ, List.getElem_toArray, List.getElem_cons_succ, List.getElem_cons_zero]
    refine wpAnyH_take (i := 31) (v := ?v2_31_26) rfl (by kernel_rfl) (by kernel_rfl) (by kernel_rfl) (fun _ _ _ h => h) (Or.inl ⟨by rfl, ?hy2_31_26⟩) (by assumption) ?rest2_31_26
    case hy2_31_26 => intro w hSw; (try dsimp only at hSw); first | (go_simp; done) | (go_simp; with_reducible rfl)
    try simp only [Act.put, List.setIfInBounds_toArray, List.set_cons_zero, List.set_cons_succ, List.getElem_toArray, List.getElem_cons_succ, List.getElem_cons_zero]
    refine wpAnyH_ready (rs := [26]) (by kernel_rfl) (by simp) (AllReadyH.cons rfl (fun K hK => ?_) (AllReadyH.nil))
    go_simp
    refine (lw_sum (ca := ca) (da := da) (cb := cc) (db := dc) (hE.here.1.1.1.1.1.2) (hE.here.1.1.1.2) (fl_le2 la (by decide)) (fl_le2 lc (by decide)) (fl_le2 (fl_plus la lc) (by decide))).mono ?_
    rintro e w22 ⟨sp, Ap, np, cp, tp, Bp, mp, dp, rfl, hp, hb⟩
    replace hE := hE.step hb
    clear hb
    replace hE := hE.fv hp
    clear hp
    go_wp2_with fail
    refine hK.out _ _ (⟨(hE.here.1.1.1.1.1.1.1.1.1.2).c4.1, (hE.here.1.1.1.1.1.1.1.1.1.2).c4.2.1, (hE.here.1.1.1.1.1.1.1.1.1.2).c4.2.2.1, (hE.here.1.1.1.1.1.1.1.1.1.2).c4.2.2.2, (hE.here.1.1.1.1.1.1.1.1.2).c4.1, (hE.here.1.1.1.1.1.1.1.1.2).c4.2.1, (hE.here.1.1.1.1.1.1.1.1.2).c4.2.2.1, (hE.here.1.1.1.1.1.1.1.1.2).c4.2.2.2, (hE.here.1.1.1.1.1.1.1.2).c4.1, (hE.here.1.1.1.1.1.1.1.2).c4.2.1, (hE.here.1.1.1.1.1.1.1.2).c4.2.2.1, (hE.here.1.1.1.1.1.1.1.2).c4.2.2.2, (hE.here.1.1.2).c4.1, (hE.here.1.1.2).c4.2.1, (hE.here.1.1.2).c4.2.2.1, (hE.here.1.1.2).c4.2.2.2⟩) (fun hHeld => ?_)
    clear hK K
    try simp only [Act.put, List.setIfInBounds_toArray, List.set_cons_zero, List.set_cons_succ, List.getElem_toArray, List.getElem_cons_succ, List.getElem_cons_zero]
    refine wpAnyH_ready (rs := [29]) (by kernel_rfl) (by simp) (AllReadyH.cons rfl (fun K hK => ?_) (AllReadyH.nil))
    go_simp
    refine (lw_sum (ca := cb) (da := db) (cb := cc) (db := dc) (hE.here.1.1.1.1.1.2) (hE.here.1.1.1.1.2) (fl_le2 lb (by decide)) (fl_le2 lc (by decide)) (fl_le2 (fl_plus lb lc) (by decide))).mono ?_
    rintro e w23 ⟨sq, Aq, nq, cq, tq, Bq, mq, dq, rfl, hq, hb⟩
    replace hE := hE.step hb
    clear hb
    replace hE := hE.fv hq
    clear hq
    go_wp2_with fail
    refine hK.out _ _ (⟨(hE.here.1.1.1.1.1.1.1.1.1.1.2).c4.1, (hE.here.1.1.1.1.1.1.1.1.1.1.2).c4.2.1, (hE.here.1.1.1.1.1.1.1.1.1.1.2).c4.2.2.1, (hE.here.1.1.1.1.1.1.1.1.1.1.2).c4.2.2.2, (hE.here.1.1.1.1.1.1.1.1.1.2).c4.1, (hE.here.1.1.1.1.1.1.1.1.1.2).c4.2.1, (hE.here.1.1.1.1.1.1.1.1.1.2).c4.2.2.1, (hE.here.1.1.1.1.1.1.1.1.1.2).c4.2.2.2, (hE.here.1.1.1.1.1.1.1.1.2).c4.1, (hE.here.1.1.1.1.1.1.1.1.2).c4.2.1, (hE.here.1.1.1.1.1.1.1.1.2).c4.2.2.1, (hE.here.1.1.1.1.1.1.1.1.2).c4.2.2.2, (hE.here.1.1.1.2).c4.1, (hE.here.1.1.1.2).c4.2.1, (hE.here.1.1.1.2).c4.2.2.1, (hE.here.1.1.1.2).c4.2.2.2⟩) (fun hHeld => ?_)
    clear hK K
    try simp only [Act.put, List.setIfInBounds_toArray, List.set_cons_zero, List.set_cons_succ, List.getElem_toArray, List.getElem_cons_succ, List.getElem_cons_zero]
    refine wpAnyH_ready (rs := [30]) (by kernel_rfl) (by simp) (AllReadyH.cons rfl (fun K hK => ?_) (AllReadyH.nil))
    go_simp
    have hc := fcmp_v (ca := cp) (da := dp) (cb := cq) (db := dq) (hE.here.1.2) (hE.here.2) (fl_le2 (fl_plus la lc) (by decide)) (fl_le2 (fl_plus lb lc) (by decide))
    rw [cmpQ_plus, ← Hho.out] at hc
    refine (hc).mono ?_
    rintro e w24 ⟨rfl, hb⟩
    replace hE := hE.step hb
    clear hb
    clear hc
    go_wp2_with fail
    refine hK.out _ _ (⟨(hE.here.1.1.1.1.1.1.1.1.1.1.2).c4.1, (hE.here.1.1.1.1.1.1.1.1.1.1.2).c4.2.1, (hE.here.1.1.1.1.1.1.1.1.1.1.2).c4.2.2.1, (hE.here.1.1.1.1.1.1.1.1.1.1.2).c4.2.2.2, (hE.here.1.1.1.1.1.1.1.1.1.2).c4.1, (hE.here.1.1.1.1.1.1.1.1.1.2).c4.2.1, (hE.here.1.1.1.1.1.1.1.1.1.2).c4.2.2.1, (hE.here.1.1.1.1.1.1.1.1.1.2).c4.2.2.2, (hE.here.1.1.1.1.1.1.1.1.2).c4.1, (hE.here.1.1.1.1.1.1.1.1.2).c4.2.1, (hE.here.1.1.1.1.1.1.1.1.2).c4.2.2.1, (hE.here.1.1.1.1.1.1.1.1.2).c4.2.2.2, (hE.here.1.1.1.2).c4.1, (hE.here.1.1.1.2).c4.2.1, (hE.here.1.1.1.2).c4.2.2.1, (hE.here.1.1.1.2).c4.2.2.2⟩) (fun hHeld => ?_)
    clear hK K
    try simp only [Act.put, List.setIfInBounds_toArray, List.set_cons_zero, List.set_cons_succ, List.getElem_toArray, List.getElem_cons_succ, List.getElem_cons_zero]
    refine wpAnyH_take (i := 32) (v := ?v2_32_27) rfl (by kernel_rfl) (by kernel_rfl) (by kernel_rfl) (fun _ _ _ h => h) (Or.inl ⟨by rfl, ?hy2_32_27⟩) (by assumption) ?rest2_32_27
    case hy2_32_27 => intro w hSw; (try dsimp only at hSw); first | (go_simp; done) | (go_simp; with_reducible rfl)
    try simp only [Act.put, List.setIfInBounds_toArray, List.set_cons_zero, List.set_cons_succ, List.getElem_toArray, List.getElem_cons_succ, List.getElem_cons_zero]
    refine wpAnyH_take (i := 33) (v := ?v2_33_28) rfl (by kernel_rfl) (by kernel_rfl) (by kernel_rfl) (fun _ _ _ h => h) (Or.inl ⟨by rfl, ?hy2_33_28⟩) (by assumption) ?rest2_33_28
    case hy2_33_28 => intro w hSw; (try dsimp only at hSw); first | (go_simp; done) | (go_simp; with_reducible rfl)
    try simp only [Act.put, List.setIfInBounds_toArray, List.set_cons_zero, List.set_cons_succ, List.getElem_toArray, List.getElem_cons_succ, List.getElem_cons_zero]
    refine wpAnyH_take (i := 34) (v := ?v2_34_29) rfl (by kernel_rfl) (by kernel_rfl) (by kernel_rfl) (fun _ _ _ h => h) (Or.inl ⟨by rfl, ?hy2_34_29⟩) (by assumption) ?rest2_34_29
    case hy2_34_29 => intro w hSw; (try dsimp only at hSw); first | (go_simp; done) | (go_simp; with_reducible rfl)
    try simp only [Act.put, List.setIfInBounds_toArray, List.set_cons_zero, List.set_cons_succ, List.getElem_toArray, List.getElem_cons_succ, List.getElem_cons_zero]
    refine wpAnyH_take (i := 35) (v := ?v2_35_30) rfl (by kernel_rfl) (by kernel_rfl) (by kernel_rfl) (fun _ _ _ h => h) (Or.inl ⟨by rfl, ?hy2_35_30⟩) (by assumption) ?rest2_35_30
    case hy2_35_30 => intro w hSw; (try dsimp only at hSw); first | (go_simp; done) | (go_simp; with_reducible rfl)
    try simp only [Act.put, List.setIfInBounds_toArray, List.set_cons_zero, List.set_cons_succ, List.getElem_toArray, List.getElem_cons_succ, List.getElem_cons_zero]
    refine wpAnyH_take (i := 36) (v := ?v2_36_31) rfl (by kernel_rfl) (by kernel_rfl) (by kernel_rfl) (fun _ _ _ h => h) (Or.inl ⟨by rfl, ?hy2_36_31⟩) (by assumption) ?rest2_36_31
    case hy2_36_31 => intro w hSw; (try dsimp only at hSw); first | (go_simp; done) | (go_simp; with_reducible rfl)
    try simp only [Act.put, List.setIfInBounds_toArray, List.set_cons_zero, List.set_cons_succ, List.getElem_toArray, List.getElem_cons_succ, List.getElem_cons_zero]
    refine wpAnyH_take (i := 38) (v := ?v2_38_32) rfl (by kernel_rfl) (by kernel_rfl) (by kernel_rfl) (fun _ _ _ h => h) (Or.inl ⟨by rfl, ?hy2_38_32⟩) (by assumption) ?rest2_38_32
    case hy2_38_32 => intro w hSw; (try dsimp only at hSw); first | (go_simp; done) | (go_simp; with_reducible rfl)
    try simp only [Act.put, List.setIfInBounds_toArray, List.set_cons_zero, List.set_cons_succ, List.getElem_toArray, List.getElem_cons_succ, List.getElem_cons_zero]
    refine wpAnyH_take (i := 39) (v := ?v2_39_33) rfl (by kernel_rfl) (by kernel_rfl) (by kernel_rfl) (fun _ _ _ h => h) (Or.inl ⟨by rfl, ?hy2_39_33⟩) (by assumption) ?rest2_39_33
    case hy2_39_33 => intro w hSw; (try dsimp only at hSw); first | (go_simp; done) | (go_simp; with_reducible rfl)
    try simp only [Act.put, List.setIfInBounds_toArray, List.set_cons_zero, List.set_cons_succ, List.getElem_toArray, List.getElem_cons_succ, List.getElem_cons_zero]
    refine wpAnyH_take (i := 42) (v := ?v2_42_34) rfl (by kernel_rfl) (by kernel_rfl) (by kernel_rfl) (fun _ _ _ h => h) (Or.inl ⟨by rfl, ?hy2_42_34⟩) (by assumption) ?rest2_42_34
    case hy2_42_34 => intro w hSw; (try dsimp only at hSw); first | (go_simp; done) | (go_simp; with_reducible rfl)
    try simp only [Act.put, List.setIfInBounds_toArray, List.set_cons_zero, List.set_cons_succ, List.getElem_toArray, List.getElem_cons_succ, List.getElem_cons_zero]
    refine wpAnyH_take (i := 43) (v := ?v2_43_35) rfl (by kernel_rfl) (by kernel_rfl) (by kernel_rfl) (fun _ _ _ h => h) (Or.inl ⟨by rfl, ?hy2_43_35⟩) (by assumption) ?rest2_43_35
    case hy2_43_35 => intro w hSw; (try dsimp only at hSw); first | (go_simp; done) | (go_simp; with_reducible rfl)
    try simp only [Act.put, List.setIfInBounds_toArray, List.set_cons_zero, List.set_cons_succ, List.getElem_toArray, List.getElem_cons_succ, List.getElem_cons_zero]
    refine wpAnyH_take (i := 44) (v := ?v2_44_36) rfl (by kernel_rfl) (by kernel_rfl) (by kernel_rfl) (fun _ _ _ h => h) (Or.inl ⟨by rfl, ?hy2_44_36⟩) (by assumption) ?rest2_44_36
    case hy2_44_36 => intro w hSw; (try dsimp only at hSw); first | (go_simp; done) | (go_simp; with_reducible rfl)
    try simp only [Act.put, List.setIfInBounds_toArray, List.set_cons_zero, List.set_cons_succ, List.getElem_toArray, List.getElem_cons_succ, List.getElem_cons_zero]
    refine wpAnyH_ready (rs := [37]) (by kernel_rfl) (by simp) (AllReadyH.cons rfl (fun K hK => ?_) (AllReadyH.nil))
    go_simp
    refine (lw_product (ca := ca) (da := da) (cb := cc) (db := dc) (hE.here.1.1.1.1.1.1.1.2) (hE.here.1.1.1.1.1.2) (fl_le2 la (by decide)) (fl_le2 lc (by decide)) (fl_le2 (fl_times la lc) (by decide))).mono ?_
    rintro e w25 ⟨sx, Ax, nx, cx, tx, Bx, mx, dx, rfl, hx, hb⟩
    replace hE := hE.step hb
    clear hb
    replace hE := hE.fv hx
    clear hx
    go_wp2_with fail
    refine hK.out _ _ (⟨(hE.here.1.1.1.1.1.1.1.1.1.1.1.2).c4.1, (hE.here.1.1.1.1.1.1.1.1.1.1.1.2).c4.2.1, (hE.here.1.1.1.1.1.1.1.1.1.1.1.2).c4.2.2.1, (hE.here.1.1.1.1.1.1.1.1.1.1.1.2).c4.2.2.2, (hE.here.1.1.1.1.1.1.1.1.1.1.2).c4.1, (hE.here.1.1.1.1.1.1.1.1.1.1.2).c4.2.1, (hE.here.1.1.1.1.1.1.1.1.1.1.2).c4.2.2.1, (hE.here.1.1.1.1.1.1.1.1.1.1.2).c4.2.2.2, (hE.here.1.1.1.1.1.1.1.1.1.2).c4.1, (hE.here.1.1.1.1.1.1.1.1.1.2).c4.2.1, (hE.here.1.1.1.1.1.1.1.1.1.2).c4.2.2.1, (hE.here.1.1.1.1.1.1.1.1.1.2).c4.2.2.2, (hE.here.1.1.1.1.2).c4.1, (hE.here.1.1.1.1.2).c4.2.1, (hE.here.1.1.1.1.2).c4.2.2.1, (hE.here.1.1.1.1.2).c4.2.2.2⟩) (fun hHeld => ?_)
    clear hK K
    try simp only [Act.put, List.setIfInBounds_toArray, List.set_cons_zero, List.set_cons_succ, List.getElem_toArray, List.getElem_cons_succ, List.getElem_cons_zero]
    refine wpAnyH_ready (rs := [40]) (by kernel_rfl) (by simp) (AllReadyH.cons rfl (fun K hK => ?_) (AllReadyH.nil))
    go_simp
    refine (lw_product (ca := cb) (da := db) (cb := cc) (db := dc) (hE.here.1.1.1.1.1.1.1.2) (hE.here.1.1.1.1.1.1.2) (fl_le2 lb (by decide)) (fl_le2 lc (by decide)) (fl_le2 (fl_times lb lc) (by decide))).mono ?_
    rintro e w26 ⟨sy, Ay, ny, cy, ty, By, my, dy, rfl, hy, hb⟩
    replace hE := hE.step hb
    clear hb
    replace hE := hE.fv hy
    clear hy
    go_wp2_with fail
    refine hK.out _ _ (⟨(hE.here.1.1.1.1.1.1.1.1.1.1.1.1.2).c4.1, (hE.here.1.1.1.1.1.1.1.1.1.1.1.1.2).c4.2.1, (hE.here.1.1.1.1.1.1.1.1.1.1.1.1.2).c4.2.2.1, (hE.here.1.1.1.1.1.1.1.1.1.1.1.1.2).c4.2.2.2, (hE.here.1.1.1.1.1.1.1.1.1.1.1.2).c4.1, (hE.here.1.1.1.1.1.1.1.1.1.1.1.2).c4.2.1, (hE.here.1.1.1.1.1.1.1.1.1.1.1.2).c4.2.2.1, (hE.here.1.1.1.1.1.1.1.1.1.1.1.2).c4.2.2.2, (hE.here.1.1.1.1.1.1.1.1.1.1.2).c4.1, (hE.here.1.1.1.1.1.1.1.1.1.1.2).c4.2.1, (hE.here.1.1.1.1.1.1.1.1.1.1.2).c4.2.2.1, (hE.here.1.1.1.1.1.1.1.1.1.1.2).c4.2.2.2, (hE.here.1.1.1.1.1.2).c4.1, (hE.here.1.1.1.1.1.2).c4.2.1, (hE.here.1.1.1.1.1.2).c4.2.2.1, (hE.here.1.1.1.1.1.2).c4.2.2.2⟩) (fun hHeld => ?_)
    clear hK K
    try simp only [Act.put, List.setIfInBounds_toArray, List.set_cons_zero, List.set_cons_succ, List.getElem_toArray, List.getElem_cons_succ, List.getElem_cons_zero]
    refine wpAnyH_ready (rs := [41]) (by kernel_rfl) (by simp) (AllReadyH.cons rfl (fun K hK => ?_) (AllReadyH.nil))
    go_simp
    have hc := fcmp_v (ca := cx) (da := dx) (cb := cy) (db := dy) (hE.here.1.2) (hE.here.2) (fl_le2 (fl_times la lc) (by decide)) (fl_le2 (fl_times lb lc) (by decide))
    rw [cmpQ_times, ← Hho.out, ← Hhs.out] at hc
    refine (hc).mono ?_
    rintro e w27 ⟨rfl, hb⟩
    replace hE := hE.step hb
    clear hb
    clear hc
    go_wp2_with fail
    refine hK.out _ _ (⟨(hE.here.1.1.1.1.1.1.1.1.1.1.1.1.2).c4.1, (hE.here.1.1.1.1.1.1.1.1.1.1.1.1.2).c4.2.1, (hE.here.1.1.1.1.1.1.1.1.1.1.1.1.2).c4.2.2.1, (hE.here.1.1.1.1.1.1.1.1.1.1.1.1.2).c4.2.2.2, (hE.here.1.1.1.1.1.1.1.1.1.1.1.2).c4.1, (hE.here.1.1.1.1.1.1.1.1.1.1.1.2).c4.2.1, (hE.here.1.1.1.1.1.1.1.1.1.1.1.2).c4.2.2.1, (hE.here.1.1.1.1.1.1.1.1.1.1.1.2).c4.2.2.2, (hE.here.1.1.1.1.1.1.1.1.1.1.2).c4.1, (hE.here.1.1.1.1.1.1.1.1.1.1.2).c4.2.1, (hE.here.1.1.1.1.1.1.1.1.1.1.2).c4.2.2.1, (hE.here.1.1.1.1.1.1.1.1.1.1.2).c4.2.2.2, (hE.here.1.1.1.1.1.2).c4.1, (hE.here.1.1.1.1.1.2).c4.2.1, (hE.here.1.1.1.1.1.2).c4.2.2.1, (hE.here.1.1.1.1.1.2).c4.2.2.2⟩) (fun hHeld => ?_)
    clear hK K
    try simp only [Act.put, List.setIfInBounds_toArray, List.set_cons_zero, List.set_cons_succ, List.getElem_toArray, List.getElem_cons_succ, List.getElem_cons_zero]
    refine wpAnyH_take (i := 45) (v := ?v2_45_37) rfl (by kernel_rfl) (by kernel_rfl) (by kernel_rfl) (fun _ _ _ h => h) (Or.inl ⟨by rfl, ?hy2_45_37⟩) (by assumption) ?rest2_45_37
    case hy2_45_37 => intro w hSw; (try dsimp only at hSw); first | (go_simp; done) | (go_simp; with_reducible rfl)
    try simp only [Act.put, List.setIfInBounds_toArray, List.set_cons_zero, List.set_cons_succ, List.getElem_toArray, List.getElem_cons_succ, List.getElem_cons_zero]
    refine wpAnyH_take (i := 46) (v := ?v2_46_38) rfl (by kernel_rfl) (by kernel_rfl) (by kernel_rfl) (fun _ _ _ h => h) (Or.inl ⟨by rfl, ?hy2_46_38⟩) (by assumption) ?rest2_46_38
    case hy2_46_38 => intro w hSw; (try dsimp only at hSw); first | (go_simp; done) | (go_simp; with_reducible rfl)
    try simp only [Act.put, List.setIfInBounds_toArray, List.set_cons_zero, List.set_cons_succ, List.getElem_toArray, List.getElem_cons_succ, List.getElem_cons_zero]
    refine wpAnyH_done (by kernel_rfl) ?_ _
    go_upto_region 9 with (fail)
    obtain ⟨r, hr⟩ : ∃ v, v = cmpQ b c := ⟨_, rfl⟩
    have Hhr := Lib.hid hr
    clear hr
    by_cases heq : o = r
    · subst heq
      have htr : cmpQ a c = o := by rw [cmpQ_trans (by rw [← Hho.out, ← Hhr.out]), ← Hho.out]
      have Hhtr := Lib.hid htr
      clear htr
      obtain ⟨k28, k29, k30, k31⟩ := (hE.here.1.1.1.1.1.1.1.1.1.1.1.1.2).c4
      obtain ⟨k32, k33, k34, k35⟩ := (hE.here.1.1.1.1.1.1.1.1.1.1.1.2).c4
      obtain ⟨k36, k37, k38, k39⟩ := (hE.here.1.1.1.1.1.1.1.1.1.1.2).c4
      go_wp2_with fail
      have hc := fcmp_v (ca := cb) (da := db) (cb := cc) (db := dc) (hE.here.1.1.1.1.1.1.1.1.2) (hE.here.1.1.1.1.1.1.1.2) (fl_le2 lb (by decide)) (fl_le2 lc (by decide))
      rw [← Hhr.out] at hc
      refine (hc).mono ?_
      clear k28 k29 k30 k31 k32 k33 k34 k35 k36 k37 k38 k39
      rintro e w40 ⟨rfl, hb⟩
      replace hE := hE.step hb
      clear hb
      clear hc
      obtain ⟨k41, k42, k43, k44⟩ := (hE.here.1.1.1.1.1.1.1.1.1.1.1.1.2).c4
      obtain ⟨k45, k46, k47, k48⟩ := (hE.here.1.1.1.1.1.1.1.1.1.1.1.2).c4
      obtain ⟨k49, k50, k51, k52⟩ := (hE.here.1.1.1.1.1.1.1.1.1.1.2).c4
      go_wp2_with fail
      have hc := fcmp_v (ca := ca) (da := da) (cb := cc) (db := dc) (hE.here.1.1.1.1.1.1.1.1.1.2) (hE.here.1.1.1.1.1.1.1.2) (fl_le2 la (by decide)) (fl_le2 lc (by decide))
      rw [Hhtr.out] at hc
      refine (hc).mono ?_
      clear k41 k42 k43 k44 k45 k46 k47 k48 k49 k50 k51 k52
      rintro e w53 ⟨rfl, hb⟩
      replace hE := hE.step hb
      clear hb
      clear hc
      go_wp2_with fail
      go_ret
      exact ⟨rfl, hE.bel⟩
    · have u1 : (o != r) = true := bne_iff_ne.2 heq
      have u2 : (o == r) = false := by simp only [bne, Bool.not_eq_true'] at u1; exact u1
      have u3 : decide (o = r) = false := decide_eq_false heq
      obtain ⟨k54, k55, k56, k57⟩ := (hE.here.1.1.1.1.1.1.1.1.1.1.1.1.2).c4
      obtain ⟨k58, k59, k60, k61⟩ := (hE.here.1.1.1.1.1.1.1.1.1.1.1.2).c4
      obtain ⟨k62, k63, k64, k65⟩ := (hE.here.1.1.1.1.1.1.1.1.1.1.2).c4
      go_wp2_with fail
      have hc := fcmp_v (ca := cb) (da := db) (cb := cc) (db := dc) (hE.here.1.1.1.1.1.1.1.1.2) (hE.here.1.1.1.1.1.1.1.2) (fl_le2 lb (by decide)) (fl_le2 lc (by decide))
      rw [← Hhr.out] at hc
      refine (hc).mono ?_
      clear k54 k55 k56 k57 k58 k59 k60 k61 k62 k63 k64 k65
      rintro e w66 ⟨rfl, hb⟩
      replace hE := hE.step hb
      clear hb
      clear hc
      go_wp2_with fail
      go_ret
      exact ⟨rfl, hE.bel⟩
end Go.Proofs.YtifikcemcflgjaaGreat
