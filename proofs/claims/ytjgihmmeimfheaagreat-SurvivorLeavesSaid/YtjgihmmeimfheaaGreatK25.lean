/-
  Several texts in one: The walks of frac.Cmp and of the two functions Same.
-/
import Derived.Test.YtjgihmmeimfheaaGreatK3
import Derived.Test.YtjgihmmeimfheaaGreatK18
import Derived.Test.YtjgihmmeimfheaaGreatK24
namespace Go.Proofs.YtjgihmmeimfheaaGreat
open Go.RowKit

/-- The order of two fractions. -/
def cmpQ (a b : Rat) : Int := cmpZ (a.num * (b.den : Int)) (b.num * (a.den : Int))
set_option linter.unusedSimpArgs false in
set_option maxRecDepth 100000 in
set_option maxHeartbeats 2000000 in
theorem fcmp_v {a b : Rat} {sa ta sb tb : Bool} {Aa Ba Ab Bb : Option Addr} {na ca ma da nb cb mb db : Nat} {w : World} (ha : FV w a sa Aa na ta Ba ma) (hb : FV w b sb Ab nb tb Bb mb) (la : fl a ≤ 256) (lb : fl b ≤ 256) :
  Calls Tryz.prog 16 #[.agg #[.bool sa, .slice Aa na ca, .bool ta, .slice Ba ma da], .agg #[.bool sb, .slice Ab nb cb, .bool tb, .slice Bb mb db]] w (fun e w' => e = .returned (.int .i64 (cmpQ a b)) ∧ Below w.heap.size w w') := by
 have hE := ((((Env.start w).fv ha).fv hb).blk 29 #[.bool sa, .slice Aa na ca, .bool ta, .slice Ba ma da] (g := w.heap.size) rfl).blk 29 #[.bool sb, .slice Ab nb cb, .bool tb, .slice Bb mb db] (g := w.heap.size + 1) (by simp)
 obtain ⟨W0, hW0⟩ : ∃ W0, W0 = ((w.alloc (.cells #[.bool sa, .slice Aa na ca, .bool ta, .slice Ba ma da] 29)).alloc (.cells #[.bool sb, .slice Ab nb cb, .bool tb, .slice Bb mb db] 29)) := ⟨_, rfl⟩
 rw [← hW0] at hE
 have HW0 := Lib.hid hW0
 clear hW0
 go_enter Tryz.func16, Tryz.ntmps16
 go_upto_region 1 with (fail)
 rw [← HW0.out]
 obtain ⟨k1, k2, k3, k4⟩ := (hE.here.1.2).c4
 obtain ⟨k5, k6, k7, k8⟩ := (hE.here.2).c4
 go_wp2_with fail
 have hc := fallValid_v (c := ca) (d := da) (c2 := cb) (d2 := db) hE.h3 hE.h2 la lb
 refine hc.mono ?_
 clear hc
 clear k1 k2 k3 k4 k5 k6 k7 k8
 rintro e w9 ⟨rfl, hb⟩
 replace hE := hE.step hb
 clear hb
 go_upto_region 3 with (fail)
 obtain ⟨qa1, qa2⟩ := fl_le.1 la
 obtain ⟨qb1, qb2⟩ := fl_le.1 lb
 obtain ⟨ha1, ha2⟩ := (hE.h3).ln la
 obtain ⟨hb1, hb2⟩ := (hE.h2).ln lb
 have qa2 : ln b16 ((a.den : Nat) : Int).natAbs ≤ 256 := by rw [Int.natAbs_natCast]; exact qa2
 have qb2 : ln b16 ((b.den : Nat) : Int).natAbs ≤ 256 := by rw [Int.natAbs_natCast]; exact qb2
 obtain ⟨v, hv⟩ : ∃ v, v = cmpZ (a.num * (b.den : Int)) (b.num * (a.den : Int)) := ⟨_, rfl⟩
 have HV := Lib.hid hv
 clear hv
 replace hE := hE.drew
 refine wp_region_held_drew (S := fun w' => w'.cell? ⟨w.heap.size, 0, none⟩ = some (.bool sa) ∧ w'.cell? ⟨w.heap.size, 1, none⟩ = some (.slice Aa na ca) ∧ w'.cell? ⟨w.heap.size, 2, none⟩ = some (.bool ta) ∧ w'.cell? ⟨w.heap.size, 3, none⟩ = some (.slice Ba ma da) ∧ w'.cell? ⟨w.heap.size + 1, 0, none⟩ = some (.bool sb) ∧ w'.cell? ⟨w.heap.size + 1, 1, none⟩ = some (.slice Ab nb cb) ∧ w'.cell? ⟨w.heap.size + 1, 2, none⟩ = some (.bool tb) ∧ w'.cell? ⟨w.heap.size + 1, 3, none⟩ = some (.slice Bb mb db)) (by kernel_rfl) (hE.here.1.2.j4 hE.here.2.c4) (fun hHeld => ?_)
 refine tk 0 ?_
 try simp only [PL]
 refine tk 1 ?_
 try simp only [PL]
 refine tk 2 ?_
 try simp only [PL]
 refine tk 3 ?_
 try simp only [PL]
 refine tk 5 ?_
 try simp only [PL]
 refine tk 6 ?_
 try simp only [PL]
 refine tk 7 ?_
 try simp only [PL]
 refine tk 8 ?_
 try simp only [PL]
 refine r1 4 (fun K hK => ?_)
 go_simp
 have hc := ftimes_v (ca := ca) (cb := db) (hE.h3).1 (hE.h2).2 (Nat.le_trans ha1 (by decide)) (Nat.le_trans hb2 (by decide)) (Nat.le_trans (ln_mulZ (m := 256) (n := 256) qa1 qb2) (by decide))
 refine hc.mono ?_
 clear hc
 rintro e w10 ⟨sx, Ax, nx, cx, rfl, hx, hb⟩
 replace hE := hE.step hb
 clear hb
 replace hE := hE.wv hx
 clear hx
 have lx : nx ≤ 512 := by rw [(hE.here.2).len]; exact (ln_mulZ (m := 256) (n := 256) qa1 qb2)
 go_wp2_with fail
 refine hK.out _ _ (hE.h2.j4 hE.here.1.2.c4) (fun hHeld => ?_)
 clear hK K
 try simp only [PL]
 refine r1 9 (fun K hK => ?_)
 go_simp
 have hc := ftimes_v (ca := cb) (cb := da) (hE.h3).1 (hE.h4).2 (Nat.le_trans hb1 (by decide)) (Nat.le_trans ha2 (by decide)) (Nat.le_trans (ln_mulZ (m := 256) (n := 256) qb1 qa2) (by decide))
 refine hc.mono ?_
 clear hc
 rintro e w11 ⟨sy, Ay, ny, cy, rfl, hy, hb⟩
 replace hE := hE.step hb
 clear hb
 replace hE := hE.wv hy
 clear hy
 have ly : ny ≤ 512 := by rw [(hE.here.2).len]; exact (ln_mulZ (m := 256) (n := 256) qb1 qa2)
 go_wp2_with fail
 refine hK.out _ _ (hE.h3.j4 hE.h2.c4) (fun hHeld => ?_)
 clear hK K
 try simp only [PL]
 refine r1 10 (fun K hK => ?_)
 go_simp
 have hc := cmp_v (c := cx) (d := cy) hE.here.1.2 hE.here.2 (Nat.le_trans lx (by decide)) (Nat.le_trans ly (by decide))
 rw [← HV.out] at hc
 refine hE.br hc ?_
 clear hE hc
 intro w12 hE
 go_wp2_with fail
 refine hK.out _ _ (hE.h3.j4 hE.h2.c4) (fun hHeld => ?_)
 clear hK K
 try simp only [PL]
 refine tk 11 ?_
 try simp only [PL]
 refine wpAnyH_done (by kernel_rfl) ?_ _
 go_wp2_with fail
 go_ret
 exact ⟨by rw [HV.out]; rfl, hE.bel⟩
set_option linter.unusedSimpArgs false in
set_option maxRecDepth 100000 in
set_option maxHeartbeats 1000000 in
theorem fsame_v {a b : Rat} {sa ta sb tb : Bool} {Aa Ba Ab Bb : Option Addr} {na ca ma da nb cb mb db : Nat} {w : World} (ha : FV w a sa Aa na ta Ba ma) (hb : FV w b sb Ab nb tb Bb mb) (la1 : na ≤ 1000000) (la2 : ma ≤ 1000000) (lb1 : nb ≤ 1000000) (lb2 : mb ≤ 1000000) :
  Calls Tryz.prog 33 #[.agg #[.bool sa, .slice Aa na ca, .bool ta, .slice Ba ma da], .agg #[.bool sb, .slice Ab nb cb, .bool tb, .slice Bb mb db]] w fun e w' => e = .returned (.bool (decide (a = b))) ∧ Below w.heap.size w w' := by
 by_cases h1 : a.num = b.num
 ·
  have hE := ((((Env.start w).fv ha).fv hb).blk 29 #[.bool sa, .slice Aa na ca, .bool ta, .slice Ba ma da] (g := w.heap.size) rfl).blk 29 #[.bool sb, .slice Ab nb cb, .bool tb, .slice Bb mb db] (g := w.heap.size + 1) (by simp)
  obtain ⟨W0, hW0⟩ : ∃ W0, W0 = ((w.alloc (.cells #[.bool sa, .slice Aa na ca, .bool ta, .slice Ba ma da] 29)).alloc (.cells #[.bool sb, .slice Ab nb cb, .bool tb, .slice Bb mb db] 29)) := ⟨_, rfl⟩
  rw [← hW0] at hE
  have HW0 := Lib.hid hW0
  clear hW0
  go_enter Tryz.func33, Tryz.ntmps33
  go_upto_region 1 with (fail)
  rw [← HW0.out]
  obtain ⟨k1, k2, k3, k4⟩ := (hE.here.1.2).c4
  obtain ⟨k5, k6, k7, k8⟩ := (hE.here.2).c4
  go_wp2_with fail
  have hc := same_v (c := ca) (d := cb) (hE.h3).1 (hE.h2).1 la1 lb1
  rw [decide_eq_true h1] at hc
  refine hE.br hc ?_
  clear hE hc k1 k2 k3 k4 k5 k6 k7 k8
  intro w1 hE
  obtain ⟨k9, k10, k11, k12⟩ := (hE.here.1.2).c4
  obtain ⟨k13, k14, k15, k16⟩ := (hE.here.2).c4
  go_wp2_with fail
  refine hE.br (same_v (c := da) (d := db) (hE.h3).2 (hE.h2).2 la2 lb2) ?_
  clear hE k9 k10 k11 k12 k13 k14 k15 k16
  intro w2 hE
  obtain ⟨v, hv⟩ : ∃ v, v = decide (((a.den : Nat) : Int) = ((b.den : Nat) : Int)) := ⟨_, rfl⟩
  rw [← hv]
  have HV := Lib.hid hv
  clear hv
  have H1 := Lib.hid h1
  clear h1
  go_wp2_with fail
  go_ret
  refine ⟨ret_bool ?_, hE.bel⟩
  rw [HV.out]
  exact decide_eq_decide.2 ⟨fun h => Rat.ext H1.out (by omega), fun h => by rw [h]⟩
 ·
  have hE := ((((Env.start w).fv ha).fv hb).blk 29 #[.bool sa, .slice Aa na ca, .bool ta, .slice Ba ma da] (g := w.heap.size) rfl).blk 29 #[.bool sb, .slice Ab nb cb, .bool tb, .slice Bb mb db] (g := w.heap.size + 1) (by simp)
  obtain ⟨W0, hW0⟩ : ∃ W0, W0 = ((w.alloc (.cells #[.bool sa, .slice Aa na ca, .bool ta, .slice Ba ma da] 29)).alloc (.cells #[.bool sb, .slice Ab nb cb, .bool tb, .slice Bb mb db] 29)) := ⟨_, rfl⟩
  rw [← hW0] at hE
  have HW0 := Lib.hid hW0
  clear hW0
  go_enter Tryz.func33, Tryz.ntmps33
  go_upto_region 1 with (fail)
  rw [← HW0.out]
  obtain ⟨k1, k2, k3, k4⟩ := (hE.here.1.2).c4
  obtain ⟨k5, k6, k7, k8⟩ := (hE.here.2).c4
  go_wp2_with fail
  have hc := same_v (c := ca) (d := cb) (hE.h3).1 (hE.h2).1 la1 lb1
  rw [decide_eq_false h1] at hc
  refine hE.br hc ?_
  clear hE hc k1 k2 k3 k4 k5 k6 k7 k8
  intro w1 hE
  go_wp2_with fail
  go_ret
  exact ⟨ret_bool (decide_eq_false (fun h => h1 (by rw [h]))).symm, hE.bel⟩
set_option linter.unusedSimpArgs false in
set_option maxRecDepth 100000 in
set_option maxHeartbeats 1000000 in
theorem frsame_v {a b : Rat} {sa ta sb tb : Bool} {Aa Ba Ab Bb : Option Addr} {na ca ma da nb cb mb db : Nat} {w : World} (ha : FV w a sa Aa na ta Ba ma) (hb : FV w b sb Ab nb tb Bb mb) (la1 : na ≤ 1000000) (la2 : ma ≤ 1000000) (lb1 : nb ≤ 1000000) (lb2 : mb ≤ 1000000) :
  Calls Tryz.prog 37 #[.agg #[.bool sa, .slice Aa na ca, .bool ta, .slice Ba ma da], .agg #[.bool sb, .slice Ab nb cb, .bool tb, .slice Bb mb db]] w fun e w' => e = .returned (.bool (decide (a = b))) ∧ Below w.heap.size w w' := by
 by_cases h1 : a.num = b.num
 ·
  have hE := ((((Env.start w).fv ha).fv hb).blk 29 #[.bool sa, .slice Aa na ca, .bool ta, .slice Ba ma da] (g := w.heap.size) rfl).blk 29 #[.bool sb, .slice Ab nb cb, .bool tb, .slice Bb mb db] (g := w.heap.size + 1) (by simp)
  obtain ⟨W0, hW0⟩ : ∃ W0, W0 = ((w.alloc (.cells #[.bool sa, .slice Aa na ca, .bool ta, .slice Ba ma da] 29)).alloc (.cells #[.bool sb, .slice Ab nb cb, .bool tb, .slice Bb mb db] 29)) := ⟨_, rfl⟩
  rw [← hW0] at hE
  have HW0 := Lib.hid hW0
  clear hW0
  go_enter Tryz.func37, Tryz.ntmps37
  go_upto_region 1 with (fail)
  rw [← HW0.out]
  obtain ⟨k1, k2, k3, k4⟩ := (hE.here.1.2).c4
  obtain ⟨k5, k6, k7, k8⟩ := (hE.here.2).c4
  go_wp2_with fail
  have hc := refSame_v (c := ca) (d := cb) (hE.h3).1 (hE.h2).1 la1 lb1
  rw [decide_eq_true h1] at hc
  refine hE.br hc ?_
  clear hE hc k1 k2 k3 k4 k5 k6 k7 k8
  intro w1 hE
  obtain ⟨k9, k10, k11, k12⟩ := (hE.here.1.2).c4
  obtain ⟨k13, k14, k15, k16⟩ := (hE.here.2).c4
  go_wp2_with fail
  refine hE.br (refSame_v (c := da) (d := db) (hE.h3).2 (hE.h2).2 la2 lb2) ?_
  clear hE k9 k10 k11 k12 k13 k14 k15 k16
  intro w2 hE
  obtain ⟨v, hv⟩ : ∃ v, v = decide (((a.den : Nat) : Int) = ((b.den : Nat) : Int)) := ⟨_, rfl⟩
  rw [← hv]
  have HV := Lib.hid hv
  clear hv
  have H1 := Lib.hid h1
  clear h1
  go_wp2_with fail
  go_ret
  refine ⟨ret_bool ?_, hE.bel⟩
  rw [HV.out]
  exact decide_eq_decide.2 ⟨fun h => Rat.ext H1.out (by omega), fun h => by rw [h]⟩
 ·
  have hE := ((((Env.start w).fv ha).fv hb).blk 29 #[.bool sa, .slice Aa na ca, .bool ta, .slice Ba ma da] (g := w.heap.size) rfl).blk 29 #[.bool sb, .slice Ab nb cb, .bool tb, .slice Bb mb db] (g := w.heap.size + 1) (by simp)
  obtain ⟨W0, hW0⟩ : ∃ W0, W0 = ((w.alloc (.cells #[.bool sa, .slice Aa na ca, .bool ta, .slice Ba ma da] 29)).alloc (.cells #[.bool sb, .slice Ab nb cb, .bool tb, .slice Bb mb db] 29)) := ⟨_, rfl⟩
  rw [← hW0] at hE
  have HW0 := Lib.hid hW0
  clear hW0
  go_enter Tryz.func37, Tryz.ntmps37
  go_upto_region 1 with (fail)
  rw [← HW0.out]
  obtain ⟨k1, k2, k3, k4⟩ := (hE.here.1.2).c4
  obtain ⟨k5, k6, k7, k8⟩ := (hE.here.2).c4
  go_wp2_with fail
  have hc := refSame_v (c := ca) (d := cb) (hE.h3).1 (hE.h2).1 la1 lb1
  rw [decide_eq_false h1] at hc
  refine hE.br hc ?_
  clear hE hc k1 k2 k3 k4 k5 k6 k7 k8
  intro w1 hE
  go_wp2_with fail
  go_ret
  exact ⟨ret_bool (decide_eq_false (fun h => h1 (by rw [h]))).symm, hE.bel⟩
end Go.Proofs.YtjgihmmeimfheaaGreat
