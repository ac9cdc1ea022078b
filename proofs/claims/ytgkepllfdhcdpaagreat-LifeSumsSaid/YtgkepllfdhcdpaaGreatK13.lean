/-
  Several texts in one: The walks of life's Rate, Alive, Dies, Both, Either and Left.
-/
import Derived.Test.YtgkepllfdhcdpaaGreatK12
namespace Go.Proofs.YtgkepllfdhcdpaaGreat
open Go.RowKit

theorem lright_t {F S E Y : Int} {A : Option Addr} {n c : Nat} {r : Nat → RH} {w : World} (hT : TabM w A n r) (hB : TabB n r) (h : RightP F S n r E Y) :
    Calls Tryz.prog 36 #[.agg #[.int .i64 F, .int .i64 S, .slice A n c], .agg #[.int .i64 E, .int .i64 Y]] w fun e w' => e = .returned (.bool true) ∧ Below w.heap.size w w' :=
  (lright_any F S E Y A n c r w hT hB).mono fun _ _ ⟨v, he, hv, hb⟩ => by obtain rfl : v = true := hv.2 h; exact ⟨he, hb⟩
theorem lright_f {F S E Y : Int} {A : Option Addr} {n c : Nat} {r : Nat → RH} {w : World} (hT : TabM w A n r) (hB : TabB n r) (h : ¬ RightP F S n r E Y) :
    Calls Tryz.prog 36 #[.agg #[.int .i64 F, .int .i64 S, .slice A n c], .agg #[.int .i64 E, .int .i64 Y]] w fun e w' => e = .returned (.bool false) ∧ Below w.heap.size w w' :=
  (lright_any F S E Y A n c r w hT hB).mono fun _ _ ⟨v, he, hv, hb⟩ => by
    cases v with
    | true => exact absurd (hv.1 rfl) h
    | false => exact ⟨he, hb⟩
/-- The rates of a life. -/
def fr (F S : Int) (n : Nat) (r : Nat → RH) (E Y : Int) : Nat → Rat := fun i => rt F S n r E Y (i : Int)
set_option linter.unusedSimpArgs false in
set_option maxRecDepth 100000 in
set_option maxHeartbeats 4000000 in
theorem lAlive_v {F S E Y : Int} {A : Option Addr} {n c : Nat} {r : Nat → RH} {w : World} (hT : TabM w A n r) (hB : TabB n r) (hR : RightP F S n r E Y) (k : Nat) (hk : k ≤ 9223372036854775807) :
    Calls Tryz.prog 21 #[.agg #[.int .i64 F, .int .i64 S, .slice A n c], .agg #[.int .i64 E, .int .i64 Y], .int .i64 (k : Int)] w (FOK (pr (fr F S n r E Y) k) w) := by
  have t1 : decide ((k : Int) < 0) = false := decide_eq_false (by omega)
  have t2 : ¬ (k : Int) < 0 := by omega
  have hE := (((Env.start w).tab hT).blk 24 #[.int .i64 F, .int .i64 S, .slice A n c] (g := w.heap.size) rfl).blk 26 #[.int .i64 E, .int .i64 Y] (g := w.heap.size + 1) (by simp)
  have hE := hE.blk 40 #[.bool false, .slice none 0 0, .bool false, .slice none 0 0] (g := w.heap.size + 1 + 1) (by simp)
  obtain ⟨W0, hW0⟩ : ∃ W0, W0 = (((w.alloc (.cells #[.int .i64 F, .int .i64 S, .slice A n c] 24)).alloc (.cells #[.int .i64 E, .int .i64 Y] 26)).alloc (.cells #[.bool false, .slice none 0 0, .bool false, .slice none 0 0] 40)) := ⟨_, rfl⟩
  rw [← hW0] at hE
  have HW0 := Lib.hid hW0
  clear hW0
  go_enter Tryz.func21, Tryz.ntmps21
  go_upto_region 1 with (fail)
  rw [← HW0.out]
  obtain ⟨k1, k2, k3⟩ := (hE.here.1.1.2).c3
  obtain ⟨k4, k5⟩ := (hE.here.1.2).c2
  go_wp2_with fail
  have hc := lright_t (c := c) hE.here.1.1.1.2 hB hR
  refine hc.mono ?_
  clear hc
  clear k1 k2 k3 k4 k5
  rintro e w6 ⟨rfl, hb⟩
  replace hE := hE.step hb
  clear hb
  obtain ⟨k7, k8, k9⟩ := (hE.here.1.1.2).c3
  obtain ⟨k10, k11⟩ := (hE.here.1.2).c2
  go_wp2_with fail
  have hc := lalive_v (c := c) hE.here.1.1.1.2 hR k hk
  change Calls _ _ _ _ (FR (pr (fr F S n r E Y) k) _) at hc
  refine hc.mono ?_
  clear hc
  clear k7 k8 k9 k10 k11
  rintro e w12 ⟨sr, Ar, nr, cr, tr, Br, mr, dr, rfl, hr, hb⟩
  replace hE := hE.step hb
  clear hb
  replace hE := hE.fv hr
  clear hr
  have hRl : w.heap.size ≤ w.heap.size + 1 + 1 := by omega
  obtain ⟨WW, hWW, hB, hV, hBel⟩ := ret_frac hE hE.here.1.2 hRl hE.here.2 cr dr
  obtain ⟨x0, x1, x2, x3⟩ := (hE.here.1.2).c4
  have fz := fun i => (hE.here.1.2).frozen i
  have fz0 := fz 0
  have fz1 := fz 1
  have fz2 := fz 2
  have fz3 := fz 3
  clear fz
  have HWW := Lib.hid hWW
  clear hWW
  go_wp2_with fail
  clear x0 x1 x2 x3
  rw [← HWW.out]
  obtain ⟨y0, y1, y2, y3⟩ := hB.c4
  refine bodyPost_ret (v := .tuple #[.agg #[.bool sr, .slice Ar nr cr, .bool tr, .slice Br mr dr], .int .i64 0]) (by simp [results, Tryz.results21, go_sem, y0, y1, y2, y3]) rfl ?_
  exact ⟨sr, Ar, nr, cr, tr, Br, mr, dr, rfl, hV, hBel⟩
set_option linter.unusedSimpArgs false in
set_option maxRecDepth 100000 in
set_option maxHeartbeats 4000000 in
theorem lDies_v {F S E Y : Int} {A : Option Addr} {n c : Nat} {r : Nat → RH} {w : World} (hT : TabM w A n r) (hB : TabB n r) (hR : RightP F S n r E Y) (k : Nat) (hk : k ≤ 9223372036854775807) :
    Calls Tryz.prog 22 #[.agg #[.int .i64 F, .int .i64 S, .slice A n c], .agg #[.int .i64 E, .int .i64 Y], .int .i64 (k : Int)] w (FOK (pr (fr F S n r E Y) k * fr F S n r E Y k) w) := by
  have t1 : decide ((k : Int) < 0) = false := decide_eq_false (by omega)
  have t2 : ¬ (k : Int) < 0 := by omega
  have hE := (((Env.start w).tab hT).blk 24 #[.int .i64 F, .int .i64 S, .slice A n c] (g := w.heap.size) rfl).blk 26 #[.int .i64 E, .int .i64 Y] (g := w.heap.size + 1) (by simp)
  have hE := hE.blk 40 #[.bool false, .slice none 0 0, .bool false, .slice none 0 0] (g := w.heap.size + 1 + 1) (by simp)
  obtain ⟨W0, hW0⟩ : ∃ W0, W0 = (((w.alloc (.cells #[.int .i64 F, .int .i64 S, .slice A n c] 24)).alloc (.cells #[.int .i64 E, .int .i64 Y] 26)).alloc (.cells #[.bool false, .slice none 0 0, .bool false, .slice none 0 0] 40)) := ⟨_, rfl⟩
  rw [← hW0] at hE
  have HW0 := Lib.hid hW0
  clear hW0
  go_enter Tryz.func22, Tryz.ntmps22
  go_upto_region 1 with (fail)
  rw [← HW0.out]
  obtain ⟨k1, k2, k3⟩ := (hE.here.1.1.2).c3
  obtain ⟨k4, k5⟩ := (hE.here.1.2).c2
  go_wp2_with fail
  have hc := lright_t (c := c) hE.here.1.1.1.2 hB hR
  refine hc.mono ?_
  clear hc
  clear k1 k2 k3 k4 k5
  rintro e w6 ⟨rfl, hb⟩
  replace hE := hE.step hb
  clear hb
  obtain ⟨k7, k8, k9⟩ := (hE.here.1.1.2).c3
  obtain ⟨k10, k11⟩ := (hE.here.1.2).c2
  go_wp2_with fail
  have hc := ldies_v (c := c) hE.here.1.1.1.2 hR k hk
  change Calls _ _ _ _ (FR (pr (fr F S n r E Y) k * fr F S n r E Y k) _) at hc
  refine hc.mono ?_
  clear hc
  clear k7 k8 k9 k10 k11
  rintro e w12 ⟨sr, Ar, nr, cr, tr, Br, mr, dr, rfl, hr, hb⟩
  replace hE := hE.step hb
  clear hb
  replace hE := hE.fv hr
  clear hr
  have hRl : w.heap.size ≤ w.heap.size + 1 + 1 := by omega
  obtain ⟨WW, hWW, hB, hV, hBel⟩ := ret_frac hE hE.here.1.2 hRl hE.here.2 cr dr
  obtain ⟨x0, x1, x2, x3⟩ := (hE.here.1.2).c4
  have fz := fun i => (hE.here.1.2).frozen i
  have fz0 := fz 0
  have fz1 := fz 1
  have fz2 := fz 2
  have fz3 := fz 3
  clear fz
  have HWW := Lib.hid hWW
  clear hWW
  go_wp2_with fail
  clear x0 x1 x2 x3
  rw [← HWW.out]
  obtain ⟨y0, y1, y2, y3⟩ := hB.c4
  refine bodyPost_ret (v := .tuple #[.agg #[.bool sr, .slice Ar nr cr, .bool tr, .slice Br mr dr], .int .i64 0]) (by simp [results, Tryz.results22, go_sem, y0, y1, y2, y3]) rfl ?_
  exact ⟨sr, Ar, nr, cr, tr, Br, mr, dr, rfl, hV, hBel⟩
set_option linter.unusedSimpArgs false in
set_option maxRecDepth 100000 in
set_option maxHeartbeats 4000000 in
theorem leither1_v {a b : Rat} {sa ta sb tb : Bool} {Aa Ba Ab Bb : Option Addr} {na ca ma da nb cb mb db : Nat} {w : World} (ha : FV w a sa Aa na ta Ba ma) (hb : FV w b sb Ab nb tb Bb mb) (sma : Sm a 112) (smb : Sm b 112) :
    Calls Tryz.prog 69 #[.agg #[.bool sa, .slice Aa na ca, .bool ta, .slice Ba ma da], .agg #[.bool sb, .slice Ab nb cb, .bool tb, .slice Bb mb db]] w (FR (1 - (1 - a) * (1 - b)) w) := by
  have hE := ((((Env.start w).fv ha).fv hb).blk 40 #[.bool sa, .slice Aa na ca, .bool ta, .slice Ba ma da] (g := w.heap.size) rfl).blk 40 #[.bool sb, .slice Ab nb cb, .bool tb, .slice Bb mb db] (g := w.heap.size + 1) (by simp)
  have hE := hE.blk 40 #[.bool false, .slice none 0 0, .bool false, .slice none 0 0] (g := w.heap.size + 1 + 1) (by simp)
  obtain ⟨W0, hW0⟩ : ∃ W0, W0 = (((w.alloc (.cells #[.bool sa, .slice Aa na ca, .bool ta, .slice Ba ma da] 40)).alloc (.cells #[.bool sb, .slice Ab nb cb, .bool tb, .slice Bb mb db] 40)).alloc (.cells #[.bool false, .slice none 0 0, .bool false, .slice none 0 0] 40)) := ⟨_, rfl⟩
  rw [← hW0] at hE
  have HW0 := Lib.hid hW0
  clear hW0
  go_enter Tryz.func69, Tryz.ntmps69
  go_upto_region 1 with (fail)
  rw [← HW0.out]
  replace hE := hE.drew
  refine wp_region_held_drew (S := fun w' => w'.cell? ⟨w.heap.size, 0, none⟩ = some (.bool sa) ∧ w'.cell? ⟨w.heap.size, 1, none⟩ = some (.slice Aa na ca) ∧ w'.cell? ⟨w.heap.size, 2, none⟩ = some (.bool ta) ∧ w'.cell? ⟨w.heap.size, 3, none⟩ = some (.slice Ba ma da) ∧ w'.cell? ⟨w.heap.size + 1, 0, none⟩ = some (.bool sb) ∧ w'.cell? ⟨w.heap.size + 1, 1, none⟩ = some (.slice Ab nb cb) ∧ w'.cell? ⟨w.heap.size + 1, 2, none⟩ = some (.bool tb) ∧ w'.cell? ⟨w.heap.size + 1, 3, none⟩ = some (.slice Bb mb db)) (by kernel_rfl) (⟨(hE.here.1.1.2).c4.1, (hE.here.1.1.2).c4.2.1, (hE.here.1.1.2).c4.2.2.1, (hE.here.1.1.2).c4.2.2.2, (hE.here.1.2).c4.1, (hE.here.1.2).c4.2.1, (hE.here.1.2).c4.2.2.1, (hE.here.1.2).c4.2.2.2⟩) (fun hHeld => ?_)
  refine wpAnyH_take (i := 0) (v := ?v1_0_1) rfl (by kernel_rfl) (by kernel_rfl) (by kernel_rfl) (fun _ _ _ h => h) (Or.inl ⟨by rfl, ?hy1_0_1⟩) (by assumption) ?rest1_0_1
  case hy1_0_1 => intro w hSw; (try dsimp only at hSw); first | (go_simp; done) | (go_simp; with_reducible rfl)
  try simp only [Act.put, List.setIfInBounds_toArray, List.set_cons_zero, List.set_cons_succ, List.getElem_toArray, List.getElem_cons_succ, List.getElem_cons_zero]
  refine wpAnyH_take (i := 2) (v := ?v1_2_2) rfl (by kernel_rfl) (by kernel_rfl) (by kernel_rfl) (fun _ _ _ h => h) (Or.inl ⟨by rfl, ?hy1_2_2⟩) (by assumption) ?rest1_2_2
  case hy1_2_2 => intro w hSw; (try dsimp only at hSw); first | (go_simp; done) | (go_simp; with_reducible rfl)
  try simp only [Act.put, List.setIfInBounds_toArray, List.set_cons_zero, List.set_cons_succ, List.getElem_toArray, List.getElem_cons_succ, List.getElem_cons_zero]
  refine wpAnyH_ready (rs := [1]) (by kernel_rfl) (by simp) (AllReadyH.cons rfl (fun K hK => ?_) (AllReadyH.nil))
  go_simp
  have hc := lother_v (ca := ca) (da := da) hE.here.1.1.1.1.2 (sma.l (by decide)) (sma.no.l (by decide))
  refine hc.mono ?_
  clear hc
  rintro e w1 ⟨sp, Ap, np, cp, tp, Bp, mp, dp, rfl, hp, hb⟩
  replace hE := hE.step hb
  clear hb
  replace hE := hE.fv hp
  clear hp
  go_wp2_with fail
  refine hK.out _ _ (⟨(hE.here.1.1.1.2).c4.1, (hE.here.1.1.1.2).c4.2.1, (hE.here.1.1.1.2).c4.2.2.1, (hE.here.1.1.1.2).c4.2.2.2, (hE.here.1.1.2).c4.1, (hE.here.1.1.2).c4.2.1, (hE.here.1.1.2).c4.2.2.1, (hE.here.1.1.2).c4.2.2.2⟩) (fun hHeld => ?_)
  clear hK K
  try simp only [Act.put, List.setIfInBounds_toArray, List.set_cons_zero, List.set_cons_succ, List.getElem_toArray, List.getElem_cons_succ, List.getElem_cons_zero]
  refine wpAnyH_ready (rs := [3]) (by kernel_rfl) (by simp) (AllReadyH.cons rfl (fun K hK => ?_) (AllReadyH.nil))
  go_simp
  have hc := lother_v (ca := cb) (da := db) hE.here.1.1.1.1.2 (smb.l (by decide)) (smb.no.l (by decide))
  refine hc.mono ?_
  clear hc
  rintro e w2 ⟨sq, Aq, nq, cq, tq, Bq, mq, dq, rfl, hq, hb⟩
  replace hE := hE.step hb
  clear hb
  replace hE := hE.fv hq
  clear hq
  go_wp2_with fail
  refine hK.out _ _ (⟨(hE.here.1.1.1.1.2).c4.1, (hE.here.1.1.1.1.2).c4.2.1, (hE.here.1.1.1.1.2).c4.2.2.1, (hE.here.1.1.1.1.2).c4.2.2.2, (hE.here.1.1.1.2).c4.1, (hE.here.1.1.1.2).c4.2.1, (hE.here.1.1.1.2).c4.2.2.1, (hE.here.1.1.1.2).c4.2.2.2⟩) (fun hHeld => ?_)
  clear hK K
  try simp only [Act.put, List.setIfInBounds_toArray, List.set_cons_zero, List.set_cons_succ, List.getElem_toArray, List.getElem_cons_succ, List.getElem_cons_zero]
  refine wpAnyH_ready (rs := [4]) (by kernel_rfl) (by simp) (AllReadyH.cons rfl (fun K hK => ?_) (AllReadyH.nil))
  go_simp
  have hc := ltimes_v (ca := cp) (da := dp) (cb := cq) (db := dq) hE.here.1.2 hE.here.2 (sma.no.l (by decide)) (smb.no.l (by decide)) ((sma.no.mul smb.no).l (by decide))
  refine hc.mono ?_
  clear hc
  rintro e w3 ⟨sm, Am, nm, cm, tm, Bm, mm, dm, rfl, hm, hb⟩
  replace hE := hE.step hb
  clear hb
  replace hE := hE.fv hm
  clear hm
  go_wp2_with fail
  refine hK.out _ _ (⟨(hE.here.1.1.1.1.1.2).c4.1, (hE.here.1.1.1.1.1.2).c4.2.1, (hE.here.1.1.1.1.1.2).c4.2.2.1, (hE.here.1.1.1.1.1.2).c4.2.2.2, (hE.here.1.1.1.1.2).c4.1, (hE.here.1.1.1.1.2).c4.2.1, (hE.here.1.1.1.1.2).c4.2.2.1, (hE.here.1.1.1.1.2).c4.2.2.2⟩) (fun hHeld => ?_)
  clear hK K
  try simp only [Act.put, List.setIfInBounds_toArray, List.set_cons_zero, List.set_cons_succ, List.getElem_toArray, List.getElem_cons_succ, List.getElem_cons_zero]
  refine wpAnyH_ready (rs := [5]) (by kernel_rfl) (by simp) (AllReadyH.cons rfl (fun K hK => ?_) (AllReadyH.nil))
  go_simp
  have hc := lother_v (ca := cm) (da := dm) hE.here.2 ((sma.no.mul smb.no).l (by decide)) ((sma.no.mul smb.no).no.l (by decide))
  refine hc.mono ?_
  clear hc
  rintro e w4 ⟨sz, Az, nz, cz, tz, Bz, mz, dz, rfl, hz, hb⟩
  replace hE := hE.step hb
  clear hb
  replace hE := hE.fv hz
  clear hz
  go_wp2_with fail
  refine hK.out _ _ (⟨(hE.here.1.1.1.1.1.1.2).c4.1, (hE.here.1.1.1.1.1.1.2).c4.2.1, (hE.here.1.1.1.1.1.1.2).c4.2.2.1, (hE.here.1.1.1.1.1.1.2).c4.2.2.2, (hE.here.1.1.1.1.1.2).c4.1, (hE.here.1.1.1.1.1.2).c4.2.1, (hE.here.1.1.1.1.1.2).c4.2.2.1, (hE.here.1.1.1.1.1.2).c4.2.2.2⟩) (fun hHeld => ?_)
  clear hK K
  try simp only [Act.put, List.setIfInBounds_toArray, List.set_cons_zero, List.set_cons_succ, List.getElem_toArray, List.getElem_cons_succ, List.getElem_cons_zero]
  refine wpAnyH_ready (rs := [6]) (by kernel_rfl) (by simp) (AllReadyH.cons rfl (fun K hK => ?_) (AllReadyH.nil))
  have hRl : w.heap.size ≤ w.heap.size + 1 + 1 := by omega
  obtain ⟨WW, hWW, hB, hV, hBel⟩ := ret_frac hE hE.here.1.1.1.1.2 hRl hE.here.2 cz dz
  obtain ⟨x0, x1, x2, x3⟩ := (hE.here.1.1.1.1.2).c4
  have fz := fun i => (hE.here.1.1.1.1.2).frozen i
  have fz0 := fz 0
  have fz1 := fz 1
  have fz2 := fz 2
  have fz3 := fz 3
  clear fz
  have HWW := Lib.hid hWW
  clear hWW
  have q5 := (hE.here.1.1.1.1.1.1.2).far4 (R := w.heap.size + 1 + 1) (by omega) (.bool sz) (.slice Az nz cz) (.bool tz) (.slice Bz mz dz)
  rw [← HWW.out] at q5
  have q6 := (hE.here.1.1.1.1.1.2).far4 (R := w.heap.size + 1 + 1) (by omega) (.bool sz) (.slice Az nz cz) (.bool tz) (.slice Bz mz dz)
  rw [← HWW.out] at q6
  go_simp
  rw [← HWW.out]
  refine hK.out _ _ (⟨(q5).c4.1, (q5).c4.2.1, (q5).c4.2.2.1, (q5).c4.2.2.2, (q6).c4.1, (q6).c4.2.1, (q6).c4.2.2.1, (q6).c4.2.2.2⟩) (fun hHeld => ?_)
  clear hK K
  try simp only [Act.put, List.setIfInBounds_toArray, List.set_cons_zero, List.set_cons_succ, List.getElem_toArray, List.getElem_cons_succ, List.getElem_cons_zero]
  refine wpAnyH_done (by kernel_rfl) ?_ _
  go_wp2_with fail
  obtain ⟨y0, y1, y2, y3⟩ := hB.c4
  refine bodyPost_ret (v := .agg #[.bool sz, .slice Az nz cz, .bool tz, .slice Bz mz dz]) (by simp [results, Tryz.results69, go_sem, y0, y1, y2, y3]) rfl ?_
  exact ⟨sz, Az, nz, cz, tz, Bz, mz, dz, rfl, hV, hBel⟩
set_option linter.unusedSimpArgs false in
set_option maxRecDepth 100000 in
set_option maxHeartbeats 4000000 in
theorem lleft1_v {a b : Rat} {sa ta sb tb : Bool} {Aa Ba Ab Bb : Option Addr} {na ca ma da nb cb mb db : Nat} {w : World} (ha : FV w a sa Aa na ta Ba ma) (hb : FV w b sb Ab nb tb Bb mb) (sma : Sm a 112) (smb : Sm b 112) :
    Calls Tryz.prog 70 #[.agg #[.bool sa, .slice Aa na ca, .bool ta, .slice Ba ma da], .agg #[.bool sb, .slice Ab nb cb, .bool tb, .slice Bb mb db]] w (FR ((1 - a) * b) w) := by
  have hE := ((((Env.start w).fv ha).fv hb).blk 40 #[.bool sa, .slice Aa na ca, .bool ta, .slice Ba ma da] (g := w.heap.size) rfl).blk 40 #[.bool sb, .slice Ab nb cb, .bool tb, .slice Bb mb db] (g := w.heap.size + 1) (by simp)
  have hE := hE.blk 40 #[.bool false, .slice none 0 0, .bool false, .slice none 0 0] (g := w.heap.size + 1 + 1) (by simp)
  obtain ⟨W0, hW0⟩ : ∃ W0, W0 = (((w.alloc (.cells #[.bool sa, .slice Aa na ca, .bool ta, .slice Ba ma da] 40)).alloc (.cells #[.bool sb, .slice Ab nb cb, .bool tb, .slice Bb mb db] 40)).alloc (.cells #[.bool false, .slice none 0 0, .bool false, .slice none 0 0] 40)) := ⟨_, rfl⟩
  rw [← hW0] at hE
  have HW0 := Lib.hid hW0
  clear hW0
  go_enter Tryz.func70, Tryz.ntmps70
  go_upto_region 1 with (fail)
  rw [← HW0.out]
  replace hE := hE.drew
  refine wp_region_held_drew (S := fun w' => w'.cell? ⟨w.heap.size, 0, none⟩ = some (.bool sa) ∧ w'.cell? ⟨w.heap.size, 1, none⟩ = some (.slice Aa na ca) ∧ w'.cell? ⟨w.heap.size, 2, none⟩ = some (.bool ta) ∧ w'.cell? ⟨w.heap.size, 3, none⟩ = some (.slice Ba ma da) ∧ w'.cell? ⟨w.heap.size + 1, 0, none⟩ = some (.bool sb) ∧ w'.cell? ⟨w.heap.size + 1, 1, none⟩ = some (.slice Ab nb cb) ∧ w'.cell? ⟨w.heap.size + 1, 2, none⟩ = some (.bool tb) ∧ w'.cell? ⟨w.heap.size + 1, 3, none⟩ = some (.slice Bb mb db)) (by kernel_rfl) (⟨(hE.here.1.1.2).c4.1, (hE.here.1.1.2).c4.2.1, (hE.here.1.1.2).c4.2.2.1, (hE.here.1.1.2).c4.2.2.2, (hE.here.1.2).c4.1, (hE.here.1.2).c4.2.1, (hE.here.1.2).c4.2.2.1, (hE.here.1.2).c4.2.2.2⟩) (fun hHeld => ?_)
  refine wpAnyH_take (i := 0) (v := ?v2_0_1) rfl (by kernel_rfl) (by kernel_rfl) (by kernel_rfl) (fun _ _ _ h => h) (Or.inl ⟨by rfl, ?hy2_0_1⟩) (by assumption) ?rest2_0_1
  case hy2_0_1 => intro w hSw; (try dsimp only at hSw); first | (go_simp; done) | (go_simp; with_reducible rfl)
  try simp only [Act.put, List.setIfInBounds_toArray, List.set_cons_zero, List.set_cons_succ, List.getElem_toArray, List.getElem_cons_succ, List.getElem_cons_zero]
  refine wpAnyH_take (i := 2) (v := ?v2_2_2) rfl (by kernel_rfl) (by kernel_rfl) (by kernel_rfl) (fun _ _ _ h => h) (Or.inl ⟨by rfl, ?hy2_2_2⟩) (by assumption) ?rest2_2_2
  case hy2_2_2 => intro w hSw; (try dsimp only at hSw); first | (go_simp; done) | (go_simp; with_reducible rfl)
  try simp only [Act.put, List.setIfInBounds_toArray, List.set_cons_zero, List.set_cons_succ, List.getElem_toArray, List.getElem_cons_succ, List.getElem_cons_zero]
  refine wpAnyH_ready (rs := [1]) (by kernel_rfl) (by simp) (AllReadyH.cons rfl (fun K hK => ?_) (AllReadyH.nil))
  go_simp
  have hc := lother_v (ca := ca) (da := da) hE.here.1.1.1.1.2 (sma.l (by decide)) (sma.no.l (by decide))
  refine hc.mono ?_
  clear hc
  rintro e w1 ⟨sp, Ap, np, cp, tp, Bp, mp, dp, rfl, hp, hb⟩
  replace hE := hE.step hb
  clear hb
  replace hE := hE.fv hp
  clear hp
  go_wp2_with fail
  refine hK.out _ _ (⟨(hE.here.1.1.1.2).c4.1, (hE.here.1.1.1.2).c4.2.1, (hE.here.1.1.1.2).c4.2.2.1, (hE.here.1.1.1.2).c4.2.2.2, (hE.here.1.1.2).c4.1, (hE.here.1.1.2).c4.2.1, (hE.here.1.1.2).c4.2.2.1, (hE.here.1.1.2).c4.2.2.2⟩) (fun hHeld => ?_)
  clear hK K
  try simp only [Act.put, List.setIfInBounds_toArray, List.set_cons_zero, List.set_cons_succ, List.getElem_toArray, List.getElem_cons_succ, List.getElem_cons_zero]
  refine wpAnyH_ready (rs := [3]) (by kernel_rfl) (by simp) (AllReadyH.cons rfl (fun K hK => ?_) (AllReadyH.nil))
  go_simp
  have hc := ltimes_v (ca := cp) (da := dp) (cb := cb) (db := db) hE.here.2 hE.here.1.1.1.1.2 (sma.no.l (by decide)) (smb.l (by decide)) ((sma.no.mul smb).l (by decide))
  refine hc.mono ?_
  clear hc
  rintro e w2 ⟨sm, Am, nm, cm, tm, Bm, mm, dm, rfl, hm, hb⟩
  replace hE := hE.step hb
  clear hb
  replace hE := hE.fv hm
  clear hm
  go_wp2_with fail
  refine hK.out _ _ (⟨(hE.here.1.1.1.1.2).c4.1, (hE.here.1.1.1.1.2).c4.2.1, (hE.here.1.1.1.1.2).c4.2.2.1, (hE.here.1.1.1.1.2).c4.2.2.2, (hE.here.1.1.1.2).c4.1, (hE.here.1.1.1.2).c4.2.1, (hE.here.1.1.1.2).c4.2.2.1, (hE.here.1.1.1.2).c4.2.2.2⟩) (fun hHeld => ?_)
  clear hK K
  try simp only [Act.put, List.setIfInBounds_toArray, List.set_cons_zero, List.set_cons_succ, List.getElem_toArray, List.getElem_cons_succ, List.getElem_cons_zero]
  refine wpAnyH_ready (rs := [4]) (by kernel_rfl) (by simp) (AllReadyH.cons rfl (fun K hK => ?_) (AllReadyH.nil))
  have hRl : w.heap.size ≤ w.heap.size + 1 + 1 := by omega
  obtain ⟨WW, hWW, hB, hV, hBel⟩ := ret_frac hE hE.here.1.1.2 hRl hE.here.2 cm dm
  obtain ⟨x0, x1, x2, x3⟩ := (hE.here.1.1.2).c4
  have fz := fun i => (hE.here.1.1.2).frozen i
  have fz0 := fz 0
  have fz1 := fz 1
  have fz2 := fz 2
  have fz3 := fz 3
  clear fz
  have HWW := Lib.hid hWW
  clear hWW
  have q3 := (hE.here.1.1.1.1.2).far4 (R := w.heap.size + 1 + 1) (by omega) (.bool sm) (.slice Am nm cm) (.bool tm) (.slice Bm mm dm)
  rw [← HWW.out] at q3
  have q4 := (hE.here.1.1.1.2).far4 (R := w.heap.size + 1 + 1) (by omega) (.bool sm) (.slice Am nm cm) (.bool tm) (.slice Bm mm dm)
  rw [← HWW.out] at q4
  go_simp
  rw [← HWW.out]
  refine hK.out _ _ (⟨(q3).c4.1, (q3).c4.2.1, (q3).c4.2.2.1, (q3).c4.2.2.2, (q4).c4.1, (q4).c4.2.1, (q4).c4.2.2.1, (q4).c4.2.2.2⟩) (fun hHeld => ?_)
  clear hK K
  try simp only [Act.put, List.setIfInBounds_toArray, List.set_cons_zero, List.set_cons_succ, List.getElem_toArray, List.getElem_cons_succ, List.getElem_cons_zero]
  refine wpAnyH_done (by kernel_rfl) ?_ _
  go_wp2_with fail
  obtain ⟨y0, y1, y2, y3⟩ := hB.c4
  refine bodyPost_ret (v := .agg #[.bool sm, .slice Am nm cm, .bool tm, .slice Bm mm dm]) (by simp [results, Tryz.results70, go_sem, y0, y1, y2, y3]) rfl ?_
  exact ⟨sm, Am, nm, cm, tm, Bm, mm, dm, rfl, hV, hBel⟩
theorem life_sm {F S E Y : Int} {A : Option Addr} {n : Nat} {r : Nat → RH} {w : World} (hT : TabM w A n r) (hR : RightP F S n r E Y) (k : Nat) : Sm (pr (fr F S n r E Y) k) 112 := by
  obtain ⟨M, hM, -, -, hM1⟩ := last_year hR
  exact pr_any (rt_rates hT hR 200) hM hM1 k
theorem life_smd {F S E Y : Int} {A : Option Addr} {n : Nat} {r : Nat → RH} {w : World} (hT : TabM w A n r) (hR : RightP F S n r E Y) (k : Nat) : Sm (pr (fr F S n r E Y) k * fr F S n r E Y k) 113 := by
  obtain ⟨M, hM, -, -, hM1⟩ := last_year hR
  exact prd_any (rt_rates hT hR 200) hM hM1 k
set_option linter.unusedSimpArgs false in
set_option maxRecDepth 100000 in
set_option maxHeartbeats 4000000 in
theorem lcombine_both {F S E Y E2 Y2 : Int} {A : Option Addr} {n c : Nat} {r : Nat → RH} {w : World} (hT : TabM w A n r) (hB : TabB n r) (hR : RightP F S n r E Y) (hR2 : RightP F S n r E2 Y2) (k : Nat) (hk : k ≤ 9223372036854775807) :
    Calls Tryz.prog 68 #[.agg #[.int .i64 F, .int .i64 S, .slice A n c], .agg #[.int .i64 E, .int .i64 Y], .agg #[.int .i64 E2, .int .i64 Y2], .int .i64 (k : Int), .func (.func 65) #[] #[]] w (FOK ((pr (fr F S n r E Y) k * pr (fr F S n r E2 Y2) k)) w) := by
  have t1 : decide ((k : Int) < 0) = false := decide_eq_false (by omega)
  have t2 : ¬ (k : Int) < 0 := by omega
  obtain ⟨P, hP⟩ : ∃ P, P = pr (fr F S n r E Y) k := ⟨_, rfl⟩
  obtain ⟨Q, hQ⟩ : ∃ Q, Q = pr (fr F S n r E2 Y2) k := ⟨_, rfl⟩
  have sP : Sm P 112 := by rw [hP]; exact life_sm hT hR k
  have sQ : Sm Q 112 := by rw [hQ]; exact life_sm hT hR2 k
  rw [← hP, ← hQ]
  have HP := Lib.hid hP
  have HQ := Lib.hid hQ
  clear hP hQ
  have hE := ((((Env.start w).tab hT).blk 24 #[.int .i64 F, .int .i64 S, .slice A n c] (g := w.heap.size) rfl).blk 26 #[.int .i64 E, .int .i64 Y] (g := w.heap.size + 1) (by simp)).blk 26 #[.int .i64 E2, .int .i64 Y2] (g := w.heap.size + 1 + 1) (by simp)
  have hE := hE.blk 40 #[.bool false, .slice none 0 0, .bool false, .slice none 0 0] (g := w.heap.size + 1 + 1 + 1) (by simp)
  obtain ⟨W0, hW0⟩ : ∃ W0, W0 = ((((w.alloc (.cells #[.int .i64 F, .int .i64 S, .slice A n c] 24)).alloc (.cells #[.int .i64 E, .int .i64 Y] 26)).alloc (.cells #[.int .i64 E2, .int .i64 Y2] 26)).alloc (.cells #[.bool false, .slice none 0 0, .bool false, .slice none 0 0] 40)) := ⟨_, rfl⟩
  rw [← hW0] at hE
  have HW0 := Lib.hid hW0
  clear hW0
  go_enter Tryz.func68, Tryz.ntmps68
  go_upto_region 1 with (fail)
  rw [← HW0.out]
  obtain ⟨k1, k2, k3⟩ := (hE.here.1.1.1.2).c3
  obtain ⟨k4, k5⟩ := (hE.here.1.1.2).c2
  obtain ⟨k6, k7⟩ := (hE.here.1.2).c2
  go_wp2_with fail
  have hc := lright_t (c := c) hE.here.1.1.1.1.2 hB hR
  refine hc.mono ?_
  clear hc
  clear k1 k2 k3 k4 k5 k6 k7
  rintro e w8 ⟨rfl, hb⟩
  replace hE := hE.step hb
  clear hb
  obtain ⟨k9, k10, k11⟩ := (hE.here.1.1.1.2).c3
  obtain ⟨k12, k13⟩ := (hE.here.1.1.2).c2
  obtain ⟨k14, k15⟩ := (hE.here.1.2).c2
  go_wp2_with fail
  have hc := lright_t (c := c) hE.here.1.1.1.1.2 hB hR2
  refine hc.mono ?_
  clear hc
  clear k9 k10 k11 k12 k13 k14 k15
  rintro e w16 ⟨rfl, hb⟩
  replace hE := hE.step hb
  clear hb
  go_upto_region 3 with (fail)
  replace hE := hE.drew
  refine wp_region_held_drew (S := fun w' => w'.cell? ⟨w.heap.size, 0, none⟩ = some (.int .i64 F) ∧ w'.cell? ⟨w.heap.size, 1, none⟩ = some (.int .i64 S) ∧ w'.cell? ⟨w.heap.size, 2, none⟩ = some (.slice A n c) ∧ w'.cell? ⟨w.heap.size + 1, 0, none⟩ = some (.int .i64 E) ∧ w'.cell? ⟨w.heap.size + 1, 1, none⟩ = some (.int .i64 Y) ∧ w'.cell? ⟨w.heap.size + 1 + 1, 0, none⟩ = some (.int .i64 E2) ∧ w'.cell? ⟨w.heap.size + 1 + 1, 1, none⟩ = some (.int .i64 Y2)) (by kernel_rfl) (⟨(hE.here.1.1.1.2).c3.1, (hE.here.1.1.1.2).c3.2.1, (hE.here.1.1.1.2).c3.2.2, (hE.here.1.1.2).c2.1, (hE.here.1.1.2).c2.2, (hE.here.1.2).c2.1, (hE.here.1.2).c2.2⟩) (fun hHeld => ?_)
  refine wpAnyH_take (i := 0) (v := ?v3_0_1) rfl (by kernel_rfl) (by kernel_rfl) (by kernel_rfl) (fun _ _ _ h => h) (Or.inl ⟨by rfl, ?hy3_0_1⟩) (by assumption) ?rest3_0_1
  case hy3_0_1 => intro w hSw; (try dsimp only at hSw); first | (go_simp; done) | (go_simp; with_reducible rfl)
  try simp only [Act.put, List.setIfInBounds_toArray, List.set_cons_zero, List.set_cons_succ, List.getElem_toArray, List.getElem_cons_succ, List.getElem_cons_zero]
  refine wpAnyH_take (i := 1) (v := ?v3_1_2) rfl (by kernel_rfl) (by kernel_rfl) (by kernel_rfl) (fun _ _ _ h => h) (Or.inl ⟨by rfl, ?hy3_1_2⟩) (by assumption) ?rest3_1_2
  case hy3_1_2 => intro w hSw; (try dsimp only at hSw); first | (go_simp; done) | (go_simp; with_reducible rfl)
  try simp only [Act.put, List.setIfInBounds_toArray, List.set_cons_zero, List.set_cons_succ, List.getElem_toArray, List.getElem_cons_succ, List.getElem_cons_zero]
  refine wpAnyH_take (i := 2) (v := ?v3_2_3) rfl (by kernel_rfl) (by kernel_rfl) (by kernel_rfl) (fun _ _ _ h => h) (Or.inl ⟨by rfl, ?hy3_2_3⟩) (by assumption) ?rest3_2_3
  case hy3_2_3 => intro w hSw; (try dsimp only at hSw); first | (go_simp; done) | (go_simp; with_reducible rfl)
  try simp only [Act.put, List.setIfInBounds_toArray, List.set_cons_zero, List.set_cons_succ, List.getElem_toArray, List.getElem_cons_succ, List.getElem_cons_zero]
  refine wpAnyH_take (i := 3) (v := ?v3_3_4) rfl (by kernel_rfl) (by kernel_rfl) (by kernel_rfl) (fun _ _ _ h => h) (Or.inl ⟨by rfl, ?hy3_3_4⟩) (by assumption) ?rest3_3_4
  case hy3_3_4 => intro w hSw; (try dsimp only at hSw); first | (go_simp; done) | (go_simp; with_reducible rfl)
  try simp only [Act.put, List.setIfInBounds_toArray, List.set_cons_zero, List.set_cons_succ, List.getElem_toArray, List.getElem_cons_succ, List.getElem_cons_zero]
  refine wpAnyH_take (i := 4) (v := ?v3_4_5) rfl (by kernel_rfl) (by kernel_rfl) (by kernel_rfl) (fun _ _ _ h => h) (Or.inl ⟨by rfl, ?hy3_4_5⟩) (by assumption) ?rest3_4_5
  case hy3_4_5 => intro w hSw; (try dsimp only at hSw); first | (go_simp; done) | (go_simp; with_reducible rfl)
  try simp only [Act.put, List.setIfInBounds_toArray, List.set_cons_zero, List.set_cons_succ, List.getElem_toArray, List.getElem_cons_succ, List.getElem_cons_zero]
  refine wpAnyH_take (i := 6) (v := ?v3_6_6) rfl (by kernel_rfl) (by kernel_rfl) (by kernel_rfl) (fun _ _ _ h => h) (Or.inl ⟨by rfl, ?hy3_6_6⟩) (by assumption) ?rest3_6_6
  case hy3_6_6 => intro w hSw; (try dsimp only at hSw); first | (go_simp; done) | (go_simp; with_reducible rfl)
  try simp only [Act.put, List.setIfInBounds_toArray, List.set_cons_zero, List.set_cons_succ, List.getElem_toArray, List.getElem_cons_succ, List.getElem_cons_zero]
  refine wpAnyH_take (i := 7) (v := ?v3_7_7) rfl (by kernel_rfl) (by kernel_rfl) (by kernel_rfl) (fun _ _ _ h => h) (Or.inl ⟨by rfl, ?hy3_7_7⟩) (by assumption) ?rest3_7_7
  case hy3_7_7 => intro w hSw; (try dsimp only at hSw); first | (go_simp; done) | (go_simp; with_reducible rfl)
  try simp only [Act.put, List.setIfInBounds_toArray, List.set_cons_zero, List.set_cons_succ, List.getElem_toArray, List.getElem_cons_succ, List.getElem_cons_zero]
  refine wpAnyH_take (i := 8) (v := ?v3_8_8) rfl (by kernel_rfl) (by kernel_rfl) (by kernel_rfl) (fun _ _ _ h => h) (Or.inl ⟨by rfl, ?hy3_8_8⟩) (by assumption) ?rest3_8_8
  case hy3_8_8 => intro w hSw; (try dsimp only at hSw); first | (go_simp; done) | (go_simp; with_reducible rfl)
  try simp only [Act.put, List.setIfInBounds_toArray, List.set_cons_zero, List.set_cons_succ, List.getElem_toArray, List.getElem_cons_succ, List.getElem_cons_zero]
  refine wpAnyH_take (i := 9) (v := ?v3_9_9) rfl (by kernel_rfl) (by kernel_rfl) (by kernel_rfl) (fun _ _ _ h => h) (Or.inl ⟨by rfl, ?hy3_9_9⟩) (by assumption) ?rest3_9_9
  case hy3_9_9 => intro w hSw; (try dsimp only at hSw); first | (go_simp; done) | (go_simp; with_reducible rfl)
  try simp only [Act.put, List.setIfInBounds_toArray, List.set_cons_zero, List.set_cons_succ, List.getElem_toArray, List.getElem_cons_succ, List.getElem_cons_zero]
  refine wpAnyH_ready (rs := [5]) (by kernel_rfl) (by simp) (AllReadyH.cons rfl (fun K hK => ?_) (AllReadyH.nil))
  go_simp
  have hc := lalive_v (c := c) hE.here.1.1.1.1.2 hR k hk
  change Calls _ _ _ _ (FR (pr (fr F S n r E Y) k) _) at hc
  rw [← HP.out] at hc
  refine hc.mono ?_
  clear hc
  rintro e w17 ⟨sp, Ap, np, cp, tp, Bp, mp, dp, rfl, hr, hb⟩
  replace hE := hE.step hb
  clear hb
  replace hE := hE.fv hr
  clear hr
  go_wp2_with fail
  refine hK.out _ _ (⟨(hE.here.1.1.1.1.2).c3.1, (hE.here.1.1.1.1.2).c3.2.1, (hE.here.1.1.1.1.2).c3.2.2, (hE.here.1.1.1.2).c2.1, (hE.here.1.1.1.2).c2.2, (hE.here.1.1.2).c2.1, (hE.here.1.1.2).c2.2⟩) (fun hHeld => ?_)
  clear hK K
  try simp only [Act.put, List.setIfInBounds_toArray, List.set_cons_zero, List.set_cons_succ, List.getElem_toArray, List.getElem_cons_succ, List.getElem_cons_zero]
  refine wpAnyH_ready (rs := [10]) (by kernel_rfl) (by simp) (AllReadyH.cons rfl (fun K hK => ?_) (AllReadyH.nil))
  go_simp
  have hc := lalive_v (c := c) hE.here.1.1.1.1.1.2 hR2 k hk
  change Calls _ _ _ _ (FR (pr (fr F S n r E2 Y2) k) _) at hc
  rw [← HQ.out] at hc
  refine hc.mono ?_
  clear hc
  rintro e w18 ⟨sq, Aq, nq, cq, tq, Bq, mq, dq, rfl, hr, hb⟩
  replace hE := hE.step hb
  clear hb
  replace hE := hE.fv hr
  clear hr
  go_wp2_with fail
  refine hK.out _ _ (⟨(hE.here.1.1.1.1.1.2).c3.1, (hE.here.1.1.1.1.1.2).c3.2.1, (hE.here.1.1.1.1.1.2).c3.2.2, (hE.here.1.1.1.1.2).c2.1, (hE.here.1.1.1.1.2).c2.2, (hE.here.1.1.1.2).c2.1, (hE.here.1.1.1.2).c2.2⟩) (fun hHeld => ?_)
  clear hK K
  try simp only [Act.put, List.setIfInBounds_toArray, List.set_cons_zero, List.set_cons_succ, List.getElem_toArray, List.getElem_cons_succ, List.getElem_cons_zero]
  refine wpAnyH_ready (rs := [11]) (by kernel_rfl) (by simp) (AllReadyH.cons rfl (fun K hK => ?_) (AllReadyH.nil))
  go_simp
  have hc := ltimes_v (ca := cp) (da := dp) (cb := cq) (db := dq) hE.here.1.2 hE.here.2 (sP.l (by decide)) (sQ.l (by decide)) ((sP.mul sQ).l (by decide))
  refine hc.mono ?_
  clear hc
  rintro e w19 ⟨sz, Az, nz, cz, tz, Bz, mz, dz, rfl, hz, hb⟩
  replace hE := hE.step hb
  clear hb
  replace hE := hE.fv hz
  clear hz
  go_wp2_with fail
  refine hK.out _ _ (⟨(hE.here.1.1.1.1.1.1.2).c3.1, (hE.here.1.1.1.1.1.1.2).c3.2.1, (hE.here.1.1.1.1.1.1.2).c3.2.2, (hE.here.1.1.1.1.1.2).c2.1, (hE.here.1.1.1.1.1.2).c2.2, (hE.here.1.1.1.1.2).c2.1, (hE.here.1.1.1.1.2).c2.2⟩) (fun hHeld => ?_)
  clear hK K
  try simp only [Act.put, List.setIfInBounds_toArray, List.set_cons_zero, List.set_cons_succ, List.getElem_toArray, List.getElem_cons_succ, List.getElem_cons_zero]
  refine wpAnyH_ready (rs := [12]) (by kernel_rfl) (by simp) (AllReadyH.cons rfl (fun K hK => ?_) (AllReadyH.nil))
  have hRl : w.heap.size ≤ w.heap.size + 1 + 1 + 1 := by omega
  obtain ⟨WW, hWW, hB, hV, hBel⟩ := ret_frac hE hE.here.1.1.1.2 hRl hE.here.2 cz dz
  obtain ⟨x0, x1, x2, x3⟩ := (hE.here.1.1.1.2).c4
  have fz := fun i => (hE.here.1.1.1.2).frozen i
  have fz0 := fz 0
  have fz1 := fz 1
  have fz2 := fz 2
  have fz3 := fz 3
  clear fz
  have HWW := Lib.hid hWW
  clear hWW
  have q20 := (hE.here.1.1.1.1.1.1.2).far4 (R := w.heap.size + 1 + 1 + 1) (by omega) (.bool sz) (.slice Az nz cz) (.bool tz) (.slice Bz mz dz)
  rw [← HWW.out] at q20
  have q21 := (hE.here.1.1.1.1.1.2).far4 (R := w.heap.size + 1 + 1 + 1) (by omega) (.bool sz) (.slice Az nz cz) (.bool tz) (.slice Bz mz dz)
  rw [← HWW.out] at q21
  have q22 := (hE.here.1.1.1.1.2).far4 (R := w.heap.size + 1 + 1 + 1) (by omega) (.bool sz) (.slice Az nz cz) (.bool tz) (.slice Bz mz dz)
  rw [← HWW.out] at q22
  go_simp
  rw [← HWW.out]
  refine hK.out _ _ (⟨(q20).c3.1, (q20).c3.2.1, (q20).c3.2.2, (q21).c2.1, (q21).c2.2, (q22).c2.1, (q22).c2.2⟩) (fun hHeld => ?_)
  clear hK K
  try simp only [Act.put, List.setIfInBounds_toArray, List.set_cons_zero, List.set_cons_succ, List.getElem_toArray, List.getElem_cons_succ, List.getElem_cons_zero]
  refine wpAnyH_take (i := 13) (v := ?v3_13_10) rfl (by kernel_rfl) (by kernel_rfl) (by kernel_rfl) (fun _ _ _ h => h) (Or.inl ⟨by rfl, ?hy3_13_10⟩) (by assumption) ?rest3_13_10
  case hy3_13_10 => intro w hSw; (try dsimp only at hSw); first | (go_simp; done) | (go_simp; with_reducible rfl)
  try simp only [Act.put, List.setIfInBounds_toArray, List.set_cons_zero, List.set_cons_succ, List.getElem_toArray, List.getElem_cons_succ, List.getElem_cons_zero]
  refine wpAnyH_done (by kernel_rfl) ?_ _
  go_wp2_with fail
  obtain ⟨y0, y1, y2, y3⟩ := hB.c4
  refine bodyPost_ret (v := .tuple #[.agg #[.bool sz, .slice Az nz cz, .bool tz, .slice Bz mz dz], .int .i64 0]) (by simp [results, Tryz.results68, go_sem, y0, y1, y2, y3]) rfl ?_
  exact ⟨sz, Az, nz, cz, tz, Bz, mz, dz, rfl, hV, hBel⟩
set_option linter.unusedSimpArgs false in
set_option maxRecDepth 100000 in
set_option maxHeartbeats 4000000 in
theorem lcombine_either {F S E Y E2 Y2 : Int} {A : Option Addr} {n c : Nat} {r : Nat → RH} {w : World} (hT : TabM w A n r) (hB : TabB n r) (hR : RightP F S n r E Y) (hR2 : RightP F S n r E2 Y2) (k : Nat) (hk : k ≤ 9223372036854775807) :
    Calls Tryz.prog 68 #[.agg #[.int .i64 F, .int .i64 S, .slice A n c], .agg #[.int .i64 E, .int .i64 Y], .agg #[.int .i64 E2, .int .i64 Y2], .int .i64 (k : Int), .func (.func 69) #[] #[]] w (FOK ((1 - (1 - pr (fr F S n r E Y) k) * (1 - pr (fr F S n r E2 Y2) k))) w) := by
  have t1 : decide ((k : Int) < 0) = false := decide_eq_false (by omega)
  have t2 : ¬ (k : Int) < 0 := by omega
  obtain ⟨P, hP⟩ : ∃ P, P = pr (fr F S n r E Y) k := ⟨_, rfl⟩
  obtain ⟨Q, hQ⟩ : ∃ Q, Q = pr (fr F S n r E2 Y2) k := ⟨_, rfl⟩
  have sP : Sm P 112 := by rw [hP]; exact life_sm hT hR k
  have sQ : Sm Q 112 := by rw [hQ]; exact life_sm hT hR2 k
  rw [← hP, ← hQ]
  have HP := Lib.hid hP
  have HQ := Lib.hid hQ
  clear hP hQ
  have hE := ((((Env.start w).tab hT).blk 24 #[.int .i64 F, .int .i64 S, .slice A n c] (g := w.heap.size) rfl).blk 26 #[.int .i64 E, .int .i64 Y] (g := w.heap.size + 1) (by simp)).blk 26 #[.int .i64 E2, .int .i64 Y2] (g := w.heap.size + 1 + 1) (by simp)
  have hE := hE.blk 40 #[.bool false, .slice none 0 0, .bool false, .slice none 0 0] (g := w.heap.size + 1 + 1 + 1) (by simp)
  obtain ⟨W0, hW0⟩ : ∃ W0, W0 = ((((w.alloc (.cells #[.int .i64 F, .int .i64 S, .slice A n c] 24)).alloc (.cells #[.int .i64 E, .int .i64 Y] 26)).alloc (.cells #[.int .i64 E2, .int .i64 Y2] 26)).alloc (.cells #[.bool false, .slice none 0 0, .bool false, .slice none 0 0] 40)) := ⟨_, rfl⟩
  rw [← hW0] at hE
  have HW0 := Lib.hid hW0
  clear hW0
  go_enter Tryz.func68, Tryz.ntmps68
  go_upto_region 1 with (fail)
  rw [← HW0.out]
  obtain ⟨k1, k2, k3⟩ := (hE.here.1.1.1.2).c3
  obtain ⟨k4, k5⟩ := (hE.here.1.1.2).c2
  obtain ⟨k6, k7⟩ := (hE.here.1.2).c2
  go_wp2_with fail
  have hc := lright_t (c := c) hE.here.1.1.1.1.2 hB hR
  refine hc.mono ?_
  clear hc
  clear k1 k2 k3 k4 k5 k6 k7
  rintro e w8 ⟨rfl, hb⟩
  replace hE := hE.step hb
  clear hb
  obtain ⟨k9, k10, k11⟩ := (hE.here.1.1.1.2).c3
  obtain ⟨k12, k13⟩ := (hE.here.1.1.2).c2
  obtain ⟨k14, k15⟩ := (hE.here.1.2).c2
  go_wp2_with fail
  have hc := lright_t (c := c) hE.here.1.1.1.1.2 hB hR2
  refine hc.mono ?_
  clear hc
  clear k9 k10 k11 k12 k13 k14 k15
  rintro e w16 ⟨rfl, hb⟩
  replace hE := hE.step hb
  clear hb
  go_upto_region 3 with (fail)
  replace hE := hE.drew
  refine wp_region_held_drew (S := fun w' => w'.cell? ⟨w.heap.size, 0, none⟩ = some (.int .i64 F) ∧ w'.cell? ⟨w.heap.size, 1, none⟩ = some (.int .i64 S) ∧ w'.cell? ⟨w.heap.size, 2, none⟩ = some (.slice A n c) ∧ w'.cell? ⟨w.heap.size + 1, 0, none⟩ = some (.int .i64 E) ∧ w'.cell? ⟨w.heap.size + 1, 1, none⟩ = some (.int .i64 Y) ∧ w'.cell? ⟨w.heap.size + 1 + 1, 0, none⟩ = some (.int .i64 E2) ∧ w'.cell? ⟨w.heap.size + 1 + 1, 1, none⟩ = some (.int .i64 Y2)) (by kernel_rfl) (⟨(hE.here.1.1.1.2).c3.1, (hE.here.1.1.1.2).c3.2.1, (hE.here.1.1.1.2).c3.2.2, (hE.here.1.1.2).c2.1, (hE.here.1.1.2).c2.2, (hE.here.1.2).c2.1, (hE.here.1.2).c2.2⟩) (fun hHeld => ?_)
  refine wpAnyH_take (i := 0) (v := ?v4_0_1) rfl (by kernel_rfl) (by kernel_rfl) (by kernel_rfl) (fun _ _ _ h => h) (Or.inl ⟨by rfl, ?hy4_0_1⟩) (by assumption) ?rest4_0_1
  case hy4_0_1 => intro w hSw; (try dsimp only at hSw); first | (go_simp; done) | (go_simp; with_reducible rfl)
  try simp only [Act.put, List.setIfInBounds_toArray, List.set_cons_zero, List.set_cons_succ, List.getElem_toArray, List.getElem_cons_succ, List.getElem_cons_zero]
  refine wpAnyH_take (i := 1) (v := ?v4_1_2) rfl (by kernel_rfl) (by kernel_rfl) (by kernel_rfl) (fun _ _ _ h => h) (Or.inl ⟨by rfl, ?hy4_1_2⟩) (by assumption) ?rest4_1_2
  case hy4_1_2 => intro w hSw; (try dsimp only at hSw); first | (go_simp; done) | (go_simp; with_reducible rfl)
  try simp only [Act.put, List.setIfInBounds_toArray, List.set_cons_zero, List.set_cons_succ, List.getElem_toArray, List.getElem_cons_succ, List.getElem_cons_zero]
  refine wpAnyH_take (i := 2) (v := ?v4_2_3) rfl (by kernel_rfl) (by kernel_rfl) (by kernel_rfl) (fun _ _ _ h => h) (Or.inl ⟨by rfl, ?hy4_2_3⟩) (by assumption) ?rest4_2_3
  case hy4_2_3 => intro w hSw; (try dsimp only at hSw); first | (go_simp; done) | (go_simp; with_reducible rfl)
  try simp only [Act.put, List.setIfInBounds_toArray, List.set_cons_zero, List.set_cons_succ, List.getElem_toArray, List.getElem_cons_succ, List.getElem_cons_zero]
  refine wpAnyH_take (i := 3) (v := ?v4_3_4) rfl (by kernel_rfl) (by kernel_rfl) (by kernel_rfl) (fun _ _ _ h => h) (Or.inl ⟨by rfl, ?hy4_3_4⟩) (by assumption) ?rest4_3_4
  case hy4_3_4 => intro w hSw; (try dsimp only at hSw); first | (go_simp; done) | (go_simp; with_reducible rfl)
  try simp only [Act.put, List.setIfInBounds_toArray, List.set_cons_zero, List.set_cons_succ, List.getElem_toArray, List.getElem_cons_succ, List.getElem_cons_zero]
  refine wpAnyH_take (i := 4) (v := ?v4_4_5) rfl (by kernel_rfl) (by kernel_rfl) (by kernel_rfl) (fun _ _ _ h => h) (Or.inl ⟨by rfl, ?hy4_4_5⟩) (by assumption) ?rest4_4_5
  case hy4_4_5 => intro w hSw; (try dsimp only at hSw); first | (go_simp; done) | (go_simp; with_reducible rfl)
  try simp only [Act.put, List.setIfInBounds_toArray, List.set_cons_zero, List.set_cons_succ, List.getElem_toArray, List.getElem_cons_succ, List.getElem_cons_zero]
  refine wpAnyH_take (i := 6) (v := ?v4_6_6) rfl (by kernel_rfl) (by kernel_rfl) (by kernel_rfl) (fun _ _ _ h => h) (Or.inl ⟨by rfl, ?hy4_6_6⟩) (by assumption) ?rest4_6_6
  case hy4_6_6 => intro w hSw; (try dsimp only at hSw); first | (go_simp; done) | (go_simp; with_reducible rfl)
  try simp only [Act.put, List.setIfInBounds_toArray, List.set_cons_zero, List.set_cons_succ, List.getElem_toArray, List.getElem_cons_succ, List.getElem_cons_zero]
  refine wpAnyH_take (i := 7) (v := ?v4_7_7) rfl (by kernel_rfl) (by kernel_rfl) (by kernel_rfl) (fun _ _ _ h => h) (Or.inl ⟨by rfl, ?hy4_7_7⟩) (by assumption) ?rest4_7_7
  case hy4_7_7 => intro w hSw; (try dsimp only at hSw); first | (go_simp; done) | (go_simp; with_reducible rfl)
  try simp only [Act.put, List.setIfInBounds_toArray, List.set_cons_zero, List.set_cons_succ, List.getElem_toArray, List.getElem_cons_succ, List.getElem_cons_zero]
  refine wpAnyH_take (i := 8) (v := ?v4_8_8) rfl (by kernel_rfl) (by kernel_rfl) (by kernel_rfl) (fun _ _ _ h => h) (Or.inl ⟨by rfl, ?hy4_8_8⟩) (by assumption) ?rest4_8_8
  case hy4_8_8 => intro w hSw; (try dsimp only at hSw); first | (go_simp; done) | (go_simp; with_reducible rfl)
  try simp only [Act.put, List.setIfInBounds_toArray, List.set_cons_zero, List.set_cons_succ, List.getElem_toArray, List.getElem_cons_succ, List.getElem_cons_zero]
  refine wpAnyH_take (i := 9) (v := ?v4_9_9) rfl (by kernel_rfl) (by kernel_rfl) (by kernel_rfl) (fun _ _ _ h => h) (Or.inl ⟨by rfl, ?hy4_9_9⟩) (by assumption) ?rest4_9_9
  case hy4_9_9 => intro w hSw; (try dsimp only at hSw); first | (go_simp; done) | (go_simp; with_reducible rfl)
  try simp only [Act.put, List.setIfInBounds_toArray, List.set_cons_zero, List.set_cons_succ, List.getElem_toArray, List.getElem_cons_succ, List.getElem_cons_zero]
  refine wpAnyH_ready (rs := [5]) (by kernel_rfl) (by simp) (AllReadyH.cons rfl (fun K hK => ?_) (AllReadyH.nil))
  go_simp
  have hc := lalive_v (c := c) hE.here.1.1.1.1.2 hR k hk
  change Calls _ _ _ _ (FR (pr (fr F S n r E Y) k) _) at hc
  rw [← HP.out] at hc
  refine hc.mono ?_
  clear hc
  rintro e w17 ⟨sp, Ap, np, cp, tp, Bp, mp, dp, rfl, hr, hb⟩
  replace hE := hE.step hb
  clear hb
  replace hE := hE.fv hr
  clear hr
  go_wp2_with fail
  refine hK.out _ _ (⟨(hE.here.1.1.1.1.2).c3.1, (hE.here.1.1.1.1.2).c3.2.1, (hE.here.1.1.1.1.2).c3.2.2, (hE.here.1.1.1.2).c2.1, (hE.here.1.1.1.2).c2.2, (hE.here.1.1.2).c2.1, (hE.here.1.1.2).c2.2⟩) (fun hHeld => ?_)
  clear hK K
  try simp only [Act.put, List.setIfInBounds_toArray, List.set_cons_zero, List.set_cons_succ, List.getElem_toArray, List.getElem_cons_succ, List.getElem_cons_zero]
  refine wpAnyH_ready (rs := [10]) (by kernel_rfl) (by simp) (AllReadyH.cons rfl (fun K hK => ?_) (AllReadyH.nil))
  go_simp
  have hc := lalive_v (c := c) hE.here.1.1.1.1.1.2 hR2 k hk
  change Calls _ _ _ _ (FR (pr (fr F S n r E2 Y2) k) _) at hc
  rw [← HQ.out] at hc
  refine hc.mono ?_
  clear hc
  rintro e w18 ⟨sq, Aq, nq, cq, tq, Bq, mq, dq, rfl, hr, hb⟩
  replace hE := hE.step hb
  clear hb
  replace hE := hE.fv hr
  clear hr
  go_wp2_with fail
  refine hK.out _ _ (⟨(hE.here.1.1.1.1.1.2).c3.1, (hE.here.1.1.1.1.1.2).c3.2.1, (hE.here.1.1.1.1.1.2).c3.2.2, (hE.here.1.1.1.1.2).c2.1, (hE.here.1.1.1.1.2).c2.2, (hE.here.1.1.1.2).c2.1, (hE.here.1.1.1.2).c2.2⟩) (fun hHeld => ?_)
  clear hK K
  try simp only [Act.put, List.setIfInBounds_toArray, List.set_cons_zero, List.set_cons_succ, List.getElem_toArray, List.getElem_cons_succ, List.getElem_cons_zero]
  refine wpAnyH_ready (rs := [11]) (by kernel_rfl) (by simp) (AllReadyH.cons rfl (fun K hK => ?_) (AllReadyH.nil))
  go_simp
  have hc := leither1_v (ca := cp) (da := dp) (cb := cq) (db := dq) hE.here.1.2 hE.here.2 sP sQ
  refine hc.mono ?_
  clear hc
  rintro e w19 ⟨sz, Az, nz, cz, tz, Bz, mz, dz, rfl, hz, hb⟩
  replace hE := hE.step hb
  clear hb
  replace hE := hE.fv hz
  clear hz
  go_wp2_with fail
  refine hK.out _ _ (⟨(hE.here.1.1.1.1.1.1.2).c3.1, (hE.here.1.1.1.1.1.1.2).c3.2.1, (hE.here.1.1.1.1.1.1.2).c3.2.2, (hE.here.1.1.1.1.1.2).c2.1, (hE.here.1.1.1.1.1.2).c2.2, (hE.here.1.1.1.1.2).c2.1, (hE.here.1.1.1.1.2).c2.2⟩) (fun hHeld => ?_)
  clear hK K
  try simp only [Act.put, List.setIfInBounds_toArray, List.set_cons_zero, List.set_cons_succ, List.getElem_toArray, List.getElem_cons_succ, List.getElem_cons_zero]
  refine wpAnyH_ready (rs := [12]) (by kernel_rfl) (by simp) (AllReadyH.cons rfl (fun K hK => ?_) (AllReadyH.nil))
  have hRl : w.heap.size ≤ w.heap.size + 1 + 1 + 1 := by omega
  obtain ⟨WW, hWW, hB, hV, hBel⟩ := ret_frac hE hE.here.1.1.1.2 hRl hE.here.2 cz dz
  obtain ⟨x0, x1, x2, x3⟩ := (hE.here.1.1.1.2).c4
  have fz := fun i => (hE.here.1.1.1.2).frozen i
  have fz0 := fz 0
  have fz1 := fz 1
  have fz2 := fz 2
  have fz3 := fz 3
  clear fz
  have HWW := Lib.hid hWW
  clear hWW
  have q20 := (hE.here.1.1.1.1.1.1.2).far4 (R := w.heap.size + 1 + 1 + 1) (by omega) (.bool sz) (.slice Az nz cz) (.bool tz) (.slice Bz mz dz)
  rw [← HWW.out] at q20
  have q21 := (hE.here.1.1.1.1.1.2).far4 (R := w.heap.size + 1 + 1 + 1) (by omega) (.bool sz) (.slice Az nz cz) (.bool tz) (.slice Bz mz dz)
  rw [← HWW.out] at q21
  have q22 := (hE.here.1.1.1.1.2).far4 (R := w.heap.size + 1 + 1 + 1) (by omega) (.bool sz) (.slice Az nz cz) (.bool tz) (.slice Bz mz dz)
  rw [← HWW.out] at q22
  go_simp
  rw [← HWW.out]
  refine hK.out _ _ (⟨(q20).c3.1, (q20).c3.2.1, (q20).c3.2.2, (q21).c2.1, (q21).c2.2, (q22).c2.1, (q22).c2.2⟩) (fun hHeld => ?_)
  clear hK K
  try simp only [Act.put, List.setIfInBounds_toArray, List.set_cons_zero, List.set_cons_succ, List.getElem_toArray, List.getElem_cons_succ, List.getElem_cons_zero]
  refine wpAnyH_take (i := 13) (v := ?v4_13_10) rfl (by kernel_rfl) (by kernel_rfl) (by kernel_rfl) (fun _ _ _ h => h) (Or.inl ⟨by rfl, ?hy4_13_10⟩) (by assumption) ?rest4_13_10
  case hy4_13_10 => intro w hSw; (try dsimp only at hSw); first | (go_simp; done) | (go_simp; with_reducible rfl)
  try simp only [Act.put, List.setIfInBounds_toArray, List.set_cons_zero, List.set_cons_succ, List.getElem_toArray, List.getElem_cons_succ, List.getElem_cons_zero]
  refine wpAnyH_done (by kernel_rfl) ?_ _
  go_wp2_with fail
  obtain ⟨y0, y1, y2, y3⟩ := hB.c4
  refine bodyPost_ret (v := .tuple #[.agg #[.bool sz, .slice Az nz cz, .bool tz, .slice Bz mz dz], .int .i64 0]) (by simp [results, Tryz.results68, go_sem, y0, y1, y2, y3]) rfl ?_
  exact ⟨sz, Az, nz, cz, tz, Bz, mz, dz, rfl, hV, hBel⟩
set_option linter.unusedSimpArgs false in
set_option maxRecDepth 100000 in
set_option maxHeartbeats 4000000 in
theorem lcombine_left {F S E Y E2 Y2 : Int} {A : Option Addr} {n c : Nat} {r : Nat → RH} {w : World} (hT : TabM w A n r) (hB : TabB n r) (hR : RightP F S n r E Y) (hR2 : RightP F S n r E2 Y2) (k : Nat) (hk : k ≤ 9223372036854775807) :
    Calls Tryz.prog 68 #[.agg #[.int .i64 F, .int .i64 S, .slice A n c], .agg #[.int .i64 E, .int .i64 Y], .agg #[.int .i64 E2, .int .i64 Y2], .int .i64 (k : Int), .func (.func 70) #[] #[]] w (FOK (((1 - pr (fr F S n r E Y) k) * pr (fr F S n r E2 Y2) k)) w) := by
  have t1 : decide ((k : Int) < 0) = false := decide_eq_false (by omega)
  have t2 : ¬ (k : Int) < 0 := by omega
  obtain ⟨P, hP⟩ : ∃ P, P = pr (fr F S n r E Y) k := ⟨_, rfl⟩
  obtain ⟨Q, hQ⟩ : ∃ Q, Q = pr (fr F S n r E2 Y2) k := ⟨_, rfl⟩
  have sP : Sm P 112 := by rw [hP]; exact life_sm hT hR k
  have sQ : Sm Q 112 := by rw [hQ]; exact life_sm hT hR2 k
  rw [← hP, ← hQ]
  have HP := Lib.hid hP
  have HQ := Lib.hid hQ
  clear hP hQ
  have hE := ((((Env.start w).tab hT).blk 24 #[.int .i64 F, .int .i64 S, .slice A n c] (g := w.heap.size) rfl).blk 26 #[.int .i64 E, .int .i64 Y] (g := w.heap.size + 1) (by simp)).blk 26 #[.int .i64 E2, .int .i64 Y2] (g := w.heap.size + 1 + 1) (by simp)
  have hE := hE.blk 40 #[.bool false, .slice none 0 0, .bool false, .slice none 0 0] (g := w.heap.size + 1 + 1 + 1) (by simp)
  obtain ⟨W0, hW0⟩ : ∃ W0, W0 = ((((w.alloc (.cells #[.int .i64 F, .int .i64 S, .slice A n c] 24)).alloc (.cells #[.int .i64 E, .int .i64 Y] 26)).alloc (.cells #[.int .i64 E2, .int .i64 Y2] 26)).alloc (.cells #[.bool false, .slice none 0 0, .bool false, .slice none 0 0] 40)) := ⟨_, rfl⟩
  rw [← hW0] at hE
  have HW0 := Lib.hid hW0
  clear hW0
  go_enter Tryz.func68, Tryz.ntmps68
  go_upto_region 1 with (fail)
  rw [← HW0.out]
  obtain ⟨k1, k2, k3⟩ := (hE.here.1.1.1.2).c3
  obtain ⟨k4, k5⟩ := (hE.here.1.1.2).c2
  obtain ⟨k6, k7⟩ := (hE.here.1.2).c2
  go_wp2_with fail
  have hc := lright_t (c := c) hE.here.1.1.1.1.2 hB hR
  refine hc.mono ?_
  clear hc
  clear k1 k2 k3 k4 k5 k6 k7
  rintro e w8 ⟨rfl, hb⟩
  replace hE := hE.step hb
  clear hb
  obtain ⟨k9, k10, k11⟩ := (hE.here.1.1.1.2).c3
  obtain ⟨k12, k13⟩ := (hE.here.1.1.2).c2
  obtain ⟨k14, k15⟩ := (hE.here.1.2).c2
  go_wp2_with fail
  have hc := lright_t (c := c) hE.here.1.1.1.1.2 hB hR2
  refine hc.mono ?_
  clear hc
  clear k9 k10 k11 k12 k13 k14 k15
  rintro e w16 ⟨rfl, hb⟩
  replace hE := hE.step hb
  clear hb
  go_upto_region 3 with (fail)
  replace hE := hE.drew
  refine wp_region_held_drew (S := fun w' => w'.cell? ⟨w.heap.size, 0, none⟩ = some (.int .i64 F) ∧ w'.cell? ⟨w.heap.size, 1, none⟩ = some (.int .i64 S) ∧ w'.cell? ⟨w.heap.size, 2, none⟩ = some (.slice A n c) ∧ w'.cell? ⟨w.heap.size + 1, 0, none⟩ = some (.int .i64 E) ∧ w'.cell? ⟨w.heap.size + 1, 1, none⟩ = some (.int .i64 Y) ∧ w'.cell? ⟨w.heap.size + 1 + 1, 0, none⟩ = some (.int .i64 E2) ∧ w'.cell? ⟨w.heap.size + 1 + 1, 1, none⟩ = some (.int .i64 Y2)) (by kernel_rfl) (⟨(hE.here.1.1.1.2).c3.1, (hE.here.1.1.1.2).c3.2.1, (hE.here.1.1.1.2).c3.2.2, (hE.here.1.1.2).c2.1, (hE.here.1.1.2).c2.2, (hE.here.1.2).c2.1, (hE.here.1.2).c2.2⟩) (fun hHeld => ?_)
  refine wpAnyH_take (i := 0) (v := ?v5_0_1) rfl (by kernel_rfl) (by kernel_rfl) (by kernel_rfl) (fun _ _ _ h => h) (Or.inl ⟨by rfl, ?hy5_0_1⟩) (by assumption) ?rest5_0_1
  case hy5_0_1 => intro w hSw; (try dsimp only at hSw); first | (go_simp; done) | (go_simp; with_reducible rfl)
  try simp only [Act.put, List.setIfInBounds_toArray, List.set_cons_zero, List.set_cons_succ, List.getElem_toArray, List.getElem_cons_succ, List.getElem_cons_zero]
  refine wpAnyH_take (i := 1) (v := ?v5_1_2) rfl (by kernel_rfl) (by kernel_rfl) (by kernel_rfl) (fun _ _ _ h => h) (Or.inl ⟨by rfl, ?hy5_1_2⟩) (by assumption) ?rest5_1_2
  case hy5_1_2 => intro w hSw; (try dsimp only at hSw); first | (go_simp; done) | (go_simp; with_reducible rfl)
  try simp only [Act.put, List.setIfInBounds_toArray, List.set_cons_zero, List.set_cons_succ, List.getElem_toArray, List.getElem_cons_succ, List.getElem_cons_zero]
  refine wpAnyH_take (i := 2) (v := ?v5_2_3) rfl (by kernel_rfl) (by kernel_rfl) (by kernel_rfl) (fun _ _ _ h => h) (Or.inl ⟨by rfl, ?hy5_2_3⟩) (by assumption) ?rest5_2_3
  case hy5_2_3 => intro w hSw; (try dsimp only at hSw); first | (go_simp; done) | (go_simp; with_reducible rfl)
  try simp only [Act.put, List.setIfInBounds_toArray, List.set_cons_zero, List.set_cons_succ, List.getElem_toArray, List.getElem_cons_succ, List.getElem_cons_zero]
  refine wpAnyH_take (i := 3) (v := ?v5_3_4) rfl (by kernel_rfl) (by kernel_rfl) (by kernel_rfl) (fun _ _ _ h => h) (Or.inl ⟨by rfl, ?hy5_3_4⟩) (by assumption) ?rest5_3_4
  case hy5_3_4 => intro w hSw; (try dsimp only at hSw); first | (go_simp; done) | (go_simp; with_reducible rfl)
  try simp only [Act.put, List.setIfInBounds_toArray, List.set_cons_zero, List.set_cons_succ, List.getElem_toArray, List.getElem_cons_succ, List.getElem_cons_zero]
  refine wpAnyH_take (i := 4) (v := ?v5_4_5) rfl (by kernel_rfl) (by kernel_rfl) (by kernel_rfl) (fun _ _ _ h => h) (Or.inl ⟨by rfl, ?hy5_4_5⟩) (by assumption) ?rest5_4_5
  case hy5_4_5 => intro w hSw; (try dsimp only at hSw); first | (go_simp; done) | (go_simp; with_reducible rfl)
  try simp only [Act.put, List.setIfInBounds_toArray, List.set_cons_zero, List.set_cons_succ, List.getElem_toArray, List.getElem_cons_succ, List.getElem_cons_zero]
  refine wpAnyH_take (i := 6) (v := ?v5_6_6) rfl (by kernel_rfl) (by kernel_rfl) (by kernel_rfl) (fun _ _ _ h => h) (Or.inl ⟨by rfl, ?hy5_6_6⟩) (by assumption) ?rest5_6_6
  case hy5_6_6 => intro w hSw; (try dsimp only at hSw); first | (go_simp; done) | (go_simp; with_reducible rfl)
  try simp only [Act.put, List.setIfInBounds_toArray, List.set_cons_zero, List.set_cons_succ, List.getElem_toArray, List.getElem_cons_succ, List.getElem_cons_zero]
  refine wpAnyH_take (i := 7) (v := ?v5_7_7) rfl (by kernel_rfl) (by kernel_rfl) (by kernel_rfl) (fun _ _ _ h => h) (Or.inl ⟨by rfl, ?hy5_7_7⟩) (by assumption) ?rest5_7_7
  case hy5_7_7 => intro w hSw; (try dsimp only at hSw); first | (go_simp; done) | (go_simp; with_reducible rfl)
  try simp only [Act.put, List.setIfInBounds_toArray, List.set_cons_zero, List.set_cons_succ, List.getElem_toArray, List.getElem_cons_succ, List.getElem_cons_zero]
  refine wpAnyH_take (i := 8) (v := ?v5_8_8) rfl (by kernel_rfl) (by kernel_rfl) (by kernel_rfl) (fun _ _ _ h => h) (Or.inl ⟨by rfl, ?hy5_8_8⟩) (by assumption) ?rest5_8_8
  case hy5_8_8 => intro w hSw; (try dsimp only at hSw); first | (go_simp; done) | (go_simp; with_reducible rfl)
  try simp only [Act.put, List.setIfInBounds_toArray, List.set_cons_zero, List.set_cons_succ, List.getElem_toArray, List.getElem_cons_succ, List.getElem_cons_zero]
  refine wpAnyH_take (i := 9) (v := ?v5_9_9) rfl (by kernel_rfl) (by kernel_rfl) (by kernel_rfl) (fun _ _ _ h => h) (Or.inl ⟨by rfl, ?hy5_9_9⟩) (by assumption) ?rest5_9_9
  case hy5_9_9 => intro w hSw; (try dsimp only at hSw); first | (go_simp; done) | (go_simp; with_reducible rfl)
  try simp only [Act.put, List.setIfInBounds_toArray, List.set_cons_zero, List.set_cons_succ, List.getElem_toArray, List.getElem_cons_succ, List.getElem_cons_zero]
  refine wpAnyH_ready (rs := [5]) (by kernel_rfl) (by simp) (AllReadyH.cons rfl (fun K hK => ?_) (AllReadyH.nil))
  go_simp
  have hc := lalive_v (c := c) hE.here.1.1.1.1.2 hR k hk
  change Calls _ _ _ _ (FR (pr (fr F S n r E Y) k) _) at hc
  rw [← HP.out] at hc
  refine hc.mono ?_
  clear hc
  rintro e w17 ⟨sp, Ap, np, cp, tp, Bp, mp, dp, rfl, hr, hb⟩
  replace hE := hE.step hb
  clear hb
  replace hE := hE.fv hr
  clear hr
  go_wp2_with fail
  refine hK.out _ _ (⟨(hE.here.1.1.1.1.2).c3.1, (hE.here.1.1.1.1.2).c3.2.1, (hE.here.1.1.1.1.2).c3.2.2, (hE.here.1.1.1.2).c2.1, (hE.here.1.1.1.2).c2.2, (hE.here.1.1.2).c2.1, (hE.here.1.1.2).c2.2⟩) (fun hHeld => ?_)
  clear hK K
  try simp only [Act.put, List.setIfInBounds_toArray, List.set_cons_zero, List.set_cons_succ, List.getElem_toArray, List.getElem_cons_succ, List.getElem_cons_zero]
  refine wpAnyH_ready (rs := [10]) (by kernel_rfl) (by simp) (AllReadyH.cons rfl (fun K hK => ?_) (AllReadyH.nil))
  go_simp
  have hc := lalive_v (c := c) hE.here.1.1.1.1.1.2 hR2 k hk
  change Calls _ _ _ _ (FR (pr (fr F S n r E2 Y2) k) _) at hc
  rw [← HQ.out] at hc
  refine hc.mono ?_
  clear hc
  rintro e w18 ⟨sq, Aq, nq, cq, tq, Bq, mq, dq, rfl, hr, hb⟩
  replace hE := hE.step hb
  clear hb
  replace hE := hE.fv hr
  clear hr
  go_wp2_with fail
  refine hK.out _ _ (⟨(hE.here.1.1.1.1.1.2).c3.1, (hE.here.1.1.1.1.1.2).c3.2.1, (hE.here.1.1.1.1.1.2).c3.2.2, (hE.here.1.1.1.1.2).c2.1, (hE.here.1.1.1.1.2).c2.2, (hE.here.1.1.1.2).c2.1, (hE.here.1.1.1.2).c2.2⟩) (fun hHeld => ?_)
  clear hK K
  try simp only [Act.put, List.setIfInBounds_toArray, List.set_cons_zero, List.set_cons_succ, List.getElem_toArray, List.getElem_cons_succ, List.getElem_cons_zero]
  refine wpAnyH_ready (rs := [11]) (by kernel_rfl) (by simp) (AllReadyH.cons rfl (fun K hK => ?_) (AllReadyH.nil))
  go_simp
  have hc := lleft1_v (ca := cp) (da := dp) (cb := cq) (db := dq) hE.here.1.2 hE.here.2 sP sQ
  refine hc.mono ?_
  clear hc
  rintro e w19 ⟨sz, Az, nz, cz, tz, Bz, mz, dz, rfl, hz, hb⟩
  replace hE := hE.step hb
  clear hb
  replace hE := hE.fv hz
  clear hz
  go_wp2_with fail
  refine hK.out _ _ (⟨(hE.here.1.1.1.1.1.1.2).c3.1, (hE.here.1.1.1.1.1.1.2).c3.2.1, (hE.here.1.1.1.1.1.1.2).c3.2.2, (hE.here.1.1.1.1.1.2).c2.1, (hE.here.1.1.1.1.1.2).c2.2, (hE.here.1.1.1.1.2).c2.1, (hE.here.1.1.1.1.2).c2.2⟩) (fun hHeld => ?_)
  clear hK K
  try simp only [Act.put, List.setIfInBounds_toArray, List.set_cons_zero, List.set_cons_succ, List.getElem_toArray, List.getElem_cons_succ, List.getElem_cons_zero]
  refine wpAnyH_ready (rs := [12]) (by kernel_rfl) (by simp) (AllReadyH.cons rfl (fun K hK => ?_) (AllReadyH.nil))
  have hRl : w.heap.size ≤ w.heap.size + 1 + 1 + 1 := by omega
  obtain ⟨WW, hWW, hB, hV, hBel⟩ := ret_frac hE hE.here.1.1.1.2 hRl hE.here.2 cz dz
  obtain ⟨x0, x1, x2, x3⟩ := (hE.here.1.1.1.2).c4
  have fz := fun i => (hE.here.1.1.1.2).frozen i
  have fz0 := fz 0
  have fz1 := fz 1
  have fz2 := fz 2
  have fz3 := fz 3
  clear fz
  have HWW := Lib.hid hWW
  clear hWW
  have q20 := (hE.here.1.1.1.1.1.1.2).far4 (R := w.heap.size + 1 + 1 + 1) (by omega) (.bool sz) (.slice Az nz cz) (.bool tz) (.slice Bz mz dz)
  rw [← HWW.out] at q20
  have q21 := (hE.here.1.1.1.1.1.2).far4 (R := w.heap.size + 1 + 1 + 1) (by omega) (.bool sz) (.slice Az nz cz) (.bool tz) (.slice Bz mz dz)
  rw [← HWW.out] at q21
  have q22 := (hE.here.1.1.1.1.2).far4 (R := w.heap.size + 1 + 1 + 1) (by omega) (.bool sz) (.slice Az nz cz) (.bool tz) (.slice Bz mz dz)
  rw [← HWW.out] at q22
  go_simp
  rw [← HWW.out]
  refine hK.out _ _ (⟨(q20).c3.1, (q20).c3.2.1, (q20).c3.2.2, (q21).c2.1, (q21).c2.2, (q22).c2.1, (q22).c2.2⟩) (fun hHeld => ?_)
  clear hK K
  try simp only [Act.put, List.setIfInBounds_toArray, List.set_cons_zero, List.set_cons_succ, List.getElem_toArray, List.getElem_cons_succ, List.getElem_cons_zero]
  refine wpAnyH_take (i := 13) (v := ?v5_13_10) rfl (by kernel_rfl) (by kernel_rfl) (by kernel_rfl) (fun _ _ _ h => h) (Or.inl ⟨by rfl, ?hy5_13_10⟩) (by assumption) ?rest5_13_10
  case hy5_13_10 => intro w hSw; (try dsimp only at hSw); first | (go_simp; done) | (go_simp; with_reducible rfl)
  try simp only [Act.put, List.setIfInBounds_toArray, List.set_cons_zero, List.set_cons_succ, List.getElem_toArray, List.getElem_cons_succ, List.getElem_cons_zero]
  refine wpAnyH_done (by kernel_rfl) ?_ _
  go_wp2_with fail
  obtain ⟨y0, y1, y2, y3⟩ := hB.c4
  refine bodyPost_ret (v := .tuple #[.agg #[.bool sz, .slice Az nz cz, .bool tz, .slice Bz mz dz], .int .i64 0]) (by simp [results, Tryz.results68, go_sem, y0, y1, y2, y3]) rfl ?_
  exact ⟨sz, Az, nz, cz, tz, Bz, mz, dz, rfl, hV, hBel⟩
set_option linter.unusedSimpArgs false in
set_option maxRecDepth 100000 in
set_option maxHeartbeats 4000000 in
theorem lBoth_v {F S E Y E2 Y2 : Int} {A : Option Addr} {n c : Nat} {r : Nat → RH} {w : World} (hT : TabM w A n r) (hB : TabB n r) (hR : RightP F S n r E Y) (hR2 : RightP F S n r E2 Y2) (k : Nat) (hk : k ≤ 9223372036854775807) :
    Calls Tryz.prog 24 #[.agg #[.int .i64 F, .int .i64 S, .slice A n c], .agg #[.int .i64 E, .int .i64 Y], .agg #[.int .i64 E2, .int .i64 Y2], .int .i64 (k : Int)] w (FOK ((pr (fr F S n r E Y) k * pr (fr F S n r E2 Y2) k)) w) := by
  obtain ⟨Z, hZ⟩ : ∃ Z, Z = (pr (fr F S n r E Y) k * pr (fr F S n r E2 Y2) k) := ⟨_, rfl⟩
  rw [← hZ]
  have HZ := Lib.hid hZ
  clear hZ
  have hE := ((((Env.start w).tab hT).blk 24 #[.int .i64 F, .int .i64 S, .slice A n c] (g := w.heap.size) rfl).blk 26 #[.int .i64 E, .int .i64 Y] (g := w.heap.size + 1) (by simp)).blk 26 #[.int .i64 E2, .int .i64 Y2] (g := w.heap.size + 1 + 1) (by simp)
  have hE := hE.blk 40 #[.bool false, .slice none 0 0, .bool false, .slice none 0 0] (g := w.heap.size + 1 + 1 + 1) (by simp)
  obtain ⟨W0, hW0⟩ : ∃ W0, W0 = ((((w.alloc (.cells #[.int .i64 F, .int .i64 S, .slice A n c] 24)).alloc (.cells #[.int .i64 E, .int .i64 Y] 26)).alloc (.cells #[.int .i64 E2, .int .i64 Y2] 26)).alloc (.cells #[.bool false, .slice none 0 0, .bool false, .slice none 0 0] 40)) := ⟨_, rfl⟩
  rw [← hW0] at hE
  have HW0 := Lib.hid hW0
  clear hW0
  go_enter Tryz.func24, Tryz.ntmps24
  go_upto_region 1 with (fail)
  rw [← HW0.out]
  obtain ⟨k1, k2, k3⟩ := (hE.here.1.1.1.2).c3
  obtain ⟨k4, k5⟩ := (hE.here.1.1.2).c2
  obtain ⟨k6, k7⟩ := (hE.here.1.2).c2
  go_wp2_with fail
  have hc := lcombine_both (c := c) hE.here.1.1.1.1.2 hB hR hR2 k hk
  rw [← HZ.out] at hc
  refine hc.mono ?_
  clear hc
  clear k1 k2 k3 k4 k5 k6 k7
  rintro e w1 ⟨sr, Ar, nr, cr, tr, Br, mr, dr, rfl, hr, hb⟩
  replace hE := hE.step hb
  clear hb
  replace hE := hE.fv hr
  clear hr
  have hRl : w.heap.size ≤ w.heap.size + 1 + 1 + 1 := by omega
  obtain ⟨WW, hWW, hB, hV, hBel⟩ := ret_frac hE hE.here.1.2 hRl hE.here.2 cr dr
  obtain ⟨x0, x1, x2, x3⟩ := (hE.here.1.2).c4
  have fz := fun i => (hE.here.1.2).frozen i
  have fz0 := fz 0
  have fz1 := fz 1
  have fz2 := fz 2
  have fz3 := fz 3
  clear fz
  have HWW := Lib.hid hWW
  clear hWW
  go_wp2_with fail
  clear x0 x1 x2 x3
  rw [← HWW.out]
  obtain ⟨y0, y1, y2, y3⟩ := hB.c4
  refine bodyPost_ret (v := .tuple #[.agg #[.bool sr, .slice Ar nr cr, .bool tr, .slice Br mr dr], .int .i64 0]) (by simp [results, Tryz.results24, go_sem, y0, y1, y2, y3]) rfl ?_
  exact ⟨sr, Ar, nr, cr, tr, Br, mr, dr, rfl, hV, hBel⟩
set_option linter.unusedSimpArgs false in
set_option maxRecDepth 100000 in
set_option maxHeartbeats 4000000 in
theorem lEither_v {F S E Y E2 Y2 : Int} {A : Option Addr} {n c : Nat} {r : Nat → RH} {w : World} (hT : TabM w A n r) (hB : TabB n r) (hR : RightP F S n r E Y) (hR2 : RightP F S n r E2 Y2) (k : Nat) (hk : k ≤ 9223372036854775807) :
    Calls Tryz.prog 25 #[.agg #[.int .i64 F, .int .i64 S, .slice A n c], .agg #[.int .i64 E, .int .i64 Y], .agg #[.int .i64 E2, .int .i64 Y2], .int .i64 (k : Int)] w (FOK ((1 - (1 - pr (fr F S n r E Y) k) * (1 - pr (fr F S n r E2 Y2) k))) w) := by
  obtain ⟨Z, hZ⟩ : ∃ Z, Z = (1 - (1 - pr (fr F S n r E Y) k) * (1 - pr (fr F S n r E2 Y2) k)) := ⟨_, rfl⟩
  rw [← hZ]
  have HZ := Lib.hid hZ
  clear hZ
  have hE := ((((Env.start w).tab hT).blk 24 #[.int .i64 F, .int .i64 S, .slice A n c] (g := w.heap.size) rfl).blk 26 #[.int .i64 E, .int .i64 Y] (g := w.heap.size + 1) (by simp)).blk 26 #[.int .i64 E2, .int .i64 Y2] (g := w.heap.size + 1 + 1) (by simp)
  have hE := hE.blk 40 #[.bool false, .slice none 0 0, .bool false, .slice none 0 0] (g := w.heap.size + 1 + 1 + 1) (by simp)
  obtain ⟨W0, hW0⟩ : ∃ W0, W0 = ((((w.alloc (.cells #[.int .i64 F, .int .i64 S, .slice A n c] 24)).alloc (.cells #[.int .i64 E, .int .i64 Y] 26)).alloc (.cells #[.int .i64 E2, .int .i64 Y2] 26)).alloc (.cells #[.bool false, .slice none 0 0, .bool false, .slice none 0 0] 40)) := ⟨_, rfl⟩
  rw [← hW0] at hE
  have HW0 := Lib.hid hW0
  clear hW0
  go_enter Tryz.func25, Tryz.ntmps25
  go_upto_region 1 with (fail)
  rw [← HW0.out]
  obtain ⟨k1, k2, k3⟩ := (hE.here.1.1.1.2).c3
  obtain ⟨k4, k5⟩ := (hE.here.1.1.2).c2
  obtain ⟨k6, k7⟩ := (hE.here.1.2).c2
  go_wp2_with fail
  have hc := lcombine_either (c := c) hE.here.1.1.1.1.2 hB hR hR2 k hk
  rw [← HZ.out] at hc
  refine hc.mono ?_
  clear hc
  clear k1 k2 k3 k4 k5 k6 k7
  rintro e w1 ⟨sr, Ar, nr, cr, tr, Br, mr, dr, rfl, hr, hb⟩
  replace hE := hE.step hb
  clear hb
  replace hE := hE.fv hr
  clear hr
  have hRl : w.heap.size ≤ w.heap.size + 1 + 1 + 1 := by omega
  obtain ⟨WW, hWW, hB, hV, hBel⟩ := ret_frac hE hE.here.1.2 hRl hE.here.2 cr dr
  obtain ⟨x0, x1, x2, x3⟩ := (hE.here.1.2).c4
  have fz := fun i => (hE.here.1.2).frozen i
  have fz0 := fz 0
  have fz1 := fz 1
  have fz2 := fz 2
  have fz3 := fz 3
  clear fz
  have HWW := Lib.hid hWW
  clear hWW
  go_wp2_with fail
  clear x0 x1 x2 x3
  rw [← HWW.out]
  obtain ⟨y0, y1, y2, y3⟩ := hB.c4
  refine bodyPost_ret (v := .tuple #[.agg #[.bool sr, .slice Ar nr cr, .bool tr, .slice Br mr dr], .int .i64 0]) (by simp [results, Tryz.results25, go_sem, y0, y1, y2, y3]) rfl ?_
  exact ⟨sr, Ar, nr, cr, tr, Br, mr, dr, rfl, hV, hBel⟩
set_option linter.unusedSimpArgs false in
set_option maxRecDepth 100000 in
set_option maxHeartbeats 4000000 in
theorem lLeft_v {F S E Y E2 Y2 : Int} {A : Option Addr} {n c : Nat} {r : Nat → RH} {w : World} (hT : TabM w A n r) (hB : TabB n r) (hR : RightP F S n r E Y) (hR2 : RightP F S n r E2 Y2) (k : Nat) (hk : k ≤ 9223372036854775807) :
    Calls Tryz.prog 26 #[.agg #[.int .i64 F, .int .i64 S, .slice A n c], .agg #[.int .i64 E, .int .i64 Y], .agg #[.int .i64 E2, .int .i64 Y2], .int .i64 (k : Int)] w (FOK (((1 - pr (fr F S n r E Y) k) * pr (fr F S n r E2 Y2) k)) w) := by
  obtain ⟨Z, hZ⟩ : ∃ Z, Z = ((1 - pr (fr F S n r E Y) k) * pr (fr F S n r E2 Y2) k) := ⟨_, rfl⟩
  rw [← hZ]
  have HZ := Lib.hid hZ
  clear hZ
  have hE := ((((Env.start w).tab hT).blk 24 #[.int .i64 F, .int .i64 S, .slice A n c] (g := w.heap.size) rfl).blk 26 #[.int .i64 E, .int .i64 Y] (g := w.heap.size + 1) (by simp)).blk 26 #[.int .i64 E2, .int .i64 Y2] (g := w.heap.size + 1 + 1) (by simp)
  have hE := hE.blk 40 #[.bool false, .slice none 0 0, .bool false, .slice none 0 0] (g := w.heap.size + 1 + 1 + 1) (by simp)
  obtain ⟨W0, hW0⟩ : ∃ W0, W0 = ((((w.alloc (.cells #[.int .i64 F, .int .i64 S, .slice A n c] 24)).alloc (.cells #[.int .i64 E, .int .i64 Y] 26)).alloc (.cells #[.int .i64 E2, .int .i64 Y2] 26)).alloc (.cells #[.bool false, .slice none 0 0, .bool false, .slice none 0 0] 40)) := ⟨_, rfl⟩
  rw [← hW0] at hE
  have HW0 := Lib.hid hW0
  clear hW0
  go_enter Tryz.func26, Tryz.ntmps26
  go_upto_region 1 with (fail)
  rw [← HW0.out]
  obtain ⟨k1, k2, k3⟩ := (hE.here.1.1.1.2).c3
  obtain ⟨k4, k5⟩ := (hE.here.1.1.2).c2
  obtain ⟨k6, k7⟩ := (hE.here.1.2).c2
  go_wp2_with fail
  have hc := lcombine_left (c := c) hE.here.1.1.1.1.2 hB hR hR2 k hk
  rw [← HZ.out] at hc
  refine hc.mono ?_
  clear hc
  clear k1 k2 k3 k4 k5 k6 k7
  rintro e w1 ⟨sr, Ar, nr, cr, tr, Br, mr, dr, rfl, hr, hb⟩
  replace hE := hE.step hb
  clear hb
  replace hE := hE.fv hr
  clear hr
  have hRl : w.heap.size ≤ w.heap.size + 1 + 1 + 1 := by omega
  obtain ⟨WW, hWW, hB, hV, hBel⟩ := ret_frac hE hE.here.1.2 hRl hE.here.2 cr dr
  obtain ⟨x0, x1, x2, x3⟩ := (hE.here.1.2).c4
  have fz := fun i => (hE.here.1.2).frozen i
  have fz0 := fz 0
  have fz1 := fz 1
  have fz2 := fz 2
  have fz3 := fz 3
  clear fz
  have HWW := Lib.hid hWW
  clear hWW
  go_wp2_with fail
  clear x0 x1 x2 x3
  rw [← HWW.out]
  obtain ⟨y0, y1, y2, y3⟩ := hB.c4
  refine bodyPost_ret (v := .tuple #[.agg #[.bool sr, .slice Ar nr cr, .bool tr, .slice Br mr dr], .int .i64 0]) (by simp [results, Tryz.results26, go_sem, y0, y1, y2, y3]) rfl ?_
  exact ⟨sr, Ar, nr, cr, tr, Br, mr, dr, rfl, hV, hBel⟩
set_option linter.unusedSimpArgs false in
set_option maxRecDepth 100000 in
set_option maxHeartbeats 4000000 in
theorem lRate_v {F S E Y : Int} {A : Option Addr} {n c : Nat} {r : Nat → RH} {w : World} (hT : TabM w A n r) (hB : TabB n r) (hR : RightP F S n r E Y) :
    Calls Tryz.prog 20 #[.agg #[.int .i64 F, .int .i64 S, .slice A n c], .agg #[.int .i64 E, .int .i64 Y]] w (FOK (fr F S n r E Y 0) w) := by
  obtain ⟨Q, hQ⟩ : ∃ Q, Q = fr F S n r E Y 0 := ⟨_, rfl⟩
  have hl2 : fl Q ≤ 2 := by rw [hQ]; exact rate_fl (rt_rates hT hR 200) (show 0 < 200 by decide)
  rw [← hQ]
  have HQ := Lib.hid hQ
  clear hQ
  have HL2 := Lib.hid hl2
  clear hl2
  have hE := (((Env.start w).tab hT).blk 24 #[.int .i64 F, .int .i64 S, .slice A n c] (g := w.heap.size) rfl).blk 26 #[.int .i64 E, .int .i64 Y] (g := w.heap.size + 1) (by simp)
  have hE := hE.blk 40 #[.bool false, .slice none 0 0, .bool false, .slice none 0 0] (g := w.heap.size + 1 + 1) (by simp)
  obtain ⟨W0, hW0⟩ : ∃ W0, W0 = (((w.alloc (.cells #[.int .i64 F, .int .i64 S, .slice A n c] 24)).alloc (.cells #[.int .i64 E, .int .i64 Y] 26)).alloc (.cells #[.bool false, .slice none 0 0, .bool false, .slice none 0 0] 40)) := ⟨_, rfl⟩
  rw [← hW0] at hE
  have HW0 := Lib.hid hW0
  clear hW0
  go_enter Tryz.func20, Tryz.ntmps20
  go_upto_region 1 with (fail)
  rw [← HW0.out]
  obtain ⟨k1, k2, k3⟩ := (hE.here.1.1.2).c3
  obtain ⟨k4, k5⟩ := (hE.here.1.2).c2
  go_wp2_with fail
  have hc := lright_t (c := c) hE.here.1.1.1.2 hB hR
  refine hc.mono ?_
  clear hc
  clear k1 k2 k3 k4 k5
  rintro e w6 ⟨rfl, hb⟩
  replace hE := hE.step hb
  clear hb
  obtain ⟨k7, k8, k9⟩ := (hE.here.1.1.2).c3
  obtain ⟨k10, k11⟩ := (hE.here.1.2).c2
  go_wp2_with fail
  have hc := lrate_v (k := 0) (c := c) hE.here.1.1.1.2 hR (by decide) (by decide)
  rw [show rt F S n r E Y 0 = Q from HQ.out.symm] at hc
  refine hc.mono ?_
  clear hc
  clear k7 k8 k9 k10 k11
  rintro e w9 ⟨sr, Ar, nr, cr, tr, Br, mr, dr, rfl, hr, hb⟩
  replace hE := hE.step hb
  clear hb
  replace hE := hE.fv hr
  clear hr
  go_upto_region 4 with (fail)
  obtain ⟨g12, hg12⟩ : ∃ g12, g12 = w9.heap.size := ⟨_, rfl⟩
  have hl12_1 : w.heap.size < g12 := by rw [hg12]; exact (hE.here.1.1.1.2).lt
  have hl12_2 : w.heap.size + 1 < g12 := by rw [hg12]; exact (hE.here.1.1.2).lt
  have hl12_3 : w.heap.size + 1 + 1 < g12 := by rw [hg12]; exact (hE.here.1.2).lt
  replace hE := hE.blk 40 #[.bool sr, .slice Ar nr cr, .bool tr, .slice Br mr dr] (g := g12) hg12.symm
  generalize w9.alloc (.cells #[.bool sr, .slice Ar nr cr, .bool tr, .slice Br mr dr] 40) = W12 at hE ⊢
  rw [← hg12]
  clear hg12
  obtain ⟨hn1, hn2⟩ := (hE.here.1.2).ln HL2.out
  obtain ⟨k13, k14, k15, k16⟩ := (hE.here.2).c4
  go_wp2_with fail
  refine (clone_v (hE.here.1.2).1 (by omega)).mono ?_
  clear k13 k14 k15 k16
  clear hn1 hn2
  rintro e w21 ⟨A1, c1, rfl, hA, hb⟩
  replace hE := hE.step hb
  clear hb
  have hF : FV w21 Q sr A1 nr tr Br mr := ⟨⟨(hE.here.1.2).1.1, (hE.here.1.2).1.2.1, hA⟩, (hE.here.1.2).2⟩
  replace hE := hE.fv hF
  clear hA hF
  have hgl : w.heap.size ≤ g12 := by omega
  have hF := (hE.here.2).sep (i := 1) (hE.here.1.2) rfl (.slice A1 nr c1)
  have hBk : Blk 40 g12 #[.bool sr, .slice A1 nr c1, .bool tr, .slice Br mr dr] (w21.setCell ⟨g12, 1, none⟩ (.slice A1 nr c1)) := by simpa using (hE.here.1.2).set_ 1 (.slice A1 nr c1)
  have hE2 := (((Env.again (hE.bel.setCell (p := ⟨g12, 1, none⟩) hgl (.slice A1 nr c1))).blkI ((hE.here.1.1.1.2).far (p := ⟨g12, 1, none⟩) (by simp; omega) (.slice A1 nr c1))).blkI hBk).fv hF
  obtain ⟨y0, y1, y2, y3⟩ := (hE.here.1.2).c4
  have z0 := (hE.here.1.2).frozen 1
  clear hF hBk hE
  go_upto_region 5 with (fail)
  clear y0 y1 y2 y3 z0 hgl
  have hE := hE2
  clear hE2
  generalize w21.setCell ⟨g12, 1, none⟩ (.slice A1 nr c1) = v1 at hE ⊢
  obtain ⟨hn1, hn2⟩ := (hE.here.2).ln HL2.out
  obtain ⟨k17, k18, k19, k20⟩ := (hE.here.1.2).c4
  go_wp2_with fail
  refine (clone_v (hE.here.2).2 (by omega)).mono ?_
  clear k17 k18 k19 k20
  clear hn1 hn2
  rintro e w23 ⟨B1, d1, rfl, hA, hb⟩
  replace hE := hE.step hb
  clear hb
  have hF : FV w23 Q sr A1 nr tr B1 mr := ⟨(hE.here.2).1, ⟨(hE.here.2).2.1, (hE.here.2).2.2.1, hA⟩⟩
  replace hE := hE.fv hF
  clear hA hF
  have hgl : w.heap.size ≤ g12 := by omega
  have hF := (hE.here.2).sep (i := 3) (hE.here.1.1.2) rfl (.slice B1 mr d1)
  have hBk : Blk 40 g12 #[.bool sr, .slice A1 nr c1, .bool tr, .slice B1 mr d1] (w23.setCell ⟨g12, 3, none⟩ (.slice B1 mr d1)) := by simpa using (hE.here.1.1.2).set_ 3 (.slice B1 mr d1)
  have hE2 := (((Env.again (hE.bel.setCell (p := ⟨g12, 3, none⟩) hgl (.slice B1 mr d1))).blkI ((hE.here.1.1.1.2).far (p := ⟨g12, 3, none⟩) (by simp; omega) (.slice B1 mr d1))).blkI hBk).fv hF
  obtain ⟨y0, y1, y2, y3⟩ := (hE.here.1.1.2).c4
  have z0 := (hE.here.1.1.2).frozen 3
  clear hF hBk hE
  go_upto_region 6 with (fail)
  clear y0 y1 y2 y3 z0 hgl
  have hE := hE2
  clear hE2
  generalize w23.setCell ⟨g12, 3, none⟩ (.slice B1 mr d1) = v3 at hE ⊢
  obtain ⟨k21, k22, k23, k24⟩ := (hE.here.1.2).c4
  have hRl : w.heap.size ≤ w.heap.size + 1 + 1 := by omega
  obtain ⟨WW, hWW, hB, hV, hBel⟩ := ret_frac hE hE.here.1.1.2 hRl hE.here.2 c1 d1
  obtain ⟨x0, x1, x2, x3⟩ := (hE.here.1.1.2).c4
  have fz := fun i => (hE.here.1.1.2).frozen i
  have fz0 := fz 0
  have fz1 := fz 1
  have fz2 := fz 2
  have fz3 := fz 3
  clear fz
  have HWW := Lib.hid hWW
  clear hWW
  go_wp2_with fail
  clear x0 x1 x2 x3
  rw [← HWW.out]
  obtain ⟨y0, y1, y2, y3⟩ := hB.c4
  refine bodyPost_ret (v := .tuple #[.agg #[.bool sr, .slice A1 nr c1, .bool tr, .slice B1 mr d1], .int .i64 0]) (by simp [results, Tryz.results20, go_sem, y0, y1, y2, y3]) rfl ?_
  exact ⟨sr, A1, nr, c1, tr, B1, mr, d1, rfl, hV, hBel⟩
end Go.Proofs.YtgkepllfdhcdpaaGreat
