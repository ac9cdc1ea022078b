/-
  Several texts in one: The walks of the reference's arithmetic of fractions. The walks of frac.Make, Div, Neg, Floor and Ceil.
-/
import Derived.Test.YtifikcemcflgjaaGreatK7
import Derived.Test.YtifikcemcflgjaaGreatK5
import Derived.Deep.CutRange
namespace Go.Proofs.YtifikcemcflgjaaGreat
open Go.RowKit

theorem rproduct_w {a b : Int} {s t : Bool} {A B : Option Addr} {n m c d : Nat} {w : World} (ha : WV w a s A n) (hv : WV w b t B m) (la : n ≤ 1000000) (lb : m ≤ 1000000) :
    Calls Tryz.prog 69 #[.agg #[.bool s, .slice A n c], .agg #[.bool t, .slice B m d]] w (WR (a * b) w) :=
  (rproduct_any ha hv la lb).mono fun _ _ ⟨s, A, n, c, he, hv, _, hb⟩ => ⟨s, A, n, c, he, hv, hb⟩
theorem rsum_w {a b : Int} {s t : Bool} {A B : Option Addr} {n m c d : Nat} {w : World} (ha : WV w a s A n) (hv : WV w b t B m) (la : n ≤ 1000000) (lb : m ≤ 1000000) :
    Calls Tryz.prog 76 #[.agg #[.bool s, .slice A n c], .agg #[.bool t, .slice B m d]] w (WR (a + b) w) :=
  (rsum_any ha hv la lb).mono fun _ _ ⟨s, A, n, c, he, hv, _, hb⟩ => ⟨s, A, n, c, he, hv, hb⟩
theorem fv_lens {w : World} {q : Rat} {s t : Bool} {A B : Option Addr} {n m k : Nat} (_ : FV w q s A n t B m) (hq : fl q ≤ k) : ln b16 q.num.natAbs ≤ k ∧ ln b16 ((q.den : Nat) : Int).natAbs ≤ k := by
  rw [Int.natAbs_natCast]
  exact fl_le.1 hq
theorem FV.neg {w : World} {q : Rat} {s s' t : Bool} {A B : Option Addr} {n m : Nat} (h : FV w q s A n t B m) (hn : WV w (-q.num) s' A n) : FV w (-q) s' A n t B m := ⟨by rw [Rat.neg_num]; exact hn, by rw [Rat.neg_den]; exact h.2⟩
theorem fl_neg (q : Rat) : fl (-q) = fl q := by
  unfold fl
  rw [Rat.neg_num, Rat.neg_den, Int.natAbs_neg]
set_option linter.unusedSimpArgs false in
set_option maxRecDepth 100000 in
set_option maxHeartbeats 2000000 in
theorem rffromInt_v (z : Int) (w : World) (h1 : -9223372036854775808 ≤ z) (h2 : z ≤ 9223372036854775807) :
    Calls Tryz.prog 71 #[.int .i64 z] w (FR (z : Rat) w) := by
  have hE := Env.start w
  have hE := hE.blk 26 #[.bool false, .slice none 0 0, .bool false, .slice none 0 0] (g := w.heap.size) rfl
  obtain ⟨W0, hW0⟩ : ∃ W0, W0 = (w.alloc (.cells #[.bool false, .slice none 0 0, .bool false, .slice none 0 0] 26)) := ⟨_, rfl⟩
  rw [← hW0] at hE
  have HW0 := Lib.hid hW0
  clear hW0
  go_enter Tryz.func71, Tryz.ntmps71
  go_upto_region 1 with (fail)
  rw [← HW0.out]
  go_wp2_with fail
  have hc := rfromInt_v z W0 h1 h2
  refine hc.mono ?_
  clear hc
  rintro e w1 ⟨sn, An, nn, cn, rfl, hn, hb⟩
  replace hE := hE.step hb
  clear hb
  replace hE := hE.wv hn
  clear hn
  go_wp2_with fail
  have hc := rfromInt_v 1 w1 (by decide) (by decide)
  refine hc.mono ?_
  clear hc
  rintro e w2 ⟨sd, Ad, nd, cd, rfl, hd, hb⟩
  replace hE := hE.step hb
  clear hb
  replace hE := hE.wv hd
  clear hd
  have hfv : FV w2 (z : Rat) sn An nn sd Ad nd := ⟨hE.here.1.2, hE.here.2⟩
  replace hE := hE.fv hfv
  clear hfv
  have hRl : w.heap.size ≤ w.heap.size := by omega
  obtain ⟨WW, hWW, hB, hV, hBel⟩ := ret_frac hE hE.here.1.1.1.2 hRl hE.here.2 cn cd
  obtain ⟨x0, x1, x2, x3⟩ := (hE.here.1.1.1.2).c4
  have fz := fun i => (hE.here.1.1.1.2).frozen i
  have fz0 := fz 0
  have fz1 := fz 1
  have fz2 := fz 2
  have fz3 := fz 3
  clear fz
  have HWW := Lib.hid hWW
  clear hWW
  go_wp2_with fail
  rw [← HWW.out]
  obtain ⟨y0, y1, y2, y3⟩ := hB.c4
  refine bodyPost_ret (v := .agg #[.bool sn, .slice An nn cn, .bool sd, .slice Ad nd cd]) (by simp [results, Tryz.results71, go_sem, y0, y1, y2, y3]) rfl ?_
  exact ⟨sn, An, nn, cn, sd, Ad, nd, cd, rfl, hV, hBel⟩
set_option linter.unusedSimpArgs false in
set_option maxRecDepth 100000 in
set_option maxHeartbeats 2000000 in
theorem rtimes_v {a b : Rat} {sa ta sb tb : Bool} {Aa Ba Ab Bb : Option Addr} {na ca ma da nb cb mb db : Nat} {w : World} (ha : FV w a sa Aa na ta Ba ma) (hb : FV w b sb Ab nb tb Bb mb) (la : fl a ≤ 100000) (lb : fl b ≤ 100000) :
    Calls Tryz.prog 73 #[.agg #[.bool sa, .slice Aa na ca, .bool ta, .slice Ba ma da], .agg #[.bool sb, .slice Ab nb cb, .bool tb, .slice Bb mb db]] w (FR (a * b) w) := by
  have hE := ((((Env.start w).fv ha).fv hb).blk 26 #[.bool sa, .slice Aa na ca, .bool ta, .slice Ba ma da] (g := w.heap.size) rfl).blk 26 #[.bool sb, .slice Ab nb cb, .bool tb, .slice Bb mb db] (g := w.heap.size + 1) (by simp)
  have hE := hE.blk 26 #[.bool false, .slice none 0 0, .bool false, .slice none 0 0] (g := w.heap.size + 1 + 1) (by simp)
  obtain ⟨W0, hW0⟩ : ∃ W0, W0 = (((w.alloc (.cells #[.bool sa, .slice Aa na ca, .bool ta, .slice Ba ma da] 26)).alloc (.cells #[.bool sb, .slice Ab nb cb, .bool tb, .slice Bb mb db] 26)).alloc (.cells #[.bool false, .slice none 0 0, .bool false, .slice none 0 0] 26)) := ⟨_, rfl⟩
  rw [← hW0] at hE
  have HW0 := Lib.hid hW0
  clear hW0
  go_enter Tryz.func73, Tryz.ntmps73
  go_upto_region 1 with (fail)
  rw [← HW0.out]
  obtain ⟨ha1, ha2⟩ := (hE.here.1.1.1.1.2).ln la
  obtain ⟨hb1, hb2⟩ := (hE.here.1.1.1.2).ln lb
  obtain ⟨qa1, qa2⟩ := fv_lens (hE.here.1.1.1.1.2) la
  obtain ⟨qb1, qb2⟩ := fv_lens (hE.here.1.1.1.2) lb
  replace hE := hE.drew
  refine wp_region_held_drew (S := fun w' => w'.cell? ⟨w.heap.size, 0, none⟩ = some (.bool sa) ∧ w'.cell? ⟨w.heap.size, 1, none⟩ = some (.slice Aa na ca) ∧ w'.cell? ⟨w.heap.size, 2, none⟩ = some (.bool ta) ∧ w'.cell? ⟨w.heap.size, 3, none⟩ = some (.slice Ba ma da) ∧ w'.cell? ⟨w.heap.size + 1, 0, none⟩ = some (.bool sb) ∧ w'.cell? ⟨w.heap.size + 1, 1, none⟩ = some (.slice Ab nb cb) ∧ w'.cell? ⟨w.heap.size + 1, 2, none⟩ = some (.bool tb) ∧ w'.cell? ⟨w.heap.size + 1, 3, none⟩ = some (.slice Bb mb db)) (by kernel_rfl) (⟨(hE.here.1.1.2).c4.1, (hE.here.1.1.2).c4.2.1, (hE.here.1.1.2).c4.2.2.1, (hE.here.1.1.2).c4.2.2.2, (hE.here.1.2).c4.1, (hE.here.1.2).c4.2.1, (hE.here.1.2).c4.2.2.1, (hE.here.1.2).c4.2.2.2⟩) (fun hHeld => ?_)
  refine wpAnyH_take (i := 0) (v := ?v1_0_1) rfl (by kernel_rfl) (by kernel_rfl) (by kernel_rfl) (fun _ _ _ h => h) (Or.inl ⟨by rfl, ?hy1_0_1⟩) (by assumption) ?rest1_0_1
  case hy1_0_1 => intro w hSw; (try dsimp only at hSw); first | (go_simp; done) | (go_simp; with_reducible rfl)
  try simp only [Act.put, List.setIfInBounds_toArray, List.set_cons_zero, List.set_cons_succ, List.getElem_toArray, List.getElem_cons_succ, List.getElem_cons_zero]
  refine wpAnyH_take (i := 1) (v := ?v1_1_2) rfl (by kernel_rfl) (by kernel_rfl) (by kernel_rfl) (fun _ _ _ h => h) (Or.inl ⟨by rfl, ?hy1_1_2⟩) (by assumption) ?rest1_1_2
  case hy1_1_2 => intro w hSw; (try dsimp only at hSw); first | (go_simp; done) | (go_simp; with_reducible rfl)
  try simp only [Act.put, List.setIfInBounds_toArray, List.set_cons_zero, List.set_cons_succ, List.getElem_toArray, List.getElem_cons_succ, List.getElem_cons_zero]
  refine wpAnyH_take (i := 2) (v := ?v1_2_3) rfl (by kernel_rfl) (by kernel_rfl) (by kernel_rfl) (fun _ _ _ h => h) (Or.inl ⟨by rfl, ?hy1_2_3⟩) (by assumption) ?rest1_2_3
  case hy1_2_3 => intro w hSw; (try dsimp only at hSw); first | (go_simp; done) | (go_simp; with_reducible rfl)
  try simp only [Act.put, List.setIfInBounds_toArray, List.set_cons_zero, List.set_cons_succ, List.getElem_toArray, List.getElem_cons_succ, List.getElem_cons_zero]
  refine wpAnyH_take (i := 3) (v := ?v1_3_4) rfl (by kernel_rfl) (by kernel_rfl) (by kernel_rfl) (fun _ _ _ h => h) (Or.inl ⟨by rfl, ?hy1_3_4⟩) (by assumption) ?rest1_3_4
  case hy1_3_4 => intro w hSw; (try dsimp only at hSw); first | (go_simp; done) | (go_simp; with_reducible rfl)
  try simp only [Act.put, List.setIfInBounds_toArray, List.set_cons_zero, List.set_cons_succ, List.getElem_toArray, List.getElem_cons_succ, List.getElem_cons_zero]
  refine wpAnyH_take (i := 5) (v := ?v1_5_5) rfl (by kernel_rfl) (by kernel_rfl) (by kernel_rfl) (fun _ _ _ h => h) (Or.inl ⟨by rfl, ?hy1_5_5⟩) (by assumption) ?rest1_5_5
  case hy1_5_5 => intro w hSw; (try dsimp only at hSw); first | (go_simp; done) | (go_simp; with_reducible rfl)
  try simp only [Act.put, List.setIfInBounds_toArray, List.set_cons_zero, List.set_cons_succ, List.getElem_toArray, List.getElem_cons_succ, List.getElem_cons_zero]
  refine wpAnyH_take (i := 6) (v := ?v1_6_6) rfl (by kernel_rfl) (by kernel_rfl) (by kernel_rfl) (fun _ _ _ h => h) (Or.inl ⟨by rfl, ?hy1_6_6⟩) (by assumption) ?rest1_6_6
  case hy1_6_6 => intro w hSw; (try dsimp only at hSw); first | (go_simp; done) | (go_simp; with_reducible rfl)
  try simp only [Act.put, List.setIfInBounds_toArray, List.set_cons_zero, List.set_cons_succ, List.getElem_toArray, List.getElem_cons_succ, List.getElem_cons_zero]
  refine wpAnyH_take (i := 7) (v := ?v1_7_7) rfl (by kernel_rfl) (by kernel_rfl) (by kernel_rfl) (fun _ _ _ h => h) (Or.inl ⟨by rfl, ?hy1_7_7⟩) (by assumption) ?rest1_7_7
  case hy1_7_7 => intro w hSw; (try dsimp only at hSw); first | (go_simp; done) | (go_simp; with_reducible rfl)
  try simp only [Act.put, List.setIfInBounds_toArray, List.set_cons_zero, List.set_cons_succ, List.getElem_toArray, List.getElem_cons_succ, List.getElem_cons_zero]
  refine wpAnyH_take (i := 8) (v := ?v1_8_8) rfl (by kernel_rfl) (by kernel_rfl) (by kernel_rfl) (fun _ _ _ h => h) (Or.inl ⟨by rfl, ?hy1_8_8⟩) (by assumption) ?rest1_8_8
  case hy1_8_8 => intro w hSw; (try dsimp only at hSw); first | (go_simp; done) | (go_simp; with_reducible rfl)
  try simp only [Act.put, List.setIfInBounds_toArray, List.set_cons_zero, List.set_cons_succ, List.getElem_toArray, List.getElem_cons_succ, List.getElem_cons_zero]
  refine wpAnyH_ready (rs := [4]) (by kernel_rfl) (by simp) (AllReadyH.cons rfl (fun K hK => ?_) (AllReadyH.nil))
  go_simp
  have hc := rproduct_w (c := ca) (d := cb) (hE.here.1.1.1.1.2).1 (hE.here.1.1.1.2).1 (Nat.le_trans ha1 (by decide)) (Nat.le_trans hb1 (by decide))
  refine hc.mono ?_
  clear hc
  rintro e w1 ⟨sx, Ax, nx, cx, rfl, hx, hb⟩
  replace hE := hE.step hb
  clear hb
  replace hE := hE.wv hx
  clear hx
  have lx : nx ≤ 200000 := by rw [(hE.here.2).len]; exact ln_mulZ (m := 100000) (n := 100000) qa1 qb1
  go_wp2_with fail
  refine hK.out _ _ (⟨(hE.here.1.1.1.2).c4.1, (hE.here.1.1.1.2).c4.2.1, (hE.here.1.1.1.2).c4.2.2.1, (hE.here.1.1.1.2).c4.2.2.2, (hE.here.1.1.2).c4.1, (hE.here.1.1.2).c4.2.1, (hE.here.1.1.2).c4.2.2.1, (hE.here.1.1.2).c4.2.2.2⟩) (fun hHeld => ?_)
  clear hK K
  try simp only [Act.put, List.setIfInBounds_toArray, List.set_cons_zero, List.set_cons_succ, List.getElem_toArray, List.getElem_cons_succ, List.getElem_cons_zero]
  refine wpAnyH_ready (rs := [9]) (by kernel_rfl) (by simp) (AllReadyH.cons rfl (fun K hK => ?_) (AllReadyH.nil))
  go_simp
  have hc := rproduct_w (c := da) (d := db) (hE.here.1.1.1.1.1.2).2 (hE.here.1.1.1.1.2).2 (Nat.le_trans ha2 (by decide)) (Nat.le_trans hb2 (by decide))
  refine hc.mono ?_
  clear hc
  rintro e w2 ⟨su, Au, nu, cu, rfl, hu, hb⟩
  replace hE := hE.step hb
  clear hb
  replace hE := hE.wv hu
  clear hu
  have lu : nu ≤ 200000 := by rw [(hE.here.2).len]; exact ln_mulZ (m := 100000) (n := 100000) qa2 qb2
  go_wp2_with fail
  refine hK.out _ _ (⟨(hE.here.1.1.1.1.2).c4.1, (hE.here.1.1.1.1.2).c4.2.1, (hE.here.1.1.1.1.2).c4.2.2.1, (hE.here.1.1.1.1.2).c4.2.2.2, (hE.here.1.1.1.2).c4.1, (hE.here.1.1.1.2).c4.2.1, (hE.here.1.1.1.2).c4.2.2.1, (hE.here.1.1.1.2).c4.2.2.2⟩) (fun hHeld => ?_)
  clear hK K
  try simp only [Act.put, List.setIfInBounds_toArray, List.set_cons_zero, List.set_cons_succ, List.getElem_toArray, List.getElem_cons_succ, List.getElem_cons_zero]
  refine wpAnyH_ready (rs := [10]) (by kernel_rfl) (by simp) (AllReadyH.cons rfl (fun K hK => ?_) (AllReadyH.nil))
  go_simp
  have hc := rlowest_v (ca := cx) (cb := cu) hE.here.1.2 hE.here.2 (Nat.le_trans lx (by decide)) (Nat.le_trans lu (by decide)) (den_ne a b)
  rw [mul_low a b] at hc
  refine hc.mono ?_
  clear hc
  rintro e w3 ⟨sr, Ar, nr, cr, tr, Br, mr, dr, rfl, hf, hb⟩
  replace hE := hE.step hb
  clear hb
  replace hE := hE.fv hf
  clear hf
  go_wp2_with fail
  refine hK.out _ _ (⟨(hE.here.1.1.1.1.1.2).c4.1, (hE.here.1.1.1.1.1.2).c4.2.1, (hE.here.1.1.1.1.1.2).c4.2.2.1, (hE.here.1.1.1.1.1.2).c4.2.2.2, (hE.here.1.1.1.1.2).c4.1, (hE.here.1.1.1.1.2).c4.2.1, (hE.here.1.1.1.1.2).c4.2.2.1, (hE.here.1.1.1.1.2).c4.2.2.2⟩) (fun hHeld => ?_)
  clear hK K
  try simp only [Act.put, List.setIfInBounds_toArray, List.set_cons_zero, List.set_cons_succ, List.getElem_toArray, List.getElem_cons_succ, List.getElem_cons_zero]
  refine wpAnyH_ready (rs := [11]) (by kernel_rfl) (by simp) (AllReadyH.cons rfl (fun K hK => ?_) (AllReadyH.nil))
  have hRl : w.heap.size ≤ w.heap.size + 1 + 1 := by omega
  obtain ⟨WW, hWW, hB, hV, hBel⟩ := ret_frac hE hE.here.1.1.1.2 hRl hE.here.2 cr dr
  obtain ⟨x0, x1, x2, x3⟩ := (hE.here.1.1.1.2).c4
  have fz := fun i => (hE.here.1.1.1.2).frozen i
  have fz0 := fz 0
  have fz1 := fz 1
  have fz2 := fz 2
  have fz3 := fz 3
  clear fz
  have HWW := Lib.hid hWW
  clear hWW
  have q4 := (hE.here.1.1.1.1.1.2).far4 (R := w.heap.size + 1 + 1) (by omega) (.bool sr) (.slice Ar nr cr) (.bool tr) (.slice Br mr dr)
  rw [← HWW.out] at q4
  have q5 := (hE.here.1.1.1.1.2).far4 (R := w.heap.size + 1 + 1) (by omega) (.bool sr) (.slice Ar nr cr) (.bool tr) (.slice Br mr dr)
  rw [← HWW.out] at q5
  go_simp
  rw [← HWW.out]
  refine hK.out _ _ (⟨(q4).c4.1, (q4).c4.2.1, (q4).c4.2.2.1, (q4).c4.2.2.2, (q5).c4.1, (q5).c4.2.1, (q5).c4.2.2.1, (q5).c4.2.2.2⟩) (fun hHeld => ?_)
  clear hK K
  try simp only [Act.put, List.setIfInBounds_toArray, List.set_cons_zero, List.set_cons_succ, List.getElem_toArray, List.getElem_cons_succ, List.getElem_cons_zero]
  refine wpAnyH_done (by kernel_rfl) ?_ _
  go_wp2_with fail
  obtain ⟨y0, y1, y2, y3⟩ := hB.c4
  refine bodyPost_ret (v := .agg #[.bool sr, .slice Ar nr cr, .bool tr, .slice Br mr dr]) (by simp [results, Tryz.results73, go_sem, y0, y1, y2, y3]) rfl ?_
  exact ⟨sr, Ar, nr, cr, tr, Br, mr, dr, rfl, hV, hBel⟩
set_option linter.unusedSimpArgs false in
set_option maxRecDepth 100000 in
set_option maxHeartbeats 4000000 in
theorem rplus_v {a b : Rat} {sa ta sb tb : Bool} {Aa Ba Ab Bb : Option Addr} {na ca ma da nb cb mb db : Nat} {w : World} (ha : FV w a sa Aa na ta Ba ma) (hb : FV w b sb Ab nb tb Bb mb) (la : fl a ≤ 100000) (lb : fl b ≤ 100000) :
    Calls Tryz.prog 22 #[.agg #[.bool sa, .slice Aa na ca, .bool ta, .slice Ba ma da], .agg #[.bool sb, .slice Ab nb cb, .bool tb, .slice Bb mb db]] w (FR (a + b) w) := by
  have hE := ((((Env.start w).fv ha).fv hb).blk 26 #[.bool sa, .slice Aa na ca, .bool ta, .slice Ba ma da] (g := w.heap.size) rfl).blk 26 #[.bool sb, .slice Ab nb cb, .bool tb, .slice Bb mb db] (g := w.heap.size + 1) (by simp)
  have hE := hE.blk 26 #[.bool false, .slice none 0 0, .bool false, .slice none 0 0] (g := w.heap.size + 1 + 1) (by simp)
  obtain ⟨W0, hW0⟩ : ∃ W0, W0 = (((w.alloc (.cells #[.bool sa, .slice Aa na ca, .bool ta, .slice Ba ma da] 26)).alloc (.cells #[.bool sb, .slice Ab nb cb, .bool tb, .slice Bb mb db] 26)).alloc (.cells #[.bool false, .slice none 0 0, .bool false, .slice none 0 0] 26)) := ⟨_, rfl⟩
  rw [← hW0] at hE
  have HW0 := Lib.hid hW0
  clear hW0
  go_enter Tryz.func22, Tryz.ntmps22
  go_upto_region 1 with (fail)
  rw [← HW0.out]
  obtain ⟨ha1, ha2⟩ := (hE.here.1.1.1.1.2).ln la
  obtain ⟨hb1, hb2⟩ := (hE.here.1.1.1.2).ln lb
  obtain ⟨qa1, qa2⟩ := fv_lens (hE.here.1.1.1.1.2) la
  obtain ⟨qb1, qb2⟩ := fv_lens (hE.here.1.1.1.2) lb
  go_cut [5] from 6 to 16 (fun p wx => ∃ G1 sz Az nz cz, p = .pointer (some ⟨G1, 0, none⟩) ∧ w.heap.size + 1 + 1 < G1 ∧ Env w (fun V => (((((((True ∧ FV V a sa Aa na ta Ba ma) ∧ FV V b sb Ab nb tb Bb mb) ∧ Blk 26 (w.heap.size) #[.bool sa, .slice Aa na ca, .bool ta, .slice Ba ma da] V) ∧ Blk 26 (w.heap.size + 1) #[.bool sb, .slice Ab nb cb, .bool tb, .slice Bb mb db] V) ∧ Blk 26 (w.heap.size + 1 + 1) #[.bool false, .slice none 0 0, .bool false, .slice none 0 0] V) ∧ WV V (a.num * (b.den : Int) + b.num * (a.den : Int)) sz Az nz) ∧ Blk 24 (G1) #[.bool sz, .slice Az nz cz] V)) wx)
  case first =>
    replace hE := hE.drew
    refine wp_region_held_drew (S := fun w' => w'.cell? ⟨w.heap.size, 0, none⟩ = some (.bool sa) ∧ w'.cell? ⟨w.heap.size, 1, none⟩ = some (.slice Aa na ca) ∧ w'.cell? ⟨w.heap.size, 2, none⟩ = some (.bool ta) ∧ w'.cell? ⟨w.heap.size, 3, none⟩ = some (.slice Ba ma da) ∧ w'.cell? ⟨w.heap.size + 1, 0, none⟩ = some (.bool sb) ∧ w'.cell? ⟨w.heap.size + 1, 1, none⟩ = some (.slice Ab nb cb) ∧ w'.cell? ⟨w.heap.size + 1, 2, none⟩ = some (.bool tb) ∧ w'.cell? ⟨w.heap.size + 1, 3, none⟩ = some (.slice Bb mb db)) (by kernel_rfl) (⟨(hE.here.1.1.2).c4.1, (hE.here.1.1.2).c4.2.1, (hE.here.1.1.2).c4.2.2.1, (hE.here.1.1.2).c4.2.2.2, (hE.here.1.2).c4.1, (hE.here.1.2).c4.2.1, (hE.here.1.2).c4.2.2.1, (hE.here.1.2).c4.2.2.2⟩) (fun hHeld => ?_)
    generalize W0.drew = wd at *
    refine wpAnyH_take (i := 0) (v := ?v2_0_1) rfl (by kernel_rfl) (by kernel_rfl) (by kernel_rfl) (fun _ _ _ h => h) (Or.inl ⟨by rfl, ?hy2_0_1⟩) (by assumption) ?rest2_0_1
    case hy2_0_1 => intro w hSw; (try dsimp only at hSw); first | (go_simp; done) | (go_simp; with_reducible rfl)
    try simp only [Act.put, List.setIfInBounds_toArray, List.set_cons_zero, List.set_cons_succ, List.getElem_toArray, List.getElem_cons_succ, List.getElem_cons_zero]
    refine wpAnyH_take (i := 1) (v := ?v2_1_2) rfl (by kernel_rfl) (by kernel_rfl) (by kernel_rfl) (fun _ _ _ h => h) (Or.inl ⟨by rfl, ?hy2_1_2⟩) (by assumption) ?rest2_1_2
    case hy2_1_2 => intro w hSw; (try dsimp only at hSw); first | (go_simp; done) | (go_simp; with_reducible rfl)
    try simp only [Act.put, List.setIfInBounds_toArray, List.set_cons_zero, List.set_cons_succ, List.getElem_toArray, List.getElem_cons_succ, List.getElem_cons_zero]
    refine wpAnyH_take (i := 2) (v := ?v2_2_3) rfl (by kernel_rfl) (by kernel_rfl) (by kernel_rfl) (fun _ _ _ h => h) (Or.inl ⟨by rfl, ?hy2_2_3⟩) (by assumption) ?rest2_2_3
    case hy2_2_3 => intro w hSw; (try dsimp only at hSw); first | (go_simp; done) | (go_simp; with_reducible rfl)
    try simp only [Act.put, List.setIfInBounds_toArray, List.set_cons_zero, List.set_cons_succ, List.getElem_toArray, List.getElem_cons_succ, List.getElem_cons_zero]
    refine wpAnyH_take (i := 3) (v := ?v2_3_4) rfl (by kernel_rfl) (by kernel_rfl) (by kernel_rfl) (fun _ _ _ h => h) (Or.inl ⟨by rfl, ?hy2_3_4⟩) (by assumption) ?rest2_3_4
    case hy2_3_4 => intro w hSw; (try dsimp only at hSw); first | (go_simp; done) | (go_simp; with_reducible rfl)
    try simp only [Act.put, List.setIfInBounds_toArray, List.set_cons_zero, List.set_cons_succ, List.getElem_toArray, List.getElem_cons_succ, List.getElem_cons_zero]
    refine wpAnyH_take (i := 5) (v := ?v2_5_5) rfl (by kernel_rfl) (by kernel_rfl) (by kernel_rfl) (fun _ _ _ h => h) (Or.inl ⟨by rfl, ?hy2_5_5⟩) (by assumption) ?rest2_5_5
    case hy2_5_5 => intro w hSw; (try dsimp only at hSw); first | (go_simp; done) | (go_simp; with_reducible rfl)
    try simp only [Act.put, List.setIfInBounds_toArray, List.set_cons_zero, List.set_cons_succ, List.getElem_toArray, List.getElem_cons_succ, List.getElem_cons_zero]
    refine wpAnyH_take (i := 6) (v := ?v2_6_6) rfl (by kernel_rfl) (by kernel_rfl) (by kernel_rfl) (fun _ _ _ h => h) (Or.inl ⟨by rfl, ?hy2_6_6⟩) (by assumption) ?rest2_6_6
    case hy2_6_6 => intro w hSw; (try dsimp only at hSw); first | (go_simp; done) | (go_simp; with_reducible rfl)
    try simp only [Act.put, List.setIfInBounds_toArray, List.set_cons_zero, List.set_cons_succ, List.getElem_toArray, List.getElem_cons_succ, List.getElem_cons_zero]
    refine wpAnyH_take (i := 7) (v := ?v2_7_7) rfl (by kernel_rfl) (by kernel_rfl) (by kernel_rfl) (fun _ _ _ h => h) (Or.inl ⟨by rfl, ?hy2_7_7⟩) (by assumption) ?rest2_7_7
    case hy2_7_7 => intro w hSw; (try dsimp only at hSw); first | (go_simp; done) | (go_simp; with_reducible rfl)
    try simp only [Act.put, List.setIfInBounds_toArray, List.set_cons_zero, List.set_cons_succ, List.getElem_toArray, List.getElem_cons_succ, List.getElem_cons_zero]
    refine wpAnyH_take (i := 8) (v := ?v2_8_8) rfl (by kernel_rfl) (by kernel_rfl) (by kernel_rfl) (fun _ _ _ h => h) (Or.inl ⟨by rfl, ?hy2_8_8⟩) (by assumption) ?rest2_8_8
    case hy2_8_8 => intro w hSw; (try dsimp only at hSw); first | (go_simp; done) | (go_simp; with_reducible rfl)
    try simp only [Act.put, List.setIfInBounds_toArray, List.set_cons_zero, List.set_cons_succ, List.getElem_toArray, List.getElem_cons_succ, List.getElem_cons_zero]
    refine wpAnyH_ready (rs := [4, 11]) (by kernel_rfl) (by simp) (AllReadyH.cons rfl (fun K hK => ?_) (AllReadyH.cons rfl (fun K hK => ?_) (AllReadyH.nil)))
    · skip
      go_simp
      have hc := rproduct_w (c := ca) (d := db) (hE.here.1.1.1.1.2).1 (hE.here.1.1.1.2).2 (Nat.le_trans ha1 (by decide)) (Nat.le_trans hb2 (by decide))
      refine hc.mono ?_
      clear hc
      rintro e w1 ⟨sx, Ax, nx, cx, rfl, hx, hb⟩
      replace hE := hE.step hb
      clear hb
      replace hE := hE.wv hx
      clear hx
      have lx : nx ≤ 200000 := by rw [(hE.here.2).len]; exact ln_mulZ (m := 100000) (n := 100000) qa1 qb2
      go_wp2_with fail
      refine hK.out _ _ (⟨(hE.here.1.1.1.2).c4.1, (hE.here.1.1.1.2).c4.2.1, (hE.here.1.1.1.2).c4.2.2.1, (hE.here.1.1.1.2).c4.2.2.2, (hE.here.1.1.2).c4.1, (hE.here.1.1.2).c4.2.1, (hE.here.1.1.2).c4.2.2.1, (hE.here.1.1.2).c4.2.2.2⟩) (fun hHeld => ?_)
      clear hK K
      try simp only [Act.put, List.setIfInBounds_toArray, List.set_cons_zero, List.set_cons_succ, List.getElem_toArray, List.getElem_cons_succ, List.getElem_cons_zero]
      refine wpAnyH_ready (rs := [9, 11]) (by kernel_rfl) (by simp) (AllReadyH.cons rfl (fun K hK => ?_) (AllReadyH.cons rfl (fun K hK => ?_) (AllReadyH.nil)))
      · skip
        go_simp
        have hc := rproduct_w (c := cb) (d := da) (hE.here.1.1.1.1.2).1 (hE.here.1.1.1.1.1.2).2 (Nat.le_trans hb1 (by decide)) (Nat.le_trans ha2 (by decide))
        refine hc.mono ?_
        clear hc
        rintro e w2 ⟨sy, Ay, ny, cy, rfl, hy, hb⟩
        replace hE := hE.step hb
        clear hb
        replace hE := hE.wv hy
        clear hy
        have ly : ny ≤ 200000 := by rw [(hE.here.2).len]; exact ln_mulZ (m := 100000) (n := 100000) qb1 qa2
        go_wp2_with fail
        refine hK.out _ _ (⟨(hE.here.1.1.1.1.2).c4.1, (hE.here.1.1.1.1.2).c4.2.1, (hE.here.1.1.1.1.2).c4.2.2.1, (hE.here.1.1.1.1.2).c4.2.2.2, (hE.here.1.1.1.2).c4.1, (hE.here.1.1.1.2).c4.2.1, (hE.here.1.1.1.2).c4.2.2.1, (hE.here.1.1.1.2).c4.2.2.2⟩) (fun hHeld => ?_)
        clear hK K
        try simp only [Act.put, List.setIfInBounds_toArray, List.set_cons_zero, List.set_cons_succ, List.getElem_toArray, List.getElem_cons_succ, List.getElem_cons_zero]
        refine wpAnyH_ready (rs := [10, 11]) (by kernel_rfl) (by simp) (AllReadyH.cons rfl (fun K hK => ?_) (AllReadyH.cons rfl (fun K hK => ?_) (AllReadyH.nil)))
        · skip
          go_simp
          have hc := rsum_w (c := cx) (d := cy) hE.here.1.2 hE.here.2 (Nat.le_trans lx (by decide)) (Nat.le_trans ly (by decide))
          refine hc.mono ?_
          clear hc
          rintro e w3 ⟨sz, Az, nz, cz, rfl, hz, hb⟩
          replace hE := hE.step hb
          clear hb
          replace hE := hE.wv hz
          clear hz
          have lz : nz ≤ 200001 := by rw [(hE.here.2).len]; exact ln_addZ (m := 200000) (by rw [← (hE.here.1.1.2).len]; exact lx) (by rw [← (hE.here.1.2).len]; exact ly)
          go_wp2_with fail
          refine hK.out _ _ (⟨(hE.here.1.1.1.1.1.2).c4.1, (hE.here.1.1.1.1.1.2).c4.2.1, (hE.here.1.1.1.1.1.2).c4.2.2.1, (hE.here.1.1.1.1.1.2).c4.2.2.2, (hE.here.1.1.1.1.2).c4.1, (hE.here.1.1.1.1.2).c4.2.1, (hE.here.1.1.1.1.2).c4.2.2.1, (hE.here.1.1.1.1.2).c4.2.2.2⟩) (fun hHeld => ?_)
          clear hK K
          try simp only [Act.put, List.setIfInBounds_toArray, List.set_cons_zero, List.set_cons_succ, List.getElem_toArray, List.getElem_cons_succ, List.getElem_cons_zero]
          refine wpAnyH_ready (rs := [11]) (by kernel_rfl) (by simp) (AllReadyH.cons rfl (fun K hK => ?_) (AllReadyH.nil))
          go_simp
          obtain ⟨g4, hg4⟩ : ∃ g4, g4 = w3.heap.size := ⟨_, rfl⟩
          have hl4_2 : w.heap.size < g4 := by rw [hg4]; exact (hE.here.1.1.1.1.1.2).lt
          have hl4_3 : w.heap.size + 1 < g4 := by rw [hg4]; exact (hE.here.1.1.1.1.2).lt
          have hl4_4 : w.heap.size + 1 + 1 < g4 := by rw [hg4]; exact (hE.here.1.1.1.2).lt
          replace hE := hE.blk 24 #[.bool false, .slice none 0 0] (g := g4) hg4.symm
          generalize w3.alloc (.cells #[.bool false, .slice none 0 0] 24) = W4 at hE ⊢
          rw [← hg4]
          clear hg4
          refine hK.out _ _ (⟨(hE.here.1.1.1.1.1.1.2).c4.1, (hE.here.1.1.1.1.1.1.2).c4.2.1, (hE.here.1.1.1.1.1.1.2).c4.2.2.1, (hE.here.1.1.1.1.1.1.2).c4.2.2.2, (hE.here.1.1.1.1.1.2).c4.1, (hE.here.1.1.1.1.1.2).c4.2.1, (hE.here.1.1.1.1.1.2).c4.2.2.1, (hE.here.1.1.1.1.1.2).c4.2.2.2⟩) (fun hHeld => ?_)
          clear hK K
          try simp only [Act.put, List.setIfInBounds_toArray, List.set_cons_zero, List.set_cons_succ, List.getElem_toArray, List.getElem_cons_succ, List.getElem_cons_zero]
          refine wpAnyH_ready (rs := [12]) (by kernel_rfl) (by simp) (AllReadyH.cons rfl (fun K hK => ?_) (AllReadyH.nil))
          have hgl5 : w.heap.size ≤ g4 := by omega
          obtain ⟨x5_0, x5_1⟩ := (hE.here.2).c2
          have f5_0 := (hE.here.2).frozen 0
          have f5_1 := (hE.here.2).frozen 1
          replace hE := ((((((((((Env.again (bel2 hE.bel hgl5 (.bool sz) (.slice Az nz cz))).fv ((hE.here.1.1.1.1.1.1.1.1.2).sep2 hE.here.2 rfl (.bool sz) (.slice Az nz cz) rfl)).fv ((hE.here.1.1.1.1.1.1.1.2).sep2 hE.here.2 rfl (.bool sz) (.slice Az nz cz) rfl)).blkI ((hE.here.1.1.1.1.1.1.2).far2 (R := g4) (by omega) (.bool sz) (.slice Az nz cz))).blkI ((hE.here.1.1.1.1.1.2).far2 (R := g4) (by omega) (.bool sz) (.slice Az nz cz))).blkI ((hE.here.1.1.1.1.2).far2 (R := g4) (by omega) (.bool sz) (.slice Az nz cz))).wv ((hE.here.1.1.1.2).sep2 hE.here.2 rfl (.bool sz) (.slice Az nz cz) rfl)).wv ((hE.here.1.1.2).sep2 hE.here.2 rfl (.bool sz) (.slice Az nz cz) rfl)).wv ((hE.here.1.2).sep2 hE.here.2 rfl (.bool sz) (.slice Az nz cz) rfl)).blkI ((hE.here.2).s2 (.bool sz) (.slice Az nz cz)))
          go_simp
          clear x5_0 x5_1 f5_0 f5_1 hgl5
          generalize ((W4.setCell ⟨g4, 0, none⟩ (.bool sz)).setCell ⟨g4, 1, none⟩ (.slice Az nz cz)) = W5 at hE ⊢
          refine hK.out _ _ (⟨(hE.here.1.1.1.1.1.1.2).c4.1, (hE.here.1.1.1.1.1.1.2).c4.2.1, (hE.here.1.1.1.1.1.1.2).c4.2.2.1, (hE.here.1.1.1.1.1.1.2).c4.2.2.2, (hE.here.1.1.1.1.1.2).c4.1, (hE.here.1.1.1.1.1.2).c4.2.1, (hE.here.1.1.1.1.1.2).c4.2.2.1, (hE.here.1.1.1.1.1.2).c4.2.2.2⟩) (fun hHeld => ?_)
          clear hK K
          try simp only [Act.put, List.setIfInBounds_toArray, List.set_cons_zero, List.set_cons_succ, List.getElem_toArray, List.getElem_cons_succ, List.getElem_cons_zero]
          refine wpAnyH_done (by kernel_rfl) ?_ _
          go_wp2_with fail
          go_meet
          exact ⟨g4, sz, Az, nz, cz, rfl, by omega, ((((((((Env.again hE.bel).fv (hE.here.1.1.1.1.1.1.1.1.2)).fv (hE.here.1.1.1.1.1.1.1.2)).blkI (hE.here.1.1.1.1.1.1.2)).blkI (hE.here.1.1.1.1.1.2)).blkI (hE.here.1.1.1.1.2)).wv (hE.here.1.2)).blkI (hE.here.2))⟩
        · skip
          go_simp
          obtain ⟨g6, hg6⟩ : ∃ g6, g6 = w2.heap.size := ⟨_, rfl⟩
          have hl6_2 : w.heap.size < g6 := by rw [hg6]; exact (hE.here.1.1.1.1.2).lt
          have hl6_3 : w.heap.size + 1 < g6 := by rw [hg6]; exact (hE.here.1.1.1.2).lt
          have hl6_4 : w.heap.size + 1 + 1 < g6 := by rw [hg6]; exact (hE.here.1.1.2).lt
          replace hE := hE.blk 24 #[.bool false, .slice none 0 0] (g := g6) hg6.symm
          generalize w2.alloc (.cells #[.bool false, .slice none 0 0] 24) = W6 at hE ⊢
          rw [← hg6]
          clear hg6
          refine hK.out _ _ (⟨(hE.here.1.1.1.1.1.2).c4.1, (hE.here.1.1.1.1.1.2).c4.2.1, (hE.here.1.1.1.1.1.2).c4.2.2.1, (hE.here.1.1.1.1.1.2).c4.2.2.2, (hE.here.1.1.1.1.2).c4.1, (hE.here.1.1.1.1.2).c4.2.1, (hE.here.1.1.1.1.2).c4.2.2.1, (hE.here.1.1.1.1.2).c4.2.2.2⟩) (fun hHeld => ?_)
          clear hK K
          try simp only [Act.put, List.setIfInBounds_toArray, List.set_cons_zero, List.set_cons_succ, List.getElem_toArray, List.getElem_cons_succ, List.getElem_cons_zero]
          refine wpAnyH_ready (rs := [10]) (by kernel_rfl) (by simp) (AllReadyH.cons rfl (fun K hK => ?_) (AllReadyH.nil))
          go_simp
          have hc := rsum_w (c := cx) (d := cy) hE.here.1.1.2 hE.here.1.2 (Nat.le_trans lx (by decide)) (Nat.le_trans ly (by decide))
          refine hc.mono ?_
          clear hc
          rintro e w7 ⟨sz, Az, nz, cz, rfl, hz, hb⟩
          replace hE := hE.step hb
          clear hb
          replace hE := hE.wv hz
          clear hz
          have lz : nz ≤ 200001 := by rw [(hE.here.2).len]; exact ln_addZ (m := 200000) (by rw [← (hE.here.1.1.1.2).len]; exact lx) (by rw [← (hE.here.1.1.2).len]; exact ly)
          go_wp2_with fail
          refine hK.out _ _ (⟨(hE.here.1.1.1.1.1.1.2).c4.1, (hE.here.1.1.1.1.1.1.2).c4.2.1, (hE.here.1.1.1.1.1.1.2).c4.2.2.1, (hE.here.1.1.1.1.1.1.2).c4.2.2.2, (hE.here.1.1.1.1.1.2).c4.1, (hE.here.1.1.1.1.1.2).c4.2.1, (hE.here.1.1.1.1.1.2).c4.2.2.1, (hE.here.1.1.1.1.1.2).c4.2.2.2⟩) (fun hHeld => ?_)
          clear hK K
          try simp only [Act.put, List.setIfInBounds_toArray, List.set_cons_zero, List.set_cons_succ, List.getElem_toArray, List.getElem_cons_succ, List.getElem_cons_zero]
          refine wpAnyH_ready (rs := [12]) (by kernel_rfl) (by simp) (AllReadyH.cons rfl (fun K hK => ?_) (AllReadyH.nil))
          have hgl8 : w.heap.size ≤ g6 := by omega
          obtain ⟨x8_0, x8_1⟩ := (hE.here.1.2).c2
          have f8_0 := (hE.here.1.2).frozen 0
          have f8_1 := (hE.here.1.2).frozen 1
          replace hE := ((((((((((Env.again (bel2 hE.bel hgl8 (.bool sz) (.slice Az nz cz))).fv ((hE.here.1.1.1.1.1.1.1.1.2).sep2 hE.here.1.2 rfl (.bool sz) (.slice Az nz cz) rfl)).fv ((hE.here.1.1.1.1.1.1.1.2).sep2 hE.here.1.2 rfl (.bool sz) (.slice Az nz cz) rfl)).blkI ((hE.here.1.1.1.1.1.1.2).far2 (R := g6) (by omega) (.bool sz) (.slice Az nz cz))).blkI ((hE.here.1.1.1.1.1.2).far2 (R := g6) (by omega) (.bool sz) (.slice Az nz cz))).blkI ((hE.here.1.1.1.1.2).far2 (R := g6) (by omega) (.bool sz) (.slice Az nz cz))).wv ((hE.here.1.1.1.2).sep2 hE.here.1.2 rfl (.bool sz) (.slice Az nz cz) rfl)).wv ((hE.here.1.1.2).sep2 hE.here.1.2 rfl (.bool sz) (.slice Az nz cz) rfl)).blkI ((hE.here.1.2).s2 (.bool sz) (.slice Az nz cz))).wv ((hE.here.2).sep2 hE.here.1.2 rfl (.bool sz) (.slice Az nz cz) rfl))
          go_simp
          clear x8_0 x8_1 f8_0 f8_1 hgl8
          generalize ((w7.setCell ⟨g6, 0, none⟩ (.bool sz)).setCell ⟨g6, 1, none⟩ (.slice Az nz cz)) = W8 at hE ⊢
          refine hK.out _ _ (⟨(hE.here.1.1.1.1.1.1.2).c4.1, (hE.here.1.1.1.1.1.1.2).c4.2.1, (hE.here.1.1.1.1.1.1.2).c4.2.2.1, (hE.here.1.1.1.1.1.1.2).c4.2.2.2, (hE.here.1.1.1.1.1.2).c4.1, (hE.here.1.1.1.1.1.2).c4.2.1, (hE.here.1.1.1.1.1.2).c4.2.2.1, (hE.here.1.1.1.1.1.2).c4.2.2.2⟩) (fun hHeld => ?_)
          clear hK K
          try simp only [Act.put, List.setIfInBounds_toArray, List.set_cons_zero, List.set_cons_succ, List.getElem_toArray, List.getElem_cons_succ, List.getElem_cons_zero]
          refine wpAnyH_done (by kernel_rfl) ?_ _
          go_wp2_with fail
          go_meet
          exact ⟨g6, sz, Az, nz, cz, rfl, by omega, ((((((((Env.again hE.bel).fv (hE.here.1.1.1.1.1.1.1.1.2)).fv (hE.here.1.1.1.1.1.1.1.2)).blkI (hE.here.1.1.1.1.1.1.2)).blkI (hE.here.1.1.1.1.1.2)).blkI (hE.here.1.1.1.1.2)).wv (hE.here.2)).blkI (hE.here.1.2))⟩
      · skip
        go_simp
        obtain ⟨g9, hg9⟩ : ∃ g9, g9 = w1.heap.size := ⟨_, rfl⟩
        have hl9_2 : w.heap.size < g9 := by rw [hg9]; exact (hE.here.1.1.1.2).lt
        have hl9_3 : w.heap.size + 1 < g9 := by rw [hg9]; exact (hE.here.1.1.2).lt
        have hl9_4 : w.heap.size + 1 + 1 < g9 := by rw [hg9]; exact (hE.here.1.2).lt
        replace hE := hE.blk 24 #[.bool false, .slice none 0 0] (g := g9) hg9.symm
        generalize w1.alloc (.cells #[.bool false, .slice none 0 0] 24) = W9 at hE ⊢
        rw [← hg9]
        clear hg9
        refine hK.out _ _ (⟨(hE.here.1.1.1.1.2).c4.1, (hE.here.1.1.1.1.2).c4.2.1, (hE.here.1.1.1.1.2).c4.2.2.1, (hE.here.1.1.1.1.2).c4.2.2.2, (hE.here.1.1.1.2).c4.1, (hE.here.1.1.1.2).c4.2.1, (hE.here.1.1.1.2).c4.2.2.1, (hE.here.1.1.1.2).c4.2.2.2⟩) (fun hHeld => ?_)
        clear hK K
        try simp only [Act.put, List.setIfInBounds_toArray, List.set_cons_zero, List.set_cons_succ, List.getElem_toArray, List.getElem_cons_succ, List.getElem_cons_zero]
        refine wpAnyH_ready (rs := [9]) (by kernel_rfl) (by simp) (AllReadyH.cons rfl (fun K hK => ?_) (AllReadyH.nil))
        go_simp
        have hc := rproduct_w (c := cb) (d := da) (hE.here.1.1.1.1.1.2).1 (hE.here.1.1.1.1.1.1.2).2 (Nat.le_trans hb1 (by decide)) (Nat.le_trans ha2 (by decide))
        refine hc.mono ?_
        clear hc
        rintro e w10 ⟨sy, Ay, ny, cy, rfl, hy, hb⟩
        replace hE := hE.step hb
        clear hb
        replace hE := hE.wv hy
        clear hy
        have ly : ny ≤ 200000 := by rw [(hE.here.2).len]; exact ln_mulZ (m := 100000) (n := 100000) qb1 qa2
        go_wp2_with fail
        refine hK.out _ _ (⟨(hE.here.1.1.1.1.1.2).c4.1, (hE.here.1.1.1.1.1.2).c4.2.1, (hE.here.1.1.1.1.1.2).c4.2.2.1, (hE.here.1.1.1.1.1.2).c4.2.2.2, (hE.here.1.1.1.1.2).c4.1, (hE.here.1.1.1.1.2).c4.2.1, (hE.here.1.1.1.1.2).c4.2.2.1, (hE.here.1.1.1.1.2).c4.2.2.2⟩) (fun hHeld => ?_)
        clear hK K
        try simp only [Act.put, List.setIfInBounds_toArray, List.set_cons_zero, List.set_cons_succ, List.getElem_toArray, List.getElem_cons_succ, List.getElem_cons_zero]
        refine wpAnyH_ready (rs := [10]) (by kernel_rfl) (by simp) (AllReadyH.cons rfl (fun K hK => ?_) (AllReadyH.nil))
        go_simp
        have hc := rsum_w (c := cx) (d := cy) hE.here.1.1.2 hE.here.2 (Nat.le_trans lx (by decide)) (Nat.le_trans ly (by decide))
        refine hc.mono ?_
        clear hc
        rintro e w11 ⟨sz, Az, nz, cz, rfl, hz, hb⟩
        replace hE := hE.step hb
        clear hb
        replace hE := hE.wv hz
        clear hz
        have lz : nz ≤ 200001 := by rw [(hE.here.2).len]; exact ln_addZ (m := 200000) (by rw [← (hE.here.1.1.1.2).len]; exact lx) (by rw [← (hE.here.1.2).len]; exact ly)
        go_wp2_with fail
        refine hK.out _ _ (⟨(hE.here.1.1.1.1.1.1.2).c4.1, (hE.here.1.1.1.1.1.1.2).c4.2.1, (hE.here.1.1.1.1.1.1.2).c4.2.2.1, (hE.here.1.1.1.1.1.1.2).c4.2.2.2, (hE.here.1.1.1.1.1.2).c4.1, (hE.here.1.1.1.1.1.2).c4.2.1, (hE.here.1.1.1.1.1.2).c4.2.2.1, (hE.here.1.1.1.1.1.2).c4.2.2.2⟩) (fun hHeld => ?_)
        clear hK K
        try simp only [Act.put, List.setIfInBounds_toArray, List.set_cons_zero, List.set_cons_succ, List.getElem_toArray, List.getElem_cons_succ, List.getElem_cons_zero]
        refine wpAnyH_ready (rs := [12]) (by kernel_rfl) (by simp) (AllReadyH.cons rfl (fun K hK => ?_) (AllReadyH.nil))
        have hgl12 : w.heap.size ≤ g9 := by omega
        obtain ⟨x12_0, x12_1⟩ := (hE.here.1.1.2).c2
        have f12_0 := (hE.here.1.1.2).frozen 0
        have f12_1 := (hE.here.1.1.2).frozen 1
        replace hE := ((((((((((Env.again (bel2 hE.bel hgl12 (.bool sz) (.slice Az nz cz))).fv ((hE.here.1.1.1.1.1.1.1.1.2).sep2 hE.here.1.1.2 rfl (.bool sz) (.slice Az nz cz) rfl)).fv ((hE.here.1.1.1.1.1.1.1.2).sep2 hE.here.1.1.2 rfl (.bool sz) (.slice Az nz cz) rfl)).blkI ((hE.here.1.1.1.1.1.1.2).far2 (R := g9) (by omega) (.bool sz) (.slice Az nz cz))).blkI ((hE.here.1.1.1.1.1.2).far2 (R := g9) (by omega) (.bool sz) (.slice Az nz cz))).blkI ((hE.here.1.1.1.1.2).far2 (R := g9) (by omega) (.bool sz) (.slice Az nz cz))).wv ((hE.here.1.1.1.2).sep2 hE.here.1.1.2 rfl (.bool sz) (.slice Az nz cz) rfl)).blkI ((hE.here.1.1.2).s2 (.bool sz) (.slice Az nz cz))).wv ((hE.here.1.2).sep2 hE.here.1.1.2 rfl (.bool sz) (.slice Az nz cz) rfl)).wv ((hE.here.2).sep2 hE.here.1.1.2 rfl (.bool sz) (.slice Az nz cz) rfl))
        go_simp
        clear x12_0 x12_1 f12_0 f12_1 hgl12
        generalize ((w11.setCell ⟨g9, 0, none⟩ (.bool sz)).setCell ⟨g9, 1, none⟩ (.slice Az nz cz)) = W12 at hE ⊢
        refine hK.out _ _ (⟨(hE.here.1.1.1.1.1.1.2).c4.1, (hE.here.1.1.1.1.1.1.2).c4.2.1, (hE.here.1.1.1.1.1.1.2).c4.2.2.1, (hE.here.1.1.1.1.1.1.2).c4.2.2.2, (hE.here.1.1.1.1.1.2).c4.1, (hE.here.1.1.1.1.1.2).c4.2.1, (hE.here.1.1.1.1.1.2).c4.2.2.1, (hE.here.1.1.1.1.1.2).c4.2.2.2⟩) (fun hHeld => ?_)
        clear hK K
        try simp only [Act.put, List.setIfInBounds_toArray, List.set_cons_zero, List.set_cons_succ, List.getElem_toArray, List.getElem_cons_succ, List.getElem_cons_zero]
        refine wpAnyH_done (by kernel_rfl) ?_ _
        go_wp2_with fail
        go_meet
        exact ⟨g9, sz, Az, nz, cz, rfl, by omega, ((((((((Env.again hE.bel).fv (hE.here.1.1.1.1.1.1.1.1.2)).fv (hE.here.1.1.1.1.1.1.1.2)).blkI (hE.here.1.1.1.1.1.1.2)).blkI (hE.here.1.1.1.1.1.2)).blkI (hE.here.1.1.1.1.2)).wv (hE.here.2)).blkI (hE.here.1.1.2))⟩
    · skip
      go_simp
      obtain ⟨g13, hg13⟩ : ∃ g13, g13 = wd.heap.size := ⟨_, rfl⟩
      have hl13_2 : w.heap.size < g13 := by rw [hg13]; exact (hE.here.1.1.2).lt
      have hl13_3 : w.heap.size + 1 < g13 := by rw [hg13]; exact (hE.here.1.2).lt
      have hl13_4 : w.heap.size + 1 + 1 < g13 := by rw [hg13]; exact (hE.here.2).lt
      replace hE := hE.blk 24 #[.bool false, .slice none 0 0] (g := g13) hg13.symm
      generalize wd.alloc (.cells #[.bool false, .slice none 0 0] 24) = W13 at hE ⊢
      rw [← hg13]
      clear hg13
      refine hK.out _ _ (⟨(hE.here.1.1.1.2).c4.1, (hE.here.1.1.1.2).c4.2.1, (hE.here.1.1.1.2).c4.2.2.1, (hE.here.1.1.1.2).c4.2.2.2, (hE.here.1.1.2).c4.1, (hE.here.1.1.2).c4.2.1, (hE.here.1.1.2).c4.2.2.1, (hE.here.1.1.2).c4.2.2.2⟩) (fun hHeld => ?_)
      clear hK K
      try simp only [Act.put, List.setIfInBounds_toArray, List.set_cons_zero, List.set_cons_succ, List.getElem_toArray, List.getElem_cons_succ, List.getElem_cons_zero]
      refine wpAnyH_ready (rs := [4]) (by kernel_rfl) (by simp) (AllReadyH.cons rfl (fun K hK => ?_) (AllReadyH.nil))
      go_simp
      have hc := rproduct_w (c := ca) (d := db) (hE.here.1.1.1.1.1.2).1 (hE.here.1.1.1.1.2).2 (Nat.le_trans ha1 (by decide)) (Nat.le_trans hb2 (by decide))
      refine hc.mono ?_
      clear hc
      rintro e w14 ⟨sx, Ax, nx, cx, rfl, hx, hb⟩
      replace hE := hE.step hb
      clear hb
      replace hE := hE.wv hx
      clear hx
      have lx : nx ≤ 200000 := by rw [(hE.here.2).len]; exact ln_mulZ (m := 100000) (n := 100000) qa1 qb2
      go_wp2_with fail
      refine hK.out _ _ (⟨(hE.here.1.1.1.1.2).c4.1, (hE.here.1.1.1.1.2).c4.2.1, (hE.here.1.1.1.1.2).c4.2.2.1, (hE.here.1.1.1.1.2).c4.2.2.2, (hE.here.1.1.1.2).c4.1, (hE.here.1.1.1.2).c4.2.1, (hE.here.1.1.1.2).c4.2.2.1, (hE.here.1.1.1.2).c4.2.2.2⟩) (fun hHeld => ?_)
      clear hK K
      try simp only [Act.put, List.setIfInBounds_toArray, List.set_cons_zero, List.set_cons_succ, List.getElem_toArray, List.getElem_cons_succ, List.getElem_cons_zero]
      refine wpAnyH_ready (rs := [9]) (by kernel_rfl) (by simp) (AllReadyH.cons rfl (fun K hK => ?_) (AllReadyH.nil))
      go_simp
      have hc := rproduct_w (c := cb) (d := da) (hE.here.1.1.1.1.1.2).1 (hE.here.1.1.1.1.1.1.2).2 (Nat.le_trans hb1 (by decide)) (Nat.le_trans ha2 (by decide))
      refine hc.mono ?_
      clear hc
      rintro e w15 ⟨sy, Ay, ny, cy, rfl, hy, hb⟩
      replace hE := hE.step hb
      clear hb
      replace hE := hE.wv hy
      clear hy
      have ly : ny ≤ 200000 := by rw [(hE.here.2).len]; exact ln_mulZ (m := 100000) (n := 100000) qb1 qa2
      go_wp2_with fail
      refine hK.out _ _ (⟨(hE.here.1.1.1.1.1.2).c4.1, (hE.here.1.1.1.1.1.2).c4.2.1, (hE.here.1.1.1.1.1.2).c4.2.2.1, (hE.here.1.1.1.1.1.2).c4.2.2.2, (hE.here.1.1.1.1.2).c4.1, (hE.here.1.1.1.1.2).c4.2.1, (hE.here.1.1.1.1.2).c4.2.2.1, (hE.here.1.1.1.1.2).c4.2.2.2⟩) (fun hHeld => ?_)
      clear hK K
      try simp only [Act.put, List.setIfInBounds_toArray, List.set_cons_zero, List.set_cons_succ, List.getElem_toArray, List.getElem_cons_succ, List.getElem_cons_zero]
      refine wpAnyH_ready (rs := [10]) (by kernel_rfl) (by simp) (AllReadyH.cons rfl (fun K hK => ?_) (AllReadyH.nil))
      go_simp
      have hc := rsum_w (c := cx) (d := cy) hE.here.1.2 hE.here.2 (Nat.le_trans lx (by decide)) (Nat.le_trans ly (by decide))
      refine hc.mono ?_
      clear hc
      rintro e w16 ⟨sz, Az, nz, cz, rfl, hz, hb⟩
      replace hE := hE.step hb
      clear hb
      replace hE := hE.wv hz
      clear hz
      have lz : nz ≤ 200001 := by rw [(hE.here.2).len]; exact ln_addZ (m := 200000) (by rw [← (hE.here.1.1.2).len]; exact lx) (by rw [← (hE.here.1.2).len]; exact ly)
      go_wp2_with fail
      refine hK.out _ _ (⟨(hE.here.1.1.1.1.1.1.2).c4.1, (hE.here.1.1.1.1.1.1.2).c4.2.1, (hE.here.1.1.1.1.1.1.2).c4.2.2.1, (hE.here.1.1.1.1.1.1.2).c4.2.2.2, (hE.here.1.1.1.1.1.2).c4.1, (hE.here.1.1.1.1.1.2).c4.2.1, (hE.here.1.1.1.1.1.2).c4.2.2.1, (hE.here.1.1.1.1.1.2).c4.2.2.2⟩) (fun hHeld => ?_)
      clear hK K
      try simp only [Act.put, List.setIfInBounds_toArray, List.set_cons_zero, List.set_cons_succ, List.getElem_toArray, List.getElem_cons_succ, List.getElem_cons_zero]
      refine wpAnyH_ready (rs := [12]) (by kernel_rfl) (by simp) (AllReadyH.cons rfl (fun K hK => ?_) (AllReadyH.nil))
      have hgl17 : w.heap.size ≤ g13 := by omega
      obtain ⟨x17_0, x17_1⟩ := (hE.here.1.1.1.2).c2
      have f17_0 := (hE.here.1.1.1.2).frozen 0
      have f17_1 := (hE.here.1.1.1.2).frozen 1
      replace hE := ((((((((((Env.again (bel2 hE.bel hgl17 (.bool sz) (.slice Az nz cz))).fv ((hE.here.1.1.1.1.1.1.1.1.2).sep2 hE.here.1.1.1.2 rfl (.bool sz) (.slice Az nz cz) rfl)).fv ((hE.here.1.1.1.1.1.1.1.2).sep2 hE.here.1.1.1.2 rfl (.bool sz) (.slice Az nz cz) rfl)).blkI ((hE.here.1.1.1.1.1.1.2).far2 (R := g13) (by omega) (.bool sz) (.slice Az nz cz))).blkI ((hE.here.1.1.1.1.1.2).far2 (R := g13) (by omega) (.bool sz) (.slice Az nz cz))).blkI ((hE.here.1.1.1.1.2).far2 (R := g13) (by omega) (.bool sz) (.slice Az nz cz))).blkI ((hE.here.1.1.1.2).s2 (.bool sz) (.slice Az nz cz))).wv ((hE.here.1.1.2).sep2 hE.here.1.1.1.2 rfl (.bool sz) (.slice Az nz cz) rfl)).wv ((hE.here.1.2).sep2 hE.here.1.1.1.2 rfl (.bool sz) (.slice Az nz cz) rfl)).wv ((hE.here.2).sep2 hE.here.1.1.1.2 rfl (.bool sz) (.slice Az nz cz) rfl))
      go_simp
      clear x17_0 x17_1 f17_0 f17_1 hgl17
      generalize ((w16.setCell ⟨g13, 0, none⟩ (.bool sz)).setCell ⟨g13, 1, none⟩ (.slice Az nz cz)) = W17 at hE ⊢
      refine hK.out _ _ (⟨(hE.here.1.1.1.1.1.1.2).c4.1, (hE.here.1.1.1.1.1.1.2).c4.2.1, (hE.here.1.1.1.1.1.1.2).c4.2.2.1, (hE.here.1.1.1.1.1.1.2).c4.2.2.2, (hE.here.1.1.1.1.1.2).c4.1, (hE.here.1.1.1.1.1.2).c4.2.1, (hE.here.1.1.1.1.1.2).c4.2.2.1, (hE.here.1.1.1.1.1.2).c4.2.2.2⟩) (fun hHeld => ?_)
      clear hK K
      try simp only [Act.put, List.setIfInBounds_toArray, List.set_cons_zero, List.set_cons_succ, List.getElem_toArray, List.getElem_cons_succ, List.getElem_cons_zero]
      refine wpAnyH_done (by kernel_rfl) ?_ _
      go_wp2_with fail
      go_meet
      exact ⟨g13, sz, Az, nz, cz, rfl, by omega, ((((((((Env.again hE.bel).fv (hE.here.1.1.1.1.1.1.1.1.2)).fv (hE.here.1.1.1.1.1.1.1.2)).blkI (hE.here.1.1.1.1.1.1.2)).blkI (hE.here.1.1.1.1.1.2)).blkI (hE.here.1.1.1.1.2)).wv (hE.here.2)).blkI (hE.here.1.1.1.2))⟩
  case rest =>
  clear hE
  obtain ⟨G1, sz, Az, nz, cz, rfl, hG1, hE⟩ := hcut
  generalize wc = wk1 at hE ⊢
  have lz : nz ≤ 200001 := by rw [(hE.here.1.2).len]; exact ln_addZ (m := 200000) (ln_mulZ (m := 100000) (n := 100000) qa1 qb2) (ln_mulZ (m := 100000) (n := 100000) qb1 qa2)
  go_upto_region 2 with (fail)
  replace hE := hE.drew
  refine wp_region_held_drew (S := fun w' => w'.cell? ⟨G1, 0, none⟩ = some (.bool sz) ∧ w'.cell? ⟨G1, 1, none⟩ = some (.slice Az nz cz) ∧ w'.cell? ⟨w.heap.size, 0, none⟩ = some (.bool sa) ∧ w'.cell? ⟨w.heap.size, 1, none⟩ = some (.slice Aa na ca) ∧ w'.cell? ⟨w.heap.size, 2, none⟩ = some (.bool ta) ∧ w'.cell? ⟨w.heap.size, 3, none⟩ = some (.slice Ba ma da) ∧ w'.cell? ⟨w.heap.size + 1, 0, none⟩ = some (.bool sb) ∧ w'.cell? ⟨w.heap.size + 1, 1, none⟩ = some (.slice Ab nb cb) ∧ w'.cell? ⟨w.heap.size + 1, 2, none⟩ = some (.bool tb) ∧ w'.cell? ⟨w.heap.size + 1, 3, none⟩ = some (.slice Bb mb db)) (by kernel_rfl) (⟨(hE.here.2).c2.1, (hE.here.2).c2.2, (hE.here.1.1.1.1.2).c4.1, (hE.here.1.1.1.1.2).c4.2.1, (hE.here.1.1.1.1.2).c4.2.2.1, (hE.here.1.1.1.1.2).c4.2.2.2, (hE.here.1.1.1.2).c4.1, (hE.here.1.1.1.2).c4.2.1, (hE.here.1.1.1.2).c4.2.2.1, (hE.here.1.1.1.2).c4.2.2.2⟩) (fun hHeld => ?_)
  refine wpAnyH_take (i := 0) (v := ?v3_0_1) rfl (by kernel_rfl) (by kernel_rfl) (by kernel_rfl) (fun _ _ _ h => h) (Or.inl ⟨by rfl, ?hy3_0_1⟩) (by assumption) ?rest3_0_1
  case hy3_0_1 => intro w hSw; (try dsimp only at hSw); first | (go_simp; done) | (go_simp; with_reducible rfl)
  try simp only [Act.put, List.setIfInBounds_toArray, List.set_cons_zero, List.set_cons_succ, List.getElem_toArray, List.getElem_cons_succ, List.getElem_cons_zero]
  refine wpAnyH_take (i := 1) (v := ?v3_1_2) rfl (by kernel_rfl) (by kernel_rfl) (by kernel_rfl) (fun _ _ _ h => h) (Or.inl ⟨by rfl, ?hy3_1_2⟩) (by assumption) ?rest3_1_2
  case hy3_1_2 => intro w hSw; (try dsimp only at hSw); first | (go_simp; done) | (go_simp; with_reducible rfl)
  try simp only [Act.put, List.setIfInBounds_toArray, List.set_cons_zero, List.set_cons_succ, List.getElem_toArray, List.getElem_cons_succ, List.getElem_cons_zero]
  refine wpAnyH_take (i := 2) (v := ?v3_2_3) rfl (by kernel_rfl) (by kernel_rfl) (by kernel_rfl) (fun _ _ _ h => h) (Or.inl ⟨by rfl, ?hy3_2_3⟩) (by assumption) ?rest3_2_3
  case hy3_2_3 => intro w hSw; (try dsimp only at hSw); first | (go_simp; done) | (go_simp; with_reducible rfl)
  try simp only [Act.put, List.setIfInBounds_toArray, List.set_cons_zero, List.set_cons_succ, List.getElem_toArray, List.getElem_cons_succ, List.getElem_cons_zero]
  refine wpAnyH_take (i := 3) (v := ?v3_3_4) rfl (by kernel_rfl) (by kernel_rfl) (by kernel_rfl) (fun _ _ _ h => h) (Or.inl ⟨by rfl, ?hy3_3_4⟩) (by assumption) ?rest3_3_4
  case hy3_3_4 => intro w hSw; (try dsimp only at hSw); first | (go_simp; done) | (go_simp; with_reducible rfl)
  try simp only [Act.put, List.setIfInBounds_toArray, List.set_cons_zero, List.set_cons_succ, List.getElem_toArray, List.getElem_cons_succ, List.getElem_cons_zero]
  refine wpAnyH_take (i := 4) (v := ?v3_4_5) rfl (by kernel_rfl) (by kernel_rfl) (by kernel_rfl) (fun _ _ _ h => h) (Or.inl ⟨by rfl, ?hy3_4_5⟩) (by assumption) ?rest3_4_5
  case hy3_4_5 => intro w hSw; (try dsimp only at hSw); first | (go_simp; done) | (go_simp; with_reducible rfl)
  try simp only [Act.put, List.setIfInBounds_toArray, List.set_cons_zero, List.set_cons_succ, List.getElem_toArray, List.getElem_cons_succ, List.getElem_cons_zero]
  refine wpAnyH_ready (rs := [5]) (by kernel_rfl) (by simp) (AllReadyH.cons rfl (fun K hK => ?_) (AllReadyH.nil))
  go_simp
  have hc := rproduct_w (c := da) (d := db) (hE.here.1.1.1.1.1.1.2).2 (hE.here.1.1.1.1.1.2).2 (Nat.le_trans ha2 (by decide)) (Nat.le_trans hb2 (by decide))
  refine hc.mono ?_
  clear hc
  rintro e w18 ⟨su, Au, nu, cu, rfl, hu, hb⟩
  replace hE := hE.step hb
  clear hb
  replace hE := hE.wv hu
  clear hu
  have lu : nu ≤ 200000 := by rw [(hE.here.2).len]; exact ln_mulZ (m := 100000) (n := 100000) qa2 qb2
  go_wp2_with fail
  refine hK.out _ _ (⟨(hE.here.1.2).c2.1, (hE.here.1.2).c2.2, (hE.here.1.1.1.1.1.2).c4.1, (hE.here.1.1.1.1.1.2).c4.2.1, (hE.here.1.1.1.1.1.2).c4.2.2.1, (hE.here.1.1.1.1.1.2).c4.2.2.2, (hE.here.1.1.1.1.2).c4.1, (hE.here.1.1.1.1.2).c4.2.1, (hE.here.1.1.1.1.2).c4.2.2.1, (hE.here.1.1.1.1.2).c4.2.2.2⟩) (fun hHeld => ?_)
  clear hK K
  try simp only [Act.put, List.setIfInBounds_toArray, List.set_cons_zero, List.set_cons_succ, List.getElem_toArray, List.getElem_cons_succ, List.getElem_cons_zero]
  refine wpAnyH_ready (rs := [6]) (by kernel_rfl) (by simp) (AllReadyH.cons rfl (fun K hK => ?_) (AllReadyH.nil))
  go_simp
  have hc := rlowest_v (ca := cz) (cb := cu) hE.here.1.1.2 hE.here.2 (Nat.le_trans lz (by decide)) (Nat.le_trans lu (by decide)) (den_ne a b)
  rw [add_low a b] at hc
  refine hc.mono ?_
  clear hc
  rintro e w19 ⟨sr, Ar, nr, cr, tr, Br, mr, dr, rfl, hf, hb⟩
  replace hE := hE.step hb
  clear hb
  replace hE := hE.fv hf
  clear hf
  go_wp2_with fail
  refine hK.out _ _ (⟨(hE.here.1.1.2).c2.1, (hE.here.1.1.2).c2.2, (hE.here.1.1.1.1.1.1.2).c4.1, (hE.here.1.1.1.1.1.1.2).c4.2.1, (hE.here.1.1.1.1.1.1.2).c4.2.2.1, (hE.here.1.1.1.1.1.1.2).c4.2.2.2, (hE.here.1.1.1.1.1.2).c4.1, (hE.here.1.1.1.1.1.2).c4.2.1, (hE.here.1.1.1.1.1.2).c4.2.2.1, (hE.here.1.1.1.1.1.2).c4.2.2.2⟩) (fun hHeld => ?_)
  clear hK K
  try simp only [Act.put, List.setIfInBounds_toArray, List.set_cons_zero, List.set_cons_succ, List.getElem_toArray, List.getElem_cons_succ, List.getElem_cons_zero]
  refine wpAnyH_ready (rs := [7]) (by kernel_rfl) (by simp) (AllReadyH.cons rfl (fun K hK => ?_) (AllReadyH.nil))
  have hRl : w.heap.size ≤ w.heap.size + 1 + 1 := by omega
  obtain ⟨WW, hWW, hB, hV, hBel⟩ := ret_frac hE hE.here.1.1.1.1.2 hRl hE.here.2 cr dr
  obtain ⟨x0, x1, x2, x3⟩ := (hE.here.1.1.1.1.2).c4
  have fz := fun i => (hE.here.1.1.1.1.2).frozen i
  have fz0 := fz 0
  have fz1 := fz 1
  have fz2 := fz 2
  have fz3 := fz 3
  clear fz
  have HWW := Lib.hid hWW
  clear hWW
  have q20 := (hE.here.1.1.2).far4 (R := w.heap.size + 1 + 1) (by omega) (.bool sr) (.slice Ar nr cr) (.bool tr) (.slice Br mr dr)
  rw [← HWW.out] at q20
  have q21 := (hE.here.1.1.1.1.1.1.2).far4 (R := w.heap.size + 1 + 1) (by omega) (.bool sr) (.slice Ar nr cr) (.bool tr) (.slice Br mr dr)
  rw [← HWW.out] at q21
  have q22 := (hE.here.1.1.1.1.1.2).far4 (R := w.heap.size + 1 + 1) (by omega) (.bool sr) (.slice Ar nr cr) (.bool tr) (.slice Br mr dr)
  rw [← HWW.out] at q22
  go_simp
  rw [← HWW.out]
  refine hK.out _ _ (⟨(q20).c2.1, (q20).c2.2, (q21).c4.1, (q21).c4.2.1, (q21).c4.2.2.1, (q21).c4.2.2.2, (q22).c4.1, (q22).c4.2.1, (q22).c4.2.2.1, (q22).c4.2.2.2⟩) (fun hHeld => ?_)
  clear hK K
  try simp only [Act.put, List.setIfInBounds_toArray, List.set_cons_zero, List.set_cons_succ, List.getElem_toArray, List.getElem_cons_succ, List.getElem_cons_zero]
  refine wpAnyH_done (by kernel_rfl) ?_ _
  go_wp2_with fail
  obtain ⟨y0, y1, y2, y3⟩ := hB.c4
  refine bodyPost_ret (v := .agg #[.bool sr, .slice Ar nr cr, .bool tr, .slice Br mr dr]) (by simp [results, Tryz.results22, go_sem, y0, y1, y2, y3]) rfl ?_
  exact ⟨sr, Ar, nr, cr, tr, Br, mr, dr, rfl, hV, hBel⟩
set_option linter.unusedSimpArgs false in
set_option maxRecDepth 100000 in
set_option maxHeartbeats 4000000 in
theorem rorder1_v {a b : Int} {sp sq : Bool} {Ap Aq : Option Addr} {np cp nq cq : Nat} {w : World} (hp : WV w a sp Ap np) (hq : WV w b sq Aq nq) (la : np ≤ 900000) (lb : nq ≤ 900000) :
    Calls Tryz.prog 109 #[.agg #[.bool sp, .slice Ap np cp], .agg #[.bool sq, .slice Aq nq cq]] w fun e w' => e = .returned (.int .i64 (cmpZ a b)) ∧ Below w.heap.size w w' := by
  have hE := ((((Env.start w).wv hp).wv hq).blk 24 #[.bool sp, .slice Ap np cp] (g := w.heap.size) rfl).blk 24 #[.bool sq, .slice Aq nq cq] (g := w.heap.size + 1) (by simp)
  obtain ⟨W0, hW0⟩ : ∃ W0, W0 = ((w.alloc (.cells #[.bool sp, .slice Ap np cp] 24)).alloc (.cells #[.bool sq, .slice Aq nq cq] 24)) := ⟨_, rfl⟩
  rw [← hW0] at hE
  have HW0 := Lib.hid hW0
  clear hW0
  go_enter Tryz.func109, Tryz.ntmps109
  go_upto_region 1 with (fail)
  rw [← HW0.out]
  go_cut [5] from 6 to 9 (fun p wx => ∃ G1 sz Az nz cz, p = .pointer (some ⟨G1, 0, none⟩) ∧ w.heap.size + 1 < G1 ∧ Env w (fun V => ((((((True ∧ WV V a sp Ap np) ∧ WV V b sq Aq nq) ∧ Blk 24 (w.heap.size) #[.bool sp, .slice Ap np cp] V) ∧ Blk 24 (w.heap.size + 1) #[.bool sq, .slice Aq nq cq] V) ∧ WV V (a + -b) sz Az nz) ∧ Blk 24 (G1) #[.bool sz, .slice Az nz cz] V)) wx)
  case first =>
    replace hE := hE.drew
    refine wp_region_held_drew (S := fun w' => w'.cell? ⟨w.heap.size, 0, none⟩ = some (.bool sp) ∧ w'.cell? ⟨w.heap.size, 1, none⟩ = some (.slice Ap np cp) ∧ w'.cell? ⟨w.heap.size + 1, 0, none⟩ = some (.bool sq) ∧ w'.cell? ⟨w.heap.size + 1, 1, none⟩ = some (.slice Aq nq cq)) (by kernel_rfl) (⟨(hE.here.1.2).c2.1, (hE.here.1.2).c2.2, (hE.here.2).c2.1, (hE.here.2).c2.2⟩) (fun hHeld => ?_)
    generalize W0.drew = wd at *
    refine wpAnyH_take (i := 0) (v := ?v5_0_1) rfl (by kernel_rfl) (by kernel_rfl) (by kernel_rfl) (fun _ _ _ h => h) (Or.inl ⟨by rfl, ?hy5_0_1⟩) (by assumption) ?rest5_0_1
    case hy5_0_1 => intro w hSw; (try dsimp only at hSw); first | (go_simp; done) | (go_simp; with_reducible rfl)
    try simp only [Act.put, List.setIfInBounds_toArray, List.set_cons_zero, List.set_cons_succ, List.getElem_toArray, List.getElem_cons_succ, List.getElem_cons_zero]
    refine wpAnyH_take (i := 1) (v := ?v5_1_2) rfl (by kernel_rfl) (by kernel_rfl) (by kernel_rfl) (fun _ _ _ h => h) (Or.inl ⟨by rfl, ?hy5_1_2⟩) (by assumption) ?rest5_1_2
    case hy5_1_2 => intro w hSw; (try dsimp only at hSw); first | (go_simp; done) | (go_simp; with_reducible rfl)
    try simp only [Act.put, List.setIfInBounds_toArray, List.set_cons_zero, List.set_cons_succ, List.getElem_toArray, List.getElem_cons_succ, List.getElem_cons_zero]
    refine wpAnyH_ready (rs := [2, 4]) (by kernel_rfl) (by simp) (AllReadyH.cons rfl (fun K hK => ?_) (AllReadyH.cons rfl (fun K hK => ?_) (AllReadyH.nil)))
    · skip
      go_simp
      refine (rneg_any (c := cq) (hE.here.1.1.2)).mono ?_
      rintro e w1 ⟨sm, rfl, hn, hb⟩
      replace hE := hE.step hb
      clear hb
      replace hE := hE.wv hn
      clear hn
      go_wp2_with fail
      refine hK.out _ _ (⟨(hE.here.1.1.2).c2.1, (hE.here.1.1.2).c2.2, (hE.here.1.2).c2.1, (hE.here.1.2).c2.2⟩) (fun hHeld => ?_)
      clear hK K
      try simp only [Act.put, List.setIfInBounds_toArray, List.set_cons_zero, List.set_cons_succ, List.getElem_toArray, List.getElem_cons_succ, List.getElem_cons_zero]
      refine wpAnyH_ready (rs := [3, 4]) (by kernel_rfl) (by simp) (AllReadyH.cons rfl (fun K hK => ?_) (AllReadyH.cons rfl (fun K hK => ?_) (AllReadyH.nil)))
      · skip
        go_simp
        have hc := rsum_w (c := cp) (d := cq) hE.here.1.1.1.1.2 hE.here.2 (Nat.le_trans la (by decide)) (Nat.le_trans lb (by decide))
        refine hc.mono ?_
        clear hc
        rintro e w2 ⟨sz, Az, nz, cz, rfl, hz, hb⟩
        replace hE := hE.step hb
        clear hb
        replace hE := hE.wv hz
        clear hz
        go_wp2_with fail
        refine hK.out _ _ (⟨(hE.here.1.1.1.2).c2.1, (hE.here.1.1.1.2).c2.2, (hE.here.1.1.2).c2.1, (hE.here.1.1.2).c2.2⟩) (fun hHeld => ?_)
        clear hK K
        try simp only [Act.put, List.setIfInBounds_toArray, List.set_cons_zero, List.set_cons_succ, List.getElem_toArray, List.getElem_cons_succ, List.getElem_cons_zero]
        refine wpAnyH_ready (rs := [4]) (by kernel_rfl) (by simp) (AllReadyH.cons rfl (fun K hK => ?_) (AllReadyH.nil))
        go_simp
        obtain ⟨g3, hg3⟩ : ∃ g3, g3 = w2.heap.size := ⟨_, rfl⟩
        have hl3_2 : w.heap.size < g3 := by rw [hg3]; exact (hE.here.1.1.1.2).lt
        have hl3_3 : w.heap.size + 1 < g3 := by rw [hg3]; exact (hE.here.1.1.2).lt
        replace hE := hE.blk 24 #[.bool false, .slice none 0 0] (g := g3) hg3.symm
        generalize w2.alloc (.cells #[.bool false, .slice none 0 0] 24) = W3 at hE ⊢
        rw [← hg3]
        clear hg3
        refine hK.out _ _ (⟨(hE.here.1.1.1.1.2).c2.1, (hE.here.1.1.1.1.2).c2.2, (hE.here.1.1.1.2).c2.1, (hE.here.1.1.1.2).c2.2⟩) (fun hHeld => ?_)
        clear hK K
        try simp only [Act.put, List.setIfInBounds_toArray, List.set_cons_zero, List.set_cons_succ, List.getElem_toArray, List.getElem_cons_succ, List.getElem_cons_zero]
        refine wpAnyH_ready (rs := [5]) (by kernel_rfl) (by simp) (AllReadyH.cons rfl (fun K hK => ?_) (AllReadyH.nil))
        have hgl4 : w.heap.size ≤ g3 := by omega
        obtain ⟨x4_0, x4_1⟩ := (hE.here.2).c2
        have f4_0 := (hE.here.2).frozen 0
        have f4_1 := (hE.here.2).frozen 1
        replace hE := ((((((((Env.again (bel2 hE.bel hgl4 (.bool sz) (.slice Az nz cz))).wv ((hE.here.1.1.1.1.1.1.2).sep2 hE.here.2 rfl (.bool sz) (.slice Az nz cz) rfl)).wv ((hE.here.1.1.1.1.1.2).sep2 hE.here.2 rfl (.bool sz) (.slice Az nz cz) rfl)).blkI ((hE.here.1.1.1.1.2).far2 (R := g3) (by omega) (.bool sz) (.slice Az nz cz))).blkI ((hE.here.1.1.1.2).far2 (R := g3) (by omega) (.bool sz) (.slice Az nz cz))).wv ((hE.here.1.1.2).sep2 hE.here.2 rfl (.bool sz) (.slice Az nz cz) rfl)).wv ((hE.here.1.2).sep2 hE.here.2 rfl (.bool sz) (.slice Az nz cz) rfl)).blkI ((hE.here.2).s2 (.bool sz) (.slice Az nz cz)))
        go_simp
        clear x4_0 x4_1 f4_0 f4_1 hgl4
        generalize ((W3.setCell ⟨g3, 0, none⟩ (.bool sz)).setCell ⟨g3, 1, none⟩ (.slice Az nz cz)) = W4 at hE ⊢
        refine hK.out _ _ (⟨(hE.here.1.1.1.1.2).c2.1, (hE.here.1.1.1.1.2).c2.2, (hE.here.1.1.1.2).c2.1, (hE.here.1.1.1.2).c2.2⟩) (fun hHeld => ?_)
        clear hK K
        try simp only [Act.put, List.setIfInBounds_toArray, List.set_cons_zero, List.set_cons_succ, List.getElem_toArray, List.getElem_cons_succ, List.getElem_cons_zero]
        refine wpAnyH_done (by kernel_rfl) ?_ _
        go_wp2_with fail
        go_meet
        exact ⟨g3, sz, Az, nz, cz, rfl, by omega, (((((((Env.again hE.bel).wv (hE.here.1.1.1.1.1.1.2)).wv (hE.here.1.1.1.1.1.2)).blkI (hE.here.1.1.1.1.2)).blkI (hE.here.1.1.1.2)).wv (hE.here.1.2)).blkI (hE.here.2))⟩
      · skip
        go_simp
        obtain ⟨g5, hg5⟩ : ∃ g5, g5 = w1.heap.size := ⟨_, rfl⟩
        have hl5_2 : w.heap.size < g5 := by rw [hg5]; exact (hE.here.1.1.2).lt
        have hl5_3 : w.heap.size + 1 < g5 := by rw [hg5]; exact (hE.here.1.2).lt
        replace hE := hE.blk 24 #[.bool false, .slice none 0 0] (g := g5) hg5.symm
        generalize w1.alloc (.cells #[.bool false, .slice none 0 0] 24) = W5 at hE ⊢
        rw [← hg5]
        clear hg5
        refine hK.out _ _ (⟨(hE.here.1.1.1.2).c2.1, (hE.here.1.1.1.2).c2.2, (hE.here.1.1.2).c2.1, (hE.here.1.1.2).c2.2⟩) (fun hHeld => ?_)
        clear hK K
        try simp only [Act.put, List.setIfInBounds_toArray, List.set_cons_zero, List.set_cons_succ, List.getElem_toArray, List.getElem_cons_succ, List.getElem_cons_zero]
        refine wpAnyH_ready (rs := [3]) (by kernel_rfl) (by simp) (AllReadyH.cons rfl (fun K hK => ?_) (AllReadyH.nil))
        go_simp
        have hc := rsum_w (c := cp) (d := cq) hE.here.1.1.1.1.1.2 hE.here.1.2 (Nat.le_trans la (by decide)) (Nat.le_trans lb (by decide))
        refine hc.mono ?_
        clear hc
        rintro e w6 ⟨sz, Az, nz, cz, rfl, hz, hb⟩
        replace hE := hE.step hb
        clear hb
        replace hE := hE.wv hz
        clear hz
        go_wp2_with fail
        refine hK.out _ _ (⟨(hE.here.1.1.1.1.2).c2.1, (hE.here.1.1.1.1.2).c2.2, (hE.here.1.1.1.2).c2.1, (hE.here.1.1.1.2).c2.2⟩) (fun hHeld => ?_)
        clear hK K
        try simp only [Act.put, List.setIfInBounds_toArray, List.set_cons_zero, List.set_cons_succ, List.getElem_toArray, List.getElem_cons_succ, List.getElem_cons_zero]
        refine wpAnyH_ready (rs := [5]) (by kernel_rfl) (by simp) (AllReadyH.cons rfl (fun K hK => ?_) (AllReadyH.nil))
        have hgl7 : w.heap.size ≤ g5 := by omega
        obtain ⟨x7_0, x7_1⟩ := (hE.here.1.2).c2
        have f7_0 := (hE.here.1.2).frozen 0
        have f7_1 := (hE.here.1.2).frozen 1
        replace hE := ((((((((Env.again (bel2 hE.bel hgl7 (.bool sz) (.slice Az nz cz))).wv ((hE.here.1.1.1.1.1.1.2).sep2 hE.here.1.2 rfl (.bool sz) (.slice Az nz cz) rfl)).wv ((hE.here.1.1.1.1.1.2).sep2 hE.here.1.2 rfl (.bool sz) (.slice Az nz cz) rfl)).blkI ((hE.here.1.1.1.1.2).far2 (R := g5) (by omega) (.bool sz) (.slice Az nz cz))).blkI ((hE.here.1.1.1.2).far2 (R := g5) (by omega) (.bool sz) (.slice Az nz cz))).wv ((hE.here.1.1.2).sep2 hE.here.1.2 rfl (.bool sz) (.slice Az nz cz) rfl)).blkI ((hE.here.1.2).s2 (.bool sz) (.slice Az nz cz))).wv ((hE.here.2).sep2 hE.here.1.2 rfl (.bool sz) (.slice Az nz cz) rfl))
        go_simp
        clear x7_0 x7_1 f7_0 f7_1 hgl7
        generalize ((w6.setCell ⟨g5, 0, none⟩ (.bool sz)).setCell ⟨g5, 1, none⟩ (.slice Az nz cz)) = W7 at hE ⊢
        refine hK.out _ _ (⟨(hE.here.1.1.1.1.2).c2.1, (hE.here.1.1.1.1.2).c2.2, (hE.here.1.1.1.2).c2.1, (hE.here.1.1.1.2).c2.2⟩) (fun hHeld => ?_)
        clear hK K
        try simp only [Act.put, List.setIfInBounds_toArray, List.set_cons_zero, List.set_cons_succ, List.getElem_toArray, List.getElem_cons_succ, List.getElem_cons_zero]
        refine wpAnyH_done (by kernel_rfl) ?_ _
        go_wp2_with fail
        go_meet
        exact ⟨g5, sz, Az, nz, cz, rfl, by omega, (((((((Env.again hE.bel).wv (hE.here.1.1.1.1.1.1.2)).wv (hE.here.1.1.1.1.1.2)).blkI (hE.here.1.1.1.1.2)).blkI (hE.here.1.1.1.2)).wv (hE.here.2)).blkI (hE.here.1.2))⟩
    · skip
      go_simp
      obtain ⟨g8, hg8⟩ : ∃ g8, g8 = wd.heap.size := ⟨_, rfl⟩
      have hl8_2 : w.heap.size < g8 := by rw [hg8]; exact (hE.here.1.2).lt
      have hl8_3 : w.heap.size + 1 < g8 := by rw [hg8]; exact (hE.here.2).lt
      replace hE := hE.blk 24 #[.bool false, .slice none 0 0] (g := g8) hg8.symm
      generalize wd.alloc (.cells #[.bool false, .slice none 0 0] 24) = W8 at hE ⊢
      rw [← hg8]
      clear hg8
      refine hK.out _ _ (⟨(hE.here.1.1.2).c2.1, (hE.here.1.1.2).c2.2, (hE.here.1.2).c2.1, (hE.here.1.2).c2.2⟩) (fun hHeld => ?_)
      clear hK K
      try simp only [Act.put, List.setIfInBounds_toArray, List.set_cons_zero, List.set_cons_succ, List.getElem_toArray, List.getElem_cons_succ, List.getElem_cons_zero]
      refine wpAnyH_ready (rs := [2]) (by kernel_rfl) (by simp) (AllReadyH.cons rfl (fun K hK => ?_) (AllReadyH.nil))
      go_simp
      refine (rneg_any (c := cq) (hE.here.1.1.1.2)).mono ?_
      rintro e w9 ⟨sm, rfl, hn, hb⟩
      replace hE := hE.step hb
      clear hb
      replace hE := hE.wv hn
      clear hn
      go_wp2_with fail
      refine hK.out _ _ (⟨(hE.here.1.1.1.2).c2.1, (hE.here.1.1.1.2).c2.2, (hE.here.1.1.2).c2.1, (hE.here.1.1.2).c2.2⟩) (fun hHeld => ?_)
      clear hK K
      try simp only [Act.put, List.setIfInBounds_toArray, List.set_cons_zero, List.set_cons_succ, List.getElem_toArray, List.getElem_cons_succ, List.getElem_cons_zero]
      refine wpAnyH_ready (rs := [3]) (by kernel_rfl) (by simp) (AllReadyH.cons rfl (fun K hK => ?_) (AllReadyH.nil))
      go_simp
      have hc := rsum_w (c := cp) (d := cq) hE.here.1.1.1.1.1.2 hE.here.2 (Nat.le_trans la (by decide)) (Nat.le_trans lb (by decide))
      refine hc.mono ?_
      clear hc
      rintro e w10 ⟨sz, Az, nz, cz, rfl, hz, hb⟩
      replace hE := hE.step hb
      clear hb
      replace hE := hE.wv hz
      clear hz
      go_wp2_with fail
      refine hK.out _ _ (⟨(hE.here.1.1.1.1.2).c2.1, (hE.here.1.1.1.1.2).c2.2, (hE.here.1.1.1.2).c2.1, (hE.here.1.1.1.2).c2.2⟩) (fun hHeld => ?_)
      clear hK K
      try simp only [Act.put, List.setIfInBounds_toArray, List.set_cons_zero, List.set_cons_succ, List.getElem_toArray, List.getElem_cons_succ, List.getElem_cons_zero]
      refine wpAnyH_ready (rs := [5]) (by kernel_rfl) (by simp) (AllReadyH.cons rfl (fun K hK => ?_) (AllReadyH.nil))
      have hgl11 : w.heap.size ≤ g8 := by omega
      obtain ⟨x11_0, x11_1⟩ := (hE.here.1.1.2).c2
      have f11_0 := (hE.here.1.1.2).frozen 0
      have f11_1 := (hE.here.1.1.2).frozen 1
      replace hE := ((((((((Env.again (bel2 hE.bel hgl11 (.bool sz) (.slice Az nz cz))).wv ((hE.here.1.1.1.1.1.1.2).sep2 hE.here.1.1.2 rfl (.bool sz) (.slice Az nz cz) rfl)).wv ((hE.here.1.1.1.1.1.2).sep2 hE.here.1.1.2 rfl (.bool sz) (.slice Az nz cz) rfl)).blkI ((hE.here.1.1.1.1.2).far2 (R := g8) (by omega) (.bool sz) (.slice Az nz cz))).blkI ((hE.here.1.1.1.2).far2 (R := g8) (by omega) (.bool sz) (.slice Az nz cz))).blkI ((hE.here.1.1.2).s2 (.bool sz) (.slice Az nz cz))).wv ((hE.here.1.2).sep2 hE.here.1.1.2 rfl (.bool sz) (.slice Az nz cz) rfl)).wv ((hE.here.2).sep2 hE.here.1.1.2 rfl (.bool sz) (.slice Az nz cz) rfl))
      go_simp
      clear x11_0 x11_1 f11_0 f11_1 hgl11
      generalize ((w10.setCell ⟨g8, 0, none⟩ (.bool sz)).setCell ⟨g8, 1, none⟩ (.slice Az nz cz)) = W11 at hE ⊢
      refine hK.out _ _ (⟨(hE.here.1.1.1.1.2).c2.1, (hE.here.1.1.1.1.2).c2.2, (hE.here.1.1.1.2).c2.1, (hE.here.1.1.1.2).c2.2⟩) (fun hHeld => ?_)
      clear hK K
      try simp only [Act.put, List.setIfInBounds_toArray, List.set_cons_zero, List.set_cons_succ, List.getElem_toArray, List.getElem_cons_succ, List.getElem_cons_zero]
      refine wpAnyH_done (by kernel_rfl) ?_ _
      go_wp2_with fail
      go_meet
      exact ⟨g8, sz, Az, nz, cz, rfl, by omega, (((((((Env.again hE.bel).wv (hE.here.1.1.1.1.1.1.2)).wv (hE.here.1.1.1.1.1.2)).blkI (hE.here.1.1.1.1.2)).blkI (hE.here.1.1.1.2)).wv (hE.here.2)).blkI (hE.here.1.1.2))⟩
  case rest =>
  clear hE
  obtain ⟨G1, sz, Az, nz, cz, rfl, hG1, hE⟩ := hcut
  generalize wc = wk1 at hE ⊢
  have hs := (hE.here.1.2).sgn
  have hl := (hE.here.1.2).len
  by_cases h1 : a < b
  · have hcmp : cmpZ a b = -1 := by unfold cmpZ; rw [if_pos h1]
    rw [decide_eq_true (show a + -b < 0 by omega)] at hs
    subst hs
    clear hl
    obtain ⟨k12, k13⟩ := (hE.here.2).c2
    go_wp2_with fail
    go_ret
    exact ⟨(by first | rfl | (rw [hcmp]; rfl) | rw [hcmp]), hE.bel⟩
  · by_cases h2 : b < a
    · have hcmp : cmpZ a b = 1 := by unfold cmpZ; rw [if_neg h1, if_pos h2]
      rw [decide_eq_false (show ¬ a + -b < 0 by omega)] at hs
      subst hs
      have hz0 : 0 < nz := by rw [hl]; exact (ln_pos b16_two).2 (by omega)
      have u1 : decide (0 < nz) = true := decide_eq_true hz0
      have u2 : decide (0 < (nz : Int)) = true := decide_eq_true (by omega)
      clear hl
      obtain ⟨k14, k15⟩ := (hE.here.2).c2
      go_wp2_with fail
      go_ret
      exact ⟨(by first | rfl | (rw [hcmp]; rfl) | rw [hcmp]), hE.bel⟩
    · have hcmp : cmpZ a b = 0 := by unfold cmpZ; rw [if_neg h1, if_neg h2]
      have h0 : (a + -b).natAbs = 0 := by omega
      rw [decide_eq_false (show ¬ a + -b < 0 by omega)] at hs
      subst hs
      have hz0 : nz = 0 := by rw [hl, h0]; exact ln_zero
      subst hz0
      clear hl
      obtain ⟨k16, k17⟩ := (hE.here.2).c2
      go_wp2_with fail
      go_ret
      exact ⟨(by first | rfl | (rw [hcmp]; rfl) | rw [hcmp]), hE.bel⟩
end Go.Proofs.YtifikcemcflgjaaGreat
namespace Go.Proofs.YtifikcemcflgjaaGreat
open Go.RowKit

/-- The call returned the whole number z and no error. -/
def WOK (z : Int) (w : World) (e : Ending) (w' : World) : Prop := ∃ s A n c, e = .returned (.tuple #[.agg #[.bool s, .slice A n c], .int .i64 0]) ∧ WV w' z s A n ∧ Below w.heap.size w w'
theorem whole_valid_v {z : Int} {s : Bool} {A : Option Addr} {n c : Nat} {w : World} (h : WV w z s A n) (hn : n ≤ 1024) :
    Calls Tryz.prog 40 #[.agg #[.bool s, .slice A n c]] w fun e w' => e = .returned (.bool true) ∧ Below w.heap.size w w' := by
  have hr : Rd w.heap.size .u16 w A n (dgt b16 z.natAbs) := by have := h.2.2; unfold Num16 at this; rwa [← h.len] at this
  have hk := okW_num (z := z) (by rw [← h.len]; exact hn)
  rw [← h.sgn, ← h.len] at hk
  exact whole_valid_any s A n c _ w hr (fun i _ => dgt16_lt _ i) (by omega) true hk
/-- Rounding up. -/
def ceilQ (a : Rat) : Int := if a.num.fmod (a.den : Int) = 0 then a.num.fdiv (a.den : Int) else a.num.fdiv (a.den : Int) + 1
theorem den_nz (a : Rat) : ((a.den : Nat) : Int) ≠ 0 := by have := a.den_pos; omega
set_option linter.unusedSimpArgs false in
set_option maxRecDepth 100000 in
theorem ftzero_v {q : Rat} {s t : Bool} {A B : Option Addr} {n m c d : Nat} {w : World} (ha : FV w q s A n t B m) (r : Bool) (hr : decide (q.num = 0) = r) :
    Calls Tryz.prog 55 #[.agg #[.bool s, .slice A n c, .bool t, .slice B m d]] w fun e w' => e = .returned (.bool r) ∧ Below w.heap.size w w' := by
  by_cases h0 : q.num = 0
  · rw [decide_eq_true h0] at hr
    subst hr
    have hE := ((Env.start w).fv ha).blk 65 #[.bool s, .slice A n c, .bool t, .slice B m d] (g := w.heap.size) rfl
    obtain ⟨W0, hW0⟩ : ∃ W0, W0 = (w.alloc (.cells #[.bool s, .slice A n c, .bool t, .slice B m d] 65)) := ⟨_, rfl⟩
    rw [← hW0] at hE
    have HW0 := Lib.hid hW0
    clear hW0
    go_enter Tryz.func55, Tryz.ntmps55
    go_upto_region 1 with (fail)
    rw [← HW0.out]
    obtain rfl : n = 0 := by rw [ha.1.len, h0]; exact ln_zero
    obtain ⟨k1, k2, k3, k4⟩ := (hE.here.2).c4
    go_wp2_with fail
    go_ret
    exact ⟨rfl, hE.bel⟩
  · rw [decide_eq_false h0] at hr
    subst hr
    have hE := ((Env.start w).fv ha).blk 65 #[.bool s, .slice A n c, .bool t, .slice B m d] (g := w.heap.size) rfl
    obtain ⟨W0, hW0⟩ : ∃ W0, W0 = (w.alloc (.cells #[.bool s, .slice A n c, .bool t, .slice B m d] 65)) := ⟨_, rfl⟩
    rw [← hW0] at hE
    have HW0 := Lib.hid hW0
    clear hW0
    go_enter Tryz.func55, Tryz.ntmps55
    go_upto_region 1 with (fail)
    rw [← HW0.out]
    have hz : 0 < n := by rw [ha.1.len]; exact (ln_pos b16_two).2 (by have : q.num ≠ 0 := h0; omega)
    have t1 : ((n : Int) == 0) = false := beq_eq_false_iff_ne.2 (by omega)
    have t2 : (n == 0) = false := beq_eq_false_iff_ne.2 (by omega)
    obtain ⟨k1, k2, k3, k4⟩ := (hE.here.2).c4
    go_wp2_with fail
    go_ret
    exact ⟨rfl, hE.bel⟩
set_option linter.unusedSimpArgs false in
set_option maxRecDepth 100000 in
set_option maxHeartbeats 2000000 in
theorem fmake_v {x y : Int} {sx sy : Bool} {Ax Ay : Option Addr} {nx cx ny cy : Nat} {w : World} (hx : WV w x sx Ax nx) (hy : WV w y sy Ay ny) (la : nx ≤ 1024) (lb : ny ≤ 1024) (hb0 : y ≠ 0) (lr : fl (Rat.divInt x y) ≤ 256) :
    Calls Tryz.prog 43 #[.agg #[.bool sx, .slice Ax nx cx], .agg #[.bool sy, .slice Ay ny cy]] w (FOK (Rat.divInt x y) w) := by
  have hE := ((((Env.start w).wv hx).wv hy).blk 24 #[.bool sx, .slice Ax nx cx] (g := w.heap.size) rfl).blk 24 #[.bool sy, .slice Ay ny cy] (g := w.heap.size + 1) (by simp)
  have hE := hE.blk 26 #[.bool false, .slice none 0 0, .bool false, .slice none 0 0] (g := w.heap.size + 1 + 1) (by simp)
  obtain ⟨W0, hW0⟩ : ∃ W0, W0 = (((w.alloc (.cells #[.bool sx, .slice Ax nx cx] 24)).alloc (.cells #[.bool sy, .slice Ay ny cy] 24)).alloc (.cells #[.bool false, .slice none 0 0, .bool false, .slice none 0 0] 26)) := ⟨_, rfl⟩
  rw [← hW0] at hE
  have HW0 := Lib.hid hW0
  clear hW0
  go_enter Tryz.func43, Tryz.ntmps43
  go_upto_region 1 with (fail)
  rw [← HW0.out]
  have hz : 0 < ny := by rw [hy.len]; exact (ln_pos b16_two).2 (by omega)
  have t1 : ((ny : Int) == 0) = false := beq_eq_false_iff_ne.2 (by omega)
  have t2 : (ny == 0) = false := beq_eq_false_iff_ne.2 (by omega)
  obtain ⟨k1, k2⟩ := (hE.here.1.1.2).c2
  obtain ⟨k3, k4⟩ := (hE.here.1.2).c2
  go_wp2_with fail
  have hc := whole_valid_v (c := cx) hE.here.1.1.1.1.2 la
  refine hc.mono ?_
  clear hc
  clear k1 k2 k3 k4
  rintro e w5 ⟨rfl, hb⟩
  replace hE := hE.step hb
  clear hb
  obtain ⟨k6, k7⟩ := (hE.here.1.1.2).c2
  obtain ⟨k8, k9⟩ := (hE.here.1.2).c2
  go_wp2_with fail
  have hc := whole_valid_v (c := cy) hE.here.1.1.1.2 lb
  refine hc.mono ?_
  clear hc
  clear k6 k7 k8 k9
  rintro e w10 ⟨rfl, hb⟩
  replace hE := hE.step hb
  clear hb
  obtain ⟨k11, k12⟩ := (hE.here.1.1.2).c2
  obtain ⟨k13, k14⟩ := (hE.here.1.2).c2
  go_wp2_with fail
  have hc := flowest_v (ca := cx) (cb := cy) hE.here.1.1.1.1.2 hE.here.1.1.1.2 la lb hb0
  refine hc.mono ?_
  clear hc
  clear k11 k12 k13 k14
  rintro e w15 ⟨sf, Af, nf, cf, tf, Bf, mf, df, rfl, hf, hb⟩
  replace hE := hE.step hb
  clear hb
  replace hE := hE.fv hf
  clear hf
  go_wp2_with fail
  have hc := fresult_ok (c := cf) (d := df) hE.here.2 lr
  refine hc.mono ?_
  clear hc
  rintro e w16 ⟨sr, Ar, nr, cr, tr, Br, mr, dr, rfl, hr, hb⟩
  replace hE := hE.step hb
  clear hb
  replace hE := hE.fv hr
  clear hr
  have hRl : w.heap.size ≤ w.heap.size + 1 + 1 := by omega
  obtain ⟨WW, hWW, hB, hV, hBel⟩ := ret_frac hE hE.here.1.1.2 hRl hE.here.2 cr dr
  obtain ⟨x0, x1, x2, x3⟩ := (hE.here.1.1.2).c4
  have fz := fun i => (hE.here.1.1.2).frozen i
  have fz0 := fz 0
  have fz1 := fz 1
  have fz2 := fz 2
  have fz3 := fz 3
  clear fz
  have HWW := Lib.hid hWW
  clear hWW
  go_wp2_with fail
  clear x0 x1 x2 x3
  rw [← HWW.out]
  obtain ⟨y0, y1, y2, y3⟩ := hB.c4
  refine bodyPost_ret (v := .tuple #[.agg #[.bool sr, .slice Ar nr cr, .bool tr, .slice Br mr dr], .int .i64 0]) (by simp [results, Tryz.results43, go_sem, y0, y1, y2, y3]) rfl ?_
  exact ⟨sr, Ar, nr, cr, tr, Br, mr, dr, rfl, hV, hBel⟩
set_option linter.unusedSimpArgs false in
set_option maxRecDepth 100000 in
set_option maxHeartbeats 4000000 in
theorem fdiv_v {a b : Rat} {sa ta sb tb : Bool} {Aa Ba Ab Bb : Option Addr} {na ca ma da nb cb mb db : Nat} {w : World} (ha : FV w a sa Aa na ta Ba ma) (hb : FV w b sb Ab nb tb Bb mb) (la : fl a ≤ 256) (lb : fl b ≤ 256) (hb0 : b.num ≠ 0) (lr : fl (a / b) ≤ 256) :
    Calls Tryz.prog 37 #[.agg #[.bool sa, .slice Aa na ca, .bool ta, .slice Ba ma da], .agg #[.bool sb, .slice Ab nb cb, .bool tb, .slice Bb mb db]] w (FOK (a / b) w) := by
  have hE := ((((Env.start w).fv ha).fv hb).blk 26 #[.bool sa, .slice Aa na ca, .bool ta, .slice Ba ma da] (g := w.heap.size) rfl).blk 26 #[.bool sb, .slice Ab nb cb, .bool tb, .slice Bb mb db] (g := w.heap.size + 1) (by simp)
  have hE := hE.blk 26 #[.bool false, .slice none 0 0, .bool false, .slice none 0 0] (g := w.heap.size + 1 + 1) (by simp)
  obtain ⟨W0, hW0⟩ : ∃ W0, W0 = (((w.alloc (.cells #[.bool sa, .slice Aa na ca, .bool ta, .slice Ba ma da] 26)).alloc (.cells #[.bool sb, .slice Ab nb cb, .bool tb, .slice Bb mb db] 26)).alloc (.cells #[.bool false, .slice none 0 0, .bool false, .slice none 0 0] 26)) := ⟨_, rfl⟩
  rw [← hW0] at hE
  have HW0 := Lib.hid hW0
  clear hW0
  go_enter Tryz.func37, Tryz.ntmps37
  go_upto_region 1 with (fail)
  rw [← HW0.out]
  obtain ⟨k1, k2, k3, k4⟩ := (hE.here.1.1.2).c4
  obtain ⟨k5, k6, k7, k8⟩ := (hE.here.1.2).c4
  go_wp2_with fail
  have hc := fallValid_v (c := ca) (d := da) (c2 := cb) (d2 := db) hE.here.1.1.1.1.2 hE.here.1.1.1.2 la lb
  refine hc.mono ?_
  clear hc
  clear k1 k2 k3 k4 k5 k6 k7 k8
  rintro e w9 ⟨rfl, hb⟩
  replace hE := hE.step hb
  clear hb
  obtain ⟨k10, k11, k12, k13⟩ := (hE.here.1.2).c4
  go_wp2_with fail
  have hc := ftzero_v (c := cb) (d := db) hE.here.1.1.1.2 false (decide_eq_false hb0)
  refine hc.mono ?_
  clear hc
  clear k10 k11 k12 k13
  rintro e w14 ⟨rfl, hb⟩
  replace hE := hE.step hb
  clear hb
  go_upto_region 5 with (fail)
  obtain ⟨qa1, qa2⟩ := fv_lens (hE.here.1.1.1.1.2) la
  obtain ⟨qb1, qb2⟩ := fv_lens (hE.here.1.1.1.2) lb
  obtain ⟨ha1, ha2⟩ := (hE.here.1.1.1.1.2).ln la
  obtain ⟨hb1, hb2⟩ := (hE.here.1.1.1.2).ln lb
  replace hE := hE.drew
  refine wp_region_held_drew (S := fun w' => w'.cell? ⟨w.heap.size, 0, none⟩ = some (.bool sa) ∧ w'.cell? ⟨w.heap.size, 1, none⟩ = some (.slice Aa na ca) ∧ w'.cell? ⟨w.heap.size, 2, none⟩ = some (.bool ta) ∧ w'.cell? ⟨w.heap.size, 3, none⟩ = some (.slice Ba ma da) ∧ w'.cell? ⟨w.heap.size + 1, 0, none⟩ = some (.bool sb) ∧ w'.cell? ⟨w.heap.size + 1, 1, none⟩ = some (.slice Ab nb cb) ∧ w'.cell? ⟨w.heap.size + 1, 2, none⟩ = some (.bool tb) ∧ w'.cell? ⟨w.heap.size + 1, 3, none⟩ = some (.slice Bb mb db)) (by kernel_rfl) (⟨(hE.here.1.1.2).c4.1, (hE.here.1.1.2).c4.2.1, (hE.here.1.1.2).c4.2.2.1, (hE.here.1.1.2).c4.2.2.2, (hE.here.1.2).c4.1, (hE.here.1.2).c4.2.1, (hE.here.1.2).c4.2.2.1, (hE.here.1.2).c4.2.2.2⟩) (fun hHeld => ?_)
  refine wpAnyH_take (i := 0) (v := ?v1_0_1) rfl (by kernel_rfl) (by kernel_rfl) (by kernel_rfl) (fun _ _ _ h => h) (Or.inl ⟨by rfl, ?hy1_0_1⟩) (by assumption) ?rest1_0_1
  case hy1_0_1 => intro w hSw; (try dsimp only at hSw); first | (go_simp; done) | (go_simp; with_reducible rfl)
  try simp only [Act.put, List.setIfInBounds_toArray, List.set_cons_zero, List.set_cons_succ, List.getElem_toArray, List.getElem_cons_succ, List.getElem_cons_zero]
  refine wpAnyH_take (i := 1) (v := ?v1_1_2) rfl (by kernel_rfl) (by kernel_rfl) (by kernel_rfl) (fun _ _ _ h => h) (Or.inl ⟨by rfl, ?hy1_1_2⟩) (by assumption) ?rest1_1_2
  case hy1_1_2 => intro w hSw; (try dsimp only at hSw); first | (go_simp; done) | (go_simp; with_reducible rfl)
  try simp only [Act.put, List.setIfInBounds_toArray, List.set_cons_zero, List.set_cons_succ, List.getElem_toArray, List.getElem_cons_succ, List.getElem_cons_zero]
  refine wpAnyH_take (i := 2) (v := ?v1_2_3) rfl (by kernel_rfl) (by kernel_rfl) (by kernel_rfl) (fun _ _ _ h => h) (Or.inl ⟨by rfl, ?hy1_2_3⟩) (by assumption) ?rest1_2_3
  case hy1_2_3 => intro w hSw; (try dsimp only at hSw); first | (go_simp; done) | (go_simp; with_reducible rfl)
  try simp only [Act.put, List.setIfInBounds_toArray, List.set_cons_zero, List.set_cons_succ, List.getElem_toArray, List.getElem_cons_succ, List.getElem_cons_zero]
  refine wpAnyH_take (i := 3) (v := ?v1_3_4) rfl (by kernel_rfl) (by kernel_rfl) (by kernel_rfl) (fun _ _ _ h => h) (Or.inl ⟨by rfl, ?hy1_3_4⟩) (by assumption) ?rest1_3_4
  case hy1_3_4 => intro w hSw; (try dsimp only at hSw); first | (go_simp; done) | (go_simp; with_reducible rfl)
  try simp only [Act.put, List.setIfInBounds_toArray, List.set_cons_zero, List.set_cons_succ, List.getElem_toArray, List.getElem_cons_succ, List.getElem_cons_zero]
  refine wpAnyH_take (i := 5) (v := ?v1_5_5) rfl (by kernel_rfl) (by kernel_rfl) (by kernel_rfl) (fun _ _ _ h => h) (Or.inl ⟨by rfl, ?hy1_5_5⟩) (by assumption) ?rest1_5_5
  case hy1_5_5 => intro w hSw; (try dsimp only at hSw); first | (go_simp; done) | (go_simp; with_reducible rfl)
  try simp only [Act.put, List.setIfInBounds_toArray, List.set_cons_zero, List.set_cons_succ, List.getElem_toArray, List.getElem_cons_succ, List.getElem_cons_zero]
  refine wpAnyH_take (i := 6) (v := ?v1_6_6) rfl (by kernel_rfl) (by kernel_rfl) (by kernel_rfl) (fun _ _ _ h => h) (Or.inl ⟨by rfl, ?hy1_6_6⟩) (by assumption) ?rest1_6_6
  case hy1_6_6 => intro w hSw; (try dsimp only at hSw); first | (go_simp; done) | (go_simp; with_reducible rfl)
  try simp only [Act.put, List.setIfInBounds_toArray, List.set_cons_zero, List.set_cons_succ, List.getElem_toArray, List.getElem_cons_succ, List.getElem_cons_zero]
  refine wpAnyH_take (i := 7) (v := ?v1_7_7) rfl (by kernel_rfl) (by kernel_rfl) (by kernel_rfl) (fun _ _ _ h => h) (Or.inl ⟨by rfl, ?hy1_7_7⟩) (by assumption) ?rest1_7_7
  case hy1_7_7 => intro w hSw; (try dsimp only at hSw); first | (go_simp; done) | (go_simp; with_reducible rfl)
  try simp only [Act.put, List.setIfInBounds_toArray, List.set_cons_zero, List.set_cons_succ, List.getElem_toArray, List.getElem_cons_succ, List.getElem_cons_zero]
  refine wpAnyH_take (i := 8) (v := ?v1_8_8) rfl (by kernel_rfl) (by kernel_rfl) (by kernel_rfl) (fun _ _ _ h => h) (Or.inl ⟨by rfl, ?hy1_8_8⟩) (by assumption) ?rest1_8_8
  case hy1_8_8 => intro w hSw; (try dsimp only at hSw); first | (go_simp; done) | (go_simp; with_reducible rfl)
  try simp only [Act.put, List.setIfInBounds_toArray, List.set_cons_zero, List.set_cons_succ, List.getElem_toArray, List.getElem_cons_succ, List.getElem_cons_zero]
  refine wpAnyH_ready (rs := [4]) (by kernel_rfl) (by simp) (AllReadyH.cons rfl (fun K hK => ?_) (AllReadyH.nil))
  go_simp
  have hc := ftimes_v (ca := ca) (cb := db) (hE.here.1.1.1.1.2).1 (hE.here.1.1.1.2).2 (Nat.le_trans ha1 (by decide)) (Nat.le_trans hb2 (by decide)) (Nat.le_trans (ln_mulZ (m := 256) (n := 256) qa1 qb2) (by decide))
  refine hc.mono ?_
  clear hc
  rintro e w15 ⟨su, Au, nu, cu, rfl, hu, hb⟩
  replace hE := hE.step hb
  clear hb
  replace hE := hE.wv hu
  clear hu
  have lu : nu ≤ 512 := by rw [(hE.here.2).len]; exact (ln_mulZ (m := 256) (n := 256) qa1 qb2)
  go_wp2_with fail
  refine hK.out _ _ (⟨(hE.here.1.1.1.2).c4.1, (hE.here.1.1.1.2).c4.2.1, (hE.here.1.1.1.2).c4.2.2.1, (hE.here.1.1.1.2).c4.2.2.2, (hE.here.1.1.2).c4.1, (hE.here.1.1.2).c4.2.1, (hE.here.1.1.2).c4.2.2.1, (hE.here.1.1.2).c4.2.2.2⟩) (fun hHeld => ?_)
  clear hK K
  try simp only [Act.put, List.setIfInBounds_toArray, List.set_cons_zero, List.set_cons_succ, List.getElem_toArray, List.getElem_cons_succ, List.getElem_cons_zero]
  refine wpAnyH_ready (rs := [9]) (by kernel_rfl) (by simp) (AllReadyH.cons rfl (fun K hK => ?_) (AllReadyH.nil))
  go_simp
  have hc := ftimes_v (ca := da) (cb := cb) (hE.here.1.1.1.1.1.2).2 (hE.here.1.1.1.1.2).1 (Nat.le_trans ha2 (by decide)) (Nat.le_trans hb1 (by decide)) (Nat.le_trans (ln_mulZ (m := 256) (n := 256) qa2 qb1) (by decide))
  refine hc.mono ?_
  clear hc
  rintro e w16 ⟨sv, Av, nv, cv, rfl, hv, hb⟩
  replace hE := hE.step hb
  clear hb
  replace hE := hE.wv hv
  clear hv
  have lv : nv ≤ 512 := by rw [(hE.here.2).len]; exact (ln_mulZ (m := 256) (n := 256) qa2 qb1)
  go_wp2_with fail
  refine hK.out _ _ (⟨(hE.here.1.1.1.1.2).c4.1, (hE.here.1.1.1.1.2).c4.2.1, (hE.here.1.1.1.1.2).c4.2.2.1, (hE.here.1.1.1.1.2).c4.2.2.2, (hE.here.1.1.1.2).c4.1, (hE.here.1.1.1.2).c4.2.1, (hE.here.1.1.1.2).c4.2.2.1, (hE.here.1.1.1.2).c4.2.2.2⟩) (fun hHeld => ?_)
  clear hK K
  try simp only [Act.put, List.setIfInBounds_toArray, List.set_cons_zero, List.set_cons_succ, List.getElem_toArray, List.getElem_cons_succ, List.getElem_cons_zero]
  refine wpAnyH_ready (rs := [10]) (by kernel_rfl) (by simp) (AllReadyH.cons rfl (fun K hK => ?_) (AllReadyH.nil))
  go_simp
  have hc := flowest_v (ca := cu) (cb := cv) hE.here.1.2 hE.here.2 (Nat.le_trans lu (by decide)) (Nat.le_trans lv (by decide)) (Int.mul_ne_zero (den_nz a) hb0)
  rw [div_low a b] at hc
  refine hc.mono ?_
  clear hc
  rintro e w17 ⟨sf, Af, nf, cf, tf, Bf, mf, df, rfl, hf, hb⟩
  replace hE := hE.step hb
  clear hb
  replace hE := hE.fv hf
  clear hf
  go_wp2_with fail
  refine hK.out _ _ (⟨(hE.here.1.1.1.1.1.2).c4.1, (hE.here.1.1.1.1.1.2).c4.2.1, (hE.here.1.1.1.1.1.2).c4.2.2.1, (hE.here.1.1.1.1.1.2).c4.2.2.2, (hE.here.1.1.1.1.2).c4.1, (hE.here.1.1.1.1.2).c4.2.1, (hE.here.1.1.1.1.2).c4.2.2.1, (hE.here.1.1.1.1.2).c4.2.2.2⟩) (fun hHeld => ?_)
  clear hK K
  try simp only [Act.put, List.setIfInBounds_toArray, List.set_cons_zero, List.set_cons_succ, List.getElem_toArray, List.getElem_cons_succ, List.getElem_cons_zero]
  refine wpAnyH_ready (rs := [11]) (by kernel_rfl) (by simp) (AllReadyH.cons rfl (fun K hK => ?_) (AllReadyH.nil))
  go_simp
  have hc := fresult_ok (c := cf) (d := df) hE.here.2 lr
  refine hc.mono ?_
  clear hc
  rintro e w18 ⟨sr, Ar, nr, cr, tr, Br, mr, dr, rfl, hr, hb⟩
  replace hE := hE.step hb
  clear hb
  replace hE := hE.fv hr
  clear hr
  go_wp2_with fail
  refine hK.out _ _ (⟨(hE.here.1.1.1.1.1.1.2).c4.1, (hE.here.1.1.1.1.1.1.2).c4.2.1, (hE.here.1.1.1.1.1.1.2).c4.2.2.1, (hE.here.1.1.1.1.1.1.2).c4.2.2.2, (hE.here.1.1.1.1.1.2).c4.1, (hE.here.1.1.1.1.1.2).c4.2.1, (hE.here.1.1.1.1.1.2).c4.2.2.1, (hE.here.1.1.1.1.1.2).c4.2.2.2⟩) (fun hHeld => ?_)
  clear hK K
  try simp only [Act.put, List.setIfInBounds_toArray, List.set_cons_zero, List.set_cons_succ, List.getElem_toArray, List.getElem_cons_succ, List.getElem_cons_zero]
  refine wpAnyH_take (i := 12) (v := ?v1_12_9) rfl (by kernel_rfl) (by kernel_rfl) (by kernel_rfl) (fun _ _ _ h => h) (Or.inl ⟨by rfl, ?hy1_12_9⟩) (by assumption) ?rest1_12_9
  case hy1_12_9 => intro w hSw; (try dsimp only at hSw); first | (go_simp; done) | (go_simp; with_reducible rfl)
  try simp only [Act.put, List.setIfInBounds_toArray, List.set_cons_zero, List.set_cons_succ, List.getElem_toArray, List.getElem_cons_succ, List.getElem_cons_zero]
  refine wpAnyH_take (i := 13) (v := ?v1_13_10) rfl (by kernel_rfl) (by kernel_rfl) (by kernel_rfl) (fun _ _ _ h => h) (Or.inl ⟨by rfl, ?hy1_13_10⟩) (by assumption) ?rest1_13_10
  case hy1_13_10 => intro w hSw; (try dsimp only at hSw); first | (go_simp; done) | (go_simp; with_reducible rfl)
  try simp only [Act.put, List.setIfInBounds_toArray, List.set_cons_zero, List.set_cons_succ, List.getElem_toArray, List.getElem_cons_succ, List.getElem_cons_zero]
  refine wpAnyH_ready (rs := [14]) (by kernel_rfl) (by simp) (AllReadyH.cons rfl (fun K hK => ?_) (AllReadyH.nil))
  have hRl : w.heap.size ≤ w.heap.size + 1 + 1 := by omega
  obtain ⟨WW, hWW, hB, hV, hBel⟩ := ret_frac hE hE.here.1.1.1.1.2 hRl hE.here.2 cr dr
  obtain ⟨x0, x1, x2, x3⟩ := (hE.here.1.1.1.1.2).c4
  have fz := fun i => (hE.here.1.1.1.1.2).frozen i
  have fz0 := fz 0
  have fz1 := fz 1
  have fz2 := fz 2
  have fz3 := fz 3
  clear fz
  have HWW := Lib.hid hWW
  clear hWW
  have q19 := (hE.here.1.1.1.1.1.1.2).far4 (R := w.heap.size + 1 + 1) (by omega) (.bool sr) (.slice Ar nr cr) (.bool tr) (.slice Br mr dr)
  rw [← HWW.out] at q19
  have q20 := (hE.here.1.1.1.1.1.2).far4 (R := w.heap.size + 1 + 1) (by omega) (.bool sr) (.slice Ar nr cr) (.bool tr) (.slice Br mr dr)
  rw [← HWW.out] at q20
  go_simp
  rw [← HWW.out]
  refine hK.out _ _ (⟨(q19).c4.1, (q19).c4.2.1, (q19).c4.2.2.1, (q19).c4.2.2.2, (q20).c4.1, (q20).c4.2.1, (q20).c4.2.2.1, (q20).c4.2.2.2⟩) (fun hHeld => ?_)
  clear hK K
  try simp only [Act.put, List.setIfInBounds_toArray, List.set_cons_zero, List.set_cons_succ, List.getElem_toArray, List.getElem_cons_succ, List.getElem_cons_zero]
  refine wpAnyH_take (i := 15) (v := ?v1_15_11) rfl (by kernel_rfl) (by kernel_rfl) (by kernel_rfl) (fun _ _ _ h => h) (Or.inl ⟨by rfl, ?hy1_15_11⟩) (by assumption) ?rest1_15_11
  case hy1_15_11 => intro w hSw; (try dsimp only at hSw); first | (go_simp; done) | (go_simp; with_reducible rfl)
  try simp only [Act.put, List.setIfInBounds_toArray, List.set_cons_zero, List.set_cons_succ, List.getElem_toArray, List.getElem_cons_succ, List.getElem_cons_zero]
  refine wpAnyH_done (by kernel_rfl) ?_ _
  go_wp2_with fail
  obtain ⟨y0, y1, y2, y3⟩ := hB.c4
  refine bodyPost_ret (v := .tuple #[.agg #[.bool sr, .slice Ar nr cr, .bool tr, .slice Br mr dr], .int .i64 0]) (by simp [results, Tryz.results37, go_sem, y0, y1, y2, y3]) rfl ?_
  exact ⟨sr, Ar, nr, cr, tr, Br, mr, dr, rfl, hV, hBel⟩
theorem fvalid_v0 {q : Rat} {s t : Bool} {A B : Option Addr} {n m c d : Nat} {w : World} (h : FV w q s A n t B m) (l : fl q ≤ 256) :
    Calls Tryz.prog 41 #[.agg #[.bool s, .slice A n c, .bool t, .slice B m d]] w fun e w' => e = .returned (.bool true) ∧ Below w.heap.size w w' := by
  obtain ⟨h1, h2⟩ := h.ln l
  exact fvalid_r s t A B n m c d _ _ w h.rd (by omega) (by omega) true (okF_of h l)
set_option linter.unusedSimpArgs false in
set_option maxRecDepth 100000 in
set_option maxHeartbeats 2000000 in
theorem fneg_v {a : Rat} {sa ta : Bool} {Aa Ba : Option Addr} {na ca ma da : Nat} {w : World} (ha : FV w a sa Aa na ta Ba ma) (la : fl a ≤ 256) :
    Calls Tryz.prog 36 #[.agg #[.bool sa, .slice Aa na ca, .bool ta, .slice Ba ma da]] w (FOK (-a) w) := by
  have hE := ((Env.start w).fv ha).blk 26 #[.bool sa, .slice Aa na ca, .bool ta, .slice Ba ma da] (g := w.heap.size) rfl
  have hE := hE.blk 26 #[.bool false, .slice none 0 0, .bool false, .slice none 0 0] (g := w.heap.size + 1) (by simp)
  obtain ⟨W0, hW0⟩ : ∃ W0, W0 = ((w.alloc (.cells #[.bool sa, .slice Aa na ca, .bool ta, .slice Ba ma da] 26)).alloc (.cells #[.bool false, .slice none 0 0, .bool false, .slice none 0 0] 26)) := ⟨_, rfl⟩
  rw [← hW0] at hE
  have HW0 := Lib.hid hW0
  clear hW0
  go_enter Tryz.func36, Tryz.ntmps36
  go_upto_region 1 with (fail)
  rw [← HW0.out]
  obtain ⟨k1, k2, k3, k4⟩ := (hE.here.1.2).c4
  go_wp2_with fail
  have hc := fvalid_v0 (c := ca) (d := da) hE.here.1.1.2 la
  refine hc.mono ?_
  clear hc
  clear k1 k2 k3 k4
  rintro e w5 ⟨rfl, hb⟩
  replace hE := hE.step hb
  clear hb
  go_upto_region 3 with (fail)
  obtain ⟨ha1, ha2⟩ := (hE.here.1.1.2).ln la
  obtain ⟨qa1, qa2⟩ := fv_lens (hE.here.1.1.2) la
  replace hE := hE.drew
  refine wp_region_held_drew (S := fun w' => w'.cell? ⟨w.heap.size, 0, none⟩ = some (.bool sa) ∧ w'.cell? ⟨w.heap.size, 1, none⟩ = some (.slice Aa na ca) ∧ w'.cell? ⟨w.heap.size, 2, none⟩ = some (.bool ta) ∧ w'.cell? ⟨w.heap.size, 3, none⟩ = some (.slice Ba ma da)) (by kernel_rfl) (⟨(hE.here.1.2).c4.1, (hE.here.1.2).c4.2.1, (hE.here.1.2).c4.2.2.1, (hE.here.1.2).c4.2.2.2⟩) (fun hHeld => ?_)
  refine wpAnyH_take (i := 0) (v := ?v2_0_1) rfl (by kernel_rfl) (by kernel_rfl) (by kernel_rfl) (fun _ _ _ h => h) (Or.inl ⟨by rfl, ?hy2_0_1⟩) (by assumption) ?rest2_0_1
  case hy2_0_1 => intro w hSw; (try dsimp only at hSw); first | (go_simp; done) | (go_simp; with_reducible rfl)
  try simp only [Act.put, List.setIfInBounds_toArray, List.set_cons_zero, List.set_cons_succ, List.getElem_toArray, List.getElem_cons_succ, List.getElem_cons_zero]
  refine wpAnyH_take (i := 1) (v := ?v2_1_2) rfl (by kernel_rfl) (by kernel_rfl) (by kernel_rfl) (fun _ _ _ h => h) (Or.inl ⟨by rfl, ?hy2_1_2⟩) (by assumption) ?rest2_1_2
  case hy2_1_2 => intro w hSw; (try dsimp only at hSw); first | (go_simp; done) | (go_simp; with_reducible rfl)
  try simp only [Act.put, List.setIfInBounds_toArray, List.set_cons_zero, List.set_cons_succ, List.getElem_toArray, List.getElem_cons_succ, List.getElem_cons_zero]
  refine wpAnyH_take (i := 3) (v := ?v2_3_3) rfl (by kernel_rfl) (by kernel_rfl) (by kernel_rfl) (fun _ _ _ h => h) (Or.inl ⟨by rfl, ?hy2_3_3⟩) (by assumption) ?rest2_3_3
  case hy2_3_3 => intro w hSw; (try dsimp only at hSw); first | (go_simp; done) | (go_simp; with_reducible rfl)
  try simp only [Act.put, List.setIfInBounds_toArray, List.set_cons_zero, List.set_cons_succ, List.getElem_toArray, List.getElem_cons_succ, List.getElem_cons_zero]
  refine wpAnyH_take (i := 4) (v := ?v2_4_4) rfl (by kernel_rfl) (by kernel_rfl) (by kernel_rfl) (fun _ _ _ h => h) (Or.inl ⟨by rfl, ?hy2_4_4⟩) (by assumption) ?rest2_4_4
  case hy2_4_4 => intro w hSw; (try dsimp only at hSw); first | (go_simp; done) | (go_simp; with_reducible rfl)
  try simp only [Act.put, List.setIfInBounds_toArray, List.set_cons_zero, List.set_cons_succ, List.getElem_toArray, List.getElem_cons_succ, List.getElem_cons_zero]
  refine wpAnyH_ready (rs := [2]) (by kernel_rfl) (by simp) (AllReadyH.cons rfl (fun K hK => ?_) (AllReadyH.nil))
  go_simp
  have hc := fopposite_v (c := ca) (hE.here.1.1.2).1 (Nat.le_trans ha1 (by decide))
  refine hc.mono ?_
  clear hc
  rintro e w6 ⟨sn, An, nn, cn, rfl, hn, hb⟩
  replace hE := hE.step hb
  clear hb
  replace hE := hE.wv hn
  clear hn
  have ln : nn ≤ 256 := by rw [(hE.here.2).len]; first | (rw [Int.natAbs_neg]; first | exact qa1 | exact qa2) | (rw [Int.neg_neg]; exact qa2)
  go_wp2_with fail
  refine hK.out _ _ (⟨(hE.here.1.1.2).c4.1, (hE.here.1.1.2).c4.2.1, (hE.here.1.1.2).c4.2.2.1, (hE.here.1.1.2).c4.2.2.2⟩) (fun hHeld => ?_)
  clear hK K
  try simp only [Act.put, List.setIfInBounds_toArray, List.set_cons_zero, List.set_cons_succ, List.getElem_toArray, List.getElem_cons_succ, List.getElem_cons_zero]
  refine wpAnyH_ready (rs := [5]) (by kernel_rfl) (by simp) (AllReadyH.cons rfl (fun K hK => ?_) (AllReadyH.nil))
  go_simp
  have hc := fopposite_v (c := da) (hE.here.1.1.1.2).2 (Nat.le_trans ha2 (by decide))
  refine hc.mono ?_
  clear hc
  rintro e w7 ⟨se, Ae, ne, ce, rfl, he1, hb⟩
  replace hE := hE.step hb
  clear hb
  replace hE := hE.wv he1
  clear he1
  have le1 : ne ≤ 256 := by rw [(hE.here.2).len]; first | (rw [Int.natAbs_neg]; first | exact qa1 | exact qa2) | (rw [Int.neg_neg]; exact qa2)
  go_wp2_with fail
  refine hK.out _ _ (⟨(hE.here.1.1.1.2).c4.1, (hE.here.1.1.1.2).c4.2.1, (hE.here.1.1.1.2).c4.2.2.1, (hE.here.1.1.1.2).c4.2.2.2⟩) (fun hHeld => ?_)
  clear hK K
  try simp only [Act.put, List.setIfInBounds_toArray, List.set_cons_zero, List.set_cons_succ, List.getElem_toArray, List.getElem_cons_succ, List.getElem_cons_zero]
  refine wpAnyH_ready (rs := [6]) (by kernel_rfl) (by simp) (AllReadyH.cons rfl (fun K hK => ?_) (AllReadyH.nil))
  go_simp
  have hc := fopposite_v (c := ce) (hE.here.2) (Nat.le_trans le1 (by decide))
  refine hc.mono ?_
  clear hc
  rintro e w8 ⟨sf, Af, nf, cf, rfl, hf1, hb⟩
  replace hE := hE.step hb
  clear hb
  replace hE := hE.wv hf1
  clear hf1
  have lf1 : nf ≤ 256 := by rw [(hE.here.2).len]; first | (rw [Int.natAbs_neg]; first | exact qa1 | exact qa2) | (rw [Int.neg_neg]; exact qa2)
  have hfv : FV w8 (-a) sn An nn sf Af nf := ⟨by rw [Rat.neg_num]; exact hE.here.1.1.2, by rw [Rat.neg_den]; have := hE.here.2; rwa [Int.neg_neg] at this⟩
  replace hE := hE.fv hfv
  clear hfv
  go_wp2_with fail
  refine hK.out _ _ (⟨(hE.here.1.1.1.1.1.2).c4.1, (hE.here.1.1.1.1.1.2).c4.2.1, (hE.here.1.1.1.1.1.2).c4.2.2.1, (hE.here.1.1.1.1.1.2).c4.2.2.2⟩) (fun hHeld => ?_)
  clear hK K
  try simp only [Act.put, List.setIfInBounds_toArray, List.set_cons_zero, List.set_cons_succ, List.getElem_toArray, List.getElem_cons_succ, List.getElem_cons_zero]
  refine wpAnyH_take (i := 7) (v := ?v2_7_5) rfl (by kernel_rfl) (by kernel_rfl) (by kernel_rfl) (fun _ _ _ h => h) (Or.inl ⟨by rfl, ?hy2_7_5⟩) (by assumption) ?rest2_7_5
  case hy2_7_5 => intro w hSw; (try dsimp only at hSw); first | (go_simp; done) | (go_simp; with_reducible rfl)
  try simp only [Act.put, List.setIfInBounds_toArray, List.set_cons_zero, List.set_cons_succ, List.getElem_toArray, List.getElem_cons_succ, List.getElem_cons_zero]
  refine wpAnyH_ready (rs := [8]) (by kernel_rfl) (by simp) (AllReadyH.cons rfl (fun K hK => ?_) (AllReadyH.nil))
  have hRl : w.heap.size ≤ w.heap.size + 1 := by omega
  obtain ⟨WW, hWW, hB, hV, hBel⟩ := ret_frac hE hE.here.1.1.1.1.2 hRl hE.here.2 cn cf
  obtain ⟨x0, x1, x2, x3⟩ := (hE.here.1.1.1.1.2).c4
  have fz := fun i => (hE.here.1.1.1.1.2).frozen i
  have fz0 := fz 0
  have fz1 := fz 1
  have fz2 := fz 2
  have fz3 := fz 3
  clear fz
  have HWW := Lib.hid hWW
  clear hWW
  have q9 := (hE.here.1.1.1.1.1.2).far4 (R := w.heap.size + 1) (by omega) (.bool sn) (.slice An nn cn) (.bool sf) (.slice Af nf cf)
  rw [← HWW.out] at q9
  go_simp
  rw [← HWW.out]
  refine hK.out _ _ (⟨(q9).c4.1, (q9).c4.2.1, (q9).c4.2.2.1, (q9).c4.2.2.2⟩) (fun hHeld => ?_)
  clear hK K
  try simp only [Act.put, List.setIfInBounds_toArray, List.set_cons_zero, List.set_cons_succ, List.getElem_toArray, List.getElem_cons_succ, List.getElem_cons_zero]
  refine wpAnyH_take (i := 9) (v := ?v2_9_6) rfl (by kernel_rfl) (by kernel_rfl) (by kernel_rfl) (fun _ _ _ h => h) (Or.inl ⟨by rfl, ?hy2_9_6⟩) (by assumption) ?rest2_9_6
  case hy2_9_6 => intro w hSw; (try dsimp only at hSw); first | (go_simp; done) | (go_simp; with_reducible rfl)
  try simp only [Act.put, List.setIfInBounds_toArray, List.set_cons_zero, List.set_cons_succ, List.getElem_toArray, List.getElem_cons_succ, List.getElem_cons_zero]
  refine wpAnyH_done (by kernel_rfl) ?_ _
  go_wp2_with fail
  obtain ⟨y0, y1, y2, y3⟩ := hB.c4
  refine bodyPost_ret (v := .tuple #[.agg #[.bool sn, .slice An nn cn, .bool sf, .slice Af nf cf], .int .i64 0]) (by simp [results, Tryz.results36, go_sem, y0, y1, y2, y3]) rfl ?_
  exact ⟨sn, An, nn, cn, sf, Af, nf, cf, rfl, hV, hBel⟩
set_option linter.unusedSimpArgs false in
set_option maxRecDepth 100000 in
set_option maxHeartbeats 2000000 in
theorem ffloor_v {a : Rat} {sa ta : Bool} {Aa Ba : Option Addr} {na ca ma da : Nat} {w : World} (ha : FV w a sa Aa na ta Ba ma) (la : fl a ≤ 256) :
    Calls Tryz.prog 48 #[.agg #[.bool sa, .slice Aa na ca, .bool ta, .slice Ba ma da]] w (WOK (a.num.fdiv (a.den : Int)) w) := by
  have hE := ((Env.start w).fv ha).blk 26 #[.bool sa, .slice Aa na ca, .bool ta, .slice Ba ma da] (g := w.heap.size) rfl
  have hE := hE.blk 24 #[.bool false, .slice none 0 0] (g := w.heap.size + 1) (by simp)
  obtain ⟨W0, hW0⟩ : ∃ W0, W0 = ((w.alloc (.cells #[.bool sa, .slice Aa na ca, .bool ta, .slice Ba ma da] 26)).alloc (.cells #[.bool false, .slice none 0 0] 24)) := ⟨_, rfl⟩
  rw [← hW0] at hE
  have HW0 := Lib.hid hW0
  clear hW0
  go_enter Tryz.func48, Tryz.ntmps48
  go_upto_region 1 with (fail)
  rw [← HW0.out]
  obtain ⟨ha1, ha2⟩ := ha.ln la
  obtain ⟨k1, k2, k3, k4⟩ := (hE.here.1.2).c4
  go_wp2_with fail
  have hc := fvalid_v0 (c := ca) (d := da) hE.here.1.1.2 la
  refine hc.mono ?_
  clear hc
  clear k1 k2 k3 k4
  rintro e w5 ⟨rfl, hb⟩
  replace hE := hE.step hb
  clear hb
  obtain ⟨k6, k7, k8, k9⟩ := (hE.here.1.2).c4
  go_wp2_with fail
  refine (fdivide_v (ca := ca) (cb := da) (hE.here.1.1.2).1 (hE.here.1.1.2).2 (by omega) (by omega) (den_nz a)).mono ?_
  clear k6 k7 k8 k9
  rintro e w9 ⟨sq, Aq, nq, cq, sr, Ar, nr, cr, rfl, hq, hr, hb⟩
  replace hE := hE.step hb
  clear hb
  replace hE := (hE.wv hq).wv hr
  go_upto_region 4 with (fail)
  have hl10a : w.heap.size < w9.heap.size := (hE.here.1.1.1.2).lt
  have hl10b : w.heap.size + 1 < w9.heap.size := (hE.here.1.1.2).lt
  replace hE := (hE.blk 24 #[.bool sq, .slice Aq nq cq] (g := w9.heap.size) rfl).blk 24 #[.bool sr, .slice Ar nr cr] (g := w9.heap.size + 1) (by simp)
  generalize (w9.alloc (.cells #[.bool sq, .slice Aq nq cq] 24)).alloc (.cells #[.bool sr, .slice Ar nr cr] 24) = X10 at hE ⊢
  generalize w9.heap.size = g10 at hE hl10a hl10b ⊢
  clear hq hr
  obtain ⟨k11, k12⟩ := (hE.here.1.2).c2
  have hRl : w.heap.size ≤ w.heap.size + 1 := by omega
  obtain ⟨WW, hWW, hB, hV, hBel⟩ := ret_whole hE hE.here.1.1.1.1.2 hRl hE.here.1.1.1.2 cq
  obtain ⟨x0, x1⟩ := (hE.here.1.1.1.1.2).c2
  have fz := fun i => (hE.here.1.1.1.1.2).frozen i
  have fz0 := fz 0
  have fz1 := fz 1
  clear fz
  have HWW := Lib.hid hWW
  clear hWW
  go_wp2_with fail
  clear x0 x1
  rw [← HWW.out]
  obtain ⟨y0, y1⟩ := hB.c2
  refine bodyPost_ret (v := .tuple #[.agg #[.bool sq, .slice Aq nq cq], .int .i64 0]) (by simp [results, Tryz.results48, go_sem, y0, y1]) rfl ?_
  exact ⟨sq, Aq, nq, cq, rfl, hV, hBel⟩
theorem fdiv_len {a b : Int} (ha : ln b16 a.natAbs ≤ 256) (_ : b ≠ 0) : ln b16 (a.fdiv b).natAbs ≤ 513 := by
  refine Nat.le_trans (ln_mono b16_two (show (a.fdiv b).natAbs ≤ a.natAbs + 1 from ?_)) (Nat.le_trans (ln_add b16_two (m := 256) ha (by decide)) (by decide))
  have h1 := Int.natAbs_ediv_le_natAbs a b
  rw [Int.fdiv_eq_ediv]
  split <;> omega
set_option linter.unusedSimpArgs false in
set_option maxRecDepth 100000 in
set_option maxHeartbeats 4000000 in
theorem fceil_v {a : Rat} {sa ta : Bool} {Aa Ba : Option Addr} {na ca ma da : Nat} {w : World} (ha : FV w a sa Aa na ta Ba ma) (la : fl a ≤ 256) :
    Calls Tryz.prog 49 #[.agg #[.bool sa, .slice Aa na ca, .bool ta, .slice Ba ma da]] w (WOK (ceilQ a) w) := by
  unfold ceilQ
  by_cases h0 : a.num.fmod (a.den : Int) = 0
  · rw [if_pos h0]
    have hE := ((Env.start w).fv ha).blk 26 #[.bool sa, .slice Aa na ca, .bool ta, .slice Ba ma da] (g := w.heap.size) rfl
    have hE := hE.blk 24 #[.bool false, .slice none 0 0] (g := w.heap.size + 1) (by simp)
    obtain ⟨W0, hW0⟩ : ∃ W0, W0 = ((w.alloc (.cells #[.bool sa, .slice Aa na ca, .bool ta, .slice Ba ma da] 26)).alloc (.cells #[.bool false, .slice none 0 0] 24)) := ⟨_, rfl⟩
    rw [← hW0] at hE
    have HW0 := Lib.hid hW0
    clear hW0
    go_enter Tryz.func49, Tryz.ntmps49
    go_upto_region 1 with (fail)
    rw [← HW0.out]
    obtain ⟨ha1, ha2⟩ := ha.ln la
    obtain ⟨k1, k2, k3, k4⟩ := (hE.here.1.2).c4
    go_wp2_with fail
    have hc := fvalid_v0 (c := ca) (d := da) hE.here.1.1.2 la
    refine hc.mono ?_
    clear hc
    clear k1 k2 k3 k4
    rintro e w5 ⟨rfl, hb⟩
    replace hE := hE.step hb
    clear hb
    obtain ⟨k6, k7, k8, k9⟩ := (hE.here.1.2).c4
    go_wp2_with fail
    refine (fdivide_v (ca := ca) (cb := da) (hE.here.1.1.2).1 (hE.here.1.1.2).2 (by omega) (by omega) (den_nz a)).mono ?_
    clear k6 k7 k8 k9
    rintro e w9 ⟨sq, Aq, nq, cq, sr, Ar, nr, cr, rfl, hq, hr, hb⟩
    replace hE := hE.step hb
    clear hb
    replace hE := (hE.wv hq).wv hr
    go_upto_region 4 with (fail)
    have hl10a : w.heap.size < w9.heap.size := (hE.here.1.1.1.2).lt
    have hl10b : w.heap.size + 1 < w9.heap.size := (hE.here.1.1.2).lt
    replace hE := (hE.blk 24 #[.bool sq, .slice Aq nq cq] (g := w9.heap.size) rfl).blk 24 #[.bool sr, .slice Ar nr cr] (g := w9.heap.size + 1) (by simp)
    generalize (w9.alloc (.cells #[.bool sq, .slice Aq nq cq] 24)).alloc (.cells #[.bool sr, .slice Ar nr cr] 24) = X10 at hE ⊢
    generalize w9.heap.size = g10 at hE hl10a hl10b ⊢
    obtain rfl : nr = 0 := by rw [hr.len, h0]; exact ln_zero
    clear hq hr
    obtain ⟨k11, k12⟩ := (hE.here.1.2).c2
    obtain ⟨k13, k14⟩ := (hE.here.2).c2
    go_upto_region 6 with (fail)
    clear k11 k12 k13 k14
    obtain ⟨k15, k16⟩ := (hE.here.1.2).c2
    have hRl : w.heap.size ≤ w.heap.size + 1 := by omega
    obtain ⟨WW, hWW, hB, hV, hBel⟩ := ret_whole hE hE.here.1.1.1.1.2 hRl hE.here.1.1.1.2 cq
    obtain ⟨x0, x1⟩ := (hE.here.1.1.1.1.2).c2
    have fz := fun i => (hE.here.1.1.1.1.2).frozen i
    have fz0 := fz 0
    have fz1 := fz 1
    clear fz
    have HWW := Lib.hid hWW
    clear hWW
    go_wp2_with fail
    clear x0 x1
    rw [← HWW.out]
    obtain ⟨y0, y1⟩ := hB.c2
    refine bodyPost_ret (v := .tuple #[.agg #[.bool sq, .slice Aq nq cq], .int .i64 0]) (by simp [results, Tryz.results49, go_sem, y0, y1]) rfl ?_
    exact ⟨sq, Aq, nq, cq, rfl, hV, hBel⟩
  · rw [if_neg h0]
    have hE := ((Env.start w).fv ha).blk 26 #[.bool sa, .slice Aa na ca, .bool ta, .slice Ba ma da] (g := w.heap.size) rfl
    have hE := hE.blk 24 #[.bool false, .slice none 0 0] (g := w.heap.size + 1) (by simp)
    obtain ⟨W0, hW0⟩ : ∃ W0, W0 = ((w.alloc (.cells #[.bool sa, .slice Aa na ca, .bool ta, .slice Ba ma da] 26)).alloc (.cells #[.bool false, .slice none 0 0] 24)) := ⟨_, rfl⟩
    rw [← hW0] at hE
    have HW0 := Lib.hid hW0
    clear hW0
    go_enter Tryz.func49, Tryz.ntmps49
    go_upto_region 1 with (fail)
    rw [← HW0.out]
    obtain ⟨ha1, ha2⟩ := ha.ln la
    obtain ⟨k1, k2, k3, k4⟩ := (hE.here.1.2).c4
    go_wp2_with fail
    have hc := fvalid_v0 (c := ca) (d := da) hE.here.1.1.2 la
    refine hc.mono ?_
    clear hc
    clear k1 k2 k3 k4
    rintro e w5 ⟨rfl, hb⟩
    replace hE := hE.step hb
    clear hb
    obtain ⟨k6, k7, k8, k9⟩ := (hE.here.1.2).c4
    go_wp2_with fail
    refine (fdivide_v (ca := ca) (cb := da) (hE.here.1.1.2).1 (hE.here.1.1.2).2 (by omega) (by omega) (den_nz a)).mono ?_
    clear k6 k7 k8 k9
    rintro e w9 ⟨sq, Aq, nq, cq, sr, Ar, nr, cr, rfl, hq, hr, hb⟩
    replace hE := hE.step hb
    clear hb
    replace hE := (hE.wv hq).wv hr
    go_upto_region 4 with (fail)
    have hl10a : w.heap.size < w9.heap.size := (hE.here.1.1.1.2).lt
    have hl10b : w.heap.size + 1 < w9.heap.size := (hE.here.1.1.2).lt
    replace hE := (hE.blk 24 #[.bool sq, .slice Aq nq cq] (g := w9.heap.size) rfl).blk 24 #[.bool sr, .slice Ar nr cr] (g := w9.heap.size + 1) (by simp)
    generalize (w9.alloc (.cells #[.bool sq, .slice Aq nq cq] 24)).alloc (.cells #[.bool sr, .slice Ar nr cr] 24) = X10 at hE ⊢
    generalize w9.heap.size = g10 at hE hl10a hl10b ⊢
    have hz : 0 < nr := by rw [hr.len]; exact (ln_pos b16_two).2 (by omega)
    have t1 : decide (0 < (nr : Int)) = true := decide_eq_true (by omega)
    have t2 : decide (0 < nr) = true := decide_eq_true hz
    have lq : nq ≤ 513 := by rw [hq.len]; exact fdiv_len (fv_lens ha la).1 (den_nz a)
    have lq2 : ln b16 (a.num.fdiv (a.den : Int)).natAbs ≤ 513 := by rw [← hq.len]; exact lq
    clear hq hr
    obtain ⟨k11, k12⟩ := (hE.here.1.2).c2
    obtain ⟨k13, k14⟩ := (hE.here.2).c2
    go_upto_region 5 with (fail)
    clear k11 k12 k13 k14
    replace hE := hE.drew
    refine wp_region_held_drew (S := fun w' => True) (by kernel_rfl) (trivial) (fun hHeld => ?_)
    refine wpAnyH_ready (rs := [0, 1]) (by kernel_rfl) (by simp) (AllReadyH.cons rfl (fun K hK => ?_) (AllReadyH.cons rfl (fun K hK => ?_) (AllReadyH.nil)))
    · skip
      obtain ⟨k15, k16⟩ := (hE.here.1.2).c2
      go_simp
      clear k15 k16
      refine hK.out _ _ (trivial) (fun hHeld => ?_)
      clear hK K
      try simp only [Act.put, List.setIfInBounds_toArray, List.set_cons_zero, List.set_cons_succ, List.getElem_toArray, List.getElem_cons_succ, List.getElem_cons_zero]
      refine wpAnyH_ready (rs := [1]) (by kernel_rfl) (by simp) (AllReadyH.cons rfl (fun K hK => ?_) (AllReadyH.nil))
      go_simp
      have hc := fromInt_v 1 X10.drew (by decide) (by decide)
      refine hc.mono ?_
      clear hc
      rintro e w17 ⟨so, Ao, no, co, rfl, ho, hb⟩
      replace hE := hE.step hb
      clear hb
      replace hE := hE.wv ho
      clear ho
      go_wp2_with fail
      refine hK.out _ _ (trivial) (fun hHeld => ?_)
      clear hK K
      try simp only [Act.put, List.setIfInBounds_toArray, List.set_cons_zero, List.set_cons_succ, List.getElem_toArray, List.getElem_cons_succ, List.getElem_cons_zero]
      refine wpAnyH_ready (rs := [2]) (by kernel_rfl) (by simp) (AllReadyH.cons rfl (fun K hK => ?_) (AllReadyH.nil))
      go_simp
      have lo : no ≤ 4 := small_len (hE.here.2) (by decide) (by decide)
      have hc := fplus_v (ca := cq) (cb := co) hE.here.1.1.1.1.2 hE.here.2 (Nat.le_trans lq (by decide)) (Nat.le_trans lo (by decide)) (Nat.le_trans (ln_addZ (m := 513) lq2 (by decide)) (by decide))
      refine hc.mono ?_
      clear hc
      rintro e w18 ⟨sz, Az, nz, cz, rfl, hz, hb⟩
      replace hE := hE.step hb
      clear hb
      replace hE := hE.wv hz
      clear hz
      go_wp2_with fail
      refine hK.out _ _ (trivial) (fun hHeld => ?_)
      clear hK K
      try simp only [Act.put, List.setIfInBounds_toArray, List.set_cons_zero, List.set_cons_succ, List.getElem_toArray, List.getElem_cons_succ, List.getElem_cons_zero]
      refine wpAnyH_ready (rs := [3]) (by kernel_rfl) (by simp) (AllReadyH.cons rfl (fun K hK => ?_) (AllReadyH.nil))
      have hgl19 : w.heap.size ≤ g10 := by omega
      obtain ⟨x19_0, x19_1⟩ := (hE.here.1.1.1.2).c2
      have f19_0 := (hE.here.1.1.1.2).frozen 0
      have f19_1 := (hE.here.1.1.1.2).frozen 1
      replace hE := ((((((((((Env.again (bel2 hE.bel hgl19 (.bool sz) (.slice Az nz cz))).fv ((hE.here.1.1.1.1.1.1.1.1.2).sep2 hE.here.1.1.1.2 rfl (.bool sz) (.slice Az nz cz) rfl)).blkI ((hE.here.1.1.1.1.1.1.1.2).far2 (R := g10) (by omega) (.bool sz) (.slice Az nz cz))).blkI ((hE.here.1.1.1.1.1.1.2).far2 (R := g10) (by omega) (.bool sz) (.slice Az nz cz))).wv ((hE.here.1.1.1.1.1.2).sep2 hE.here.1.1.1.2 rfl (.bool sz) (.slice Az nz cz) rfl)).wv ((hE.here.1.1.1.1.2).sep2 hE.here.1.1.1.2 rfl (.bool sz) (.slice Az nz cz) rfl)).blkI ((hE.here.1.1.1.2).s2 (.bool sz) (.slice Az nz cz))).blkI ((hE.here.1.1.2).far2 (R := g10) (by omega) (.bool sz) (.slice Az nz cz))).wv ((hE.here.1.2).sep2 hE.here.1.1.1.2 rfl (.bool sz) (.slice Az nz cz) rfl)).wv ((hE.here.2).sep2 hE.here.1.1.1.2 rfl (.bool sz) (.slice Az nz cz) rfl))
      go_simp
      clear x19_0 x19_1 f19_0 f19_1 hgl19
      generalize ((w18.setCell ⟨g10, 0, none⟩ (.bool sz)).setCell ⟨g10, 1, none⟩ (.slice Az nz cz)) = W19 at hE ⊢
      refine hK.out _ _ (trivial) (fun hHeld => ?_)
      clear hK K
      try simp only [Act.put, List.setIfInBounds_toArray, List.set_cons_zero, List.set_cons_succ, List.getElem_toArray, List.getElem_cons_succ, List.getElem_cons_zero]
      refine wpAnyH_done (by kernel_rfl) ?_ _
      go_upto_region 6 with (fail)
      obtain ⟨k20, k21⟩ := (hE.here.1.1.1.2).c2
      have hRl : w.heap.size ≤ w.heap.size + 1 := by omega
      obtain ⟨WW, hWW, hB, hV, hBel⟩ := ret_whole hE hE.here.1.1.1.1.1.1.2 hRl hE.here.2 cz
      obtain ⟨x0, x1⟩ := (hE.here.1.1.1.1.1.1.2).c2
      have fz := fun i => (hE.here.1.1.1.1.1.1.2).frozen i
      have fz0 := fz 0
      have fz1 := fz 1
      clear fz
      have HWW := Lib.hid hWW
      clear hWW
      go_wp2_with fail
      clear x0 x1
      rw [← HWW.out]
      obtain ⟨y0, y1⟩ := hB.c2
      refine bodyPost_ret (v := .tuple #[.agg #[.bool sz, .slice Az nz cz], .int .i64 0]) (by simp [results, Tryz.results49, go_sem, y0, y1]) rfl ?_
      exact ⟨sz, Az, nz, cz, rfl, hV, hBel⟩
    · skip
      go_simp
      have hc := fromInt_v 1 X10.drew (by decide) (by decide)
      refine hc.mono ?_
      clear hc
      rintro e w22 ⟨so, Ao, no, co, rfl, ho, hb⟩
      replace hE := hE.step hb
      clear hb
      replace hE := hE.wv ho
      clear ho
      go_wp2_with fail
      refine hK.out _ _ (trivial) (fun hHeld => ?_)
      clear hK K
      try simp only [Act.put, List.setIfInBounds_toArray, List.set_cons_zero, List.set_cons_succ, List.getElem_toArray, List.getElem_cons_succ, List.getElem_cons_zero]
      refine wpAnyH_ready (rs := [0]) (by kernel_rfl) (by simp) (AllReadyH.cons rfl (fun K hK => ?_) (AllReadyH.nil))
      obtain ⟨k23, k24⟩ := (hE.here.1.1.2).c2
      go_simp
      clear k23 k24
      refine hK.out _ _ (trivial) (fun hHeld => ?_)
      clear hK K
      try simp only [Act.put, List.setIfInBounds_toArray, List.set_cons_zero, List.set_cons_succ, List.getElem_toArray, List.getElem_cons_succ, List.getElem_cons_zero]
      refine wpAnyH_ready (rs := [2]) (by kernel_rfl) (by simp) (AllReadyH.cons rfl (fun K hK => ?_) (AllReadyH.nil))
      go_simp
      have lo : no ≤ 4 := small_len (hE.here.2) (by decide) (by decide)
      have hc := fplus_v (ca := cq) (cb := co) hE.here.1.1.1.1.2 hE.here.2 (Nat.le_trans lq (by decide)) (Nat.le_trans lo (by decide)) (Nat.le_trans (ln_addZ (m := 513) lq2 (by decide)) (by decide))
      refine hc.mono ?_
      clear hc
      rintro e w25 ⟨sz, Az, nz, cz, rfl, hz, hb⟩
      replace hE := hE.step hb
      clear hb
      replace hE := hE.wv hz
      clear hz
      go_wp2_with fail
      refine hK.out _ _ (trivial) (fun hHeld => ?_)
      clear hK K
      try simp only [Act.put, List.setIfInBounds_toArray, List.set_cons_zero, List.set_cons_succ, List.getElem_toArray, List.getElem_cons_succ, List.getElem_cons_zero]
      refine wpAnyH_ready (rs := [3]) (by kernel_rfl) (by simp) (AllReadyH.cons rfl (fun K hK => ?_) (AllReadyH.nil))
      have hgl26 : w.heap.size ≤ g10 := by omega
      obtain ⟨x26_0, x26_1⟩ := (hE.here.1.1.1.2).c2
      have f26_0 := (hE.here.1.1.1.2).frozen 0
      have f26_1 := (hE.here.1.1.1.2).frozen 1
      replace hE := ((((((((((Env.again (bel2 hE.bel hgl26 (.bool sz) (.slice Az nz cz))).fv ((hE.here.1.1.1.1.1.1.1.1.2).sep2 hE.here.1.1.1.2 rfl (.bool sz) (.slice Az nz cz) rfl)).blkI ((hE.here.1.1.1.1.1.1.1.2).far2 (R := g10) (by omega) (.bool sz) (.slice Az nz cz))).blkI ((hE.here.1.1.1.1.1.1.2).far2 (R := g10) (by omega) (.bool sz) (.slice Az nz cz))).wv ((hE.here.1.1.1.1.1.2).sep2 hE.here.1.1.1.2 rfl (.bool sz) (.slice Az nz cz) rfl)).wv ((hE.here.1.1.1.1.2).sep2 hE.here.1.1.1.2 rfl (.bool sz) (.slice Az nz cz) rfl)).blkI ((hE.here.1.1.1.2).s2 (.bool sz) (.slice Az nz cz))).blkI ((hE.here.1.1.2).far2 (R := g10) (by omega) (.bool sz) (.slice Az nz cz))).wv ((hE.here.1.2).sep2 hE.here.1.1.1.2 rfl (.bool sz) (.slice Az nz cz) rfl)).wv ((hE.here.2).sep2 hE.here.1.1.1.2 rfl (.bool sz) (.slice Az nz cz) rfl))
      go_simp
      clear x26_0 x26_1 f26_0 f26_1 hgl26
      generalize ((w25.setCell ⟨g10, 0, none⟩ (.bool sz)).setCell ⟨g10, 1, none⟩ (.slice Az nz cz)) = W26 at hE ⊢
      refine hK.out _ _ (trivial) (fun hHeld => ?_)
      clear hK K
      try simp only [Act.put, List.setIfInBounds_toArray, List.set_cons_zero, List.set_cons_succ, List.getElem_toArray, List.getElem_cons_succ, List.getElem_cons_zero]
      refine wpAnyH_done (by kernel_rfl) ?_ _
      go_upto_region 6 with (fail)
      obtain ⟨k27, k28⟩ := (hE.here.1.1.1.2).c2
      have hRl : w.heap.size ≤ w.heap.size + 1 := by omega
      obtain ⟨WW, hWW, hB, hV, hBel⟩ := ret_whole hE hE.here.1.1.1.1.1.1.2 hRl hE.here.2 cz
      obtain ⟨x0, x1⟩ := (hE.here.1.1.1.1.1.1.2).c2
      have fz := fun i => (hE.here.1.1.1.1.1.1.2).frozen i
      have fz0 := fz 0
      have fz1 := fz 1
      clear fz
      have HWW := Lib.hid hWW
      clear hWW
      go_wp2_with fail
      clear x0 x1
      rw [← HWW.out]
      obtain ⟨y0, y1⟩ := hB.c2
      refine bodyPost_ret (v := .tuple #[.agg #[.bool sz, .slice Az nz cz], .int .i64 0]) (by simp [results, Tryz.results49, go_sem, y0, y1]) rfl ?_
      exact ⟨sz, Az, nz, cz, rfl, hV, hBel⟩
end Go.Proofs.YtifikcemcflgjaaGreat
