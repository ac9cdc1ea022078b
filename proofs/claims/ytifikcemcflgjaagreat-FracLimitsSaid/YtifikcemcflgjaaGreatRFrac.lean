/-
  The walks of the reference's arithmetic of fractions.
-/
import Derived.Test.YtifikcemcflgjaaGreatK1
import Derived.Test.YtifikcemcflgjaaGreatK7
import Derived.Test.YtifikcemcflgjaaGreatK6
import Derived.Deep.CutRange
namespace Go.Proofs.YtifikcemcflgjaaGreat
open Go.RowKit

theorem rproduct_w {a b : Int} {s t : Bool} {A B : Option Addr} {n m c d : Nat} {w : World} (ha : WV w a s A n) (hv : WV w b t B m) (la : n ≤ 1000000) (lb : m ≤ 1000000) :
    Calls Tryz.prog 69 #[.agg #[.bool s, .slice A n c], .agg #[.bool t, .slice B m d]] w (WR (a * b) w) :=
  (rproduct_any ha hv la lb).mono fun _ _ ⟨s, A, n, c, he, hv, _, hb⟩ => ⟨s, A, n, c, he, hv, hb⟩
theorem rsum_w {a b : Int} {s t : Bool} {A B : Option Addr} {n m c d : Nat} {w : World} (ha : WV w a s A n) (hv : WV w b t B m) (la : n ≤ 1000000) (lb : m ≤ 1000000) :
    Calls Tryz.prog 76 #[.agg #[.bool s, .slice A n c], .agg #[.bool t, .slice B m d]] w (WR (a + b) w) :=
  (rsum_any ha hv la lb).mono fun _ _ ⟨s, A, n, c, he, hv, _, hb⟩ => ⟨s, A, n, c, he, hv, hb⟩
set_option linter.unusedSimpArgs false in
set_option maxRecDepth 100000 in
set_option maxHeartbeats 2000000 in
theorem rffromInt_v (z : Int) (w : World) (h1 : -9223372036854775808 ≤ z) (h2 : z ≤ 9223372036854775807) :
    Calls Tryz.prog 71 #[.int .i64 z] w (FR (z : Rat) w) := by
  have hE := Env.start w
  have hE := hE.blk 26 #[.bool false, .slice none 0 0, .bool false, .slice none 0 0] (g := w.heap.size) rfl
  obtain ⟨W0, hW0⟩ : ∃ W0, W0 = (w.alloc (.cells #[.bool false, .slice none 0 0, .bool false, .slice none 0 0] 26)) := ⟨_, rfl⟩
  rw [← hW0] at hE
  have HW0 := Lib.hid hW0
  clear hW0
  go_enter Tryz.func71, Tryz.ntmps71
  go_upto_region 1 with (fail)
  rw [← HW0.out]
  go_wp2_with fail
  have hc := rfromInt_v z W0 h1 h2
  refine hc.mono ?_
  clear hc
  rintro e w1 ⟨sn, An, nn, cn, rfl, hn, hb⟩
  replace hE := hE.step hb
  clear hb
  replace hE := hE.wv hn
  clear hn
  go_wp2_with fail
  have hc := rfromInt_v 1 w1 (by decide) (by decide)
  refine hc.mono ?_
  clear hc
  rintro e w2 ⟨sd, Ad, nd, cd, rfl, hd, hb⟩
  replace hE := hE.step hb
  clear hb
  replace hE := hE.wv hd
  clear hd
  have hfv : FV w2 (z : Rat) sn An nn sd Ad nd := ⟨hE.here.1.2, hE.here.2⟩
  replace hE := hE.fv hfv
  clear hfv
  have hRl : w.heap.size ≤ w.heap.size := by omega
  obtain ⟨WW, hWW, hB, hV, hBel⟩ := ret_frac hE hE.here.1.1.1.2 hRl hE.here.2 cn cd
  obtain ⟨x0, x1, x2, x3⟩ := (hE.here.1.1.1.2).c4
  obtain ⟨fz0, fz1, fz2, fz3⟩ := hE.here.1.1.1.2.f4
  have HWW := Lib.hid hWW
  clear hWW
  go_wp2_with fail
  rw [← HWW.out]
  obtain ⟨y0, y1, y2, y3⟩ := hB.c4
  refine bodyPost_ret (v := .agg #[.bool sn, .slice An nn cn, .bool sd, .slice Ad nd cd]) (by simp [results, Tryz.results71, go_sem, y0, y1, y2, y3]) rfl ?_
  exact ⟨sn, An, nn, cn, sd, Ad, nd, cd, rfl, hV, hBel⟩
set_option linter.unusedSimpArgs false in
set_option maxRecDepth 100000 in
set_option maxHeartbeats 2000000 in
theorem rtimes_v {a b : Rat} {sa ta sb tb : Bool} {Aa Ba Ab Bb : Option Addr} {na ca ma da nb cb mb db : Nat} {w : World} (ha : FV w a sa Aa na ta Ba ma) (hb : FV w b sb Ab nb tb Bb mb) (la : fl a ≤ 100000) (lb : fl b ≤ 100000) :
    Calls Tryz.prog 73 #[.agg #[.bool sa, .slice Aa na ca, .bool ta, .slice Ba ma da], .agg #[.bool sb, .slice Ab nb cb, .bool tb, .slice Bb mb db]] w (FR (a * b) w) := by
  have hE := ((((Env.start w).fv ha).fv hb).blk 26 #[.bool sa, .slice Aa na ca, .bool ta, .slice Ba ma da] (g := w.heap.size) rfl).blk 26 #[.bool sb, .slice Ab nb cb, .bool tb, .slice Bb mb db] (g := w.heap.size + 1) (by simp)
  have hE := hE.blk 26 #[.bool false, .slice none 0 0, .bool false, .slice none 0 0] (g := w.heap.size + 1 + 1) (by simp)
  obtain ⟨W0, hW0⟩ : ∃ W0, W0 = (((w.alloc (.cells #[.bool sa, .slice Aa na ca, .bool ta, .slice Ba ma da] 26)).alloc (.cells #[.bool sb, .slice Ab nb cb, .bool tb, .slice Bb mb db] 26)).alloc (.cells #[.bool false, .slice none 0 0, .bool false, .slice none 0 0] 26)) := ⟨_, rfl⟩
  rw [← hW0] at hE
  have HW0 := Lib.hid hW0
  clear hW0
  go_enter Tryz.func73, Tryz.ntmps73
  go_upto_region 1 with (fail)
  rw [← HW0.out]
  obtain ⟨ha1, ha2⟩ := (hE.here.1.1.1.1.2).ln la
  obtain ⟨hb1, hb2⟩ := (hE.here.1.1.1.2).ln lb
  obtain ⟨qa1, qa2⟩ := fv_lens (hE.here.1.1.1.1.2) la
  obtain ⟨qb1, qb2⟩ := fv_lens (hE.here.1.1.1.2) lb
  replace hE := hE.drew
  refine wp_region_held_drew (S := fun w' => w'.cell? ⟨w.heap.size, 0, none⟩ = some (.bool sa) ∧ w'.cell? ⟨w.heap.size, 1, none⟩ = some (.slice Aa na ca) ∧ w'.cell? ⟨w.heap.size, 2, none⟩ = some (.bool ta) ∧ w'.cell? ⟨w.heap.size, 3, none⟩ = some (.slice Ba ma da) ∧ w'.cell? ⟨w.heap.size + 1, 0, none⟩ = some (.bool sb) ∧ w'.cell? ⟨w.heap.size + 1, 1, none⟩ = some (.slice Ab nb cb) ∧ w'.cell? ⟨w.heap.size + 1, 2, none⟩ = some (.bool tb) ∧ w'.cell? ⟨w.heap.size + 1, 3, none⟩ = some (.slice Bb mb db)) (by kernel_rfl) (hE.here.1.1.2.j4 hE.here.1.2.c4) (fun hHeld => ?_)
  refine tk 0 ?_
  try simp only [PL]
  refine tk 1 ?_
  try simp only [PL]
  refine tk 2 ?_
  try simp only [PL]
  refine tk 3 ?_
  try simp only [PL]
  refine tk 5 ?_
  try simp only [PL]
  refine tk 6 ?_
  try simp only [PL]
  refine tk 7 ?_
  try simp only [PL]
  refine tk 8 ?_
  try simp only [PL]
  refine r1 4 (fun K hK => ?_)
  go_simp
  have hc := rproduct_w (c := ca) (d := cb) (hE.here.1.1.1.1.2).1 (hE.here.1.1.1.2).1 (Nat.le_trans ha1 (by decide)) (Nat.le_trans hb1 (by decide))
  refine hc.mono ?_
  clear hc
  rintro e w1 ⟨sx, Ax, nx, cx, rfl, hx, hb⟩
  replace hE := hE.step hb
  clear hb
  replace hE := hE.wv hx
  clear hx
  have lx : nx ≤ 200000 := by rw [(hE.here.2).len]; exact ln_mulZ (m := 100000) (n := 100000) qa1 qb1
  go_wp2_with fail
  refine hK.out _ _ (hE.here.1.1.1.2.j4 hE.here.1.1.2.c4) (fun hHeld => ?_)
  clear hK K
  try simp only [PL]
  refine r1 9 (fun K hK => ?_)
  go_simp
  have hc := rproduct_w (c := da) (d := db) (hE.here.1.1.1.1.1.2).2 (hE.here.1.1.1.1.2).2 (Nat.le_trans ha2 (by decide)) (Nat.le_trans hb2 (by decide))
  refine hc.mono ?_
  clear hc
  rintro e w2 ⟨su, Au, nu, cu, rfl, hu, hb⟩
  replace hE := hE.step hb
  clear hb
  replace hE := hE.wv hu
  clear hu
  have lu : nu ≤ 200000 := by rw [(hE.here.2).len]; exact ln_mulZ (m := 100000) (n := 100000) qa2 qb2
  go_wp2_with fail
  refine hK.out _ _ (hE.here.1.1.1.1.2.j4 hE.here.1.1.1.2.c4) (fun hHeld => ?_)
  clear hK K
  try simp only [PL]
  refine r1 10 (fun K hK => ?_)
  go_simp
  have hc := rlowest_v (ca := cx) (cb := cu) hE.here.1.2 hE.here.2 (Nat.le_trans lx (by decide)) (Nat.le_trans lu (by decide)) (den_ne a b)
  rw [mul_low a b] at hc
  refine hc.mono ?_
  clear hc
  rintro e w3 ⟨sr, Ar, nr, cr, tr, Br, mr, dr, rfl, hf, hb⟩
  replace hE := hE.step hb
  clear hb
  replace hE := hE.fv hf
  clear hf
  go_wp2_with fail
  refine hK.out _ _ (hE.here.1.1.1.1.1.2.j4 hE.here.1.1.1.1.2.c4) (fun hHeld => ?_)
  clear hK K
  try simp only [PL]
  refine r1 11 (fun K hK => ?_)
  have hRl : w.heap.size ≤ w.heap.size + 1 + 1 := by omega
  obtain ⟨WW, hWW, hB, hV, hBel⟩ := ret_frac hE hE.here.1.1.1.2 hRl hE.here.2 cr dr
  obtain ⟨x0, x1, x2, x3⟩ := (hE.here.1.1.1.2).c4
  obtain ⟨fz0, fz1, fz2, fz3⟩ := hE.here.1.1.1.2.f4
  have HWW := Lib.hid hWW
  clear hWW
  have q4 := (hE.here.1.1.1.1.1.2).far4 (R := w.heap.size + 1 + 1) (by omega) (.bool sr) (.slice Ar nr cr) (.bool tr) (.slice Br mr dr)
  rw [← HWW.out] at q4
  have q5 := (hE.here.1.1.1.1.2).far4 (R := w.heap.size + 1 + 1) (by omega) (.bool sr) (.slice Ar nr cr) (.bool tr) (.slice Br mr dr)
  rw [← HWW.out] at q5
  go_simp
  rw [← HWW.out]
  refine hK.out _ _ (q4.j4 q5.c4) (fun hHeld => ?_)
  clear hK K
  try simp only [PL]
  refine wpAnyH_done (by kernel_rfl) ?_ _
  go_wp2_with fail
  obtain ⟨y0, y1, y2, y3⟩ := hB.c4
  refine bodyPost_ret (v := .agg #[.bool sr, .slice Ar nr cr, .bool tr, .slice Br mr dr]) (by simp [results, Tryz.results73, go_sem, y0, y1, y2, y3]) rfl ?_
  exact ⟨sr, Ar, nr, cr, tr, Br, mr, dr, rfl, hV, hBel⟩
set_option linter.unusedSimpArgs false in
set_option maxRecDepth 100000 in
set_option maxHeartbeats 4000000 in
theorem rplus_v {a b : Rat} {sa ta sb tb : Bool} {Aa Ba Ab Bb : Option Addr} {na ca ma da nb cb mb db : Nat} {w : World} (ha : FV w a sa Aa na ta Ba ma) (hb : FV w b sb Ab nb tb Bb mb) (la : fl a ≤ 100000) (lb : fl b ≤ 100000) :
    Calls Tryz.prog 22 #[.agg #[.bool sa, .slice Aa na ca, .bool ta, .slice Ba ma da], .agg #[.bool sb, .slice Ab nb cb, .bool tb, .slice Bb mb db]] w (FR (a + b) w) := by
  have hE := ((((Env.start w).fv ha).fv hb).blk 26 #[.bool sa, .slice Aa na ca, .bool ta, .slice Ba ma da] (g := w.heap.size) rfl).blk 26 #[.bool sb, .slice Ab nb cb, .bool tb, .slice Bb mb db] (g := w.heap.size + 1) (by simp)
  have hE := hE.blk 26 #[.bool false, .slice none 0 0, .bool false, .slice none 0 0] (g := w.heap.size + 1 + 1) (by simp)
  obtain ⟨W0, hW0⟩ : ∃ W0, W0 = (((w.alloc (.cells #[.bool sa, .slice Aa na ca, .bool ta, .slice Ba ma da] 26)).alloc (.cells #[.bool sb, .slice Ab nb cb, .bool tb, .slice Bb mb db] 26)).alloc (.cells #[.bool false, .slice none 0 0, .bool false, .slice none 0 0] 26)) := ⟨_, rfl⟩
  rw [← hW0] at hE
  have HW0 := Lib.hid hW0
  clear hW0
  go_enter Tryz.func22, Tryz.ntmps22
  go_upto_region 1 with (fail)
  rw [← HW0.out]
  obtain ⟨ha1, ha2⟩ := (hE.here.1.1.1.1.2).ln la
  obtain ⟨hb1, hb2⟩ := (hE.here.1.1.1.2).ln lb
  obtain ⟨qa1, qa2⟩ := fv_lens (hE.here.1.1.1.1.2) la
  obtain ⟨qb1, qb2⟩ := fv_lens (hE.here.1.1.1.2) lb
  go_cut [5] from 6 to 16 (fun p wx => ∃ G1 sz Az nz cz, p = .pointer (some ⟨G1, 0, none⟩) ∧ w.heap.size + 1 + 1 < G1 ∧ Env w (fun V => (((((((True ∧ FV V a sa Aa na ta Ba ma) ∧ FV V b sb Ab nb tb Bb mb) ∧ Blk 26 (w.heap.size) #[.bool sa, .slice Aa na ca, .bool ta, .slice Ba ma da] V) ∧ Blk 26 (w.heap.size + 1) #[.bool sb, .slice Ab nb cb, .bool tb, .slice Bb mb db] V) ∧ Blk 26 (w.heap.size + 1 + 1) #[.bool false, .slice none 0 0, .bool false, .slice none 0 0] V) ∧ WV V (a.num * (b.den : Int) + b.num * (a.den : Int)) sz Az nz) ∧ Blk 24 (G1) #[.bool sz, .slice Az nz cz] V)) wx)
  case first =>
    replace hE := hE.drew
    refine wp_region_held_drew (S := fun w' => w'.cell? ⟨w.heap.size, 0, none⟩ = some (.bool sa) ∧ w'.cell? ⟨w.heap.size, 1, none⟩ = some (.slice Aa na ca) ∧ w'.cell? ⟨w.heap.size, 2, none⟩ = some (.bool ta) ∧ w'.cell? ⟨w.heap.size, 3, none⟩ = some (.slice Ba ma da) ∧ w'.cell? ⟨w.heap.size + 1, 0, none⟩ = some (.bool sb) ∧ w'.cell? ⟨w.heap.size + 1, 1, none⟩ = some (.slice Ab nb cb) ∧ w'.cell? ⟨w.heap.size + 1, 2, none⟩ = some (.bool tb) ∧ w'.cell? ⟨w.heap.size + 1, 3, none⟩ = some (.slice Bb mb db)) (by kernel_rfl) (hE.here.1.1.2.j4 hE.here.1.2.c4) (fun hHeld => ?_)
    generalize W0.drew = wd at *
    refine tk 0 ?_
    try simp only [PL]
    refine tk 1 ?_
    try simp only [PL]
    refine tk 2 ?_
    try simp only [PL]
    refine tk 3 ?_
    try simp only [PL]
    refine tk 5 ?_
    try simp only [PL]
    refine tk 6 ?_
    try simp only [PL]
    refine tk 7 ?_
    try simp only [PL]
    refine tk 8 ?_
    try simp only [PL]
    refine wpAnyH_ready (rs := [4, 11]) (by kernel_rfl) (by simp) (AllReadyH.cons rfl (fun K hK => ?_) (AllReadyH.cons rfl (fun K hK => ?_) (AllReadyH.nil)))
    · skip
      go_simp
      have hc := rproduct_w (c := ca) (d := db) (hE.here.1.1.1.1.2).1 (hE.here.1.1.1.2).2 (Nat.le_trans ha1 (by decide)) (Nat.le_trans hb2 (by decide))
      refine hc.mono ?_
      clear hc
      rintro e w1 ⟨sx, Ax, nx, cx, rfl, hx, hb⟩
      replace hE := hE.step hb
      clear hb
      replace hE := hE.wv hx
      clear hx
      have lx : nx ≤ 200000 := by rw [(hE.here.2).len]; exact ln_mulZ (m := 100000) (n := 100000) qa1 qb2
      go_wp2_with fail
      refine hK.out _ _ (hE.here.1.1.1.2.j4 hE.here.1.1.2.c4) (fun hHeld => ?_)
      clear hK K
      try simp only [PL]
      refine wpAnyH_ready (rs := [9, 11]) (by kernel_rfl) (by simp) (AllReadyH.cons rfl (fun K hK => ?_) (AllReadyH.cons rfl (fun K hK => ?_) (AllReadyH.nil)))
      · skip
        go_simp
        have hc := rproduct_w (c := cb) (d := da) (hE.here.1.1.1.1.2).1 (hE.here.1.1.1.1.1.2).2 (Nat.le_trans hb1 (by decide)) (Nat.le_trans ha2 (by decide))
        refine hc.mono ?_
        clear hc
        rintro e w2 ⟨sy, Ay, ny, cy, rfl, hy, hb⟩
        replace hE := hE.step hb
        clear hb
        replace hE := hE.wv hy
        clear hy
        have ly : ny ≤ 200000 := by rw [(hE.here.2).len]; exact ln_mulZ (m := 100000) (n := 100000) qb1 qa2
        go_wp2_with fail
        refine hK.out _ _ (hE.here.1.1.1.1.2.j4 hE.here.1.1.1.2.c4) (fun hHeld => ?_)
        clear hK K
        try simp only [PL]
        refine wpAnyH_ready (rs := [10, 11]) (by kernel_rfl) (by simp) (AllReadyH.cons rfl (fun K hK => ?_) (AllReadyH.cons rfl (fun K hK => ?_) (AllReadyH.nil)))
        · skip
          go_simp
          have hc := rsum_w (c := cx) (d := cy) hE.here.1.2 hE.here.2 (Nat.le_trans lx (by decide)) (Nat.le_trans ly (by decide))
          refine hc.mono ?_
          clear hc
          rintro e w3 ⟨sz, Az, nz, cz, rfl, hz, hb⟩
          replace hE := hE.step hb
          clear hb
          replace hE := hE.wv hz
          clear hz
          have lz : nz ≤ 200001 := by rw [(hE.here.2).len]; exact ln_addZ (m := 200000) (by rw [← (hE.here.1.1.2).len]; exact lx) (by rw [← (hE.here.1.2).len]; exact ly)
          go_wp2_with fail
          refine hK.out _ _ (hE.here.1.1.1.1.1.2.j4 hE.here.1.1.1.1.2.c4) (fun hHeld => ?_)
          clear hK K
          try simp only [PL]
          refine r1 11 (fun K hK => ?_)
          go_simp
          obtain ⟨g4, hg4⟩ : ∃ g4, g4 = w3.heap.size := ⟨_, rfl⟩
          have hl4_2 : w.heap.size < g4 := by rw [hg4]; exact (hE.here.1.1.1.1.1.2).lt
          have hl4_3 : w.heap.size + 1 < g4 := by rw [hg4]; exact (hE.here.1.1.1.1.2).lt
          have hl4_4 : w.heap.size + 1 + 1 < g4 := by rw [hg4]; exact (hE.here.1.1.1.2).lt
          replace hE := hE.blk 24 #[.bool false, .slice none 0 0] (g := g4) hg4.symm
          generalize w3.alloc (.cells #[.bool false, .slice none 0 0] 24) = W4 at hE ⊢
          rw [← hg4]
          clear hg4
          refine hK.out _ _ (hE.here.1.1.1.1.1.1.2.j4 hE.here.1.1.1.1.1.2.c4) (fun hHeld => ?_)
          clear hK K
          try simp only [PL]
          refine r1 12 (fun K hK => ?_)
          have hgl5 : w.heap.size ≤ g4 := by omega
          obtain ⟨x5_0, x5_1⟩ := (hE.here.2).c2
          obtain ⟨f5_0, f5_1⟩ := hE.here.2.f2
          replace hE := ((((((((((Env.again (bel2 hE.bel hgl5 (.bool sz) (.slice Az nz cz))).fv ((hE.here.1.1.1.1.1.1.1.1.2).sep2 hE.here.2 rfl (.bool sz) (.slice Az nz cz) rfl)).fv ((hE.here.1.1.1.1.1.1.1.2).sep2 hE.here.2 rfl (.bool sz) (.slice Az nz cz) rfl)).blkI ((hE.here.1.1.1.1.1.1.2).far2 (R := g4) (by omega) (.bool sz) (.slice Az nz cz))).blkI ((hE.here.1.1.1.1.1.2).far2 (R := g4) (by omega) (.bool sz) (.slice Az nz cz))).blkI ((hE.here.1.1.1.1.2).far2 (R := g4) (by omega) (.bool sz) (.slice Az nz cz))).wv ((hE.here.1.1.1.2).sep2 hE.here.2 rfl (.bool sz) (.slice Az nz cz) rfl)).wv ((hE.here.1.1.2).sep2 hE.here.2 rfl (.bool sz) (.slice Az nz cz) rfl)).wv ((hE.here.1.2).sep2 hE.here.2 rfl (.bool sz) (.slice Az nz cz) rfl)).blkI ((hE.here.2).s2 (.bool sz) (.slice Az nz cz)))
          go_simp
          clear x5_0 x5_1 f5_0 f5_1 hgl5
          generalize ((W4.setCell ⟨g4, 0, none⟩ (.bool sz)).setCell ⟨g4, 1, none⟩ (.slice Az nz cz)) = W5 at hE ⊢
          refine hK.out _ _ (hE.here.1.1.1.1.1.1.2.j4 hE.here.1.1.1.1.1.2.c4) (fun hHeld => ?_)
          clear hK K
          try simp only [PL]
          refine wpAnyH_done (by kernel_rfl) ?_ _
          go_wp2_with fail
          go_meet
          exact ⟨g4, sz, Az, nz, cz, rfl, by omega, ((((((((Env.again hE.bel).fv (hE.here.1.1.1.1.1.1.1.1.2)).fv (hE.here.1.1.1.1.1.1.1.2)).blkI (hE.here.1.1.1.1.1.1.2)).blkI (hE.here.1.1.1.1.1.2)).blkI (hE.here.1.1.1.1.2)).wv (hE.here.1.2)).blkI (hE.here.2))⟩
        · skip
          go_simp
          obtain ⟨g6, hg6⟩ : ∃ g6, g6 = w2.heap.size := ⟨_, rfl⟩
          have hl6_2 : w.heap.size < g6 := by rw [hg6]; exact (hE.here.1.1.1.1.2).lt
          have hl6_3 : w.heap.size + 1 < g6 := by rw [hg6]; exact (hE.here.1.1.1.2).lt
          have hl6_4 : w.heap.size + 1 + 1 < g6 := by rw [hg6]; exact (hE.here.1.1.2).lt
          replace hE := hE.blk 24 #[.bool false, .slice none 0 0] (g := g6) hg6.symm
          generalize w2.alloc (.cells #[.bool false, .slice none 0 0] 24) = W6 at hE ⊢
          rw [← hg6]
          clear hg6
          refine hK.out _ _ (hE.here.1.1.1.1.1.2.j4 hE.here.1.1.1.1.2.c4) (fun hHeld => ?_)
          clear hK K
          try simp only [PL]
          refine r1 10 (fun K hK => ?_)
          go_simp
          have hc := rsum_w (c := cx) (d := cy) hE.here.1.1.2 hE.here.1.2 (Nat.le_trans lx (by decide)) (Nat.le_trans ly (by decide))
          refine hc.mono ?_
          clear hc
          rintro e w7 ⟨sz, Az, nz, cz, rfl, hz, hb⟩
          replace hE := hE.step hb
          clear hb
          replace hE := hE.wv hz
          clear hz
          have lz : nz ≤ 200001 := by rw [(hE.here.2).len]; exact ln_addZ (m := 200000) (by rw [← (hE.here.1.1.1.2).len]; exact lx) (by rw [← (hE.here.1.1.2).len]; exact ly)
          go_wp2_with fail
          refine hK.out _ _ (hE.here.1.1.1.1.1.1.2.j4 hE.here.1.1.1.1.1.2.c4) (fun hHeld => ?_)
          clear hK K
          try simp only [PL]
          refine r1 12 (fun K hK => ?_)
          have hgl8 : w.heap.size ≤ g6 := by omega
          obtain ⟨x8_0, x8_1⟩ := (hE.here.1.2).c2
          obtain ⟨f8_0, f8_1⟩ := hE.here.1.2.f2
          replace hE := ((((((((((Env.again (bel2 hE.bel hgl8 (.bool sz) (.slice Az nz cz))).fv ((hE.here.1.1.1.1.1.1.1.1.2).sep2 hE.here.1.2 rfl (.bool sz) (.slice Az nz cz) rfl)).fv ((hE.here.1.1.1.1.1.1.1.2).sep2 hE.here.1.2 rfl (.bool sz) (.slice Az nz cz) rfl)).blkI ((hE.here.1.1.1.1.1.1.2).far2 (R := g6) (by omega) (.bool sz) (.slice Az nz cz))).blkI ((hE.here.1.1.1.1.1.2).far2 (R := g6) (by omega) (.bool sz) (.slice Az nz cz))).blkI ((hE.here.1.1.1.1.2).far2 (R := g6) (by omega) (.bool sz) (.slice Az nz cz))).wv ((hE.here.1.1.1.2).sep2 hE.here.1.2 rfl (.bool sz) (.slice Az nz cz) rfl)).wv ((hE.here.1.1.2).sep2 hE.here.1.2 rfl (.bool sz) (.slice Az nz cz) rfl)).blkI ((hE.here.1.2).s2 (.bool sz) (.slice Az nz cz))).wv ((hE.here.2).sep2 hE.here.1.2 rfl (.bool sz) (.slice Az nz cz) rfl))
          go_simp
          clear x8_0 x8_1 f8_0 f8_1 hgl8
          generalize ((w7.setCell ⟨g6, 0, none⟩ (.bool sz)).setCell ⟨g6, 1, none⟩ (.slice Az nz cz)) = W8 at hE ⊢
          refine hK.out _ _ (hE.here.1.1.1.1.1.1.2.j4 hE.here.1.1.1.1.1.2.c4) (fun hHeld => ?_)
          clear hK K
          try simp only [PL]
          refine wpAnyH_done (by kernel_rfl) ?_ _
          go_wp2_with fail
          go_meet
          exact ⟨g6, sz, Az, nz, cz, rfl, by omega, ((((((((Env.again hE.bel).fv (hE.here.1.1.1.1.1.1.1.1.2)).fv (hE.here.1.1.1.1.1.1.1.2)).blkI (hE.here.1.1.1.1.1.1.2)).blkI (hE.here.1.1.1.1.1.2)).blkI (hE.here.1.1.1.1.2)).wv (hE.here.2)).blkI (hE.here.1.2))⟩
      · skip
        go_simp
        obtain ⟨g9, hg9⟩ : ∃ g9, g9 = w1.heap.size := ⟨_, rfl⟩
        have hl9_2 : w.heap.size < g9 := by rw [hg9]; exact (hE.here.1.1.1.2).lt
        have hl9_3 : w.heap.size + 1 < g9 := by rw [hg9]; exact (hE.here.1.1.2).lt
        have hl9_4 : w.heap.size + 1 + 1 < g9 := by rw [hg9]; exact (hE.here.1.2).lt
        replace hE := hE.blk 24 #[.bool false, .slice none 0 0] (g := g9) hg9.symm
        generalize w1.alloc (.cells #[.bool false, .slice none 0 0] 24) = W9 at hE ⊢
        rw [← hg9]
        clear hg9
        refine hK.out _ _ (hE.here.1.1.1.1.2.j4 hE.here.1.1.1.2.c4) (fun hHeld => ?_)
        clear hK K
        try simp only [PL]
        refine r1 9 (fun K hK => ?_)
        go_simp
        have hc := rproduct_w (c := cb) (d := da) (hE.here.1.1.1.1.1.2).1 (hE.here.1.1.1.1.1.1.2).2 (Nat.le_trans hb1 (by decide)) (Nat.le_trans ha2 (by decide))
        refine hc.mono ?_
        clear hc
        rintro e w10 ⟨sy, Ay, ny, cy, rfl, hy, hb⟩
        replace hE := hE.step hb
        clear hb
        replace hE := hE.wv hy
        clear hy
        have ly : ny ≤ 200000 := by rw [(hE.here.2).len]; exact ln_mulZ (m := 100000) (n := 100000) qb1 qa2
        go_wp2_with fail
        refine hK.out _ _ (hE.here.1.1.1.1.1.2.j4 hE.here.1.1.1.1.2.c4) (fun hHeld => ?_)
        clear hK K
        try simp only [PL]
        refine r1 10 (fun K hK => ?_)
        go_simp
        have hc := rsum_w (c := cx) (d := cy) hE.here.1.1.2 hE.here.2 (Nat.le_trans lx (by decide)) (Nat.le_trans ly (by decide))
        refine hc.mono ?_
        clear hc
        rintro e w11 ⟨sz, Az, nz, cz, rfl, hz, hb⟩
        replace hE := hE.step hb
        clear hb
        replace hE := hE.wv hz
        clear hz
        have lz : nz ≤ 200001 := by rw [(hE.here.2).len]; exact ln_addZ (m := 200000) (by rw [← (hE.here.1.1.1.2).len]; exact lx) (by rw [← (hE.here.1.2).len]; exact ly)
        go_wp2_with fail
        refine hK.out _ _ (hE.here.1.1.1.1.1.1.2.j4 hE.here.1.1.1.1.1.2.c4) (fun hHeld => ?_)
        clear hK K
        try simp only [PL]
        refine r1 12 (fun K hK => ?_)
        have hgl12 : w.heap.size ≤ g9 := by omega
        obtain ⟨x12_0, x12_1⟩ := (hE.here.1.1.2).c2
        obtain ⟨f12_0, f12_1⟩ := hE.here.1.1.2.f2
        replace hE := ((((((((((Env.again (bel2 hE.bel hgl12 (.bool sz) (.slice Az nz cz))).fv ((hE.here.1.1.1.1.1.1.1.1.2).sep2 hE.here.1.1.2 rfl (.bool sz) (.slice Az nz cz) rfl)).fv ((hE.here.1.1.1.1.1.1.1.2).sep2 hE.here.1.1.2 rfl (.bool sz) (.slice Az nz cz) rfl)).blkI ((hE.here.1.1.1.1.1.1.2).far2 (R := g9) (by omega) (.bool sz) (.slice Az nz cz))).blkI ((hE.here.1.1.1.1.1.2).far2 (R := g9) (by omega) (.bool sz) (.slice Az nz cz))).blkI ((hE.here.1.1.1.1.2).far2 (R := g9) (by omega) (.bool sz) (.slice Az nz cz))).wv ((hE.here.1.1.1.2).sep2 hE.here.1.1.2 rfl (.bool sz) (.slice Az nz cz) rfl)).blkI ((hE.here.1.1.2).s2 (.bool sz) (.slice Az nz cz))).wv ((hE.here.1.2).sep2 hE.here.1.1.2 rfl (.bool sz) (.slice Az nz cz) rfl)).wv ((hE.here.2).sep2 hE.here.1.1.2 rfl (.bool sz) (.slice Az nz cz) rfl))
        go_simp
        clear x12_0 x12_1 f12_0 f12_1 hgl12
        generalize ((w11.setCell ⟨g9, 0, none⟩ (.bool sz)).setCell ⟨g9, 1, none⟩ (.slice Az nz cz)) = W12 at hE ⊢
        refine hK.out _ _ (hE.here.1.1.1.1.1.1.2.j4 hE.here.1.1.1.1.1.2.c4) (fun hHeld => ?_)
        clear hK K
        try simp only [PL]
        refine wpAnyH_done (by kernel_rfl) ?_ _
        go_wp2_with fail
        go_meet
        exact ⟨g9, sz, Az, nz, cz, rfl, by omega, ((((((((Env.again hE.bel).fv (hE.here.1.1.1.1.1.1.1.1.2)).fv (hE.here.1.1.1.1.1.1.1.2)).blkI (hE.here.1.1.1.1.1.1.2)).blkI (hE.here.1.1.1.1.1.2)).blkI (hE.here.1.1.1.1.2)).wv (hE.here.2)).blkI (hE.here.1.1.2))⟩
    · skip
      go_simp
      obtain ⟨g13, hg13⟩ : ∃ g13, g13 = wd.heap.size := ⟨_, rfl⟩
      have hl13_2 : w.heap.size < g13 := by rw [hg13]; exact (hE.here.1.1.2).lt
      have hl13_3 : w.heap.size + 1 < g13 := by rw [hg13]; exact (hE.here.1.2).lt
      have hl13_4 : w.heap.size + 1 + 1 < g13 := by rw [hg13]; exact (hE.here.2).lt
      replace hE := hE.blk 24 #[.bool false, .slice none 0 0] (g := g13) hg13.symm
      generalize wd.alloc (.cells #[.bool false, .slice none 0 0] 24) = W13 at hE ⊢
      rw [← hg13]
      clear hg13
      refine hK.out _ _ (hE.here.1.1.1.2.j4 hE.here.1.1.2.c4) (fun hHeld => ?_)
      clear hK K
      try simp only [PL]
      refine r1 4 (fun K hK => ?_)
      go_simp
      have hc := rproduct_w (c := ca) (d := db) (hE.here.1.1.1.1.1.2).1 (hE.here.1.1.1.1.2).2 (Nat.le_trans ha1 (by decide)) (Nat.le_trans hb2 (by decide))
      refine hc.mono ?_
      clear hc
      rintro e w14 ⟨sx, Ax, nx, cx, rfl, hx, hb⟩
      replace hE := hE.step hb
      clear hb
      replace hE := hE.wv hx
      clear hx
      have lx : nx ≤ 200000 := by rw [(hE.here.2).len]; exact ln_mulZ (m := 100000) (n := 100000) qa1 qb2
      go_wp2_with fail
      refine hK.out _ _ (hE.here.1.1.1.1.2.j4 hE.here.1.1.1.2.c4) (fun hHeld => ?_)
      clear hK K
      try simp only [PL]
      refine r1 9 (fun K hK => ?_)
      go_simp
      have hc := rproduct_w (c := cb) (d := da) (hE.here.1.1.1.1.1.2).1 (hE.here.1.1.1.1.1.1.2).2 (Nat.le_trans hb1 (by decide)) (Nat.le_trans ha2 (by decide))
      refine hc.mono ?_
      clear hc
      rintro e w15 ⟨sy, Ay, ny, cy, rfl, hy, hb⟩
      replace hE := hE.step hb
      clear hb
      replace hE := hE.wv hy
      clear hy
      have ly : ny ≤ 200000 := by rw [(hE.here.2).len]; exact ln_mulZ (m := 100000) (n := 100000) qb1 qa2
      go_wp2_with fail
      refine hK.out _ _ (hE.here.1.1.1.1.1.2.j4 hE.here.1.1.1.1.2.c4) (fun hHeld => ?_)
      clear hK K
      try simp only [PL]
      refine r1 10 (fun K hK => ?_)
      go_simp
      have hc := rsum_w (c := cx) (d := cy) hE.here.1.2 hE.here.2 (Nat.le_trans lx (by decide)) (Nat.le_trans ly (by decide))
      refine hc.mono ?_
      clear hc
      rintro e w16 ⟨sz, Az, nz, cz, rfl, hz, hb⟩
      replace hE := hE.step hb
      clear hb
      replace hE := hE.wv hz
      clear hz
      have lz : nz ≤ 200001 := by rw [(hE.here.2).len]; exact ln_addZ (m := 200000) (by rw [← (hE.here.1.1.2).len]; exact lx) (by rw [← (hE.here.1.2).len]; exact ly)
      go_wp2_with fail
      refine hK.out _ _ (hE.here.1.1.1.1.1.1.2.j4 hE.here.1.1.1.1.1.2.c4) (fun hHeld => ?_)
      clear hK K
      try simp only [PL]
      refine r1 12 (fun K hK => ?_)
      have hgl17 : w.heap.size ≤ g13 := by omega
      obtain ⟨x17_0, x17_1⟩ := (hE.here.1.1.1.2).c2
      obtain ⟨f17_0, f17_1⟩ := hE.here.1.1.1.2.f2
      replace hE := ((((((((((Env.again (bel2 hE.bel hgl17 (.bool sz) (.slice Az nz cz))).fv ((hE.here.1.1.1.1.1.1.1.1.2).sep2 hE.here.1.1.1.2 rfl (.bool sz) (.slice Az nz cz) rfl)).fv ((hE.here.1.1.1.1.1.1.1.2).sep2 hE.here.1.1.1.2 rfl (.bool sz) (.slice Az nz cz) rfl)).blkI ((hE.here.1.1.1.1.1.1.2).far2 (R := g13) (by omega) (.bool sz) (.slice Az nz cz))).blkI ((hE.here.1.1.1.1.1.2).far2 (R := g13) (by omega) (.bool sz) (.slice Az nz cz))).blkI ((hE.here.1.1.1.1.2).far2 (R := g13) (by omega) (.bool sz) (.slice Az nz cz))).blkI ((hE.here.1.1.1.2).s2 (.bool sz) (.slice Az nz cz))).wv ((hE.here.1.1.2).sep2 hE.here.1.1.1.2 rfl (.bool sz) (.slice Az nz cz) rfl)).wv ((hE.here.1.2).sep2 hE.here.1.1.1.2 rfl (.bool sz) (.slice Az nz cz) rfl)).wv ((hE.here.2).sep2 hE.here.1.1.1.2 rfl (.bool sz) (.slice Az nz cz) rfl))
      go_simp
      clear x17_0 x17_1 f17_0 f17_1 hgl17
      generalize ((w16.setCell ⟨g13, 0, none⟩ (.bool sz)).setCell ⟨g13, 1, none⟩ (.slice Az nz cz)) = W17 at hE ⊢
      refine hK.out _ _ (hE.here.1.1.1.1.1.1.2.j4 hE.here.1.1.1.1.1.2.c4) (fun hHeld => ?_)
      clear hK K
      try simp only [PL]
      refine wpAnyH_done (by kernel_rfl) ?_ _
      go_wp2_with fail
      go_meet
      exact ⟨g13, sz, Az, nz, cz, rfl, by omega, ((((((((Env.again hE.bel).fv (hE.here.1.1.1.1.1.1.1.1.2)).fv (hE.here.1.1.1.1.1.1.1.2)).blkI (hE.here.1.1.1.1.1.1.2)).blkI (hE.here.1.1.1.1.1.2)).blkI (hE.here.1.1.1.1.2)).wv (hE.here.2)).blkI (hE.here.1.1.1.2))⟩
  case rest =>
  clear hE
  obtain ⟨G1, sz, Az, nz, cz, rfl, hG1, hE⟩ := hcut
  generalize wc = wk1 at hE ⊢
  have lz : nz ≤ 200001 := by rw [(hE.here.1.2).len]; exact ln_addZ (m := 200000) (ln_mulZ (m := 100000) (n := 100000) qa1 qb2) (ln_mulZ (m := 100000) (n := 100000) qb1 qa2)
  go_upto_region 2 with (fail)
  replace hE := hE.drew
  refine wp_region_held_drew (S := fun w' => w'.cell? ⟨G1, 0, none⟩ = some (.bool sz) ∧ w'.cell? ⟨G1, 1, none⟩ = some (.slice Az nz cz) ∧ w'.cell? ⟨w.heap.size, 0, none⟩ = some (.bool sa) ∧ w'.cell? ⟨w.heap.size, 1, none⟩ = some (.slice Aa na ca) ∧ w'.cell? ⟨w.heap.size, 2, none⟩ = some (.bool ta) ∧ w'.cell? ⟨w.heap.size, 3, none⟩ = some (.slice Ba ma da) ∧ w'.cell? ⟨w.heap.size + 1, 0, none⟩ = some (.bool sb) ∧ w'.cell? ⟨w.heap.size + 1, 1, none⟩ = some (.slice Ab nb cb) ∧ w'.cell? ⟨w.heap.size + 1, 2, none⟩ = some (.bool tb) ∧ w'.cell? ⟨w.heap.size + 1, 3, none⟩ = some (.slice Bb mb db)) (by kernel_rfl) (hE.here.2.j2 (hE.here.1.1.1.1.2.j4 hE.here.1.1.1.2.c4)) (fun hHeld => ?_)
  refine tk 0 ?_
  try simp only [PL]
  refine tk 1 ?_
  try simp only [PL]
  refine tk 2 ?_
  try simp only [PL]
  refine tk 3 ?_
  try simp only [PL]
  refine tk 4 ?_
  try simp only [PL]
  refine r1 5 (fun K hK => ?_)
  go_simp
  have hc := rproduct_w (c := da) (d := db) (hE.here.1.1.1.1.1.1.2).2 (hE.here.1.1.1.1.1.2).2 (Nat.le_trans ha2 (by decide)) (Nat.le_trans hb2 (by decide))
  refine hc.mono ?_
  clear hc
  rintro e w18 ⟨su, Au, nu, cu, rfl, hu, hb⟩
  replace hE := hE.step hb
  clear hb
  replace hE := hE.wv hu
  clear hu
  have lu : nu ≤ 200000 := by rw [(hE.here.2).len]; exact ln_mulZ (m := 100000) (n := 100000) qa2 qb2
  go_wp2_with fail
  refine hK.out _ _ (hE.here.1.2.j2 (hE.here.1.1.1.1.1.2.j4 hE.here.1.1.1.1.2.c4)) (fun hHeld => ?_)
  clear hK K
  try simp only [PL]
  refine r1 6 (fun K hK => ?_)
  go_simp
  have hc := rlowest_v (ca := cz) (cb := cu) hE.here.1.1.2 hE.here.2 (Nat.le_trans lz (by decide)) (Nat.le_trans lu (by decide)) (den_ne a b)
  rw [add_low a b] at hc
  refine hc.mono ?_
  clear hc
  rintro e w19 ⟨sr, Ar, nr, cr, tr, Br, mr, dr, rfl, hf, hb⟩
  replace hE := hE.step hb
  clear hb
  replace hE := hE.fv hf
  clear hf
  go_wp2_with fail
  refine hK.out _ _ (hE.here.1.1.2.j2 (hE.here.1.1.1.1.1.1.2.j4 hE.here.1.1.1.1.1.2.c4)) (fun hHeld => ?_)
  clear hK K
  try simp only [PL]
  refine r1 7 (fun K hK => ?_)
  have hRl : w.heap.size ≤ w.heap.size + 1 + 1 := by omega
  obtain ⟨WW, hWW, hB, hV, hBel⟩ := ret_frac hE hE.here.1.1.1.1.2 hRl hE.here.2 cr dr
  obtain ⟨x0, x1, x2, x3⟩ := (hE.here.1.1.1.1.2).c4
  obtain ⟨fz0, fz1, fz2, fz3⟩ := hE.here.1.1.1.1.2.f4
  have HWW := Lib.hid hWW
  clear hWW
  have q20 := (hE.here.1.1.2).far4 (R := w.heap.size + 1 + 1) (by omega) (.bool sr) (.slice Ar nr cr) (.bool tr) (.slice Br mr dr)
  rw [← HWW.out] at q20
  have q21 := (hE.here.1.1.1.1.1.1.2).far4 (R := w.heap.size + 1 + 1) (by omega) (.bool sr) (.slice Ar nr cr) (.bool tr) (.slice Br mr dr)
  rw [← HWW.out] at q21
  have q22 := (hE.here.1.1.1.1.1.2).far4 (R := w.heap.size + 1 + 1) (by omega) (.bool sr) (.slice Ar nr cr) (.bool tr) (.slice Br mr dr)
  rw [← HWW.out] at q22
  go_simp
  rw [← HWW.out]
  refine hK.out _ _ (q20.j2 (q21.j4 q22.c4)) (fun hHeld => ?_)
  clear hK K
  try simp only [PL]
  refine wpAnyH_done (by kernel_rfl) ?_ _
  go_wp2_with fail
  obtain ⟨y0, y1, y2, y3⟩ := hB.c4
  refine bodyPost_ret (v := .agg #[.bool sr, .slice Ar nr cr, .bool tr, .slice Br mr dr]) (by simp [results, Tryz.results22, go_sem, y0, y1, y2, y3]) rfl ?_
  exact ⟨sr, Ar, nr, cr, tr, Br, mr, dr, rfl, hV, hBel⟩
set_option linter.unusedSimpArgs false in
set_option maxRecDepth 100000 in
set_option maxHeartbeats 4000000 in
theorem rorder1_v {a b : Int} {sp sq : Bool} {Ap Aq : Option Addr} {np cp nq cq : Nat} {w : World} (hp : WV w a sp Ap np) (hq : WV w b sq Aq nq) (la : np ≤ 900000) (lb : nq ≤ 900000) :
    Calls Tryz.prog 109 #[.agg #[.bool sp, .slice Ap np cp], .agg #[.bool sq, .slice Aq nq cq]] w fun e w' => e = .returned (.int .i64 (cmpZ a b)) ∧ Below w.heap.size w w' := by
  have hE := ((((Env.start w).wv hp).wv hq).blk 24 #[.bool sp, .slice Ap np cp] (g := w.heap.size) rfl).blk 24 #[.bool sq, .slice Aq nq cq] (g := w.heap.size + 1) (by simp)
  obtain ⟨W0, hW0⟩ : ∃ W0, W0 = ((w.alloc (.cells #[.bool sp, .slice Ap np cp] 24)).alloc (.cells #[.bool sq, .slice Aq nq cq] 24)) := ⟨_, rfl⟩
  rw [← hW0] at hE
  have HW0 := Lib.hid hW0
  clear hW0
  go_enter Tryz.func109, Tryz.ntmps109
  go_upto_region 1 with (fail)
  rw [← HW0.out]
  go_cut [5] from 6 to 9 (fun p wx => ∃ G1 sz Az nz cz, p = .pointer (some ⟨G1, 0, none⟩) ∧ w.heap.size + 1 < G1 ∧ Env w (fun V => ((((((True ∧ WV V a sp Ap np) ∧ WV V b sq Aq nq) ∧ Blk 24 (w.heap.size) #[.bool sp, .slice Ap np cp] V) ∧ Blk 24 (w.heap.size + 1) #[.bool sq, .slice Aq nq cq] V) ∧ WV V (a + -b) sz Az nz) ∧ Blk 24 (G1) #[.bool sz, .slice Az nz cz] V)) wx)
  case first =>
    replace hE := hE.drew
    refine wp_region_held_drew (S := fun w' => w'.cell? ⟨w.heap.size, 0, none⟩ = some (.bool sp) ∧ w'.cell? ⟨w.heap.size, 1, none⟩ = some (.slice Ap np cp) ∧ w'.cell? ⟨w.heap.size + 1, 0, none⟩ = some (.bool sq) ∧ w'.cell? ⟨w.heap.size + 1, 1, none⟩ = some (.slice Aq nq cq)) (by kernel_rfl) (hE.here.1.2.j2 hE.here.2.c2) (fun hHeld => ?_)
    generalize W0.drew = wd at *
    refine tk 0 ?_
    try simp only [PL]
    refine tk 1 ?_
    try simp only [PL]
    refine wpAnyH_ready (rs := [2, 4]) (by kernel_rfl) (by simp) (AllReadyH.cons rfl (fun K hK => ?_) (AllReadyH.cons rfl (fun K hK => ?_) (AllReadyH.nil)))
    · skip
      go_simp
      refine (rneg_any (c := cq) (hE.here.1.1.2)).mono ?_
      rintro e w1 ⟨sm, rfl, hn, hb⟩
      replace hE := hE.step hb
      clear hb
      replace hE := hE.wv hn
      clear hn
      go_wp2_with fail
      refine hK.out _ _ (hE.here.1.1.2.j2 hE.here.1.2.c2) (fun hHeld => ?_)
      clear hK K
      try simp only [PL]
      refine wpAnyH_ready (rs := [3, 4]) (by kernel_rfl) (by simp) (AllReadyH.cons rfl (fun K hK => ?_) (AllReadyH.cons rfl (fun K hK => ?_) (AllReadyH.nil)))
      · skip
        go_simp
        have hc := rsum_w (c := cp) (d := cq) hE.here.1.1.1.1.2 hE.here.2 (Nat.le_trans la (by decide)) (Nat.le_trans lb (by decide))
        refine hc.mono ?_
        clear hc
        rintro e w2 ⟨sz, Az, nz, cz, rfl, hz, hb⟩
        replace hE := hE.step hb
        clear hb
        replace hE := hE.wv hz
        clear hz
        go_wp2_with fail
        refine hK.out _ _ (hE.here.1.1.1.2.j2 hE.here.1.1.2.c2) (fun hHeld => ?_)
        clear hK K
        try simp only [PL]
        refine r1 4 (fun K hK => ?_)
        go_simp
        obtain ⟨g3, hg3⟩ : ∃ g3, g3 = w2.heap.size := ⟨_, rfl⟩
        have hl3_2 : w.heap.size < g3 := by rw [hg3]; exact (hE.here.1.1.1.2).lt
        have hl3_3 : w.heap.size + 1 < g3 := by rw [hg3]; exact (hE.here.1.1.2).lt
        replace hE := hE.blk 24 #[.bool false, .slice none 0 0] (g := g3) hg3.symm
        generalize w2.alloc (.cells #[.bool false, .slice none 0 0] 24) = W3 at hE ⊢
        rw [← hg3]
        clear hg3
        refine hK.out _ _ (hE.here.1.1.1.1.2.j2 hE.here.1.1.1.2.c2) (fun hHeld => ?_)
        clear hK K
        try simp only [PL]
        refine r1 5 (fun K hK => ?_)
        have hgl4 : w.heap.size ≤ g3 := by omega
        obtain ⟨x4_0, x4_1⟩ := (hE.here.2).c2
        obtain ⟨f4_0, f4_1⟩ := hE.here.2.f2
        replace hE := ((((((((Env.again (bel2 hE.bel hgl4 (.bool sz) (.slice Az nz cz))).wv ((hE.here.1.1.1.1.1.1.2).sep2 hE.here.2 rfl (.bool sz) (.slice Az nz cz) rfl)).wv ((hE.here.1.1.1.1.1.2).sep2 hE.here.2 rfl (.bool sz) (.slice Az nz cz) rfl)).blkI ((hE.here.1.1.1.1.2).far2 (R := g3) (by omega) (.bool sz) (.slice Az nz cz))).blkI ((hE.here.1.1.1.2).far2 (R := g3) (by omega) (.bool sz) (.slice Az nz cz))).wv ((hE.here.1.1.2).sep2 hE.here.2 rfl (.bool sz) (.slice Az nz cz) rfl)).wv ((hE.here.1.2).sep2 hE.here.2 rfl (.bool sz) (.slice Az nz cz) rfl)).blkI ((hE.here.2).s2 (.bool sz) (.slice Az nz cz)))
        go_simp
        clear x4_0 x4_1 f4_0 f4_1 hgl4
        generalize ((W3.setCell ⟨g3, 0, none⟩ (.bool sz)).setCell ⟨g3, 1, none⟩ (.slice Az nz cz)) = W4 at hE ⊢
        refine hK.out _ _ (hE.here.1.1.1.1.2.j2 hE.here.1.1.1.2.c2) (fun hHeld => ?_)
        clear hK K
        try simp only [PL]
        refine wpAnyH_done (by kernel_rfl) ?_ _
        go_wp2_with fail
        go_meet
        exact ⟨g3, sz, Az, nz, cz, rfl, by omega, (((((((Env.again hE.bel).wv (hE.here.1.1.1.1.1.1.2)).wv (hE.here.1.1.1.1.1.2)).blkI (hE.here.1.1.1.1.2)).blkI (hE.here.1.1.1.2)).wv (hE.here.1.2)).blkI (hE.here.2))⟩
      · skip
        go_simp
        obtain ⟨g5, hg5⟩ : ∃ g5, g5 = w1.heap.size := ⟨_, rfl⟩
        have hl5_2 : w.heap.size < g5 := by rw [hg5]; exact (hE.here.1.1.2).lt
        have hl5_3 : w.heap.size + 1 < g5 := by rw [hg5]; exact (hE.here.1.2).lt
        replace hE := hE.blk 24 #[.bool false, .slice none 0 0] (g := g5) hg5.symm
        generalize w1.alloc (.cells #[.bool false, .slice none 0 0] 24) = W5 at hE ⊢
        rw [← hg5]
        clear hg5
        refine hK.out _ _ (hE.here.1.1.1.2.j2 hE.here.1.1.2.c2) (fun hHeld => ?_)
        clear hK K
        try simp only [PL]
        refine r1 3 (fun K hK => ?_)
        go_simp
        have hc := rsum_w (c := cp) (d := cq) hE.here.1.1.1.1.1.2 hE.here.1.2 (Nat.le_trans la (by decide)) (Nat.le_trans lb (by decide))
        refine hc.mono ?_
        clear hc
        rintro e w6 ⟨sz, Az, nz, cz, rfl, hz, hb⟩
        replace hE := hE.step hb
        clear hb
        replace hE := hE.wv hz
        clear hz
        go_wp2_with fail
        refine hK.out _ _ (hE.here.1.1.1.1.2.j2 hE.here.1.1.1.2.c2) (fun hHeld => ?_)
        clear hK K
        try simp only [PL]
        refine r1 5 (fun K hK => ?_)
        have hgl7 : w.heap.size ≤ g5 := by omega
        obtain ⟨x7_0, x7_1⟩ := (hE.here.1.2).c2
        obtain ⟨f7_0, f7_1⟩ := hE.here.1.2.f2
        replace hE := ((((((((Env.again (bel2 hE.bel hgl7 (.bool sz) (.slice Az nz cz))).wv ((hE.here.1.1.1.1.1.1.2).sep2 hE.here.1.2 rfl (.bool sz) (.slice Az nz cz) rfl)).wv ((hE.here.1.1.1.1.1.2).sep2 hE.here.1.2 rfl (.bool sz) (.slice Az nz cz) rfl)).blkI ((hE.here.1.1.1.1.2).far2 (R := g5) (by omega) (.bool sz) (.slice Az nz cz))).blkI ((hE.here.1.1.1.2).far2 (R := g5) (by omega) (.bool sz) (.slice Az nz cz))).wv ((hE.here.1.1.2).sep2 hE.here.1.2 rfl (.bool sz) (.slice Az nz cz) rfl)).blkI ((hE.here.1.2).s2 (.bool sz) (.slice Az nz cz))).wv ((hE.here.2).sep2 hE.here.1.2 rfl (.bool sz) (.slice Az nz cz) rfl))
        go_simp
        clear x7_0 x7_1 f7_0 f7_1 hgl7
        generalize ((w6.setCell ⟨g5, 0, none⟩ (.bool sz)).setCell ⟨g5, 1, none⟩ (.slice Az nz cz)) = W7 at hE ⊢
        refine hK.out _ _ (hE.here.1.1.1.1.2.j2 hE.here.1.1.1.2.c2) (fun hHeld => ?_)
        clear hK K
        try simp only [PL]
        refine wpAnyH_done (by kernel_rfl) ?_ _
        go_wp2_with fail
        go_meet
        exact ⟨g5, sz, Az, nz, cz, rfl, by omega, (((((((Env.again hE.bel).wv (hE.here.1.1.1.1.1.1.2)).wv (hE.here.1.1.1.1.1.2)).blkI (hE.here.1.1.1.1.2)).blkI (hE.here.1.1.1.2)).wv (hE.here.2)).blkI (hE.here.1.2))⟩
    · skip
      go_simp
      obtain ⟨g8, hg8⟩ : ∃ g8, g8 = wd.heap.size := ⟨_, rfl⟩
      have hl8_2 : w.heap.size < g8 := by rw [hg8]; exact (hE.here.1.2).lt
      have hl8_3 : w.heap.size + 1 < g8 := by rw [hg8]; exact (hE.here.2).lt
      replace hE := hE.blk 24 #[.bool false, .slice none 0 0] (g := g8) hg8.symm
      generalize wd.alloc (.cells #[.bool false, .slice none 0 0] 24) = W8 at hE ⊢
      rw [← hg8]
      clear hg8
      refine hK.out _ _ (hE.here.1.1.2.j2 hE.here.1.2.c2) (fun hHeld => ?_)
      clear hK K
      try simp only [PL]
      refine r1 2 (fun K hK => ?_)
      go_simp
      refine (rneg_any (c := cq) (hE.here.1.1.1.2)).mono ?_
      rintro e w9 ⟨sm, rfl, hn, hb⟩
      replace hE := hE.step hb
      clear hb
      replace hE := hE.wv hn
      clear hn
      go_wp2_with fail
      refine hK.out _ _ (hE.here.1.1.1.2.j2 hE.here.1.1.2.c2) (fun hHeld => ?_)
      clear hK K
      try simp only [PL]
      refine r1 3 (fun K hK => ?_)
      go_simp
      have hc := rsum_w (c := cp) (d := cq) hE.here.1.1.1.1.1.2 hE.here.2 (Nat.le_trans la (by decide)) (Nat.le_trans lb (by decide))
      refine hc.mono ?_
      clear hc
      rintro e w10 ⟨sz, Az, nz, cz, rfl, hz, hb⟩
      replace hE := hE.step hb
      clear hb
      replace hE := hE.wv hz
      clear hz
      go_wp2_with fail
      refine hK.out _ _ (hE.here.1.1.1.1.2.j2 hE.here.1.1.1.2.c2) (fun hHeld => ?_)
      clear hK K
      try simp only [PL]
      refine r1 5 (fun K hK => ?_)
      have hgl11 : w.heap.size ≤ g8 := by omega
      obtain ⟨x11_0, x11_1⟩ := (hE.here.1.1.2).c2
      obtain ⟨f11_0, f11_1⟩ := hE.here.1.1.2.f2
      replace hE := ((((((((Env.again (bel2 hE.bel hgl11 (.bool sz) (.slice Az nz cz))).wv ((hE.here.1.1.1.1.1.1.2).sep2 hE.here.1.1.2 rfl (.bool sz) (.slice Az nz cz) rfl)).wv ((hE.here.1.1.1.1.1.2).sep2 hE.here.1.1.2 rfl (.bool sz) (.slice Az nz cz) rfl)).blkI ((hE.here.1.1.1.1.2).far2 (R := g8) (by omega) (.bool sz) (.slice Az nz cz))).blkI ((hE.here.1.1.1.2).far2 (R := g8) (by omega) (.bool sz) (.slice Az nz cz))).blkI ((hE.here.1.1.2).s2 (.bool sz) (.slice Az nz cz))).wv ((hE.here.1.2).sep2 hE.here.1.1.2 rfl (.bool sz) (.slice Az nz cz) rfl)).wv ((hE.here.2).sep2 hE.here.1.1.2 rfl (.bool sz) (.slice Az nz cz) rfl))
      go_simp
      clear x11_0 x11_1 f11_0 f11_1 hgl11
      generalize ((w10.setCell ⟨g8, 0, none⟩ (.bool sz)).setCell ⟨g8, 1, none⟩ (.slice Az nz cz)) = W11 at hE ⊢
      refine hK.out _ _ (hE.here.1.1.1.1.2.j2 hE.here.1.1.1.2.c2) (fun hHeld => ?_)
      clear hK K
      try simp only [PL]
      refine wpAnyH_done (by kernel_rfl) ?_ _
      go_wp2_with fail
      go_meet
      exact ⟨g8, sz, Az, nz, cz, rfl, by omega, (((((((Env.again hE.bel).wv (hE.here.1.1.1.1.1.1.2)).wv (hE.here.1.1.1.1.1.2)).blkI (hE.here.1.1.1.1.2)).blkI (hE.here.1.1.1.2)).wv (hE.here.2)).blkI (hE.here.1.1.2))⟩
  case rest =>
  clear hE
  obtain ⟨G1, sz, Az, nz, cz, rfl, hG1, hE⟩ := hcut
  generalize wc = wk1 at hE ⊢
  have hs := (hE.here.1.2).sgn
  have hl := (hE.here.1.2).len
  by_cases h1 : a < b
  · have hcmp : cmpZ a b = -1 := by unfold cmpZ; rw [if_pos h1]
    rw [decide_eq_true (show a + -b < 0 by omega)] at hs
    subst hs
    clear hl
    obtain ⟨k12, k13⟩ := (hE.here.2).c2
    go_wp2_with fail
    go_ret
    exact ⟨(by first | rfl | (rw [hcmp]; rfl) | rw [hcmp]), hE.bel⟩
  · by_cases h2 : b < a
    · have hcmp : cmpZ a b = 1 := by unfold cmpZ; rw [if_neg h1, if_pos h2]
      rw [decide_eq_false (show ¬ a + -b < 0 by omega)] at hs
      subst hs
      have hz0 : 0 < nz := by rw [hl]; exact (ln_pos b16_two).2 (by omega)
      have u1 : decide (0 < nz) = true := decide_eq_true hz0
      have u2 : decide (0 < (nz : Int)) = true := decide_eq_true (by omega)
      clear hl
      obtain ⟨k14, k15⟩ := (hE.here.2).c2
      go_wp2_with fail
      go_ret
      exact ⟨(by first | rfl | (rw [hcmp]; rfl) | rw [hcmp]), hE.bel⟩
    · have hcmp : cmpZ a b = 0 := by unfold cmpZ; rw [if_neg h1, if_neg h2]
      have h0 : (a + -b).natAbs = 0 := by omega
      rw [decide_eq_false (show ¬ a + -b < 0 by omega)] at hs
      subst hs
      have hz0 : nz = 0 := by rw [hl, h0]; exact ln_zero
      subst hz0
      clear hl
      obtain ⟨k16, k17⟩ := (hE.here.2).c2
      go_wp2_with fail
      go_ret
      exact ⟨(by first | rfl | (rw [hcmp]; rfl) | rw [hcmp]), hE.bel⟩
end Go.Proofs.YtifikcemcflgjaaGreat
